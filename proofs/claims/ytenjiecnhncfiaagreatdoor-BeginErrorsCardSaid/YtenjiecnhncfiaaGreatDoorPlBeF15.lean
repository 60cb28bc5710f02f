/- Functions of the program, as partial functions in Lean, with proofs. -/
import Derived.Test.YtenjiecnhncfiaaGreatDoorPlBeB
import Derived.Test.YtenjiecnhncfiaaGreatDoorPlBeF0
import Derived.Test.YtenjiecnhncfiaaGreatDoorPlBeF13
import Derived.Test.YtenjiecnhncfiaaGreatDoorPlBeF14
namespace Go.PL
open Go Go.RowKit Go.Proofs
set_option maxRecDepth 100000
set_option linter.all false
set_option maxHeartbeats 4000000
attribute [local irreducible] Ag Cv Co
def IC (a0:AH) (aln:Int):Option (Bool):=
 (HM a0).bind fun r10=>
 (IB).bind fun r11=>
 (some (if r11 then r10.2==aln else false)).bind fun b12=>
 some b12
def ID (a0:AH) (r4:Int×Int) (alw:Bool) (ajH:Bool):Option (Bool):=
 jn (fun(v:Int)=>IC a0 v) (fun jJ9=>
 (if r4.2 != 0 then
  jJ9 r4.2
 else
  (some (if(decide ((a0.l_.length:Int)<2)) then true else decide (4<(a0.l_.length:Int)))).bind fun b14=>
  (some (if b14 then true else decide (a0.aaO<0))).bind fun b15=>
  (some (if b15 then true else decide ((a0.l_.length:Int)<=a0.aaO))).bind fun b16=>
  (if b16 then
   jJ9 (1:Int)
  else
   (if alw then
    jJ9 (5:Int)
   else
    (if ajH then
     jJ9 (2:Int)
    else
     jJ9 r4.2)))))
def G8 (ae_:Int) (aj4:Bool) (aiR:Bool):Option ((Bool×Bool×Int)⊕((Bool×Bool))):=
 some (.inl (aj4,aiR,(Ad (ae_+1))))
def BM (a0:AH) (e33:List (Int)) (af4:Bool) (aic:Int):Option ((Bool×Int)⊕(Bool)):=
 (if(decide (aic<(e33.length:Int))) then
  (idx e33 aic).bind fun e42=>
  (some (if af4 then true else decide (e42<0))).bind fun b43=>
  (some (if b43 then true else decide ((a0.aak.length:Int)<=e42))).bind fun b44=>
  (gd (b44==false) (idx a0.aak e42)).bind fun e45=>
  (some (if b44 then true else e45.Token)).bind fun b46=>
  some (.inl (b46,(Ad (aic+1))))
 else
  some (.inr af4))
def BN (a0:AH) (agT:Bool) (af5:Bool) (ae_:Int):Option ((Bool×Bool×Int)⊕((Bool×Bool))):=
 (if(decide (ae_<(a0.l_.length:Int))) then
  jn (fun(v:Bool×Bool)=>G8 ae_ v.1 v.2) (fun aot=>
  (idx a0.l_ ae_).bind fun e33=>
  (some (if agT then true else decide (250<(e33.length:Int)))).bind fun b34=>
  (iter (fun(v:Bool×Int)=>BM a0 e33 v.1 v.2) FU (af5,(0:Int))).bind (fun o0=>aot (b34,o0)))
 else
  some (.inr (agT,af5)))
def Ea (a0:AH):Option (Bool):=
 (P9 a0).bind fun r1=>
 (if !r1 then
  (IB).bind fun r3=>
  some r3
 else
  (MD a0.aak).bind fun r4=>
  jn (fun(v:Bool×Bool)=>ID a0 r4 v.1 v.2) (fun jJ7=>
  (iter (fun(v:Bool×Bool×Int)=>BN a0 v.1 v.2.1 v.2.2) FU (false,false,(0:Int))).bind (fun o0=>jJ7 (o0.1,o0.2))))
def Qt:CE TE Tryz.prog I0:=AA [mV,eK,nP,Xp] Aa Ac 9 4 Tryz.f4 (Tryz.f4.body.getD .skip) (.s .n (.s .n (.s .n (.s .n (.j ⟨[1,4],[(5, .c (.v (.k (.bool)))),(6, .c (.v (.k (.bool))))],[[1]],[]⟩ (.s .n (.l ⟨[1,4,24,25],[(5, .c (.v (.k (.bool)))),(6, .c (.v (.k (.bool)))),(26, .c (.v (.k (.int .i64))))],[[1]],[]⟩ [(1,⟨[1,4],[(5, .c (.v (.k (.bool)))),(6, .c (.v (.k (.bool))))],[[1]],[]⟩)] (.s .n (.s .n (.j ⟨[1,4,24,25,26],[(5, .c (.v (.k (.bool)))),(6, .c (.v (.k (.bool))))],[[1]],[]⟩ (.s .n (.s .n (.s .n (.l ⟨[1,4,5,24,25,26,36,37],[(6, .c (.v (.k (.bool)))),(38, .c (.v (.k (.int .i64))))],[[1]],[]⟩ [(3,⟨[1,4,5,24,25,26],[(6, .c (.v (.k (.bool))))],[[1]],[]⟩)] .n)))) .n))))) (.j ⟨[1],[(4, .c (.v (.k (.int .i64))))],[[1]],[]⟩ .n .n)))))) [.s 26] [.k (.bool)] (fun x=>Ea x.1) Tryz.func4 rfl (by kernel_rfl)
def Qu (a0:AH) (r:Bool):Prop:=Ce Tryz.prog I0 4 [vA Nd a0] (· =vB r)
theorem PE {a0:AH} {r:Bool} (h:Ea a0=some r):Qu a0 r:=Mc (by kernel_rfl) (Qt.ok (a0,()) r h)
end Go.PL
