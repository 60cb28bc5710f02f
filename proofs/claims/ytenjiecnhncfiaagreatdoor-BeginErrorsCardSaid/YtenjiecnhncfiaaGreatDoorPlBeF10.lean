/- Functions of the program, as partial functions in Lean, with proofs. -/
import Derived.Test.YtenjiecnhncfiaaGreatDoorPlBeB
import Derived.Test.YtenjiecnhncfiaaGreatDoorPlBeF0
import Derived.Test.YtenjiecnhncfiaaGreatDoorPlBeF3
import Derived.Test.YtenjiecnhncfiaaGreatDoorPlBeF9
namespace Go.PL
open Go Go.RowKit Go.Proofs
set_option maxRecDepth 100000
set_option linter.all false
set_option maxHeartbeats 4000000
attribute [local irreducible] Ag Cv Co
def Ll (a0:AO) (adj:Int):Option (Bool):=
 (RD a0).bind fun r21=>
 (if r21 then
  (some (if !a0.Token then a0.Keys==0 else false)).bind fun b23=>
  (some (if b23 then(a0.g_.length:Int)==1 else false)).bind fun b24=>
  (some (if b24 then adj==1 else false)).bind fun b25=>
  some b25
 else
  (gd ((adj==0)==true) (Lz a0)).bind fun r26=>
  (some (if !r26 then true else a0.ae3==(⟨0,0,(⟨0,0,0,0,0⟩:A5 (Int))⟩:AB))).bind fun b27=>
  (some (if adj==0 then b27 else false)).bind fun b28=>
  some b28)
def Xo (ae8:Int) (ail:Int):Option ((Int×Int)⊕(Int⊕Bool)):=
 some (.inl (ail,(Ad (ae8+1))))
def Gn (a0:AO) (adi:Int) (ae8:Int):Option ((Int×Int)⊕(Int⊕Bool)):=
 (if(decide (ae8<(a0.g_.length:Int))) then
  jn (fun(v:Int)=>Xo ae8 v) (fun as2=>
  (idx a0.g_ ae8).bind fun e39=>
  (CW e39).bind fun r40=>
  (if !r40 then
   some (.inr (.inr false))
  else
   (if e39.Kind==2 then
    as2 (Ad (adi+1))
   else
    as2 adi)))
 else
  some (.inr (.inl adi)))
def Uo (a0:AO):Option (Bool):=
 (Qa a0.Name).bind fun r1=>
 (gd ((!r1)==false) (Qb a0.ae3)).bind fun r2=>
 (some (if !r1 then true else !r2)).bind fun b3=>
 (gd (b3==false) (T1 a0.aci)).bind fun r4=>
 (some (if b3 then true else !r4)).bind fun b5=>
 (gd (b5==false) (FN a0.Keys)).bind fun r6=>
 (some (if b5 then true else !r6)).bind fun b7=>
 (gd (b7==false) (Is a0.Color)).bind fun r8=>
 (some (if b7 then true else !r8)).bind fun b9=>
 (if b9 then
  some false
 else
  (some (if decide (a0.Power<0) then true else decide (99<a0.Power))).bind fun b11=>
  (some (if b11 then true else decide (a0.v_<0))).bind fun b12=>
  (some (if b12 then true else decide (99<a0.v_))).bind fun b13=>
  (some (if a0.Power != 0 then true else a0.v_ != 0)).bind fun b14=>
  (some (if((Fk .i64 a0.aci.Types (1:Int))==(0:Int)) then b14 else false)).bind fun b15=>
  (some (if b13 then true else b15)).bind fun b16=>
  (if b16 then
   some false
  else
   (if(decide (8<(a0.g_.length:Int))) then
    some false
   else
    jn (fun(v:Int)=>Ll a0 v) (fun akh=>
    (iter (fun(v:Int×Int)=>Gn a0 v.1 v.2) FU ((0:Int),(0:Int))).bind (Sum.elim (fun o0=>akh o0) (fun o1=>some o1))))))
def u5:CE TE Tryz.prog I0:=AA [Vx,Vy,u0,TA,bm,kz,jR,XB] Aa Ac 9 69 Tryz.f69 (Tryz.f69.body.getD .skip) (.s .n (.s .n (.s .n (.s .n (.s .n (.j ⟨[1],[(3, .c (.v (.k (.int .i64))))],[[1]],[]⟩ (.s .n (.l ⟨[1,74,75],[(3, .c (.v (.k (.int .i64)))),(76, .c (.v (.k (.int .i64))))],[[1]],[]⟩ [(1,⟨[1],[(3, .c (.v (.k (.int .i64))))],[[1]],[]⟩),(0,⟨[],[(2, .c (.v (.k (.bool))))],[],[]⟩)] (.s .n (.s .n (.j ⟨[1,74,75,76],[(3, .c (.v (.k (.int .i64))))],[[1]],[]⟩ .n .n))))) .n)))))) [.s 51] [.k (.bool)] (fun x=>Uo x.1) Tryz.func69 rfl (by kernel_rfl)
def PA (a0:List (Av)):Option (Bool):=
 (some (if(decide (1<=(a0.length:Int))) then decide ((a0.length:Int)<=8)else false)).bind fun b2=>
 some b2
def DD (a0:List (Av)) (a1:Int) (akj:Int):Option ((Int)⊕(Unit⊕Bool)):=
 (if(decide (akj<(a0.length:Int))) then
  (idx a0 akj).bind fun e8=>
  (RW e8 a1).bind fun r9=>
  (if !r9 then
   some (.inr (.inr false))
  else
   some (.inl (Ad (akj+1))))
 else
  some (.inr (.inl ())))
def Lm (a0:List (Av)) (a1:Int):Option (Bool):=
 jn (fun(v:Unit)=>PA a0) (fun jJ1=>
 (iter (fun(v:Int)=>DD a0 a1 v) FU (0:Int)).bind (Sum.elim (fun o0=>jJ1 ()) (fun o1=>some o1)))
def eG:CE TE Tryz.prog I0:=AA [ym] Aa Ac 9 85 Tryz.f85 (Tryz.f85.body.getD .skip) (.s .n (.j ⟨[0],[],[],[]⟩ (.s .n (.l ⟨[0,1],[(5, .c (.v (.k (.int .i64))))],[],[]⟩ [(1,⟨[0],[],[],[]⟩),(0,⟨[],[(4, .c (.v (.k (.bool))))],[],[]⟩)] .n)) .n)) [.k (.u_ 126), .k (.int .i64)] [.k (.bool)] (fun x=>Lm x.1 x.2.1) Tryz.func85 rfl (by kernel_rfl)
end Go.PL
