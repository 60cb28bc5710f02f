/- Functions of the program, as partial functions in Lean, with proofs. -/
import Derived.Test.YtenjiecnhncfiaaGreatDoorPlBeB
import Derived.Test.YtenjiecnhncfiaaGreatDoorPlBeF1
import Derived.Test.YtenjiecnhncfiaaGreatDoorPlBeF11
import Derived.Test.YtenjiecnhncfiaaGreatDoorPlBeF2
import Derived.Test.YtenjiecnhncfiaaGreatDoorPlBeF4
namespace Go.PL
open Go Go.RowKit Go.Proofs
set_option maxRecDepth 100000
set_option linter.all false
set_option maxHeartbeats 4000000
attribute [local irreducible] Ag Cv Co
def PB:Option (Int):=
 some (0:Int)
def Oj (ae9:Int):Option ((Int)⊕(Unit⊕Int)):=
 some (.inl (Ad (ae9+1)))
def C6 (a0:AH) (e15:List (Int)) (aia:Int):Option ((Int)⊕(Unit⊕Int)):=
 (if(decide (aia<(e15.length:Int))) then
  (idx e15 aia).bind fun e21=>
  (some (if decide (e21<0) then true else decide ((a0.aak.length:Int)<=e21))).bind fun b22=>
  (gd (b22==false) (idx a0.aak e21)).bind fun e23=>
  (some (if b22 then true else e23.Token)).bind fun b24=>
  (if b24 then
   some (.inr (.inr (2:Int)))
  else
   some (.inl (Ad (aia+1))))
 else
  some (.inr (.inl ())))
def C7 (a0:AH) (ae9:Int):Option ((Int)⊕(Unit⊕Int)):=
 (if(decide (ae9<(a0.l_.length:Int))) then
  jn (fun(v:Unit)=>Oj ae9) (fun adm=>
  (idx a0.l_ ae9).bind fun e15=>
  (iter (fun(v:Int)=>C6 a0 e15 v) FU (0:Int)).bind (Sum.elim (fun o0=>adm ()) (fun o1=>some (.inr (.inr o1)))))
 else
  some (.inr (.inl ())))
def PD (a0:AH):Option (Int):=
 jn (fun(v:Unit)=>PB) (fun jJ8=>
 (iter (fun(v:Int)=>C7 a0 v) FU (0:Int)).bind (Sum.elim (fun o0=>jJ8 ()) (fun o1=>some o1)))
def C8 (a0:AH) (aib:Int):Option ((Int)⊕(Unit⊕Int)):=
 (if(decide (aib<(a0.l_.length:Int))) then
  (idx a0.l_ aib).bind fun e31=>
  (if(decide (250<(e31.length:Int))) then
   some (.inr (.inr (5:Int)))
  else
   some (.inl (Ad (aib+1))))
 else
  some (.inr (.inl ())))
def Ln (a0:AH):Option (Int):=
 (Fw a0.aak).bind fun r1=>
 (if r1.2 != 0 then
  some r1.2
 else
  (some (if(decide ((a0.l_.length:Int)<2)) then true else decide (4<(a0.l_.length:Int)))).bind fun b3=>
  (some (if b3 then true else decide (a0.aaO<0))).bind fun b4=>
  (some (if b4 then true else decide ((a0.l_.length:Int)<=a0.aaO))).bind fun b5=>
  (if b5 then
   some (1:Int)
  else
   jn (fun(v:Unit)=>PD a0) (fun jJ7=>
   (iter (fun(v:Int)=>C8 a0 v) FU (0:Int)).bind (Sum.elim (fun o0=>jJ7 ()) (fun o1=>some o1)))))
def eH:CE TE Tryz.prog I0:=AA [XZ] Aa Ac 9 14 Tryz.f14 (Tryz.f14.body.getD .skip) (.s .n (.s .n (.s .n (.j ⟨[1],[],[[1]],[]⟩ (.s .n (.l ⟨[1,44,45],[(46, .c (.v (.k (.int .i64))))],[[1]],[]⟩ [(1,⟨[1],[],[[1]],[]⟩),(0,⟨[],[(2, .c (.v (.k (.int .i64))))],[],[]⟩)] .n)) (.j ⟨[],[],[],[]⟩ (.s .n (.l ⟨[1,55,56],[(57, .c (.v (.k (.int .i64))))],[[1]],[]⟩ [(3,⟨[],[],[],[]⟩),(0,⟨[],[(2, .c (.v (.k (.int .i64))))],[],[]⟩)] (.s .n (.s .n (.j ⟨[1,55,56,57],[],[[1]],[]⟩ (.s .n (.s .n (.l ⟨[1,55,56,57,61,62],[(63, .c (.v (.k (.int .i64))))],[[1]],[]⟩ [(5,⟨[1,55,56,57],[],[[1]],[]⟩),(0,⟨[],[(2, .c (.v (.k (.int .i64))))],[],[]⟩)] .n))) .n))))) .n))))) [.s 26] [.k (.int .i64)] (fun x=>Ln x.1) Tryz.func14 rfl (by kernel_rfl)
def NO (a0:AO) (aml:Int):Option (Bool):=
 (bO a0).bind fun r22=>
 (if r22 then
  (some (if !a0.Token then a0.Keys==0 else false)).bind fun b24=>
  (some (if b24 then(a0.g_.length:Int)==1 else false)).bind fun b25=>
  (some (if b25 then aml==1 else false)).bind fun b26=>
  some b26
 else
  (some (if !a0.Token then(Fk .i64 a0.aci.Types (32:Int))==(0:Int)else false)).bind fun b27=>
  (some (if b27 then true else a0.ae3==(⟨0,0,(⟨0,0,0,0,0⟩:A5 (Int))⟩:AB))).bind fun b28=>
  (some (if aml==0 then b28 else false)).bind fun b29=>
  some b29)
def cJ (afM:Int) (ap1:Int):Option ((Int×Int)⊕(Int⊕Bool)):=
 some (.inl (ap1,(Ad (afM+1))))
def HL (a0:AO) (ajI:Int) (afM:Int):Option ((Int×Int)⊕(Int⊕Bool)):=
 (if(decide (afM<(a0.g_.length:Int))) then
  jn (fun(v:Int)=>cJ afM v) (fun amO=>
  (idx a0.g_ afM).bind fun e40=>
  (LJ e40).bind fun r41=>
  (if !r41 then
   some (.inr (.inr false))
  else
   (idx a0.g_ afM).bind fun e43=>
   (if e43.Kind==2 then
    amO (Ad (ajI+1))
   else
    amO ajI)))
 else
  some (.inr (.inl ajI)))
def V2 (a0:AO):Option (Bool):=
 (VO a0.Name).bind fun r1=>
 (gd ((!r1)==false) (VI a0.ae3)).bind fun r2=>
 (some (if !r1 then true else !r2)).bind fun b3=>
 (gd (b3==false) (cA a0.aci)).bind fun r4=>
 (some (if b3 then true else !r4)).bind fun b5=>
 (gd (b5==false) (Pf a0.Keys)).bind fun r6=>
 (some (if b5 then true else !r6)).bind fun b7=>
 (some (if b7 then true else decide (a0.Color<0))).bind fun b8=>
 (some (if b8 then true else decide (31<a0.Color))).bind fun b9=>
 (if b9 then
  some false
 else
  (some (if decide (a0.Power<0) then true else decide (99<a0.Power))).bind fun b11=>
  (some (if b11 then true else decide (a0.v_<0))).bind fun b12=>
  (some (if b12 then true else decide (99<a0.v_))).bind fun b13=>
  (gd (b13==false) (Jg a0)).bind fun r14=>
  (some (if a0.Power != 0 then true else a0.v_ != 0)).bind fun b15=>
  (some (if !r14 then b15 else false)).bind fun b16=>
  (some (if b13 then true else b16)).bind fun b17=>
  (some (if b17 then true else decide (8<(a0.g_.length:Int)))).bind fun b18=>
  (if b18 then
   some false
  else
   jn (fun(v:Int)=>NO a0 v) (fun ago=>
   (iter (fun(v:Int×Int)=>HL a0 v.1 v.2) FU ((0:Int),(0:Int))).bind (Sum.elim (fun o0=>ago o0) (fun o1=>some o1)))))
def yo:CE TE Tryz.prog I0:=AA [bW,bB,yh,nc,bC,yn,qU] Aa Ac 9 24 Tryz.f24 (Tryz.f24.body.getD .skip) (.s .n (.s .n (.s .n (.s .n (.j ⟨[1],[(3, .c (.v (.k (.int .i64))))],[[1]],[]⟩ (.s .n (.l ⟨[1],[(3, .c (.v (.k (.int .i64)))),(4, .c (.v (.k (.int .i64))))],[[1]],[]⟩ [(1,⟨[1],[(3, .c (.v (.k (.int .i64))))],[[1]],[]⟩),(0,⟨[],[(2, .c (.v (.k (.bool))))],[],[]⟩)] (.s .n (.j ⟨[1,4],[(3, .c (.v (.k (.int .i64))))],[[1]],[]⟩ .n .n)))) .n))))) [.s 51] [.k (.bool)] (fun x=>V2 x.1) Tryz.func24 rfl (by kernel_rfl)
end Go.PL
