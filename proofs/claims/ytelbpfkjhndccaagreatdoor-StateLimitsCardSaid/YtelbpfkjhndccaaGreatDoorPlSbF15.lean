/- Functions of the program, as partial functions in Lean, with proofs. -/
import Derived.Test.YtelbpfkjhndccaaGreatDoorPlSbB
import Derived.Test.YtelbpfkjhndccaaGreatDoorPlSbF0
import Derived.Test.YtelbpfkjhndccaaGreatDoorPlSbF10
import Derived.Test.YtelbpfkjhndccaaGreatDoorPlSbF11
import Derived.Test.YtelbpfkjhndccaaGreatDoorPlSbF12
import Derived.Test.YtelbpfkjhndccaaGreatDoorPlSbF14
import Derived.Test.YtelbpfkjhndccaaGreatDoorPlSbF2
import Derived.Test.YtelbpfkjhndccaaGreatDoorPlSbF5
import Derived.Test.YtelbpfkjhndccaaGreatDoorPlSbF6
import Derived.Test.YtelbpfkjhndccaaGreatDoorPlSbF8
namespace Go.PL
open Go Go.RowKit Go.Proofs
set_option maxRecDepth 100000
set_option linter.all false
set_option maxHeartbeats 4000000
attribute [local irreducible] Ai B4 BL
def EI (a0:AN):Option (Bool):=
 (gd ((a0.Kind != 3)==false) (D3 a0.Price)).bind fun r13=>
 (some (if(a0.Kind != 3)=true then true else r13 != ([]:List UInt8))).bind fun b14=>
 (gd ((b14==true)&&((a0.Kind != 4)==false)) (DJ a0.Trigger)).bind fun r15=>
 (some (if(a0.Kind != 4)=true then true else r15)).bind fun b16=>
 (some (if b14=true then b16 else false)).bind fun b17=>
 some b17
def DZ (a0:AN) (vt114_19:Int):Option ((Int)⊕(Unit⊕Unit)):=
 (if(decide (vt114_19<(a0.Effects.length:Int)))=true then
  (idx a0.Effects vt114_19).bind fun e22=>
  (HK e22 (a0.Specs.length:Int)).bind fun r23=>
  (if(!r23)=true then
   some (.inr (.inr ()))
  else
   some (.inl (Ab (vt114_19+1))))
 else
  some (.inr (.inl ())))
def FH (a0:AN):Option (Bool):=
 (iter (fun(v:Int)=>DZ a0 v) FU (0:Int)).bind (Sum.elim (fun o0=>EI a0) (fun o1=>some false))
def D0 (a0:AN) (vt103_26:Int):Option ((Int)⊕(Unit⊕Unit)):=
 (if(decide (vt103_26<(a0.Specs.length:Int)))=true then
  (idx a0.Specs vt103_26).bind fun e29=>
  (FG e29).bind fun r30=>
  (if(r30==([]:List UInt8))=true then
   some (.inr (.inr ()))
  else
   some (.inl (Ab (vt103_26+1))))
 else
  some (.inr (.inl ())))
def Ep (a0:AN) (b3_Price1:CG) (b3_Slow2:Bool) (b3_Trigger3:By) (b3_May4:Bool):Option (Bool):=
 (FZ a0 (⟨a0.Kind,(⟨0,0,0,0,0,0,0,[],0,0,(⟨0,0⟩:Ae),(⟨0,0⟩:Ae),(⟨0,0⟩:Ae)⟩:Af),([]:List (Bx)),b3_Price1,b3_Slow2,b3_Trigger3,b3_May4,a0.Specs,a0.Effects,(⟨0,0,(⟨0,0,0,0,0,0,0,[],0,0,(⟨0,0⟩:Ae),(⟨0,0⟩:Ae),(⟨0,0⟩:Ae)⟩:Af),0,0,0,0⟩:AJ)⟩:AN)).bind fun r6=>
 (some (if(!r6)=true then true else decide (4<(a0.Specs.length:Int)))).bind fun b7=>
 (some (if b7=true then true else(a0.Effects.length:Int)==0)).bind fun b8=>
 (some (if b8=true then true else decide (8<(a0.Effects.length:Int)))).bind fun b9=>
 (if b9=true then
  some false
 else
  (iter (fun(v:Int)=>D0 a0 v) FU (0:Int)).bind (Sum.elim (fun o0=>FH a0) (fun o1=>some false)))
def Ds (a0:AN):Option (Bool):=
 (if(a0.Kind==1)=true then
  (FZ a0 (⟨a0.Kind,a0.Filter,a0.Mods,(⟨(⟨0,0,(⟨0,0,0,0,0⟩:A5 (Int))⟩:A1),false,false,0⟩:CG),false,(⟨0,0,(⟨0,0,0,0,0,0,0,[],0,0,(⟨0,0⟩:Ae),(⟨0,0⟩:Ae),(⟨0,0⟩:Ae)⟩:Af)⟩:By),false,([]:List (C0)),([]:List (Aw)),(⟨0,0,(⟨0,0,0,0,0,0,0,[],0,0,(⟨0,0⟩:Ae),(⟨0,0⟩:Ae),(⟨0,0⟩:Ae)⟩:Af),0,0,0,0⟩:AJ)⟩:AN)).bind fun r33=>
  (gd (r33==true) (CR a0.Filter)).bind fun r34=>
  (some (if r33=true then r34 else false)).bind fun b35=>
  (some (if b35=true then a0.Filter.Zone==0 else false)).bind fun b36=>
  (gd (b36==true) (E8 a0.Mods)).bind fun r37=>
  (some (if b36=true then r37 != ([]:List UInt8)else false)).bind fun b38=>
  some b38
 else
  (if(a0.Kind==5)=true then
   (FZ a0 (⟨a0.Kind,(⟨0,0,0,0,0,0,0,[],0,0,(⟨0,0⟩:Ae),(⟨0,0⟩:Ae),(⟨0,0⟩:Ae)⟩:Af),([]:List (Bx)),(⟨(⟨0,0,(⟨0,0,0,0,0⟩:A5 (Int))⟩:A1),false,false,0⟩:CG),false,(⟨0,0,(⟨0,0,0,0,0,0,0,[],0,0,(⟨0,0⟩:Ae),(⟨0,0⟩:Ae),(⟨0,0⟩:Ae)⟩:Af)⟩:By),false,([]:List (C0)),([]:List (Aw)),a0.Replace⟩:AN)).bind fun r40=>
   (gd (r40==true) (DI a0.Replace)).bind fun r41=>
   (some (if r40=true then r41 else false)).bind fun b42=>
   some b42
  else
   (if(a0.Kind==2)=true then
    Ep a0 (⟨(⟨0,0,(⟨0,0,0,0,0⟩:A5 (Int))⟩:A1),false,false,0⟩:CG) false (⟨0,0,(⟨0,0,0,0,0,0,0,[],0,0,(⟨0,0⟩:Ae),(⟨0,0⟩:Ae),(⟨0,0⟩:Ae)⟩:Af)⟩:By) false
   else
    (if(a0.Kind==3)=true then
     Ep a0 a0.Price a0.Slow (⟨0,0,(⟨0,0,0,0,0,0,0,[],0,0,(⟨0,0⟩:Ae),(⟨0,0⟩:Ae),(⟨0,0⟩:Ae)⟩:Af)⟩:By) false
    else
     (if(a0.Kind==4)=true then
      Ep a0 (⟨(⟨0,0,(⟨0,0,0,0,0⟩:A5 (Int))⟩:A1),false,false,0⟩:CG) false a0.Trigger a0.May
     else
      some false)))))
def XN (a0:AN) (r:Bool):Prop:=Ah Tryz.prog I0 46 [vA Bp a0] (· =vB r)
theorem LO {a0:AN} {r:Bool} (h:Ds a0=some r):XN a0 r:=by
 refine Ah.bo Ag Tryz.func46 rfl Tryz.ntmps46 [.tmp 2] fun _ _ _ _=>?_
 unfold Ds at h
 refine Rg [.a,.a] (sl 144 [(1,vP [1] (0))] [bx [1] (Bp a0)]) (aN)<|Gg (nA 5) (uo [] [(3,vP [3] (0))] [.e (bx [3] [Aa a0.Kind,Aa 0,Aa 0,Aa 0,Aa 0,Aa 0,Aa 0,Aa 0,.str ([]),Aa 0,Aa 0,Aa 0,Aa 0,Aa 0,Aa 0,Aa 0,Aa 0,.nils,Aa 0,Aa 0,Aa (((⟨0,0,0,0,0⟩:A5 (Int))).x0),Aa (((⟨0,0,0,0,0⟩:A5 (Int))).x1),Aa (((⟨0,0,0,0,0⟩:A5 (Int))).x2),Aa (((⟨0,0,0,0,0⟩:A5 (Int))).x3),Aa (((⟨0,0,0,0,0⟩:A5 (Int))).x4),.bool false,.bool false,Aa 0,.bool false,Aa 0,Aa 0,Aa 0,Aa 0,Aa 0,Aa 0,Aa 0,Aa 0,Aa 0,.str ([]),Aa 0,Aa 0,Aa 0,Aa 0,Aa 0,Aa 0,Aa 0,Aa 0,.bool false,.nils,.nils,Aa 0,Aa 0,Aa 0,Aa 0,Aa 0,Aa 0,Aa 0,Aa 0,Aa 0,.str ([]),Aa 0,Aa 0,Aa 0,Aa 0,Aa 0,Aa 0,Aa 0,Aa 0,Aa 0,Aa 0,Aa 0,Aa 0]),.k 0]) (aC (And.intro (show True∧True from⟨trivial,trivial⟩) fj)<|aN)<|Gj (X:=CG×Bool×By×Bool) (fun v=>(uo [] [] [.s 0 [(18,Aa (((v.1).Mana).Generic)),(19,Aa (((v.1).Mana).X)),(20,Aa ((((v.1).Mana).Color).x0)),(21,Aa ((((v.1).Mana).Color).x1)),(22,Aa ((((v.1).Mana).Color).x2)),(23,Aa ((((v.1).Mana).Color).x3)),(24,Aa ((((v.1).Mana).Color).x4)),(25,.bool ((v.1).Tap)),(26,.bool ((v.1).Sacrifice)),(27,Aa ((v.1).Life)),(28,.bool v.2.1),(29,Aa ((v.2.2.1).When)),(30,Aa ((v.2.2.1).Who)),(31,Aa (((v.2.2.1).Filter).Zone)),(32,Aa (((v.2.2.1).Filter).Who)),(33,Aa (((v.2.2.1).Filter).Self)),(34,Aa (((v.2.2.1).Filter).Types)),(35,Aa (((v.2.2.1).Filter).NotTypes)),(36,Aa (((v.2.2.1).Filter).Colors)),(37,Aa (((v.2.2.1).Filter).NotColors)),(38,.str (((v.2.2.1).Filter).Sub)),(39,Aa (((v.2.2.1).Filter).Keys)),(40,Aa (((v.2.2.1).Filter).Tap)),(41,Aa ((((v.2.2.1).Filter).Power).Kind)),(42,Aa ((((v.2.2.1).Filter).Power).N)),(43,Aa ((((v.2.2.1).Filter).Tough).Kind)),(44,Aa ((((v.2.2.1).Filter).Tough).N)),(45,Aa ((((v.2.2.1).Filter).Value).Kind)),(46,Aa ((((v.2.2.1).Filter).Value).N)),(47,.bool v.2.2.2)],.k 1])) (fun v=>Ep a0 v.1 v.2.1 v.2.2.1 v.2.2.2=some r) ?_ ?_
 ·refine Gg [.a,.a] (u [] [(12,vI a0.Kind)]) (aN)<|hB<|Gg [.a,.a] (u [] [(13,vB (a0.Kind==1))]) (aN)<|iC h (fun h=>?_) (fun h=>?_)
  ·refine hS<|Ai.regN [0,1,4,5,12,13,15,31,63,127,255,7,23,55,3,19,51] 255 [.a,.a,.a,.a,.a,.a,.a,.a] [[3],[1]] (fun n=>⟨[.undef,vP [1] (0),.undef,vP [3] (0),.undef,.undef,.undef,.undef,.undef,.undef,.undef,.undef,vI a0.Kind,vB (a0.Kind==1),.undef,cond (Nat.testBit n 0) (vP [1] (1)) (.undef),cond (Nat.testBit n 1) (vA A7 a0.Filter) (.undef),cond (Nat.testBit n 2) (vP [1] (17)) (.undef),cond (Nat.testBit n 3) (vL AM a0.Mods) (.undef),cond (Nat.testBit n 4) (vP [3] (1)) (.undef),cond (Nat.testBit n 6) (vP [3] (17)) (.undef),.undef,.undef,.undef,.undef,.undef,.undef,.undef,.undef,.undef,.undef,.undef,.undef,.undef,.undef,.undef,.undef,.undef,.undef,.undef,.undef,.undef,.undef,.undef,.undef,.undef,.undef,.undef,.undef,.undef,.undef,.undef,.undef,.undef,.undef,.undef,.undef,.undef,.undef,.undef,.undef,.undef,.undef,.undef,.undef,.undef,.undef,.undef,.undef,.undef,.undef,.undef,.undef,.undef,.undef,.undef,.undef,.undef,.undef,.undef,.undef,.undef,.undef,.undef,.undef,.undef,.undef,.undef,.undef,.undef,.undef,.undef,.undef,.undef,.undef,.undef,.undef,.undef,.undef,.undef,.undef,.undef,.undef,.undef,.undef,.undef,.undef,.undef,.undef,.undef,.undef,.undef,.undef,.undef,.undef,.undef,.undef,.undef,.undef,.undef,.undef,.undef,.undef,.undef,.undef,.undef,.undef,.undef,.undef,.undef,.undef,.undef,.undef,.undef,.undef,.undef,.undef,.undef,.undef,.undef,.undef,.undef,.undef,.undef],List.filterMap id [cond (Nat.testBit n 7) (some (bx [3] [Aa a0.Kind,Aa ((a0.Filter).Zone),Aa ((a0.Filter).Who),Aa ((a0.Filter).Self),Aa ((a0.Filter).Types),Aa ((a0.Filter).NotTypes),Aa ((a0.Filter).Colors),Aa ((a0.Filter).NotColors),.str ((a0.Filter).Sub),Aa ((a0.Filter).Keys),Aa ((a0.Filter).Tap),Aa (((a0.Filter).Power).Kind),Aa (((a0.Filter).Power).N),Aa (((a0.Filter).Tough).Kind),Aa (((a0.Filter).Tough).N),Aa (((a0.Filter).Value).Kind),Aa (((a0.Filter).Value).N),.sl a0.Mods.length (a0.Mods.flatMap (AM)),Aa 0,Aa 0,Aa (((⟨0,0,0,0,0⟩:A5 (Int))).x0),Aa (((⟨0,0,0,0,0⟩:A5 (Int))).x1),Aa (((⟨0,0,0,0,0⟩:A5 (Int))).x2),Aa (((⟨0,0,0,0,0⟩:A5 (Int))).x3),Aa (((⟨0,0,0,0,0⟩:A5 (Int))).x4),.bool false,.bool false,Aa 0,.bool false,Aa 0,Aa 0,Aa 0,Aa 0,Aa 0,Aa 0,Aa 0,Aa 0,Aa 0,.str ([]),Aa 0,Aa 0,Aa 0,Aa 0,Aa 0,Aa 0,Aa 0,Aa 0,.bool false,.nils,.nils,Aa 0,Aa 0,Aa 0,Aa 0,Aa 0,Aa 0,Aa 0,Aa 0,Aa 0,.str ([]),Aa 0,Aa 0,Aa 0,Aa 0,Aa 0,Aa 0,Aa 0,Aa 0,Aa 0,Aa 0,Aa 0,Aa 0])) (cond (Nat.testBit n 5) (some (bx [3] [Aa a0.Kind,Aa ((a0.Filter).Zone),Aa ((a0.Filter).Who),Aa ((a0.Filter).Self),Aa ((a0.Filter).Types),Aa ((a0.Filter).NotTypes),Aa ((a0.Filter).Colors),Aa ((a0.Filter).NotColors),.str ((a0.Filter).Sub),Aa ((a0.Filter).Keys),Aa ((a0.Filter).Tap),Aa (((a0.Filter).Power).Kind),Aa (((a0.Filter).Power).N),Aa (((a0.Filter).Tough).Kind),Aa (((a0.Filter).Tough).N),Aa (((a0.Filter).Value).Kind),Aa (((a0.Filter).Value).N),.nils,Aa 0,Aa 0,Aa (((⟨0,0,0,0,0⟩:A5 (Int))).x0),Aa (((⟨0,0,0,0,0⟩:A5 (Int))).x1),Aa (((⟨0,0,0,0,0⟩:A5 (Int))).x2),Aa (((⟨0,0,0,0,0⟩:A5 (Int))).x3),Aa (((⟨0,0,0,0,0⟩:A5 (Int))).x4),.bool false,.bool false,Aa 0,.bool false,Aa 0,Aa 0,Aa 0,Aa 0,Aa 0,Aa 0,Aa 0,Aa 0,Aa 0,.str ([]),Aa 0,Aa 0,Aa 0,Aa 0,Aa 0,Aa 0,Aa 0,Aa 0,.bool false,.nils,.nils,Aa 0,Aa 0,Aa 0,Aa 0,Aa 0,Aa 0,Aa 0,Aa 0,Aa 0,.str ([]),Aa 0,Aa 0,Aa 0,Aa 0,Aa 0,Aa 0,Aa 0,Aa 0,Aa 0,Aa 0,Aa 0,Aa 0])) (some (bx [3] [Aa a0.Kind,Aa 0,Aa 0,Aa 0,Aa 0,Aa 0,Aa 0,Aa 0,.str ([]),Aa 0,Aa 0,Aa 0,Aa 0,Aa 0,Aa 0,Aa 0,Aa 0,.nils,Aa 0,Aa 0,Aa (((⟨0,0,0,0,0⟩:A5 (Int))).x0),Aa (((⟨0,0,0,0,0⟩:A5 (Int))).x1),Aa (((⟨0,0,0,0,0⟩:A5 (Int))).x2),Aa (((⟨0,0,0,0,0⟩:A5 (Int))).x3),Aa (((⟨0,0,0,0,0⟩:A5 (Int))).x4),.bool false,.bool false,Aa 0,.bool false,Aa 0,Aa 0,Aa 0,Aa 0,Aa 0,Aa 0,Aa 0,Aa 0,Aa 0,.str ([]),Aa 0,Aa 0,Aa 0,Aa 0,Aa 0,Aa 0,Aa 0,Aa 0,.bool false,.nils,.nils,Aa 0,Aa 0,Aa 0,Aa 0,Aa 0,Aa 0,Aa 0,Aa 0,Aa 0,.str ([]),Aa 0,Aa 0,Aa 0,Aa 0,Aa 0,Aa 0,Aa 0,Aa 0,Aa 0,Aa 0,Aa 0,Aa 0]))),some (bx [1] (Bp a0))],[],[]⟩) [[],[],[],[],[],[],[],[]] DV (by kernel_rfl) (by kernel_rfl) (by decide) (D4.t (by kernel_rfl)) (by kernel_rfl) ⟨trivial,trivial,trivial,trivial,trivial,trivial,trivial,trivial,trivial⟩<|Tn<|Gs (u [12,13,15,16,17,18,19,20] []) ?_
   obtain⟨t1,n3,p4,o3,i1,t2,j1,y2,h⟩:=Ij h
   obtain⟨q4,p3,j2,z2,h⟩:=JX h
   exact Rg [.a,.a,(.c (vB t1)),.a,.a,.a,(.c (vB p4)),(.v (vB i1)),.a,.a,.a,.a,.a,(.v (vB j1)),.a,.a,.a,(.c (vS q4)),.a,(.v (vB j2)),.a] (sl 144 [(2,vB j2)] []) (aC (JN n3)<|aG (t1==true)<|aC (c1 o3 Em)<|aT t1<|aB t2<|aG (i1==true)<|aG (i1==true)<|aG (i1==true)<|aT i1<|aB y2<|aG (j1==true)<|aC (c1 p3 JS)<|aG (j1==true)<|aT j1<|aB z2<|aN)<|hR<|qR<|Tr<|bQ _ (kB h)
  refine Gg [.a,.a] (u [13] [(41,vB (a0.Kind==5))]) (aN)<|iC h (fun h=>?_) (fun h=>?_)
  ·refine Gg (nA 4) (uo [12,41] [] [.s 0 [(50,Aa ((a0.Replace).On)),(51,Aa ((a0.Replace).Who)),(52,Aa (((a0.Replace).Filter).Zone)),(53,Aa (((a0.Replace).Filter).Who)),(54,Aa (((a0.Replace).Filter).Self)),(55,Aa (((a0.Replace).Filter).Types)),(56,Aa (((a0.Replace).Filter).NotTypes)),(57,Aa (((a0.Replace).Filter).Colors)),(58,Aa (((a0.Replace).Filter).NotColors)),(59,.str (((a0.Replace).Filter).Sub)),(60,Aa (((a0.Replace).Filter).Keys)),(61,Aa (((a0.Replace).Filter).Tap)),(62,Aa ((((a0.Replace).Filter).Power).Kind)),(63,Aa ((((a0.Replace).Filter).Power).N)),(64,Aa ((((a0.Replace).Filter).Tough).Kind)),(65,Aa ((((a0.Replace).Filter).Tough).N)),(66,Aa ((((a0.Replace).Filter).Value).Kind)),(67,Aa ((((a0.Replace).Filter).Value).N)),(68,Aa ((a0.Replace).Do)),(69,Aa ((a0.Replace).N)),(70,Aa ((a0.Replace).Zone)),(71,Aa ((a0.Replace).Counter))],.k 1]) (aN) ?_
   obtain⟨y1,q3,t4,t3,k2,d3,h⟩:=M9 h
   exact Rg [.a,.a,(.c (vB y1)),.a,.a,.a,(.c (vB t4)),(.v (vB k2)),.a] (sl 144 [(2,vB k2)] []) (aC (JN q3)<|aG (y1==true)<|aC (c1 t3 Vz)<|aT y1<|aB d3<|aN)<|hR<|qR<|Tr<|bQ _ (kB h)
  refine Gg [.a,.a] (u [41] [(54,vB (a0.Kind==2))]) (aN)<|iC h (fun h=>?_) (fun h=>?_)
  ·refine hK<|qN<|Tn ⟨((⟨(⟨0,0,(⟨0,0,0,0,0⟩:A5 (Int))⟩:A1),false,false,0⟩:CG),false,(⟨0,0,(⟨0,0,0,0,0,0,0,[],0,0,(⟨0,0⟩:Ae),(⟨0,0⟩:Ae),(⟨0,0⟩:Ae)⟩:Af)⟩:By),false),h,wT⟩
  refine Gg [.a,.a] (u [54] [(56,vB (a0.Kind==3))]) (aN)<|iC h (fun h=>?_) (fun h=>?_)
  ·refine Ai.regN [0,1,4,5,12,13,15,31,63,127,255,7,23,55,3,19,51] 255 [.a,.a,.a,.a,.a,.a,.a,.a] [[3],[1]] (fun n=>⟨[.undef,vP [1] (0),.undef,vP [3] (0),.undef,.undef,.undef,.undef,.undef,.undef,.undef,.undef,vI a0.Kind,.undef,.undef,.undef,.undef,.undef,.undef,.undef,.undef,.undef,.undef,.undef,.undef,.undef,.undef,.undef,.undef,.undef,.undef,.undef,.undef,.undef,.undef,.undef,.undef,.undef,.undef,.undef,.undef,.undef,.undef,.undef,.undef,.undef,.undef,.undef,.undef,.undef,.undef,.undef,.undef,.undef,.undef,.undef,vB (a0.Kind==3),.undef,cond (Nat.testBit n 0) (vP [1] (18)) (.undef),cond (Nat.testBit n 1) (vA I8 a0.Price) (.undef),cond (Nat.testBit n 2) (vP [1] (28)) (.undef),cond (Nat.testBit n 3) (vB a0.Slow) (.undef),cond (Nat.testBit n 4) (vP [3] (18)) (.undef),cond (Nat.testBit n 6) (vP [3] (28)) (.undef),.undef,.undef,.undef,.undef,.undef,.undef,.undef,.undef,.undef,.undef,.undef,.undef,.undef,.undef,.undef,.undef,.undef,.undef,.undef,.undef,.undef,.undef,.undef,.undef,.undef,.undef,.undef,.undef,.undef,.undef,.undef,.undef,.undef,.undef,.undef,.undef,.undef,.undef,.undef,.undef,.undef,.undef,.undef,.undef,.undef,.undef,.undef,.undef,.undef,.undef,.undef,.undef,.undef,.undef,.undef,.undef,.undef,.undef,.undef,.undef,.undef,.undef,.undef,.undef,.undef,.undef,.undef,.undef,.undef,.undef,.undef,.undef,.undef,.undef,.undef,.undef,.undef,.undef,.undef,.undef],List.filterMap id [cond (Nat.testBit n 7) (some (bx [3] [Aa a0.Kind,Aa 0,Aa 0,Aa 0,Aa 0,Aa 0,Aa 0,Aa 0,.str ([]),Aa 0,Aa 0,Aa 0,Aa 0,Aa 0,Aa 0,Aa 0,Aa 0,.nils,Aa (((a0.Price).Mana).Generic),Aa (((a0.Price).Mana).X),Aa ((((a0.Price).Mana).Color).x0),Aa ((((a0.Price).Mana).Color).x1),Aa ((((a0.Price).Mana).Color).x2),Aa ((((a0.Price).Mana).Color).x3),Aa ((((a0.Price).Mana).Color).x4),.bool ((a0.Price).Tap),.bool ((a0.Price).Sacrifice),Aa ((a0.Price).Life),.bool a0.Slow,Aa 0,Aa 0,Aa 0,Aa 0,Aa 0,Aa 0,Aa 0,Aa 0,Aa 0,.str ([]),Aa 0,Aa 0,Aa 0,Aa 0,Aa 0,Aa 0,Aa 0,Aa 0,.bool false,.nils,.nils,Aa 0,Aa 0,Aa 0,Aa 0,Aa 0,Aa 0,Aa 0,Aa 0,Aa 0,.str ([]),Aa 0,Aa 0,Aa 0,Aa 0,Aa 0,Aa 0,Aa 0,Aa 0,Aa 0,Aa 0,Aa 0,Aa 0])) (cond (Nat.testBit n 5) (some (bx [3] [Aa a0.Kind,Aa 0,Aa 0,Aa 0,Aa 0,Aa 0,Aa 0,Aa 0,.str ([]),Aa 0,Aa 0,Aa 0,Aa 0,Aa 0,Aa 0,Aa 0,Aa 0,.nils,Aa (((a0.Price).Mana).Generic),Aa (((a0.Price).Mana).X),Aa ((((a0.Price).Mana).Color).x0),Aa ((((a0.Price).Mana).Color).x1),Aa ((((a0.Price).Mana).Color).x2),Aa ((((a0.Price).Mana).Color).x3),Aa ((((a0.Price).Mana).Color).x4),.bool ((a0.Price).Tap),.bool ((a0.Price).Sacrifice),Aa ((a0.Price).Life),.bool false,Aa 0,Aa 0,Aa 0,Aa 0,Aa 0,Aa 0,Aa 0,Aa 0,Aa 0,.str ([]),Aa 0,Aa 0,Aa 0,Aa 0,Aa 0,Aa 0,Aa 0,Aa 0,.bool false,.nils,.nils,Aa 0,Aa 0,Aa 0,Aa 0,Aa 0,Aa 0,Aa 0,Aa 0,Aa 0,.str ([]),Aa 0,Aa 0,Aa 0,Aa 0,Aa 0,Aa 0,Aa 0,Aa 0,Aa 0,Aa 0,Aa 0,Aa 0])) (some (bx [3] [Aa a0.Kind,Aa 0,Aa 0,Aa 0,Aa 0,Aa 0,Aa 0,Aa 0,.str ([]),Aa 0,Aa 0,Aa 0,Aa 0,Aa 0,Aa 0,Aa 0,Aa 0,.nils,Aa 0,Aa 0,Aa (((⟨0,0,0,0,0⟩:A5 (Int))).x0),Aa (((⟨0,0,0,0,0⟩:A5 (Int))).x1),Aa (((⟨0,0,0,0,0⟩:A5 (Int))).x2),Aa (((⟨0,0,0,0,0⟩:A5 (Int))).x3),Aa (((⟨0,0,0,0,0⟩:A5 (Int))).x4),.bool false,.bool false,Aa 0,.bool false,Aa 0,Aa 0,Aa 0,Aa 0,Aa 0,Aa 0,Aa 0,Aa 0,Aa 0,.str ([]),Aa 0,Aa 0,Aa 0,Aa 0,Aa 0,Aa 0,Aa 0,Aa 0,.bool false,.nils,.nils,Aa 0,Aa 0,Aa 0,Aa 0,Aa 0,Aa 0,Aa 0,Aa 0,Aa 0,.str ([]),Aa 0,Aa 0,Aa 0,Aa 0,Aa 0,Aa 0,Aa 0,Aa 0,Aa 0,Aa 0,Aa 0,Aa 0]))),some (bx [1] (Bp a0))],[],[]⟩) [[],[],[],[],[],[],[],[]] DV (by kernel_rfl) (by kernel_rfl) (by decide) (D4.t (by kernel_rfl)) (by kernel_rfl) ⟨trivial,trivial,trivial,trivial,trivial,trivial,trivial,trivial,trivial⟩<|qN<|Tn ⟨(a0.Price,a0.Slow,(⟨0,0,(⟨0,0,0,0,0,0,0,[],0,0,(⟨0,0⟩:Ae),(⟨0,0⟩:Ae),(⟨0,0⟩:Ae)⟩:Af)⟩:By),false),h,wT⟩
  refine Gg [.a,.a] (u [12,56] [(64,vB (a0.Kind==4))]) (aN)<|iC h (fun h=>?_) (fun h=>?_)
  ·refine Ai.regN [0,1,4,5,12,13,15,31,63,127,255,7,23,55,3,19,51] 255 [.a,.a,.a,.a,.a,.a,.a,.a] [[3],[1]] (fun n=>⟨[.undef,vP [1] (0),.undef,vP [3] (0),.undef,.undef,.undef,.undef,.undef,.undef,.undef,.undef,.undef,.undef,.undef,.undef,.undef,.undef,.undef,.undef,.undef,.undef,.undef,.undef,.undef,.undef,.undef,.undef,.undef,.undef,.undef,.undef,.undef,.undef,.undef,.undef,.undef,.undef,.undef,.undef,.undef,.undef,.undef,.undef,.undef,.undef,.undef,.undef,.undef,.undef,.undef,.undef,.undef,.undef,.undef,.undef,.undef,.undef,.undef,.undef,.undef,.undef,.undef,.undef,vB (a0.Kind==4),.undef,cond (Nat.testBit n 0) (vP [1] (29)) (.undef),cond (Nat.testBit n 1) (vA GW a0.Trigger) (.undef),cond (Nat.testBit n 2) (vP [1] (47)) (.undef),cond (Nat.testBit n 3) (vB a0.May) (.undef),cond (Nat.testBit n 4) (vP [3] (29)) (.undef),cond (Nat.testBit n 6) (vP [3] (47)) (.undef),.undef,.undef,.undef,.undef,.undef,.undef,.undef,.undef,.undef,.undef,.undef,.undef,.undef,.undef,.undef,.undef,.undef,.undef,.undef,.undef,.undef,.undef,.undef,.undef,.undef,.undef,.undef,.undef,.undef,.undef,.undef,.undef,.undef,.undef,.undef,.undef,.undef,.undef,.undef,.undef,.undef,.undef,.undef,.undef,.undef,.undef,.undef,.undef,.undef,.undef,.undef,.undef,.undef,.undef,.undef,.undef,.undef,.undef,.undef,.undef,.undef,.undef,.undef,.undef,.undef,.undef,.undef,.undef,.undef,.undef,.undef,.undef],List.filterMap id [cond (Nat.testBit n 7) (some (bx [3] [Aa a0.Kind,Aa 0,Aa 0,Aa 0,Aa 0,Aa 0,Aa 0,Aa 0,.str ([]),Aa 0,Aa 0,Aa 0,Aa 0,Aa 0,Aa 0,Aa 0,Aa 0,.nils,Aa 0,Aa 0,Aa (((⟨0,0,0,0,0⟩:A5 (Int))).x0),Aa (((⟨0,0,0,0,0⟩:A5 (Int))).x1),Aa (((⟨0,0,0,0,0⟩:A5 (Int))).x2),Aa (((⟨0,0,0,0,0⟩:A5 (Int))).x3),Aa (((⟨0,0,0,0,0⟩:A5 (Int))).x4),.bool false,.bool false,Aa 0,.bool false,Aa ((a0.Trigger).When),Aa ((a0.Trigger).Who),Aa (((a0.Trigger).Filter).Zone),Aa (((a0.Trigger).Filter).Who),Aa (((a0.Trigger).Filter).Self),Aa (((a0.Trigger).Filter).Types),Aa (((a0.Trigger).Filter).NotTypes),Aa (((a0.Trigger).Filter).Colors),Aa (((a0.Trigger).Filter).NotColors),.str (((a0.Trigger).Filter).Sub),Aa (((a0.Trigger).Filter).Keys),Aa (((a0.Trigger).Filter).Tap),Aa ((((a0.Trigger).Filter).Power).Kind),Aa ((((a0.Trigger).Filter).Power).N),Aa ((((a0.Trigger).Filter).Tough).Kind),Aa ((((a0.Trigger).Filter).Tough).N),Aa ((((a0.Trigger).Filter).Value).Kind),Aa ((((a0.Trigger).Filter).Value).N),.bool a0.May,.nils,.nils,Aa 0,Aa 0,Aa 0,Aa 0,Aa 0,Aa 0,Aa 0,Aa 0,Aa 0,.str ([]),Aa 0,Aa 0,Aa 0,Aa 0,Aa 0,Aa 0,Aa 0,Aa 0,Aa 0,Aa 0,Aa 0,Aa 0])) (cond (Nat.testBit n 5) (some (bx [3] [Aa a0.Kind,Aa 0,Aa 0,Aa 0,Aa 0,Aa 0,Aa 0,Aa 0,.str ([]),Aa 0,Aa 0,Aa 0,Aa 0,Aa 0,Aa 0,Aa 0,Aa 0,.nils,Aa 0,Aa 0,Aa (((⟨0,0,0,0,0⟩:A5 (Int))).x0),Aa (((⟨0,0,0,0,0⟩:A5 (Int))).x1),Aa (((⟨0,0,0,0,0⟩:A5 (Int))).x2),Aa (((⟨0,0,0,0,0⟩:A5 (Int))).x3),Aa (((⟨0,0,0,0,0⟩:A5 (Int))).x4),.bool false,.bool false,Aa 0,.bool false,Aa ((a0.Trigger).When),Aa ((a0.Trigger).Who),Aa (((a0.Trigger).Filter).Zone),Aa (((a0.Trigger).Filter).Who),Aa (((a0.Trigger).Filter).Self),Aa (((a0.Trigger).Filter).Types),Aa (((a0.Trigger).Filter).NotTypes),Aa (((a0.Trigger).Filter).Colors),Aa (((a0.Trigger).Filter).NotColors),.str (((a0.Trigger).Filter).Sub),Aa (((a0.Trigger).Filter).Keys),Aa (((a0.Trigger).Filter).Tap),Aa ((((a0.Trigger).Filter).Power).Kind),Aa ((((a0.Trigger).Filter).Power).N),Aa ((((a0.Trigger).Filter).Tough).Kind),Aa ((((a0.Trigger).Filter).Tough).N),Aa ((((a0.Trigger).Filter).Value).Kind),Aa ((((a0.Trigger).Filter).Value).N),.bool false,.nils,.nils,Aa 0,Aa 0,Aa 0,Aa 0,Aa 0,Aa 0,Aa 0,Aa 0,Aa 0,.str ([]),Aa 0,Aa 0,Aa 0,Aa 0,Aa 0,Aa 0,Aa 0,Aa 0,Aa 0,Aa 0,Aa 0,Aa 0])) (some (bx [3] [Aa a0.Kind,Aa 0,Aa 0,Aa 0,Aa 0,Aa 0,Aa 0,Aa 0,.str ([]),Aa 0,Aa 0,Aa 0,Aa 0,Aa 0,Aa 0,Aa 0,Aa 0,.nils,Aa 0,Aa 0,Aa (((⟨0,0,0,0,0⟩:A5 (Int))).x0),Aa (((⟨0,0,0,0,0⟩:A5 (Int))).x1),Aa (((⟨0,0,0,0,0⟩:A5 (Int))).x2),Aa (((⟨0,0,0,0,0⟩:A5 (Int))).x3),Aa (((⟨0,0,0,0,0⟩:A5 (Int))).x4),.bool false,.bool false,Aa 0,.bool false,Aa 0,Aa 0,Aa 0,Aa 0,Aa 0,Aa 0,Aa 0,Aa 0,Aa 0,.str ([]),Aa 0,Aa 0,Aa 0,Aa 0,Aa 0,Aa 0,Aa 0,Aa 0,.bool false,.nils,.nils,Aa 0,Aa 0,Aa 0,Aa 0,Aa 0,Aa 0,Aa 0,Aa 0,Aa 0,.str ([]),Aa 0,Aa 0,Aa 0,Aa 0,Aa 0,Aa 0,Aa 0,Aa 0,Aa 0,Aa 0,Aa 0,Aa 0]))),some (bx [1] (Bp a0))],[],[]⟩) [[],[],[],[],[],[],[],[]] DV (by kernel_rfl) (by kernel_rfl) (by decide) (D4.t (by kernel_rfl)) (by kernel_rfl) ⟨trivial,trivial,trivial,trivial,trivial,trivial,trivial,trivial,trivial⟩<|qN<|Tn ⟨((⟨(⟨0,0,(⟨0,0,0,0,0⟩:A5 (Int))⟩:A1),false,false,0⟩:CG),false,a0.Trigger,a0.May),h,wT⟩
  exact Rg [.a] (sl 144 [(2,vB false)] []) (aN)<|hR<|qR<|Tr<|bQ _ (kB h)
 rintro⟨j0,t0,i0,z0⟩ p0
 replace p0:Ep a0 j0 t0 i0 z0=some r:=p0
 unfold Ep at p0
 refine hS<|Ai.regN [0,1,4,5,12,13,15,31,63,127,255,7,23,55,3,19,51] 255 [.a,.a,.a,.a,.a,.a,.a,.a] [[3],[1]] (fun n=>⟨[.undef,vP [1] (0),.undef,vP [3] (0),.undef,.undef,.undef,.undef,.undef,.undef,.undef,.undef,.undef,.undef,.undef,.undef,.undef,.undef,.undef,.undef,.undef,.undef,.undef,.undef,.undef,.undef,.undef,.undef,.undef,.undef,.undef,.undef,.undef,.undef,.undef,.undef,.undef,.undef,.undef,.undef,.undef,.undef,.undef,.undef,.undef,.undef,.undef,.undef,.undef,.undef,.undef,.undef,.undef,.undef,.undef,.undef,.undef,.undef,.undef,.undef,.undef,.undef,.undef,.undef,.undef,.undef,.undef,.undef,.undef,.undef,.undef,.undef,cond (Nat.testBit n 0) (vP [1] (48)) (.undef),cond (Nat.testBit n 1) (vL Bj a0.Specs) (.undef),cond (Nat.testBit n 2) (vP [1] (49)) (.undef),cond (Nat.testBit n 3) (vL Az a0.Effects) (.undef),cond (Nat.testBit n 4) (vP [3] (48)) (.undef),cond (Nat.testBit n 6) (vP [3] (49)) (.undef),.undef,.undef,.undef,.undef,.undef,.undef,.undef,.undef,.undef,.undef,.undef,.undef,.undef,.undef,.undef,.undef,.undef,.undef,.undef,.undef,.undef,.undef,.undef,.undef,.undef,.undef,.undef,.undef,.undef,.undef,.undef,.undef,.undef,.undef,.undef,.undef,.undef,.undef,.undef,.undef,.undef,.undef,.undef,.undef,.undef,.undef,.undef,.undef,.undef,.undef,.undef,.undef,.undef,.undef,.undef,.undef,.undef,.undef,.undef,.undef,.undef,.undef,.undef,.undef,.undef,.undef],List.filterMap id [cond (Nat.testBit n 7) (some (bx [3] [Aa a0.Kind,Aa 0,Aa 0,Aa 0,Aa 0,Aa 0,Aa 0,Aa 0,.str ([]),Aa 0,Aa 0,Aa 0,Aa 0,Aa 0,Aa 0,Aa 0,Aa 0,.nils,Aa (((j0).Mana).Generic),Aa (((j0).Mana).X),Aa ((((j0).Mana).Color).x0),Aa ((((j0).Mana).Color).x1),Aa ((((j0).Mana).Color).x2),Aa ((((j0).Mana).Color).x3),Aa ((((j0).Mana).Color).x4),.bool ((j0).Tap),.bool ((j0).Sacrifice),Aa ((j0).Life),.bool t0,Aa ((i0).When),Aa ((i0).Who),Aa (((i0).Filter).Zone),Aa (((i0).Filter).Who),Aa (((i0).Filter).Self),Aa (((i0).Filter).Types),Aa (((i0).Filter).NotTypes),Aa (((i0).Filter).Colors),Aa (((i0).Filter).NotColors),.str (((i0).Filter).Sub),Aa (((i0).Filter).Keys),Aa (((i0).Filter).Tap),Aa ((((i0).Filter).Power).Kind),Aa ((((i0).Filter).Power).N),Aa ((((i0).Filter).Tough).Kind),Aa ((((i0).Filter).Tough).N),Aa ((((i0).Filter).Value).Kind),Aa ((((i0).Filter).Value).N),.bool z0,.sl a0.Specs.length (a0.Specs.flatMap (Bj)),.sl a0.Effects.length (a0.Effects.flatMap (Az)),Aa 0,Aa 0,Aa 0,Aa 0,Aa 0,Aa 0,Aa 0,Aa 0,Aa 0,.str ([]),Aa 0,Aa 0,Aa 0,Aa 0,Aa 0,Aa 0,Aa 0,Aa 0,Aa 0,Aa 0,Aa 0,Aa 0])) (cond (Nat.testBit n 5) (some (bx [3] [Aa a0.Kind,Aa 0,Aa 0,Aa 0,Aa 0,Aa 0,Aa 0,Aa 0,.str ([]),Aa 0,Aa 0,Aa 0,Aa 0,Aa 0,Aa 0,Aa 0,Aa 0,.nils,Aa (((j0).Mana).Generic),Aa (((j0).Mana).X),Aa ((((j0).Mana).Color).x0),Aa ((((j0).Mana).Color).x1),Aa ((((j0).Mana).Color).x2),Aa ((((j0).Mana).Color).x3),Aa ((((j0).Mana).Color).x4),.bool ((j0).Tap),.bool ((j0).Sacrifice),Aa ((j0).Life),.bool t0,Aa ((i0).When),Aa ((i0).Who),Aa (((i0).Filter).Zone),Aa (((i0).Filter).Who),Aa (((i0).Filter).Self),Aa (((i0).Filter).Types),Aa (((i0).Filter).NotTypes),Aa (((i0).Filter).Colors),Aa (((i0).Filter).NotColors),.str (((i0).Filter).Sub),Aa (((i0).Filter).Keys),Aa (((i0).Filter).Tap),Aa ((((i0).Filter).Power).Kind),Aa ((((i0).Filter).Power).N),Aa ((((i0).Filter).Tough).Kind),Aa ((((i0).Filter).Tough).N),Aa ((((i0).Filter).Value).Kind),Aa ((((i0).Filter).Value).N),.bool z0,.sl a0.Specs.length (a0.Specs.flatMap (Bj)),.nils,Aa 0,Aa 0,Aa 0,Aa 0,Aa 0,Aa 0,Aa 0,Aa 0,Aa 0,.str ([]),Aa 0,Aa 0,Aa 0,Aa 0,Aa 0,Aa 0,Aa 0,Aa 0,Aa 0,Aa 0,Aa 0,Aa 0])) (some (bx [3] [Aa a0.Kind,Aa 0,Aa 0,Aa 0,Aa 0,Aa 0,Aa 0,Aa 0,.str ([]),Aa 0,Aa 0,Aa 0,Aa 0,Aa 0,Aa 0,Aa 0,Aa 0,.nils,Aa (((j0).Mana).Generic),Aa (((j0).Mana).X),Aa ((((j0).Mana).Color).x0),Aa ((((j0).Mana).Color).x1),Aa ((((j0).Mana).Color).x2),Aa ((((j0).Mana).Color).x3),Aa ((((j0).Mana).Color).x4),.bool ((j0).Tap),.bool ((j0).Sacrifice),Aa ((j0).Life),.bool t0,Aa ((i0).When),Aa ((i0).Who),Aa (((i0).Filter).Zone),Aa (((i0).Filter).Who),Aa (((i0).Filter).Self),Aa (((i0).Filter).Types),Aa (((i0).Filter).NotTypes),Aa (((i0).Filter).Colors),Aa (((i0).Filter).NotColors),.str (((i0).Filter).Sub),Aa (((i0).Filter).Keys),Aa (((i0).Filter).Tap),Aa ((((i0).Filter).Power).Kind),Aa ((((i0).Filter).Power).N),Aa ((((i0).Filter).Tough).Kind),Aa ((((i0).Filter).Tough).N),Aa ((((i0).Filter).Value).Kind),Aa ((((i0).Filter).Value).N),.bool z0,.nils,.nils,Aa 0,Aa 0,Aa 0,Aa 0,Aa 0,Aa 0,Aa 0,Aa 0,Aa 0,.str ([]),Aa 0,Aa 0,Aa 0,Aa 0,Aa 0,Aa 0,Aa 0,Aa 0,Aa 0,Aa 0,Aa 0,Aa 0]))),some (bx [1] (Bp a0))],[],[]⟩) [[],[],[],[],[],[],[],[]] DV (by kernel_rfl) (by kernel_rfl) (by decide) (D4.t (by kernel_rfl)) (by kernel_rfl) ⟨trivial,trivial,trivial,trivial,trivial,trivial,trivial,trivial,trivial⟩<|Tn<|Gs (u [72,73,74,75,76,77] [])<|hS ?_
 obtain⟨r6,m4,b7,i4,b8,j4,b9,k4,p0⟩:=Ij p0
 refine Gg [.a,.a,(.c (vB r6)),.a,.a,.a,.a,.a,.a,(.v (vB b7)),.a,.a,.a,.a,.a,(.v (vB b8)),.a,.a,.a,.a,.a,(.v (vB b9))] (uo [3] [(99,vB b9)] [.k 1]) (aC (JN m4)<|aG ((!r6)==false)<|aG ((!r6)==false)<|aG ((!r6)==false)<|aF (!r6)<|aB i4<|aG (b7==false)<|aG (b7==false)<|aG (b7==false)<|aF b7<|aB j4<|aG (b8==false)<|aG (b8==false)<|aG (b8==false)<|aF b8<|aB k4<|aN)<|iC p0 (fun p0=>?_) (fun p0=>?_)
 ·exact Rg [.a] (sl 144 [(2,vB false)] []) (aN)<|hR<|Tr<|bQ _ (kB p0)
 refine hK<|Tn<|Gj (X:=Unit) (fun v=>(u [99] [])) (fun v=>FH a0=some r) ?_ ?_
 ·refine Gg (nA 4) (u [99] [(101,vL Bj a0.Specs),(102,vI (a0.Specs.length:Int)),(103,vI 0)]) (aN)<|hB ?_
  obtain⟨z4,d2,p0⟩:=bS p0
  refine Gi (fun(v:Int)=>(u [] [(103,vI v)])) d2 (wT) ?_
  rintro n0 z3 m0 o1
  replace m0:D0 a0 n0=some z3:=m0
  unfold D0 at m0
  refine Gg [.a] (u [] [(104,vB (decide (n0<(a0.Specs.length:Int))))]) (aN)<|hS<|iC m0 (fun m0=>?_) (fun m0=>?_)
  ·refine hK<|Tn<|hS<|hB ?_
   obtain⟨m1,q1,m0⟩:=bS m0
   refine Rg [.a,(.v (vA Bj m1)),.a,.a] (sl 144 [(1,vP [1] (0)),(5,vP [5] (0)),(101,vL Bj a0.Specs),(102,vI (a0.Specs.length:Int)),(103,vI n0)] [bx [5] (Bj m1),bx [1] (Bp a0)]) (aC (Bm q1)<|aC (GN q1 PM 0 18 true (vA Bj m1))<|aC (Eq.refl (vA Bj m1))<|aN) ?_
   obtain⟨n2,m3,m0⟩:=bS m0
   refine Gg [.a,(.c (vS n2)),.a] (uo [5] [(109,vB (n2==([]:List UInt8)))] [.k 1]) (aC (Ot m3)<|aN)<|iC m0 (fun m0=>?_) (fun m0=>?_)
   ·refine Rg [.a] (sl 144 [(2,vB false)] []) (aN)<|hR<|qR<|Tr ?_
    obtain rfl:=o1 _ (sI m0).symm
    replace p0:=EL p0
    exact Tr<|qR<|Tr<|bQ _ (kB p0)
   refine hK<|qN<|Tn<|Ge [.a,.a] (u [] [(103,vI (Ab (n0+1))),(110,vI (Ab (n0+1)))]) (aN)<|Tn ⟨(Ab (n0+1)),(sI m0).symm,wT⟩
  refine hE<|Te ?_
  obtain rfl:=o1 _ (sI m0).symm
  replace p0:=Fa p0
  refine Te<|qX<|Tn ⟨(),p0,wT⟩
 rintro _ q0
 replace q0:FH a0=some r:=q0
 unfold FH at q0
 refine Gj (X:=Unit) (fun v=>(u [] [])) (fun v=>EI a0=some r) ?_ ?_
 ·refine Gg (nA 4) (u [] [(112,vL Az a0.Effects),(113,vI (a0.Effects.length:Int)),(114,vI 0)]) (aN)<|hB ?_
  obtain⟨y4,z1,q0⟩:=bS q0
  refine Gi (fun(v:Int)=>(u [] [(114,vI v)])) z1 (wT) ?_
  rintro o0 y3 k0 n1
  replace k0:DZ a0 o0=some y3:=k0
  unfold DZ at k0
  refine Rg [.a] (sl 144 [(1,vP [1] (0)),(112,vL Az a0.Effects),(113,vI (a0.Effects.length:Int)),(114,vI o0),(115,vB (decide (o0<(a0.Effects.length:Int))))] [bx [1] (Bp a0)]) (aN)<|hS<|iC k0 (fun k0=>?_) (fun k0=>?_)
  ·refine hK<|Tn<|hS<|hB ?_
   obtain⟨k1,p1,k0⟩:=bS k0
   refine Gg [.a,(.v (vA Az k1)),.a,.a] (uo [115] [(7,vP [7] (0))] [.e (bx [7] (Az k1)),.k 0]) (aC (Bm p1)<|aC (GN p1 Mp 0 64 true (vA Az k1))<|aC (Eq.refl (vA Az k1))<|aN) ?_
   obtain⟨m2,k3,k0⟩:=bS k0
   refine Gg [.a,.a,.a,.a,(.c (vB m2)),.a] (uo [7] [(123,vB (!m2))] [.k 1]) (aC (XL k3)<|aN)<|iC k0 (fun k0=>?_) (fun k0=>?_)
   ·refine Rg [.a] (sl 144 [(2,vB false)] []) (aN)<|hR<|qR<|Tr ?_
    obtain rfl:=n1 _ (sI k0).symm
    replace q0:=EL q0
    exact Tr<|qR<|Tr<|bQ _ (kB q0)
   refine hK<|qN<|Tn<|Ge [.a,.a] (u [] [(114,vI (Ab (o0+1))),(124,vI (Ab (o0+1)))]) (aN)<|Tn ⟨(Ab (o0+1)),(sI k0).symm,wT⟩
  refine hE<|Te ?_
  obtain rfl:=n1 _ (sI k0).symm
  replace q0:=Fa q0
  refine Te<|qX<|Tn ⟨(),q0,wT⟩
 rintro _ y0
 replace y0:EI a0=some r:=y0
 unfold EI at y0
 obtain⟨n4,i3,d1,o2,o4,j3,d4,p2,y0⟩:=Ij y0
 obtain⟨i2,q2,y0⟩:=bS y0
 exact Rg [.a,.a,.a,.a,.a,.a,(.c (vS n4)),.a,(.v (vB d1)),.a,.a,.a,.a,.a,.a,.a,(.c (vB o4)),(.v (vB d4)),(.v (vB i2)),.a] (sl 144 [(2,vB i2)] []) (aG ((a0.Kind != 3)==false)<|aC (c1 i3 NK)<|aG ((a0.Kind != 3)==false)<|aF (a0.Kind != 3)<|aB o2<|aG (d1==true)<|aG (d1==true)<|aG (d1==true)<|aG ((d1==true)&&((a0.Kind != 4)==false))<|aC (c1 j3 VA)<|aC (fun hg:(d1==true)=true=>aC (gi (d1==true))<|aC (fun q:(a0.Kind != 4)=false=>(gA hg (gF q)))<|aB p2<|aN)<|aT d1<|aB q2<|aN)<|hR<|bQ _ (kB y0)
def MS (vt5_3:Bool) (b8:Bool) (b12:Bool) (vt8_13:Bool) (vt9_15:Bool) (vt10_17:Bool) (vt11_19:Bool) (vt12_21:Bool):Option (Bool):=
 (some (if vt5_3=true then b8 else false)).bind fun b23=>
 (some (if b23=true then b12 else false)).bind fun b24=>
 (some (if b24=true then vt8_13 else false)).bind fun gj=>
 (some (if gj=true then vt9_15 else false)).bind fun b26=>
 (some (if b26=true then vt10_17 else false)).bind fun b27=>
 (some (if b27=true then vt11_19 else false)).bind fun b28=>
 (some (if b28=true then vt12_21 else false)).bind fun b29=>
 some b29
def MT (a0:Aw) (vt5_3:Bool) (b8:Bool) (b12:Bool) (vt8_13:Bool) (vt9_15:Bool) (vt10_17:Bool) (vt11_19:Bool):Option (Bool):=
 (Co a0.Op (102:Int)).bind fun r30=>
 (if r30=true then
  (Pe a0.Op a0.Filter).bind fun r32=>
  MS vt5_3 b8 b12 vt8_13 vt9_15 vt10_17 vt11_19 r32
 else
  MS vt5_3 b8 b12 vt8_13 vt9_15 vt10_17 vt11_19 (a0.Filter==(⟨0,0,0,0,0,0,0,[],0,0,(⟨0,0⟩:Ae),(⟨0,0⟩:Ae),(⟨0,0⟩:Ae)⟩:Af)))
def MU (a0:Aw) (vt5_3:Bool) (b8:Bool) (b12:Bool) (vt8_13:Bool) (vt9_15:Bool) (vt10_17:Bool):Option (Bool):=
 (Co a0.Op (112:Int)).bind fun r33=>
 (if r33=true then
  (gd ((!(a0.Pool==(⟨0,0,0,0,0,0⟩:A6 (Int))))==true) (Kn a0.Pool)).bind fun r35=>
  (some (if(!(a0.Pool==(⟨0,0,0,0,0,0⟩:A6 (Int))))=true then r35 != ([]:List UInt8)else false)).bind fun b36=>
  MT a0 vt5_3 b8 b12 vt8_13 vt9_15 vt10_17 b36
 else
  MT a0 vt5_3 b8 b12 vt8_13 vt9_15 vt10_17 (a0.Pool==(⟨0,0,0,0,0,0⟩:A6 (Int))))
def MV (a0:Aw) (vt5_3:Bool) (b8:Bool) (b12:Bool) (vt8_13:Bool) (vt9_15:Bool):Option (Bool):=
 (Co a0.Op (109:Int)).bind fun r37=>
 (if r37=true then
  (UF a0.Mods).bind fun r39=>
  MU a0 vt5_3 b8 b12 vt8_13 vt9_15 r39
 else
  MU a0 vt5_3 b8 b12 vt8_13 vt9_15 ((a0.Mods.length:Int)==0))
def MW (a0:Aw) (vt5_3:Bool) (b8:Bool) (b12:Bool) (vt8_13:Bool):Option (Bool):=
 (Co a0.Op (97:Int)).bind fun r40=>
 (if r40=true then
  (Rh a0.Amount).bind fun r42=>
  MV a0 vt5_3 b8 b12 vt8_13 r42
 else
  MV a0 vt5_3 b8 b12 vt8_13 (a0.Amount==(⟨0,0,0,(⟨0,0,0,0,0,0,0,[],0,0,(⟨0,0⟩:Ae),(⟨0,0⟩:Ae),(⟨0,0⟩:Ae)⟩:Af)⟩:Bv)))
def Oi (a0:Aw) (vt5_3:Bool):Option (Bool):=
 (gd ((a0.Zone==0)==false) (Co a0.Op (122:Int))).bind fun r5=>
 (some (if r5=true then decide (0<a0.Zone)else false)).bind fun b6=>
 (some (if b6=true then decide (a0.Zone≤4)else false)).bind fun b7=>
 (some (if(a0.Zone==0)=true then true else b7)).bind fun b8=>
 (gd ((a0.Counter==0)==false) (Co a0.Op (107:Int))).bind fun r9=>
 (gd (((a0.Counter==0)==false)&&(r9==true)) (P8 a0.Counter)).bind fun r10=>
 (some (if r9=true then r10 != ([]:List UInt8)else false)).bind fun b11=>
 (some (if(a0.Counter==0)=true then true else b11)).bind fun b12=>
 (Co a0.Op (99:Int)).bind fun r43=>
 (if r43=true then
  (XC a0.Card).bind fun r45=>
  MW a0 vt5_3 b8 b12 r45
 else
  MW a0 vt5_3 b8 b12 (a0.Card==([]:List UInt8)))
def Rl (a0:Aw) (a1:Int):Option (Bool):=
 (NG a0.Op).bind fun r1=>
 (if(r1==([]:List UInt8))=true then
  some false
 else
  (Co a0.Op (114:Int)).bind fun r46=>
  (if r46=true then
   (Rf a0.Ref a1).bind fun r48=>
   Oi a0 r48
  else
   Oi a0 (a0.Ref==(⟨0,0,(⟨0,0,0,0,0,0,0,[],0,0,(⟨0,0⟩:Ae),(⟨0,0⟩:Ae),(⟨0,0⟩:Ae)⟩:Af)⟩:IM))))
end Go.PL
