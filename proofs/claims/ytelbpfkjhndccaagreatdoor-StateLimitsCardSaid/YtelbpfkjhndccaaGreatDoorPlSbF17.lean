/- Functions of the program, as partial functions in Lean, with proofs. -/
import Derived.Test.YtelbpfkjhndccaaGreatDoorPlSbB
import Derived.Test.YtelbpfkjhndccaaGreatDoorPlSbF10
import Derived.Test.YtelbpfkjhndccaaGreatDoorPlSbF12
import Derived.Test.YtelbpfkjhndccaaGreatDoorPlSbF13
import Derived.Test.YtelbpfkjhndccaaGreatDoorPlSbF16
import Derived.Test.YtelbpfkjhndccaaGreatDoorPlSbF4
import Derived.Test.YtelbpfkjhndccaaGreatDoorPlSbF5
import Derived.Test.YtelbpfkjhndccaaGreatDoorPlSbF6
import Derived.Test.YtelbpfkjhndccaaGreatDoorPlSbF8
namespace Go.PL
open Go Go.RowKit Go.Proofs
set_option maxRecDepth 100000
set_option linter.all false
set_option maxHeartbeats 4000000
attribute [local irreducible] Ai B4 BL
def Hd (a0:List (HW)) (a1:Aj):Option (Bool):=
 (H0 a1).bind fun r1=>
 (gd (r1==true) (H4 a0 a1)).bind fun r2=>
 (some (if r1=true then r2 else false)).bind fun b3=>
 (gd (b3==true) (HF a1)).bind fun r4=>
 (some (if b3=true then r4 else false)).bind fun b5=>
 (gd (b5==true) (IJ a1)).bind fun r6=>
 (some (if b5=true then r6 else false)).bind fun b7=>
 (gd (b7==true) (Ib a1)).bind fun r8=>
 (some (if b7=true then r8 else false)).bind fun b9=>
 (gd (b9==true) (H1 a1)).bind fun r10=>
 (some (if b9=true then r10 else false)).bind fun b11=>
 some b11
def aQ (a0:List (HW)) (a1:Aj) (r:Bool):Prop:=Ah Tryz.prog I0 7 [vL JD a0,vA Am a1] (· =vB r)
theorem Lt {a0:List (HW)} {a1:Aj} {r:Bool} (h:Hd a0 a1=some r):aQ a0 a1 r:=by
 refine Ah.bo Ag Tryz.func7 rfl Tryz.ntmps7 [.tmp 4] fun _ _ _ _=>?_
 unfold Hd at h
 refine Gg [.a,.a] (uo [1] [(3,vP [3] (0))] [.e (bx [3] (Am a1))]) (aN) ?_
 obtain⟨r1,q0,r2,t0,b3,m0,r4,x0,h⟩:=Ij h
 obtain⟨b5,n0,r6,y0,b7,o0,r8,z0,h⟩:=Ij h
 obtain⟨b9,p0,d1,k0,i0,j0,h⟩:=M9 h
 exact Rg [.a,(.c (vB r1)),.a,.a,.a,(.c (vB r2)),(.v (vB b3)),.a,.a,(.c (vB r4)),(.v (vB b5)),.a,.a,(.c (vB r6)),(.v (vB b7)),.a,.a,(.c (vB r8)),(.v (vB b9)),.a,.a,(.c (vB d1)),(.v (vB i0)),.a] (sl 28 [(4,vB i0)] []) (aC (Q3 q0)<|aC (c2 t0 Q7)<|aT r1<|aB m0<|aC (c1 x0 Sp)<|aT b3<|aB n0<|aC (c1 y0 UG)<|aT b5<|aB o0<|aC (c1 z0 Rm)<|aT b7<|aB p0<|aC (c1 k0 Q5)<|aT b9<|aB j0<|aN)<|hR<|bQ _ (kB h)
def Kx (a0:AN) (b4:Bool):Option (Bool):=
 (if b4=true then
  (Rj a0.Specs).bind fun r10=>
  (gd (r10==true) (NS a0.Effects (a0.Specs.length:Int))).bind fun r11=>
  (some (if r10=true then r11 else false)).bind fun b12=>
  some b12
 else
  (some (if((a0.Specs.length:Int)==0)=true then(a0.Effects.length:Int)==0 else false)).bind fun b13=>
  some b13)
def Jm (a0:AN) (b4:Bool):Option (Bool):=
 (if(a0.Kind==5)=true then
  (Rk a0.Replace).bind fun r15=>
  (if(!r15)=true then
   some false
  else
   Kx a0 b4)
 else
  (if(!(a0.Replace==(⟨0,0,(⟨0,0,0,0,0,0,0,[],0,0,(⟨0,0⟩:Ae),(⟨0,0⟩:Ae),(⟨0,0⟩:Ae)⟩:Af),0,0,0,0⟩:AJ)))=true then
   some false
  else
   Kx a0 b4))
def Jn (a0:AN) (b4:Bool):Option (Bool):=
 (if(a0.Kind==4)=true then
  (NP a0.Trigger).bind fun r19=>
  (if(!r19)=true then
   some false
  else
   Jm a0 b4)
 else
  (some (if(!(a0.Trigger==(⟨0,0,(⟨0,0,0,0,0,0,0,[],0,0,(⟨0,0⟩:Ae),(⟨0,0⟩:Ae),(⟨0,0⟩:Ae)⟩:Af)⟩:By)))=true then true else a0.May)).bind fun b21=>
  (if b21=true then
   some false
  else
   Jm a0 b4))
def Jo (a0:AN) (b4:Bool):Option (Bool):=
 (if(a0.Kind==3)=true then
  (Q6 a0.Price).bind fun r24=>
  (if(!r24)=true then
   some false
  else
   Jn a0 b4)
 else
  (some (if(!(a0.Price==(⟨(⟨0,0,(⟨0,0,0,0,0⟩:A5 (Int))⟩:A1),false,false,0⟩:CG)))=true then true else a0.Slow)).bind fun b26=>
  (if b26=true then
   some false
  else
   Jn a0 b4))
def Pg (a0:AN):Option (Bool):=
 (some (if(decide (a0.Kind<1))=true then true else decide (5<a0.Kind))).bind fun b1=>
 (if b1=true then
  some false
 else
  (some (if(a0.Kind==2)=true then true else a0.Kind==3)).bind fun b3=>
  (some (if b3=true then true else a0.Kind==4)).bind fun b4=>
  (if(a0.Kind==1)=true then
   (K3 a0.Filter).bind fun r29=>
   (some (if(!r29)=true then true else a0.Filter.Zone != 0)).bind fun b30=>
   (gd (b30==false) (IZ a0.Mods)).bind fun r31=>
   (some (if b30=true then true else r31==([]:List UInt8))).bind fun b32=>
   (if b32=true then
    some false
   else
    Jo a0 b4)
  else
   (some (if(!(a0.Filter==(⟨0,0,0,0,0,0,0,[],0,0,(⟨0,0⟩:Ae),(⟨0,0⟩:Ae),(⟨0,0⟩:Ae)⟩:Af)))=true then true else decide (0<(a0.Mods.length:Int)))).bind fun b34=>
   (if b34=true then
    some false
   else
    Jo a0 b4)))
end Go.PL
