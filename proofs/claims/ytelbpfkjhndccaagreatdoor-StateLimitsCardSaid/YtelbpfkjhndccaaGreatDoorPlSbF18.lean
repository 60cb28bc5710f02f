/- Functions of the program, as partial functions in Lean, with proofs. -/
import Derived.Test.YtelbpfkjhndccaaGreatDoorPlSbB
import Derived.Test.YtelbpfkjhndccaaGreatDoorPlSbF0
import Derived.Test.YtelbpfkjhndccaaGreatDoorPlSbF14
import Derived.Test.YtelbpfkjhndccaaGreatDoorPlSbF17
import Derived.Test.YtelbpfkjhndccaaGreatDoorPlSbF4
import Derived.Test.YtelbpfkjhndccaaGreatDoorPlSbF6
import Derived.Test.YtelbpfkjhndccaaGreatDoorPlSbF8
namespace Go.PL
open Go Go.RowKit Go.Proofs
set_option maxRecDepth 100000
set_option linter.all false
set_option maxHeartbeats 4000000
attribute [local irreducible] Ai B4 BL
def JK:Option (Bool):=
 (QW (2:Int) (1:Int) (7:Int)).bind fun r1=>
 (gd (((r1.Players.length:Int)==2)==true) (idx r1.Players (0:Int))).bind fun e2=>
 (some (if((r1.Players.length:Int)==2)=true then e2.Life==20 else false)).bind fun b3=>
 (some (if b3=true then r1.Active==1 else false)).bind fun b4=>
 (some (if b4=true then r1.Seed==7 else false)).bind fun b5=>
 (gd (b5==true) (Hd ([]:List (HW)) r1)).bind fun r6=>
 (some (if b5=true then r6 else false)).bind fun b7=>
 (gd (b7==true) (Pf r1 r1)).bind fun r8=>
 (some (if b7=true then r8 else false)).bind fun b9=>
 (gd (b9==true) (NM r1 (1:Int))).bind fun r10=>
 (some (if b9=true then r10==0 else false)).bind fun b11=>
 (gd (b11==true) (O8 r1 (1:Int))).bind fun r12=>
 (some (if b11=true then r12.Winner==1 else false)).bind fun b13=>
 some b13
def VH (r:Bool):Prop:=Ah Tryz.prog I0 6 [] (· =vB r)
theorem NT {r:Bool} (h:JK=some r):VH r:=by
 refine Ah.bo Ag Tryz.func6 rfl Tryz.ntmps6 [.tmp 0] fun _ _ _ _=>?_
 unfold JK at h
 refine Rg [.a] (sl 45 [] []) (aN) ?_
 obtain⟨r1,d1,h⟩:=bS h
 refine Rg [(.c (vA Am r1)),.a,.a] (sl 45 [(1,vP [1] (0))] [bx [1] (Am r1)]) (aC (Xo d1)<|aN) ?_
 obtain⟨e2,k0,b3,q0,b4,t0,b5,x0,h⟩:=Ij h
 obtain⟨r6,i1,b7,y0,r8,j1,b9,z0,h⟩:=Ij h
 obtain⟨k1,o0,i0,m0,m1,p0,j0,n0,h⟩:=Ij h
 exact Rg [.a,.a,.a,.a,.a,.a,.a,.a,.a,(.v (vI e2.Life)),.a,(.v (vB b3)),.a,.a,.a,.a,(.v (vB b4)),.a,.a,.a,.a,(.v (vB b5)),.a,.a,(.c (vB r6)),(.v (vB b7)),.a,.a,.a,(.c (vB r8)),(.v (vB b9)),.a,.a,(.c (vI k1)),.a,(.v (vB i0)),.a,.a,(.c (vA Am m1)),.a,.a,(.v (vB j0)),.a] (sl 45 [(0,vB j0)] []) (aG (((r1.Players.length:Int)==2)==true)<|aC (fun hg:(((r1.Players.length:Int)==2)==true)=true=>aC (gi (((r1.Players.length:Int)==2)==true))<|aC (OW k0 hg).1<|aN)<|aG (((r1.Players.length:Int)==2)==true)<|aC (fun hg:(((r1.Players.length:Int)==2)==true)=true=>aC (gi (((r1.Players.length:Int)==2)==true))<|aC (GN (M8 k0 hg) C1 0 1 false (vI e2.Life))<|aC (Eq.refl (vI e2.Life))<|aN)<|aG (((r1.Players.length:Int)==2)==true)<|aT ((r1.Players.length:Int)==2)<|aB q0<|aG (b3==true)<|aG (b3==true)<|aT b3<|aB t0<|aG (b4==true)<|aG (b4==true)<|aT b4<|aB x0<|aC (c1 i1 Lt)<|aT b5<|aB y0<|aC (c2 j1 VF)<|aT b7<|aB z0<|aC (c1 o0 Uy)<|aG (b9==true)<|aT b9<|aB m0<|aC (c1 p0 VC)<|aG (i0==true)<|aG (i0==true)<|aT i0<|aB n0<|aN)<|hR<|bQ _ (kB h)
end Go.PL
