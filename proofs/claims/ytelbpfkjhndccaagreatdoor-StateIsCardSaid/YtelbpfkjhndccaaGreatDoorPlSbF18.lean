/- Functions of the program, as partial functions in Lean, with proofs. -/
import Derived.Test.YtelbpfkjhndccaaGreatDoorPlSbB
import Derived.Test.YtelbpfkjhndccaaGreatDoorPlSbF0
import Derived.Test.YtelbpfkjhndccaaGreatDoorPlSbF14
import Derived.Test.YtelbpfkjhndccaaGreatDoorPlSbF17
import Derived.Test.YtelbpfkjhndccaaGreatDoorPlSbF4
import Derived.Test.YtelbpfkjhndccaaGreatDoorPlSbF6
import Derived.Test.YtelbpfkjhndccaaGreatDoorPlSbF8
namespace Go.PL
open Go Go.RowKit Go.Proofs
set_option maxRecDepth 100000
set_option linter.all false
set_option maxHeartbeats 4000000
attribute [local irreducible] Ak Ca BP
def L0:Option (Bool):=
 (TF (2:Int) (1:Int) (7:Int)).bind fun r1=>
 (gd (((r1.Players.length:Int)==2)==true) (idx r1.Players (0:Int))).bind fun e2=>
 (some (if((r1.Players.length:Int)==2)=true then e2.Life==20 else false)).bind fun b3=>
 (some (if b3=true then r1.Active==1 else false)).bind fun b4=>
 (some (if b4=true then r1.Seed==7 else false)).bind fun b5=>
 (gd (b5==true) (O1 ([]:List (E1)) r1)).bind fun r6=>
 (some (if b5=true then r6 else false)).bind fun b7=>
 (gd (b7==true) (R7 r1 r1)).bind fun r8=>
 (some (if b7=true then r8 else false)).bind fun b9=>
 (gd (b9==true) (QB r1 (1:Int))).bind fun r10=>
 (some (if b9=true then r10==0 else false)).bind fun b11=>
 (gd (b11==true) (R5 r1 (1:Int))).bind fun r12=>
 (some (if b11=true then r12.Winner==1 else false)).bind fun b13=>
 some b13
def XP (r:Bool):Prop:=Af Tryz.prog I0 6 [] (· =vB r)
theorem QL {r:Bool} (h:L0=some r):XP r:=by
 refine Af.bo Ae Tryz.func6 rfl Tryz.ntmps6 [.tmp 0] fun _ _ _ _=>?_
 unfold L0 at h
 refine Rg [.a] (sl 45 [] []) (aN) ?_
 obtain⟨r1,d1,h⟩:=bS h
 refine Rg [(.c (vA Aj r1)),.a,.a] (sl 45 [(1,vP [1] (0))] [bx [1] (Aj r1)]) (aC (Zw d1)<|aN) ?_
 obtain⟨e2,k0,b3,q0,b4,t0,b5,x0,h⟩:=D2 h
 obtain⟨r6,i1,b7,y0,r8,j1,b9,z0,h⟩:=D2 h
 obtain⟨k1,o0,i0,m0,m1,p0,j0,n0,h⟩:=D2 h
 exact Rg [.a,.a,.a,.a,.a,.a,.a,.a,.a,(.v (vI e2.Life)),.a,(.v (vB b3)),.a,.a,.a,.a,(.v (vB b4)),.a,.a,.a,.a,(.v (vB b5)),.a,.a,(.c (vB r6)),(.v (vB b7)),.a,.a,.a,(.c (vB r8)),(.v (vB b9)),.a,.a,(.c (vI k1)),.a,(.v (vB i0)),.a,.a,(.c (vA Aj m1)),.a,.a,(.v (vB j0)),.a] (sl 45 [(0,vB j0)] []) (aG (((r1.Players.length:Int)==2)==true)<|aC (fun hg:(((r1.Players.length:Int)==2)==true)=true=>aC (gi (((r1.Players.length:Int)==2)==true))<|aC (KW k0 hg).1<|aN)<|aG (((r1.Players.length:Int)==2)==true)<|aC (fun hg:(((r1.Players.length:Int)==2)==true)=true=>aC (gi (((r1.Players.length:Int)==2)==true))<|aC (DI (G8 k0 hg) Cp 0 1 false (vI e2.Life))<|aC (Eq.refl (vI e2.Life))<|aN)<|aG (((r1.Players.length:Int)==2)==true)<|aT ((r1.Players.length:Int)==2)<|aB q0<|aG (b3==true)<|aG (b3==true)<|aT b3<|aB t0<|aG (b4==true)<|aG (b4==true)<|aT b4<|aB x0<|aC (c1 i1 UC)<|aT b5<|aB y0<|aC (c2 j1 XM)<|aT b7<|aB z0<|aC (c1 o0 WP)<|aG (b9==true)<|aT b9<|aB m0<|aC (c1 p0 XG)<|aG (i0==true)<|aG (i0==true)<|aT i0<|aB n0<|aN)<|hR<|bQ _ (kB h)
def QM (a0:Ai) (a1:Cb):Option (Bool):=
 (HD a1.Id (1:Int) (Ab (a0.NextId - 1))).bind fun r1=>
 (gd ((!r1)==false) (HD a1.X (0:Int) (1000000:Int))).bind fun r2=>
 (some (if(!r1)=true then true else !r2)).bind fun b3=>
 (some (if b3=true then true else decide (4<(a1.Targets.length:Int)))).bind fun b4=>
 (gd (b4==false) (Dd a0 a1.Control)).bind fun r5=>
 (some (if b4=true then true else !r5)).bind fun b6=>
 (if b6=true then
  some false
 else
  (K9 a0 a1.Id).bind fun r8=>
  (if(a1.Kind==1)=true then
   (OY a1.Ability (⟨0,(⟨0,0,0,0,0,0,0,[],0,0,(⟨0,0⟩:Ac),(⟨0,0⟩:Ac),(⟨0,0⟩:Ac)⟩:Ag),([]:List (Bq)),(⟨(⟨0,0,(⟨0,0,0,0,0⟩:A5 (Int))⟩:AP),false,false,0⟩:B5),false,(⟨0,0,(⟨0,0,0,0,0,0,0,[],0,0,(⟨0,0⟩:Ac),(⟨0,0⟩:Ac),(⟨0,0⟩:Ac)⟩:Ag)⟩:Bs),false,([]:List (CA)),([]:List (Ar)),(⟨0,0,(⟨0,0,0,0,0,0,0,[],0,0,(⟨0,0⟩:Ac),(⟨0,0⟩:Ac),(⟨0,0⟩:Ac)⟩:Ag),0,0,0,0⟩:AA)⟩:Ay)).bind fun r10=>
   (some (if(a1.Source==a1.Id)=true then r8.2 else false)).bind fun b11=>
   (some (if b11=true then r8.1.Zone==5 else false)).bind fun b12=>
   (gd ((b12==true)&&(r10==false)) (Lj a1.Ability)).bind fun r13=>
   (some (if r10=true then true else r13)).bind fun b14=>
   (some (if b12=true then b14 else false)).bind fun b15=>
   some b15
  else
   (some (if(a1.Kind==2)=true then !r8.2 else false)).bind fun b16=>
   (gd (b16==true) (Lj a1.Ability)).bind fun r17=>
   (some (if b16=true then r17 else false)).bind fun b18=>
   some b18))
def fT (a0:Ai) (a1:Cb) (r:Bool):Prop:=Af Tryz.prog I0 53 [vA Aj a0,vA Au a1] (· =vB r)
theorem cU {a0:Ai} {a1:Cb} {r:Bool} (h:QM a0 a1=some r):fT a0 a1 r:=by
 refine Af.bo Ae Tryz.func53 rfl Tryz.ntmps53 [.tmp 4] fun _ _ _ _=>?_
 unfold QM at h
 refine Rg (nA 3) (sl 81 [(2,vP [2] (0)),(3,vP [3] (0))] [bx [3] (Au a1),bx [2] (Aj a0)]) (aN)<|hS ?_
 obtain⟨r1,p1,r2,q1,b3,m1,b4,n1,h⟩:=D2 h
 obtain⟨r5,t1,b6,o1,h⟩:=Ex h
 refine Gg [.a,.a,.a,.a,.a,(.c (vB r1)),.a,.a,.a,.a,(.c (vB r2)),.a,(.v (vB b3)),.a,.a,.a,.a,.a,(.v (vB b4)),.a,.a,.a,.a,(.c (vB r5)),.a,(.v (vB b6))] (u [] [(33,vB b6)]) (aC (Ee p1)<|aG ((!r1)==false)<|aC (c1 q1 Ee)<|aG ((!r1)==false)<|aF (!r1)<|aB m1<|aG (b3==false)<|aG (b3==false)<|aG (b3==false)<|aF b3<|aB n1<|aG (b4==false)<|aC (c2 t1 FV)<|aG (b4==false)<|aF b4<|aB o1<|aN)<|iC h (fun h=>?_) (fun h=>?_)
 ·exact Rg [.a] (sl 81 [(4,vB false)] []) (aN)<|hR<|Tr<|bQ _ (kB h)
 refine hK<|Tn ?_
 obtain⟨r8,x1,h⟩:=bS h
 refine Gg [.a,.a,.a,(.c (.tup [vA Ad r8.1,vB r8.2])),.a,.a,.a,.a,.a,.a] (uo [2,33] [(5,vP [5] (0)),(6,vB r8.2)] [.e (bx [5] (Ad r8.1)),.k 0]) (aC (RA x1)<|aC (show True∧0<[V.undef,V.undef].length from⟨trivial,(by decide)⟩)<|aC (show True∧1<[V.undef,V.undef].length from⟨trivial,(by decide)⟩)<|aN)<|hS<|Gg (nA 3) (u [] [(43,vB (a1.Kind==1))]) (aN)<|iC h (fun h=>?_) (fun h=>?_)
 ·obtain⟨k0,d1,h⟩:=bS h
  refine Gg [.a,.a,.a,(.c (vB k0)),.a] (u [43] [(7,vB k0)]) (aC (And.intro trivial ia)<|aC (cK d1)<|aN) ?_
  obtain⟨j0,p0,i0,q0,y1,i1,k1,t0,h⟩:=D2 h
  obtain⟨n0,x0,h⟩:=bS h
  exact Rg [.a,.a,.a,.a,.a,.a,.a,(.v (vB j0)),.a,.a,.a,.a,(.v (vB i0)),.a,.a,.a,.a,.a,(.c (vB y1)),(.v (vB k1)),(.v (vB n0)),.a] (sl 81 [(4,vB n0)] []) (aT (a1.Source==a1.Id)<|aB p0<|aG (j0==true)<|aG (j0==true)<|aT j0<|aB q0<|aG (i0==true)<|aG ((i0==true)&&(k0==false))<|aC (c1 i1 T1)<|aC (fun hg:(i0==true)=true=>aC (gi (i0==true))<|aC (fun q:k0=false=>(gA hg (gF q)))<|aB t0<|aN)<|aT i0<|aB x0<|aN)<|hR<|Tr<|bQ _ (kB h)
 refine hK<|Tn ?_
 obtain⟨m0,y0,z1,j1,o0,z0,h⟩:=I8 h
 exact Rg [.a,.a,.a,.a,.a,.a,(.v (vB m0)),.a,.a,.a,(.c (vB z1)),(.v (vB o0)),.a] (sl 81 [(4,vB o0)] []) (aG ((a1.Kind==2)==true)<|aT (a1.Kind==2)<|aB y0<|aG (m0==true)<|aC (c1 j1 T1)<|aT m0<|aB z0<|aN)<|hR<|bQ _ (kB h)
end Go.PL
