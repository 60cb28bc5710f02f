/- Functions of the program, as partial functions in Lean, with proofs. -/
import Derived.Test.YtelbpfkjhndccaaGreatDoorPlSbB
import Derived.Test.YtelbpfkjhndccaaGreatDoorPlSbF10
import Derived.Test.YtelbpfkjhndccaaGreatDoorPlSbF12
import Derived.Test.YtelbpfkjhndccaaGreatDoorPlSbF13
import Derived.Test.YtelbpfkjhndccaaGreatDoorPlSbF16
import Derived.Test.YtelbpfkjhndccaaGreatDoorPlSbF4
import Derived.Test.YtelbpfkjhndccaaGreatDoorPlSbF5
import Derived.Test.YtelbpfkjhndccaaGreatDoorPlSbF6
import Derived.Test.YtelbpfkjhndccaaGreatDoorPlSbF8
namespace Go.PL
open Go Go.RowKit Go.Proofs
set_option maxRecDepth 100000
set_option linter.all false
set_option maxHeartbeats 4000000
attribute [local irreducible] Ak Ca BP
def O1 (a0:List (E1)) (a1:Ai):Option (Bool):=
 (Jj a1).bind fun r1=>
 (gd (r1==true) (Jn a0 a1)).bind fun r2=>
 (some (if r1=true then r2 else false)).bind fun b3=>
 (gd (b3==true) (IH a1)).bind fun r4=>
 (some (if b3=true then r4 else false)).bind fun b5=>
 (gd (b5==true) (Kc a1)).bind fun r6=>
 (some (if b5=true then r6 else false)).bind fun b7=>
 (gd (b7==true) (Jw a1)).bind fun r8=>
 (some (if b7=true then r8 else false)).bind fun b9=>
 (gd (b9==true) (Jk a1)).bind fun r10=>
 (some (if b9=true then r10 else false)).bind fun b11=>
 some b11
def fS (a0:List (E1)) (a1:Ai) (r:Bool):Prop:=Af Tryz.prog I0 7 [vL G9 a0,vA Aj a1] (· =vB r)
theorem UC {a0:List (E1)} {a1:Ai} {r:Bool} (h:O1 a0 a1=some r):fS a0 a1 r:=by
 refine Af.bo Ae Tryz.func7 rfl Tryz.ntmps7 [.tmp 4] fun _ _ _ _=>?_
 unfold O1 at h
 refine Gg [.a,.a] (uo [1] [(3,vP [3] (0))] [.e (bx [3] (Aj a1))]) (aN) ?_
 obtain⟨r1,q0,r2,t0,b3,m0,r4,x0,h⟩:=D2 h
 obtain⟨b5,n0,r6,y0,b7,o0,r8,z0,h⟩:=D2 h
 obtain⟨b9,p0,d1,k0,i0,j0,h⟩:=I8 h
 exact Rg [.a,(.c (vB r1)),.a,.a,.a,(.c (vB r2)),(.v (vB b3)),.a,.a,(.c (vB r4)),(.v (vB b5)),.a,.a,(.c (vB r6)),(.v (vB b7)),.a,.a,(.c (vB r8)),(.v (vB b9)),.a,.a,(.c (vB d1)),(.v (vB i0)),.a] (sl 28 [(4,vB i0)] []) (aC (TQ q0)<|aC (c2 t0 TV)<|aT r1<|aB m0<|aC (c1 x0 Vb)<|aT b3<|aB n0<|aC (c1 y0 WZ)<|aT b5<|aB o0<|aC (c1 z0 T0)<|aT b7<|aB p0<|aC (c1 k0 TS)<|aT b9<|aB j0<|aN)<|hR<|bQ _ (kB h)
def IV (a0:Ay) (b4:Bool):Option (Bool):=
 (if b4=true then
  (O0 a0.Specs).bind fun r10=>
  (gd (r10==true) (LZ a0.Effects (a0.Specs.length:Int))).bind fun r11=>
  (some (if r10=true then r11 else false)).bind fun b12=>
  some b12
 else
  (some (if((a0.Specs.length:Int)==0)=true then(a0.Effects.length:Int)==0 else false)).bind fun b13=>
  some b13)
def Hx (a0:Ay) (b4:Bool):Option (Bool):=
 (if(a0.Kind==5)=true then
  (QI a0.Replace).bind fun r15=>
  (if(!r15)=true then
   some false
  else
   IV a0 b4)
 else
  (if(!(a0.Replace==(⟨0,0,(⟨0,0,0,0,0,0,0,[],0,0,(⟨0,0⟩:Ac),(⟨0,0⟩:Ac),(⟨0,0⟩:Ac)⟩:Ag),0,0,0,0⟩:AA)))=true then
   some false
  else
   IV a0 b4))
def Hy (a0:Ay) (b4:Bool):Option (Bool):=
 (if(a0.Kind==4)=true then
  (Oq a0.Trigger).bind fun r19=>
  (if(!r19)=true then
   some false
  else
   Hx a0 b4)
 else
  (some (if(!(a0.Trigger==(⟨0,0,(⟨0,0,0,0,0,0,0,[],0,0,(⟨0,0⟩:Ac),(⟨0,0⟩:Ac),(⟨0,0⟩:Ac)⟩:Ag)⟩:Bs)))=true then true else a0.May)).bind fun b21=>
  (if b21=true then
   some false
  else
   Hx a0 b4))
def Hz (a0:Ay) (b4:Bool):Option (Bool):=
 (if(a0.Kind==3)=true then
  (OV a0.Price).bind fun r24=>
  (if(!r24)=true then
   some false
  else
   Hy a0 b4)
 else
  (some (if(!(a0.Price==(⟨(⟨0,0,(⟨0,0,0,0,0⟩:A5 (Int))⟩:AP),false,false,0⟩:B5)))=true then true else a0.Slow)).bind fun b26=>
  (if b26=true then
   some false
  else
   Hy a0 b4))
def Lj (a0:Ay):Option (Bool):=
 (some (if(decide (a0.Kind<1))=true then true else decide (5<a0.Kind))).bind fun b1=>
 (if b1=true then
  some false
 else
  (some (if(a0.Kind==2)=true then true else a0.Kind==3)).bind fun b3=>
  (some (if b3=true then true else a0.Kind==4)).bind fun b4=>
  (if(a0.Kind==1)=true then
   (Lc a0.Filter).bind fun r29=>
   (some (if(!r29)=true then true else a0.Filter.Zone != 0)).bind fun b30=>
   (gd (b30==false) (FK a0.Mods)).bind fun r31=>
   (some (if b30=true then true else r31==([]:List UInt8))).bind fun b32=>
   (if b32=true then
    some false
   else
    Hz a0 b4)
  else
   (some (if(!(a0.Filter==(⟨0,0,0,0,0,0,0,[],0,0,(⟨0,0⟩:Ac),(⟨0,0⟩:Ac),(⟨0,0⟩:Ac)⟩:Ag)))=true then true else decide (0<(a0.Mods.length:Int)))).bind fun b34=>
   (if b34=true then
    some false
   else
    Hz a0 b4)))
def lY (a0:Ay) (r:Bool):Prop:=Af Tryz.prog I0 54 [vA Bc a0] (· =vB r)
theorem T1 {a0:Ay} {r:Bool} (h:Lj a0=some r):lY a0 r:=by
 refine Af.bo Ae Tryz.func54 rfl Tryz.ntmps54 [.tmp 2] fun _ _ _ _=>?_
 unfold Lj at h
 refine Rg [.a,.a] (sl 117 [(1,vP [1] (0))] [bx [1] (Bc a0)]) (aN)<|hS ?_
 obtain⟨b1,n2,h⟩:=bS h
 refine Gg [.a,.a,.a,.a,.a,.a,.a,(.v (vB b1))] (u [] [(11,vB b1)]) (aG ((decide (a0.Kind<1))==false)<|aG ((decide (a0.Kind<1))==false)<|aF (decide (a0.Kind<1))<|aB n2<|aN)<|iC h (fun h=>?_) (fun h=>?_)
 ·exact Rg [.a] (sl 117 [(2,vB false)] []) (aN)<|hR<|Tr<|bQ _ (kB h)
 refine hK<|Tn ?_
 obtain⟨b3,o2,b4,p2,h⟩:=Ex h
 refine Gg [.a,.a,.a,.a,.a,.a,.a,(.v (vB b3)),.a,.a,.a,.a,(.v (vB b4)),.a] (u [11] [(3,vB b4)]) (aG ((a0.Kind==2)==false)<|aG ((a0.Kind==2)==false)<|aF (a0.Kind==2)<|aB o2<|aG (b3==false)<|aG (b3==false)<|aF b3<|aB p2<|aN)<|Gj (X:=Unit) (fun v=>(u [] [])) (fun v=>Hz a0 b4=some r) ?_ ?_
 ·refine Gg (nA 3) (u [] [(27,vB (a0.Kind==1))]) (aN)<|iC h (fun h=>?_) (fun h=>?_)
  ·obtain⟨o0,k2,p0,q1,t2,m2,z0,t1,h⟩:=D2 h
   refine Gg [.a,.a,(.c (vB o0)),.a,.a,.a,.a,.a,.a,(.v (vB p0)),.a,.a,.a,(.c (vS t2)),.a,(.v (vB z0))] (u [27] [(43,vB z0)]) (aC (IE k2)<|aG ((!o0)==false)<|aG ((!o0)==false)<|aG ((!o0)==false)<|aF (!o0)<|aB q1<|aG (p0==false)<|aC (c1 m2 Mg)<|aG (p0==false)<|aF p0<|aB t1<|aN)<|iC h (fun h=>?_) (fun h=>?_)
   ·exact Rg [.a] (sl 117 [(2,vB false)] []) (aN)<|hR<|Tr<|bQ _ (kB h)
   refine hK<|Tn ⟨(),h,wT⟩
  obtain⟨d1,x1,h⟩:=bS h
  refine Gg [.a,.a,.a,(.v (vB (!(a0.Filter==(⟨0,0,0,0,0,0,0,[],0,0,(⟨0,0⟩:Ac),(⟨0,0⟩:Ac),(⟨0,0⟩:Ac)⟩:Ag))))),.a,.a,.a,.a,.a,(.v (vB d1))] (u [27] [(53,vB d1)]) (aC (And.intro trivial OJ)<|aC (congrArg (fun z=>V.c (.bool (!z))) (Nb a0.Filter (⟨0,0,0,0,0,0,0,[],0,0,(⟨0,0⟩:Ac),(⟨0,0⟩:Ac),(⟨0,0⟩:Ac)⟩:Ag)))<|aG ((!(a0.Filter==(⟨0,0,0,0,0,0,0,[],0,0,(⟨0,0⟩:Ac),(⟨0,0⟩:Ac),(⟨0,0⟩:Ac)⟩:Ag)))==false)<|aG ((!(a0.Filter==(⟨0,0,0,0,0,0,0,[],0,0,(⟨0,0⟩:Ac),(⟨0,0⟩:Ac),(⟨0,0⟩:Ac)⟩:Ag)))==false)<|aG ((!(a0.Filter==(⟨0,0,0,0,0,0,0,[],0,0,(⟨0,0⟩:Ac),(⟨0,0⟩:Ac),(⟨0,0⟩:Ac)⟩:Ag)))==false)<|aF (!(a0.Filter==(⟨0,0,0,0,0,0,0,[],0,0,(⟨0,0⟩:Ac),(⟨0,0⟩:Ac),(⟨0,0⟩:Ac)⟩:Ag)))<|aB x1<|aN)<|iC h (fun h=>?_) (fun h=>?_)
  ·exact Rg [.a] (sl 117 [(2,vB false)] []) (aN)<|hR<|Tr<|bQ _ (kB h)
  refine hK<|Tn ⟨(),h,wT⟩
 rintro _ i0
 replace i0:Hz a0 b4=some r:=i0
 unfold Hz at i0
 refine Gj (X:=Unit) (fun v=>(u [] [])) (fun v=>Hy a0 b4=some r) ?_ ?_
 ·refine Gg (nA 3) (u [] [(56,vB (a0.Kind==3))]) (aN)<|iC i0 (fun i0=>?_) (fun i0=>?_)
  ·obtain⟨k1,j2,i0⟩:=bS i0
   refine Gg [.a,.a,(.c (vB k1)),.a] (u [56] [(60,vB (!k1))]) (aC (ZT j2)<|aN)<|iC i0 (fun i0=>?_) (fun i0=>?_)
   ·exact Rg [.a] (sl 117 [(2,vB false)] []) (aN)<|hR<|Tr<|bQ _ (kB i0)
   refine hK<|Tn ⟨(),i0,wT⟩
  obtain⟨y0,p1,i0⟩:=bS i0
  refine Gg [.a,.a,.a,(.v (vB (!(a0.Price==(⟨(⟨0,0,(⟨0,0,0,0,0⟩:A5 (Int))⟩:AP),false,false,0⟩:B5))))),.a,.a,.a,(.v (vB y0))] (u [56] [(68,vB y0)]) (aC (And.intro trivial sZ)<|aC (congrArg (fun z=>V.c (.bool (!z))) (gZ a0.Price (⟨(⟨0,0,(⟨0,0,0,0,0⟩:A5 (Int))⟩:AP),false,false,0⟩:B5)))<|aG ((!(a0.Price==(⟨(⟨0,0,(⟨0,0,0,0,0⟩:A5 (Int))⟩:AP),false,false,0⟩:B5)))==false)<|aF (!(a0.Price==(⟨(⟨0,0,(⟨0,0,0,0,0⟩:A5 (Int))⟩:AP),false,false,0⟩:B5)))<|aB p1<|aN)<|iC i0 (fun i0=>?_) (fun i0=>?_)
  ·exact Rg [.a] (sl 117 [(2,vB false)] []) (aN)<|hR<|Tr<|bQ _ (kB i0)
  refine hK<|Tn ⟨(),i0,wT⟩
 rintro _ j0
 replace j0:Hy a0 b4=some r:=j0
 unfold Hy at j0
 refine Gj (X:=Unit) (fun v=>(u [] [])) (fun v=>Hx a0 b4=some r) ?_ ?_
 ·refine Gg (nA 3) (u [] [(71,vB (a0.Kind==4))]) (aN)<|iC j0 (fun j0=>?_) (fun j0=>?_)
  ·obtain⟨j1,i2,j0⟩:=bS j0
   refine Gg [.a,.a,(.c (vB j1)),.a] (u [71] [(75,vB (!j1))]) (aC (jI i2)<|aN)<|iC j0 (fun j0=>?_) (fun j0=>?_)
   ·exact Rg [.a] (sl 117 [(2,vB false)] []) (aN)<|hR<|Tr<|bQ _ (kB j0)
   refine hK<|Tn ⟨(),j0,wT⟩
  obtain⟨x0,o1,j0⟩:=bS j0
  refine Gg [.a,.a,.a,(.v (vB (!(a0.Trigger==(⟨0,0,(⟨0,0,0,0,0,0,0,[],0,0,(⟨0,0⟩:Ac),(⟨0,0⟩:Ac),(⟨0,0⟩:Ac)⟩:Ag)⟩:Bs))))),.a,.a,.a,(.v (vB x0))] (u [71] [(83,vB x0)]) (aC (And.intro trivial s2)<|aC (congrArg (fun z=>V.c (.bool (!z))) (g0 a0.Trigger (⟨0,0,(⟨0,0,0,0,0,0,0,[],0,0,(⟨0,0⟩:Ac),(⟨0,0⟩:Ac),(⟨0,0⟩:Ac)⟩:Ag)⟩:Bs)))<|aG ((!(a0.Trigger==(⟨0,0,(⟨0,0,0,0,0,0,0,[],0,0,(⟨0,0⟩:Ac),(⟨0,0⟩:Ac),(⟨0,0⟩:Ac)⟩:Ag)⟩:Bs)))==false)<|aF (!(a0.Trigger==(⟨0,0,(⟨0,0,0,0,0,0,0,[],0,0,(⟨0,0⟩:Ac),(⟨0,0⟩:Ac),(⟨0,0⟩:Ac)⟩:Ag)⟩:Bs)))<|aB o1<|aN)<|iC j0 (fun j0=>?_) (fun j0=>?_)
  ·exact Rg [.a] (sl 117 [(2,vB false)] []) (aN)<|hR<|Tr<|bQ _ (kB j0)
  refine hK<|Tn ⟨(),j0,wT⟩
 rintro _ k0
 replace k0:Hx a0 b4=some r:=k0
 unfold Hx at k0
 refine Gj (X:=Unit) (fun v=>(u [] [])) (fun v=>IV a0 b4=some r) ?_ ?_
 ·refine Gg (nA 3) (u [] [(86,vB (a0.Kind==5))]) (aN)<|iC k0 (fun k0=>?_) (fun k0=>?_)
  ·obtain⟨i1,d2,k0⟩:=bS k0
   refine Gg [.a,.a,(.c (vB i1)),.a] (u [86] [(90,vB (!i1))]) (aC (jL d2)<|aN)<|iC k0 (fun k0=>?_) (fun k0=>?_)
   ·exact Rg [.a] (sl 117 [(2,vB false)] []) (aN)<|hR<|Tr<|bQ _ (kB k0)
   refine hK<|Tn ⟨(),k0,wT⟩
  refine Gg [.a,.a,.a,(.v (vB (!(a0.Replace==(⟨0,0,(⟨0,0,0,0,0,0,0,[],0,0,(⟨0,0⟩:Ac),(⟨0,0⟩:Ac),(⟨0,0⟩:Ac)⟩:Ag),0,0,0,0⟩:AA)))))] (u [86] [(94,vB (!(a0.Replace==(⟨0,0,(⟨0,0,0,0,0,0,0,[],0,0,(⟨0,0⟩:Ac),(⟨0,0⟩:Ac),(⟨0,0⟩:Ac)⟩:Ag),0,0,0,0⟩:AA))))]) (aC (And.intro trivial pK)<|aC (congrArg (fun z=>V.c (.bool (!z))) (bK a0.Replace (⟨0,0,(⟨0,0,0,0,0,0,0,[],0,0,(⟨0,0⟩:Ac),(⟨0,0⟩:Ac),(⟨0,0⟩:Ac)⟩:Ag),0,0,0,0⟩:AA)))<|aN)<|iC k0 (fun k0=>?_) (fun k0=>?_)
  ·exact Rg [.a] (sl 117 [(2,vB false)] []) (aN)<|hR<|Tr<|bQ _ (kB k0)
  refine hK<|Tn ⟨(),k0,wT⟩
 rintro _ m0
 replace m0:IV a0 b4=some r:=m0
 unfold IV at m0
 refine hS<|Gg [.a] (u [3] [(95,vB b4)]) (aN)<|iC m0 (fun m0=>?_) (fun m0=>?_)
 ·obtain⟨n0,y1,q2,z1,q0,m1,m0⟩:=I8 m0
  exact Rg [.a,.a,(.c (vB n0)),.a,.a,.a,.a,.a,.a,(.c (vB q2)),(.v (vB q0)),.a] (sl 117 [(2,vB q0)] []) (aC (Z3 y1)<|aG (n0==true)<|aG (n0==true)<|aG (n0==true)<|aC (c2 z1 W0)<|aT n0<|aB m1<|aN)<|hR<|Tr<|bQ _ (kB m0)
 refine hK<|Tn ?_
 obtain⟨t0,n1,m0⟩:=bS m0
 exact Rg [.a,.a,.a,.a,.a,.a,.a,.a,.a,(.v (vB t0)),.a] (sl 117 [(2,vB t0)] []) (aG (((a0.Specs.length:Int)==0)==true)<|aG (((a0.Specs.length:Int)==0)==true)<|aG (((a0.Specs.length:Int)==0)==true)<|aT ((a0.Specs.length:Int)==0)<|aB n1<|aN)<|hR<|bQ _ (kB m0)
end Go.PL
