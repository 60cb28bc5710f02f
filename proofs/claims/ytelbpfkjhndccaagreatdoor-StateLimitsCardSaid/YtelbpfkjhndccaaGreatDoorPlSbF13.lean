/- Functions of the program, as partial functions in Lean, with proofs. -/
import Derived.Test.YtelbpfkjhndccaaGreatDoorPlSbB
import Derived.Test.YtelbpfkjhndccaaGreatDoorPlSbF0
import Derived.Test.YtelbpfkjhndccaaGreatDoorPlSbF10
import Derived.Test.YtelbpfkjhndccaaGreatDoorPlSbF12
import Derived.Test.YtelbpfkjhndccaaGreatDoorPlSbF2
import Derived.Test.YtelbpfkjhndccaaGreatDoorPlSbF6
import Derived.Test.YtelbpfkjhndccaaGreatDoorPlSbF8
namespace Go.PL
open Go Go.RowKit Go.Proofs
set_option maxRecDepth 100000
set_option linter.all false
set_option maxHeartbeats 4000000
attribute [local irreducible] Ai B4 BL
def EA (vt152_24:Bool):Option (Bool):=
 (if vt152_24=true then
  some false
 else
  some true)
def DN (a0:Aw) (a1:Bz) (vt128_21:Bool):Option (Bool):=
 (if vt128_21=true then
  some false
 else
  (gd (a1.mods==true) (E8 a0.Mods)).bind fun r27=>
  (some (if a1.mods=true then r27==([]:List UInt8)else false)).bind fun b28=>
  (if b28=true then
   EA b28
  else
   (some (if(!a1.mods)=true then decide (0<(a0.Mods.length:Int))else false)).bind fun b30=>
   EA b30))
def DO (a0:Aw) (a1:Bz) (vt103_18:Bool):Option (Bool):=
 (if vt103_18=true then
  some false
 else
  (gd ((a1.pool==true)&&((a0.Pool==(⟨0,0,0,0,0,0⟩:A6 (Int)))==false)) (GA a0.Pool)).bind fun r31=>
  (some (if(a0.Pool==(⟨0,0,0,0,0,0⟩:A6 (Int)))=true then true else r31==([]:List UInt8))).bind fun b32=>
  (some (if a1.pool=true then b32 else false)).bind fun b33=>
  (if b33=true then
   DN a0 a1 b33
  else
   (some (if(!a1.pool)=true then !(a0.Pool==(⟨0,0,0,0,0,0⟩:A6 (Int)))else false)).bind fun b35=>
   DN a0 a1 b35))
def DP (a0:Aw) (a1:Bz) (vt7_1:Int) (vt86_15:Bool):Option (Bool):=
 (if vt86_15=true then
  some false
 else
  (gd (a1.filter==true) (CR a0.Filter)).bind fun r36=>
  (some (if(!r36)=true then true else a0.Filter.Zone != vt7_1)).bind fun b37=>
  (some (if a1.filter=true then b37 else false)).bind fun b38=>
  (if b38=true then
   DO a0 a1 b38
  else
   (some (if(!a1.filter)=true then !(a0.Filter==(⟨0,0,0,0,0,0,0,[],0,0,(⟨0,0⟩:Ae),(⟨0,0⟩:Ae),(⟨0,0⟩:Ae)⟩:Af))else false)).bind fun b40=>
   DO a0 a1 b40))
def DQ (a0:Aw) (a1:Bz) (vt7_1:Int) (vt65_12:Bool):Option (Bool):=
 (if vt65_12=true then
  some false
 else
  (gd (a1.card==true) (Oc a0.Card)).bind fun r41=>
  (some (if a1.card=true then !r41 else false)).bind fun b42=>
  (if b42=true then
   DP a0 a1 vt7_1 b42
  else
   (some (if(!a1.card)=true then a0.Card != ([]:List UInt8)else false)).bind fun b44=>
   DP a0 a1 vt7_1 b44))
def DR (a0:Aw) (a1:Bz) (vt7_1:Int) (vt48_9:Bool):Option (Bool):=
 (if vt48_9=true then
  some false
 else
  (some (if(decide (a0.Zone<0))=true then true else decide (4<a0.Zone))).bind fun b45=>
  (some (if a1.zone=true then b45 else false)).bind fun b46=>
  (if b46=true then
   DQ a0 a1 vt7_1 b46
  else
   (some (if(!a1.zone)=true then a0.Zone != 0 else false)).bind fun b48=>
   DQ a0 a1 vt7_1 b48))
def Ea (a0:Aw) (a1:Bz) (vt7_1:Int) (vt30_6:Bool):Option (Bool):=
 (if vt30_6=true then
  some false
 else
  (gd (a1.counter==true) (F0 a0.Counter)).bind fun r49=>
  (some (if a1.counter=true then r49==([]:List UInt8)else false)).bind fun b50=>
  (if b50=true then
   DR a0 a1 vt7_1 b50
  else
   (some (if(!a1.counter)=true then a0.Counter != 0 else false)).bind fun b52=>
   DR a0 a1 vt7_1 b52))
def Eb (a0:Aw) (a1:Bz) (vt7_1:Int) (vt11_3:Bool):Option (Bool):=
 (if vt11_3=true then
  some false
 else
  (gd (a1.amount==true) (Fw a0.Amount)).bind fun r53=>
  (some (if a1.amount=true then !r53 else false)).bind fun b54=>
  (if b54=true then
   Ea a0 a1 vt7_1 b54
  else
   (some (if(!a1.amount)=true then !(a0.Amount==(⟨0,0,0,(⟨0,0,0,0,0,0,0,[],0,0,(⟨0,0⟩:Ae),(⟨0,0⟩:Ae),(⟨0,0⟩:Ae)⟩:Af)⟩:Bv))else false)).bind fun b56=>
   Ea a0 a1 vt7_1 b56))
def Ec (a0:Aw) (a1:Bz) (a2:Int) (vt7_1:Int):Option (Bool):=
 (gd (a1.ref==true) (JR a0.Ref a2)).bind fun r57=>
 (some (if a1.ref=true then !r57 else false)).bind fun b58=>
 (if b58=true then
  Eb a0 a1 vt7_1 b58
 else
  (some (if(!a1.ref)=true then !(a0.Ref==(⟨0,0,(⟨0,0,0,0,0,0,0,[],0,0,(⟨0,0⟩:Ae),(⟨0,0⟩:Ae),(⟨0,0⟩:Ae)⟩:Af)⟩:IM))else false)).bind fun b60=>
  Eb a0 a1 vt7_1 b60)
def IY (a0:Aw) (a1:Bz) (a2:Int):Option (Bool):=
 (if(a0.Op==21)=true then
  Ec a0 a1 a2 (2:Int)
 else
  Ec a0 a1 a2 (0:Int))
def UE (a0:Aw) (a1:Bz) (a2:Int) (r:Bool):Prop:=Ah Tryz.prog I0 133 [vA Az a0,vA Ef a1,vI a2] (· =vB r)
theorem Sq {a0:Aw} {a1:Bz} {a2:Int} {r:Bool} (h:IY a0 a1 a2=some r):UE a0 a1 a2 r:=by
 refine Ah.bo Ag Tryz.func133 rfl Tryz.ntmps133 [.tmp 6] fun _ _ _ _=>?_
 unfold IY at h
 refine Rg (nA 3) (sl 170 [(2,vI a2),(3,vP [3] (0)),(4,vP [4] (0))] [bx [4] (Ef a1),bx [3] (Az a0)]) (aN)<|Gg [.a] (u [] [(7,vI 0)]) (aN)<|Gj (X:=Int) (fun v=>(u [] [(7,vI v)])) (fun v=>Ec a0 a1 a2 v=some r) ?_ ?_
 ·refine Gg (nA 3) (u [] [(10,vB (a0.Op==21))]) (aN)<|iC h (fun h=>?_) (fun h=>?_)
  ·refine Ge [.a] (u [] [(7,vI 2)]) (aN)<|Tn ⟨2,h,wT⟩
  refine hK<|Tn ⟨0,h,wT⟩
 rintro o0 t0
 replace t0:Ec a0 a1 a2 o0=some r:=t0
 unfold Ec at t0
 refine hS<|hB<|Gj (X:=Bool) (fun v=>(u [2] [(11,vB v)])) (fun v=>Eb a0 a1 o0 v=some r) ?_ ?_
 ·obtain⟨n5,t4,o2,i4,t0⟩:=JX t0
  refine Gg [.a,.a,.a,.a,.a,.a,(.c (vB n5)),.a,(.v (vB o2)),.a] (u [2] [(11,vB o2)]) (aG (a1.ref==true)<|aC (c2 t4 dv)<|aG (a1.ref==true)<|aT a1.ref<|aB i4<|aN)<|iC t0 (fun t0=>?_) (fun t0=>?_)
  ·refine hK<|Tn ⟨o2,t0,wT⟩
  obtain⟨t1,j4,t0⟩:=bS t0
  refine Ge [.a,.a,.a,.a,.a,.a,.a,(.v (vB (!(a0.Ref==(⟨0,0,(⟨0,0,0,0,0,0,0,[],0,0,(⟨0,0⟩:Ae),(⟨0,0⟩:Ae),(⟨0,0⟩:Ae)⟩:Af)⟩:IM))))),(.v (vB t1)),.a] (u [] [(11,vB t1),(21,vP [4] (0)),(22,vB a1.ref),(23,vB (!a1.ref)),(24,vB (!a1.ref)),(25,.g ((!a1.ref)==true) (vP [3] (1))),(26,.g ((!a1.ref)==true) (vA J6 a0.Ref)),(27,.g ((!a1.ref)==true) (.agg [Aa 0,Aa 0,Aa 0,Aa 0,Aa 0,Aa 0,Aa 0,Aa 0,Aa 0,.str ([]),Aa 0,Aa 0,Aa 0,Aa 0,Aa 0,Aa 0,Aa 0,Aa 0])),(28,.g ((!a1.ref)==true) (vB (!(a0.Ref==(⟨0,0,(⟨0,0,0,0,0,0,0,[],0,0,(⟨0,0⟩:Ae),(⟨0,0⟩:Ae),(⟨0,0⟩:Ae)⟩:Af)⟩:IM))))),(29,vB t1)]) (aG ((!a1.ref)==true)<|aC (fun hg:((!a1.ref)==true)=true=>aC (And.intro trivial kR)<|aN)<|aC (fun hg:((!a1.ref)==true)=true=>aC (gi ((!a1.ref)==true))<|aC (gi ((!a1.ref)==true))<|aC (congrArg (fun z=>V.c (.bool (!z))) (fc a0.Ref (⟨0,0,(⟨0,0,0,0,0,0,0,[],0,0,(⟨0,0⟩:Ae),(⟨0,0⟩:Ae),(⟨0,0⟩:Ae)⟩:Af)⟩:IM)))<|aN)<|aT (!a1.ref)<|aB j4<|aN)<|Tn ⟨t1,t0,wT⟩
 rintro p2 p0
 replace p0:Eb a0 a1 o0 p2=some r:=p0
 unfold Eb at p0
 refine iC p0 (fun p0=>?_) (fun p0=>?_)
 ·exact Rg [.a] (sl 170 [(6,vB false)] []) (aN)<|hR<|qR<|Tr<|bQ _ (kB p0)
 refine Gj (X:=Bool) (fun v=>(u [11] [(30,vB v)])) (fun v=>Ea a0 a1 o0 v=some r) ?_ ?_
 ·obtain⟨m5,q4,n2,z3,p0⟩:=JX p0
  refine Gg [.a,.a,.a,.a,.a,(.c (vB m5)),.a,(.v (vB n2)),.a] (u [11] [(30,vB n2)]) (aG (a1.amount==true)<|aC (c1 q4 XI)<|aG (a1.amount==true)<|aT a1.amount<|aB z3<|aN)<|iC p0 (fun p0=>?_) (fun p0=>?_)
  ·refine hK<|Tn ⟨n2,p0,wT⟩
  obtain⟨q1,d4,p0⟩:=bS p0
  refine Ge [.a,.a,.a,.a,.a,.a,.a,(.v (vB (!(a0.Amount==(⟨0,0,0,(⟨0,0,0,0,0,0,0,[],0,0,(⟨0,0⟩:Ae),(⟨0,0⟩:Ae),(⟨0,0⟩:Ae)⟩:Af)⟩:Bv))))),(.v (vB q1)),.a] (u [] [(30,vB q1),(39,vP [4] (1)),(40,vB a1.amount),(41,vB (!a1.amount)),(42,vB (!a1.amount)),(43,.g ((!a1.amount)==true) (vP [3] (19))),(44,.g ((!a1.amount)==true) (vA BK a0.Amount)),(45,.g ((!a1.amount)==true) (.agg [Aa 0,Aa 0,Aa 0,Aa 0,Aa 0,Aa 0,Aa 0,Aa 0,Aa 0,Aa 0,.str ([]),Aa 0,Aa 0,Aa 0,Aa 0,Aa 0,Aa 0,Aa 0,Aa 0])),(46,.g ((!a1.amount)==true) (vB (!(a0.Amount==(⟨0,0,0,(⟨0,0,0,0,0,0,0,[],0,0,(⟨0,0⟩:Ae),(⟨0,0⟩:Ae),(⟨0,0⟩:Ae)⟩:Af)⟩:Bv))))),(47,vB q1)]) (aG ((!a1.amount)==true)<|aC (fun hg:((!a1.amount)==true)=true=>aC (And.intro trivial fg)<|aN)<|aC (fun hg:((!a1.amount)==true)=true=>aC (gi ((!a1.amount)==true))<|aC (gi ((!a1.amount)==true))<|aC (congrArg (fun z=>V.c (.bool (!z))) (aq a0.Amount (⟨0,0,0,(⟨0,0,0,0,0,0,0,[],0,0,(⟨0,0⟩:Ae),(⟨0,0⟩:Ae),(⟨0,0⟩:Ae)⟩:Af)⟩:Bv)))<|aN)<|aT (!a1.amount)<|aB d4<|aN)<|Tn ⟨q1,p0,wT⟩
 rintro q2 q0
 replace q0:Ea a0 a1 o0 q2=some r:=q0
 unfold Ea at q0
 refine iC q0 (fun q0=>?_) (fun q0=>?_)
 ·exact Rg [.a] (sl 170 [(6,vB false)] []) (aN)<|hR<|qR<|Tr<|bQ _ (kB q0)
 refine Gj (X:=Bool) (fun v=>(u [30] [(48,vB v)])) (fun v=>DR a0 a1 o0 v=some r) ?_ ?_
 ·obtain⟨k5,p4,m2,x3,q0⟩:=JX q0
  refine Gg [.a,.a,.a,.a,.a,(.c (vS k5)),.a,(.v (vB m2)),.a] (u [30] [(48,vB m2)]) (aG (a1.counter==true)<|aC (c1 p4 JO)<|aG (a1.counter==true)<|aT a1.counter<|aB x3<|aN)<|iC q0 (fun q0=>?_) (fun q0=>?_)
  ·refine hK<|Tn ⟨m2,q0,wT⟩
  obtain⟨p1,y3,q0⟩:=bS q0
  refine Ge [.a,.a,.a,.a,.a,.a,.a,(.v (vB p1)),.a] (u [] [(48,vB p1),(57,vP [4] (2)),(58,vB a1.counter),(59,vB (!a1.counter)),(60,vB (!a1.counter)),(61,.g ((!a1.counter)==true) (vP [3] (38))),(62,.g ((!a1.counter)==true) (vI a0.Counter)),(63,.g ((!a1.counter)==true) (vB (a0.Counter != 0))),(64,vB p1)]) (aG ((!a1.counter)==true)<|aG ((!a1.counter)==true)<|aT (!a1.counter)<|aB y3<|aN)<|Tn ⟨p1,q0,wT⟩
 rintro t2 i0
 replace i0:DR a0 a1 o0 t2=some r:=i0
 unfold DR at i0
 refine iC i0 (fun i0=>?_) (fun i0=>?_)
 ·exact Rg [.a] (sl 170 [(6,vB false)] []) (aN)<|hR<|qR<|Tr<|bQ _ (kB i0)
 refine Gj (X:=Bool) (fun v=>(u [48] [(65,vB v)])) (fun v=>DQ a0 a1 o0 v=some r) ?_ ?_
 ·obtain⟨z4,p3,k2,q3,i0⟩:=JX i0
  refine Gg [.a,.a,.a,.a,.a,.a,.a,.a,.a,.a,(.v (vB z4)),(.v (vB k2)),.a] (u [48] [(65,vB k2)]) (aG (a1.zone==true)<|aG (a1.zone==true)<|aG (a1.zone==true)<|aG ((a1.zone==true)&&((decide (a0.Zone<0))==false))<|aG ((a1.zone==true)&&((decide (a0.Zone<0))==false))<|aC (fun hg:(a1.zone==true)=true=>aC (gi (a1.zone==true))<|aC (fun q:(decide (a0.Zone<0))=false=>(gA hg (gF q)))<|aB p3<|aN)<|aT a1.zone<|aB q3<|aN)<|iC i0 (fun i0=>?_) (fun i0=>?_)
  ·refine hK<|Tn ⟨k2,i0,wT⟩
  obtain⟨o1,t3,i0⟩:=bS i0
  refine Ge [.a,.a,.a,.a,.a,.a,.a,(.v (vB o1)),.a] (u [] [(65,vB o1),(78,vP [4] (3)),(79,vB a1.zone),(80,vB (!a1.zone)),(81,vB (!a1.zone)),(82,.g ((!a1.zone)==true) (vP [3] (39))),(83,.g ((!a1.zone)==true) (vI a0.Zone)),(84,.g ((!a1.zone)==true) (vB (a0.Zone != 0))),(85,vB o1)]) (aG ((!a1.zone)==true)<|aG ((!a1.zone)==true)<|aT (!a1.zone)<|aB t3<|aN)<|Tn ⟨o1,i0,wT⟩
 rintro x1 j0
 replace j0:DQ a0 a1 o0 x1=some r:=j0
 unfold DQ at j0
 refine iC j0 (fun j0=>?_) (fun j0=>?_)
 ·exact Rg [.a] (sl 170 [(6,vB false)] []) (aN)<|hR<|qR<|Tr<|bQ _ (kB j0)
 refine Gj (X:=Bool) (fun v=>(u [65] [(86,vB v)])) (fun v=>DP a0 a1 o0 v=some r) ?_ ?_
 ·obtain⟨j5,o4,j2,n3,j0⟩:=JX j0
  refine Gg [.a,.a,.a,.a,.a,(.c (vB j5)),.a,(.v (vB j2)),.a] (u [65] [(86,vB j2)]) (aG (a1.card==true)<|aC (c1 o4 Uh)<|aG (a1.card==true)<|aT a1.card<|aB n3<|aN)<|iC j0 (fun j0=>?_) (fun j0=>?_)
  ·refine hK<|Tn ⟨j2,j0,wT⟩
  obtain⟨n1,o3,j0⟩:=bS j0
  refine Re [.a,.a,.a,.a,.a,.a,.a,(.v (vB n1)),.a] (sl 170 [(3,vP [3] (0)),(4,vP [4] (0)),(7,vI o0),(86,vB n1),(95,vP [4] (4)),(96,vB a1.card),(97,vB (!a1.card)),(98,vB (!a1.card)),(99,.g ((!a1.card)==true) (vP [3] (40))),(100,.g ((!a1.card)==true) (vS a0.Card)),(101,.g ((!a1.card)==true) (vB (a0.Card != ([]:List UInt8)))),(102,vB n1)] [bx [4] (Ef a1),bx [3] (Az a0)]) (aG ((!a1.card)==true)<|aG ((!a1.card)==true)<|aT (!a1.card)<|aB o3<|aN)<|Tn ⟨n1,j0,wT⟩
 rintro y1 k0
 replace k0:DP a0 a1 o0 y1=some r:=k0
 unfold DP at k0
 refine iC k0 (fun k0=>?_) (fun k0=>?_)
 ·exact Rg [.a] (sl 170 [(6,vB false)] []) (aN)<|hR<|qR<|Tr<|bQ _ (kB k0)
 refine Sj (X:=Bool) (fun v=>(sl 170 [(3,vP [3] (0)),(4,vP [4] (0)),(103,vB v)] [bx [4] (Ef a1),bx [3] (Az a0)])) (fun v=>DO a0 a1 v=some r) ?_ ?_
 ·obtain⟨y0,n4,y4,j3,i2,k3,k0⟩:=M9 k0
  refine Rg [.a,.a,.a,.a,.a,(.c (vB y0)),.a,.a,.a,.a,.a,.a,.a,(.v (vB y4)),(.v (vB i2)),.a] (sl 170 [(3,vP [3] (0)),(4,vP [4] (0)),(103,vB i2)] [bx [4] (Ef a1),bx [3] (Az a0)]) (aG (a1.filter==true)<|aC (c1 n4 Em)<|aG (a1.filter==true)<|aG (a1.filter==true)<|aG ((a1.filter==true)&&((!y0)==false))<|aG ((a1.filter==true)&&((!y0)==false))<|aH ((a1.filter==true)&&((!y0)==false))<|aC (fun hg:(a1.filter==true)=true=>aC (gi (a1.filter==true))<|aC (fun q:(!y0)=false=>(gA hg (gF q)))<|aB j3<|aN)<|aT a1.filter<|aB k3<|aN)<|iC k0 (fun k0=>?_) (fun k0=>?_)
  ·refine hK<|Tn ⟨i2,k0,wT⟩
  obtain⟨m1,m3,k0⟩:=bS k0
  refine Ge [.a,.a,.a,.a,.a,.a,.a,(.v (vB (!(a0.Filter==(⟨0,0,0,0,0,0,0,[],0,0,(⟨0,0⟩:Ae),(⟨0,0⟩:Ae),(⟨0,0⟩:Ae)⟩:Af))))),(.v (vB m1)),.a] (u [] [(103,vB m1),(119,vP [4] (5)),(120,vB a1.filter),(121,vB (!a1.filter)),(122,vB (!a1.filter)),(123,.g ((!a1.filter)==true) (vP [3] (41))),(124,.g ((!a1.filter)==true) (vA A7 a0.Filter)),(125,.g ((!a1.filter)==true) (.agg [Aa 0,Aa 0,Aa 0,Aa 0,Aa 0,Aa 0,Aa 0,.str ([]),Aa 0,Aa 0,Aa 0,Aa 0,Aa 0,Aa 0,Aa 0,Aa 0])),(126,.g ((!a1.filter)==true) (vB (!(a0.Filter==(⟨0,0,0,0,0,0,0,[],0,0,(⟨0,0⟩:Ae),(⟨0,0⟩:Ae),(⟨0,0⟩:Ae)⟩:Af))))),(127,vB m1)]) (aG ((!a1.filter)==true)<|aC (fun hg:((!a1.filter)==true)=true=>aC (And.intro trivial YS)<|aN)<|aC (fun hg:((!a1.filter)==true)=true=>aC (gi ((!a1.filter)==true))<|aC (gi ((!a1.filter)==true))<|aC (congrArg (fun z=>V.c (.bool (!z))) (T8 a0.Filter (⟨0,0,0,0,0,0,0,[],0,0,(⟨0,0⟩:Ae),(⟨0,0⟩:Ae),(⟨0,0⟩:Ae)⟩:Af)))<|aN)<|aT (!a1.filter)<|aB m3<|aN)<|Tn ⟨m1,k0,wT⟩
 rintro z0 m0
 replace m0:DO a0 a1 z0=some r:=m0
 unfold DO at m0
 refine iC m0 (fun m0=>?_) (fun m0=>?_)
 ·exact Rg [.a] (sl 170 [(6,vB false)] []) (aN)<|hR<|qR<|Tr<|bQ _ (kB m0)
 refine Gj (X:=Bool) (fun v=>(u [103] [(128,vB v)])) (fun v=>DN a0 a1 v=some r) ?_ ?_
 ·obtain⟨i5,m4,x4,z2,d2,d3,m0⟩:=M9 m0
  refine Gg [.a,.a,.a,.a,.a,.a,(.v (vB (a0.Pool==(⟨0,0,0,0,0,0⟩:A6 (Int))))),.a,.a,.a,(.c (vS i5)),.a,(.v (vB x4)),(.v (vB d2)),.a] (u [103] [(128,vB d2)]) (aG (a1.pool==true)<|aC (fun hg:(a1.pool==true)=true=>aC (And.intro trivial jz)<|aN)<|aC (fun hg:(a1.pool==true)=true=>aC (gi (a1.pool==true))<|aC (gi (a1.pool==true))<|aC (congrArg (fun z=>V.c (.bool (z))) (bR a0.Pool (⟨0,0,0,0,0,0⟩:A6 (Int))))<|aN)<|aG (a1.pool==true)<|aG ((a1.pool==true)&&((a0.Pool==(⟨0,0,0,0,0,0⟩:A6 (Int)))==false))<|aC (c1 m4 Q9)<|aG ((a1.pool==true)&&((a0.Pool==(⟨0,0,0,0,0,0⟩:A6 (Int)))==false))<|aC (fun hg:(a1.pool==true)=true=>aC (gi (a1.pool==true))<|aC (fun q:(a0.Pool==(⟨0,0,0,0,0,0⟩:A6 (Int)))=false=>(gA hg (gF q)))<|aB z2<|aN)<|aT a1.pool<|aB d3<|aN)<|iC m0 (fun m0=>?_) (fun m0=>?_)
  ·refine hK<|Tn ⟨d2,m0,wT⟩
  obtain⟨k1,i3,m0⟩:=bS m0
  refine Ge [.a,.a,.a,.a,.a,.a,.a,(.v (vB (!(a0.Pool==(⟨0,0,0,0,0,0⟩:A6 (Int)))))),(.v (vB k1)),.a] (u [] [(128,vB k1),(143,vP [4] (6)),(144,vB a1.pool),(145,vB (!a1.pool)),(146,vB (!a1.pool)),(147,.g ((!a1.pool)==true) (vP [3] (57))),(148,.g ((!a1.pool)==true) (vA (T6 (eI .i64)) a0.Pool)),(149,.g ((!a1.pool)==true) (vA (T6 (eI .i64)) (⟨0,0,0,0,0,0⟩:A6 (Int)))),(150,.g ((!a1.pool)==true) (vB (!(a0.Pool==(⟨0,0,0,0,0,0⟩:A6 (Int)))))),(151,vB k1)]) (aG ((!a1.pool)==true)<|aC (fun hg:((!a1.pool)==true)=true=>aC (And.intro trivial jz)<|aN)<|aC (fun hg:((!a1.pool)==true)=true=>aC (gi ((!a1.pool)==true))<|aC (gi ((!a1.pool)==true))<|aC (congrArg (fun z=>V.c (.bool (!z))) (bR a0.Pool (⟨0,0,0,0,0,0⟩:A6 (Int))))<|aN)<|aT (!a1.pool)<|aB i3<|aN)<|Tn ⟨k1,m0,wT⟩
 rintro d1 n0
 replace n0:DN a0 a1 d1=some r:=n0
 unfold DN at n0
 refine iC n0 (fun n0=>?_) (fun n0=>?_)
 ·exact Rg [.a] (sl 170 [(6,vB false)] []) (aN)<|hR<|qR<|Tr<|bQ _ (kB n0)
 refine Sj (X:=Bool) (fun v=>(sl 170 [(152,vB v)] [])) (fun v=>EA v=some r) ?_ ?_
 ·obtain⟨d5,k4,z1,x2,n0⟩:=JX n0
  refine Gg [.a,.a,.a,.a,.a,(.c (vS d5)),.a,(.v (vB z1)),.a] (u [128] [(152,vB z1)]) (aG (a1.mods==true)<|aC (c1 k4 JS)<|aG (a1.mods==true)<|aT a1.mods<|aB x2<|aN)<|iC n0 (fun n0=>?_) (fun n0=>?_)
  ·refine hK<|Tn ⟨z1,n0,wT⟩
  obtain⟨j1,y2,n0⟩:=bS n0
  refine Ge [.a,.a,.a,.a,.a,.a,.a,.a,(.v (vB j1)),.a] (u [] [(152,vB j1),(161,vP [4] (7)),(162,vB a1.mods),(163,vB (!a1.mods)),(164,vB (!a1.mods)),(165,.g ((!a1.mods)==true) (vP [3] (63))),(166,.g ((!a1.mods)==true) (vL AM a0.Mods)),(167,.g ((!a1.mods)==true) (vI (a0.Mods.length:Int))),(168,.g ((!a1.mods)==true) (vB (decide (0<(a0.Mods.length:Int))))),(169,vB j1)]) (aG ((!a1.mods)==true)<|aG ((!a1.mods)==true)<|aG ((!a1.mods)==true)<|aT (!a1.mods)<|aB y2<|aN)<|Tn ⟨j1,n0,wT⟩
 rintro i1 x0
 replace x0:EA i1=some r:=x0
 unfold EA at x0
 refine iC x0 (fun x0=>?_) (fun x0=>?_)
 ·exact Rg [.a] (sl 170 [(6,vB false)] []) (aN)<|hR<|qR<|Tr<|bQ _ (kB x0)
 exact hK<|qN<|Tn<|Rg [.a] (sl 170 [(6,vB true)] []) (aN)<|hR<|bQ _ (kB x0)
def C5 (a0:List (Bw)) (a1:List (Bw)):Option (Bool):=
 (Bo a0 a1).bind fun r1=>
 some r1
def HU (a0:List (Bw)) (a1:List (Bw)) (r:Bool):Prop:=Ah Tryz.prog I0 32 [vL An a0,vL An a1, .c (.fn 33)] (· =vB r)
theorem HI {a0:List (Bw)} {a1:List (Bw)} {r:Bool} (h:C5 a0 a1=some r):HU a0 a1 r:=by
 refine Ah.bo Ag Tryz.func32 rfl Tryz.ntmps32 [.tmp 6] fun _ _ _ _=>?_
 unfold C5 at h
 refine Gg [.a] (u [] []) (aN) ?_
 obtain⟨r1,i0,h⟩:=bS h
 exact Rg [.a,.a,.a,(.c (vB r1)),.a] (sl 11 [(6,vB r1)] []) (aC (CK i0)<|aN)<|hR<|bQ _ (kB h)
def Cl (a0:List (AZ)) (a1:List (AZ)):Option (Bool):=
 (AY a0 a1).bind fun r1=>
 some r1
def F6 (a0:List (AZ)) (a1:List (AZ)) (r:Bool):Prop:=Ah Tryz.prog I0 34 [vL Ak a0,vL Ak a1, .c (.fn 35)] (· =vB r)
theorem FN {a0:List (AZ)} {a1:List (AZ)} {r:Bool} (h:Cl a0 a1=some r):F6 a0 a1 r:=by
 refine Ah.bo Ag Tryz.func34 rfl Tryz.ntmps34 [.tmp 6] fun _ _ _ _=>?_
 unfold Cl at h
 refine Gg [.a] (u [] []) (aN) ?_
 obtain⟨r1,i0,h⟩:=bS h
 exact Rg [.a,.a,.a,(.c (vB r1)),.a] (sl 11 [(6,vB r1)] []) (aC (BW i0)<|aN)<|hR<|bQ _ (kB h)
def M7 (out_t3_3:List UInt8):Option ((List UInt8)):=
 some out_t3_3
def HJ (a0:List (Bx)) (i_t4_8:Int) (out_t3_15:List UInt8):Option (((List UInt8)×Int)⊕((List UInt8)⊕Unit)):=
 (idx a0 i_t4_8).bind fun e17=>
 (UD e17).bind fun r18=>
 (cat out_t3_15 r18).bind fun s19=>
 some (.inl (s19,(Ab (i_t4_8+1))))
def L8 (a0:List (Bx)) (out_t3_7:List UInt8) (i_t4_8:Int):Option (((List UInt8)×Int)⊕((List UInt8)⊕Unit)):=
 (if(decide (i_t4_8<(a0.length:Int)))=true then
  (idx a0 i_t4_8).bind fun e12=>
  (Pc e12).bind fun r13=>
  (if(!r13)=true then
   some (.inr (.inr ()))
  else
   (if(decide (0<i_t4_8))=true then
    (cat out_t3_7 Fm).bind fun s21=>
    HJ a0 i_t4_8 s21
   else
    HJ a0 i_t4_8 out_t3_7))
 else
  some (.inr (.inl out_t3_7)))
def IZ (a0:List (Bx)):Option ((List UInt8)):=
 (some (if((a0.length:Int)==0)=true then true else decide (6<(a0.length:Int)))).bind fun b1=>
 (if b1=true then
  some ([]:List UInt8)
 else
  (iter (fun(v:(List UInt8)×Int)=>L8 a0 v.1 v.2) FU (([]:List UInt8),(0:Int))).bind (Sum.elim (fun o0=>M7 o0) (fun o1=>some ([]:List UInt8))))
def Jl (a0:AJ) (b6:Bool) (vt109_26:Bool):Option (Bool):=
 (if vt109_26=true then
  (some (if b6=true then decide (0≤a0.Who)else false)).bind fun b29=>
  (some (if b29=true then decide (a0.Who≤2)else false)).bind fun b30=>
  (some (if b30=true then a0.Filter==(⟨0,0,0,0,0,0,0,[],0,0,(⟨0,0⟩:Ae),(⟨0,0⟩:Ae),(⟨0,0⟩:Ae)⟩:Af)else false)).bind fun b31=>
  some b31
 else
  some false)
def Rk (a0:AJ):Option (Bool):=
 (if(a0.On==2)=true then
  (Ri a0).bind fun r2=>
  some r2
 else
  (L4 a0).bind fun r3=>
  (if(!r3)=true then
   some false
  else
   (some (if(a0.Do==3)=true then true else a0.Do==4)).bind fun b5=>
   (some (if b5=true then true else a0.Do==8)).bind fun b6=>
   (if(a0.On==1)=true then
    (some (if(a0.Do != 1)=true then a0.Do != 2 else false)).bind fun b8=>
    (some (if b8=true then a0.Do != 3 else false)).bind fun b9=>
    (some (if b9=true then a0.Do != 4 else false)).bind fun b10=>
    (if b10=true then
     some false
    else
     (gd ((a0.Who==0)==true) (L6 a0.Filter)).bind fun r12=>
     (some (if(a0.Who==0)=true then r12 else false)).bind fun b13=>
     (some (if(a0.Who==1)=true then true else a0.Who==2)).bind fun b14=>
     (some (if b14=true then a0.Filter==(⟨0,0,0,0,0,0,0,[],0,0,(⟨0,0⟩:Ae),(⟨0,0⟩:Ae),(⟨0,0⟩:Ae)⟩:Af)else false)).bind fun b15=>
     (some (if b13=true then true else b15)).bind fun b16=>
     some b16)
   else
    (if(a0.On==8)=true then
     (some (if b6=true then a0.Who==0 else false)).bind fun b18=>
     (gd (b18==true) (L6 a0.Filter)).bind fun r19=>
     (some (if b18=true then r19 else false)).bind fun b20=>
     some b20
    else
     (if(a0.On==3)=true then
      (some (if(a0.Do==4)=true then true else a0.Do==8)).bind fun b22=>
      (some (if b22=true then decide (0≤a0.Who)else false)).bind fun b23=>
      (some (if b23=true then decide (a0.Who≤2)else false)).bind fun b24=>
      (some (if b24=true then a0.Filter==(⟨0,0,0,0,0,0,0,[],0,0,(⟨0,0⟩:Ae),(⟨0,0⟩:Ae),(⟨0,0⟩:Ae)⟩:Af)else false)).bind fun gj=>
      some gj
     else
      (if(a0.On==4)=true then
       Jl a0 b6 (a0.On==4)
      else
       (if(a0.On==5)=true then
        Jl a0 b6 (a0.On==5)
       else
        Jl a0 b6 (a0.On==10))))))))
end Go.PL
