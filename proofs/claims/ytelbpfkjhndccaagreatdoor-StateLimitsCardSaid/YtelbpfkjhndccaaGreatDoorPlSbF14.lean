/- Functions of the program, as partial functions in Lean, with proofs. -/
import Derived.Test.YtelbpfkjhndccaaGreatDoorPlSbB
import Derived.Test.YtelbpfkjhndccaaGreatDoorPlSbF0
import Derived.Test.YtelbpfkjhndccaaGreatDoorPlSbF1
import Derived.Test.YtelbpfkjhndccaaGreatDoorPlSbF13
import Derived.Test.YtelbpfkjhndccaaGreatDoorPlSbF4
import Derived.Test.YtelbpfkjhndccaaGreatDoorPlSbF6
import Derived.Test.YtelbpfkjhndccaaGreatDoorPlSbF8
namespace Go.PL
open Go Go.RowKit Go.Proofs
set_option maxRecDepth 100000
set_option linter.all false
set_option maxHeartbeats 4000000
attribute [local irreducible] Ai B4 BL
def HK (a0:Aw) (a1:Int):Option (Bool):=
 (G6 a0.Op).bind fun r1=>
 (gd ((r1 != ([]:List UInt8))==true) (Jg a0.Op)).bind fun r2=>
 (gd ((r1 != ([]:List UInt8))==true) (IY a0 r2 a1)).bind fun r3=>
 (some (if(r1 != ([]:List UInt8))=true then r3 else false)).bind fun b4=>
 some b4
def Zh (a0:Aw) (a1:Int) (r:Bool):Prop:=Ah Tryz.prog I0 93 [vA Az a0,vI a1] (· =vB r)
theorem XL {a0:Aw} {a1:Int} {r:Bool} (h:HK a0 a1=some r):Zh a0 a1 r:=by
 refine Ah.bo Ag Tryz.func93 rfl Tryz.ntmps93 [.tmp 4] fun _ _ _ _=>?_
 unfold HK at h
 refine Gg [.a,.a] (uo [0] [(2,vP [2] (0))] [.e (bx [2] (Az a0))]) (aN) ?_
 obtain⟨r1,j0,r2,k0,r3,m0,b4,i0,h⟩:=Ij h
 exact Rq DV [.a,.a,(.c (vS r1)),.a,.a,.a,.a,.a,(.c (vA Ef r2)),.a,(.c (vB r3)),(.v (vB b4)),.a] (sl 17 [(4,vB b4)] []) (aC (Uk j0)<|aG ((r1 != ([]:List UInt8))==true)<|aC (c1 k0 Xs)<|aC (c3 m0 Sq)<|aT (r1 != ([]:List UInt8))<|aB i0<|aN)<|hR<|bQ _ (kB h)
def Pf (a0:Aj) (a1:Aj):Option (Bool):=
 (Cu a0.Players a1.Players).bind fun r1=>
 (gd ((!r1)==false) (BS a0.Objects a1.Objects)).bind fun r2=>
 (some (if(!r1)=true then true else !r2)).bind fun b3=>
 (gd (b3==false) (BJ a0.Battlefield a1.Battlefield)).bind fun r4=>
 (some (if b3=true then true else !r4)).bind fun b5=>
 (gd (b5==false) (BJ a0.Exile a1.Exile)).bind fun r6=>
 (some (if b5=true then true else !r6)).bind fun b7=>
 (gd (b7==false) (BJ a0.Extra a1.Extra)).bind fun r8=>
 (some (if b7=true then true else !r8)).bind fun b9=>
 (if b9=true then
  some false
 else
  (C5 a0.Stack a1.Stack).bind fun r11=>
  (gd ((!r11)==false) (Cl a0.Waiting a1.Waiting)).bind fun r12=>
  (some (if(!r11)=true then true else !r12)).bind fun b13=>
  (gd (b13==false) (C4 a0.Conts a1.Conts)).bind fun r14=>
  (some (if b13=true then true else !r14)).bind fun b15=>
  (if b15=true then
   some false
  else
   (some (if(a0.Turn==a1.Turn)=true then a0.Active==a1.Active else false)).bind fun b17=>
   (some (if b17=true then a0.Step==a1.Step else false)).bind fun b18=>
   (some (if b18=true then a0.Begun==a1.Begun else false)).bind fun b19=>
   (some (if b19=true then a0.Priority==a1.Priority else false)).bind fun b20=>
   (some (if b20=true then a0.Passes==a1.Passes else false)).bind fun b21=>
   (some (if b21=true then a0.NextId==a1.NextId else false)).bind fun b22=>
   (some (if b22=true then a0.NextStamp==a1.NextStamp else false)).bind fun b23=>
   (some (if b23=true then a0.Seed==a1.Seed else false)).bind fun b24=>
   (some (if b24=true then a0.Over==a1.Over else false)).bind fun gj=>
   (some (if gj=true then a0.Winner==a1.Winner else false)).bind fun b26=>
   some b26))
def XM (a0:Aj) (a1:Aj) (r:Bool):Prop:=Ah Tryz.prog I0 12 [vA Am a0,vA Am a1] (· =vB r)
theorem VF {a0:Aj} {a1:Aj} {r:Bool} (h:Pf a0 a1=some r):XM a0 a1 r:=by
 refine Ah.bo Ag Tryz.func12 rfl Tryz.ntmps12 [.tmp 4] fun _ _ _ _=>?_
 unfold Pf at h
 refine Rg (nA 3) (sl 140 [(2,vP [2] (0)),(3,vP [3] (0))] [bx [3] (Am a1),bx [2] (Am a0)]) (aN)<|hS ?_
 obtain⟨r1,p2,r2,q2,b3,k2,r4,t2,h⟩:=Ij h
 obtain⟨b5,m2,r6,x2,b7,n2,r8,y2,h⟩:=Ij h
 obtain⟨b9,o2,h⟩:=bS h
 refine Gg [.a,.a,.a,.a,(.c (vB r1)),.a,.a,.a,.a,.a,.a,(.c (vB r2)),.a,(.v (vB b3)),.a,.a,.a,.a,.a,(.c (vB r4)),.a,(.v (vB b5)),.a,.a,.a,.a,.a,(.c (vB r6)),.a,(.v (vB b7)),.a,.a,.a,.a,.a,(.c (vB r8)),.a,(.v (vB b9))] (u [] [(42,vB b9)]) (aC (Gb p2)<|aG ((!r1)==false)<|aG ((!r1)==false)<|aC (c2 q2 E3)<|aG ((!r1)==false)<|aF (!r1)<|aB k2<|aG (b3==false)<|aG (b3==false)<|aC (c2 t2 BO)<|aG (b3==false)<|aF b3<|aB m2<|aG (b5==false)<|aG (b5==false)<|aC (c2 x2 BO)<|aG (b5==false)<|aF b5<|aB n2<|aG (b7==false)<|aG (b7==false)<|aC (c2 y2 BO)<|aG (b7==false)<|aF b7<|aB o2<|aN)<|iC h (fun h=>?_) (fun h=>?_)
 ·exact Rg [.a] (sl 140 [(4,vB false)] []) (aN)<|hR<|Tr<|bQ _ (kB h)
 refine hK<|Tn<|hS ?_
 obtain⟨y0,d2,z2,i2,j0,i1,d3,j2,h⟩:=Ij h
 obtain⟨z0,j1,h⟩:=bS h
 refine Gg [.a,.a,.a,.a,(.c (vB y0)),.a,.a,.a,.a,.a,.a,(.c (vB z2)),.a,(.v (vB j0)),.a,.a,.a,.a,.a,(.c (vB d3)),.a,(.v (vB z0))] (u [42] [(64,vB z0)]) (aC (HI d2)<|aG ((!y0)==false)<|aG ((!y0)==false)<|aC (c2 i2 FN)<|aG ((!y0)==false)<|aF (!y0)<|aB i1<|aG (j0==false)<|aG (j0==false)<|aC (c2 j2 HD)<|aG (j0==false)<|aF j0<|aB j1<|aN)<|iC h (fun h=>?_) (fun h=>?_)
 ·exact Rg [.a] (sl 140 [(4,vB false)] []) (aN)<|hR<|Tr<|bQ _ (kB h)
 refine hK<|Tn ?_
 obtain⟨k0,k1,i0,m1,m0,n1,n0,o1,h⟩:=Ij h
 obtain⟨o0,p1,p0,q1,q0,t1,t0,x1,h⟩:=Ij h
 obtain⟨x0,y1,d1,z1,h⟩:=JX h
 exact Rg [.a,.a,.a,.a,.a,.a,.a,.a,.a,.a,.a,(.v (vB k0)),.a,.a,.a,.a,.a,.a,(.v (vB i0)),.a,.a,.a,.a,.a,.a,(.v (vB m0)),.a,.a,.a,.a,.a,.a,(.v (vB n0)),.a,.a,.a,.a,.a,.a,(.v (vB o0)),.a,.a,.a,.a,.a,.a,(.v (vB p0)),.a,.a,.a,.a,.a,.a,(.v (vB q0)),.a,.a,.a,.a,.a,.a,(.v (vB t0)),.a,.a,.a,.a,.a,.a,(.v (vB x0)),.a,.a,.a,.a,.a,.a,(.v (vB d1)),.a] (sl 140 [(4,vB d1)] []) (aG ((a0.Turn==a1.Turn)==true)<|aG ((a0.Turn==a1.Turn)==true)<|aH ((a0.Turn==a1.Turn)==true)<|aT (a0.Turn==a1.Turn)<|aB k1<|aG (k0==true)<|aG (k0==true)<|aH (k0==true)<|aT k0<|aB m1<|aG (i0==true)<|aG (i0==true)<|aC (fun hg:(i0==true)=true=>aC (gi (i0==true))<|aC (gi (i0==true))<|aC Xm<|aN)<|aT i0<|aB n1<|aG (m0==true)<|aG (m0==true)<|aH (m0==true)<|aT m0<|aB o1<|aG (n0==true)<|aG (n0==true)<|aH (n0==true)<|aT n0<|aB p1<|aG (o0==true)<|aG (o0==true)<|aH (o0==true)<|aT o0<|aB q1<|aG (p0==true)<|aG (p0==true)<|aH (p0==true)<|aT p0<|aB t1<|aG (q0==true)<|aG (q0==true)<|aH (q0==true)<|aT q0<|aB x1<|aG (t0==true)<|aG (t0==true)<|aH (t0==true)<|aT t0<|aB y1<|aG (x0==true)<|aG (x0==true)<|aH (x0==true)<|aT x0<|aB z1<|aN)<|hR<|bQ _ (kB h)
def UF (a0:List (Bx)):Option (Bool):=
 (IZ a0).bind fun r1=>
 some (r1 != ([]:List UInt8))
end Go.PL
