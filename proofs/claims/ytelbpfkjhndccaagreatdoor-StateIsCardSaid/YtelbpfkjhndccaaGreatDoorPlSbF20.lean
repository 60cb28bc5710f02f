/- Functions of the program, as partial functions in Lean, with proofs. -/
import Derived.Test.YtelbpfkjhndccaaGreatDoorPlSbB
import Derived.Test.YtelbpfkjhndccaaGreatDoorPlSbF0
import Derived.Test.YtelbpfkjhndccaaGreatDoorPlSbF10
import Derived.Test.YtelbpfkjhndccaaGreatDoorPlSbF19
import Derived.Test.YtelbpfkjhndccaaGreatDoorPlSbF4
import Derived.Test.YtelbpfkjhndccaaGreatDoorPlSbF8
namespace Go.PL
open Go Go.RowKit Go.Proofs
set_option maxRecDepth 100000
set_option linter.all false
set_option maxHeartbeats 4000000
attribute [local irreducible] Ak Ca BP
def JQ (a0:List (E1)) (a1:Ai):Option (Bool):=
 (gd ((a1.Over==1)==true) (Dd a1 a1.Winner)).bind fun r22=>
 (some (if(a1.Over==1)=true then !r22 else false)).bind fun b23=>
 (some (if(a1.Over != 1)=true then a1.Winner != (-1:Int)else false)).bind fun b24=>
 (some (if b23=true then true else b24)).bind fun ki=>
 (if ki=true then
  some false
 else
  (J8 a0 a1).bind fun r27=>
  (gd (r27==true) (MR a1)).bind fun r28=>
  (some (if r27=true then r28 else false)).bind fun b29=>
  some b29)
def G6 (a1:Ai) (i_t5_31:Int):Option ((Int)⊕(Unit⊕Unit)):=
 (if(decide (i_t5_31<(a1.Extra.length:Int)))=true then
  (idx a1.Extra i_t5_31).bind fun e34=>
  (Dd a1 e34).bind fun r35=>
  (if(!r35)=true then
   some (.inr (.inr ()))
  else
   some (.inl (Ab (i_t5_31+1))))
 else
  some (.inr (.inl ())))
def W1 (a0:List (E1)) (a1:Ai):Option (Bool):=
 (HD a1.NextId (1:Int) (1000000:Int)).bind fun r1=>
 (gd ((!r1)==false) (HD a1.NextStamp (1:Int) (1000000:Int))).bind fun r2=>
 (some (if(!r1)=true then true else !r2)).bind fun b3=>
 (gd (b3==false) (HD a1.Turn (0:Int) (500:Int))).bind fun r4=>
 (some (if b3=true then true else !r4)).bind fun b5=>
 (gd (b5==false) (HD a1.Step (0:Int) (10:Int))).bind fun r6=>
 (some (if b5=true then true else !r6)).bind fun b7=>
 (some (if b7=true then true else decide (2048<(a1.Objects.length:Int)))).bind fun b8=>
 (if b8=true then
  some false
 else
  (Ka a1).bind fun r10=>
  (gd ((!r10)==false) (Dd a1 a1.Active)).bind fun r11=>
  (some (if(!r10)=true then true else !r11)).bind fun b12=>
  (gd (b12==false) (Dd a1 a1.Priority)).bind fun r13=>
  (some (if b12=true then true else !r13)).bind fun b14=>
  (gd (b14==false) (HD a1.Passes (0:Int) (a1.Players.length:Int))).bind fun r15=>
  (some (if b14=true then true else !r15)).bind fun b16=>
  (some (if b16=true then true else decide (500<(a1.Extra.length:Int)))).bind fun b17=>
  (gd (b17==false) (HD a1.Over (0:Int) (2:Int))).bind fun r18=>
  (some (if b17=true then true else !r18)).bind fun b19=>
  (if b19=true then
   some false
  else
   (iter (fun(v:Int)=>G6 a1 v) FU (0:Int)).bind (Sum.elim (fun o0=>JQ a0 a1) (fun o1=>some false))))
def lZ (a0:List (E1)) (a1:Ai) (r:Bool):Prop:=Af Tryz.prog I0 8 [vL G9 a0,vA Aj a1] (· =vB r)
theorem jN {a0:List (E1)} {a1:Ai} {r:Bool} (h:W1 a0 a1=some r):lZ a0 a1 r:=by
 refine Af.bo Ae Tryz.func8 rfl Tryz.ntmps8 [.tmp 4] fun _ _ _ _=>?_
 unfold W1 at h
 refine Gg [.a,.a] (uo [1] [(3,vP [3] (0))] [.e (bx [3] (Aj a1))]) (aN)<|hS ?_
 obtain⟨r1,m3,r2,n3,b3,d3,r4,o3,h⟩:=D2 h
 obtain⟨b5,i3,r6,p3,b7,j3,b8,k3,h⟩:=D2 h
 refine Gg [.a,.a,(.c (vB r1)),.a,.a,.a,.a,(.c (vB r2)),.a,(.v (vB b3)),.a,.a,.a,(.c (vB r4)),.a,(.v (vB b5)),.a,.a,.a,(.c (vB r6)),.a,(.v (vB b7)),.a,.a,.a,.a,.a,(.v (vB b8))] (u [] [(33,vB b8)]) (aC (Ee m3)<|aG ((!r1)==false)<|aC (c1 n3 Ee)<|aG ((!r1)==false)<|aF (!r1)<|aB d3<|aG (b3==false)<|aC (c1 o3 Ee)<|aG (b3==false)<|aF b3<|aB i3<|aG (b5==false)<|aC (c1 p3 Ee)<|aG (b5==false)<|aF b5<|aB j3<|aG (b7==false)<|aG (b7==false)<|aG (b7==false)<|aF b7<|aB k3<|aN)<|iC h (fun h=>?_) (fun h=>?_)
 ·exact Rg [.a] (sl 114 [(4,vB false)] []) (aN)<|hR<|Tr<|bQ _ (kB h)
 refine hK<|Tn<|hS ?_
 obtain⟨x0,j2,q3,k2,p0,o1,t3,m2,h⟩:=D2 h
 obtain⟨n0,p1,x3,n2,o0,q1,q0,t1,h⟩:=D2 h
 obtain⟨y3,o2,j1,x1,h⟩:=Ex h
 refine Gg [.a,(.c (vB x0)),.a,.a,.a,.a,.a,(.c (vB q3)),.a,(.v (vB p0)),.a,.a,.a,.a,(.c (vB t3)),.a,(.v (vB n0)),.a,.a,.a,.a,.a,.a,(.c (vB x3)),.a,(.v (vB o0)),.a,.a,.a,.a,.a,(.v (vB q0)),.a,.a,.a,(.c (vB y3)),.a,(.v (vB j1))] (u [33] [(71,vB j1)]) (aC (WV j2)<|aG ((!x0)==false)<|aC (c2 k2 FV)<|aG ((!x0)==false)<|aF (!x0)<|aB o1<|aG (p0==false)<|aC (c2 m2 FV)<|aG (p0==false)<|aF p0<|aB p1<|aG (n0==false)<|aG (n0==false)<|aG (n0==false)<|aC (c2 n2 Ee)<|aG (n0==false)<|aF n0<|aB q1<|aG (o0==false)<|aG (o0==false)<|aG (o0==false)<|aF o0<|aB t1<|aG (q0==false)<|aC (c1 o2 Ee)<|aG (q0==false)<|aF q0<|aB x1<|aN)<|iC h (fun h=>?_) (fun h=>?_)
 ·exact Rg [.a] (sl 114 [(4,vB false)] []) (aN)<|hR<|Tr<|bQ _ (kB h)
 refine hK<|Tn<|Gj (X:=Unit) (fun v=>(u [71] [])) (fun v=>JQ a0 a1=some r) ?_ ?_
 ·refine Gg [.a] (u [71] [(5,vI 0)]) (aN)<|hB ?_
  obtain⟨i4,i1,h⟩:=bS h
  refine Gi (fun(v:Int)=>(u [] [(5,vI v)])) i1 (wT) ?_
  rintro k0 y2 i0 t0
  replace i0:G6 a1 k0=some y2:=i0
  unfold G6 at i0
  refine hS<|Gg (nA 5) (u [] [(76,vB (decide (k0<(a1.Extra.length:Int))))]) (aN)<|iC i0 (fun i0=>?_) (fun i0=>?_)
  ·refine hK<|Tn<|hS<|hB ?_
   obtain⟨y0,z0,d1,x2,i0⟩:=Ex i0
   refine Gq BF [.a,.a,.a,.a,.a,(.v (vI y0)),(.c (vB d1)),.a] (u [76] [(86,vB (!d1))]) (aC (AI z0)<|aC (DI z0 (Fq .i64) 0 1 false (vI y0))<|aC (Eq.refl (vI y0))<|aC (FV x2)<|aN)<|iC i0 (fun i0=>?_) (fun i0=>?_)
   ·refine Rg [.a] (sl 114 [(4,vB false)] []) (aN)<|hR<|qR<|Tr ?_
    obtain rfl:=t0 _ (sI i0).symm
    replace h:=Cy h
    exact Tr<|qR<|Tr<|bQ _ (kB h)
   refine hK<|qN<|Tn<|Re (nA 3) (sl 114 [(0,vL G9 a0),(3,vP [3] (0)),(5,vI (Ab (k0+1))),(77,vI k0),(78,vI (Ab (k0+1))),(86,vB (!d1))] [bx [3] (Aj a1)]) (aN)<|Tn ⟨(Ab (k0+1)),(sI i0).symm,wT⟩
  refine hE<|Te ?_
  obtain rfl:=t0 _ (sI i0).symm
  replace h:=CZ h
  refine Te<|qX<|Tn ⟨(),h,wT⟩
 rintro _ j0
 replace j0:JQ a0 a1=some r:=j0
 unfold JQ at j0
 refine hS ?_
 obtain⟨z3,p2,m0,y1,z2,z1,k1,d2,j0⟩:=D2 j0
 refine Gg [.a,.a,.a,.a,.a,.a,.a,(.c (vB z3)),.a,(.v (vB m0)),.a,.a,.a,.a,.a,.a,.a,.a,(.v (vB z2)),(.v (vB k1))] (u [] [(106,vB k1)]) (aG ((a1.Over==1)==true)<|aC (c2 p2 FV)<|aG ((a1.Over==1)==true)<|aT (a1.Over==1)<|aB y1<|aG (m0==false)<|aG (m0==false)<|aG (m0==false)<|aG ((m0==false)&&((a1.Over != 1)==true))<|aG ((m0==false)&&((a1.Over != 1)==true))<|aC (fun hg:(m0==false)=true=>aC (gi (m0==false))<|aC (fun q:(a1.Over != 1)=true=>(gA hg (gT q)))<|aB z1<|aN)<|aF m0<|aB d2<|aN)<|iC j0 (fun j0=>?_) (fun j0=>?_)
 ·exact Rg [.a] (sl 114 [(4,vB false)] []) (aN)<|hR<|Tr<|bQ _ (kB j0)
 refine hK<|Tn ?_
 obtain⟨n1,q2,d4,t2,m1,i2,j0⟩:=I8 j0
 exact Rg [.a,.a,(.c (vB n1)),.a,.a,(.c (vB d4)),(.v (vB m1)),.a] (sl 114 [(4,vB m1)] []) (aC (WQ q2)<|aC (c1 t2 Z7)<|aT n1<|aB i2<|aN)<|hR<|bQ _ (kB j0)
end Go.PL
