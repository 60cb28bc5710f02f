/- Functions of the program, as partial functions in Lean, with proofs. -/
import Derived.Test.YthppcliidflkjaaGreatDoorPlCsB
import Derived.Test.YthppcliidflkjaaGreatDoorPlCsF1
import Derived.Test.YthppcliidflkjaaGreatDoorPlCsF2
namespace Go.PL
open Go Go.RowKit Go.Proofs
set_option maxRecDepth 100000
set_option linter.all false
set_option maxHeartbeats 4000000
attribute [local irreducible] Ah CP Dq
def Cx:Option (Bool):=
 (YA).bind fun r8=>
 some r8
def Bn (r4:(List (BT))) (r5:(List (BT))) (vt25_10:Int):Option ((Int)⊕(Unit⊕Unit)):=
 (if(decide (vt25_10<(r4.length:Int)))=true then
  (Gk r4 vt25_10).bind fun e13=>
  (Gk r5 vt25_10).bind fun e14=>
  (if(!(e13==e14))=true then
   some (.inr (.inr ()))
  else
   some (.inl (A3 (vt25_10+1))))
 else
  some (.inr (.inl ())))
def Dm (a0:Gb):Option (Bool):=
 (if(decide (12<(a0.Abilities.length:Int)))=true then
  (YA).bind fun r2=>
  some r2
 else
  (E8 a0).bind fun r3=>
  (Gf r3).bind fun r4=>
  (Hq r3).bind fun r5=>
  (if((r4.length:Int) != (r5.length:Int))=true then
   some false
  else
   (iter (fun(v:Int)=>Bn r4 r5 v) FU (0:Int)).bind (Sum.elim (fun o0=>Cx) (fun o1=>some false))))
def Lz (a0:Gb) (r:Bool):Prop:=Bp Tryz.prog I0 3 [vA D8 a0] (· =vB r)
theorem J3 {a0:Gb} {r:Bool} (h:Dm a0=some r):Lz a0 r:=by
 refine Bp.bo DQ Tryz.func3 rfl Tryz.ntmps3 [.tmp 2] fun _ _ _ _=>?_
 unfold Dm at h
 refine Rg [.a,.a] (sl 39 [(1,vP [1] (0))] [bx [1] (D8 a0)]) (aN)<|hS<|Gg (nA 4) (u [] [(10,vB (decide (12<(a0.Abilities.length:Int))))]) (aN)<|iC h (fun h=>?_) (fun h=>?_)
 ·obtain⟨r2,y0,h⟩:=bS h
  exact Rg [(.c (vB r2)),.a] (sl 39 [(2,vB r2)] []) (aC (ZJ y0)<|aN)<|hR<|Tr<|bQ _ (kB h)
 refine hK<|Tn ?_
 obtain⟨r3,z0,h⟩:=bS h
 refine Rg [.a,(.c (vA BU r3)),.a,.a] (sl 39 [(3,vP [3] (0))] [bx [3] (BU r3)]) (aC (QA z0)<|aN)<|hS ?_
 obtain⟨r4,d1,r5,i1,h⟩:=o3 h
 refine Ah.regN [0,1,4,5,7,15,31,63,3] 63 [.a,(.c (vL Aq r4)),.a,(.c (vL Aq r5)),.a,.a] [[3]] (fun n=>⟨[.undef,.undef,.undef,vP [3] (0),cond (Nat.testBit n 4) (vL Aq r4) (.undef),cond (Nat.testBit n 5) (vL Aq r5) (.undef),.undef,.undef,.undef,.undef,.undef,.undef,.undef,.undef,cond (Nat.testBit n 0) (vA BU r3) (.undef),cond (Nat.testBit n 1) (vL Aq r4) (.undef),cond (Nat.testBit n 2) (vA BU r3) (.undef),cond (Nat.testBit n 3) (vL Aq r5) (.undef),.undef,.undef,.undef,.undef,.undef,.undef,.undef,.undef,.undef,.undef,.undef,.undef,.undef,.undef,.undef,.undef,.undef,.undef,.undef,.undef,.undef],List.filterMap id [some (bx [3] (BU r3))],[],[]⟩) [[],[Ly r3 r4],[],[ND r3 r5],[],[]] IJ (by kernel_rfl) (by kernel_rfl) (by decide) (Bk.t (by kernel_rfl)) (by kernel_rfl) ⟨trivial,⟨(QY d1),trivial⟩,trivial,⟨(UK i1),trivial⟩,trivial,trivial,trivial⟩<|Tn<|Gs (uo [3,14,15,16,17] [] [])<|hS<|Gg (nA 5) (u [] [(22,vB ((r4.length:Int) != (r5.length:Int)))]) (aN)<|iC h (fun h=>?_) (fun h=>?_)
 ·exact Rg [.a] (sl 39 [(2,vB false)] []) (aN)<|hR<|Tr<|bQ _ (kB h)
 refine hK<|Tn<|Sj (X:=Unit) (fun v=>(sl 39 [] [])) (fun v=>Cx=some r) ?_ ?_
 ·refine Gg (nA 3) (u [22] [(24,vI (r4.length:Int)),(25,vI 0)]) (aN)<|hB ?_
  obtain⟨k1,t0,h⟩:=bS h
  refine Gi (fun(v:Int)=>(u [] [(25,vI v)])) t0 (wT) ?_
  rintro j0 x0 i0 o0
  replace i0:Bn r4 r5 j0=some x0:=i0
  unfold Bn at i0
  refine Gg [.a] (u [] [(26,vB (decide (j0<(r4.length:Int))))]) (aN)<|hS<|iC i0 (fun i0=>?_) (fun i0=>?_)
  ·refine hK<|Tn<|hS<|hB<|Gg [.a,.a] (u [26] [(6,vI j0)]) (aN) ?_
   obtain⟨k0,p0,m0,q0,i0⟩:=o3 i0
   refine Gq IJ [.a,.a,.a,(.v (vA Aq k0)),.a,.a,.a,(.v (vA Aq m0)),(.v (vB (!(k0==m0))))] (u [6] [(36,vB (!(k0==m0)))]) (aC (Fh p0)<|aC (oa p0 Lx 0 18 true (vA Aq k0))<|aC (Eq.refl (vA Aq k0))<|aC (Fh q0)<|aC (oa q0 Lx 0 18 true (vA Aq m0))<|aC (Eq.refl (vA Aq m0))<|aC (congrArg (fun z=>V.c (.bool (!z))) (jO k0 m0))<|aN)<|iC i0 (fun i0=>?_) (fun i0=>?_)
   ·refine Rg [.a] (sl 39 [(2,vB false)] []) (aN)<|hR<|qR<|Tr ?_
    obtain rfl:=o0 _ (sI i0).symm
    replace h:=mY h
    exact Tr<|qR<|Tr<|bQ _ (kB h)
   refine hK<|qN<|Tn<|Re [.a,.a] (sl 39 [(4,vL Aq r4),(5,vL Aq r5),(24,vI (r4.length:Int)),(25,vI (A3 (j0+1))),(36,vB (!(k0==m0))),(37,vI (A3 (j0+1)))] []) (aN)<|Tn ⟨(A3 (j0+1)),(sI i0).symm,wT⟩
  refine hE<|Te ?_
  obtain rfl:=o0 _ (sI i0).symm
  replace h:=mX h
  refine Te<|qX<|Tn ⟨(),h,wT⟩
 rintro _ n0
 replace n0:Cx=some r:=n0
 unfold Cx at n0
 obtain⟨r8,j1,n0⟩:=bS n0
 exact Rg [(.c (vB r8)),.a] (sl 39 [(2,vB r8)] []) (aC (ZJ j1)<|aN)<|hR<|bQ _ (kB n0)
end Go.PL
