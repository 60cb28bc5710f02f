/- Functions of the program, as partial functions in Lean, with proofs. -/
import Derived.Test.YtcmdlelhdimnfaaGreatDoorPlAcB
import Derived.Test.YtcmdlelhdimnfaaGreatDoorPlAcF0
import Derived.Test.YtcmdlelhdimnfaaGreatDoorPlAcF8
namespace Go.PL
open Go Go.RowKit Go.Proofs
set_option maxRecDepth 100000
set_option linter.all false
set_option maxHeartbeats 4000000
attribute [local irreducible] Holds thenQ blockQ
def law57_AuditCensus_J6 (a2 : Int) : Option (Bool) :=
 (law57_alive).bind fun r7 =>
 (gd (r7 == true) (audit_Name a2)).bind fun r8 =>
 (gd (r7 == true) (r57_Name a2)).bind fun r9 =>
 (some (if r7 = true then r8 == r9 else false)).bind fun b10 =>
 some b10
def law57_AuditCensus_B13 (r3 : (List (Int))) (r4 : (List (Int))) (vt28_12 : Int) : Option ((Int) ⊕ (Unit ⊕ Unit)) :=
 (if (decide (vt28_12 < (r3.length : Int))) = true then
  (idx r3 vt28_12).bind fun e15 =>
  (idx r4 vt28_12).bind fun e16 =>
  (gd (((e15 != e16) == false) && ((decide ((0 : Int) < vt28_12)) == true)) (idx r3 (wrap64 (vt28_12 - (1 : Int))))).bind fun e17 =>
  (gd (((e15 != e16) == false) && ((decide ((0 : Int) < vt28_12)) == true)) (idx r3 vt28_12)).bind fun e18 =>
  (some (if (decide ((0 : Int) < vt28_12)) = true then decide (e18 < e17) else false)).bind fun b19 =>
  (some (if (e15 != e16) = true then true else b19)).bind fun b20 =>
  (if b20 = true then
   some (.inr (.inr ()))
  else
   some (.inl (wrap64 (vt28_12 + (1 : Int)))))
 else
  some (.inr (.inl ())))
/-- cardgame/cardgamelaw57.AuditCensus -/
def law57_AuditCensus (a0 : SState) (a1 : Int) (a2 : Int) : Option (Bool) :=
 (if (decide ((300 : Int) < (a0.Objects.length : Int))) = true then
  (law57_alive).bind fun r2 =>
  some r2
 else
  (audit_Census a0 a1).bind fun r3 =>
  (r57_Census a0 a1).bind fun r4 =>
  (if ((r3.length : Int) != (r4.length : Int)) = true then
   some false
  else
   (iter (fun (v : Int) => law57_AuditCensus_B13 r3 r4 v) FU (0 : Int)).bind (Sum.elim (fun o0 => law57_AuditCensus_J6 a2) (fun o1 => some false))))
def law57_AuditCensus_C (a0 : SState) (a1 : Int) (a2 : Int) (r : Bool) : Prop := PCall Tryz.prog I0 3 [vA encSState a0, vI a1, vI a2] (· = vB r)
theorem law57_AuditCensus_ok {a0 : SState} {a1 : Int} {a2 : Int} {r : Bool} (h : law57_AuditCensus a0 a1 a2 = some r) : law57_AuditCensus_C a0 a1 a2 r := by
 refine PCall.bo I0_stable Tryz.func3 rfl Tryz.ntmps3 [.tmp 6] fun _ _ _ _ => ?_
 unfold law57_AuditCensus at h
 refine Gg [.a,.a] (uo [0] [(3,vP [3] (0))] [.e (bx [3] (encSState a0))]) (aN) <| hS <| Gg (nA 4) (u [] [(13,vB (decide ((300 : Int) < (a0.Objects.length : Int))))]) (aN) <| iC h (fun h => ?_) (fun h => ?_)
 · obtain ⟨r2,q1,h⟩ := bS h
   exact Rg [(.c (vB r2)),.a] (sl 65 [(6,vB r2)] []) (aC (law57_alive_ok q1) <| aN) <| hR <| Tr <| bQ _ (kB h)
 refine hK <| Tn <| hS ?_
 obtain ⟨r3,t1,r4,x1,h⟩ := bS2 h
 refine Holds.regN [0,1,2,8,16,17,18,24,25,26,27,31,63,127,255,19,23,9,10,11,15,3,7] 255 [.a,.a,(.c (vL (eI .i64) r3)),.a,.a,(.c (vL (eI .i64) r4)),.a,.a] [[3]] (fun n => ⟨[.undef,vI a1,vI a2,vP [3] (0),.undef,.undef,.undef,cond (Nat.testBit n 6) (vL (eI .i64) r3) (.undef),cond (Nat.testBit n 7) (vL (eI .i64) r4) (.undef),.undef,.undef,.undef,.undef,vB (decide ((300 : Int) < (a0.Objects.length : Int))),.undef,cond (Nat.testBit n 0) (vA encSState a0) (.undef),cond (Nat.testBit n 1) (vI a1) (.undef),cond (Nat.testBit n 2) (vL (eI .i64) r3) (.undef),cond (Nat.testBit n 3) (vA encSState a0) (.undef),cond (Nat.testBit n 4) (vI a1) (.undef),cond (Nat.testBit n 5) (vL (eI .i64) r4) (.undef),.undef,.undef,.undef,.undef,.undef,.undef,.undef,.undef,.undef,.undef,.undef,.undef,.undef,.undef,.undef,.undef,.undef,.undef,.undef,.undef,.undef,.undef,.undef,.undef,.undef,.undef,.undef,.undef,.undef,.undef,.undef,.undef,.undef,.undef,.undef,.undef,.undef,.undef,.undef,.undef,.undef,.undef,.undef,.undef],List.filterMap id [some (bx [3] (encSState a0))],[],[]⟩) [[],[],[audit_Census_C a0 a1 r3],[],[],[r57_Census_C a0 a1 r4],[],[]] followsP (by kernel_rfl) (by kernel_rfl) (by decide) (Less.t (by kernel_rfl)) (by kernel_rfl) ⟨trivial,trivial,⟨(audit_Census_ok t1),trivial⟩,trivial,trivial,⟨(r57_Census_ok x1),trivial⟩,trivial,trivial,trivial⟩ <| Tn <| Gs (uo [1,3,13,15,16,17,18,19,20] [] []) <| hS <| Gg (nA 5) (u [] [(25,vB ((r3.length : Int) != (r4.length : Int)))]) (aN) <| iC h (fun h => ?_) (fun h => ?_)
 · exact Rg [.a] (sl 65 [(6,vB false)] []) (aN) <| hR <| Tr <| bQ _ (kB h)
 refine hK <| Tn <| Gj (X := Unit) (fun v => (u [7,8,25] [])) (fun v => law57_AuditCensus_J6 a2 = some r) ?_ ?_
 · refine Gg (nA 3) (u [25] [(27,vI (r3.length : Int)),(28,vI (0 : Int))]) (aN) <| hB ?_
   obtain ⟨i2,d1,h⟩ := bS h
   refine Gi (fun (v : Int) => (u [] [(28,vI v)])) d1 (wT) ?_
   rintro i0 o1 j0 o0
   replace j0 : law57_AuditCensus_B13 r3 r4 i0 = some o1 := j0
   unfold law57_AuditCensus_B13 at j0
   refine Gg [.a] (u [] [(29,vB (decide (i0 < (r3.length : Int))))]) (aN) <| hS <| iC j0 (fun j0 => ?_) (fun j0 => ?_)
   · refine hK <| Tn <| hS <| hB <| Rg [.a,.a] (sl 65 [(2,vI a2),(7,vL (eI .i64) r3),(8,vL (eI .i64) r4),(9,vI i0),(27,vI (r3.length : Int)),(28,vI i0)] []) (aN) ?_
     obtain ⟨k0,t0,m0,x0,p0,y0,q0,z0,j0⟩ := bS4 j0
     obtain ⟨p1,m1,j1,n1,j0⟩ := bS2 j0
     refine Gq followsP [.a,.a,.a,(.v (vI k0)),.a,.a,.a,(.v (vI m0)),.a,.a,.a,.a,.a,.a,.a,.a,.a,(.v (vI p0)),.a,.a,.a,(.v (vI q0)),.a,(.v (vB p1)),(.v (vB j1))] (u [9] [(55,vB j1)]) (aC (idx_b t0) <| aC (eld t0 (lenI .i64) 0 1 false (vI k0)) <| aC (Eq.refl (vI k0)) <| aC (idx_b x0) <| aC (eld x0 (lenI .i64) 0 1 false (vI m0)) <| aC (Eq.refl (vI m0)) <| aG ((k0 != m0) == false) <| aG ((k0 != m0) == false) <| aG (((k0 != m0) == false) && ((decide ((0 : Int) < i0)) == true)) <| aC (fun hg : (((k0 != m0) == false) && ((decide ((0 : Int) < i0)) == true)) = true => aC (gi (((k0 != m0) == false) && ((decide ((0 : Int) < i0)) == true))) <| aC (gi (((k0 != m0) == false) && ((decide ((0 : Int) < i0)) == true))) <| aC (gidx_b y0 hg).1 <| aN) <| aC (fun hg : (((k0 != m0) == false) && ((decide ((0 : Int) < i0)) == true)) = true => aC (gi (((k0 != m0) == false) && ((decide ((0 : Int) < i0)) == true))) <| aC (eld (gd_t y0 hg) (lenI .i64) 0 1 false (vI p0)) <| aC (Eq.refl (vI p0)) <| aN) <| aC (fun hg : (((k0 != m0) == false) && ((decide ((0 : Int) < i0)) == true)) = true => aC (gi (((k0 != m0) == false) && ((decide ((0 : Int) < i0)) == true))) <| aC (gi (((k0 != m0) == false) && ((decide ((0 : Int) < i0)) == true))) <| aC (gidx_b z0 hg).1 <| aN) <| aC (fun hg : (((k0 != m0) == false) && ((decide ((0 : Int) < i0)) == true)) = true => aC (gi (((k0 != m0) == false) && ((decide ((0 : Int) < i0)) == true))) <| aC (eld (gd_t z0 hg) (lenI .i64) 0 1 false (vI q0)) <| aC (Eq.refl (vI q0)) <| aN) <| aH (((k0 != m0) == false) && ((decide ((0 : Int) < i0)) == true)) <| aC (fun hg : ((k0 != m0) == false) = true => aC (gi ((k0 != m0) == false)) <| aC (fun q : (decide ((0 : Int) < i0)) = true => (gA hg (gT q))) <| aB m1 <| aN) <| aF (k0 != m0) <| aB n1 <| aN) <| iC j0 (fun j0 => ?_) (fun j0 => ?_)
     · refine Rg [.a] (sl 65 [(6,vB false)] []) (aN) <| hR <| qR <| Tr ?_
       obtain rfl := o0 _ (sI j0).symm
       replace h := sumR h
       exact Tr <| qR <| Tr <| bQ _ (kB h)
     refine hK <| qN <| Tn <| Ge [.a,.a] (u [] [(28,vI (wrap64 (i0 + (1 : Int)))),(56,vI (wrap64 (i0 + (1 : Int))))]) (aN) <| Tn ⟨(wrap64 (i0 + (1 : Int))),(sI j0).symm,wT⟩
   refine hE <| Te ?_
   obtain rfl := o0 _ (sI j0).symm
   replace h := sumL h
   refine Te <| qX <| Tn ⟨(),h,wT⟩
 rintro _ n0
 replace n0 : law57_AuditCensus_J6 a2 = some r := n0
 unfold law57_AuditCensus_J6 at n0
 obtain ⟨r7,y1,r8,z1,r9,d2,i1,k1,n0⟩ := bS4 n0
 exact Rg [(.c (vB r7)),.a,.a,(.c (vS r8)),.a,(.c (vS r9)),.a,(.v (vB i1)),.a] (sl 65 [(6,vB i1)] []) (aC (law57_alive_ok y1) <| aC (c1 z1 audit_Name_ok) <| aC (c1 d2 r57_Name_ok) <| aH (r7 == true) <| aT r7 <| aB k1 <| aN) <| hR <| bQ _ (kB n0)
end Go.PL
