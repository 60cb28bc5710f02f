/- Plain law of the audit: AuditCensus. -/
import Derived.Test.YtcmdlelhdimnfaaGreatDoorPlAcX
import Derived.Test.YtcmdlelhdimnfaaGreatDoorPlAcA
namespace Go.PL
open Go
set_option maxRecDepth 100000
set_option linter.all false
set_option maxHeartbeats 4000000
def okO (p : Int) (o : SObject) : Bool := (o.Owner == p) && !o.Token
def cl (s : SState) (p : Int) (i : Nat) : List Int := ((s.Objects.take i).filter (okO p)).map SObject.Card
theorem cl_snoc {s : SState} {p : Int} {i : Nat} (h : i < s.Objects.length) : cl s p (i + 1) = cl s p i ++ if okO p s.Objects[i] = true then [s.Objects[i].Card] else [] := by
  unfold cl
  rw [List.take_succ_eq_append_getElem h, List.filter_append, List.map_append]
  cases hk : okO p s.Objects[i] <;> simp [hk]
theorem cl_len (s : SState) (p : Int) (i : Nat) : (cl s p i).length ≤ i := by
  unfold cl
  rw [List.length_map]
  have h1 := List.length_filter_le (okO p) (s.Objects.take i)
  have h2 : (s.Objects.take i).length ≤ i := by rw [List.length_take]; omega
  omega
theorem wS {i : Nat} (h : i < 9223372036854775807) : wrap64 ((i : Int) + 1) = ((i + 1 : Nat) : Int) := by rw [wrap64_id (by omega) (by omega)]; omega
theorem census_e {s : SState} {p : Int} (hn : s.Objects.length ≤ 300) : audit_Census s p = some (srtI (cl s p s.Objects.length)) := by
  unfold audit_Census
  refine loopA (S := fun i => ((i : Int), cl s p i)) (r := cl s p s.Objects.length) s.Objects.length (by omega) (by simp [cl]) (fun i hi => ?_) ?_ ?_
  · dsimp only
    have hl := cl_len s p i
    unfold audit_Census_B9 audit_Census_J12
    rw [if_pos (by simpa using hi), idx_nat hi, wS (by omega), cl_snoc hi]
    simp only [Option.bind_some, ifA]
    rw [app1 (by simp; omega) (by decide), show ((s.Objects[i].Owner == p) && !s.Objects[i].Token) = okO p s.Objects[i] from rfl]
    cases okO p s.Objects[i] <;> simp
  · dsimp only
    unfold audit_Census_B9
    rw [if_neg (by simp)]
  · have hl := cl_len s p s.Objects.length
    unfold audit_Census_J2
    rw [need_some (by omega)]; rfl
theorem rcensus_e {s : SState} {p : Int} (hn : s.Objects.length ≤ 300) : r57_Census s p = some (srtI (cl s p s.Objects.length)) := by
  unfold r57_Census
  refine loopA (S := fun i => (srtI (cl s p i), (i : Int))) (r := srtI (cl s p s.Objects.length)) s.Objects.length (by omega) (by simp [cl, srtI, srtG]) (fun i hi => ?_) ?_ rfl
  · dsimp only
    have hl := cl_len s p i
    have hsl := srtI_len (cl s p i)
    unfold r57_Census_B8 r57_Census_J11
    rw [if_pos (by simpa using hi), idx_nat hi, wS (by omega), cl_snoc hi]
    simp only [Option.bind_some, ifO]
    rw [show (s.Objects[i].Owner != p || s.Objects[i].Token) = !okO p s.Objects[i] by
      unfold okO bne
      cases s.Objects[i].Owner == p <;> cases s.Objects[i].Token <;> rfl]
    cases hk : okO p s.Objects[i]
    · simp
    · rw [if_neg (by simp), if_pos rfl, srtI_snoc, insI_take]
      generalize srtI (cl s p i) = l at *
      generalize hx : s.Objects[i] = x
      have hc := cntLe_le x.Card l
      refine loopA (S := fun j => (j : Int)) (r := (cntLe x.Card l : Int)) (cntLe x.Card l) (by omega) rfl (fun j hj => ?_) ?_ ?_
      · have hjl : j < l.length := by omega
        unfold r57_Census_B25
        rw [decide_eq_true (p := (j : Int) < (l.length : Int)) (by omega)]
        simp only [beq_self_eq_true, gd_true, idx_nat hjl, Option.bind_some, if_true]
        rw [if_pos (decide_eq_true (cntLe_lt x.Card l j hjl hj)), wS (by omega)]
      · unfold r57_Census_B25
        by_cases hq : cntLe x.Card l < l.length
        · rw [decide_eq_true (p := (cntLe x.Card l : Int) < (l.length : Int)) (by omega)]
          simp only [beq_self_eq_true, gd_true, idx_nat hq, Option.bind_some, if_true]
          rw [if_neg (by simpa using cntLe_at x.Card l hq)]
        · rw [decide_eq_false (p := (cntLe x.Card l : Int) < (l.length : Int)) (by omega)]
          rfl
      · have e1 : lsub l 0 (cntLe x.Card l : Int) = some (l.take (cntLe x.Card l)) := by
          unfold lsub
          rw [if_pos (by omega)]
          simp
        have e2 : lsub l (cntLe x.Card l : Int) (l.length : Int) = some (l.drop (cntLe x.Card l)) := by
          unfold lsub
          rw [if_pos (by omega)]
          congr 1
          simp only [Int.toNat_natCast]
          rw [List.take_of_length_le (by simp)]
        have t1 : (l.take (cntLe x.Card l)).length ≤ l.length := by simp; omega
        have t2 : (l.drop (cntLe x.Card l)).length ≤ l.length := by simp
        unfold r57_Census_J16 r57_Census_J11
        rw [e1, e2]
        simp only [Option.bind_some]
        rw [app1 (by simp; omega) (by decide)]
        simp only [Option.bind_some, List.nil_append]
        rw [app1 (by simp; omega) (by decide)]
        simp only [Option.bind_some]
        rw [app1 (by simp; omega) (by decide)]
        simp only [Option.bind_some, List.append_assoc, List.singleton_append]
        rw [wS (by omega)]
  · dsimp only
    unfold r57_Census_B8
    rw [if_neg (by simp)]
theorem name_e (a : Int) : ∃ w, audit_Name a = some w ∧ r57_Name a = some w := by
  by_cases h : 1 ≤ a ∧ a ≤ 6
  · have : a = 1 ∨ a = 2 ∨ a = 3 ∨ a = 4 ∨ a = 5 ∨ a = 6 := by omega
    rcases this with rfl | rfl | rfl | rfl | rfl | rfl <;> exact ⟨_, rfl, rfl⟩
  · refine ⟨[], ?_, ?_⟩
    · unfold audit_Name
      rw [Option.bind_some, if_pos (by simp; omega)]
    · unfold r57_Name
      rw [Option.bind_some, if_pos (by simp; omega)]
theorem alive57 : law57_alive = some true := by kernel_rfl
theorem law_AuditCensus (s : SState) (p k : Int) : law57_AuditCensus s p k = some true := by
  unfold law57_AuditCensus
  by_cases h : (300 : Int) < (s.Objects.length : Int)
  · rw [if_pos (decide_eq_true h), alive57]; rfl
  · rw [if_neg (by simpa using h), census_e (by omega), rcensus_e (by omega)]
    simp only [Option.bind_some]
    rw [if_neg (by simp)]
    have hl : (srtI (cl s p s.Objects.length)).length ≤ 300 := by
      rw [srtI_len]
      have := cl_len s p s.Objects.length
      omega
    have hs := srtI_sorted (cl s p s.Objects.length)
    generalize srtI (cl s p s.Objects.length) = l at hl hs
    rw [allK (p := fun _ => true) (K := law57_AuditCensus_J6 k) (a := some false) (B := fun v => law57_AuditCensus_B13 l l v) l.length (by omega) (fun i hi => by
      show law57_AuditCensus_B13 l l (i : Int) = _
      unfold law57_AuditCensus_B13
      rw [if_pos (by simpa using hi), idx_nat hi, if_pos rfl]
      simp only [Option.bind_some, bne_self_eq_false, Bool.false_eq_true, if_false, beq_self_eq_true, Bool.true_and]
      by_cases h0 : 0 < i
      · have hi1 : i - 1 < l.length := by omega
        rw [decide_eq_true (p := (0 : Int) < (i : Int)) (by omega), wrap64_id (x := (i : Int) - 1) (by omega) (by omega), show ((i : Int) - 1) = ((i - 1 : Nat) : Int) by omega, idx_nat hi1]
        simp only [beq_self_eq_true, gd_true, Option.bind_some, if_true]
        have := List.pairwise_iff_getElem.1 hs (i - 1) i hi1 hi (by omega)
        rw [if_neg (by simpa using this), wrap64_id (by omega) (by omega)]
      · rw [decide_eq_false (p := (0 : Int) < (i : Int)) (by omega)]
        simp only [show (false == true) = false from rfl, gd_false, Option.bind_some, Bool.false_eq_true, if_false]
        rw [wrap64_id (by omega) (by omega)]) (by
      show law57_AuditCensus_B13 l l _ = _
      unfold law57_AuditCensus_B13
      rw [if_neg (by simp)])]
    rw [if_pos (by simp)]
    obtain ⟨w, h1, h2⟩ := name_e k
    unfold law57_AuditCensus_J6
    rw [alive57, h1, h2]
    simp [gd_true]
end Go.PL
