/- The pure logic: PlPo, PlPp, PlPd. -/
import Derived.Test.YtedobbmpljbccaaGreatDoorPlPtoPlPn
import Derived.Lib.Builder
import Derived.Lib.UnsafeStr
import Derived.JoinedOf
/- The pure logic: a region that draws its order, whose last operation is told by a rule of its own. -/
namespace Go.PL
open Go Go.RowKit
def rdyZ (pr : List (List Nat)) (E : List Nat) (mb : List Bool) (N z : Nat) : List Nat := (rdyE pr E mb N).filter fun i => !Nat.beq i z
def allZ (P : Program) (I : World → Prop) (ops : Array Oper) (ss : List Stp) (ids : List Bid) (d : RD) (pr : List (List Nat)) (E : List Nat) (ms : List (List Bool)) (z : Nat) (b : Nat → Bool) : List (Option (List Prop × St)) :=
  ms.flatMap fun mb => (rdyZ pr E mb ops.size z).map fun i => stepM P I ops ss ids d (deadB pr i) (gam pr E mb i b) i
def wantZ (ops : Array Oper) (cs : List (List Prop)) (d : RD) (pr : List (List Nat)) (E : List Nat) (ms : List (List Bool)) (z : Nat) (b : Nat → Bool) : List (Option (List Prop × St)) :=
  ms.flatMap fun mb => (rdyZ pr E mb ops.size z).map fun i => some (cs.getD i [], d.st (setB (gam pr E mb i b) i))
section
variable {P : Program} {F : Fr} {st : St} {ops : Array Oper}
theorem anyZ {pr : List (List Nat)} {E : List Nat} {ms : List (List Bool)} {ss : List Stp} {ids : List Bid} {cs : List (List Prop)} {d : RD} {Q : Exit → St → Prop} (z : Nat) (hids : ids.Nodup) (hp : prOk ops pr = true) (hm : msOk pr E ms ops.size = true)
    (hzl : z < ops.size) (hzp : ∀ j, j < ops.size → j ≠ z → j ∈ pr.getD z []) (hst : ∀ b, allZ P F.I ops ss ids d pr E ms z b = wantZ ops cs d pr E ms z b) (hc : andLL cs)
    (hesc : ∀ o, ops[z]? = some o → o.guard = none ∧ Esc P F.I o (d.st fun j => Nat.blt j ops.size && !Nat.beq j z) (Q .normal)) :
    ∀ (fuel : Nat) (v : List Bool) (a : Act) (w : World) (G : Ctx), v.length = ops.size → bv v z = false → E.map (bv v) ∈ ms → (∀ i, bv v i = true → ∀ j ∈ pr.getD i [], bv v j = true) → unl v ≤ fuel → R F (d.st (bv v)) a w G →
      wpAny P .any ops (fun e a' w' => ∃ st' G', Q e st' ∧ R F st' a' w' G') fuel v.toArray a w := by
  intro fuel
  induction fuel with
  | zero =>
    intro v a w G hv hvz hE hcl hu hR
    exfalso
    have hz := unl_zero _ (Nat.le_zero.1 hu)
    rw [List.all_eq_true] at hz
    have hlt : z < v.length := by omega
    have h2 := hz v[z] (List.getElem_mem hlt)
    simp only [bv, List.getD_eq_getElem?_getD, List.getElem?_eq_getElem hlt, Option.getD_some] at hvz
    rw [hvz] at h2; cases h2
  | succ fuel ih =>
    intro v a w G hv hvz hE hcl hu hR
    refine ⟨fun hr => (by have := rdy_none hv hp hr z hzl; rw [hvz] at this; cases this), fun i hi => ?_⟩
    obtain ⟨hlt, hf, hdir⟩ := rdy_false hv hi
    have hp' := hp
    simp only [prOk, List.all_eq_true, List.mem_range, Bool.and_eq_true, Bool.or_eq_true, List.any_eq_true, memB_iff] at hp'
    have hpre : ∀ j ∈ pr.getD i [], bv v j = true := by
      intro j hj
      rcases (hp' i hlt).2 j hj with q | ⟨k, hk, q⟩
      · exact hdir j q
      · exact hcl k (hdir k hk) j q
    by_cases hiz : i = z
    · subst hiz
      have hall : bv v = fun j => Nat.blt j ops.size && !Nat.beq j i := by
        funext j
        by_cases hj : j < ops.size
        · by_cases hji : j = i
          · subst hji
            rw [hf]; simp
          · rw [hpre j (hzp j hj hji)]
            have h1 : Nat.blt j ops.size = true := by simpa using hj
            have h2 : Nat.beq j i = false := by
              cases h : Nat.beq j i
              · rfl
              · exact absurd (Nat.eq_of_beq_eq_true h) hji
            rw [h1, h2]; rfl
        · have h1 : bv v j = false := by simp [bv, List.getD_eq_getElem?_getD, List.getElem?_eq_none (show v.length ≤ j by omega)]
          have h2 : Nat.blt j ops.size = false := by
            cases h : Nat.blt j ops.size
            · rfl
            · simp at h; omega
          rw [h1, h2]; rfl
      have ho : ops[i]? = some ops[i] := Array.getElem?_eq_getElem hlt
      obtain ⟨hgd, hEs⟩ := hesc _ ho
      have hw := hEs F a w G (fun e a' w' => ∃ st' G', Q e st' ∧ R F st' a' w' G') rfl (hall ▸ hR)
      have hlast : ∀ a' w', Nxt F (Q .normal) a' w' → wpAny P .any ops (fun e a' w' => ∃ st' G', Q e st' ∧ R F st' a' w' G') fuel (v.toArray.setIfInBounds i true) a' w' := by
        intro a' w' hn
        have hsa : v.toArray.setIfInBounds i true = (v.set i true).toArray := by simp
        rw [hsa]
        have hr : Region.ready .any ops (v.set i true).toArray = [] := by
          rcases hrr : Region.ready .any ops (v.set i true).toArray with _ | ⟨k, r⟩
          · rfl
          · obtain ⟨q1, q2, _⟩ := rdy_false (v := v.set i true) (by simpa using hv) (i := k) (by rw [hrr]; simp)
            exfalso
            by_cases hki : k = i
            · subst hki
              simp [bv, List.getD_eq_getElem?_getD, show k < v.length by omega] at q2
            · have : bv (v.set i true) k = bv v k := by simp [bv, List.getD_eq_getElem?_getD, List.getElem?_set, Ne.symm hki]
              rw [this, hpre k (hzp k q1 hki)] at q2
              cases q2
        cases fuel with
        | zero => exact ⟨hr, hn⟩
        | succ fuel => exact ⟨fun _ => hn, fun k hk => by rw [hr] at hk; cases hk⟩
      unfold wpOp
      rw [ho]
      simp only
      rw [if_pos (wanted_none hgd _)]
      exact .inl (Oper.wp_mono hlast hw)
    have hsuc : ∀ j, i ∈ pr.getD j [] → bv v j = false := by
      intro j hj
      cases hb : bv v j
      · rfl
      · have := hcl j hb i hj
        rw [hf] at this; cases this
    have hg : gam pr E (E.map (bv v)) i (bv v) = bv v := by
      funext j
      unfold gam
      cases h1 : Nat.beq j i
      · simp only [cond_false]
        cases h2 : memB (pr.getD j []) i
        · simp only [cond_false, lkB_map]
          split
          · rename_i x hx
            split at hx
            · simpa using hx.symm
            · cases hx
          · cases h3 : memB (pr.getD i []) j
            · rfl
            · exact (hpre j (memB_iff.1 h3)).symm
        · exact (hsuc j (memB_iff.1 h2)).symm
      · rw [Nat.eq_of_beq_eq_true h1]; exact hf.symm
    have hri : i ∈ rdyE pr E (E.map (bv v)) ops.size := by
      simp only [rdyE, List.mem_filter, List.mem_range, Bool.and_eq_true, List.all_eq_true, lkB_map]
      refine ⟨hlt, ?_, fun j hj => ?_⟩
      · split
        · rename_i hq
          split at hq
          · simp only [Option.some.injEq] at hq; rw [hf] at hq; cases hq
          · cases hq
        · rfl
      · split
        · rename_i hq
          split at hq
          · simp only [Option.some.injEq] at hq; rw [hpre j hj] at hq; cases hq
          · cases hq
        · rfl
    have hriz : i ∈ rdyZ pr E (E.map (bv v)) ops.size z := by
      simp only [rdyZ, List.mem_filter, Bool.not_eq_true']
      refine ⟨hri, ?_⟩
      cases h : Nat.beq i z
      · rfl
      · exact absurd (Nat.eq_of_beq_eq_true h) hiz
    have hstep := flat_eqL (r := fun mb => rdyZ pr E mb ops.size z) (hst (bv v)) _ hE i hriz
    rw [hg] at hstep
    have hdead : ∀ j, deadB pr i j = true → bv v j = false := by
      intro j hj
      unfold deadB at hj
      cases h1 : Nat.beq j i
      · rw [h1] at hj; exact hsuc j (memB_iff.1 hj)
      · rw [Nat.eq_of_beq_eq_true h1]; exact hf
    have hstep := stepM_spec hdead hstep
    have hset : setB (bv v) i = bv (v.set i true) := by
      funext j
      unfold setB
      cases h1 : Nat.beq j i
      · have : i ≠ j := fun e => by subst e; simp at h1
        simp [bv, List.getD_eq_getElem?_getD, List.getElem?_set, this]
      · have := Nat.eq_of_beq_eq_true h1
        subst this
        simp [bv, List.getD_eq_getElem?_getD, show j < v.length by omega]
    unfold stepN at hstep
    split at hstep
    · rename_i o s ho hs
      split at hstep
      · rename_i c st' hss
        simp only [Option.some.injEq, Prod.mk.injEq] at hstep
        obtain ⟨hcc, hst'⟩ := hstep
        rw [hset] at hst'
        have hwp := stepS_wp (K := fun s' => Less s' (d.st (bv (v.set i true)))) hss (hcc ▸ andLL_get hc i) (hst' ▸ canS_less ids hids st')
        have hw := wpO_sound (Q := fun e a' w' => ∃ st' G', Q e st' ∧ R F st' a' w' G') hR hwp
        have hnext : ∀ a' w', Nxt F (fun s' => Less s' (d.st (bv (v.set i true)))) a' w' → wpAny P .any ops (fun e a' w' => ∃ st' G', Q e st' ∧ R F st' a' w' G') fuel (v.toArray.setIfInBounds i true) a' w' := by
          intro a' w' ⟨s', G', hl, hR'⟩
          have hsa : v.toArray.setIfInBounds i true = (v.set i true).toArray := by simp
          rw [hsa]
          refine ih (v.set i true) a' w' G' (by simpa using hv) (by
            rw [← hset]; unfold setB
            cases h1 : Nat.beq z i
            · exact hvz
            · exact absurd (Nat.eq_of_beq_eq_true h1).symm hiz) ?_ ?_ ?_ (hR'.less hl)
          · simp only [msOk, Bool.and_eq_true, List.all_eq_true, List.contains_iff_mem] at hm
            have := hm.2 _ hE i hri
            have e : (E.map fun j => cond (Nat.beq j i) true ((lkB E (E.map (bv v)) j).getD false)) = E.map (bv (v.set i true)) := by
              refine List.map_congr_left (fun j hj => ?_)
              rw [← hset, lkB_map, if_pos hj]
              rfl
            rwa [e] at this
          · intro k hk j hj
            rw [← hset] at hk ⊢
            unfold setB at hk ⊢
            cases h1 : Nat.beq j i
            · simp only [cond_false]
              cases h2 : Nat.beq k i
              · rw [h2] at hk; exact hcl k hk j hj
              · rw [Nat.eq_of_beq_eq_true h2] at hj; exact hpre j hj
            · rfl
          · have hb : v[i]? = some false := by
              have hl : i < v.length := by omega
              simp only [bv, List.getD_eq_getElem?_getD, List.getElem?_eq_getElem hl, Option.getD_some] at hf
              rw [List.getElem?_eq_getElem hl, hf]
            have := unl_set _ i hb
            omega
        unfold wpOp
        rw [ho]
        simp only
        by_cases hwt : Region.wanted o (yielded ops a.tmps) = true
        · rw [if_pos hwt] at hw ⊢
          exact .inl (Oper.wp_mono hnext hw)
        · rw [if_neg hwt] at hw ⊢
          exact hnext _ _ hw
      · cases hstep
    · cases hstep
/-- A region that draws its order; its last operation stands by itself. -/
theorem Holds.regZ {st : St} {rid : Nat} {l : List Oper} {Q : Exit → St → Prop} (h1 : P.follows .mixedOrders = true) (z : Nat) (pr : List (List Nat)) (E : List Nat) (ms : List (List Bool)) (ss : List Stp) (ids : List Bid) (d : RD) (cs : List (List Prop)) (hc : andLL cs)
    (o : Oper) (hesc : Esc P F.I o (d.st fun j => Nat.blt j l.toArray.size && !Nat.beq j z) (Q .normal))
    (ho : l.toArray[z]? = some o := by kernel_rfl) (hg : o.guard = none := by kernel_rfl)
    (hzp : ((List.range l.toArray.size).all fun j => Nat.beq j z || memB (pr.getD z []) j) = true := by kernel_rfl)
    (hids : nodupB ids = true := by kernel_rfl) (hp : prOk l.toArray pr = true := by kernel_rfl) (hm : msOk pr E ms l.toArray.size = true := by kernel_rfl) (h0 : trimE st (d.st fun _ => false) = some (d.st fun _ => false) := by kernel_rfl)
    (hst : ∀ b, allZ P F.I l.toArray ss ids d pr E ms z b = wantZ l.toArray cs d pr E ms z b := by intro b; kernel_rfl) : Holds P F (.region rid l.toArray true) st Q := by
  intro a w G hR
  refine wp_region_any h1 ?_
  have hR' := (hR.less (Less.t h0)).same (w' := { w with drawn := w.drawn + 1 }) ⟨rfl, rfl, rfl⟩ ⟨Nat.le_refl _, fun _ _ => rfl⟩
  have e0 : bv (List.replicate l.toArray.size false) = fun _ => false := by
    funext j
    simp only [bv, List.getD_eq_getElem?_getD, List.getElem?_replicate]
    split <;> rfl
  have hzl : z < l.toArray.size := by
    rcases Nat.lt_or_ge z l.toArray.size with h | h
    · exact h
    · rw [Array.getElem?_eq_none h] at ho; cases ho
  have key := anyZ (P := P) (ops := l.toArray) (Q := Q) z (nodupB_spec hids) hp hm hzl (fun j hj hjz => by
      simp only [List.all_eq_true, List.mem_range, Bool.or_eq_true] at hzp
      rcases hzp j hj with q | q
      · exact absurd (Nat.eq_of_beq_eq_true q) hjz
      · exact memB_iff.1 q) hst hc (fun o' ho' => by
      rw [ho] at ho'; injection ho' with ho'; subst ho'
      exact ⟨hg, hesc⟩) l.toArray.size (List.replicate l.toArray.size false) a _ G (by simp) (by rw [e0]) (by
      simp only [msOk, Bool.and_eq_true, List.contains_iff_mem] at hm
      rw [e0]; exact hm.1) (fun i hi => by rw [e0] at hi; cases hi) (by simp [unl]) (by rw [e0]; exact hR')
  simpa using key
end
end Go.PL

/- The pure logic: a Builder's text is taken, and the call ends. -/
namespace Go.PL
open Go Go.RowKit
/-- PCall.of, the frame being the call's own. -/
theorem PCall.bodyN {P : Program} {I : World → Prop} {st : St} (hsta : Stable I) {f : FuncId} {fn : Func} {c : Code} {args : List V} {Q : V → Prop} {n : Nat} {rs : List ResultVar} (hent : PL.ent P f = true) (hf : P.funcs[f]? = some fn) (hb : fn.body = some c) (hn : fn.ntmps = n) (hr : fn.results = rs.toArray)
    (hst : St.start args n = st)
    (h : ∀ w0 av, Holds P ⟨w0, av, fun _ => False, I, []⟩ c st (fun e st' => (e = .normal ∨ e = .ret) ∧ (outV P st' rs).1 ∧ (outV P st' rs).2.pure = true ∧ Q (outV P st' rs).2)) : PCall P I f args Q := by
  refine ⟨hent, fun w vs av hI hav hargs => calls_of_wp hf hb ?_⟩
  have hR := R.start hsta hI hav hargs fn.ntmps
  rw [hn, hst] at hR
  rw [hn]
  refine Code.wp_mono (fun e a' w' ⟨st', G', ⟨he, q1, q2, q3⟩, hR'⟩ => ?_) (h w av _ _ _ hR)
  have : fn.results.toList = rs := by rw [hr]
  have fin : a'.defers = [] ∧ ∃ v, (results fn a'.tmps).run P w' = .ok v w' ∧ (fun (e : Ending) w'' => ∃ v r, e = .returned v ∧ Q r ∧ r.pure = true ∧ RelV w'' (im av) r v ∧ Below w.heap.size w w'') (.returned v) w' := by
    rw [← this] at q1 q2 q3
    obtain ⟨v, k1, k2⟩ := outV_sound hR' (fun _ hx => hx) (fn := fn) q1 q2
    exact ⟨hR'.dfr, v, k1, v, _, rfl, q3, q2, k2, hR'.below (fun _ hx => hx)⟩
  rcases he with rfl | rfl <;> exact fin
/-- Only what the caller had is held on to. -/
theorem R.strip {F : Fr} {st : St} {a : Act} {w w' : World} {G : Ctx} (h : R F st a w G) (hb : Below F.w0.heap.size w w') (hgh : st.gh = []) :
    R F ⟨List.replicate st.tm.length .undef, [], [], st.pre⟩ a w' ⟨fun _ => none, fun _ => none, F.av⟩ where
  dfr := h.dfr
  size := by simp [h.size]
  slots := fun i => by
    have : (List.replicate st.tm.length V.undef).getD i .undef = .undef := by
      simp only [List.getD_eq_getElem?_getD, List.getElem?_replicate]
      split <;> rfl
    rw [this]; simp only [RelV]
  ghosts := by
    have := h.ghosts
    rw [hgh] at this
    simpa only [RelVs] using this
  store := fun e he => by cases he
  pures := fun e he => by cases he
  nodup := by simp
  inj := fun i j b hi => by cases hi
  lt := fun i b hi => by cases hi
  new := fun i b hi => by cases hi
  wr := fun b => ⟨.inl, fun q => q.elim id (fun ⟨_, q⟩ => by cases q)⟩
  avlt := h.avlt
  inv := h.inv
  avold := h.avold
  os := hb.os.trans h.os
  tape := hb.tape.trans h.tape
  output := hb.output.trans h.output
  hsize := Nat.le_trans h.hsize hb.size
  ext := fun b hb' hold => (hb.block b hb').trans (h.ext b hb' hold)
theorem strL_vals {w : World} {G : Ctx} : ∀ {s : List UInt8} {vs : List Value}, RelL w G (strL s) vs → vs = Lib.byteCells s
  | [], [], _ => rfl
  | [], _ :: _, h => by simp [strL, RelL] at h
  | _ :: _, [], h => by simp [strL, RelL] at h
  | b :: s, v :: vs, h => by
    simp only [strL, List.map_cons, RelL, RelC] at h
    have := strL_vals (s := s) (vs := vs) h.2
    rw [h.1, this]; rfl
/-- What a Builder in a box holds. -/
theorem R.builder {F : Fr} {st : St} {a : Act} {w : World} {G : Ctx} (hR : R F st a w G) (hold : ∀ b, ¬ F.old b) {id : Bid} {T E : TypeId} {c1 : C} {s : List UInt8} {b : Nat} (hb : G.blk id = some b)
    (hl : st.look id = some ⟨id, none, [.bld id T, c1], false⟩)
    (h : (∃ r pu, c1 = .osl r ∧ r ≠ id ∧ st.look r = some ⟨r, some (E, 1, s.length), strL s, pu⟩ ∧ s ≠ []) ∨ (c1 = .nils ∧ s = [])) : Lib.IsBuilder T E F.w0.heap.size b (Lib.byteCells s) w := by
  obtain ⟨hm, -⟩ := look_mem hl
  have hE := hR.store _ hm
  obtain ⟨b', T', cur, q1, q2, q3, q4⟩ := (by simpa only [RelE] using hE : ∃ b T' cur, G.blk id = some b ∧ w.heap[b]? = some (.cells cur T' (0, 0)) ∧ cur.size = [C.bld id T, c1].length ∧ RelRow w G [C.bld id T, c1] b 0)
  rw [hb] at q1; injection q1 with q1; subst q1
  obtain ⟨us, r1, r2⟩ := q4.list
  have hpre := heap_of_range q2 r2
  obtain ⟨v0, v1, rfl⟩ : ∃ v0 v1, us = [v0, v1] := by
    have := r1.length
    match us, this with
    | [x, y], _ => exact ⟨x, y, rfl⟩
  have hcur : cur = #[v0, v1] := by
    apply Array.ext'
    have h2 : cur.toList.length = 2 := by simpa using q3
    have h3 := congrArg List.length hpre
    simp only [List.length_append, List.length_drop, List.length_cons, List.length_nil] at h3
    rw [← hpre]
    have : cur.toList.drop [v0, v1].length = [] := List.length_eq_zero_iff.1 (by rw [List.length_drop, h2]; rfl)
    rw [this]; rfl
  subst hcur
  simp only [RelL, RelC, and_true] at r1
  obtain ⟨⟨b2, hb2, ⟨cur2, fz, hh⟩, hn⟩, hc1⟩ := r1
  rw [hb] at hb2; injection hb2 with hb2; subst hb2
  rw [q2] at hh
  injection hh with hh
  injection hh with _ hT _
  subst hT
  have hbB : F.w0.heap.size ≤ b := (hR.new _ _ hb).resolve_right (hold b)
  have key : w.ownsRow F.w0.heap.size E 1 v1 (Lib.byteCells s).length (Lib.byteCells s) ∧ v1.ownBlock ≠ some b := by
    rcases h with ⟨r, pu, rfl, hrid, hlr, hs⟩ | ⟨rfl, rfl⟩
    · simp only [RelC] at hc1
      obtain ⟨hmr, -⟩ := look_mem hlr
      obtain ⟨v, xs, k1, k2, k3, k4⟩ := own_of_relE rfl (hR.store _ hmr)
      have hv : v = v1 := by
        have := hc1.1
        rw [k1] at this
        injection this
      subst hv
      rcases k4 with ⟨k4, k5⟩ | ⟨p, _, k5, _⟩
      · have hxs := strL_vals k3
        subst hxs
        have hbl : (Lib.byteCells s).length = s.length := Lib.byteCells_length s
        rw [hbl]
        refine ⟨⟨k4.1, ?_⟩, fun q => hrid (hR.inj _ _ b (by rw [← k5]; exact q) hb)⟩
        rcases k4.2 with q | ⟨g, cap, cur, q, z1, z2, z3, z4, z5, z6⟩
        · exact .inl q
        · refine .inr ⟨g, cap, cur, q, ?_, z2, z3, z4, z5, z6⟩
          have hg : G.blk r = some g := by
            have k5' : v.ownBlock = G.blk r := k5
            rw [← k5', q]; rfl
          exact (hR.new _ _ hg).resolve_right (hold g)
      · exact absurd (List.length_eq_zero_iff.1 k5) hs
    · simp only [RelC] at hc1
      subst hc1
      exact ⟨World.ownsRow_nil w _ E 1, by simp [Value.ownBlock]⟩
  rcases hn with rfl | rfl
  · exact .inl ⟨hbB, v1, q2, key.1, key.2⟩
  · exact .inr ⟨hbB, v1, q2, key.1, key.2⟩
/-- String() of a Builder, by the shelf's law; behind it nothing of the call's own is held. -/
theorem Holds.bstr {P : Program} {F : Fr} {st : St} {Q : Exit → St → Prop} {rid : Nat} {o : Oper} {rest : List Oper} {f : FuncId} {x : Operand} {id : Bid} {T E : TypeId} {c1 : C} {s : List UInt8} (hold : ∀ b, ¬ F.old b)
    (hk : kindOf o.op = .call f [x]) (hent : ent P f = true) (hgd : o.guard = none)
    (hstr : ∀ (B b : Nat) (l : List UInt8) (w : World), Lib.IsBuilder T E B b (Lib.byteCells l) w → B ≤ w.heap.size → Calls P f #[.pointer (some ⟨b, 0, none⟩)] w fun e w' => e = .returned (.string ⟨l.toArray⟩) ∧ Below B w w')
    (hx : st.ev x = .c (.ptr id 0)) (hl : st.look id = some ⟨id, none, [.bld id T, c1], false⟩)
    (h : (∃ r pu, c1 = .osl r ∧ r ≠ id ∧ st.look r = some ⟨r, some (E, 1, s.length), strL s, pu⟩ ∧ s ≠ []) ∨ (c1 = .nils ∧ s = [])) (hgh : st.gh = [])
    (hK : wpOps P F.I (o :: rest).toArray rest ((⟨List.replicate st.tm.length .undef, [], [], st.pre⟩ : St).put o.dst (.c (.str s))) (Q .normal)) : Holds P F (.region rid (o :: rest).toArray false) st Q := by
  intro a w G hR
  have hxv := hR.ev x
  rw [hx] at hxv
  simp only [RelV, RelC] at hxv
  obtain ⟨b, hb, hxb⟩ := hxv
  have hB := hR.builder hold hb hl h
  refine wp_region_list (wpList_step fun K' hK' => ?_)
  rw [wanted_none hgd, if_pos rfl]
  unfold Oper.wp Oper.upon
  rw [callRun (a := a) hk hent w]
  have harg : ([x].map a.eval).toArray = #[.pointer (some ⟨b, 0, none⟩)] := by simp [hxb]
  rw [harg]
  refine (hstr F.w0.heap.size b s w hB hR.hsize).mono fun e w' ⟨he, hbl⟩ => ?_
  subst he
  refine hK' _ _ (wpOps_sound (K := Q .normal) (fun st' _ _ G' q hR' => ⟨st', G', q, hR'⟩) rest _ _ w' _ ((hR.strip hbl hgh).put ?_) hK)
  simp only [RelV, RelC]
end Go.PL

/- The closed facts of a row, put together. -/
namespace Go.PL
open Go
theorem ndB {a b : Bool} (h : a = true) (k : b = true) : (a && b) = true := by rw [h, k]; rfl
theorem joined_of {P : Program} {f : FuncId} {fn : Func} {s : ChangeSpec} {c : OpenClaim} (h0 : (c.wf (OpenSpec.ofChange s)) = true) (h1 : (laidOutB P) = true) (h2 : (mapsRowed P) = true) (h3 : (fn.params.all (P.readableRec ·)) = true) (h4 : (namedTie P c.named s.vars) = true) (h5 : ((c.stops == [])) = true) (h6 : ((P.stops == [])) = true) (h7 : ((c.knobs == [])) = true) (h8 : ((P.stopKnobs == [])) = true) (h9 : ((c.inPlace == P.inPlace f)) = true) (h10 : ((c.unfollowed == P.unfollowed f)) = true) (h11 : ((c.recurses == P.recurses f)) = true) (h12 : ((c.named == P.varsNamed f)) = true) (h13 : ((c.maps == (fn.params.toList ++ s.plain.varTypes P).any (P.mapsRec ·))) = true) (h14 : ((c.ifaces == (fn.params.toList ++ s.plain.varTypes P).any (P.ifacesRec ·))) = true) (h15 : ((c.mapsOut == P.mapsAmong fn.resultTypes.toList)) = true) (h16 : ((c.loops == (fn.params.toList ++ s.plain.varTypes P).any (P.loopsFrom ·))) = true) (h17 : ((c.wideKeys == (fn.params.toList ++ s.plain.varTypes P ++ fn.resultTypes.toList).any (P.wideKeysFrom ·))) = true) (h18 : (s.vars.all (P.varReadable ·)) = true) (h19 : (fn.resultTypes.all (fun t => P.readableRec t && decide (t < P.types.size))) = true) (h20 : ((c.ifacesOut == fn.resultTypes.toList.any (P.ifacesRec ·))) = true) (h21 : ((c.loopsOut == fn.resultTypes.toList.any (P.loopsFrom ·))) = true) (h22 : ((c.plainKeys == P.plainKeys)) = true) (h23 : (c.shortTexts.isNone) = true) (h24 : (P.stopsHeard) = true) (h25 : (P.mayEnter) = true) (h26 : ((c.lifted == P.liftsFinal)) = true) (h27 : ((P.make == some c.make)) = true) (h28 : (c.domain.isEmpty && (c.kinds == [])) = true) (h29 : ((c.pinned == c.pinnedBy)) = true) (h30 : ((c.veiled == (fn.params.toList ++ s.plain.varTypes P ++ fn.resultTypes.toList).any (P.veiledRec ·))) = true) (h31 : (c.veiledFits P fn.params.toList (fn.params.toList ++ s.plain.varTypes P ++ fn.resultTypes.toList)) = true) : joinedFacts P f fn s c = true := by
  obtain ⟨d1, d2⟩ := (Bool.and_eq_true _ _ ▸ h28 : _ ∧ _)
  unfold joinedFacts
  rw [if_pos d1]
  exact (ndB (ndB (ndB (ndB (ndB (ndB (ndB (ndB (ndB (ndB (ndB (ndB (ndB (ndB (ndB (ndB (ndB (ndB (ndB (ndB (ndB (ndB (ndB (ndB (ndB (ndB (ndB (ndB (ndB (ndB (ndB h0 h1) h2) h3) h4) h5) h6) h7) h8) h9) h10) h11) h12) h13) h14) h15) h16) h17) h18) h19) h20) h21) h22) h23) h24) h25) h26) h27) d2) h29) h30) h31)
end Go.PL
