/- The pure logic, part I: stores, appends, frozen slices. -/
import Derived.Test.YtkbcgcmklmelbaaDoorPlH
namespace Go.PL
open Go Go.RowKit

theorem range_of_heap {w : World} {b : Nat} {cur : Array Value} {T : TypeId} {fr : Nat × Nat} (h : w.heap[b]? = some (.cells cur T fr)) {us rest : List Value} (e : us ++ rest = cur.toList) : w.rangeAt b 0 us := by
  intro j v hv
  have h2 : cur.toList[j]? = some v := by
    rw [← e, List.getElem?_append_left]
    · exact hv
    · exact (List.getElem?_eq_some_iff.1 hv).1
  simp only [World.cell?, h]
  simpa using h2

theorem heap_of_range {w : World} {b : Nat} {cur : Array Value} {T : TypeId} {fr : Nat × Nat} (h : w.heap[b]? = some (.cells cur T fr)) {us : List Value} (hr : w.rangeAt b 0 us) : us ++ cur.toList.drop us.length = cur.toList := by
  have : us = cur.toList.take us.length := by
    apply List.ext_getElem?
    intro j
    by_cases hj : j < us.length
    · have := hr j us[j] (by simp [hj])
      simp only [World.cell?, h, Nat.zero_add] at this
      rw [List.getElem?_take, if_pos hj]
      have h3 : cur.toList[j]? = some us[j] := by simpa using this
      rw [h3]; simp [hj]
    · rw [List.getElem?_eq_none (by omega), List.getElem?_take, if_neg hj]
  conv => lhs; lhs; rw [this]
  rw [List.take_append_drop]

def St.setCs (st : St) (id : Bid) (cs : List C) : St := { st with so := st.so.map fun e => if e.id = id then { e with cs := cs } else e }

theorem R.stored {F : Fr} {st : St} {a : Act} {w : World} {G : Ctx} (h : R F st a w G) {id : Bid} {e : Ent} (he : st.look id = some e) {b : Nat} (hb : G.blk id = some b) {off : Nat} {xs : List C} {vs : List Value}
    (hx : RelL w G xs vs) (hoff : off + xs.length ≤ e.cs.length) :
    ∃ cur T, w.heap[b]? = some (.cells cur T (0, 0)) ∧ off + vs.length ≤ cur.size ∧
      R F (st.setCs id (e.cs.take off ++ xs ++ e.cs.drop (off + xs.length))) a (w.setRow b (cur.toList.take off ++ vs ++ cur.toList.drop (off + vs.length)).toArray) G := by
  obtain ⟨hm, hid⟩ := look_mem he
  obtain ⟨cur, T, hheap, hle, hrow⟩ := (h.store e hm).row (by rw [hid]; exact hb)
  obtain ⟨us, h1, h2⟩ := hrow.list
  have hlx := hx.length
  have hlu := h1.length
  have hpre := heap_of_range hheap h2
  refine ⟨cur, T, hheap, by omega, ?_⟩
  have hbl : ∀ k, k ≠ b → (w.setRow b (cur.toList.take off ++ vs ++ cur.toList.drop (off + vs.length)).toArray).heap[k]? = w.heap[k]? := fun k hk => setRow_other w b k _ hk
  have hnew := setRow_heap w b cur (cur.toList.take off ++ vs ++ cur.toList.drop (off + vs.length)).toArray T (0, 0) hheap
  have hk : Keeps G G w (w.setRow b (cur.toList.take off ++ vs ++ cur.toList.drop (off + vs.length)).toArray) :=
    ⟨by simp, fun k _ hw => hbl k (fun q => hw ((h.wr k).2 (.inr ⟨id, by rw [q]; exact hb⟩))), fun _ _ q => q⟩
  have hsplit : (us.take off ++ vs ++ us.drop (off + vs.length)) ++ cur.toList.drop us.length = (cur.toList.take off ++ vs ++ cur.toList.drop (off + vs.length)).toArray.toList := by
    conv => rhs; rw [← hpre]
    simp only [List.append_assoc]
    rw [List.take_append_of_le_length (by omega), List.drop_append_of_le_length (by omega)]
  have hrange := range_of_heap hnew hsplit
  have hl2 : RelL w G (e.cs.take off ++ xs ++ e.cs.drop (off + xs.length)) (us.take off ++ vs ++ us.drop (off + vs.length)) := by
    rw [hlx]
    exact ((h1.take off).append hx).append (h1.drop _)
  have hrow' := RelRow.of_list (RelL.mono hk _ _ (fun _ _ => ⟨rfl, rfl⟩) hl2) hrange
  have hlen : (e.cs.take off ++ xs ++ e.cs.drop (off + xs.length)).length = e.cs.length := by simp; omega
  have hcur : (cur.toList.take off ++ vs ++ cur.toList.drop (off + vs.length)).toArray.size = cur.size := by simp; omega
  exact {
    dfr := h.dfr, size := h.size
    slots := fun i => RelV.mono hk _ _ (fun _ _ => ⟨rfl, rfl⟩) (h.slots i)
    store := by
      intro e' he'
      simp only [St.setCs, List.mem_map] at he'
      obtain ⟨d, hd, rfl⟩ := he'
      split
      · rename_i hdid
        have : d = e := by
          have hn := h.nodup
          have := List.pairwise_map.1 hn
          rcases List.mem_iff_getElem.1 hd with ⟨i, hi, rfl⟩
          rcases List.mem_iff_getElem.1 hm with ⟨j, hj, rfl⟩
          rcases Nat.lt_trichotomy i j with q | q | q
          · exact absurd (hdid.trans hid.symm) (List.pairwise_iff_getElem.1 this i j hi hj q)
          · subst q; rfl
          · exact absurd (hid.trans hdid.symm) (List.pairwise_iff_getElem.1 this j i hj hi q)
        subst this
        have hE := h.store d hd
        unfold RelE at hE ⊢
        simp only
        split at hE
        · obtain ⟨b', T', cur', q1, q2, q3, q4⟩ := hE
          rw [hid, hb] at q1; injection q1 with q1; subst q1
          rw [hheap] at q2; injection q2 with q2; injection q2 with q2a q2b; subst q2a q2b
          exact ⟨b, T, _, by rw [hid]; exact hb, hnew, by rw [hcur, hlen]; exact q3, hrow'⟩
        · obtain ⟨hl, v, q1, q2⟩ := hE
          refine ⟨by rw [hlen]; exact hl, v, q1, ?_⟩
          rcases q2 with q2 | ⟨b', cap, cur', e1, e2, e3, e4, e5, e6, e7⟩
          · rw [hid, hb] at q2; cases q2.2.2
          · rw [hid, hb] at e2; injection e2 with e2; subst e2
            rw [hheap] at e3; injection e3 with e3; injection e3 with e3a e3b; subst e3a e3b
            exact .inr ⟨b, cap, _, e1, by rw [hid]; exact hb, hnew, e4, e5, by rw [hcur]; exact e6, hrow'⟩
      · rename_i hdid
        exact relE_mono hk (fun _ _ => ⟨rfl, rfl⟩) ⟨rfl, rfl⟩ (fun k hk' => hbl k (fun q => hdid (h.inj _ _ k hk' (by rw [q]; exact hb)))) (h.store d hd)
    nodup := by
      have : (st.setCs id (e.cs.take off ++ xs ++ e.cs.drop (off + xs.length))).so.map (·.id) = st.so.map (·.id) := by
        simp only [St.setCs, List.map_map]
        apply List.map_congr_left
        intro d _
        simp only [Function.comp]
        split <;> rfl
      rw [this]; exact h.nodup
    inj := h.inj
    lt := fun i k hi => by simpa using h.lt i k hi
    new := h.new, wr := h.wr, avlt := h.avlt, inv := h.inv, avold := h.avold
    os := by simpa using h.os
    tape := by simpa using h.tape
    output := by simpa using h.output
    hsize := by simpa using h.hsize
    ext := fun k hk' hold => (hbl k (fun q => by
      rcases h.new id b hb with q2 | q2
      · omega
      · exact hold (by rw [q]; exact q2))).trans (h.ext k hk' hold) }

/-! Appends. -/

/-- The machine's side of a row: what the kit's law on append asks. -/
theorem own_of_relE {w : World} {G : Ctx} {e : Ent} {E n len : Nat} (hrow : e.row = some (E, n, len)) (h : RelE w G e) :
    ∃ v vs, G.own e.id = some v ∧ v.oneCell' = true ∧ RelL w G e.cs vs ∧ w.ownsRow 0 E n v len vs ∧ v.ownBlock = G.blk e.id := by
  unfold RelE at h
  rw [hrow] at h
  obtain ⟨hl, v, h1, h2⟩ := h
  rcases h2 with ⟨rfl, h0, hb⟩ | ⟨b, cap, cur, rfl, e2, e3, e4, e5, e6, e7⟩
  · have hcs : e.cs = [] := by cases hc : e.cs with
      | nil => rfl
      | cons c cs => rw [hc, h0] at hl; simp at hl
    exact ⟨_, [], h1, rfl, by rw [hcs]; simp [RelL], ⟨by rw [h0]; simp, .inl ⟨rfl, h0⟩⟩, by rw [hb]; rfl⟩
  · obtain ⟨us, q1, q2⟩ := e7.list
    have hlu := q1.length
    have hpre := heap_of_range e3 q2
    refine ⟨_, us, h1, rfl, q1, ⟨by omega, .inr ⟨b, cap, cur, rfl, Nat.zero_le _, e3, e4, e5, e6, ?_⟩⟩, by rw [e2]; rfl⟩
    rw [← hpre, List.take_append_of_le_length (by omega)]
    exact List.take_of_length_le (by omega)

/-- What an append leaves. -/
theorem R.appended {F : Fr} {st : St} {a : Act} {w w' : World} {G : Ctx} (h : R F st a w G) {id : Bid} {e : Ent} (he : st.look id = some e) {E n len m : Nat}
    {v v' : Value} {xs us : List Value} {cs : List C} (hown : G.own id = some v) (hob : v.ownBlock = G.blk id) (h1 : RelL w G e.cs xs) (h2 : RelL w G cs us)
    (hnew : w'.ownsRow 0 E n v' (len + m) (xs ++ us)) (hg : w.grownBy w' v.ownBlock) (hfr : v'.ownBlock = v.ownBlock ∨ ∀ b, v'.ownBlock = some b → w.heap.size ≤ b) :
    ∃ G', R F (st.new ⟨id, some (E, n, len + m), e.cs ++ cs⟩) a w' G' ∧ G'.own id = some v' ∧ v'.oneCell' = true := by
  obtain ⟨hm, hid⟩ := look_mem he
  have hblk : ∀ b, b < w.heap.size → G.blk id ≠ some b → w'.heap[b]? = w.heap[b]? := fun b hb hne => hg.block b hb (by rw [hob]; exact fun q => hne q.symm)
  have hn : ∀ b, v'.ownBlock = some b → w.heap.size ≤ b ∨ G.blk id = some b := by
    intro b hb
    rcases hfr with q | q
    · rw [q, hob] at hb; exact .inr hb
    · exact .inl (q b hb)
  have hlt : ∀ b, v'.ownBlock = some b → b < w'.heap.size := fun b hb => (hnew.lt b hb).2
  have hone : v'.oneCell' = true := by
    rcases hnew.2 with ⟨q, _⟩ | ⟨g, cap, cur, q, _⟩ <;> rw [q] <;> rfl
  refine ⟨upd F G id v'.ownBlock (some v'), ?_, by simp [upd], hone⟩
  have hk := h.keeps id v'.ownBlock (some v') hg.size hblk hn
  have hkill : ∀ {ds : List C} {ws : List Value}, RelL w G ds ws → RelL w' (upd F G id v'.ownBlock (some v')) (ds.map (killC id)) ws := fun hr =>
    RelL.mono hk _ _ (agree_upd (fun i hi he' => by subst he'; rw [killL_men] at hi; cases hi)) (relL_kill hr)
  refine h.set ⟨id, some (E, n, len + m), e.cs ++ cs⟩ v'.ownBlock (some v') ⟨hg.os, hg.tape, hg.output⟩ hg.size hblk ?_ (fun b hb => ⟨hn b hb, hlt b hb⟩) ?_
  · intro b hb hold
    refine hblk b (Nat.lt_of_lt_of_le hb h.hsize) (fun q => ?_)
    rcases h.new id b q with q2 | q2
    · omega
    · exact hold q2
  · simp only [RelE, Ent.kill]
    have hl := h1.length
    have hl2 := h2.length
    have hln := hnew.1
    refine ⟨by simp at hln ⊢; omega, v', by simp [upd], ?_⟩
    rcases hnew.2 with ⟨q, h0⟩ | ⟨g, cap, cur, q, _, q2, q3, q4, q5, q6⟩
    · exact .inl ⟨q, h0, by simp [upd, q, Value.ownBlock]⟩
    · refine .inr ⟨g, cap, cur, q, by simp [upd, q, Value.ownBlock], q2, q3, q4, q5, ?_⟩
      refine RelRow.of_list (vs := xs ++ us) ?_ ?_
      · rw [List.map_append]; exact (hkill h1).append (hkill h2)
      · exact range_of_heap q2 (rest := cur.toList.drop ((len + m) * n)) (by rw [← q6, List.take_append_drop])

/-- The kit's law on append to an owned row, with where the result lies. -/
theorem run_append_own2 {P : Program} {w : World} (t ty e : TypeId) (i : TypeInfo) (z : Value) (size bytes : Nat) (ht : P.underlying t = some (.slice e)) (hi : P.info? e = some i) (hz : i.zero = some z)
    (hsize : i.size = size) (hby : i.bytes = bytes) (hzs : z.cells.size = size) (hsz : 0 < size)
    (v : Value) (n : Nat) (xs : List Value) (hown : w.ownsRow 0 e size v n xs)
    (a : Addr) (m c : Nat) (news : List Value) (hl : news.length = m * size) (hnews : ∀ j u, news[j]? = some u → w.cell? (a.add j) = some u) (h1 : ∀ u ∈ news, u.oneCell' = true)
    (h63 : n + m ≤ maxLen) (hbytes : (n + m) * bytes ≤ 140737488355328) :
    ∃ v' w', (Builtin.append_ #[t, t] ty #[v, .slice (some a) m c]).run P w = .ok v' w' ∧ w'.ownsRow 0 e size v' (n + m) (xs ++ news) ∧ w.grownBy w' v.ownBlock ∧
      (v'.ownBlock = v.ownBlock ∨ ∀ b, v'.ownBlock = some b → w.heap.size ≤ b) := by
  subst hsize hby
  have hM : maxLen = 9223372036854775807 := rfl
  have hlen : (xs ++ news).length = (n + m) * i.size := by rw [List.length_append, hown.1, hl, ← Nat.add_mul]
  have grown : ∀ old, old < n + m → ∀ row,
      (w.drew.alloc (.cells (xs.toArray ++ news.toArray ++ Builtin.zeroCells z.cells (grownCap w (n + m) old e - (n + m))) e)).ownsRow 0 e i.size
        (.slice (some ⟨w.heap.size, 0, none⟩) (n + m) (grownCap w (n + m) old e)) (n + m) (xs ++ news) ∧
      w.grownBy (w.drew.alloc (.cells (xs.toArray ++ news.toArray ++ Builtin.zeroCells z.cells (grownCap w (n + m) old e - (n + m))) e)) row := by
    intro old ho row
    have hge := grownCap_ge w (n + m) old e
    have hcm : grownCap w (n + m) old e ≤ maxLen := grownCap_le_maxLen w (n + m) old e h63
    refine ⟨⟨hlen, .inr ⟨w.heap.size, _, _, rfl, Nat.zero_le _, heap_alloc_new w.drew _, hge, hcm, ?_, ?_⟩⟩, ⟨rfl, rfl, rfl, by simp, fun k hk _ => heap_alloc_old w.drew _ hk⟩⟩
    · simp only [Array.size_append, List.size_toArray, size_zeroCells, hzs, hown.1, hl, ← Nat.add_mul]
      congr 1
      omega
    · simp only [Array.toList_append, List.append_assoc]
      rw [← List.append_assoc, ← hlen]
      exact List.take_left
  rcases hown.2 with ⟨rfl, rfl⟩ | ⟨g, cap, cur, rfl, hbg, hg, hnc, hcm, hcs, htake⟩
  · have hx : xs = [] := List.eq_nil_of_length_eq_zero (by simpa using hown.1)
    subst hx
    by_cases hm : m = 0
    · subst hm
      have hn : news = [] := List.eq_nil_of_length_eq_zero (by simpa using hl)
      subst hn
      refine ⟨.slice none 0 0, w, ?_, World.ownsRow_nil w 0 e i.size, ⟨rfl, rfl, rfl, Nat.le_refl _, fun _ _ _ => rfl⟩, .inl rfl⟩
      simp [Builtin.append_, run_underlying ht, sizeOf, typeInfo, hi, Builtin.lenOf, Builtin.firstCells, loadCells, loadCellsFrom]
    · have hr := run_append_nil (P := P) w t ty e i z ht hi hz a m c news hl hnews (by omega) (by omega) (by have hb := hbytes; simp only [Nat.zero_add] at hb; omega)
      have hgr := grown 0 (by omega) (Value.ownBlock (.slice none 0 0))
      simp only [Nat.zero_add, List.nil_append, Array.empty_append] at hgr ⊢
      exact ⟨_, _, hr, hgr.1, hgr.2, .inr (fun b hb => by simp [Value.ownBlock] at hb; omega)⟩
  · by_cases hroom : n + m ≤ cap
    · have hfit : n * i.size + news.length ≤ cur.size := by rw [hl, hcs, ← Nat.add_mul]; exact Nat.mul_le_mul_right _ hroom
      have hr := run_append_room (P := P) w t ty e i ht hi g n cap cur hg a m c news hl hnews h1 hroom hfit
      refine ⟨_, _, hr, ⟨hlen, .inr ⟨g, cap, _, rfl, hbg, setRow_heap w g cur _ e _ hg, hroom, hcm, ?_, ?_⟩⟩, ⟨rfl, rfl, rfl, by simp, fun k _ hk => setRow_other w g k _ (fun e => hk (by simp [Value.ownBlock, e]))⟩, .inl rfl⟩
      · simp only [List.size_toArray, List.length_append, List.length_take, List.length_drop, Array.length_toList]
        omega
      · rw [htake, ← hlen]
        exact List.take_left
    · have holds : ∀ j u, xs[j]? = some u → w.cell? ((⟨g, 0, none⟩ : Addr).add j) = some u := hown.cells (g := g) rfl
      have hr := run_append_grow (P := P) w t ty e i z ht hi hz ⟨g, 0, none⟩ n cap xs hown.1 holds a m c news hl hnews (by omega) (by omega) (growslice_fits (by omega) hbytes)
      have hgr := grown cap (by omega) (Value.ownBlock (.slice (some ⟨g, 0, none⟩) n cap))
      exact ⟨_, _, hr, hgr.1, hgr.2, .inr (fun b hb => by simp [Value.ownBlock] at hb; omega)⟩

end Go.PL
