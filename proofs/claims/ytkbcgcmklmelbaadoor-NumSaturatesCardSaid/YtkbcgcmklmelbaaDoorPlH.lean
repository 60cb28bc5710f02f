/- The pure logic, part H: operations that make memory. -/
import Derived.Test.YtkbcgcmklmelbaaDoorPlG
namespace Go.PL
open Go Go.RowKit

theorem heap_push_lt {w : World} {o : Obj} {b : Nat} (h : b < w.heap.size) : (w.heap.push o)[b]? = w.heap[b]? := by
  rw [Array.getElem?_push]; split
  · omega
  · rfl
theorem alloc_heap (w : World) (o : Obj) : (w.alloc o).heap = w.heap.push o := rfl
theorem outer_alloc (w : World) (o : Obj) : Outer w (w.alloc o) := ⟨rfl, rfl, rfl⟩
theorem same_alloc (w : World) (o : Obj) : Same w (w.alloc o) := ⟨by simp [alloc_heap], fun b hb => by rw [alloc_heap]; exact heap_push_lt hb⟩

theorem relL_mono_new {F : Fr} {st : St} {a : Act} {w w' : World} {G : Ctx} (h : R F st a w G) {id : Bid} {nb : Option Nat} {nv : Option Value} (hs : Same w w') (hn : ∀ b, nb = some b → w.heap.size ≤ b)
    {cs : List C} {vs : List Value} (hr : RelL w G cs vs) : RelL w' (upd F G id nb nv) (cs.map (killC id)) vs :=
  RelL.mono (h.keeps id nb nv hs.size (fun b hb _ => hs.block b hb) (fun b hb => .inl (hn b hb))) _ _
    (agree_upd (fun i hi he' => by subst he'; rw [killL_men] at hi; cases hi)) (relL_kill hr)

theorem rangeAt_alloc (w : World) (cur : Array Value) (T : TypeId) : (w.alloc (.cells cur T)).rangeAt w.heap.size 0 cur.toList := by
  intro j v hv
  simp only [World.cell?, alloc_heap]
  simp at hv
  simp [hv]

/-- A new box. -/
theorem R.box {F : Fr} {st : St} {a : Act} {w : World} {G : Ctx} (h : R F st a w G) (id : Bid) (T : TypeId) (cs : List C) (cur : Array Value) (hr : RelL w G cs cur.toList) :
    R F (st.new ⟨id, none, cs⟩) a (w.alloc (.cells cur T)) (upd F G id (some w.heap.size) none) := by
  have hsame := same_alloc w (.cells cur T)
  refine h.set ⟨id, none, cs⟩ (some w.heap.size) none (outer_alloc _ _) hsame.size (fun b hb _ => hsame.block b hb) (fun b hb _ => hsame.block b (Nat.lt_of_lt_of_le hb h.hsize)) ?_ ?_
  · intro b hb; injection hb with hb; subst hb; exact ⟨.inl (Nat.le_refl _), by simp [alloc_heap]⟩
  · simp only [RelE, Ent.kill]
    refine ⟨w.heap.size, T, cur, by simp [upd], by simp [alloc_heap], by simpa using hr.length.symm, ?_⟩
    exact RelRow.of_list (relL_mono_new h hsame (fun b hb => by injection hb with hb; omega) hr) (rangeAt_alloc w cur T)

/-- A new row of the call's own. -/
theorem R.row {F : Fr} {st : St} {a : Act} {w : World} {G : Ctx} (h : R F st a w G) (id : Bid) (T n len cap : Nat) (cs : List C) (cur : Array Value) (vs : List Value) (hr : RelL w G cs vs) (hp : cur.toList.take vs.length = vs)
    (hl : cs.length = len * n) (hc : cur.size = cap * n) (hlc : len ≤ cap) (hm : cap ≤ maxLen) :
    R F (st.new ⟨id, some (T, n, len), cs⟩) a (w.alloc (.cells cur T)) (upd F G id (some w.heap.size) (some (.slice (some ⟨w.heap.size, 0, none⟩) len cap))) := by
  have hsame := same_alloc w (.cells cur T)
  refine h.set ⟨id, some (T, n, len), cs⟩ (some w.heap.size) _ (outer_alloc _ _) hsame.size (fun b hb _ => hsame.block b hb) (fun b hb _ => hsame.block b (Nat.lt_of_lt_of_le hb h.hsize)) ?_ ?_
  · intro b hb; injection hb with hb; subst hb; exact ⟨.inl (Nat.le_refl _), by simp [alloc_heap]⟩
  · simp only [RelE, Ent.kill]
    refine ⟨by simpa using hl, _, by simp only [upd, if_true], .inr ⟨w.heap.size, cap, cur, rfl, by simp [upd], by simp [alloc_heap], hlc, hm, hc, ?_⟩⟩
    refine RelRow.of_list (relL_mono_new h hsame (fun b hb => by injection hb with hb; omega) hr) ?_
    intro j v hv
    refine rangeAt_alloc w cur T j v ?_
    rw [← hp, List.getElem?_take] at hv
    split at hv
    · exact hv
    · cases hv

/-- A nil slice that the call owns. -/
theorem R.nilRow {F : Fr} {st : St} {a : Act} {w : World} {G : Ctx} (h : R F st a w G) (id : Bid) (T n : Nat) :
    R F (st.new ⟨id, some (T, n, 0), []⟩) a w (upd F G id none (some (.slice none 0 0))) := by
  refine h.set ⟨id, some (T, n, 0), []⟩ none _ ⟨rfl, rfl, rfl⟩ (Nat.le_refl _) (fun _ _ _ => rfl) (fun _ _ _ => rfl) (fun b hb => by cases hb) ?_
  simp only [RelE, Ent.kill]
  exact ⟨by simp, .slice none 0 0, by simp [upd], .inl ⟨rfl, trivial, by simp [upd]⟩⟩

/-- The cells of a value. -/
def V.cells : V → Option (List C)
  | .c x => some [x]
  | .agg cs => some cs
  | _ => none

theorem relV_cells {w : World} {G : Ctx} {x : V} {v : Value} {cs : List C} (h : RelV w G x v) (hc : x.cells = some cs) : RelL w G cs v.cells.toList := by
  unfold V.cells at hc
  split at hc
  · injection hc with hc; subst hc
    simp only [RelV] at h
    have := h.one
    have e : v.cells = #[v] := by
      cases v <;> simp_all [Value.cells, Value.oneCell']
    rw [e]
    simpa [RelL] using h
  · injection hc with hc; subst hc
    simp only [RelV] at h
    obtain ⟨arr, rfl, hr⟩ := h
    simpa [Value.cells] using hr
  · cases hc

/-- The cells of a type's zero value. -/
def zeroL (P : Program) (t : TypeId) : Option (List C) :=
  match P.info? t with
  | some i => match i.zero with
    | some z => constL z.cells.toList
    | none => none
  | none => none

theorem zeroL_spec {P : Program} {t : TypeId} {cs : List C} (h : zeroL P t = some cs) : ∃ i z, P.info? t = some i ∧ i.zero = some z ∧ constL z.cells.toList = some cs := by
  unfold zeroL at h
  split at h
  · rename_i i hi
    split at h
    · rename_i z hz; exact ⟨i, z, hi, hz, h⟩
    · cases h
  · cases h

theorem run_zeroValue' {P : Program} {t : TypeId} {i : TypeInfo} {z : Value} (hi : P.info? t = some i) (hz : i.zero = some z) (w : World) : (zeroValue t).run P w = .ok z w := by
  simp [zeroValue, typeInfo, program, Sem.run, hi, hz]

/-- Parts laid into cells. -/
def fillC (place : Nat → Option (Nat × Nat)) (cells : List C) : List (Nat × V) → Option (List C)
  | [] => some cells
  | (i, v) :: rest => match place i, v.cells with
    | some (off, size), some cs => if cs.length = size ∧ off + size ≤ cells.length then fillC place (cells.take off ++ cs ++ cells.drop (off + size)) rest else none
    | _, _ => none

def RelP (w : World) (G : Ctx) : List (Nat × V) → List (Nat × Value) → Prop
  | [], [] => True
  | (i, x) :: xs, (j, v) :: vs => i = j ∧ RelV w G x v ∧ RelP w G xs vs
  | _, _ => False

theorem foldl_set (vs : List Value) (off : Nat) : ∀ (k : Nat) (cs : Array Value), off + k + vs.length ≤ cs.size →
    ((vs.zipIdx k).foldl (fun cs (c, j) => cs.setIfInBounds (off + j) c) cs).toList = cs.toList.take (off + k) ++ vs ++ cs.toList.drop (off + k + vs.length) := by
  induction vs with
  | nil => intro k cs _; simp
  | cons v vs ih =>
    intro k cs hk
    simp only [List.zipIdx_cons, List.foldl_cons]
    simp only [List.length_cons] at hk ⊢
    rw [ih (k + 1) _ (by simp; omega)]
    have hlt : off + k < cs.toList.length := by simp; omega
    rw [Array.toList_setIfInBounds, List.set_eq_take_append_cons_drop, if_pos hlt]
    have e1 : (cs.toList.take (off + k)).length = off + k := by rw [List.length_take]; omega
    rw [List.take_append, List.drop_append, e1]
    rw [show off + (k + 1) - (off + k) = 1 by omega, show off + (k + 1) + vs.length - (off + k) = vs.length + 1 by omega]
    rw [List.take_take, show min (off + (k + 1)) (off + k) = off + k by omega]
    have e3 : List.drop (off + (k + 1) + vs.length) (List.take (off + k) cs.toList) = [] := List.drop_of_length_le (by rw [e1]; omega)
    rw [e3]
    simp only [List.take_succ_cons, List.take_zero, List.drop_succ_cons, List.drop_drop, List.nil_append, List.append_assoc, List.cons_append]
    rw [show off + k + 1 + vs.length = off + k + (vs.length + 1) by omega]

theorem fill_sound {w : World} {G : Ctx} {place : Nat → Option (Nat × Nat)} : ∀ {ps : List (Nat × V)} {qs : List (Nat × Value)} {cells out : List C} {arr : Array Value},
    fillC place cells ps = some out → RelP w G ps qs → RelL w G cells arr.toList → ∃ arr', Instr.fill place arr qs = some arr' ∧ RelL w G out arr'.toList
  | [], [], cells, out, arr, h, _, hr => by
    simp only [fillC, Option.some.injEq] at h; subst h
    exact ⟨arr, rfl, hr⟩
  | [], _ :: _, _, _, _, _, h, _ => by simp [RelP] at h
  | _ :: _, [], _, _, _, _, h, _ => by simp [RelP] at h
  | (i, x) :: ps, (j, v) :: qs, cells, out, arr, h, hp, hr => by
    simp only [RelP] at hp
    obtain ⟨rfl, hv, hp⟩ := hp
    simp only [fillC] at h
    split at h
    · rename_i off size cs hpl hcs
      split at h
      · rename_i hb
        have hvc := relV_cells hv hcs
        have hl := hr.length
        have hlv := hvc.length
        have e := foldl_set v.cells.toList off 0 arr (by simp at hl hlv ⊢; omega)
        simp only [Instr.fill, hpl]
        rw [if_neg (by simp at hl hlv ⊢; omega)]
        refine fill_sound h hp ?_
        rw [← Array.foldl_toList, Array.toList_zipIdx, e]
        simp only [Nat.add_zero]
        have : v.cells.toList.length = size := by rw [← hlv]; exact hb.1
        rw [this]
        exact ((hr.take off).append hvc).append (hr.drop (off + size))
      · cases h
    · cases h

end Go.PL
