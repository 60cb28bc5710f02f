/- The pure logic, part G: how a state turns: new entries, killed names, frozen slices; what holds them keeps holding. -/
import Derived.Test.YtkbcgcmklmelbaaDoorPlF
namespace Go.PL
open Go Go.RowKit

def killC (id : Bid) (c : C) : C := if c.men id then .any else c
def killV (id : Bid) (v : V) : V := if v.men id then .undef else v
def Ent.kill (id : Bid) (e : Ent) : Ent := { e with cs := e.cs.map (killC id) }
def St.kill (st : St) (id : Bid) : St := { tm := st.tm.map (killV id), so := (st.so.filter (fun e => e.id != id)).map (Ent.kill id) }
def St.new (st : St) (e : Ent) : St := { tm := (st.kill e.id).tm, so := e.kill e.id :: (st.kill e.id).so }

def upd (F : Fr) (G : Ctx) (id : Bid) (b : Option Nat) (v : Option Value) : Ctx where
  blk := fun i => if i = id then b else G.blk i
  own := fun i => if i = id then v else G.own i
  wr := fun x => F.av x ∨ ∃ i, (if i = id then b else G.blk i) = some x

theorem killC_men (id : Bid) (c : C) : (killC id c).men id = false := by
  unfold killC; split
  · simp [C.men]
  · simp_all
theorem killV_men (id : Bid) (v : V) : (killV id v).men id = false := by
  unfold killV; split
  · simp [V.men]
  · simp_all
theorem killL_men (id : Bid) : ∀ cs : List C, menL id (cs.map (killC id)) = false
  | [] => by simp [menL]
  | c :: cs => by simp [menL, killC_men, killL_men id cs]

theorem relC_kill {w : World} {G : Ctx} {id : Bid} {c : C} {v : Value} (h : RelC w G c v) : RelC w G (killC id c) v := by
  unfold killC; split
  · simp only [RelC]; exact h.one
  · exact h
theorem relL_kill {w : World} {G : Ctx} {id : Bid} : ∀ {cs : List C} {vs : List Value}, RelL w G cs vs → RelL w G (cs.map (killC id)) vs
  | [], [], _ => by simp [RelL]
  | [], _ :: _, h => by simp [RelL] at h
  | _ :: _, [], h => by simp [RelL] at h
  | c :: cs, v :: vs, h => by
    simp only [RelL] at h
    simp only [List.map_cons, RelL]
    exact ⟨relC_kill h.1, relL_kill h.2⟩
theorem relRow_kill {w : World} {G : Ctx} {id : Bid} {cs : List C} {b o : Nat} (h : RelRow w G cs b o) : RelRow w G (cs.map (killC id)) b o := by
  obtain ⟨vs, h1, h2⟩ := h.list
  exact RelRow.of_list (relL_kill h1) h2
theorem relV_kill {w : World} {G : Ctx} {id : Bid} {x : V} {v : Value} (h : RelV w G x v) : RelV w G (killV id x) v := by
  unfold killV; split
  · simp only [RelV]
  · exact h

theorem relE_kill {w : World} {G : Ctx} {id : Bid} {e : Ent} (h : RelE w G e) : RelE w G (e.kill id) := by
  unfold RelE at *
  simp only [Ent.kill]
  split at h
  · obtain ⟨b, T, cur, h1, h2, h3, h4⟩ := h
    exact ⟨b, T, cur, h1, h2, by simpa using h3, relRow_kill h4⟩
  · obtain ⟨hl, v, h1, h2⟩ := h
    refine ⟨by simpa using hl, v, h1, ?_⟩
    rcases h2 with h2 | ⟨b, cap, cur, e1, e2, e3, e4, e5, e6, e7⟩
    · exact .inl h2
    · exact .inr ⟨b, cap, cur, e1, e2, e3, e4, e5, e6, relRow_kill e7⟩

theorem relE_mono {w w' : World} {G G' : Ctx} (hk : Keeps G G' w w') {e : Ent} (ha : Agree (fun id => menL id e.cs = true) G G') (hid : G'.blk e.id = G.blk e.id ∧ G'.own e.id = G.own e.id)
    (hb : ∀ b, G.blk e.id = some b → w'.heap[b]? = w.heap[b]?) (h : RelE w G e) : RelE w' G' e := by
  unfold RelE at *
  split at h
  · obtain ⟨b, T, cur, h1, h2, h3, h4⟩ := h
    exact ⟨b, T, cur, by rw [hid.1]; exact h1, by rw [hb b h1]; exact h2, h3, RelRow.mono hk _ _ _ ha (fun o => cell?_of_block' (hb b h1) o) h4⟩
  · obtain ⟨hl, v, h1, h2⟩ := h
    refine ⟨hl, v, by rw [hid.2]; exact h1, ?_⟩
    rcases h2 with ⟨e1, e2, e3⟩ | ⟨b, cap, cur, e1, e2, e3, e4, e5, e6, e7⟩
    · exact .inl ⟨e1, e2, by rw [hid.1]; exact e3⟩
    · exact .inr ⟨b, cap, cur, e1, by rw [hid.1]; exact e2, by rw [hb b e2]; exact e3, e4, e5, e6, RelRow.mono hk _ _ _ ha (fun o => cell?_of_block' (hb b e2) o) e7⟩

theorem getD_map_tm {st : St} {f : V → V} (hf : f .undef = .undef) (i : Nat) : (st.tm.map f).getD i .undef = f (st.tm.getD i .undef) := by
  simp only [List.getD_eq_getElem?_getD, List.getElem?_map]
  cases st.tm[i]? <;> simp [hf]

/-- The worlds' outer parts. -/
structure Outer (w w' : World) : Prop where
  os : w'.os = w.os
  tape : w'.tape = w.tape
  output : w'.output = w.output

/-- One name gets a new place (or none): what does not bear that name stays. -/
theorem R.rename {F : Fr} {st : St} {a : Act} {w w' : World} {G : Ctx} (h : R F st a w G) (id : Bid) (nb : Option Nat) (nv : Option Value)
    (ho : Outer w w') (hs : w.heap.size ≤ w'.heap.size)
    (hext : ∀ b, b < F.w0.heap.size → ¬ F.old b → w'.heap[b]? = w.heap[b]?)
    (hn : ∀ b, nb = some b → (w.heap.size ≤ b ∨ G.blk id = some b) ∧ b < w'.heap.size) (st' : St)
    (htm : st'.tm.length = st.tm.length) (hsl : ∀ i, RelV w' (upd F G id nb nv) (st'.tm.getD i .undef) (a.tmps.getD i Go.undef))
    (hso : ∀ e ∈ st'.so, RelE w' (upd F G id nb nv) e) (hnd : (st'.so.map (·.id)).Nodup) : R F st' a w' (upd F G id nb nv) where
  dfr := h.dfr
  size := by rw [htm]; exact h.size
  slots := hsl
  store := hso
  nodup := hnd
  inj := by
    intro i j b hi hj
    simp only [upd] at hi hj
    split at hi <;> split at hj
    · simp_all
    · rename_i q1 q2
      rcases (hn b hi).1 with q | q
      · exact absurd (h.lt j b hj) (by omega)
      · exact absurd (h.inj j id b hj q) q2
    · rename_i q1 q2
      rcases (hn b hj).1 with q | q
      · exact absurd (h.lt i b hi) (by omega)
      · exact absurd (h.inj i id b hi q) q1
    · exact h.inj i j b hi hj
  lt := by
    intro i b hi
    simp only [upd] at hi
    split at hi
    · exact (hn b hi).2
    · exact Nat.lt_of_lt_of_le (h.lt i b hi) hs
  new := by
    intro i b hi
    simp only [upd] at hi
    split at hi
    · rcases (hn b hi).1 with q | q
      · exact .inl (Nat.le_trans h.hsize q)
      · exact h.new id b q
    · exact h.new i b hi
  wr := fun b => Iff.rfl
  avlt := h.avlt
  inv := h.inv
  avold := h.avold
  os := ho.os.trans h.os
  tape := ho.tape.trans h.tape
  output := ho.output.trans h.output
  hsize := Nat.le_trans h.hsize hs
  ext := fun b hb hold => (hext b hb hold).trans (h.ext b hb hold)

theorem R.keeps {F : Fr} {st : St} {a : Act} {w w' : World} {G : Ctx} (h : R F st a w G) (id : Bid) (nb : Option Nat) (nv : Option Value)
    (hs : w.heap.size ≤ w'.heap.size) (hblk : ∀ b, b < w.heap.size → (G.blk id ≠ some b) → w'.heap[b]? = w.heap[b]?)
    (hn : ∀ b, nb = some b → w.heap.size ≤ b ∨ G.blk id = some b) : Keeps G (upd F G id nb nv) w w' where
  size := hs
  block := fun b hb hw => hblk b hb (fun he => hw ((h.wr b).2 (.inr ⟨id, he⟩)))
  wr := by
    intro b hb hw
    simp only [upd] at hw
    rw [h.wr]
    rcases hw with hw | ⟨i, hi⟩
    · exact .inl hw
    · split at hi
      · rcases hn b hi with q | q
        · omega
        · exact .inr ⟨id, q⟩
      · exact .inr ⟨i, hi⟩

theorem agree_upd {F : Fr} {G : Ctx} {id : Bid} {nb : Option Nat} {nv : Option Value} {S : Bid → Prop} (hS : ∀ i, S i → i ≠ id) : Agree S G (upd F G id nb nv) :=
  fun i hi => by simp [upd, hS i hi]

/-- The name's old mentions are killed and the entry is set anew. -/
theorem R.set {F : Fr} {st : St} {a : Act} {w w' : World} {G : Ctx} (h : R F st a w G) (e : Ent) (nb : Option Nat) (nv : Option Value)
    (ho : Outer w w') (hs : w.heap.size ≤ w'.heap.size) (hblk : ∀ b, b < w.heap.size → (G.blk e.id ≠ some b) → w'.heap[b]? = w.heap[b]?)
    (hext : ∀ b, b < F.w0.heap.size → ¬ F.old b → w'.heap[b]? = w.heap[b]?)
    (hn : ∀ b, nb = some b → (w.heap.size ≤ b ∨ G.blk e.id = some b) ∧ b < w'.heap.size) (he : RelE w' (upd F G e.id nb nv) (e.kill e.id)) : R F (st.new e) a w' (upd F G e.id nb nv) := by
  have hk := h.keeps e.id nb nv hs hblk (fun b hb => (hn b hb).1)
  refine h.rename e.id nb nv ho hs hext hn (st.new e) (by simp [St.new, St.kill]) ?_ ?_ ?_
  · intro i
    simp only [St.new, St.kill]
    rw [getD_map_tm (by simp [killV, V.men])]
    exact RelV.mono hk _ _ (agree_upd (fun i hi he' => by subst he'; rw [killV_men] at hi; cases hi)) (relV_kill (h.slots i))
  · intro e' he'
    simp only [St.new, St.kill, List.mem_cons, List.mem_map, List.mem_filter] at he'
    rcases he' with rfl | ⟨d, ⟨hd, hne⟩, rfl⟩
    · exact he
    · have hne' : d.id ≠ e.id := by simpa using hne
      refine relE_mono hk (agree_upd (fun i hi he' => by subst he'; simp only [Ent.kill] at hi; rw [killL_men] at hi; cases hi)) (by simp [upd, Ent.kill, hne']) ?_ (relE_kill (h.store d hd))
      intro b hb
      simp only [Ent.kill] at hb
      exact hblk b (h.lt _ b hb) (fun q => hne' (h.inj _ _ b hb q))
  · have : ((st.new e).so.map (·.id)) = e.id :: ((st.so.filter (fun d => d.id != e.id)).map (·.id)) := by
      simp [St.new, St.kill, Ent.kill, List.map_map, Function.comp_def]
    rw [this]
    refine List.nodup_cons.2 ⟨by simp, ?_⟩
    exact List.Sublist.nodup (List.Sublist.map (fun d : Ent => d.id) List.filter_sublist) h.nodup

theorem R.put {F : Fr} {st : St} {a : Act} {w : World} {G : Ctx} (h : R F st a w G) {d : Option Nat} {x : V} {v : Value} (hx : RelV w G x v) : R F (st.put d x) (a.put d v) w G := by
  cases d with
  | none => exact h
  | some d =>
    exact {
      dfr := h.dfr
      size := by simp [St.put, Act.put, h.size]
      slots := by
        intro i
        simp only [St.put, Act.put]
        by_cases hi : i = d
        · subst hi
          by_cases hl : i < st.tm.length
          · simp [List.getD_eq_getElem?_getD, hl, h.size, hx]
          · simp [List.getD_eq_getElem?_getD, hl, RelV]
        · have h1 : (st.tm.set d x).getD i .undef = st.tm.getD i .undef := by
            simp [List.getD_eq_getElem?_getD, List.getElem?_set, Ne.symm hi]
          have h2 : (a.tmps.setIfInBounds d v).getD i Go.undef = a.tmps.getD i Go.undef := by
            simp [Array.getD_eq_getD_getElem?, Array.getElem?_setIfInBounds, Ne.symm hi]
          rw [h1, h2]; exact h.slots i
      store := h.store, nodup := h.nodup, inj := h.inj, lt := h.lt, new := h.new, wr := h.wr, avlt := h.avlt, inv := h.inv, avold := h.avold, os := h.os, tape := h.tape, output := h.output, hsize := h.hsize, ext := h.ext }

/-- Where nothing that was there has turned, all is held as before. -/
theorem R.same {F : Fr} {st : St} {a : Act} {w w' : World} {G : Ctx} (h : R F st a w G) (ho : Outer w w') (hs : Same w w') : R F st a w' G := by
  have hk : Keeps G G w w' := ⟨hs.size, fun b hb _ => hs.block b hb, fun b _ h => h⟩
  exact {
    dfr := h.dfr, size := h.size
    slots := fun i => RelV.mono hk _ _ (fun _ _ => ⟨rfl, rfl⟩) (h.slots i)
    store := fun e he => relE_mono hk (fun _ _ => ⟨rfl, rfl⟩) ⟨rfl, rfl⟩ (fun b hb => hs.block b (h.lt _ b hb)) (h.store e he)
    nodup := h.nodup, inj := h.inj
    lt := fun i b hb => Nat.lt_of_lt_of_le (h.lt i b hb) hs.size
    new := h.new, wr := h.wr, avlt := h.avlt, inv := h.inv, avold := h.avold
    os := ho.os.trans h.os, tape := ho.tape.trans h.tape, output := ho.output.trans h.output
    hsize := Nat.le_trans h.hsize hs.size
    ext := fun b hb hold => (hs.block b (Nat.lt_of_lt_of_le hb h.hsize)).trans (h.ext b hb hold) }

end Go.PL
