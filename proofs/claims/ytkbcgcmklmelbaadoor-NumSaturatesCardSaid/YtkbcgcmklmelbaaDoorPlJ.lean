/- The pure logic, part J: frozen slices; what may be handed to a call. -/
import Derived.Test.YtkbcgcmklmelbaaDoorPlI
namespace Go.PL
open Go Go.RowKit

mutual
def C.pure : C → Bool
  | .osl _ => false
  | .ptr .. => false
  | .sl _ cs => pureL cs
  | .iptr cs _ => pureL cs
  | _ => true
def pureL : List C → Bool
  | [] => true
  | c :: cs => c.pure && pureL cs
end
mutual
def V.pure : V → Bool
  | .c x => x.pure
  | .agg cs => pureL cs
  | .tup vs => pureVs vs
  | .g b v => !b || v.pure
  | .undef => true
def pureVs : List V → Bool
  | [] => true
  | v :: vs => v.pure && pureVs vs
end

mutual
theorem pure_men (id : Bid) : ∀ c : C, c.pure = true → c.men id = false
  | .osl _, h => by simp [C.pure] at h
  | .ptr .., h => by simp [C.pure] at h
  | .sl _ cs, h => by simp only [C.men]; exact pureL_men id cs (by simpa only [C.pure] using h)
  | .iptr cs _, h => by simp only [C.men]; exact pureL_men id cs (by simpa only [C.pure] using h)
  | .int .., _ => by simp [C.men]
  | .bool _, _ => by simp [C.men]
  | .str _, _ => by simp [C.men]
  | .nilp, _ => by simp [C.men]
  | .niface, _ => by simp [C.men]
  | .fn _, _ => by simp [C.men]
  | .held, _ => by simp [C.men]
  | .any, _ => by simp [C.men]
theorem pureL_men (id : Bid) : ∀ cs : List C, pureL cs = true → menL id cs = false
  | [], _ => by simp [menL]
  | c :: cs, h => by
    simp only [pureL, Bool.and_eq_true] at h
    simp [menL, pure_men id c h.1, pureL_men id cs h.2]
end
mutual
theorem pureV_men (id : Bid) : ∀ v : V, v.pure = true → v.men id = false
  | .c x, h => by simp only [V.men]; exact pure_men id x (by simpa only [V.pure] using h)
  | .agg cs, h => by simp only [V.men]; exact pureL_men id cs (by simpa only [V.pure] using h)
  | .tup vs, h => by simp only [V.men]; exact pureVs_men id vs (by simpa only [V.pure] using h)
  | .g b v, h => by
    cases b with
    | false => simp [V.men]
    | true => simp only [V.pure, Bool.not_true, Bool.false_or] at h; simp [V.men, pureV_men id v h]
  | .undef, _ => by simp [V.men]
theorem pureVs_men (id : Bid) : ∀ vs : List V, pureVs vs = true → menV id vs = false
  | [], _ => by simp [menV]
  | v :: vs, h => by
    simp only [pureVs, Bool.and_eq_true] at h
    simp [menV, pureV_men id v h.1, pureVs_men id vs h.2]
end

/-- The context of a call's arguments and results: no names; some blocks shunned. -/
def im (av : Nat → Prop) : Ctx := ⟨fun _ => none, fun _ => none, av⟩

/-- In a context without names what is held is pure. -/
theorem relV_out {w : World} {av : Nat → Prop} {G : Ctx} (hG : ∀ b, b < w.heap.size → G.wr b → av b) {x : V} {v : Value} (hp : x.pure = true) (h : RelV w (im av) x v) : RelV w G x v :=
  RelV.mono (G := im av) (G' := G) ⟨Nat.le_refl _, fun _ _ _ => rfl, fun b hb hw => hG b hb hw⟩ x v (fun id hid => absurd (show x.men id = true from hid) (by rw [pureV_men id x hp]; simp)) h

theorem relV_in {w : World} {av : Nat → Prop} {G : Ctx} (hG : ∀ b, b < w.heap.size → av b → G.wr b) {x : V} {v : Value} (hp : x.pure = true) (h : RelV w G x v) : RelV w (im av) x v :=
  RelV.mono (G := G) (G' := im av) ⟨Nat.le_refl _, fun _ _ _ => rfl, fun b hb hw => hG b hb hw⟩ x v (fun id hid => absurd (show x.men id = true from hid) (by rw [pureV_men id x hp]; simp)) h

def frzC (id : Bid) (len : Nat) (cs : List C) : C → C
  | .osl i => if i = id then .sl len cs else .osl i
  | .ptr i o => if i = id then .any else .ptr i o
  | .sl l ds => if menL id ds then .any else .sl l ds
  | .iptr ds o => if menL id ds then .any else .iptr ds o
  | c => c
mutual
def frzV (id : Bid) (len : Nat) (cs : List C) : V → V
  | .c x => .c (frzC id len cs x)
  | .agg ds => .agg (ds.map (frzC id len cs))
  | .tup vs => .tup (frzVs id len cs vs)
  | .g b v => .g b (frzV id len cs v)
  | .undef => .undef
def frzVs (id : Bid) (len : Nat) (cs : List C) : List V → List V
  | [] => []
  | v :: vs => frzV id len cs v :: frzVs id len cs vs
end

def St.freeze (st : St) (id : Bid) : St :=
  match st.look id with
  | some e => match e.row with
    | some (_, _, len) => if menL id e.cs then st else
        { tm := st.tm.map (frzV id len e.cs), so := (st.so.filter (fun d => d.id != id)).map (fun d => { d with cs := d.cs.map (frzC id len e.cs) }) }
    | none => st
  | none => st

section
variable {F : Fr} {w : World} {G : Ctx} {id : Bid} {len : Nat} {cs : List C}

/-- What a frozen slice's value must be. -/
structure Frz (F : Fr) (w : World) (G : Ctx) (id : Bid) (len : Nat) (cs : List C) : Prop where
  own : ∀ v, G.own id = some v → RelC w (upd F G id none none) (.sl len cs) v
  keeps : Keeps G (upd F G id none none) w w

theorem relC_frz (hf : Frz F w G id len cs) {c : C} {v : Value} (h : RelC w G c v) : RelC w (upd F G id none none) (frzC id len cs c) v := by
  have hm : ∀ d : C, d.men id = false → RelC w G d v → RelC w (upd F G id none none) d v := fun d hd hr =>
    RelC.mono hf.keeps d v (agree_upd (fun i hi he => by subst he; rw [hd] at hi; cases hi)) hr
  cases c with
  | osl i =>
    simp only [frzC]
    split
    · rename_i hi; subst hi; simp only [RelC] at h; exact hf.own v h.1
    · rename_i hi; exact hm _ (by simpa [C.men] using hi) h
  | ptr i o =>
    simp only [frzC]
    split
    · simp only [RelC]; exact h.one
    · rename_i hi; exact hm _ (by simpa [C.men] using hi) h
  | sl l ds =>
    simp only [frzC]
    split
    · simp only [RelC]; exact h.one
    · rename_i hi; exact hm _ (by simpa [C.men] using hi) h
  | iptr ds o =>
    simp only [frzC]
    split
    · simp only [RelC]; exact h.one
    · rename_i hi; exact hm _ (by simpa [C.men] using hi) h
  | int k n => exact hm (.int k n) (by simp [C.men]) h
  | bool b => exact hm (.bool b) (by simp [C.men]) h
  | str s => exact hm (.str s) (by simp [C.men]) h
  | nilp => exact hm (.nilp) (by simp [C.men]) h
  | niface => exact hm (.niface) (by simp [C.men]) h
  | fn f => exact hm (.fn f) (by simp [C.men]) h
  | held => exact hm (.held) (by simp [C.men]) h
  | any => exact hm (.any) (by simp [C.men]) h

theorem relL_frz (hf : Frz F w G id len cs) : ∀ {ds : List C} {vs : List Value}, RelL w G ds vs → RelL w (upd F G id none none) (ds.map (frzC id len cs)) vs
  | [], [], _ => by simp [RelL]
  | [], _ :: _, h => by simp [RelL] at h
  | _ :: _, [], h => by simp [RelL] at h
  | c :: ds, v :: vs, h => by
    simp only [RelL] at h
    simp only [List.map_cons, RelL]
    exact ⟨relC_frz hf h.1, relL_frz hf h.2⟩

mutual
theorem relV_frz (hf : Frz F w G id len cs) : ∀ (x : V) (v : Value), RelV w G x v → RelV w (upd F G id none none) (frzV id len cs x) v
  | .c x, v, h => by simp only [RelV, frzV] at h ⊢; exact relC_frz hf h
  | .agg ds, v, h => by
    simp only [RelV, frzV] at h ⊢
    obtain ⟨arr, e, hr⟩ := h
    exact ⟨arr, e, relL_frz hf hr⟩
  | .tup vs, v, h => by
    simp only [RelV, frzV] at h ⊢
    obtain ⟨arr, e, hr⟩ := h
    exact ⟨arr, e, relVs_frz hf vs _ hr⟩
  | .g b x, v, h => by
    simp only [RelV, frzV] at h ⊢
    split
    · rename_i hb; rw [if_pos hb] at h; exact relV_frz hf x v h
    · rename_i hb; rw [if_neg hb] at h; exact h
  | .undef, _, _ => by simp only [RelV, frzV]
theorem relVs_frz (hf : Frz F w G id len cs) : ∀ (xs : List V) (vs : List Value), RelVs w G xs vs → RelVs w (upd F G id none none) (frzVs id len cs xs) vs
  | [], _, h => by simpa only [RelVs, frzVs] using h
  | x :: xs, vs, h => by
    simp only [RelVs, frzVs] at h ⊢
    obtain ⟨v, r, e, h1, h2⟩ := h
    exact ⟨v, r, e, relV_frz hf x v h1, relVs_frz hf xs r h2⟩
end
end

theorem R.frz {F : Fr} {st : St} {a : Act} {w : World} {G : Ctx} (h : R F st a w G) {id : Bid} {e : Ent} (he : st.look id = some e) {E n len : Nat} (hrow : e.row = some (E, n, len)) (hmen : menL id e.cs = false) :
    Frz F w G id len e.cs where
  keeps := h.keeps id none none (Nat.le_refl _) (fun _ _ _ => rfl) (fun b hb => by cases hb)
  own := by
    intro v hv
    obtain ⟨hm, hid⟩ := look_mem he
    have hE := h.store e hm
    unfold RelE at hE
    rw [hrow] at hE
    obtain ⟨hl, v', h1, h2⟩ := hE
    rw [hid, hv] at h1
    injection h1 with h1; subst h1
    simp only [RelC]
    rcases h2 with ⟨rfl, h0, _⟩ | ⟨b, cap, cur, rfl, e2, e3, e4, e5, e6, e7⟩
    · refine ⟨none, 0, by rw [h0], by omega, by simp [maxLen], fun _ => ?_, .inl h0⟩
      cases hc : e.cs with
      | nil => rfl
      | cons c cs => rw [hc, h0] at hl; simp at hl
    · rw [hid] at e2
      refine ⟨_, cap, rfl, e4, e5, fun h0 => ?_, .inr ⟨b, 0, rfl, ?_, h.lt id b e2, ?_⟩⟩
      · cases hc : e.cs with
        | nil => rfl
        | cons c cs => rw [hc, h0] at hl; simp at hl
      · simp only [upd]
        rintro (q | ⟨i, q⟩)
        · rcases h.new id b e2 with q2 | q2
          · have := h.avlt b q; omega
          · exact h.avold b q2 q
        · split at q
          · cases q
          · rename_i hi; exact hi (h.inj i id b q e2)
      · have hk := h.keeps id none none (Nat.le_refl _) (fun _ _ _ => rfl) (fun b hb => by cases hb)
        exact RelRow.mono hk _ _ _ (agree_upd (fun i hi he' => by subst he'; rw [hmen] at hi; cases hi)) (fun _ => rfl) e7

/-- The name is that of a row whose cells do not bear it. -/
def St.okFrz (st : St) (id : Bid) : Bool :=
  match st.look id with
  | some e => match e.row with
    | some _ => !menL id e.cs
    | none => false
  | none => false

theorem R.freeze {F : Fr} {st : St} {a : Act} {w : World} {G : Ctx} (h : R F st a w G) (id : Bid) :
    ∃ G', R F (st.freeze id) a w G' ∧ (∀ b, G'.wr b → G.wr b) ∧ (st.okFrz id = true → ∀ b, G.blk id = some b → ¬ G'.wr b) := by
  have hid : ∀ b, G.wr b → G.wr b := fun _ q => q
  unfold St.freeze
  split
  · rename_i e he
    split
    · rename_i E n len hrow
      split
      · rename_i hmen
        exact ⟨G, h, hid, fun hok => by simp [St.okFrz, he, hrow, hmen] at hok⟩
      · rename_i hmen
        have hf := h.frz he hrow (by simpa using hmen)
        refine ⟨upd F G id none none, h.rename id none none ⟨rfl, rfl, rfl⟩ (Nat.le_refl _) (fun _ _ _ => rfl) (fun b hb => by cases hb) _ (by simp) ?_ ?_ ?_, ?_, ?_⟩
        rotate_right 2
        · intro b hb
          simp only [upd] at hb
          rw [h.wr]
          rcases hb with hb | ⟨i, hb⟩
          · exact .inl hb
          · split at hb
            · cases hb
            · exact .inr ⟨i, hb⟩
        · intro _ b hb hw
          simp only [upd] at hw
          rcases hw with q | ⟨i, q⟩
          · rcases h.new id b hb with q2 | q2
            · have := h.avlt b q; omega
            · exact h.avold b q2 q
          · split at q
            · cases q
            · rename_i hi; exact hi (h.inj i id b q hb)
        · intro i
          simp only
          rw [getD_map_tm (st := st) (by simp [frzV])]
          exact relV_frz hf _ _ (h.slots i)
        · intro d hd
          simp only [List.mem_map, List.mem_filter] at hd
          obtain ⟨d', ⟨hd', hne⟩, rfl⟩ := hd
          have hne' : d'.id ≠ id := by simpa using hne
          have hE := h.store d' hd'
          unfold RelE at hE ⊢
          simp only
          have eb : (upd F G id none none).blk d'.id = G.blk d'.id := by simp [upd, hne']
          have eo : (upd F G id none none).own d'.id = G.own d'.id := by simp [upd, hne']
          rw [eb, eo]
          have hrow : ∀ {b o}, RelRow w G d'.cs b o → RelRow w (upd F G id none none) (d'.cs.map (frzC id len e.cs)) b o := fun hr => by
            obtain ⟨vs, q1, q2⟩ := hr.list
            exact RelRow.of_list (relL_frz hf q1) q2
          split at hE
          · obtain ⟨b, T, cur, q1, q2, q3, q4⟩ := hE
            exact ⟨b, T, cur, q1, q2, by simpa using q3, hrow q4⟩
          · obtain ⟨hl, v, q1, q2⟩ := hE
            refine ⟨by simpa using hl, v, q1, ?_⟩
            rcases q2 with q2 | ⟨b, cap, cur, e1, e2, e3, e4, e5, e6, e7⟩
            · exact .inl q2
            · exact .inr ⟨b, cap, cur, e1, e2, e3, e4, e5, e6, hrow e7⟩
        · have : (((st.so.filter (fun d => d.id != id)).map (fun d => ({ d with cs := d.cs.map (frzC id len e.cs) } : Ent))).map (·.id)) = (st.so.filter (fun d => d.id != id)).map (·.id) := by
            simp [List.map_map, Function.comp_def]
          simp only
          rw [this]
          exact List.Sublist.nodup (List.Sublist.map (fun d : Ent => d.id) List.filter_sublist) h.nodup
    · rename_i hrow
      exact ⟨G, h, hid, fun hok => by simp [St.okFrz, he, hrow] at hok⟩
  · rename_i he
    exact ⟨G, h, hid, fun hok => by simp [St.okFrz, he] at hok⟩

end Go.PL
