/- The pure logic, part L: calls, and lists of operations. -/
import Derived.Test.YtkbcgcmklmelbaaDoorPlK
namespace Go.PL
open Go Go.RowKit

/-- May the function be entered (it has a body, and is none of the runtime's own)? -/
def ent (P : Program) (f : FuncId) : Bool :=
  match P.funcs[f]? with
  | some fn => !(fn.name == "runtime.NumGoroutine") && fn.body.isSome
  | none => false

/-- THE CONTRACT of a call: with arguments that hold these, in whatever world, it returns something that Q lets in; nothing that was there turns. -/
structure PCall (P : Program) (I : World → Prop) (f : FuncId) (args : List V) (Q : V → Prop) : Prop where
  ent : ent P f = true
  run : ∀ (w : World) (vs : Array Value) (av : Nat → Prop), I w → (∀ b, av b → b < w.heap.size) → RelVs w (im av) args vs.toList →
    Calls P f vs w (fun e w' => ∃ v r, e = .returned v ∧ Q r ∧ r.pure = true ∧ RelV w' (im av) r v ∧ Below w.heap.size w w')

theorem PCall.mono {P : Program} {I : World → Prop} {f : FuncId} {args : List V} {Q Q' : V → Prop} (h : PCall P I f args Q) (hq : ∀ r, Q r → Q' r) : PCall P I f args Q' :=
  ⟨h.ent, fun w vs av h0 h1 h2 => (h.run w vs av h0 h1 h2).mono fun _ _ ⟨v, r, e, q, rest⟩ => ⟨v, r, e, hq r q, rest⟩⟩

theorem run_callFunc' {P : Program} {f : FuncId} (h : ent P f = true) (args : Array Value) (w : World) : (callFunc f args).run P w = .ok (.enter f args) w := by
  unfold ent at h
  split at h
  · rename_i fn hf
    simp only [Bool.and_eq_true, Bool.not_eq_true'] at h
    have h2 : ¬ fn.body = none := by
      intro hb; rw [hb] at h; simp at h
    have h1 : ¬ fn.name = "runtime.NumGoroutine" := by simpa using h.1
    simp [callFunc, program, Sem.run, hf, h1, h2]
  · cases h

mutual
def V.flat : V → Bool
  | .c x => x.flat
  | .agg cs => cs.all C.flat
  | .tup vs => flatVs vs
  | _ => false
def flatVs : List V → Bool
  | [] => true
  | v :: vs => v.flat && flatVs vs
end
mutual
def vval : V → Value
  | .c x => cval x
  | .agg cs => .agg (cs.map cval).toArray
  | .tup vs => .tuple (vvals vs).toArray
  | _ => Go.undef
def vvals : List V → List Value
  | [] => []
  | v :: vs => vval v :: vvals vs
end

theorem relL_flat {w : World} {G : Ctx} : ∀ {cs : List C} {vs : List Value}, cs.all C.flat = true → (RelL w G cs vs ↔ vs = cs.map cval)
  | [], [], _ => by simp [RelL]
  | [], _ :: _, _ => by simp [RelL]
  | _ :: _, [], _ => by simp [RelL]
  | c :: cs, v :: vs, h => by
    simp only [List.all_cons, Bool.and_eq_true] at h
    simp only [RelL, List.map_cons, List.cons.injEq, relC_flat h.1, relL_flat h.2]

mutual
theorem relV_flat {w : World} {G : Ctx} : ∀ {x : V} {v : Value}, x.flat = true → (RelV w G x v ↔ v = vval x)
  | .c x, v, h => by simp only [RelV, vval]; exact relC_flat (by simpa only [V.flat] using h)
  | .agg cs, v, h => by
    simp only [RelV, vval]
    constructor
    · rintro ⟨arr, rfl, hr⟩
      rw [relL_flat (by simpa only [V.flat] using h)] at hr
      rw [← hr]
    · intro e
      exact ⟨_, e, by rw [relL_flat (by simpa only [V.flat] using h)]⟩
  | .tup vs, v, h => by
    simp only [RelV, vval]
    constructor
    · rintro ⟨arr, rfl, hr⟩
      rw [relVs_flat (by simpa only [V.flat] using h)] at hr
      rw [← hr]
    · intro e
      exact ⟨_, e, by rw [relVs_flat (by simpa only [V.flat] using h)]⟩
  | .g _ _, _, h => by simp [V.flat] at h
  | .undef, _, h => by simp [V.flat] at h
theorem relVs_flat {w : World} {G : Ctx} : ∀ {xs : List V} {vs : List Value}, flatVs xs = true → (RelVs w G xs vs ↔ vs = vvals xs)
  | [], vs, _ => by simp only [RelVs, vvals]
  | x :: xs, vs, h => by
    simp only [flatVs, Bool.and_eq_true] at h
    simp only [RelVs, vvals]
    constructor
    · rintro ⟨v, r, rfl, h1, h2⟩
      rw [(relV_flat h.1).1 h1, (relVs_flat h.2).1 h2]
    · intro e
      exact ⟨_, _, e, (relV_flat h.1).2 rfl, (relVs_flat h.2).2 rfl⟩
end

/-! What a call is handed. -/
def snapC (st : St) : C → C
  | .osl id => match st.look id with
    | some e => match e.row with
      | some (_, _, len) => .sl len e.cs
      | none => .any
    | none => .any
  | c => c
def snapV (st : St) : V → V
  | .c x => .c (snapC st x)
  | .agg cs => .agg (cs.map (snapC st))
  | v => v
def topC : C → List Bid
  | .osl id => [id]
  | _ => []
def topV : V → List Bid
  | .c x => topC x
  | .agg cs => cs.flatMap topC
  | _ => []

theorem relC_snap {F : Fr} {st : St} {a : Act} {w : World} {G : Ctx} (h : R F st a w G) {av : Nat → Prop} (hav : ∀ b, b < w.heap.size → av b → G.wr b) {c : C} {v : Value} (hid : ∀ id ∈ topC c, st.okFrz id = true → ∀ b, G.blk id = some b → ¬ av b)
    (hp : (snapC st c).pure = true) (hr : RelC w G c v) : RelC w (im av) (snapC st c) v := by
  cases c with
  | osl id =>
    simp only [snapC] at hp ⊢
    split at hp
    · rename_i e he
      split at hp
      · rename_i E n len hrow
        have hpl : pureL e.cs = true := by simpa only [C.pure] using hp
        have hmen := pureL_men id e.cs hpl
        have hok : st.okFrz id = true := by simp [St.okFrz, he, hrow, hmen]
        have hf := (h.frz he hrow hmen).own v (by simp only [RelC] at hr; exact hr.1)
        simp only [RelC] at hf ⊢
        obtain ⟨ad, cap, q1, q2, q3, q4, q5⟩ := hf
        refine ⟨ad, cap, q1, q2, q3, q4, ?_⟩
        rcases q5 with q5 | ⟨b, o, rfl, k1, k2, k3⟩
        · exact .inl q5
        · refine .inr ⟨b, o, rfl, ?_, k2, ?_⟩
          · have hb : G.blk id = some b := by
              obtain ⟨hm, hid'⟩ := look_mem he
              have hE := h.store e hm
              unfold RelE at hE
              rw [hrow] at hE
              obtain ⟨hl, v', h1, h2⟩ := hE
              simp only [RelC] at hr
              rw [hid', hr.1] at h1
              injection h1 with h1; subst h1
              rcases h2 with ⟨h3, _⟩ | ⟨b', cap', cur, h3, e2, _⟩
              · rw [q1] at h3; cases h3
              · rw [q1] at h3
                injection h3 with h3; injection h3 with h3; injection h3 with h3
                rw [hid'] at e2; rw [h3]; exact e2
            exact hid id (by simp [topC]) hok b hb
          · exact RelRow.mono (G := upd F G id none none) (G' := im av) ⟨Nat.le_refl _, fun _ _ _ => rfl, fun b' hb' hw => by
              have := hav b' hb' hw
              rw [h.wr] at this
              simp only [upd]
              rcases this with q | ⟨i, q⟩
              · exact .inl q
              · by_cases hi : i = id
                · subst hi; exact absurd hw (hid i (by simp [topC]) hok b' q)
                · exact .inr ⟨i, by simp [hi, q]⟩⟩ _ _ _ (fun i hi => by have : menL i e.cs = true := hi; rw [pureL_men i e.cs hpl] at this; cases this) (fun _ => rfl) k3
      · simp [C.pure] at hp ⊢; simp only [RelC]; exact hr.one
    · simp only [RelC]; exact hr.one
  | _ => 
    first
      | exact RelC.mono (G := G) (G' := im av) ⟨Nat.le_refl _, fun _ _ _ => rfl, fun b hb hw => hav b hb hw⟩ _ _ (fun i hi => absurd (show (snapC st _).men i = true from hi) (by rw [pure_men i _ hp]; simp)) hr

theorem relL_snap {F : Fr} {st : St} {a : Act} {w : World} {G : Ctx} (h : R F st a w G) {av : Nat → Prop} (hav : ∀ b, b < w.heap.size → av b → G.wr b) : ∀ {cs : List C} {vs : List Value}, (∀ id ∈ cs.flatMap topC, st.okFrz id = true → ∀ b, G.blk id = some b → ¬ av b) →
    pureL (cs.map (snapC st)) = true → RelL w G cs vs → RelL w (im av) (cs.map (snapC st)) vs
  | [], [], _, _, _ => by simp [RelL]
  | [], _ :: _, _, _, h => by simp [RelL] at h
  | _ :: _, [], _, _, h => by simp [RelL] at h
  | c :: cs, v :: vs, hid, hp, hr => by
    simp only [RelL] at hr
    simp only [List.map_cons, pureL, Bool.and_eq_true] at hp
    simp only [List.map_cons, RelL]
    exact ⟨relC_snap h hav (fun id hi => hid id (by simp [hi])) hp.1 hr.1, relL_snap h hav (fun id hi => hid id (by simp only [List.flatMap_cons, List.mem_append]; exact .inr hi)) hp.2 hr.2⟩

theorem relV_snap {F : Fr} {st : St} {a : Act} {w : World} {G : Ctx} (h : R F st a w G) {av : Nat → Prop} (hav : ∀ b, b < w.heap.size → av b → G.wr b) {x : V} {v : Value} (hid : ∀ id ∈ topV x, st.okFrz id = true → ∀ b, G.blk id = some b → ¬ av b)
    (hp : (snapV st x).pure = true) (hr : RelV w G x v) : RelV w (im av) (snapV st x) v := by
  cases x with
  | c x => simp only [snapV, RelV] at hr ⊢; exact relC_snap h hav hid (by simpa only [snapV, V.pure] using hp) hr
  | agg cs =>
    simp only [snapV, RelV] at hr ⊢
    obtain ⟨arr, e, hr⟩ := hr
    exact ⟨arr, e, relL_snap h hav hid (by simpa only [snapV, V.pure] using hp) hr⟩
  | tup vs => exact relV_in hav hp hr
  | g b v' => exact relV_in hav hp hr
  | undef => simp only [snapV, RelV]

def topVs (xs : List V) : List Bid := xs.flatMap topV

theorem relVs_snap {F : Fr} {st : St} {a : Act} {w : World} {G : Ctx} (h : R F st a w G) {av : Nat → Prop} (hav : ∀ b, b < w.heap.size → av b → G.wr b) : ∀ {xs : List V} {vs : List Value}, (∀ id ∈ topVs xs, st.okFrz id = true → ∀ b, G.blk id = some b → ¬ av b) →
    pureVs (xs.map (snapV st)) = true → RelVs w G xs vs → RelVs w (im av) (xs.map (snapV st)) vs
  | [], _, _, _, h => by simpa [RelVs] using h
  | x :: xs, vs, hid, hp, hr => by
    simp only [RelVs] at hr
    obtain ⟨v, r, rfl, h1, h2⟩ := hr
    simp only [List.map_cons, pureVs, Bool.and_eq_true] at hp
    simp only [List.map_cons, RelVs]
    exact ⟨v, r, rfl, relV_snap h hav (fun id hi => hid id (by simp only [topVs, List.flatMap_cons, List.mem_append]; exact .inl hi)) hp.1 h1,
      relVs_snap h hav (fun id hi => hid id (by simp only [topVs, List.flatMap_cons, List.mem_append]; exact .inr hi)) hp.2 h2⟩

/-- The state behind a call. -/
def St.after (st : St) (ids : List Bid) (d : Option Nat) (r : V) : St :=
  if r.flat then st.put d r else match ids with
    | [] => st.put d r
    | id :: _ => (st.freeze id).put d r

theorem outer_below {B : Nat} {w w' : World} (h : Below B w w') : Outer w w' := ⟨h.os, h.tape, h.output⟩
theorem same_below {w w' : World} (h : Below w.heap.size w w') : Same w w' := ⟨h.size, fun b hb => h.block b hb⟩

theorem R.avlt' {F : Fr} {st : St} {a : Act} {w : World} {G : Ctx} (h : R F st a w G) {b : Nat} (hb : G.wr b) : b < w.heap.size := by
  rw [h.wr] at hb
  rcases hb with q | ⟨i, q⟩
  · exact Nat.lt_of_lt_of_le (h.avlt b q) h.hsize
  · exact h.lt i b q

theorem R.called {F : Fr} {st : St} {a : Act} {w : World} {G : Ctx} (h : R F st a w G) {P : Program} {f : FuncId} {xs : List V} {us : Array Value} {Q : V → Prop} (hc : PCall P F.I f (xs.map (snapV st)) Q)
    (hp : pureVs (xs.map (snapV st)) = true) (hx : RelVs w G xs us.toList) (d : Option Nat) (hfl : ∀ r, Q r → (r.flat = true ∨ (topVs xs).length ≤ 1 ∧ ∀ id ∈ topVs xs, st.okFrz id = true)) :
    Calls P f us w (fun e w' => ∃ v r G', e = .returned v ∧ Q r ∧ R F (st.after (topVs xs) d r) (a.put d v) w' G') := by
  have hI : F.I w := h.inv w h.hsize h.ext
  by_cases hne : topVs xs = []
  · have h1 := relVs_snap h (av := fun b => G.wr b) (fun _ _ q => q) (by rw [hne]; simp) hp hx
    refine (hc.run w us (fun b => G.wr b) hI (fun b hb => h.avlt' hb) h1).mono fun e w' ⟨v, r, he, hq, hpr, hr, hb⟩ => ?_
    refine ⟨v, r, G, he, hq, ?_⟩
    have h2 := (h.same (outer_below hb) (same_below hb)).put (d := d) (relV_out (G := G) (fun _ _ q => q) hpr hr)
    unfold St.after
    rw [hne]
    split <;> exact h2
  · -- the blocks of the owned slices are not shunned
    have hav : ∀ b, b < w.heap.size → (G.wr b ∧ ∀ id ∈ topVs xs, G.blk id ≠ some b) → G.wr b := fun _ _ q => q.1
    have h1 := relVs_snap h (av := fun b => G.wr b ∧ ∀ id ∈ topVs xs, G.blk id ≠ some b) hav (fun id hi _ b hb hw => hw.2 id hi hb) hp hx
    refine (hc.run w us _ hI (fun b hb => h.avlt' hb.1) h1).mono fun e w' ⟨v, r, he, hq, hpr, hr, hb⟩ => ?_
    by_cases hf : r.flat = true
    · refine ⟨v, r, G, he, hq, ?_⟩
      have h2 := (h.same (outer_below hb) (same_below hb)).put (d := d) ((relV_flat (w := w') (G := G) hf).2 ((relV_flat hf).1 hr))
      unfold St.after; rw [if_pos hf]; exact h2
    · rcases hfl r hq with q | ⟨q1, q2⟩
      · exact absurd q hf
      · obtain ⟨id, hid⟩ : ∃ id, topVs xs = [id] := by
          match hh : topVs xs, q1, hne with
          | [], _, hne => exact absurd rfl hne
          | [id], _, _ => exact ⟨id, rfl⟩
        obtain ⟨G', g1, g2, g3⟩ := h.freeze id
        refine ⟨v, r, G', he, hq, ?_⟩
        have g4 := g1.same (outer_below hb) (same_below hb)
        have hr' : RelV w' G' r v := relV_out (fun b hb' hw => ⟨g2 b hw, fun i hi hbi => by
          rw [hid] at hi; simp at hi; subst hi
          exact g3 (q2 i (by rw [hid]; simp)) b hbi hw⟩) hpr hr
        unfold St.after
        rw [if_neg hf, hid]
        exact g4.put hr'

end Go.PL
