/- The pure logic, part E: slices, lengths, and all operations that only read in one function. -/
import Derived.Test.YtkbcgcmklmelbaaDoorPlD
namespace Go.PL
open Go Go.RowKit

/-- The bounds of a slice expression: low and high, if there. -/
def bnds (len : Nat) (lo hi : Option V) : Option (Int × Int) :=
  match lo, hi with
  | none, none => some (0, len)
  | some (.c (.int _ l)), none => some (l, len)
  | none, some (.c (.int _ h)) => some (0, h)
  | some (.c (.int _ l)), some (.c (.int _ h)) => some (l, h)
  | _, _ => none

def sliceV (P : Program) (t : TypeId) (x : V) (lo hi : Option V) : Prop × V :=
  match x with
  | .c (.str s) => match bnds s.length lo hi with
    | some (l, h) => (isStr P t = true ∧ 0 ≤ l ∧ l ≤ h ∧ h ≤ s.length, .c (.str ((s.drop l.toNat).take (h.toNat - l.toNat))))
    | none => no
  | .c (.sl len cs) => match selem P t, bnds len lo hi with
    | some (_, n), some (l, h) => (0 ≤ l ∧ l ≤ h ∧ h ≤ len ∧ cs.length = len * n, .c (.sl (h.toNat - l.toNat) ((cs.drop (l.toNat * n)).take ((h.toNat - l.toNat) * n))))
    | _, _ => no
  | _ => no

def OptRel (w : World) (G : Ctx) : Option V → Option Value → Prop
  | none, none => True
  | some x, some v => RelV w G x v
  | _, _ => False

theorem run_sliceBound' {P : Program} (w : World) (k : IntKind) (i : Int) (y : Nat) (code : BoundsCode) (h0 : 0 ≤ i) (h1 : i ≤ y) :
    (Instr.sliceBound (.int k i) y code).run P w = .ok i.toNat w := by
  simp [Instr.sliceBound, asIntOf, h0, h1]

theorem run_bnds {P : Program} {w : World} {G : Ctx} {len cap : Nat} {lo hi : Option V} {lv hv : Option Value} {l h : Int} (sl : Bool) (hb : bnds len lo hi = some (l, h)) (h1 : OptRel w G lo lv) (h2 : OptRel w G hi hv)
    (q1 : 0 ≤ l) (q2 : l ≤ h) (q3 : h ≤ len) (q4 : len ≤ cap) : ∀ w', (Instr.sliceBounds sl len cap lv hv none).run P w' = .ok (l.toNat, h.toNat, cap) w' := by
  intro w'
  unfold bnds at hb
  split at hb
  · simp only [Option.some.injEq, Prod.mk.injEq] at hb; obtain ⟨rfl, rfl⟩ := hb
    cases lv <;> cases hv <;> simp only [OptRel] at h1 h2
    simp [Instr.sliceBounds]
  · rename_i k1 l1
    simp only [Option.some.injEq, Prod.mk.injEq] at hb; obtain ⟨rfl, rfl⟩ := hb
    cases lv <;> cases hv <;> simp only [OptRel, RelV, RelC] at h1 h2
    subst h1
    have e1 := fun code => run_sliceBound' (P := P) w' k1 l1 len code q1 (by omega)
    simp [Instr.sliceBounds, e1]
  · rename_i k2 l2
    simp only [Option.some.injEq, Prod.mk.injEq] at hb; obtain ⟨rfl, rfl⟩ := hb
    cases lv <;> cases hv <;> simp only [OptRel, RelV, RelC] at h1 h2
    subst h2
    have e2 := fun code => run_sliceBound' (P := P) w' k2 l2 cap code (by omega) (by omega)
    simp [Instr.sliceBounds, e2]
  · rename_i k1 l1 k2 l2
    simp only [Option.some.injEq, Prod.mk.injEq] at hb; obtain ⟨rfl, rfl⟩ := hb
    cases lv <;> cases hv <;> simp only [OptRel, RelV, RelC] at h1 h2
    subst h1 h2
    have e1 := fun code => run_sliceBound' (P := P) w' k1 l1 l2.toNat code q1 (by omega)
    have e2 := fun code => run_sliceBound' (P := P) w' k2 l2 cap code (by omega) (by omega)
    simp [Instr.sliceBounds, e1, e2]
  · cases hb

theorem sliceV_sound {P : Program} {t : TypeId} {x : V} {lo hi : Option V} {u : Value} {lv hv : Option Value} {w : World} {G : Ctx} (hx : RelV w G x u) (h1 : OptRel w G lo lv) (h2 : OptRel w G hi hv) (hs : (sliceV P t x lo hi).1) :
    ∃ r, RelV w G (sliceV P t x lo hi).2 r ∧ ∀ w', (Instr.sliceAt t u lv hv none).run P w' = .ok r w' := by
  unfold sliceV at *
  split at hs
  · rename_i s
    split at hs
    · rename_i l h hb
      simp only [RelV, RelC] at hx; subst hx
      obtain ⟨q0, q1, q2, q3⟩ := hs
      refine ⟨_, (relC_flat rfl).2 rfl, fun w' => ?_⟩
      have e : (⟨s.toArray⟩ : ByteArray).extract l.toNat h.toNat = ⟨((s.drop l.toNat).take (h.toNat - l.toNat)).toArray⟩ := by
        apply ByteArray.ext
        apply Array.ext'
        simp [ByteArray.data_extract, List.extract_eq_take_drop]
      have := run_bnds (P := P) (w := w) (G := G) false (len := s.length) (cap := s.length) hb h1 h2 q1 q2 q3 (Nat.le_refl _) w'
      simp [Instr.sliceAt, Instr.slice, Sem.run_bind, run_underlying (isStr_spec q0), baSize, this, cval, e]
    · exact hs.elim
  · rename_i len cs
    split at hs
    · rename_i e n l h hse hb
      obtain ⟨q1, q2, q3, q4⟩ := hs
      obtain ⟨hu, inf, hi', hsz⟩ := selem_spec hse
      simp only [RelV, RelC] at hx ⊢
      obtain ⟨ad, cap, rfl, c1, c2, c3, c4⟩ := hx
      have hr := fun w' => run_bnds (P := P) (w := w) (G := G) true (len := len) (cap := cap) hb h1 h2 q1 q2 q3 c1 w'
      refine ⟨.slice (if cap = l.toNat then ad else ad.map (·.add (l.toNat * n))) (h.toNat - l.toNat) (cap - l.toNat), ⟨_, _, rfl, by omega, by omega, ?_, ?_⟩, fun w' => ?_⟩
      · intro h0; rw [h0]; simp
      · by_cases hz : h.toNat - l.toNat = 0
        · exact .inl hz
        · right
          rcases c4 with c4 | ⟨b, o, rfl, k1, k2, k3⟩
          · omega
          · have hne : ¬ cap = l.toNat := by omega
            refine ⟨b, o + l.toNat * n, ?_, k1, k2, ?_⟩
            · rw [if_neg hne]; simp [Addr.add_mid]
            · exact (k3.drop (l.toNat * n)).take _
      · simp [Instr.sliceAt, Instr.slice, Sem.run_bind, run_underlying hu, hr, sizeOf, typeInfo, program, Sem.run, hi', hsz]
    · exact hs.elim
  · exact hs.elim

def isSlice (P : Program) (t : TypeId) : Bool :=
  match P.underlying t with
  | some (.slice _) => true
  | _ => false

def lenV (P : Program) (t : TypeId) (st : St) (x : V) : Prop × V :=
  match x with
  | .c (.str s) => (isStr P t = true, .c (.int .i64 s.length))
  | .c (.sl len _) => (isSlice P t = true, .c (.int .i64 len))
  | .c (.osl id) => match st.look id with
    | some e => match e.row with
      | some (_, _, len) => (isSlice P t = true, .c (.int .i64 len))
      | none => no
    | none => no
  | _ => match aelem P t with
    | some (k, _, _) => (True, .c (.int .i64 k))
    | none => no

theorem isSlice_spec {P : Program} {t : TypeId} (h : isSlice P t = true) : ∃ e, P.underlying t = some (.slice e) := by
  unfold isSlice at h
  split at h
  · rename_i e he; exact ⟨e, he⟩
  · cases h

/-- What an owned slice's value looks like. -/
theorem osl_value {F : Fr} {st : St} {a : Act} {w : World} {G : Ctx} (h : R F st a w G) {id : Bid} {e : Ent} (he : st.look id = some e) {E n len : Nat} (hrow : e.row = some (E, n, len)) {u : Value} (hx : RelC w G (.osl id) u) :
    ∃ ad cap, u = .slice ad len cap := by
  obtain ⟨hm, hid⟩ := look_mem he
  have hE := h.store e hm
  unfold RelE at hE
  rw [hrow] at hE
  obtain ⟨hl, v, hown, hcase⟩ := hE
  simp only [RelC] at hx
  rw [hid] at hown
  rw [hown] at hx
  obtain ⟨hx, _⟩ := hx
  injection hx with hx; subst hx
  rcases hcase with ⟨rfl, h0, _⟩ | ⟨b, cap, cur, rfl, _⟩
  · exact ⟨none, 0, by rw [h0]⟩
  · exact ⟨_, cap, rfl⟩

theorem lenV_sound {P : Program} {F : Fr} {st : St} {a : Act} {w : World} {G : Ctx} (h : R F st a w G) {t ty : TypeId} {x : V} {u : Value} (hx : RelV w G x u) (hs : (lenV P t st x).1) :
    ∃ r, RelV w G (lenV P t st x).2 r ∧ ∀ w', (Builtin.len_ #[t] ty #[u]).run P w' = .ok r w' := by
  unfold lenV at *
  split at hs
  · simp only [RelV, RelC] at hx; subst hx
    exact ⟨_, (relC_flat rfl).2 rfl, fun w' => by simp [Builtin.len_, Sem.run_bind, run_underlying (isStr_spec hs), goInt, baSize, cval]⟩
  · obtain ⟨e, he⟩ := isSlice_spec hs
    simp only [RelV, RelC] at hx
    obtain ⟨ad, cap, rfl, _⟩ := hx
    exact ⟨_, (relC_flat rfl).2 rfl, fun w' => by simp [Builtin.len_, Sem.run_bind, run_underlying he, goInt, cval]⟩
  · split at hs
    · rename_i e hlk
      split at hs
      · rename_i E n len hrow
        obtain ⟨el, he⟩ := isSlice_spec hs
        obtain ⟨ad, cap, rfl⟩ := osl_value h hlk hrow (by simpa [RelV] using hx)
        exact ⟨_, (relC_flat rfl).2 rfl, fun w' => by simp [Builtin.len_, Sem.run_bind, run_underlying he, goInt, cval]⟩
      · exact hs.elim
    · exact hs.elim
  · split at hs
    · rename_i k el n hae
      obtain ⟨hu, _⟩ := aelem_spec hae
      exact ⟨_, (relC_flat rfl).2 rfl, fun w' => by simp [Builtin.len_, Sem.run_bind, run_underlying hu, goInt, cval]⟩
    · exact hs.elim

/-- min and max, of ints. -/
def intsOf : List V → Option (IntKind × Int × List Int)
  | [.c (.int k x)] => some (k, x, [])
  | .c (.int k x) :: vs => match intsOf vs with
    | some (_, y, ys) => some (k, x, y :: ys)
    | none => none
  | _ => none
def minV (vs : List V) : Prop × V :=
  match intsOf vs with
  | some (k, x, ys) => (True, .c (.int k (ys.foldl (fun a y => if y < a then y else a) x)))
  | none => no
def maxV (vs : List V) : Prop × V :=
  match intsOf vs with
  | some (k, x, ys) => (True, .c (.int k (ys.foldl (fun a y => if a < y then y else a) x)))
  | none => no

theorem intsOf_rel {w : World} {G : Ctx} : ∀ {vs : List V} {us : List Value} {k : IntKind} {x : Int} {ys : List Int}, intsOf vs = some (k, x, ys) → RelVs w G vs us →
    ∃ ks : List IntKind, us = .int k x :: (ks.zip ys).map (fun p => Value.int p.1 p.2) ∧ ks.length = ys.length
  | [], us, k, x, ys, h, _ => by simp [intsOf] at h
  | [v], us, k, x, ys, h, hr => by
    unfold intsOf at h
    split at h
    · rename_i k' x' he
      injection he with he _; subst he
      simp only [Option.some.injEq, Prod.mk.injEq] at h
      obtain ⟨rfl, rfl, rfl⟩ := h
      simp only [RelVs, RelV, RelC] at hr
      obtain ⟨v, r, rfl, rfl, rfl⟩ := hr
      exact ⟨[], by simp⟩
    · rename_i k' x' vs' hne he
      injection he with _ he
      subst he
      split at h
      · rename_i q; simp [intsOf] at q
      · cases h
    · cases h
  | v :: v2 :: vs, us, k, x, ys, h, hr => by
    unfold intsOf at h
    split at h
    · rename_i he; injection he with _ he; cases he
    · rename_i k' x' vs' hne he
      injection he with he1 he2
      subst he1 he2
      split at h
      · rename_i k2 y ys' q
        simp only [Option.some.injEq, Prod.mk.injEq] at h
        obtain ⟨rfl, rfl, rfl⟩ := h
        rw [RelVs] at hr
        obtain ⟨u, r, rfl, h1, h2⟩ := hr
        simp only [RelV, RelC] at h1; subst h1
        obtain ⟨ks, e, hl⟩ := intsOf_rel q h2
        exact ⟨k2 :: ks, by rw [e]; simp, by simp [hl]⟩
      · cases h
    · cases h

theorem run_min_fold {P : Program} (w : World) (k : IntKind) : ∀ (ks : List IntKind) (ys : List Int) (x : Int), ks.length = ys.length →
    (((ks.zip ys).map (fun p => Value.int p.1 p.2)).foldlM Builtin.min2 (.int k x)).run P w = .ok (.int k (ys.foldl (fun a y => if y < a then y else a) x)) w
  | [], [], x, _ => by simp
  | [], _ :: _, _, h => by simp at h
  | _ :: _, [], _, h => by simp at h
  | k' :: ks, y :: ys, x, h => by
    simp only [List.zip_cons_cons, List.map_cons, List.foldlM_cons, List.foldl_cons, Sem.run_bind, Builtin.min2, Sem.run_pure, Result.andThen_ok]
    exact run_min_fold w k ks ys _ (by simpa using h)
theorem run_max_fold {P : Program} (w : World) (k : IntKind) : ∀ (ks : List IntKind) (ys : List Int) (x : Int), ks.length = ys.length →
    (((ks.zip ys).map (fun p => Value.int p.1 p.2)).foldlM Builtin.max2 (.int k x)).run P w = .ok (.int k (ys.foldl (fun a y => if a < y then y else a) x)) w
  | [], [], x, _ => by simp
  | [], _ :: _, _, h => by simp at h
  | _ :: _, [], _, h => by simp at h
  | k' :: ks, y :: ys, x, h => by
    simp only [List.zip_cons_cons, List.map_cons, List.foldlM_cons, List.foldl_cons, Sem.run_bind, Builtin.max2, Sem.run_pure, Result.andThen_ok]
    exact run_max_fold w k ks ys _ (by simpa using h)

theorem minV_sound {P : Program} {vs : List V} {us : Array Value} {w : World} {G : Ctx} {ts : Array TypeId} {ty : TypeId} (hx : RelVs w G vs us.toList) (hs : (minV vs).1) :
    ∃ r, RelV w G (minV vs).2 r ∧ ∀ w', (Builtin.min_ ts ty us).run P w' = .ok r w' := by
  unfold minV at *
  split at hs
  · rename_i k x ys h
    obtain ⟨ks, e, hl⟩ := intsOf_rel h hx
    exact ⟨_, (relC_flat rfl).2 rfl, fun w' => by simp only [Builtin.min_, e]; exact run_min_fold w' k ks ys x hl⟩
  · exact hs.elim
theorem maxV_sound {P : Program} {vs : List V} {us : Array Value} {w : World} {G : Ctx} {ts : Array TypeId} {ty : TypeId} (hx : RelVs w G vs us.toList) (hs : (maxV vs).1) :
    ∃ r, RelV w G (maxV vs).2 r ∧ ∀ w', (Builtin.max_ ts ty us).run P w' = .ok r w' := by
  unfold maxV at *
  split at hs
  · rename_i k x ys h
    obtain ⟨ks, e, hl⟩ := intsOf_rel h hx
    exact ⟨_, (relC_flat rfl).2 rfl, fun w' => by simp only [Builtin.max_, e]; exact run_max_fold w' k ks ys x hl⟩
  · exact hs.elim

end Go.PL
