/- The pure logic, part O: a contract out of a body. -/
import Derived.Test.YtkbcgcmklmelbaaDoorPlN
namespace Go.PL
open Go Go.RowKit

def resV (P : Program) (st : St) : ResultVar → Prop × V
  | .tmp t => (True, snapV st (st.get t))
  | .cell t T => let r := loadV P T st (st.get t)
    (r.1, snapV st r.2)
def resVs (P : Program) (st : St) : List ResultVar → Prop × List V
  | [] => (True, [])
  | x :: xs => ((resV P st x).1 ∧ (resVs P st xs).1, (resV P st x).2 :: (resVs P st xs).2)
/-- What a function hands back. -/
def outV (P : Program) (st : St) : List ResultVar → Prop × V
  | [x] => resV P st x
  | xs => ((resVs P st xs).1, .tup (resVs P st xs).2)

def bodyQ (P : Program) (fn : Func) (Q : V → Prop) : Exit → St → Prop
  | .normal, st => (outV P st fn.results.toList).1 ∧ (outV P st fn.results.toList).2.pure = true ∧ Q (outV P st fn.results.toList).2
  | .ret, st => (outV P st fn.results.toList).1 ∧ (outV P st fn.results.toList).2.pure = true ∧ Q (outV P st fn.results.toList).2
  | _, _ => False

def St.start (args : List V) (n : Nat) : St := { tm := args ++ List.replicate (n - args.length) .undef, so := [] }

theorem relVs_length {w : World} {G : Ctx} : ∀ {xs : List V} {vs : List Value}, RelVs w G xs vs → xs.length = vs.length
  | [], vs, h => by simp only [RelVs] at h; subst h; rfl
  | x :: xs, vs, h => by
    simp only [RelVs] at h
    obtain ⟨v, r, rfl, _, h2⟩ := h
    simp [relVs_length h2]

/-- An invariant that hangs on what was there alone. -/
def Stable (I : World → Prop) : Prop := ∀ w w' : World, I w → w.heap.size ≤ w'.heap.size → (∀ b, b < w.heap.size → w'.heap[b]? = w.heap[b]?) → I w'

theorem R.start {I : World → Prop} (hst : Stable I) {w : World} (hI : I w) {vs : Array Value} {av : Nat → Prop} (hav : ∀ b, av b → b < w.heap.size) {args : List V} (h : RelVs w (im av) args vs.toList) (n : Nat) :
    R ⟨w, av, fun _ => False, I⟩ (St.start args n) { tmps := vs ++ Array.replicate (n - vs.size) Go.undef, defers := [] } w (im av) := by
  have hl := relVs_length h
  have hl' : args.length = vs.size := by simpa using hl
  exact {
    dfr := rfl
    size := by simp [St.start, hl']
    slots := by
      intro i
      simp only [St.start, List.getD_eq_getElem?_getD, Array.getD_eq_getD_getElem?]
      by_cases hi : i < args.length
      · obtain ⟨v, q1, q2⟩ := relVs_get h i hi
        have e1 : (vs ++ Array.replicate (n - vs.size) Go.undef)[i]? = some v := by
          rw [Array.getElem?_append_left (by omega)]; simpa using q1
        rw [e1, List.getElem?_append_left hi]
        simpa [List.getD_eq_getElem?_getD] using q2
      · rw [List.getElem?_append_right (by omega), List.getElem?_replicate]
        split <;> simp [RelV]
    store := by simp [St.start]
    nodup := by simp [St.start]
    inj := by simp [im]
    lt := by simp [im]
    new := by simp [im]
    wr := by simp [im]
    avlt := hav
    inv := fun w' h1 h2 => hst w w' hI h1 (fun b hb => h2 b hb (by simp))
    avold := by simp
    os := rfl, tape := rfl, output := rfl, hsize := Nat.le_refl _, ext := fun _ _ _ => rfl }

section
variable {P : Program} {F : Fr} {st : St} {a : Act} {w : World} {G : Ctx}

theorem R.out (h : R F st a w G) (hold : ∀ b, ¬ F.old b) {x : V} {v : Value} (hp : (snapV st x).pure = true) (hr : RelV w G x v) : RelV w (im F.av) (snapV st x) v := by
  refine relV_snap h (fun b _ hb => (h.wr b).2 (.inl hb)) (fun id _ _ b hb hav => ?_) hp hr
  rcases h.new id b hb with q | q
  · have := h.avlt b hav; omega
  · exact hold b q

theorem loadV_ptr {t : TypeId} {x : V} {u : Value} (hx : RelV w G x u) (hs : (loadV P t st x).1) : ∃ p, u = .pointer (some p) := by
  unfold loadV at hs
  split at hs
  · simp only [RelV, RelC] at hx
    obtain ⟨b, _, rfl⟩ := hx
    exact ⟨_, rfl⟩
  · simp only [RelV, RelC] at hx
    obtain ⟨b, o, rfl, _⟩ := hx
    exact ⟨_, rfl⟩
  · exact hs.elim

def resRun (tmps : Array Value) : ResultVar → Sem Value
  | .tmp t => pure (tmps.getD t Go.undef)
  | .cell a t => do loadVar t (← asAddr (tmps.getD a Go.undef))

theorem resV_sound (h : R F st a w G) (hold : ∀ b, ¬ F.old b) {x : ResultVar} (hs : (resV P st x).1) (hp : (resV P st x).2.pure = true) :
    ∃ v, (resRun a.tmps x).run P w = .ok v w ∧ RelV w (im F.av) (resV P st x).2 v := by
  cases x with
  | tmp t => exact ⟨_, rfl, h.out hold hp (h.slots t)⟩
  | cell t T =>
    simp only [resV] at hs hp ⊢
    obtain ⟨v, q1, q2⟩ := loadV_sound (P := P) h (h.slots t) hs
    obtain ⟨p, hptr⟩ := loadV_ptr (h.slots t) hs
    refine ⟨v, ?_, h.out hold hp q1⟩
    have := q2 w (Same.refl w)
    rw [hptr] at this
    simp only [resRun, hptr, asAddr, Sem.run_bind, Sem.run_pure, Result.andThen_ok]
    simpa [Instr.loadAt, Instr.sureAddr] using this

theorem resVs_sound (h : R F st a w G) (hold : ∀ b, ¬ F.old b) : ∀ {xs : List ResultVar}, (resVs P st xs).1 → pureVs (resVs P st xs).2 = true →
    ∃ vs, (xs.mapM (resRun a.tmps)).run P w = .ok vs w ∧ RelVs w (im F.av) (resVs P st xs).2 vs
  | [], _, _ => ⟨[], by simp, by simp [resVs, RelVs]⟩
  | x :: xs, hs, hp => by
    simp only [resVs] at hs hp ⊢
    simp only [pureVs, Bool.and_eq_true] at hp
    obtain ⟨v, q1, q2⟩ := resV_sound h hold hs.1 hp.1
    obtain ⟨vs, k1, k2⟩ := resVs_sound h hold hs.2 hp.2
    exact ⟨v :: vs, by simp [List.mapM_cons, q1, k1], by simp only [RelVs]; exact ⟨v, vs, rfl, q2, k2⟩⟩

theorem results_run {fn : Func} {tmps : Array Value} {vs : List Value} (h : (fn.results.toList.mapM (resRun tmps)).run P w = .ok vs w) :
    (results fn tmps).run P w = .ok (match vs with | [v] => v | vs => .tuple vs.toArray) w := by
  have e : fn.results.mapM (resRun tmps) = List.toArray <$> fn.results.toList.mapM (resRun tmps) := by
    obtain ⟨l, hl⟩ : ∃ l : List ResultVar, fn.results = l.toArray := ⟨fn.results.toList, by simp⟩
    rw [hl, List.mapM_toArray]
  have e2 : results fn tmps = (do
      let vs ← fn.results.mapM (resRun tmps)
      pure (if h : vs.size = 1 then vs[0] else .tuple vs)) := by
    unfold results
    congr 1
    all_goals (try (congr 1; funext x; cases x <;> rfl))
  rw [e2, e]
  simp only [Sem.run_bind, Sem.run_map, h, Result.andThen_ok]
  match vs with
  | [] => simp
  | [v] => simp
  | v :: u :: vs => simp

theorem outV_sound (h : R F st a w G) (hold : ∀ b, ¬ F.old b) {fn : Func} (hs : (outV P st fn.results.toList).1) (hp : (outV P st fn.results.toList).2.pure = true) :
    ∃ v, (results fn a.tmps).run P w = .ok v w ∧ RelV w (im F.av) (outV P st fn.results.toList).2 v := by
  unfold outV at *
  split at hs
  · rename_i x hx
    simp only [hx] at hp ⊢
    obtain ⟨v, q1, q2⟩ := resV_sound h hold hs hp
    exact ⟨v, by have := results_run (P := P) (w := w) (fn := fn) (tmps := a.tmps) (vs := [v]) (by rw [hx]; simp [q1]); simpa using this, q2⟩
  · rename_i xs hne
    split at hp
    · rename_i x hx; exact absurd hx (hne x)
    · obtain ⟨vs, q1, q2⟩ := resVs_sound h hold hs (by simpa only [V.pure] using hp)
      refine ⟨.tuple vs.toArray, ?_, ?_⟩
      · have := results_run (P := P) (w := w) (fn := fn) (tmps := a.tmps) q1
        rw [this]
        have hl := relVs_length q2
        match hvs : vs with
        | [] => rfl
        | [v] =>
          exfalso
          have hxl : ∀ xs : List ResultVar, (resVs P st xs).2.length = xs.length := by
            intro xs; induction xs with
            | nil => rfl
            | cons x xs ih => simp [resVs, ih]
          rw [hxl] at hl
          match hr : fn.results.toList, hl with
          | [x], _ => exact hne x hr
        | v :: u :: vs => rfl
      · simp only [RelV]; exact ⟨_, rfl, by simpa using q2⟩

theorem R.below (h : R F st a w G) (hold : ∀ b, ¬ F.old b) : Below F.w0.heap.size F.w0 w := ⟨h.os, h.tape, h.output, h.hsize, fun b hb => h.ext b hb (hold b)⟩

end

/-- THE CONTRACT, out of the body. -/
theorem PCall.of {P : Program} {I : World → Prop} (hst : Stable I) {f : FuncId} {fn : Func} {c : Code} {args : List V} {Q : V → Prop} (hent : PL.ent P f = true) (hf : P.funcs[f]? = some fn) (hb : fn.body = some c)
    (h : ∀ F, F.I = I → Holds P F c (St.start args fn.ntmps) (bodyQ P fn Q)) : PCall P I f args Q := by
  refine ⟨hent, fun w vs av hI hav hargs => calls_of_wp hf hb ?_⟩
  have hR := R.start hst hI hav hargs fn.ntmps
  refine Code.wp_mono (fun e a' w' ⟨st', G', q, hR'⟩ => ?_) (h _ rfl _ _ _ hR)
  have fin : (outV P st' fn.results.toList).1 ∧ (outV P st' fn.results.toList).2.pure = true ∧ Q (outV P st' fn.results.toList).2 →
      a'.defers = [] ∧ ∃ v, (results fn a'.tmps).run P w' = .ok v w' ∧ (fun (e : Ending) w'' => ∃ v r, e = .returned v ∧ Q r ∧ r.pure = true ∧ RelV w'' (im av) r v ∧ Below w.heap.size w w'') (.returned v) w' := by
    intro ⟨q1, q2, q3⟩
    obtain ⟨v, k1, k2⟩ := outV_sound hR' (fun _ hx => hx) (fn := fn) q1 q2
    exact ⟨hR'.dfr, v, k1, v, _, rfl, q3, q2, k2, hR'.below (fun _ hx => hx)⟩
  cases e <;> simp only [bodyQ] at q <;> first | exact fin q | exact q.elim

end Go.PL
