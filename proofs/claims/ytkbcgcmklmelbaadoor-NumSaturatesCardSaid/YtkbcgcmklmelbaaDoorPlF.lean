/- The pure logic, part F: the value of whatever operation only reads. -/
import Derived.Test.YtkbcgcmklmelbaaDoorPlE
namespace Go.PL
open Go Go.RowKit

def bnd (p : Prop × V) (f : V → Prop × V) : Prop × V := (p.1 ∧ (f p.2).1, (f p.2).2)

def St.args (st : St) (g : Bool) : List Operand → Prop × List V
  | [] => (True, [])
  | x :: xs => ((st.arg g x).1 ∧ (st.args g xs).1, (st.arg g x).2 :: (st.args g xs).2)

def stripB : V → Option (Bool × Bool)
  | .c (.bool q) => some (true, q)
  | .g c (.c (.bool q)) => some (c, q)
  | _ => none

def pickV (p : Bool) (a b : V) : Prop × V :=
  match stripB a, stripB b with
  | some (ca, q), some (cb, r) => ((p = true → ca = true) ∧ (p = false → cb = true), .c (.bool (if p then q else r)))
  | _, _ => no

def nilV : V → Prop × V
  | .c (.ptr id off) => (True, .c (.ptr id off))
  | .c (.iptr cs off) => (True, .c (.iptr cs off))
  | .c (.fn f) => (True, .c (.fn f))
  | _ => no

def extV (i : Nat) : V → Prop × V
  | .tup vs => (i < vs.length, vs.getD i .undef)
  | _ => no

def optArg (st : St) (g : Bool) : Option Operand → Prop × Option V
  | none => (True, none)
  | some x => ((st.arg g x).1, some (st.arg g x).2)

def rdCall (P : Program) (st : St) (g : Bool) (b : Builtin) (xs : List Operand) (ts : List TypeId) : Prop × V :=
  match b, xs, ts with
  | .len, [x], [t] => bnd (st.arg g x) (lenV P t st)
  | .min, xs, _ => ((st.args g xs).1 ∧ (minV (st.args g xs).2).1, (minV (st.args g xs).2).2)
  | .max, xs, _ => ((st.args g xs).1 ∧ (maxV (st.args g xs).2).1, (maxV (st.args g xs).2).2)
  | _, _, _ => no

def rd (P : Program) (st : St) (g : Bool) : Op → Prop × V
  | .move x => st.arg g x
  | .assign x => st.arg g x
  | .pick c a b => bnd (st.arg g c) fun p => match p with
    | .c (.bool q) => pickV q (st.ev a) (st.ev b)
    | _ => no
  | .load t x => bnd (st.arg g x) (loadV P t st)
  | .nilCheck x => bnd (st.arg g x) nilV
  | .binOp op t x y _ => bnd (st.arg g x) fun u => bnd (st.arg g y) fun v => binV P op t (isConstO x || isConstO y) u v
  | .unOp op _ x => bnd (st.arg g x) (unV op)
  | .convert src dst x => bnd (st.arg g x) (convV P src dst st)
  | .slice t x lo hi none => bnd (st.arg g x) fun u => ((optArg st g lo).1 ∧ (optArg st g hi).1 ∧ (sliceV P t u (optArg st g lo).2 (optArg st g hi).2).1, (sliceV P t u (optArg st g lo).2 (optArg st g hi).2).2)
  | .fieldAddr s x f => bnd (st.arg g x) (fieldAddrV P s f)
  | .field t x f => bnd (st.arg g x) (fieldV P t f)
  | .indexAddr t x i => bnd (st.arg g x) fun u => bnd (st.arg g i) fun v => indexAddrV P t st u v
  | .index t x i => bnd (st.arg g x) fun u => bnd (st.arg g i) fun v => indexV P t u v
  | .extract x i => bnd (st.arg g x) (extV i)
  | .call c => match c.callee with
    | .builtin b => rdCall P st g b c.args.toList c.argTypes.toList
    | _ => no
  | _ => no

theorem stripB_rel {w : World} {G : Ctx} {x : V} {v : Value} {c q : Bool} (h : stripB x = some (c, q)) (hr : RelV w G x v) (hc : c = true) : v = .bool q := by
  unfold stripB at h
  split at h
  · simp only [Option.some.injEq, Prod.mk.injEq] at h; obtain ⟨rfl, rfl⟩ := h; simpa [RelV, RelC] using hr
  · simp only [Option.some.injEq, Prod.mk.injEq] at h; obtain ⟨rfl, rfl⟩ := h
    simp only [RelV] at hr; rw [if_pos hc] at hr; simpa [RelC] using hr
  · cases h

theorem R.args {F : Fr} {st : St} {a : Act} {w : World} {G : Ctx} (h : R F st a w G) {g : Bool} (hg : g = true) : ∀ {xs : List Operand}, (st.args g xs).1 → RelVs w G (st.args g xs).2 (xs.map a.eval)
  | [], _ => by simp [St.args, RelVs]
  | x :: xs, hs => by
    simp only [St.args] at hs ⊢
    simp only [RelVs, List.map_cons]
    exact ⟨_, _, rfl, h.arg hg hs.1, h.args hg hs.2⟩

theorem relVs_get {w : World} {G : Ctx} : ∀ {xs : List V} {vs : List Value}, RelVs w G xs vs → ∀ i, i < xs.length → ∃ v, vs[i]? = some v ∧ RelV w G (xs.getD i .undef) v
  | [], vs, h, i, hi => by simp at hi
  | x :: xs, vs, h, i, hi => by
    simp only [RelVs] at h
    obtain ⟨v, r, rfl, h1, h2⟩ := h
    cases i with
    | zero => exact ⟨v, by simp, by simpa using h1⟩
    | succ i =>
      obtain ⟨v', q1, q2⟩ := relVs_get h2 i (by simpa using hi)
      exact ⟨v', by simpa using q1, by simpa using q2⟩

theorem optArg_rel {F : Fr} {st : St} {a : Act} {w : World} {G : Ctx} (h : R F st a w G) {g : Bool} (hg : g = true) {x : Option Operand} (hs : (optArg st g x).1) : OptRel w G (optArg st g x).2 (x.map a.eval) := by
  cases x with
  | none => simp [optArg, OptRel]
  | some x => simp only [optArg, Option.map, OptRel] at hs ⊢; exact h.arg hg hs

theorem rd_sound {P : Program} {F : Fr} {st : St} {a : Act} {w : World} {G : Ctx} (h : R F st a w G) {g : Bool} (hg : g = true) {o : Oper} (hs : (rd P st g o.op).1) :
    ∃ v, RelV w G (rd P st g o.op).2 v ∧ ∀ w', Same w w' → (execOp a.eval o).run P w' = .ok (.value v) w' := by
  cases ho : o.op <;> simp only [rd, ho, bnd] at hs ⊢ <;> try (exact hs.elim)
  case move x => exact ⟨_, h.arg hg hs, fun w' _ => by simp [execOp, ho]⟩
  case assign x => exact ⟨_, h.arg hg hs, fun w' _ => by simp [execOp, ho]⟩
  case pick c x y =>
    obtain ⟨h1, h2⟩ := hs
    have hc := h.arg hg h1
    split at h2
    · rename_i q hq
      rw [hq] at hc
      simp only [RelV, RelC] at hc
      unfold pickV at h2 ⊢
      split at h2
      · rename_i ca qa cb qb e1 e2
        cases q with
        | true =>
          have := stripB_rel e1 (h.ev x) (h2.1 rfl)
          exact ⟨.bool qa, by simp [RelV, RelC], fun w' _ => by simp [execOp, ho, hc, asBool, this]⟩
        | false =>
          have := stripB_rel e2 (h.ev y) (h2.2 rfl)
          exact ⟨.bool qb, by simp [RelV, RelC], fun w' _ => by simp [execOp, ho, hc, asBool, this]⟩
      · exact h2.elim
    · exact h2.elim
  case load t x =>
    obtain ⟨v, q1, q2⟩ := loadV_sound (P := P) h (h.arg hg hs.1) hs.2
    exact ⟨v, q1, fun w' hw' => by simp [execOp, ho, q2 w' hw']⟩
  case nilCheck x =>
    obtain ⟨h1, h2⟩ := hs
    have hx := h.arg hg h1
    unfold nilV at h2 ⊢
    split at h2
    · rename_i id off e
      rw [e] at hx
      simp only [RelV, RelC] at hx ⊢
      obtain ⟨b, hb, hv⟩ := hx
      exact ⟨_, ⟨b, hb, rfl⟩, fun w' _ => by simp [execOp, ho, hv]⟩
    · rename_i cs off e
      rw [e] at hx
      simp only [RelV, RelC] at hx ⊢
      obtain ⟨b, o', hv, k1⟩ := hx
      exact ⟨_, ⟨b, o', rfl, k1⟩, fun w' _ => by simp [execOp, ho, hv]⟩
    · rename_i f e
      rw [e] at hx
      simp only [RelV, RelC] at hx ⊢
      exact ⟨_, rfl, fun w' _ => by simp [execOp, ho, hx]⟩
    · exact h2.elim
  case binOp op t x y t' =>
    obtain ⟨v, q1, q2⟩ := binV_sound (P := P) (ox := x) (oy := y) (h.arg hg hs.1) (h.arg hg hs.2.1) hs.2.2
    refine ⟨v, q1, fun w' hw' => ?_⟩
    have := q2 w'
    simp only [execOp, ho, Sem.run_bind] at this ⊢
    rw [this]; rfl
  case unOp op t x =>
    obtain ⟨v, q1, q2⟩ := unV_sound (P := P) (h.arg hg hs.1) hs.2
    exact ⟨v, q1, fun w' hw' => by simp [execOp, ho, q2 w']⟩
  case convert src dst x =>
    obtain ⟨v, q1, q2⟩ := convV_sound (P := P) h (h.arg hg hs.1) hs.2
    exact ⟨v, q1, fun w' hw' => by simp [execOp, ho, q2 w' hw']⟩
  case slice t x lo hi mx =>
    cases mx with
    | some _ => exact hs.elim
    | none =>
      simp only [bnd] at hs ⊢
      obtain ⟨v, q1, q2⟩ := sliceV_sound (P := P) (h.arg hg hs.1) (optArg_rel h hg hs.2.1) (optArg_rel h hg hs.2.2.1) hs.2.2.2
      exact ⟨v, q1, fun w' hw' => by simp [execOp, ho, q2 w']⟩
  case fieldAddr s x f =>
    obtain ⟨v, q1, q2⟩ := fieldAddrV_sound (P := P) (h.arg hg hs.1) hs.2
    exact ⟨v, q1, fun w' hw' => by simp [execOp, ho, q2 w']⟩
  case field s x f =>
    obtain ⟨v, q1, q2⟩ := fieldV_sound (P := P) (h.arg hg hs.1) hs.2
    exact ⟨v, q1, fun w' hw' => by simp [execOp, ho, q2 w']⟩
  case indexAddr t x i =>
    obtain ⟨v, q1, q2⟩ := indexAddrV_sound (P := P) h (h.arg hg hs.1) (h.arg hg hs.2.1) hs.2.2
    exact ⟨v, q1, fun w' hw' => by simp [execOp, ho, q2 w']⟩
  case index t x i =>
    obtain ⟨v, q1, q2⟩ := indexV_sound (P := P) (h.arg hg hs.1) (h.arg hg hs.2.1) hs.2.2
    exact ⟨v, q1, fun w' hw' => by simp [execOp, ho, q2 w']⟩
  case extract x i =>
    obtain ⟨h1, h2⟩ := hs
    have hx := h.arg hg h1
    unfold extV at h2 ⊢
    split at h2
    · rename_i vs e
      rw [e] at hx
      simp only [RelV] at hx
      obtain ⟨arr, hv, hr⟩ := hx
      obtain ⟨v, q1, q2⟩ := relVs_get hr i h2
      have q1' : arr[i]? = some v := by simpa using q1
      exact ⟨v, q2, fun w' _ => by simp [execOp, ho, hv, Instr.extract, q1']⟩
    · exact h2.elim
  case call c =>
    split at hs
    · rename_i b hcal
      unfold rdCall at hs ⊢
      split at hs
      · rename_i x t hxs hts
        have ea : c.args = #[x] := by apply Array.ext'; simpa using hxs
        have et : c.argTypes = #[t] := by apply Array.ext'; simpa using hts
        obtain ⟨v, q1, q2⟩ := lenV_sound (P := P) (ty := o.type) h (h.arg hg hs.1) hs.2
        refine ⟨v, q1, fun w' _ => ?_⟩
        simp [execOp, ho, resolve, hcal, ea, et, invoke, builtin, q2 w']
      · rename_i xs ts hxs
        obtain ⟨v, q1, q2⟩ := minV_sound (P := P) (ts := c.argTypes) (ty := o.type) (us := c.args.map a.eval) (by simpa using h.args hg hs.1) hs.2
        exact ⟨v, q1, fun w' _ => by simp [execOp, ho, resolve, hcal, invoke, builtin, q2 w']⟩
      · obtain ⟨v, q1, q2⟩ := maxV_sound (P := P) (ts := c.argTypes) (ty := o.type) (us := c.args.map a.eval) (by simpa using h.args hg hs.1) hs.2
        exact ⟨v, q1, fun w' _ => by simp [execOp, ho, resolve, hcal, invoke, builtin, q2 w']⟩
      · exact hs.elim
    · exact hs.elim

end Go.PL
