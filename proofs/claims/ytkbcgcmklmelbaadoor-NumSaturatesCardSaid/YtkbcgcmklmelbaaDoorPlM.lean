/- The pure logic, part M: regions and code. -/
import Derived.Test.YtkbcgcmklmelbaaDoorPlL
namespace Go.PL
open Go Go.RowKit

/-- What only reads, composites included. -/
def rdx (P : Program) (st : St) (g : Bool) (op : Op) : Prop × V :=
  match op with
  | .build t ps => buildV P st g t ps.toList
  | op => rd P st g op

theorem rdx_sound {P : Program} {F : Fr} {st : St} {a : Act} {w : World} {G : Ctx} (h : R F st a w G) {g : Bool} (hg : g = true) {o : Oper} (hs : (rdx P st g o.op).1) :
    ∃ v, RelV w G (rdx P st g o.op).2 v ∧ ∀ w', Same w w' → (execOp a.eval o).run P w' = .ok (.value v) w' := by
  unfold rdx at *
  split at hs
  · rename_i t ps ho
    obtain ⟨v, q1, q2⟩ := buildV_sound h hg hs
    exact ⟨v, q1, fun w' _ => by simp [execOp, ho, q2 w']⟩
  · exact rd_sound h hg hs

inductive Kind where
  | rd | ef | call (f : FuncId) (xs : List Operand) | cut (x : Operand) | no

def kindOf : Op → Kind
  | .alloc _ | .box _ _ | .buildSlice .. | .makeSlice .. | .store .. => .ef
  | .assign (.const (.slice none 0 0)) => .ef
  | .slice _ x _ _ _ => .cut x
  | .call c => match c.callee with
    | .builtin .append => .ef
    | .builtin _ => .rd
    | .value (.func f) => .call f c.args.toList
    | _ => .no
  | _ => .rd

/-- The owned slice, if that is what is cut, is frozen first. -/
def St.cutAt (st : St) (g : Bool) (x : Operand) : St :=
  match (st.arg g x).2 with
  | .c (.osl id) => st.freeze id
  | _ => st

def wp1 (P : Program) (I : World → Prop) (o : Oper) (st : St) (K : St → Prop) : Prop :=
  match kindOf o.op with
  | .rd => (rdx P st true o.op).1 ∧ K (st.put o.dst (rdx P st true o.op).2)
  | .ef => (ef P st o).1 ∧ K (ef P st o).2
  | .call f xs => (st.args true xs).1 ∧ pureVs ((st.args true xs).2.map (snapV st)) = true ∧
      ∃ Q, PCall P I f ((st.args true xs).2.map (snapV st)) Q ∧ ∀ r, Q r → (r.flat = true ∨ (topVs (st.args true xs).2).length ≤ 1 ∧ ∀ id ∈ topVs (st.args true xs).2, st.okFrz id = true) ∧ K (st.after (topVs (st.args true xs).2) o.dst r)
  | .cut x => (rdx P (st.cutAt true x) true o.op).1 ∧ K ((st.cutAt true x).put o.dst (rdx P (st.cutAt true x) true o.op).2)
  | .no => False

def guardOf (st : St) (ops : Array Oper) (j : Nat) (want : Bool) : Option Bool :=
  match ops[j]? with
  | some p => match p.dst with
    | some t => match st.get t with
      | .c (.bool b) => some (b == want)
      | .g c (.c (.bool b)) => some (c && (b == want))
      | _ => none
    | none => none
  | none => none

/-- Under a guard that is not known. -/
def wpG (P : Program) (I : World → Prop) (o : Oper) (st : St) (g : Bool) (K : St → Prop) : Prop :=
  match kindOf o.op with
  | .rd => (g = true → (rdx P st g o.op).1) ∧ K (st.put o.dst (.g g (rdx P st g o.op).2))
  | .call f xs => (g = true → (st.args g xs).1 ∧ pureVs ((st.args g xs).2.map (snapV st)) = true) ∧
      ∃ r, r.flat = true ∧ (g = true → PCall P I f ((st.args g xs).2.map (snapV st)) (· = r)) ∧ K (st.put o.dst (.g g r))
  | _ => (g = true → wp1 P I o st K) ∧ (g = false → K (st.put o.dst (.g false .undef)))

def wpO (P : Program) (I : World → Prop) (ops : Array Oper) (o : Oper) (st : St) (K : St → Prop) : Prop :=
  match o.guard with
  | none => wp1 P I o st K
  | some (j, want) => match guardOf st ops j want with
    | some g => wpG P I o st g K
    | none => False

def wpOps (P : Program) (I : World → Prop) (ops : Array Oper) : List Oper → St → (St → Prop) → Prop
  | [], st, K => K st
  | o :: rest, st, K => wpO P I ops o st (fun st' => wpOps P I ops rest st' K)

/-- In a region that draws its order. -/
def wq1 (P : Program) (I : World → Prop) (o : Oper) (st : St) (K : St → Prop) : Prop :=
  match kindOf o.op with
  | .rd => (rdx P st true o.op).1 ∧ K (st.put o.dst (rdx P st true o.op).2)
  | .cut _ => (rdx P st true o.op).1 ∧ K (st.put o.dst (rdx P st true o.op).2)
  | .call f xs => (st.args true xs).1 ∧ pureVs ((st.args true xs).2.map (snapV st)) = true ∧
      ∃ r, r.flat = true ∧ PCall P I f ((st.args true xs).2.map (snapV st)) (· = r) ∧ K (st.put o.dst r)
  | _ => False
def wqG (P : Program) (I : World → Prop) (o : Oper) (st : St) (g : Bool) (K : St → Prop) : Prop :=
  match kindOf o.op with
  | .rd => (g = true → (rdx P st g o.op).1) ∧ K (st.put o.dst (.g g (rdx P st g o.op).2))
  | .cut _ => (g = true → (rdx P st g o.op).1) ∧ K (st.put o.dst (.g g (rdx P st g o.op).2))
  | .call f xs => (g = true → (st.args g xs).1 ∧ pureVs ((st.args g xs).2.map (snapV st)) = true) ∧
      ∃ r, r.flat = true ∧ (g = true → PCall P I f ((st.args g xs).2.map (snapV st)) (· = r)) ∧ K (st.put o.dst (.g g r))
  | _ => False
def wqO (P : Program) (I : World → Prop) (ops : Array Oper) (o : Oper) (st : St) (K : St → Prop) : Prop :=
  match o.guard with
  | none => wq1 P I o st K
  | some (j, want) => match guardOf st ops j want with
    | some g => wqG P I o st g K
    | none => False
def wqOps (P : Program) (I : World → Prop) (ops : Array Oper) : List Oper → St → (St → Prop) → Prop
  | [], st, K => K st
  | o :: rest, st, K => wqO P I ops o st (fun st' => wqOps P I ops rest st' K)

section
variable {P : Program} {F : Fr} {st : St} {a : Act} {w : World} {G : Ctx} {ops : Array Oper}

theorem wanted_none {o : Oper} (h : o.guard = none) (y : Nat → Option Bool) : Region.wanted o y = true := by simp [Region.wanted, h]

theorem guardOf_wanted (h : R F st a w G) {o : Oper} {j : Nat} {want g : Bool} (hg : o.guard = some (j, want)) (hq : guardOf st ops j want = some g) : Region.wanted o (yielded ops a.tmps) = g := by
  unfold guardOf at hq
  split at hq
  · rename_i p hp
    split at hq
    · rename_i t ht
      have hs := h.slots t
      have hv : ∀ v : Value, v ≠ Go.undef → a.tmps.getD t Go.undef = v → a.tmps[t]? = some v := by
        intro v hne he
        rw [Array.getD_eq_getD_getElem?] at he
        cases hx : a.tmps[t]? with
        | none => rw [hx] at he; exact absurd he.symm hne
        | some x => rw [hx] at he; exact congrArg some he
      split at hq
      · rename_i b hb
        injection hq with hq; subst hq
        have : st.tm.getD t .undef = .c (.bool b) := hb
        rw [this] at hs
        simp only [RelV, RelC] at hs
        have := hv _ (by simp [Go.undef]) hs
        simp [Region.wanted, hg, yielded, hp, ht, this]
      · rename_i c b hb
        injection hq with hq; subst hq
        have : st.tm.getD t .undef = .g c (.c (.bool b)) := hb
        rw [this] at hs
        simp only [RelV, RelC] at hs
        cases c with
        | true =>
          rw [if_pos rfl] at hs
          have := hv _ (by simp [Go.undef]) hs
          simp [Region.wanted, hg, yielded, hp, ht, this]
        | false =>
          simp only [Bool.false_eq_true, if_false] at hs
          have hn : ∀ x, a.tmps[t]? = some (.bool x) → False := by
            intro x hx
            rw [Array.getD_eq_getD_getElem?, hx] at hs
            simp [Go.undef] at hs
          have : yielded ops a.tmps j = none := by
            unfold yielded
            simp only [hp, Option.bind_some, ht]
            first
              | done
              | (split
                 · rename_i b' hb'; exact (hn b' hb').elim
                 · rfl)
          simp [Region.wanted, hg, this]
      · cases hq
    · cases hq
  · cases hq

/-- What an operation that is carried out owes to what follows. -/
abbrev Nxt (F : Fr) (K : St → Prop) (a : Act) (w : World) : Prop := ∃ st' G', K st' ∧ R F st' a w G'

theorem R.cutAt (h : R F st a w G) (g : Bool) (x : Operand) : ∃ G', R F (st.cutAt g x) a w G' := by
  unfold St.cutAt
  split
  · obtain ⟨G', q, _⟩ := h.freeze _; exact ⟨G', q⟩
  · exact ⟨G, h⟩

theorem wp_of_value {o : Oper} {v : Value} {w' : World} {K : Act → World → Prop} {Q : Exit → Act → World → Prop} (hr : (execOp a.eval o).run P w = .ok (.value v) w') (h : K (a.put o.dst v) w') : o.wp P a w K Q := by
  unfold Oper.wp Oper.upon; rw [hr]; exact h

theorem wp1_sound (h : R F st a w G) {o : Oper} {K : St → Prop} {Q : Exit → Act → World → Prop} (hs : wp1 P F.I o st K) : o.wp P a w (Nxt F K) Q := by
  unfold wp1 at hs
  split at hs
  · obtain ⟨v, q1, q2⟩ := rdx_sound h rfl hs.1
    exact wp_of_value (q2 w (Same.refl w)) ⟨_, G, hs.2, h.put q1⟩
  · obtain ⟨nx, w', G', q1, q2⟩ := (ef_sound h hs.1).out
    unfold Oper.wp Oper.upon
    rw [q1]
    rcases q2 with ⟨v, rfl, q3⟩ | ⟨rfl, q3⟩
    · exact ⟨_, G', hs.2, q3⟩
    · exact ⟨_, G', hs.2, q3⟩
  · rename_i f xs hk
    obtain ⟨h1, h2, Q', hc, hq⟩ := hs
    have hr : (execOp a.eval o).run P w = .ok (.enter f (xs.map a.eval).toArray) w := by
      unfold kindOf at hk
      split at hk <;> try (cases hk; done)
      rename_i c ho
      split at hk <;> try (cases hk; done)
      rename_i f' hcal
      injection hk with hk1 hk2
      subst hk1 hk2
      simp [execOp, ho, resolve, hcal, Act.eval, Deferred.ofValue, invoke, run_callFunc' hc.ent]
      apply Array.ext'; simp
    unfold Oper.wp Oper.upon
    rw [hr]
    refine (h.called (us := (xs.map a.eval).toArray) hc h2 (by simpa using h.args rfl h1) o.dst (fun r q => (hq r q).1)).mono fun e w' ⟨v, r, G', he, q, hR⟩ => ?_
    subst he
    exact ⟨_, G', (hq r q).2, hR⟩
  · rename_i x hk
    obtain ⟨G', hR⟩ := h.cutAt true x
    obtain ⟨v, q1, q2⟩ := rdx_sound hR rfl hs.1
    exact wp_of_value (q2 w (Same.refl w)) ⟨_, G', hs.2, hR.put q1⟩
  · exact hs.elim

theorem put_g (h : R F st a w G) {d : Option Nat} {g : Bool} {x : V} {v : Value} (hg : g = true) (hx : RelV w G x v) : R F (st.put d (.g g x)) (a.put d v) w G :=
  h.put (by simp only [RelV]; rw [if_pos hg]; exact hx)
theorem put_g0 (h : R F st a w G) {d : Option Nat} {g : Bool} {x : V} (hg : g = false) : R F (st.put d (.g g x)) (a.put d Go.undef) w G :=
  h.put (by simp [RelV, hg])

theorem callRun {o : Oper} {f : FuncId} {xs : List Operand} (hk : kindOf o.op = .call f xs) (he : ent P f = true) (w : World) : (execOp a.eval o).run P w = .ok (.enter f (xs.map a.eval).toArray) w := by
  unfold kindOf at hk
  split at hk <;> try (cases hk; done)
  rename_i c ho
  split at hk <;> try (cases hk; done)
  rename_i f' hcal
  injection hk with hk1 hk2
  subst hk1 hk2
  simp [execOp, ho, resolve, hcal, Act.eval, Deferred.ofValue, invoke, run_callFunc' he]
  apply Array.ext'; simp

/-- A call that hands back a flat value, in whatever world in which nothing that was there has turned. -/
theorem flatCall (h : R F st a w G) {f : FuncId} {g : Bool} (hg : g = true) {xs : List Operand} (h1 : (st.args g xs).1) (h2 : pureVs ((st.args g xs).2.map (snapV st)) = true) {r : V} (hr : r.flat = true)
    (hc : PCall P F.I f ((st.args g xs).2.map (snapV st)) (· = r)) {w' : World} (ho : Outer w w') (hs : Same w w') :
    Calls P f (xs.map a.eval).toArray w' (fun e w'' => e = .returned (vval r) ∧ Below w'.heap.size w' w'') := by
  have hR := h.same ho hs
  have hav : ∀ b, b < w'.heap.size → (G.wr b ∧ ∀ id ∈ topVs (st.args g xs).2, G.blk id ≠ some b) → G.wr b := fun _ _ q => q.1
  have h3 := relVs_snap hR (av := fun b => G.wr b ∧ ∀ id ∈ topVs (st.args g xs).2, G.blk id ≠ some b) hav (fun id hi _ b hb hw => hw.2 id hi hb) h2 (by simpa using hR.args hg h1)
  refine (hc.run w' _ (fun b => G.wr b ∧ ∀ id ∈ topVs (st.args g xs).2, G.blk id ≠ some b) (hR.inv w' hR.hsize hR.ext) (fun b hb => hR.avlt' hb.1) (by simpa using h3)).mono fun e w'' ⟨v, r', he, hq, _, hv, hb⟩ => ?_
  subst hq
  rw [relV_flat hr] at hv
  exact ⟨by rw [he, hv], hb⟩

theorem wpG_sound (h : R F st a w G) {o : Oper} {g : Bool} {K : St → Prop} {Q : Exit → Act → World → Prop} (hs : wpG P F.I o st g K) :
    if g = true then o.wp P a w (Nxt F K) Q else Nxt F K (a.put o.dst Go.undef) w := by
  unfold wpG at hs
  split at hs
  · split
    · rename_i hg
      obtain ⟨v, q1, q2⟩ := rdx_sound h hg (hs.1 hg)
      exact wp_of_value (q2 w (Same.refl w)) ⟨_, G, hs.2, put_g h hg q1⟩
    · rename_i hg
      exact ⟨_, G, hs.2, put_g0 h (by simpa using hg)⟩
  · rename_i f xs hk
    obtain ⟨h1, r, hr, hc, hK⟩ := hs
    split
    · rename_i hg
      unfold Oper.wp Oper.upon
      rw [callRun hk (hc hg).ent w]
      refine (flatCall h hg (h1 hg).1 (h1 hg).2 hr (hc hg) ⟨rfl, rfl, rfl⟩ (Same.refl w)).mono fun e w' ⟨he, hb⟩ => ?_
      subst he
      exact ⟨_, G, hK, put_g (h.same (outer_below hb) (same_below hb)) hg ((relV_flat hr).2 rfl)⟩
    · rename_i hg
      exact ⟨_, G, hK, put_g0 h (by simpa using hg)⟩
  · split
    · rename_i hg; exact wp1_sound h (hs.1 hg)
    · rename_i hg; exact ⟨_, G, hs.2 (by simpa using hg), put_g0 h rfl⟩

theorem wpOps_sound {Q : Exit → Act → World → Prop} {K : St → Prop} (hQ : ∀ st' a' w' G', K st' → R F st' a' w' G' → Q .normal a' w') :
    ∀ (l : List Oper) (st : St) (a : Act) (w : World) (G : Ctx), R F st a w G → wpOps P F.I ops l st K → wpList P ops Q l a w
  | [], st, a, w, G, h, hs => hQ st a w G hs h
  | o :: rest, st, a, w, G, h, hs => by
    refine wpList_step fun K' hK' => ?_
    have hnext : ∀ a' w', Nxt F (fun st' => wpOps P F.I ops rest st' K) a' w' → K' a' w' := fun a' w' ⟨st', G', q, hR⟩ =>
      hK' a' w' (wpOps_sound hQ rest st' a' w' G' hR q)
    have hmono : ∀ {o : Oper}, o.wp P a w (Nxt F (fun st' => wpOps P F.I ops rest st' K)) Q → o.wp P a w K' Q := fun {o} hw => by
      unfold Oper.wp Oper.upon at *
      generalize (execOp a.eval o).run P w = r at *
      cases r with
      | ok n w' =>
        cases n <;> simp only at hw ⊢ <;> first
          | exact hnext _ _ hw
          | exact hw.mono fun e w'' he => by cases e <;> first | exact hnext _ _ he | exact he
          | exact Rows.mono hw fun v w'' he => hnext _ _ he
          | exact hw
      | halt x w' => cases x <;> exact hw
    simp only [wpOps, wpO] at hs
    split at hs
    · rename_i hg
      rw [wanted_none hg, if_pos rfl]
      exact hmono (wp1_sound h hs)
    · rename_i j want hg
      split at hs
      · rename_i g hq
        rw [guardOf_wanted h hg hq]
        have := wpG_sound (Q := Q) h hs
        split
        · rename_i hgt; rw [if_pos hgt] at this; exact hmono this
        · rename_i hgt; rw [if_neg hgt] at this; exact hnext _ _ this
      · exact hs.elim

end
end Go.PL
