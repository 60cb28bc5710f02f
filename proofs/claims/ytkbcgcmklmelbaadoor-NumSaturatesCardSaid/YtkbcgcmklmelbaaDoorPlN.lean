/- The pure logic, part N: regions that draw their order, code, loops, bodies. -/
import Derived.Test.YtkbcgcmklmelbaaDoorPlM
namespace Go.PL
open Go Go.RowKit

section
variable {P : Program} {F : Fr} {st : St} {a : Act} {w : World} {G : Ctx} {ops : Array Oper}

/-- The worlds that other operations of a drawn region may leave. -/
def Still (w : World) (w' : World) : Prop := Outer w w' ∧ Same w w'

theorem Still.below {w w' w'' : World} (h : Still w w') (hb : Below w'.heap.size w' w'') : Still w w'' :=
  ⟨⟨hb.os.trans h.1.os, hb.tape.trans h.1.tape, hb.output.trans h.1.output⟩, h.2.trans (same_below hb)⟩

theorem quiet_of_value {o : Oper} {v : Value} {K : Act → Prop} (hr : ∀ w', Same w w' → (execOp a.eval o).run P w' = .ok (.value v) w') (h : K (a.put o.dst v)) : o.quiet P a (Still w) K :=
  ⟨v, fun w' hw' => by unfold Oper.quietAt; rw [hr w' hw'.2]; exact ⟨rfl, rfl⟩, h⟩

theorem wq1_sound (h : R F st a w G) {o : Oper} {K : St → Prop} {K' : Act → Prop} (hK : ∀ st' a', K st' → R F st' a' w G → K' a') (hs : wq1 P F.I o st K) : o.quiet P a (Still w) K' := by
  unfold wq1 at hs
  split at hs
  · obtain ⟨v, q1, q2⟩ := rdx_sound h rfl hs.1
    exact quiet_of_value q2 (hK _ _ hs.2 (h.put q1))
  · obtain ⟨v, q1, q2⟩ := rdx_sound h rfl hs.1
    exact quiet_of_value q2 (hK _ _ hs.2 (h.put q1))
  · rename_i f xs hk
    obtain ⟨h1, h2, r, hr, hc, hq⟩ := hs
    refine ⟨vval r, fun w' hw' => ?_, hK _ _ hq (h.put ((relV_flat hr).2 rfl))⟩
    unfold Oper.quietAt
    rw [callRun hk hc.ent w']
    exact ⟨rfl, (flatCall h rfl h1 h2 hr hc hw'.1 hw'.2).mono fun e w'' ⟨he, hb⟩ => ⟨he, hw'.below hb⟩⟩
  · exact hs.elim

theorem wqG_sound (h : R F st a w G) {o : Oper} {g : Bool} {K : St → Prop} {K' : Act → Prop} (hK : ∀ st' a', K st' → R F st' a' w G → K' a') (hs : wqG P F.I o st g K) :
    if g = true then o.quiet P a (Still w) K' else K' (a.put o.dst Go.undef) := by
  unfold wqG at hs
  have rdCase : (g = true → (rdx P st g o.op).1) ∧ K (st.put o.dst (.g g (rdx P st g o.op).2)) → if g = true then o.quiet P a (Still w) K' else K' (a.put o.dst Go.undef) := by
    intro hs
    split
    · rename_i hg
      obtain ⟨v, q1, q2⟩ := rdx_sound h hg (hs.1 hg)
      exact quiet_of_value q2 (hK _ _ hs.2 (put_g h hg q1))
    · rename_i hg
      exact hK _ _ hs.2 (put_g0 h (by simpa using hg))
  split at hs
  · exact rdCase hs
  · exact rdCase hs
  · rename_i f xs hk
    obtain ⟨h1, r, hr, hc, hq⟩ := hs
    split
    · rename_i hg
      refine ⟨vval r, fun w' hw' => ?_, hK _ _ hq (put_g h hg ((relV_flat hr).2 rfl))⟩
      unfold Oper.quietAt
      rw [callRun hk (hc hg).ent w']
      exact ⟨rfl, (flatCall h hg (h1 hg).1 (h1 hg).2 hr (hc hg) hw'.1 hw'.2).mono fun e w'' ⟨he, hb⟩ => ⟨he, hw'.below hb⟩⟩
    · rename_i hg
      exact hK _ _ hq (put_g0 h (by simpa using hg))
  · exact hs.elim

theorem wqOps_sound {Q' : Act → Prop} {K : St → Prop} (hQ : ∀ st' a', K st' → R F st' a' w G → Q' a') :
    ∀ (l : List Oper) (st : St) (a : Act), R F st a w G → wqOps P F.I ops l st K → wpQuiet P ops (Still w) Q' l a
  | [], st, a, h, hs => hQ st a hs h
  | o :: rest, st, a, h, hs => by
    have hnext : ∀ st' a', wqOps P F.I ops rest st' K → R F st' a' w G → wpQuiet P ops (Still w) Q' rest a' := fun st' a' q hR => wqOps_sound hQ rest st' a' hR q
    simp only [wqOps, wqO] at hs
    simp only [wpQuiet]
    split at hs
    · rename_i hg
      rw [wanted_none hg, if_pos rfl]
      exact wq1_sound h hnext hs
    · rename_i j want hg
      split at hs
      · rename_i g hq
        rw [guardOf_wanted h hg hq]
        exact wqG_sound h hnext hs
      · exact hs.elim

/-! ### Code -/

/-- From the state 'st' the code does what Q asks. -/
def Holds (P : Program) (F : Fr) (c : Code) (st : St) (Q : Exit → St → Prop) : Prop :=
  ∀ a w G, R F st a w G → c.wp P (fun e a' w' => ∃ st' G', Q e st' ∧ R F st' a' w' G') a w

def thenQ (K : St → Prop) (Q : Exit → St → Prop) : Exit → St → Prop
  | .normal, st => K st
  | e, st => Q e st
def blockQ (id : Nat) (Q : Exit → St → Prop) : Exit → St → Prop
  | .exit j, st => if j = id then Q .normal st else Q (.exit j) st
  | e, st => Q e st

theorem Holds.seq {x y : Code} {Q : Exit → St → Prop} (h : Holds P F x st (thenQ (fun st' => Holds P F y st' Q) Q)) : Holds P F (.seq x y) st Q :=
  fun a w G hR => wp_seq (Code.wp_mono (fun e a' w' ⟨st', G', q, hR'⟩ => by
    cases e <;> simp only [Exit.then, thenQ] at q ⊢ <;> first | exact q a' w' G' hR' | exact ⟨st', G', q, hR'⟩) (h a w G hR))

theorem Holds.skip {Q : Exit → St → Prop} (h : Q .normal st) : Holds P F .skip st Q := fun _ _ G hR => wp_skip ⟨st, G, h, hR⟩
theorem Holds.ret {Q : Exit → St → Prop} (h : Q .ret st) : Holds P F .ret st Q := fun _ _ G hR => wp_ret ⟨st, G, h, hR⟩
theorem Holds.exit {id : Nat} {Q : Exit → St → Prop} (h : Q (.exit id) st) : Holds P F (.exit id) st Q := fun _ _ G hR => wp_exit ⟨st, G, h, hR⟩
theorem Holds.block {id : Nat} {c : Code} {Q : Exit → St → Prop} (h : Holds P F c st (blockQ id Q)) : Holds P F (.block id c) st Q :=
  fun a w G hR => wp_block (Code.wp_mono (fun e a' w' ⟨st', G', q, hR'⟩ => by
    cases e <;> simp only [Exit.inBlock, blockQ] at q ⊢ <;> first
      | exact ⟨st', G', q, hR'⟩
      | (split <;> rename_i hj <;> simp only [hj, if_true, if_false] at q <;> exact ⟨st', G', q, hR'⟩)) (h a w G hR))

theorem Holds.cond {c : Operand} {x y : Code} {Q : Exit → St → Prop} {b : Bool} (hc : st.ev c = .c (.bool b)) (h1 : b = true → Holds P F x st Q) (h2 : b = false → Holds P F y st Q) : Holds P F (.cond c x y) st Q := by
  intro a w G hR
  have := hR.ev c
  rw [hc] at this
  simp only [RelV, RelC] at this
  refine wp_cond this ?_
  cases b with
  | true => exact h1 rfl a w G hR
  | false => exact h2 rfl a w G hR

theorem Holds.region {id : Nat} {ops : Array Oper} {Q : Exit → St → Prop} (h : wpOps P F.I ops ops.toList st (Q .normal)) : Holds P F (.region id ops false) st Q :=
  fun a w G hR => wp_region_list (wpOps_sound (K := Q .normal) (fun st' _ _ G' q hR' => ⟨st', G', q, hR'⟩) _ _ _ _ _ hR h)

theorem Holds.regionQ {id : Nat} {ops : Array Oper} {Q : Exit → St → Prop} (h1 : P.follows .mixedOrders = true) (h2 : Region.lexB .any ops = true) (h : wqOps P F.I ops ops.toList st (Q .normal)) : Holds P F (.region id ops true) st Q := by
  intro a w G hR
  refine wp_region_quiet (C := Still w) h1 h2 ⟨⟨rfl, rfl, rfl⟩, ⟨Nat.le_refl _, fun _ _ => rfl⟩⟩ ?_
  exact wqOps_sound (K := Q .normal) (fun st' a' q hR' w' hw' => ⟨st', G, q, hR'.same hw'.1 hw'.2⟩) _ _ _ hR h

theorem Holds.mono {c : Code} {Q Q' : Exit → St → Prop} (h : Holds P F c st Q) (hq : ∀ e st', Q e st' → Q' e st') : Holds P F c st Q' :=
  fun a w G hR => Code.wp_mono (fun _ _ _ ⟨st', G', q, hR'⟩ => ⟨st', G', hq _ _ q, hR'⟩) (h a w G hR)

/-- A state that tells less. -/
structure Less (st st' : St) : Prop where
  len : st'.tm.length = st.tm.length
  tm : ∀ i, st'.tm.getD i .undef = .undef ∨ st'.tm.getD i .undef = st.tm.getD i .undef
  so : st'.so.Sublist st.so

theorem Less.refl (st : St) : Less st st := ⟨rfl, fun _ => .inr rfl, List.Sublist.refl _⟩

theorem R.less {st' : St} (h : R F st a w G) (hl : Less st st') : R F st' a w G := {
    dfr := h.dfr
    size := by rw [hl.len]; exact h.size
    slots := fun i => by
      rcases hl.tm i with q | q
      · rw [q]; simp only [RelV]
      · rw [q]; exact h.slots i
    store := fun e he => h.store e (hl.so.subset he)
    nodup := List.Sublist.nodup (List.Sublist.map (fun d : Ent => d.id) hl.so) h.nodup
    inj := h.inj, lt := h.lt, new := h.new, wr := h.wr, avlt := h.avlt, inv := h.inv, avold := h.avold, os := h.os, tape := h.tape, output := h.output, hsize := h.hsize, ext := h.ext }

theorem Holds.less {c : Code} {st' : St} {Q : Exit → St → Prop} (hl : Less st st') (h : Holds P F c st' Q) : Holds P F c st Q :=
  fun a w G hR => h a w G (hR.less hl)

/-- A loop: a family of states, an invariant, a measure. -/
theorem Holds.loop {X : Type} (S : X → St) (inv : X → Prop) (μ : X → Nat) {c : Code} {Q : Exit → St → Prop} (x0 : X) (h0 : inv x0) (hl : Less st (S x0))
    (hb : ∀ x, inv x → Holds P F c (S x) (thenQ (fun st' => ∃ y, inv y ∧ μ y < μ x ∧ Less st' (S y)) Q)) : Holds P F (.loop c) st Q := by
  intro a w G hR
  refine wp_loop_ghost (fun n a' w' => ∃ x G', inv x ∧ μ x = n ∧ R F (S x) a' w' G') (μ x0) ⟨x0, G, h0, rfl, hR.less hl⟩ ?_
  intro n a' w' ⟨x, G', hx, hn, hR'⟩
  subst hn
  refine Code.wp_mono (fun e a'' w'' ⟨st', G'', q, hR''⟩ => ?_) (hb x hx a' w' G' hR')
  cases e <;> simp only [thenQ] at q
  case normal =>
    obtain ⟨y, hy, hm, hl'⟩ := q
    exact ⟨μ y, hm, y, G'', hy, rfl, hR''.less hl'⟩
  all_goals exact ⟨st', G'', q, hR''⟩

end
end Go.PL
