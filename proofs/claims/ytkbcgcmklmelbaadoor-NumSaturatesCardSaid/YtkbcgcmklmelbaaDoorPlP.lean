/- The pure logic, part P: steps of a walk, one operation each. -/
import Derived.Test.YtkbcgcmklmelbaaDoorPlO
namespace Go.PL
open Go Go.RowKit

section
variable {P : Program} {I : World → Prop} {F : Fr} {ops : Array Oper} {rest : List Oper} {st st1 : St} {d : Option Nat} {op : Op} {ty : TypeId} {pos : String} {af : Array Edge}

theorem Holds.run {id : Nat} {Q : Exit → St → Prop} (h : wpOps P F.I ops ops.toList st (Q .normal)) : Holds P F (.region id ops false) st Q :=
  Holds.region h
theorem Holds.runQ {id : Nat} {Q : Exit → St → Prop} (h1 : P.follows .mixedOrders = true) (h2 : Region.lexB .any ops = true) (h : wqOps P F.I ops ops.toList st (Q .normal)) : Holds P F (.region id ops true) st Q :=
  Holds.regionQ h1 h2 h

variable {K : St → Prop}
theorem Run.nil (h : K st) : wpOps P I ops [] st K := h
theorem RunQ.nil (h : K st) : wqOps P I ops [] st K := h
theorem thenQ.normal {Q : Exit → St → Prop} (h : K st) : thenQ K Q .normal st := h
theorem thenQ.ret {Q : Exit → St → Prop} (h : Q .ret st) : thenQ K Q .ret st := h
theorem thenQ.exit {Q : Exit → St → Prop} {i : Nat} (h : Q (.exit i) st) : thenQ K Q (.exit i) st := h
theorem blockQ.normal {Q : Exit → St → Prop} {i : Nat} (h : Q .normal st) : blockQ i Q .normal st := h
theorem blockQ.ret {Q : Exit → St → Prop} {i : Nat} (h : Q .ret st) : blockQ i Q .ret st := h
theorem blockQ.out {Q : Exit → St → Prop} {i : Nat} (h : Q .normal st) : blockQ i Q (.exit i) st := by simp only [blockQ, if_true]; exact h
theorem blockQ.on {Q : Exit → St → Prop} {i j : Nat} (hj : (j == i) = false) (h : Q (.exit j) st) : blockQ i Q (.exit j) st := by
  have : ¬ j = i := by simpa using hj
  simp only [blockQ, this, if_false]; exact h

/-- An operation that reads. -/
theorem Run.rd {s : Prop} {v : V} (hk : kindOf op = .rd) (hv : rdx P st true op = (s, v)) (hs : s) (hp : st.put d v = st1) (h : wpOps P I ops rest st1 K) : wpOps P I ops (⟨d, op, ty, pos, af, none⟩ :: rest) st K := by
  simp only [wpOps, wpO, wp1, hk, hv, hp]
  exact ⟨hs, h⟩
theorem RunQ.rd {s : Prop} {v : V} (hk : kindOf op = .rd) (hv : rdx P st true op = (s, v)) (hs : s) (hp : st.put d v = st1) (h : wqOps P I ops rest st1 K) : wqOps P I ops (⟨d, op, ty, pos, af, none⟩ :: rest) st K := by
  simp only [wqOps, wqO, wq1, hk, hv, hp]
  exact ⟨hs, h⟩
/-- An operation that makes or turns memory. -/
theorem Run.ef {s : Prop} (hk : kindOf op = .ef) (hv : PL.ef P st ⟨d, op, ty, pos, af, none⟩ = (s, st1)) (hs : s) (h : wpOps P I ops rest st1 K) : wpOps P I ops (⟨d, op, ty, pos, af, none⟩ :: rest) st K := by
  simp only [wpOps, wpO, wp1, hk, hv]
  exact ⟨hs, h⟩
/-- A slice expression. -/
theorem Run.cut {x : Operand} {s : Prop} {v : V} {st0 : St} (hk : kindOf op = .cut x) (hc : st.cutAt true x = st0) (hv : rdx P st0 true op = (s, v)) (hs : s) (hp : st0.put d v = st1) (h : wpOps P I ops rest st1 K) :
    wpOps P I ops (⟨d, op, ty, pos, af, none⟩ :: rest) st K := by
  simp only [wpOps, wpO, wp1, hk, hc, hv, hp]
  exact ⟨hs, h⟩
theorem RunQ.cut {x : Operand} {s : Prop} {v : V} (hk : kindOf op = .cut x) (hv : rdx P st true op = (s, v)) (hs : s) (hp : st.put d v = st1) (h : wqOps P I ops rest st1 K) :
    wqOps P I ops (⟨d, op, ty, pos, af, none⟩ :: rest) st K := by
  simp only [wqOps, wqO, wq1, hk, hv, hp]
  exact ⟨hs, h⟩
/-- A call with one answer. -/
theorem Run.call {f : FuncId} {xs : List Operand} {s : Prop} {vs us : List V} {r : V} (hk : kindOf op = .call f xs) (ha : st.args true xs = (s, vs)) (hs : s) (hu : vs.map (snapV st) = us) (hpu : pureVs us = true)
    (hc : PCall P I f us (· = r)) (hf : r.flat = true ∨ (topVs vs).length ≤ 1 ∧ ∀ id ∈ topVs vs, st.okFrz id = true) (hp : st.after (topVs vs) d r = st1) (h : wpOps P I ops rest st1 K) :
    wpOps P I ops (⟨d, op, ty, pos, af, none⟩ :: rest) st K := by
  simp only [wpOps, wpO, wp1, hk, ha, hu]
  refine ⟨hs, hpu, _, hc, fun r' hr' => ?_⟩
  subst hr'
  rw [hp]
  exact ⟨hf, h⟩
theorem RunQ.call {f : FuncId} {xs : List Operand} {s : Prop} {vs us : List V} {r : V} (hk : kindOf op = .call f xs) (ha : st.args true xs = (s, vs)) (hs : s) (hu : vs.map (snapV st) = us) (hpu : pureVs us = true)
    (hc : PCall P I f us (· = r)) (hf : r.flat = true) (hp : st.put d r = st1) (h : wqOps P I ops rest st1 K) :
    wqOps P I ops (⟨d, op, ty, pos, af, none⟩ :: rest) st K := by
  simp only [wqOps, wqO, wq1, hk, ha, hu]
  refine ⟨hs, hpu, r, hf, hc, ?_⟩
  rw [hp]
  exact h

/-! Under a guard. -/
variable {j : Nat} {want g : Bool}
theorem Run.rdg {s : Prop} {v : V} (hg : guardOf st ops j want = some g) (hk : kindOf op = .rd) (hv : rdx P st g op = (s, v)) (hs : g = true → s) (hp : st.put d (.g g v) = st1) (h : wpOps P I ops rest st1 K) :
    wpOps P I ops (⟨d, op, ty, pos, af, some (j, want)⟩ :: rest) st K := by
  simp only [wpOps, wpO, wpG, hg, hk, hv, hp]
  exact ⟨hs, h⟩
theorem RunQ.rdg {s : Prop} {v : V} (hg : guardOf st ops j want = some g) (hk : kindOf op = .rd) (hv : rdx P st g op = (s, v)) (hs : g = true → s) (hp : st.put d (.g g v) = st1) (h : wqOps P I ops rest st1 K) :
    wqOps P I ops (⟨d, op, ty, pos, af, some (j, want)⟩ :: rest) st K := by
  simp only [wqOps, wqO, wqG, hg, hk, hv, hp]
  exact ⟨hs, h⟩
theorem RunQ.cutg {x : Operand} {s : Prop} {v : V} (hg : guardOf st ops j want = some g) (hk : kindOf op = .cut x) (hv : rdx P st g op = (s, v)) (hs : g = true → s) (hp : st.put d (.g g v) = st1) (h : wqOps P I ops rest st1 K) :
    wqOps P I ops (⟨d, op, ty, pos, af, some (j, want)⟩ :: rest) st K := by
  simp only [wqOps, wqO, wqG, hg, hk, hv, hp]
  exact ⟨hs, h⟩
theorem Run.callg {f : FuncId} {xs : List Operand} {s : Prop} {vs us : List V} {r : V} (hg : guardOf st ops j want = some g) (hk : kindOf op = .call f xs) (ha : st.args g xs = (s, vs)) (hs : g = true → s) (hu : vs.map (snapV st) = us)
    (hpu : g = true → pureVs us = true) (hc : g = true → PCall P I f us (· = r)) (hf : r.flat = true) (hp : st.put d (.g g r) = st1) (h : wpOps P I ops rest st1 K) :
    wpOps P I ops (⟨d, op, ty, pos, af, some (j, want)⟩ :: rest) st K := by
  simp only [wpOps, wpO, wpG, hg, hk, ha, hu]
  refine ⟨fun q => ⟨hs q, hpu q⟩, r, hf, hc, ?_⟩
  rw [hp]
  exact h
theorem RunQ.callg {f : FuncId} {xs : List Operand} {s : Prop} {vs us : List V} {r : V} (hg : guardOf st ops j want = some g) (hk : kindOf op = .call f xs) (ha : st.args g xs = (s, vs)) (hs : g = true → s) (hu : vs.map (snapV st) = us)
    (hpu : g = true → pureVs us = true) (hc : g = true → PCall P I f us (· = r)) (hf : r.flat = true) (hp : st.put d (.g g r) = st1) (h : wqOps P I ops rest st1 K) :
    wqOps P I ops (⟨d, op, ty, pos, af, some (j, want)⟩ :: rest) st K := by
  simp only [wqOps, wqO, wqG, hg, hk, ha, hu]
  refine ⟨fun q => ⟨hs q, hpu q⟩, r, hf, hc, ?_⟩
  rw [hp]
  exact h

/-- A body, with its numbers told. -/
theorem PCall.body (hsta : Stable I) {f : FuncId} {fn : Func} {c : Code} {args : List V} {Q : V → Prop} {n : Nat} {rs : List ResultVar} (hent : PL.ent P f = true) (hf : P.funcs[f]? = some fn) (hb : fn.body = some c) (hn : fn.ntmps = n) (hr : fn.results = rs.toArray)
    (hst : St.start args n = st)
    (h : ∀ w0 av old, Holds P ⟨w0, av, old, I⟩ c st (fun e st' => (e = .normal ∨ e = .ret) ∧ (outV P st' rs).1 ∧ (outV P st' rs).2.pure = true ∧ Q (outV P st' rs).2)) : PCall P I f args Q := by
  refine PCall.of hsta hent hf hb (fun F hF => ?_)
  obtain ⟨w0, av, old, I'⟩ := F
  simp only at hF; subst hF
  rw [hn, hst]
  refine (h w0 av old).mono fun e st' ⟨he, q⟩ => ?_
  have : fn.results.toList = rs := by rw [hr]
  rcases he with rfl | rfl <;> simp only [bodyQ, this] <;> exact q
end
end Go.PL
