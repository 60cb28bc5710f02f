/- The pure logic: PlO, PlP, PlQ, PlR, PlU, PlW, PlS, PlT, PlV, PlX, PlY, PlZ, PlPe, PlPf, PlPg, PlPh, PlPi, PlPj, PlPk, PlPm, PlPn, PlPo, PlPp, PlPr, PlPt. -/
import Derived.Test.YtcmdlelhdimnfaaGreatDoorPlAtoPlN
import Derived.LoopN
import Derived.ProofKit
import Derived.OpenShut
import Derived.Handy
import Derived.Lay
import Derived.LaidSub
import Derived.SevenTiedAt
import Derived.Lib.LaidTab
import Derived.Lib.ConvBytes
import Derived.Lib.AtoiErrMem
import Derived.Laws.Cover3
import Derived.Scope
import Derived.Lib.AppendStr
import Derived.Lib.Builder
import Derived.Lib.UnsafeStr
import Derived.MapKept
/- The pure logic, part O: a contract out of a body. -/
namespace Go.PL
open Go Go.RowKit

def resV (P : Program) (st : St) : ResultVar → Prop × V
  | .tmp t => (True, snapV st (st.get t))
  | .cell t T => let r := loadV P T st (st.get t)
    (r.1, snapV st r.2)
def resVs (P : Program) (st : St) : List ResultVar → Prop × List V
  | [] => (True, [])
  | x :: xs => ((resV P st x).1 ∧ (resVs P st xs).1, (resV P st x).2 :: (resVs P st xs).2)
/-- What a function hands back. -/
def outV (P : Program) (st : St) : List ResultVar → Prop × V
  | [x] => resV P st x
  | xs => ((resVs P st xs).1, .tup (resVs P st xs).2)

def bodyQ (P : Program) (fn : Func) (Q : V → Prop) : Exit → St → Prop
  | .normal, st => (outV P st fn.results.toList).1 ∧ (outV P st fn.results.toList).2.pure = true ∧ Q (outV P st fn.results.toList).2
  | .ret, st => (outV P st fn.results.toList).1 ∧ (outV P st fn.results.toList).2.pure = true ∧ Q (outV P st fn.results.toList).2
  | _, _ => False

def St.start (args : List V) (n : Nat) : St := { tm := args ++ List.replicate (n - args.length) .undef, so := [] }

theorem relVs_length {w : World} {G : Ctx} : ∀ {xs : List V} {vs : List Value}, RelVs w G xs vs → xs.length = vs.length
  | [], vs, h => by simp only [RelVs] at h; subst h; rfl
  | x :: xs, vs, h => by
    simp only [RelVs] at h
    obtain ⟨v, r, rfl, _, h2⟩ := h
    simp [relVs_length h2]

/-- An invariant that hangs on what was there alone. -/
def Stable (I : World → Prop) : Prop := ∀ w w' : World, I w → w.heap.size ≤ w'.heap.size → (∀ b, b < w.heap.size → w'.heap[b]? = w.heap[b]?) → I w'

theorem R.start {I : World → Prop} (hst : Stable I) {w : World} (hI : I w) {vs : Array Value} {av : Nat → Prop} (hav : ∀ b, av b → b < w.heap.size) {args : List V} (h : RelVs w (im av) args vs.toList) (n : Nat) :
    R ⟨w, av, fun _ => False, I, []⟩ (St.start args n) { tmps := vs ++ Array.replicate (n - vs.size) Go.undef, defers := [] } w (im av) := by
  have hl := relVs_length h
  have hl' : args.length = vs.size := by simpa using hl
  exact {
    dfr := rfl
    size := by simp [St.start, hl']
    slots := by
      intro i
      simp only [St.start, List.getD_eq_getElem?_getD, Array.getD_eq_getD_getElem?]
      by_cases hi : i < args.length
      · obtain ⟨v, q1, q2⟩ := relVs_get h i hi
        have e1 : (vs ++ Array.replicate (n - vs.size) Go.undef)[i]? = some v := by
          rw [Array.getElem?_append_left (by omega)]; simpa using q1
        rw [e1, List.getElem?_append_left hi]
        simpa [List.getD_eq_getElem?_getD] using q2
      · rw [List.getElem?_append_right (by omega), List.getElem?_replicate]
        split <;> simp [RelV]
    ghosts := by simp [St.start, RelVs]
    store := by simp [St.start]
    pures := by simp [St.start]
    nodup := by simp [St.start]
    inj := by simp [im]
    lt := by simp [im]
    new := by simp [im]
    wr := by simp [im]
    avlt := hav
    inv := fun w' h1 h2 => hst w w' hI h1 (fun b hb => h2 b hb (by simp))
    avold := by simp
    os := rfl, tape := rfl, output := rfl, hsize := Nat.le_refl _, ext := fun _ _ _ => rfl }

section
variable {P : Program} {F : Fr} {st : St} {a : Act} {w : World} {G : Ctx}

theorem R.out (h : R F st a w G) (hold : ∀ b, ¬ F.old b) {x : V} {v : Value} (hp : (snapV st x).pure = true) (hr : RelV w G x v) : RelV w (im F.av) (snapV st x) v := by
  refine relV_snap h (fun b _ hb => (h.wr b).2 (.inl hb)) (fun id _ _ b hb hav => ?_) hp hr
  rcases h.new id b hb with q | q
  · have := h.avlt b hav; omega
  · exact hold b q

theorem loadV_ptr {t : TypeId} {x : V} {u : Value} (hx : RelV w G x u) (hs : (loadV P t st x).1) : ∃ p, u = .pointer (some p) := by
  unfold loadV at hs
  split at hs
  · simp only [RelV, RelC] at hx
    obtain ⟨b, _, rfl⟩ := hx
    exact ⟨_, rfl⟩
  · simp only [RelV, RelC] at hx
    obtain ⟨_, b, o, rfl, _⟩ := hx
    exact ⟨_, rfl⟩
  · exact hs.elim

def resRun (tmps : Array Value) : ResultVar → Sem Value
  | .tmp t => pure (tmps.getD t Go.undef)
  | .cell a t => do loadVar t (← asAddr (tmps.getD a Go.undef))

theorem resV_sound (h : R F st a w G) (hold : ∀ b, ¬ F.old b) {x : ResultVar} (hs : (resV P st x).1) (hp : (resV P st x).2.pure = true) :
    ∃ v, (resRun a.tmps x).run P w = .ok v w ∧ RelV w (im F.av) (resV P st x).2 v := by
  cases x with
  | tmp t => exact ⟨_, rfl, h.out hold hp (h.slots t)⟩
  | cell t T =>
    simp only [resV] at hs hp ⊢
    obtain ⟨v, q1, q2⟩ := loadV_sound (P := P) h (h.slots t) hs
    obtain ⟨p, hptr⟩ := loadV_ptr (h.slots t) hs
    refine ⟨v, ?_, h.out hold hp q1⟩
    have := q2 w (Same.refl w)
    rw [hptr] at this
    simp only [resRun, hptr, asAddr, Sem.run_bind, Sem.run_pure, Result.andThen_ok]
    simpa [Instr.loadAt, Instr.sureAddr] using this

theorem resVs_sound (h : R F st a w G) (hold : ∀ b, ¬ F.old b) : ∀ {xs : List ResultVar}, (resVs P st xs).1 → pureVs (resVs P st xs).2 = true →
    ∃ vs, (xs.mapM (resRun a.tmps)).run P w = .ok vs w ∧ RelVs w (im F.av) (resVs P st xs).2 vs
  | [], _, _ => ⟨[], by simp, by simp [resVs, RelVs]⟩
  | x :: xs, hs, hp => by
    simp only [resVs] at hs hp ⊢
    simp only [pureVs, Bool.and_eq_true] at hp
    obtain ⟨v, q1, q2⟩ := resV_sound h hold hs.1 hp.1
    obtain ⟨vs, k1, k2⟩ := resVs_sound h hold hs.2 hp.2
    exact ⟨v :: vs, by simp [List.mapM_cons, q1, k1], by simp only [RelVs]; exact ⟨v, vs, rfl, q2, k2⟩⟩

theorem results_run {fn : Func} {tmps : Array Value} {vs : List Value} (h : (fn.results.toList.mapM (resRun tmps)).run P w = .ok vs w) :
    (results fn tmps).run P w = .ok (match vs with | [v] => v | vs => .tuple vs.toArray) w := by
  have e : fn.results.mapM (resRun tmps) = List.toArray <$> fn.results.toList.mapM (resRun tmps) := by
    obtain ⟨l, hl⟩ : ∃ l : List ResultVar, fn.results = l.toArray := ⟨fn.results.toList, by simp⟩
    rw [hl, List.mapM_toArray]
  have e2 : results fn tmps = (do
      let vs ← fn.results.mapM (resRun tmps)
      pure (if h : vs.size = 1 then vs[0] else .tuple vs)) := by
    unfold results
    congr 1
    all_goals (try (congr 1; funext x; cases x <;> rfl))
  rw [e2, e]
  simp only [Sem.run_bind, Sem.run_map, h, Result.andThen_ok]
  match vs with
  | [] => simp
  | [v] => simp
  | v :: u :: vs => simp

theorem outV_sound (h : R F st a w G) (hold : ∀ b, ¬ F.old b) {fn : Func} (hs : (outV P st fn.results.toList).1) (hp : (outV P st fn.results.toList).2.pure = true) :
    ∃ v, (results fn a.tmps).run P w = .ok v w ∧ RelV w (im F.av) (outV P st fn.results.toList).2 v := by
  unfold outV at *
  split at hs
  · rename_i x hx
    simp only [hx] at hp ⊢
    obtain ⟨v, q1, q2⟩ := resV_sound h hold hs hp
    exact ⟨v, by have := results_run (P := P) (w := w) (fn := fn) (tmps := a.tmps) (vs := [v]) (by rw [hx]; simp [q1]); simpa using this, q2⟩
  · rename_i xs hne
    split at hp
    · rename_i x hx; exact absurd hx (hne x)
    · obtain ⟨vs, q1, q2⟩ := resVs_sound h hold hs (by simpa only [V.pure] using hp)
      refine ⟨.tuple vs.toArray, ?_, ?_⟩
      · have := results_run (P := P) (w := w) (fn := fn) (tmps := a.tmps) q1
        rw [this]
        have hl := relVs_length q2
        match hvs : vs with
        | [] => rfl
        | [v] =>
          exfalso
          have hxl : ∀ xs : List ResultVar, (resVs P st xs).2.length = xs.length := by
            intro xs; induction xs with
            | nil => rfl
            | cons x xs ih => simp [resVs, ih]
          rw [hxl] at hl
          match hr : fn.results.toList, hl with
          | [x], _ => exact hne x hr
        | v :: u :: vs => rfl
      · simp only [RelV]; exact ⟨_, rfl, by simpa using q2⟩

theorem R.below (h : R F st a w G) (hold : ∀ b, ¬ F.old b) : Below F.w0.heap.size F.w0 w := ⟨h.os, h.tape, h.output, h.hsize, fun b hb => h.ext b hb (hold b)⟩

end

/-- THE CONTRACT, out of the body. -/
theorem PCall.of {P : Program} {I : World → Prop} (hst : Stable I) {f : FuncId} {fn : Func} {c : Code} {args : List V} {Q : V → Prop} (hent : PL.ent P f = true) (hf : P.funcs[f]? = some fn) (hb : fn.body = some c)
    (h : ∀ F, F.I = I → Holds P F c (St.start args fn.ntmps) (bodyQ P fn Q)) : PCall P I f args Q := by
  refine ⟨hent, fun w vs av hI hav hargs => calls_of_wp hf hb ?_⟩
  have hR := R.start hst hI hav hargs fn.ntmps
  refine Code.wp_mono (fun e a' w' ⟨st', G', q, hR'⟩ => ?_) (h _ rfl _ _ _ hR)
  have fin : (outV P st' fn.results.toList).1 ∧ (outV P st' fn.results.toList).2.pure = true ∧ Q (outV P st' fn.results.toList).2 →
      a'.defers = [] ∧ ∃ v, (results fn a'.tmps).run P w' = .ok v w' ∧ (fun (e : Ending) w'' => ∃ v r, e = .returned v ∧ Q r ∧ r.pure = true ∧ RelV w'' (im av) r v ∧ Below w.heap.size w w'') (.returned v) w' := by
    intro ⟨q1, q2, q3⟩
    obtain ⟨v, k1, k2⟩ := outV_sound hR' (fun _ hx => hx) (fn := fn) q1 q2
    exact ⟨hR'.dfr, v, k1, v, _, rfl, q3, q2, k2, hR'.below (fun _ hx => hx)⟩
  cases e <;> simp only [bodyQ] at q <;> first | exact fin q | exact q.elim

end Go.PL

/- The pure logic, part P: steps of a walk, one operation each. -/
namespace Go.PL
open Go Go.RowKit

section
variable {P : Program} {I : World → Prop} {F : Fr} {ops : Array Oper} {rest : List Oper} {st st1 : St} {d : Option Nat} {op : Op} {ty : TypeId} {pos : String} {af : Array Edge}

theorem Holds.run {id : Nat} {Q : Exit → St → Prop} (h : wpOps P F.I ops ops.toList st (Q .normal)) : Holds P F (.region id ops false) st Q :=
  Holds.region h
variable {K : St → Prop}
theorem Run.nil (h : K st) : wpOps P I ops [] st K := h
theorem RunQ.nil (h : K st) : wqOps P I ops [] st K := h
theorem thenQ.normal {Q : Exit → St → Prop} (h : K st) : thenQ K Q .normal st := h
theorem thenQ.ret {Q : Exit → St → Prop} (h : Q .ret st) : thenQ K Q .ret st := h
theorem thenQ.exit {Q : Exit → St → Prop} {i : Nat} (h : Q (.exit i) st) : thenQ K Q (.exit i) st := h
theorem blockQ.normal {Q : Exit → St → Prop} {i : Nat} (h : Q .normal st) : blockQ i Q .normal st := h
theorem blockQ.ret {Q : Exit → St → Prop} {i : Nat} (h : Q .ret st) : blockQ i Q .ret st := h
theorem blockQ.out {Q : Exit → St → Prop} {i : Nat} (h : Q .normal st) : blockQ i Q (.exit i) st := by simp only [blockQ, if_true]; exact h
theorem blockQ.on {Q : Exit → St → Prop} {i j : Nat} (hj : (j == i) = false) (h : Q (.exit j) st) : blockQ i Q (.exit j) st := by
  have : ¬ j = i := by simpa using hj
  simp only [blockQ, this, if_false]; exact h

/-- An operation that reads. -/
theorem Run.rd {s : Prop} {v : V} (hk : kindOf op = .rd) (hv : rdx P st true op = (s, v)) (hs : s) (hp : st.put d v = st1) (h : wpOps P I ops rest st1 K) : wpOps P I ops (⟨d, op, ty, pos, af, none⟩ :: rest) st K := by
  simp only [wpOps, wpO, wp1, hk, hv, hp]
  exact .inr ⟨hs, h⟩
theorem RunQ.rd {s : Prop} {v : V} (hk : kindOf op = .rd) (hv : rdx P st true op = (s, v)) (hs : s) (hp : st.put d v = st1) (h : wqOps P I ops rest st1 K) : wqOps P I ops (⟨d, op, ty, pos, af, none⟩ :: rest) st K := by
  simp only [wqOps, wqO, wq1, hk, hv, hp]
  exact ⟨hs, h⟩
/-- An operation that makes or turns memory. -/
theorem Run.ef {s : Prop} (hk : kindOf op = .ef) (hv : PL.ef P st ⟨d, op, ty, pos, af, none⟩ = (s, st1)) (hs : s) (h : wpOps P I ops rest st1 K) : wpOps P I ops (⟨d, op, ty, pos, af, none⟩ :: rest) st K := by
  simp only [wpOps, wpO, wp1, hk, hv]
  exact .inr ⟨hs, h⟩
/-- A slice expression. -/
theorem Run.cut {x : Operand} {s : Prop} {v : V} {st0 : St} (hk : kindOf op = .cut x) (hc : st.cutAt true x = st0) (hv : rdx P st0 true op = (s, v)) (hs : s) (hp : st0.put d v = st1) (h : wpOps P I ops rest st1 K) :
    wpOps P I ops (⟨d, op, ty, pos, af, none⟩ :: rest) st K := by
  simp only [wpOps, wpO, wp1, hk, hc, hv, hp]
  exact .inr ⟨hs, h⟩
theorem RunQ.cut {x : Operand} {s : Prop} {v : V} (hk : kindOf op = .cut x) (hv : rdx P st true op = (s, v)) (hs : s) (hp : st.put d v = st1) (h : wqOps P I ops rest st1 K) :
    wqOps P I ops (⟨d, op, ty, pos, af, none⟩ :: rest) st K := by
  simp only [wqOps, wqO, wq1, hk, hv, hp]
  exact ⟨hs, h⟩
/-- A call with one answer. -/
theorem Run.call {f : FuncId} {xs : List Operand} {s : Prop} {vs us : List V} {r : V} (hk : kindOf op = .call f xs) (ha : st.args true xs = (s, vs)) (hs : s) (hu : vs.map (snapV st) = us) (hpu : pureVs us = true)
    (hc : PCall P I f us (· = r)) (hf : r.flat = true ∨ (topVs vs).length ≤ 1 ∧ ∀ id ∈ topVs vs, st.okFrz id = true) (hp : st.after (topVs vs) d r = st1) (h : wpOps P I ops rest st1 K) :
    wpOps P I ops (⟨d, op, ty, pos, af, none⟩ :: rest) st K := by
  simp only [wpOps, wpO, wp1, hk, ha, hu]
  refine .inr ⟨hs, hpu, _, hc, fun r' hr' => ?_⟩
  subst hr'
  rw [hp]
  exact ⟨hf, h⟩
theorem RunQ.call {f : FuncId} {xs : List Operand} {s : Prop} {vs us : List V} {r : V} (hk : kindOf op = .call f xs) (ha : st.args true xs = (s, vs)) (hs : s) (hu : vs.map (snapV st) = us) (hpu : pureVs us = true)
    (hc : PCall P I f us (· = r)) (hf : r.flat = true) (hp : st.put d r = st1) (h : wqOps P I ops rest st1 K) :
    wqOps P I ops (⟨d, op, ty, pos, af, none⟩ :: rest) st K := by
  simp only [wqOps, wqO, wq1, hk, ha, hu]
  refine ⟨hs, hpu, r, hf, hc, ?_⟩
  rw [hp]
  exact h

/-! Under a guard. -/
variable {j : Nat} {want g : Bool}
/-- A body, with its numbers told. -/
theorem PCall.body (hsta : Stable I) {f : FuncId} {fn : Func} {c : Code} {args : List V} {Q : V → Prop} {n : Nat} {rs : List ResultVar} (hent : PL.ent P f = true) (hf : P.funcs[f]? = some fn) (hb : fn.body = some c) (hn : fn.ntmps = n) (hr : fn.results = rs.toArray)
    (hst : St.start args n = st)
    (h : ∀ w0 av old gv, Holds P ⟨w0, av, old, I, gv⟩ c st (fun e st' => (e = .normal ∨ e = .ret) ∧ (outV P st' rs).1 ∧ (outV P st' rs).2.pure = true ∧ Q (outV P st' rs).2)) : PCall P I f args Q := by
  refine PCall.of hsta hent hf hb (fun F hF => ?_)
  obtain ⟨w0, av, old, I', gv⟩ := F
  simp only at hF; subst hF
  rw [hn, hst]
  refine (h w0 av old gv).mono fun e st' ⟨he, q⟩ => ?_
  have : fn.results.toList = rs := by rw [hr]
  rcases he with rfl | rfl <;> simp only [bodyQ, this] <;> exact q
end
end Go.PL

/- The pure logic, part Q: what the walk's simp may open. -/
namespace Go.PL
open Go Go.RowKit

attribute [go_sem] kindOf rdx rd bnd rdCall St.arg St.args St.ev St.get ofConst constC constL pickV stripB binV nilOp isConstO intOp strOp sameKind unV nilV extV optArg bnds
  St.put St.after St.look St.setCs St.cutAt St.freeze St.new St.kill Ent.kill St.start St.parts
  loadV toV fieldAddrV fieldV indexAddrV indexV sliceV lenV minV maxV intsOf convV bytesOK bytesT buildV fillC V.cells storeE strR strV appendE copyE makeE buildSliceE PL.ef srcOf
  guardOf snapC snapV topC topV topVs killC killV C.men menL V.men menV C.flat V.flat flatVs C.pure pureL V.pure pureVs outV resV resVs frzC frzV frzVs St.okFrz
attribute [go_sem] List.getD_cons_zero List.getD_cons_succ List.set_cons_zero List.set_cons_succ List.map_cons List.map_nil List.filter_cons List.filter_nil List.find?_cons List.find?_nil
  List.cons_append List.nil_append List.length_cons List.length_nil List.replicate_succ List.replicate_zero List.take_succ_cons List.take_zero List.drop_succ_cons List.drop_zero List.flatMap_cons List.flatMap_nil List.append_nil
  List.all_cons List.all_nil Bool.and_true Bool.true_and Bool.and_false Bool.false_and Bool.or_false Bool.or_true Bool.false_or Bool.true_or
  beq_self_eq_true if_true if_false true_and and_true Option.map_some Option.map_none List.getElem?_cons_zero List.getElem?_cons_succ
theorem ite_tt {α : Type} (a b : α) : (if true = true then a else b) = a := rfl
theorem ite_ff {α : Type} (a b : α) : (if false = true then a else b) = b := rfl
theorem tt_tt : (true = true) = True := by simp
theorem ff_tt : (false = true) = False := by simp
theorem imp_tt (p : Prop) : (true = true → p) = p := by simp
theorem ite_ff' (b : Bool) : (if b then true else false) = b := by cases b <;> rfl
theorem beq_true' (b : Bool) : (b == true) = b := by cases b <;> rfl
theorem beq_false' (b : Bool) : (b == false) = !b := by cases b <;> rfl
theorem ite_and (b c : Bool) : (if b then c else false) = (b && c) := by cases b <;> rfl
theorem ite_or (b c : Bool) : (if b then true else c) = (b || c) := by cases b <;> rfl
attribute [go_sem] ite_tt ite_ff tt_tt ff_tt imp_tt ite_ff' beq_true' beq_false' ite_and ite_or Bool.not_true Bool.not_false Bool.not_not
end Go.PL

/- The pure logic, part R: what a loop's body must leave, place by place; names of blocks compared. -/
namespace Go.PL
open Go Go.RowKit

def lessL : List V → List V → Prop
  | [], [] => True
  | a :: l, b :: m => (b = .undef ∨ b = a) ∧ lessL l m
  | _, _ => False
theorem lessL.nil : lessL [] [] := trivial
theorem lessL.skip {a : V} {l m : List V} (h : lessL l m) : lessL (a :: l) (.undef :: m) := ⟨.inl rfl, h⟩
theorem lessL.get : ∀ {l m : List V}, lessL l m → m.length = l.length ∧ ∀ i, m.getD i .undef = .undef ∨ m.getD i .undef = l.getD i .undef
  | [], [], _ => ⟨rfl, fun _ => .inr rfl⟩
  | a :: l, b :: m, h => by
    obtain ⟨h1, h2⟩ := h
    obtain ⟨q1, q2⟩ := lessL.get h2
    refine ⟨by simp [q1], fun i => ?_⟩
    cases i with
    | zero => simpa using h1
    | succ i => simpa using q2 i
  | [], _ :: _, h => h.elim
  | _ :: _, [], h => h.elim
theorem Less.of {t t' g g' : List V} {s s' : List Ent} {p : Bid} (h : lessL t t') (hg : lessL g g') (hs : s'.Sublist s) : Less ⟨t, s, g, p⟩ ⟨t', s', g', p⟩ := ⟨h.get.1, h.get.2, fun _ he => hs.subset he, fun hn => List.Sublist.nodup (List.Sublist.map (fun d : Ent => d.id) hs) hn, hg.get, rfl⟩
theorem lessE.nil {s : List Ent} : ([] : List Ent).Sublist s := List.nil_sublist _
theorem lessE.skip {e : Ent} {s s' : List Ent} (hs : s'.Sublist s) : s'.Sublist (e :: s) := hs.cons _
theorem bid_beq (a b : Nat) : (([a] : List Nat) == [b]) = (a == b) := by simp [List.cons_beq_cons]
theorem bid_bne (a b : Nat) : (([a] : List Nat) != [b]) = (a != b) := by simp [bne, List.cons_beq_cons]
theorem bid_beq2 (a b c d : Nat) : (([a, c] : List Nat) == [b, d]) = (a == b && c == d) := by simp [List.cons_beq_cons]
theorem bid_eq (a b : Nat) : (([a] : List Nat) = [b]) = (a = b) := by simp
theorem zerosL_zero (z : List C) : zerosL z 0 = [] := by simp [zerosL]
theorem zerosL_succ (z : List C) (k : Nat) : zerosL z (k + 1) = z ++ zerosL z k := by
  unfold zerosL
  have e : (k + 1) * z.length = z.length + k * z.length := by rw [Nat.add_mul, Nat.one_mul, Nat.add_comm]
  rw [e, List.range_add, List.map_append]
  congr 1
  · apply List.ext_getElem <;> simp
    intro i h
    rw [Nat.mod_eq_of_lt h]
    simp [h]
  · rw [List.map_map]
    apply List.map_congr_left
    intro i _
    simp [Function.comp]
/-! Lists without the call's own blocks. -/
theorem pureL_mapInt (k : IntKind) (l : List Int) : pureL (l.map (C.int k)) = true := pureL_map _ (fun _ => rfl) l
theorem pureL_mapStr (l : List (List UInt8)) : pureL (l.map C.str) = true := pureL_map _ (fun _ => rfl) l
theorem pureL_mapBool (l : List Bool) : pureL (l.map C.bool) = true := pureL_map _ (fun _ => rfl) l
theorem map_id_pure {g : C → C} (hg : ∀ c : C, c.pure = true → g c = c) : ∀ {l : List C}, pureL l = true → l.map g = l
  | [], _ => rfl
  | c :: l, h => by
    simp only [pureL, Bool.and_eq_true] at h
    rw [List.map_cons, hg c h.1, map_id_pure hg h.2]
theorem killC_pure (id : Bid) {c : C} (h : c.pure = true) : killC id c = c := by simp [killC, pure_men id c h]
theorem kill_pureL {l : List C} (id : Bid) (h : pureL l = true) : l.map (killC id) = l := map_id_pure (fun _ hc => killC_pure id hc) h
theorem frzC_pure {id : Bid} {len : Nat} {cs : List C} {c : C} (h : c.pure = true) : frzC id len cs c = c := by
  cases c <;> simp_all [frzC, C.pure, pureL_men]
theorem frz_pureL {id : Bid} {len : Nat} {cs : List C} {l : List C} (h : pureL l = true) : l.map (frzC id len cs) = l := map_id_pure (fun _ hc => frzC_pure hc) h
theorem topC_pure {c : C} (h : c.pure = true) : topC c = [] := by cases c <;> simp_all [topC, C.pure]
theorem top_pureL : ∀ {l : List C}, pureL l = true → l.flatMap topC = []
  | [], _ => rfl
  | c :: l, h => by
    simp only [pureL, Bool.and_eq_true] at h
    rw [List.flatMap_cons, topC_pure h.1, top_pureL h.2]; rfl
attribute [go_sem] pureL_append pureL_mapInt pureL_mapStr pureL_mapBool kill_pureL frz_pureL top_pureL pureL_men
attribute [go_sem] bid_beq bid_bne bid_beq2 bid_eq zerosL_zero zerosL_succ Nat.reduceLeDiff Nat.reduceLT Nat.le_refl Nat.reduceBEq Nat.reduceBNe Nat.reduceMul Nat.reduceAdd Nat.reduceSub
end Go.PL

/- The pure logic, part U: a loop unrolled; a call with an answer that is told by a property alone. -/
namespace Go.PL
open Go Go.RowKit

section
variable {P : Program} {F : Fr} {st : St} {c : Code} {Q : Exit → St → Prop}

/-- At most n rounds more. -/
def Rounds (P : Program) (F : Fr) (c : Code) (Q : Exit → St → Prop) : Nat → St → Prop
  | 0, _ => False
  | n + 1, st => Holds P F c st (thenQ (Rounds P F c Q n) Q)
theorem Rounds.step {n : Nat} (h : Holds P F c st (thenQ (Rounds P F c Q n) Q)) : Rounds P F c Q (n + 1) st := h
end
end Go.PL

/- The pure logic, part W: calls that are walked inside. -/
namespace Go.PL
open Go Go.RowKit

/-- Who is called, and what it has captured. -/
def calleeV (st : St) (x : Operand) : Option (FuncId × List C) :=
  match st.ev x with
  | .c (.fn f) => some (f, [])
  | .c (.clo f cs) => some (f, cs)
  | _ => none

def St.enter (st : St) (k : Nat) (args : List V) (n : Nat) : St := ⟨args ++ List.replicate (n - args.length) .undef, st.so, st.tm ++ st.gh, k :: st.pre⟩
def St.back (st : St) (m : Nat) (pre : Bid) (d : Option Nat) (r : V) : St := (⟨st.gh.take m, st.so, st.gh.drop m, pre⟩ : St).put d r

def rawR (P : Program) (st : St) : ResultVar → Prop × V
  | .tmp t => (True, st.get t)
  | .cell t T => loadV P T st (st.get t)
def rawRs (P : Program) (st : St) : List ResultVar → Prop × List V
  | [] => (True, [])
  | x :: xs => ((rawR P st x).1 ∧ (rawRs P st xs).1, (rawR P st x).2 :: (rawRs P st xs).2)
def rawOut (P : Program) (st : St) : List ResultVar → Prop × V
  | [x] => rawR P st x
  | xs => ((rawRs P st xs).1, .tup (rawRs P st xs).2)

section
variable {P : Program} {F : Fr} {st : St} {a : Act} {w : World} {G : Ctx}

theorem rawR_sound (h : R F st a w G) {x : ResultVar} (hs : (rawR P st x).1) : ∃ v, (resRun a.tmps x).run P w = .ok v w ∧ RelV w G (rawR P st x).2 v := by
  cases x with
  | tmp t => exact ⟨_, rfl, h.slots t⟩
  | cell t T =>
    simp only [rawR] at hs ⊢
    obtain ⟨v, q1, q2⟩ := loadV_sound (P := P) h (h.slots t) hs
    obtain ⟨p, hptr⟩ := loadV_ptr (h.slots t) hs
    refine ⟨v, ?_, q1⟩
    have := q2 w (Same.refl w)
    rw [hptr] at this
    simp only [resRun, hptr, asAddr, Sem.run_bind, Sem.run_pure, Result.andThen_ok]
    simpa [Instr.loadAt, Instr.sureAddr] using this

theorem rawRs_sound (h : R F st a w G) : ∀ {xs : List ResultVar}, (rawRs P st xs).1 → ∃ vs, (xs.mapM (resRun a.tmps)).run P w = .ok vs w ∧ RelVs w G (rawRs P st xs).2 vs
  | [], _ => ⟨[], by simp, by simp [rawRs, RelVs]⟩
  | x :: xs, hs => by
    simp only [rawRs] at hs ⊢
    obtain ⟨v, q1, q2⟩ := rawR_sound h hs.1
    obtain ⟨vs, k1, k2⟩ := rawRs_sound h hs.2
    exact ⟨v :: vs, by simp [List.mapM_cons, q1, k1], by simp only [RelVs]; exact ⟨v, vs, rfl, q2, k2⟩⟩

theorem rawRs_len {xs : List ResultVar} : (rawRs P st xs).2.length = xs.length := by
  induction xs with
  | nil => rfl
  | cons x xs ih => simp [rawRs, ih]

theorem rawOut_sound (h : R F st a w G) {fn : Func} (hs : (rawOut P st fn.results.toList).1) : ∃ v, (results fn a.tmps).run P w = .ok v w ∧ RelV w G (rawOut P st fn.results.toList).2 v := by
  generalize hx : fn.results.toList = xs at hs ⊢
  match xs, hx, hs with
  | [x], hx, hs =>
    simp only [rawOut] at hs ⊢
    obtain ⟨v, q1, q2⟩ := rawR_sound h hs
    exact ⟨v, by have := results_run (P := P) (w := w) (fn := fn) (tmps := a.tmps) (vs := [v]) (by rw [hx]; simp [q1]); simpa using this, q2⟩
  | [], hx, hs =>
    refine ⟨.tuple #[], ?_, by simp [rawOut, rawRs, RelV, RelVs]⟩
    have := results_run (P := P) (w := w) (fn := fn) (tmps := a.tmps) (vs := []) (by rw [hx]; simp)
    simpa using this
  | x :: y :: xs, hx, hs =>
    simp only [rawOut] at hs ⊢
    obtain ⟨vs, q1, q2⟩ := rawRs_sound h hs
    refine ⟨.tuple vs.toArray, ?_, by simp only [RelV]; exact ⟨_, rfl, by simpa using q2⟩⟩
    have := results_run (P := P) (w := w) (fn := fn) (tmps := a.tmps) (by rw [hx]; exact q1)
    rw [this]
    have hl := relVs_length q2
    rw [rawRs_len] at hl
    match vs, hl with
    | v :: u :: vs, _ => rfl

theorem relVs_append {w : World} {G : Ctx} : ∀ {xs ys : List V} {us vs : List Value}, RelVs w G xs us → RelVs w G ys vs → RelVs w G (xs ++ ys) (us ++ vs)
  | [], _, us, _, h, h' => by simp only [RelVs] at h; subst h; simpa using h'
  | x :: xs, ys, us, vs, h, h' => by
    simp only [RelVs] at h
    obtain ⟨v, r, rfl, h1, h2⟩ := h
    simp only [List.cons_append, RelVs]
    exact ⟨v, r ++ vs, rfl, h1, relVs_append h2 h'⟩
theorem relVs_split {w : World} {G : Ctx} : ∀ {xs : List V} {us vs : List Value}, RelVs w G xs (us ++ vs) → RelVs w G (xs.take us.length) us ∧ RelVs w G (xs.drop us.length) vs
  | xs, [], vs, h => ⟨by simp [RelVs], by simpa using h⟩
  | [], u :: us, vs, h => by simp [RelVs] at h
  | x :: xs, u :: us, vs, h => by
    simp only [List.cons_append, RelVs] at h
    obtain ⟨v, r, e, h1, h2⟩ := h
    injection e with e1 e2; subst e1 e2
    obtain ⟨k1, k2⟩ := relVs_split h2
    simp only [List.length_cons, List.take_succ_cons, List.drop_succ_cons, RelVs]
    exact ⟨⟨_, _, rfl, h1, k1⟩, k2⟩
theorem relVs_of_slots {w : World} {G : Ctx} : ∀ {xs : List V} {us : List Value}, xs.length = us.length → (∀ i, RelV w G (xs.getD i .undef) (us.getD i Go.undef)) → RelVs w G xs us
  | [], [], _, _ => by simp [RelVs]
  | x :: xs, u :: us, hl, h => by
    simp only [RelVs]
    exact ⟨u, us, rfl, by simpa using h 0, relVs_of_slots (by simpa using hl) (fun i => by simpa using h (i + 1))⟩
  | [], _ :: _, hl, _ => by simp at hl
  | _ :: _, [], hl, _ => by simp at hl
theorem relVs_clo {w : World} {G : Ctx} : ∀ {cs : List C} {us : List Value}, RelL w G cs us → RelVs w G (cs.map V.c) us
  | [], [], _ => by simp [RelVs]
  | c :: cs, u :: us, h => by
    simp only [RelL] at h
    simp only [List.map_cons, RelVs]
    exact ⟨u, us, rfl, by simp only [RelV]; exact h.1, relVs_clo h.2⟩
  | [], _ :: _, h => by simp [RelL] at h
  | _ :: _, [], h => by simp [RelL] at h

/-- The callee's first state. -/
theorem R.enter (h : R F st a w G) (k : Nat) {args : List V} {us : Array Value} (ha : RelVs w G args us.toList) (n : Nat) :
    R { F with gv := a.tmps.toList ++ F.gv } (st.enter k args n) { tmps := us ++ Array.replicate (n - us.size) Go.undef, defers := [] } w G := by
  have hl := relVs_length ha
  have hl' : args.length = us.size := by simpa using hl
  exact {
    dfr := rfl
    size := by simp [St.enter, hl']
    slots := by
      intro i
      simp only [St.enter, List.getD_eq_getElem?_getD, Array.getD_eq_getD_getElem?]
      by_cases hi : i < args.length
      · obtain ⟨v, q1, q2⟩ := relVs_get ha i hi
        have e1 : (us ++ Array.replicate (n - us.size) Go.undef)[i]? = some v := by
          rw [Array.getElem?_append_left (by omega)]; simpa using q1
        rw [e1, List.getElem?_append_left hi]
        simpa [List.getD_eq_getElem?_getD] using q2
      · rw [List.getElem?_append_right (by omega), List.getElem?_replicate]
        split <;> simp [RelV]
    ghosts := relVs_append (relVs_of_slots (by simpa using h.size.symm) (fun i => by
      have := h.slots i
      simpa [List.getD_eq_getElem?_getD, Array.getD_eq_getD_getElem?] using this)) h.ghosts
    store := h.store, pures := h.pures, nodup := h.nodup, inj := h.inj, lt := h.lt, new := h.new, wr := h.wr, avlt := h.avlt, inv := h.inv, avold := h.avold
    os := h.os, tape := h.tape, output := h.output, hsize := h.hsize, ext := h.ext }

theorem relVs_getD {w : World} {G : Ctx} {xs : List V} {us : List Value} (h : RelVs w G xs us) (i : Nat) : RelV w G (xs.getD i .undef) (us.getD i Go.undef) := by
  by_cases hi : i < xs.length
  · obtain ⟨v, q1, q2⟩ := relVs_get h i hi
    rw [List.getD_eq_getElem?_getD (l := us), q1]; exact q2
  · have : xs.getD i .undef = .undef := by simp [List.getD_eq_getElem?_getD, hi]
    rw [this]; simp only [RelV]

/-- The caller's state, when the callee has ended. -/
theorem R.back {a' : Act} {st' : St} (hd : a.defers = []) {gv : List Value} (hgv : F.gv = a.tmps.toList ++ gv) (h : R F st' a' w G) {m : Nat} (hm : m = a.tmps.size) (pre : Bid) : R { F with gv := gv } ⟨st'.gh.take m, st'.so, st'.gh.drop m, pre⟩ a w G := by
  have hg := h.ghosts
  rw [hgv] at hg
  obtain ⟨h1, h2⟩ := relVs_split hg
  have e : a.tmps.toList.length = m := by simp [hm]
  rw [e] at h1 h2
  exact {
    dfr := hd
    size := by have := relVs_length h1; simp at this ⊢; omega
    slots := fun i => by
      have := relVs_getD h1 i
      simpa [List.getD_eq_getElem?_getD, Array.getD_eq_getD_getElem?] using this
    ghosts := h2
    store := h.store, pures := h.pures, nodup := h.nodup, inj := h.inj, lt := h.lt, new := h.new, wr := h.wr, avlt := h.avlt, inv := h.inv, avold := h.avold
    os := h.os, tape := h.tape, output := h.output, hsize := h.hsize, ext := h.ext }
end

/-- What the callee owes. -/
def inQ (P : Program) (rs : List ResultVar) (m : Nat) (pre : Bid) (d : Option Nat) (K : St → Prop) : Exit → St → Prop
  | .normal, st => (rawOut P st rs).1 ∧ K (st.back m pre d (rawOut P st rs).2)
  | .ret, st => (rawOut P st rs).1 ∧ K (st.back m pre d (rawOut P st rs).2)
  | _, _ => False

theorem Esc.inline {P : Program} {I : World → Prop} {o : Oper} {st : St} {K : St → Prop} {x : Operand} {xs : List Operand} {c : Call} {s : Prop} {vs : List V} {f : FuncId} {cs : List C} {fn : Func} {body : Code} {n : Nat} {rs : List ResultVar} (k : Nat)
    (ho : o.op = .call c) (hcal : c.callee = .value x) (hxs : c.args.toList = xs) (ha : st.args true xs = (s, vs)) (hs : s) (hf : calleeV st x = some (f, cs)) (hent : ent P f = true) (hfn : P.funcs[f]? = some fn) (hb : fn.body = some body) (hn : fn.ntmps = n) (hr : fn.results = rs.toArray)
    (h : ∀ w0 av old gv, Holds P ⟨w0, av, old, I, gv⟩ body (st.enter k (vs ++ cs.map V.c) n) (inQ P rs st.tm.length st.pre o.dst K)) : Esc P I o st K := by
  intro F a w G Q hI hR
  have hargs : RelVs w G vs (xs.map a.eval) := by
    have := hR.args (g := true) rfl (xs := xs) (by rw [ha]; exact hs)
    rw [ha] at this; exact this
  obtain ⟨arr, hev, hcs⟩ : ∃ arr : Array Value, a.eval x = .func (.func f) #[] arr ∧ RelL w G cs arr.toList := by
    have hx := hR.ev x
    unfold calleeV at hf
    split at hf
    · rename_i f' he
      rw [he] at hx
      simp only [Option.some.injEq, Prod.mk.injEq] at hf
      obtain ⟨rfl, rfl⟩ := hf
      simp only [RelV, RelC] at hx
      exact ⟨#[], hx, by simp [RelL]⟩
    · rename_i f' cs' he
      rw [he] at hx
      simp only [Option.some.injEq, Prod.mk.injEq] at hf
      obtain ⟨rfl, rfl⟩ := hf
      simpa only [RelV, RelC] using hx
    · cases hf
  have hrun : (execOp a.eval o).run P w = .ok (.enter f ((xs.map a.eval).toArray ++ arr)) w := by
    have e : c.args.map a.eval = (xs.map a.eval).toArray := by apply Array.ext'; simp [← hxs]
    simp [execOp, ho, resolve, hcal, hev, Deferred.ofValue, invoke, run_callFunc' hent, e]
  unfold Oper.wp Oper.upon
  rw [hrun]
  simp only
  obtain ⟨w0, av, old, I', gv⟩ := F
  simp only at hI; subst hI
  have hall : RelVs w G (vs ++ cs.map V.c) ((xs.map a.eval).toArray ++ arr).toList := by
    simpa using relVs_append hargs (relVs_clo hcs)
  refine calls_of_wp hfn hb ?_
  have hR0 := hR.enter k hall fn.ntmps
  rw [hn] at hR0
  rw [hn]
  refine Code.wp_mono (fun e a' w' ⟨st', G', q, hR'⟩ => ?_) (h _ _ _ _ _ _ _ hR0)
  have hrs : fn.results.toList = rs := by rw [hr]
  have fin : (rawOut P st' rs).1 ∧ K (st'.back st.tm.length st.pre o.dst (rawOut P st' rs).2) →
      a'.defers = [] ∧ ∃ v, (results fn a'.tmps).run P w' = .ok v w' ∧ Nxt ⟨w0, av, old, I', gv⟩ K (a.put o.dst v) w' := by
    intro ⟨q1, q2⟩
    rw [← hrs] at q1 q2
    obtain ⟨v, k1, k2⟩ := rawOut_sound hR' (fn := fn) q1
    refine ⟨hR'.dfr, v, k1, _, G', q2, ?_⟩
    exact (R.back hR.dfr rfl hR' hR.size.symm st.pre).put k2
  cases e <;> simp only [inQ] at q <;> first | exact fin q | exact q.elim
end Go.PL

/- The pure logic, part S: from a contract to a row: the arguments read again, the listed variables. -/
namespace Go.PL
open Go Go.RowKit Go.ChangeShapes Go.WideShapes

theorem trodAll_below {H : Type} {enc : TypeId × Value → H} {P : Program} (hl : laidOutB P = true) {W W' : World} (hb : Below W.heap.size W W') :
    ∀ {ts : List TypeId} {vs : List Value} {ds : List (DataW H)} {ps : List MemPlace}, (ts.all fun t => P.readableRec t && decide (t < P.types.size)) = true → DataW.TrodAll enc P W 0 (fun _ => true) true ts vs ds ps → (∀ x ∈ ps, x.block < W.heap.size) →
      DataW.TrodAll enc P W' 0 (fun b => decide (b < W.heap.size)) true ts vs ds ps
  | [], _, _, _, _, h, _ => by
    obtain ⟨rfl, rfl, rfl⟩ := trodAll_nil h
    exact trodAll_mk0
  | t :: ts, _, _, _, hr, h, hlt => by
    obtain ⟨v, vs1, d, ds1, a, b, rfl, rfl, rfl, h1, h2⟩ := trodAll_cons h
    simp only [List.all_cons, Bool.and_eq_true, decide_eq_true_eq] at hr
    exact ⟨a, b, Below.trod hl hr.1.1 hr.1.2 h1 hb (fun x hx => hlt x (by simp [hx])), trodAll_below hl hb hr.2 h2 (fun x hx => hlt x (by simp [hx])), rfl⟩

/-- The contract of a law, as the row's step takes it. -/
theorem PCall.law {P : Program} {I : World → Prop} {f : FuncId} {xs : List V} (h : PCall P I f xs (· = .c (.bool true))) {W : World} (hI : I W) {args : Array Value} (ha : RelVs W (im fun _ => False) xs args.toList) :
    Calls P f args W fun e W' => e = .returned (.bool true) ∧ Below W.heap.size W W' := by
  refine (h.run W args (fun _ => False) hI (fun _ h => h.elim) ha).mono fun e W' ⟨v, r, he, hr, _, hv, hb⟩ => ⟨?_, hb⟩
  subst hr
  simp only [RelV, RelC] at hv
  rw [he, hv]
end Go.PL

/- The pure logic, part T: what a reading of an argument gives: cells of the type's shape. -/
namespace Go.PL
open Go Go.RowKit Go.ChangeShapes Go.WideShapes

def Each (R : TypeId → List C → Prop) : List TypeId → List (List C) → Prop
  | [], dss => dss = []
  | t :: ts, dss => ∃ ds r, dss = ds :: r ∧ R t ds ∧ Each R ts r
/-- The cells are of the type's shape. -/
def typed (P : Program) : Nat → TypeId → List C → Prop
  | 0, _, _ => False
  | n + 1, t, cs => match P.underlying t with
    | some .bool => ∃ b, cs = [.bool b]
    | some (.int k) => ∃ z, cs = [.int k z] ∧ (Lit.int k z).wf = true
    | some .string => ∃ s : List UInt8, cs = [.str s] ∧ s.length ≤ reachBytes
    | some (.slice e) => ∃ dss : List (List C), cs = [.sl dss.length dss.flatten] ∧ dss.length * P.bytesOf e ≤ reachBytes ∧ ∀ ds ∈ dss, typed P n e ds
    | some (.struct fs) => ∃ dss : List (List C), cs = dss.flatten ∧ Each (typed P n) (fs.toList.map (·.type)) dss
    | some (.array m e) => ∃ dss : List (List C), cs = dss.flatten ∧ dss.length = m ∧ ∀ ds ∈ dss, typed P n e ds
    | some (.pointer e) => cs = [.nilp] ∨ ∃ ds, cs = [.iptr ds 0] ∧ typed P n e ds
    | some (.interface _) => cs = [.niface] ∨ cs = [.held]
    | _ => False

theorem pureL_flatten : ∀ {dss : List (List C)}, (∀ ds ∈ dss, pureL ds = true) → pureL dss.flatten = true
  | [], _ => rfl
  | ds :: dss, h => by rw [List.flatten_cons, pureL_append, h ds (by simp), pureL_flatten (fun d hd => h d (by simp [hd]))]; rfl
theorem each_pure {R : TypeId → List C → Prop} (hR : ∀ t ds, R t ds → pureL ds = true) : ∀ {ts : List TypeId} {dss : List (List C)}, Each R ts dss → ∀ ds ∈ dss, pureL ds = true
  | [], dss, h, ds, hd => by simp only [Each] at h; subst h; simp at hd
  | t :: ts, dss, h, ds, hd => by
    simp only [Each] at h
    obtain ⟨d, r, rfl, h1, h2⟩ := h
    rcases List.mem_cons.1 hd with rfl | hd
    · exact hR t _ h1
    · exact each_pure hR h2 ds hd
theorem typed_pure {P : Program} : ∀ {n : Nat} {t : TypeId} {cs : List C}, typed P n t cs → pureL cs = true
  | 0, _, _, h => h.elim
  | n + 1, t, cs, h => by
    unfold typed at h
    split at h
    · obtain ⟨b, rfl⟩ := h; rfl
    · obtain ⟨z, rfl, _⟩ := h; rfl
    · obtain ⟨s, rfl, _⟩ := h; rfl
    · obtain ⟨dss, rfl, _⟩ := h; rfl
    · obtain ⟨dss, rfl, h2⟩ := h; exact pureL_flatten (each_pure (fun t ds h => typed_pure h) h2)
    · obtain ⟨dss, rfl, _, h2⟩ := h; exact pureL_flatten (fun ds hd => typed_pure (h2 ds hd))
    · rcases h with rfl | ⟨ds, rfl, _⟩ <;> rfl
    · rcases h with rfl | rfl <;> rfl
    · exact h.elim
section
variable {H : Type} {enc : TypeId × Value → H} {P : Program} {w : World} {spare : Nat → Bool}

theorem relL_app {G : Ctx} : ∀ {a b : List C} {u v : List Value}, RelL w G a u → RelL w G b v → RelL w G (a ++ b) (u ++ v)
  | [], _, [], _, _, h => h
  | _ :: _, _, _ :: _, _, h, h' => by simp only [RelL] at h; simp only [List.cons_append, RelL]; exact ⟨h.1, relL_app h.2 h'⟩
  | [], _, _ :: _, _, h, _ => by simp [RelL] at h
  | _ :: _, _, [], _, h, _ => by simp [RelL] at h
theorem relL_len {G : Ctx} : ∀ {a : List C} {u : List Value}, RelL w G a u → a.length = u.length
  | [], [], _ => rfl
  | _ :: _, _ :: _, h => by simp only [RelL] at h; simp [relL_len h.2]
  | [], _ :: _, h => by simp [RelL] at h
  | _ :: _, [], h => by simp [RelL] at h
theorem relRow_of {G : Ctx} {b : Nat} : ∀ {cs : List C} {ds : List Value} {o : Nat}, RelL w G cs ds → (∀ j, j < ds.length → w.cell? ⟨b, o + j, none⟩ = ds[j]?) → RelRow w G cs b o
  | [], _, _, _, _ => by simp [RelRow]
  | c :: cs, d :: ds, o, h, hc => by
    simp only [RelL] at h
    simp only [RelRow]
    refine ⟨⟨d, by simpa using hc 0 (by simp), h.1⟩, relRow_of h.2 (fun j hj => ?_)⟩
    have := hc (j + 1) (by simp; omega)
    simpa [Nat.add_assoc, Nat.add_comm 1 j] using this
  | _ :: _, [], _, h, _ => by simp [RelL] at h
theorem relRow_app {G : Ctx} {b : Nat} : ∀ {cs cs' : List C} {o : Nat}, RelRow w G cs b o → RelRow w G cs' b (o + cs.length) → RelRow w G (cs ++ cs') b o
  | [], _, _, _, h => by simpa using h
  | c :: cs, cs', o, h, h' => by
    simp only [RelRow] at h
    simp only [List.cons_append, RelRow]
    exact ⟨h.1, relRow_app h.2 (by simpa [Nat.add_assoc, Nat.add_comm 1] using h')⟩

/-- The cells of a piece that is read. -/
theorem cells_at {a : Addr} {n : Nat} {cs : List Value} (hn : 0 < n) (h : w.cells? 0 a n = some cs) : a = ⟨a.block, a.off, none⟩ ∧ a.block < w.heap.size ∧ cs.length = n ∧ ∀ j, j < n → w.cell? ⟨a.block, a.off + j, none⟩ = cs[j]? := by
  obtain ⟨_, hl, hc⟩ := World.cells?_some h
  have h0 := hc 0 hn
  obtain ⟨b, o, sp⟩ := a
  have hsp : sp = none := by
    cases sp with
    | none => rfl
    | some x =>
      have e : cs[0]? = some cs[0] := by rw [List.getElem?_eq_getElem]
      rw [e] at h0
      simp only [Addr.add, if_true] at h0
      unfold World.cell? at h0
      split at h0 <;> simp at h0
  subst hsp
  refine ⟨rfl, World.cells?_block h hn, hl, fun j hj => ?_⟩
  have := hc j hj
  simp only [Addr.add] at this
  split at this
  · rename_i hj0; subst hj0; exact this
  · exact this

def tile (P : Program) : Nat → List Field → Bool
  | _, [] => true
  | o, f :: fs => f.offset == o && tile P (o + P.cellsOf f.type) fs
/-- Types that are read here: their layout, and what lies in them. -/
def okT (P : Program) : Nat → TypeId → Bool
  | 0, _ => false
  | n + 1, t => match P.underlying t with
    | some .bool => P.cellsOf t == 1
    | some (.int _) => P.cellsOf t == 1
    | some .string => P.cellsOf t == 1
    | some (.slice e) => P.cellsOf t == 1 && decide (0 < P.cellsOf e) && okT P n e
    | some (.struct fs) => tile P 0 fs.toList && P.cellsOf t == (fs.toList.map fun f => P.cellsOf f.type).sum && fs.toList.all (fun f => okT P n f.type)
    | some (.array m e) => P.cellsOf t == m * P.cellsOf e && okT P n e
    | some (.pointer e) => P.cellsOf t == 1 && decide (0 < P.cellsOf e) && okT P n e
    | some (.interface _) => P.cellsOf t == 1
    | _ => false

variable {G : Ctx} (hG : ∀ b, b < w.heap.size → ¬ G.wr b)

/-- What is read at one type gives cells. -/
def Reads (enc : TypeId × Value → H) (P : Program) (w : World) (spare : Nat → Bool) (G : Ctx) (n : Nat) (t : TypeId) : Prop :=
  ∀ (fuel : Nat) (vs : List Value) (x : DataW H × List MemPlace), DataW.trod enc P w 0 spare true fuel t vs = some x → (x.1.weights P t).all (· ≤ reachBytes) = true → ∃ cs, RelL w G cs vs ∧ typed P n t cs ∧ vs.length = P.cellsOf t

theorem fields_read {n : Nat} : ∀ {fs : List Field} {o m : Nat} {vs : List Value} {xs : List (DataW H × List MemPlace)}, tile P o fs = true → vs.length = o + (fs.map fun f => P.cellsOf f.type).sum → xs.length = fs.length →
    (∀ f ∈ fs, Reads enc P w spare G n f.type) →
    (∀ (i : Nat) (f : Field), fs[i]? = some f → DataW.trod enc P w 0 spare true m f.type ((vs.drop f.offset).take (P.cellsOf f.type)) = xs[i]?) →
    (DataW.weightsEach P (fs.map (·.type)) (xs.map (·.1))).all (· ≤ reachBytes) = true → ∃ dss : List (List C), RelL w G dss.flatten (vs.drop o) ∧ Each (typed P n) (fs.map (·.type)) dss
  | [], o, m, vs, xs, _, hl, _, _, _, _ => by
    refine ⟨[], ?_, rfl⟩
    have : vs.drop o = [] := by simp at hl; simp; omega
    rw [this]; simp [RelL]
  | f :: fs, o, m, vs, xs, ht, hl, hx, hr, hf, hw => by
    simp only [tile, Bool.and_eq_true, beq_iff_eq] at ht
    obtain ⟨h1, h2⟩ := ht
    cases xs with
    | nil => simp at hx
    | cons x xs =>
      simp only [List.map_cons, List.sum_cons] at hl
      simp only [List.map_cons, DataW.weightsEach, List.all_append, Bool.and_eq_true] at hw
      have h0 := hf 0 f rfl
      simp only [List.getElem?_cons_zero] at h0
      obtain ⟨cs, q1, q2, q3⟩ := hr f (by simp) m _ x h0 hw.1
      obtain ⟨dss, k1, k2⟩ := fields_read (o := o + P.cellsOf f.type) (m := m) (vs := vs) (xs := xs) h2 (by omega) (by simpa using hx) (fun g hg => hr g (by simp [hg]))
        (fun i g hg => by have := hf (i + 1) g (by simpa using hg); simpa using this) hw.2
      refine ⟨cs :: dss, ?_, cs, dss, rfl, q2, k2⟩
      have e : vs.drop o = (vs.drop o).take (P.cellsOf f.type) ++ vs.drop (o + P.cellsOf f.type) := by rw [← List.drop_drop, List.take_append_drop]
      rw [e, List.flatten_cons]
      rw [h1] at q1
      exact relL_app q1 k1

theorem array_read {n e : Nat} (hr : Reads enc P w spare G n e) : ∀ (k o m : Nat) (vs : List Value) (xs : List (DataW H × List MemPlace)), vs.length = o + k * P.cellsOf e → xs.length = k →
    (∀ i, i < k → DataW.trod enc P w 0 spare true m e ((vs.drop (o + i * P.cellsOf e)).take (P.cellsOf e)) = xs[i]?) →
    (DataW.weightsAll P e (xs.map (·.1))).all (· ≤ reachBytes) = true → ∃ dss : List (List C), RelL w G dss.flatten (vs.drop o) ∧ dss.length = k ∧ ∀ ds ∈ dss, typed P n e ds
  | 0, o, m, vs, xs, hl, _, _, _ => by
    refine ⟨[], ?_, rfl, by simp⟩
    have : vs.drop o = [] := by simp; omega
    rw [this]; simp [RelL]
  | k + 1, o, m, vs, xs, hl, hx, hf, hw => by
    cases xs with
    | nil => simp at hx
    | cons x xs =>
      simp only [List.map_cons, DataW.weightsAll, List.all_append, Bool.and_eq_true] at hw
      have h0 := hf 0 (by omega)
      simp only [Nat.zero_mul, Nat.add_zero, List.getElem?_cons_zero] at h0
      obtain ⟨cs, q1, q2, q3⟩ := hr m _ x h0 hw.1
      obtain ⟨dss, k1, k2, k3⟩ := array_read hr k (o + P.cellsOf e) m vs xs (by rw [hl, Nat.add_mul]; omega) (by simpa using hx)
        (fun i hi => by
          have := hf (i + 1) (by omega)
          simp only [List.getElem?_cons_succ] at this
          rw [← this]
          congr 3
          rw [Nat.add_mul]; omega) hw.2
      refine ⟨cs :: dss, ?_, by simp [k2], ?_⟩
      · have e' : vs.drop o = (vs.drop o).take (P.cellsOf e) ++ vs.drop (o + P.cellsOf e) := by rw [← List.drop_drop, List.take_append_drop]
        rw [e', List.flatten_cons]
        exact relL_app q1 k1
      · intro ds hds
        rcases List.mem_cons.1 hds with rfl | hd
        · exact q2
        · exact k3 ds hd

theorem slice_read {n e : Nat} (hpos : 0 < P.cellsOf e) (hr : Reads enc P w spare G n e) : ∀ (k o m : Nat) (a : Addr) (xs : List (DataW H × List MemPlace)), xs.length = k →
    (∀ i, i < k → (w.cells? 0 (a.add (o + i * P.cellsOf e)) (P.cellsOf e)).bind (DataW.trod enc P w 0 spare true m e) = xs[i]?) →
    (DataW.weightsAll P e (xs.map (·.1))).all (· ≤ reachBytes) = true →
    ∃ dss : List (List C), dss.length = k ∧ (∀ ds ∈ dss, typed P n e ds) ∧ (0 < k → a.block < w.heap.size ∧ (o = 0 → a = ⟨a.block, a.off, none⟩) ∧ RelRow w G dss.flatten a.block (a.off + o))
  | 0, o, m, a, xs, _, _, _ => ⟨[], rfl, by simp, fun h => by omega⟩
  | k + 1, o, m, a, xs, hx, hf, hw => by
    cases xs with
    | nil => simp at hx
    | cons x xs =>
      simp only [List.map_cons, DataW.weightsAll, List.all_append, Bool.and_eq_true] at hw
      have h0 := hf 0 (by omega)
      simp only [Nat.zero_mul, Nat.add_zero, List.getElem?_cons_zero, Option.bind_eq_some_iff] at h0
      obtain ⟨vs, hvs, htr⟩ := h0
      obtain ⟨cs, q1, q2, q3⟩ := hr m _ x htr hw.1
      obtain ⟨c1, c2, c3, c4⟩ := cells_at hpos hvs
      obtain ⟨dss, k2, k3, k4⟩ := slice_read hpos hr k (o + P.cellsOf e) m a xs (by simpa using hx)
        (fun i hi => by
          have := hf (i + 1) (by omega)
          simp only [List.getElem?_cons_succ] at this
          rw [← this]
          congr 3
          rw [Nat.add_mul]; omega) hw.2
      have hblk : (a.add o).block = a.block := by unfold Addr.add; split <;> rfl
      have hoff : (a.add o).off = a.off + o := by
        unfold Addr.add
        split
        · rename_i q; rw [q]; rfl
        · rfl
      refine ⟨cs :: dss, by simp [k2], ?_, fun _ => ⟨by rw [← hblk]; exact c2, fun ho => ?_, ?_⟩⟩
      · intro ds hds
        rcases List.mem_cons.1 hds with rfl | hd
        · exact q2
        · exact k3 ds hd
      · subst ho
        have e : a.add 0 = a := rfl
        rw [e] at c1
        exact c1
      · rw [List.flatten_cons]
        rw [hblk, hoff] at c4
        have hlen : cs.length = P.cellsOf e := (relL_len q1).trans q3
        refine relRow_app (relRow_of q1 (fun j hj => c4 j (by omega))) ?_
        by_cases hk : 0 < k
        · have := (k4 hk).2.2
          rw [hlen]
          simpa [Nat.add_assoc] using this
        · have : dss = [] := List.length_eq_zero_iff.1 (by omega)
          subst this
          simp [RelRow]

theorem relL_one {c : C} {v : Value} (h : RelC w G c v) : RelL w G [c] [v] := by simp only [RelL]; exact ⟨h, trivial⟩
theorem relC_sl {len : Nat} {cs : List C} {v : Value} (hp : pureL cs = true) (h : ∃ a cap, v = .slice a len cap ∧ len ≤ cap ∧ cap ≤ maxLen ∧ (len = 0 → cs = []) ∧
      (len = 0 ∨ ∃ b off, a = some ⟨b, off, none⟩ ∧ ¬ G.wr b ∧ b < w.heap.size ∧ RelRow w G cs b off)) : RelC w G (.sl len cs) v := by unfold RelC; exact ⟨hp, h⟩
theorem relC_iptr {cs : List C} {off : Nat} {v : Value} (hp : pureL cs = true) (h : ∃ b o, v = .pointer (some ⟨b, o + off, none⟩) ∧ ¬ G.wr b ∧ b < w.heap.size ∧ RelRow w G cs b o) : RelC w G (.iptr cs off) v := by unfold RelC; exact ⟨hp, h⟩
include hG in
theorem reads_of : ∀ (n : Nat) (t : TypeId), okT P n t = true → Reads enc P w spare G n t
  | 0, t, h => by simp [okT] at h
  | n + 1, t, h => by
    intro fuel vs x hx hw
    unfold okT at h
    unfold typed
    split at h
    · rename_i ht
      obtain ⟨b, rfl, rfl⟩ := DataW.trod_bool ht hx
      exact ⟨[.bool b], by simp [RelL, RelC], by exact ⟨b, rfl⟩, by rw [beq_iff_eq.1 h]; rfl⟩
    · rename_i k ht
      obtain ⟨z, rfl, rfl, hwf⟩ := DataW.trod_int ht hx
      exact ⟨[.int k z], by simp [RelL, RelC], by exact ⟨z, rfl, hwf⟩, by rw [beq_iff_eq.1 h]; rfl⟩
    · rename_i ht
      obtain ⟨s, rfl, rfl, hs⟩ := DataW.trod_string ht hx
      simp only [DataW.weights, List.all_cons, List.all_nil, Bool.and_true, decide_eq_true_eq] at hw
      exact ⟨[.str s.data.toList], by simp [RelL, RelC], by exact ⟨_, rfl, hw⟩, by rw [beq_iff_eq.1 h]; rfl⟩
    · rename_i e ht
      simp only [Bool.and_eq_true, decide_eq_true_eq, beq_iff_eq] at h
      rcases DataW.trod_slice ht hx with ⟨rfl, rfl⟩ | ⟨a, len, cap, elems, rest, m, rfl, rfl, rfl, _, hle, hmax, hlen, hel, _, _⟩
      · refine ⟨[.sl 0 []], ?_, ?_, by rw [h.1.1]; rfl⟩
        · exact relL_one (relC_sl rfl ⟨none, 0, rfl, Nat.le_refl _, Nat.zero_le _, fun _ => rfl, .inl rfl⟩)
        · exact ⟨[], rfl, by simp, by simp⟩
      · simp only [DataW.weights, ht, List.all_cons, List.all_append, Bool.and_eq_true, decide_eq_true_eq, List.length_map] at hw
        obtain ⟨dss, k2, k3, k4⟩ := slice_read h.1.2 (reads_of n e h.2) len 0 m a elems hlen (fun i hi => by rw [Nat.zero_add]; exact hel i hi) hw.2.1
        refine ⟨[.sl dss.length dss.flatten], ?_, ?_, by rw [h.1.1]; rfl⟩
        · refine relL_one (relC_sl (pureL_flatten (fun ds hd => typed_pure (k3 ds hd))) ⟨some a, cap, by rw [k2], by omega, hmax, fun h0 => by rw [List.length_eq_zero_iff.1 h0]; rfl, ?_⟩)
          rw [k2]
          by_cases hk : 0 < len
          · obtain ⟨q1, q2, q3⟩ := k4 hk
            exact .inr ⟨a.block, a.off, by rw [← q2 rfl], hG _ q1, q1, q3⟩
          · exact .inl (by omega)
        · refine ⟨dss, rfl, ?_, k3⟩
          refine Nat.le_trans (Nat.mul_le_mul_right _ ?_) hw.1
          omega
    · rename_i fs ht
      simp only [Bool.and_eq_true, beq_iff_eq, List.all_eq_true] at h
      obtain ⟨⟨h1, h2⟩, h3⟩ := h
      obtain ⟨xs, m, rfl, rfl, hl, hx2, hf⟩ := DataW.trod_struct ht hx
      simp only [DataW.weights, ht] at hw
      obtain ⟨dss, k1, k2⟩ := fields_read (fs := fs.toList) (o := 0) (m := m) (vs := vs) (xs := xs) (enc := enc) (spare := spare) (n := n) h1 (by rw [hl, h2]; simp) (by simpa using hx2) (fun f hf => reads_of n f.type (h3 f hf))
        (fun i f hi => hf i f (by simpa using hi)) hw
      exact ⟨dss.flatten, by simpa using k1, by exact ⟨dss, rfl, k2⟩, hl⟩
    · rename_i m e ht
      simp only [Bool.and_eq_true, beq_iff_eq] at h
      obtain ⟨xs, q, rfl, rfl, hl, hx2, hf⟩ := DataW.trod_array ht hx
      simp only [DataW.weights, ht] at hw
      obtain ⟨dss, k1, k2, k3⟩ := array_read (reads_of n e h.2) m 0 q vs xs (by rw [hl, h.1]; simp) hx2 (fun i hi => by rw [Nat.zero_add]; exact hf i hi) hw
      exact ⟨dss.flatten, by simpa using k1, by exact ⟨dss, rfl, k2, k3⟩, hl⟩
    · rename_i e ht
      simp only [Bool.and_eq_true, decide_eq_true_eq, beq_iff_eq] at h
      rcases DataW.trod_pointer ht hx with ⟨rfl, rfl⟩ | ⟨a, cs', y, m, rfl, rfl, rfl, hc, hy⟩
      · exact ⟨[.nilp], by simp [RelL, RelC], by exact .inl rfl, by rw [h.1.1]; rfl⟩
      · simp only [DataW.weights, ht] at hw
        obtain ⟨ds, q1, q2, q3⟩ := reads_of n e h.2 m cs' y hy hw
        obtain ⟨c1, c2, c3, c4⟩ := cells_at h.1.2 hc
        refine ⟨[.iptr ds 0], ?_, by exact .inr ⟨ds, rfl, q2⟩, by rw [h.1.1]; rfl⟩
        exact relL_one (relC_iptr (typed_pure q2) ⟨a.block, a.off, by rw [Nat.add_zero, ← c1], hG _ c2, c2, relRow_of q1 (fun j hj => c4 j (by omega))⟩)
    · rename_i ms ht
      cases fuel with
      | zero => simp [DataW.trod] at hx
      | succ fuel =>
        unfold DataW.trod at hx
        rw [ht] at hx
        split at hx <;> simp_all
        · exact ⟨[.niface], by simp [RelL, RelC], .inl rfl⟩
        · exact ⟨[.held], by simp [RelL, RelC], .inr rfl⟩
    · cases h
end
end Go.PL

/- The pure logic, part V: cells of a type's shape, decoded. -/
namespace Go.PL
open Go Go.RowKit

section
variable {P : Program} {t e : TypeId} {n : Nat} {cs : List C}

theorem typed_bool (hu : P.underlying t = some .bool) (h : typed P n t cs) : ∃ b, cs = [.bool b] ∧ True := by
  cases n with
  | zero => exact h.elim
  | succ n => simp only [typed, hu] at h; obtain ⟨b, h⟩ := h; exact ⟨b, h, trivial⟩
theorem typed_int {k : IntKind} (hu : P.underlying t = some (.int k)) (h : typed P n t cs) : ∃ z, cs = [.int k z] ∧ (Lit.int k z).wf = true := by
  cases n with
  | zero => exact h.elim
  | succ n => simpa only [typed, hu] using h
theorem typed_str (hu : P.underlying t = some .string) (h : typed P n t cs) : ∃ s : List UInt8, cs = [.str s] ∧ s.length ≤ reachBytes := by
  cases n with
  | zero => exact h.elim
  | succ n => simpa only [typed, hu] using h
theorem dec_list {α : Type} {R : List C → Prop} {enc : α → List C} {ok : α → Prop} (hd : ∀ ds, R ds → ∃ x, ds = enc x ∧ ok x) : ∀ {dss : List (List C)}, (∀ ds ∈ dss, R ds) → ∃ l : List α, dss = l.map enc ∧ ∀ y ∈ l, ok y
  | [], _ => ⟨[], rfl, by simp⟩
  | ds :: dss, h => by
    obtain ⟨x, h1, h2⟩ := hd ds (h ds (by simp))
    obtain ⟨l, h3, h4⟩ := dec_list hd (fun d hd' => h d (by simp [hd']) : ∀ d ∈ dss, R d)
    refine ⟨x :: l, by rw [h1, h3]; rfl, fun y hy => ?_⟩
    rcases List.mem_cons.1 hy with rfl | hy
    · exact h2
    · exact h4 y hy
theorem typed_sl {α : Type} {enc : α → List C} {ok : α → Prop} {b : Nat} (hu : P.underlying t = some (.slice e)) (hb : P.bytesOf e = b) (hd : ∀ n ds, typed P n e ds → ∃ x, ds = enc x ∧ ok x) (h : typed P n t cs) :
    ∃ l : List α, cs = [.sl l.length (l.flatMap enc)] ∧ l.length * b ≤ reachBytes ∧ ∀ y ∈ l, ok y := by
  cases n with
  | zero => exact h.elim
  | succ n =>
    simp only [typed, hu] at h
    obtain ⟨dss, h1, h2, h3⟩ := h
    obtain ⟨l, rfl, h5⟩ := dec_list (hd n) h3
    rw [hb, List.length_map] at h2
    exact ⟨l, by rw [h1, List.length_map, List.flatMap_def], h2, h5⟩
theorem flatMap_one {α : Type} (f : α → C) : ∀ l : List α, l.flatMap (fun x => [f x]) = l.map f
  | [] => rfl
  | a :: l => by rw [List.flatMap_cons, flatMap_one f l]; rfl
theorem typed_struct {fs : Array Field} {ts : List TypeId} (hu : P.underlying t = some (.struct fs)) (hts : fs.toList.map (·.type) = ts) (h : typed P n t cs) : ∃ (m : Nat) (dss : List (List C)), cs = dss.flatten ∧ Each (typed P m) ts dss := by
  cases n with
  | zero => exact h.elim
  | succ n => simp only [typed, hu, hts] at h; exact ⟨n, h⟩
/-- A part of an element of a slice of structs. -/
theorem elem_part {α : Type} {enc : α → List C} {n : Nat} (hn : ∀ x, (enc x).length = n) (l : List α) {i : Nat} (d : α) (hi : i < l.length) (j m : Nat) (hj : j + m ≤ n) :
    ((l.flatMap enc).drop (i * n + j)).take m = ((enc (l.getD i d)).drop j).take m := by
  induction l generalizing i with
  | nil => simp at hi
  | cons a l ih =>
    cases i with
    | zero =>
      simp only [List.flatMap_cons, Nat.zero_mul, Nat.zero_add, List.getD_cons_zero]
      rw [List.drop_append_of_le_length (by rw [hn]; omega), List.take_append_of_le_length (by rw [List.length_drop, hn]; omega)]
    | succ i =>
      have := ih (i := i) (by simpa using hi)
      rw [List.getD_cons_succ, ← this, List.flatMap_cons]
      have e : (i + 1) * n + j = (enc a).length + (i * n + j) := by rw [hn, Nat.add_mul]; omega
      rw [e, List.drop_append, List.drop_of_length_le (by omega)]
      simp
theorem elem_get {α : Type} {enc : α → List C} {n : Nat} (hn : ∀ x, (enc x).length = n) (l : List α) {i : Nat} (d : α) (hi : i < l.length) (j : Nat) (hj : j < n) :
    (l.flatMap enc).getD (i * n + j) C.any = (enc (l.getD i d)).getD j C.any := by
  have h := elem_part hn l d hi j 1 (by omega)
  have e : ∀ (m : List C) (k : Nat), m.getD k C.any = ((m.drop k).take 1).getD 0 C.any := by
    intro m k
    simp [List.getD_eq_getElem?_getD, List.getElem?_take, List.getElem?_drop]
  rw [e, h, ← e]
theorem flat_len {α : Type} {enc : α → List C} {n : Nat} (hn : ∀ x, (enc x).length = n) : ∀ l : List α, (l.flatMap enc).length = l.length * n
  | [] => by simp
  | a :: l => by rw [List.flatMap_cons, List.length_append, hn, flat_len hn l, List.length_cons, Nat.add_mul]; omega
end
end Go.PL

/- The pure logic, part X: a region run as a whole: its conditions in a list, its last state; loops as iterations; partial functions. -/
namespace Go.PL
open Go Go.RowKit

def andL : List Prop → Prop
  | [] => True
  | p :: ps => p ∧ andL ps
theorem andL_append : ∀ {a b : List Prop}, andL (a ++ b) ↔ andL a ∧ andL b
  | [], b => by simp [andL]
  | p :: a, b => by simp only [List.cons_append, andL, andL_append (a := a) (b := b), and_assoc]

abbrev CV := Option (List Prop × V)
def ckB {α : Type} (b : Bool) (r : α) : Option α := match b with
  | true => some r
  | false => none
theorem ckB_some {α : Type} {b : Bool} {r x : α} (h : ckB b r = some x) : b = true ∧ r = x := by
  cases b <;> simp [ckB] at h; exact ⟨rfl, h⟩

def argC (st : St) (g : Bool) (x : Operand) : List Prop × V :=
  match st.ev x with
  | .g c v => ([g = true → c = true], v)
  | v => ([], v)
theorem argC_ok {st : St} {g : Bool} {x : Operand} (hl : andL (argC st g x).1) : (st.arg g x).1 ∧ (st.arg g x).2 = (argC st g x).2 := by
  unfold argC at *
  unfold St.arg
  generalize st.ev x = e at *
  cases e with
  | g c v => exact ⟨hl.1, rfl⟩
  | c _ => exact ⟨trivial, rfl⟩
  | agg _ => exact ⟨trivial, rfl⟩
  | tup _ => exact ⟨trivial, rfl⟩
  | undef => exact ⟨trivial, rfl⟩
def argsC (st : St) (g : Bool) : List Operand → List Prop × List V
  | [] => ([], [])
  | x :: xs => ((argC st g x).1 ++ (argsC st g xs).1, (argC st g x).2 :: (argsC st g xs).2)
theorem argsC_ok {st : St} {g : Bool} : ∀ {xs : List Operand}, andL (argsC st g xs).1 → (st.args g xs).1 ∧ (st.args g xs).2 = (argsC st g xs).2
  | [], _ => ⟨trivial, rfl⟩
  | x :: xs, hl => by
    obtain ⟨h1, h2⟩ := andL_append.1 hl
    have a := argC_ok (st := st) (g := g) (x := x) h1
    have b := argsC_ok (st := st) (g := g) (xs := xs) h2
    simp only [St.args, argsC]
    exact ⟨⟨a.1, b.1⟩, by rw [a.2, b.2]⟩

def stripO : V → Option (Option Bool × Bool)
  | .c (.bool q) => some (none, q)
  | .g c (.c (.bool q)) => some (some c, q)
  | _ => none
def condO (p : Prop) : Option Bool → List Prop
  | none => []
  | some c => [p → c = true]
theorem stripO_spec {v : V} {c : Option Bool} {q : Bool} (h : stripO v = some (c, q)) : stripB v = some (c.getD true, q) := by
  unfold stripO at h
  split at h <;> simp at h
  · obtain ⟨rfl, rfl⟩ := h; rfl
  · obtain ⟨rfl, rfl⟩ := h; rfl
theorem condO_spec {p : Prop} {c : Option Bool} (h : andL (condO p c)) : p → c.getD true = true := by
  cases c with
  | none => intro _; rfl
  | some c => exact h.1

def pickC (l : List Prop) (p : Bool) (a b : V) : CV :=
  match stripO a, stripO b with
  | some (ca, q), some (cb, r) => some (l ++ (condO (p = true) ca ++ condO (p = false) cb), .c (.bool (if p then q else r)))
  | _, _ => none

def loadC (P : Program) (t : TypeId) (st : St) (l : List Prop) : V → CV
  | .c (.ptr id off) => match tsz P t, st.look id with
    | some (ag, n), some e => ckB (Nat.ble (off + n) e.cs.length && (ag || Nat.blt 0 n)) (l, toV ag off n e.cs)
    | _, _ => none
  | .c (.iptr cs off) => match tsz P t with
    | some (ag, n) => ckB (Nat.ble (off + n) cs.length && (ag || Nat.blt 0 n)) (l, toV ag off n cs)
    | _ => none
  | _ => none
theorem loadC_sound {P : Program} {t : TypeId} {st : St} {l l' : List Prop} {x v : V} (h : loadC P t st l x = some (l', v)) : l = l' ∧ (loadV P t st x).1 ∧ (loadV P t st x).2 = v := by
  unfold loadC at h
  unfold loadV
  split at h
  · split at h
    · rename_i ag n e h1 h2
      obtain ⟨hb, hr⟩ := ckB_some h
      simp only [Prod.mk.injEq] at hr
      simp only [Bool.and_eq_true, Nat.ble_eq, Bool.or_eq_true, Nat.blt_eq] at hb
      simp only [h1, h2]
      exact ⟨hr.1, hb, hr.2⟩
    · cases h
  · split at h
    · rename_i ag n h1
      obtain ⟨hb, hr⟩ := ckB_some h
      simp only [Prod.mk.injEq] at hr
      simp only [Bool.and_eq_true, Nat.ble_eq, Bool.or_eq_true, Nat.blt_eq] at hb
      simp only [h1]
      exact ⟨hr.1, hb, hr.2⟩
    · cases h
  · cases h
/-- A load whose value is told. -/
def loadT (P : Program) (t : TypeId) (st : St) (l : List Prop) (u : V) : V → CV
  | .c (.ptr id off) => match tsz P t, st.look id with
    | some (ag, n), some e => ckB (ag || Nat.blt 0 n) (l ++ [off + n ≤ e.cs.length ∧ toV ag off n e.cs = u], u)
    | _, _ => none
  | .c (.iptr cs off) => match tsz P t with
    | some (ag, n) => ckB (ag || Nat.blt 0 n) (l ++ [off + n ≤ cs.length ∧ toV ag off n cs = u], u)
    | _ => none
  | _ => none
theorem loadT_sound {P : Program} {t : TypeId} {st : St} {l l' : List Prop} {x u v : V} (h : loadT P t st l u x = some (l', v)) (hl : andL l') : andL l ∧ (loadV P t st x).1 ∧ (loadV P t st x).2 = v := by
  unfold loadT at h
  unfold loadV
  split at h
  · split at h
    · rename_i ag n e h1 h2
      obtain ⟨hb, hr⟩ := ckB_some h
      simp only [Prod.mk.injEq] at hr
      obtain ⟨rfl, rfl⟩ := hr
      obtain ⟨q1, q2, _⟩ := andL_append.1 hl
      simp only [Bool.or_eq_true, Nat.blt_eq] at hb
      simp only [h1, h2]
      exact ⟨q1, ⟨q2.1, hb⟩, q2.2⟩
    · cases h
  · split at h
    · rename_i ag n h1
      obtain ⟨hb, hr⟩ := ckB_some h
      simp only [Prod.mk.injEq] at hr
      obtain ⟨rfl, rfl⟩ := hr
      obtain ⟨q1, q2, _⟩ := andL_append.1 hl
      simp only [Bool.or_eq_true, Nat.blt_eq] at hb
      simp only [h1]
      exact ⟨q1, ⟨q2.1, hb⟩, q2.2⟩
    · cases h
  · cases h

def kEq : BinOp → IntKind → IntKind → Bool
  | .shl, _, _ | .shr, _, _ => true
  | _, k, k' => k == k'
theorem kEq_spec {op : BinOp} {k k' : IntKind} (h : kEq op k k' = true) : sameKind op k k' := by
  unfold kEq at h
  unfold sameKind
  cases op <;> simp_all
def intC (op : BinOp) (b : Int) : List Prop :=
  match op with
  | .quo | .rem => [b ≠ 0]
  | .shl | .shr => [0 ≤ b]
  | _ => []
theorem intC_spec {op : BinOp} {k : IntKind} {a b : Int} (h : andL (intC op b)) : (intOp op k a b).1 := by
  cases op <;> simp_all [intC, intOp, andL]
def strC (op : BinOp) (a b : List UInt8) : Option (List Prop) :=
  match op with
  | .add => some [a.length + b.length ≤ maxLen]
  | .eql | .neq | .lss | .leq | .gtr | .geq => some []
  | _ => none
theorem strC_spec {op : BinOp} {a b : List UInt8} {l : List Prop} (h : strC op a b = some l) (hl : andL l) : (strOp op a b).1 := by
  cases op <;> simp_all [strC, strOp] <;> (subst h; exact hl.1)
def binC (P : Program) (op : BinOp) (t : TypeId) (kc : Bool) (l : List Prop) : V → V → CV
  | .c (.int k a), .c (.int k' b) => ckB (kEq op k k') (l ++ intC op b, .c (intOp op k a b).2)
  | .c (.str a), .c (.str b) => match strC op a b with
    | some c => some (l ++ c, .c (strOp op a b).2)
    | none => none
  | .agg cs, .agg ds => match op with
    | .eql => ckB (okEq P t cs ds) (l, .c (.bool (ceqL cs ds)))
    | .neq => ckB (okEq P t cs ds) (l, .c (.bool !(ceqL cs ds)))
    | _ => none
  | x, y => some (l ++ [(binV P op t kc x y).1], (binV P op t kc x y).2)
def bin2 (P : Program) (op : BinOp) (t : TypeId) (k : Bool) (x y : V) : Prop × V :=
  match x, y with
  | .agg cs, .agg ds => aggV P op t cs ds
  | x, y => binV P op t k x y
theorem binC_sound {P : Program} {op : BinOp} {t : TypeId} {kc : Bool} {l l' : List Prop} {x y v : V} (h : binC P op t kc l x y = some (l', v)) (hl : andL l') : andL l ∧ (bin2 P op t kc x y).1 ∧ (bin2 P op t kc x y).2 = v := by
  unfold binC at h
  split at h
  · obtain ⟨hb, hr⟩ := ckB_some h
    simp only [Prod.mk.injEq] at hr
    obtain ⟨rfl, rfl⟩ := hr
    obtain ⟨q1, q2⟩ := andL_append.1 hl
    exact ⟨q1, ⟨kEq_spec hb, intC_spec q2⟩, rfl⟩
  · split at h
    · rename_i c hc
      simp only [Option.some.injEq, Prod.mk.injEq] at h
      obtain ⟨rfl, rfl⟩ := h
      obtain ⟨q1, q2⟩ := andL_append.1 hl
      exact ⟨q1, strC_spec hc q2, rfl⟩
    · cases h
  · split at h
    · obtain ⟨hb, hr⟩ := ckB_some h
      simp only [Prod.mk.injEq] at hr
      exact ⟨hr.1 ▸ hl, hb, hr.2⟩
    · obtain ⟨hb, hr⟩ := ckB_some h
      simp only [Prod.mk.injEq] at hr
      exact ⟨hr.1 ▸ hl, hb, hr.2⟩
    · cases h
  · rename_i hne
    simp only [Option.some.injEq, Prod.mk.injEq] at h
    obtain ⟨rfl, rfl⟩ := h
    obtain ⟨q1, q2⟩ := andL_append.1 hl
    have e : bin2 P op t kc x y = binV P op t kc x y := by
      unfold bin2
      split <;> first | rfl | simp_all
    rw [e]
    exact ⟨q1, q2.1, rfl⟩

def idxC (P : Program) (t : TypeId) (st : St) (l : List Prop) (x y : V) : CV :=
  match y with
  | .c (.int _ i) => match x with
    | .c (.sl len cs) => match selem P t with
      | some (_, n) => some (l ++ [0 ≤ i ∧ i < len], .c (.iptr cs (i.toNat * n)))
      | none => none
    | .c (.osl id) => match selem P t, st.look id with
      | some (_, n), some e => match e.row with
        | some (_, _, len) => some (l ++ [0 ≤ i ∧ i < len], .c (.ptr id (i.toNat * n)))
        | none => none
      | _, _ => none
    | .c (.bsl id off len) => match selem P t with
      | some (_, n) => some (l ++ [0 ≤ i ∧ i < len], .c (.ptr id (off + i.toNat * n)))
      | none => none
    | .c (.ptr id off) => match aelem P t with
      | some (k, _, n) => some (l ++ [0 ≤ i ∧ i < k], .c (.ptr id (off + i.toNat * n)))
      | none => none
    | .c (.iptr cs off) => match aelem P t with
      | some (k, _, n) => some (l ++ [0 ≤ i ∧ i < k], .c (.iptr cs (off + i.toNat * n)))
      | none => none
    | _ => none
  | _ => none
theorem idxC_sound {P : Program} {t : TypeId} {st : St} {l l' : List Prop} {x y v : V} (h : idxC P t st l x y = some (l', v)) (hl : andL l') : andL l ∧ (indexAddrV P t st x y).1 ∧ (indexAddrV P t st x y).2 = v := by
  unfold idxC at h
  unfold indexAddrV
  split at h
  · split at h
    · split at h
      · rename_i h1
        simp only [Option.some.injEq, Prod.mk.injEq] at h
        obtain ⟨rfl, rfl⟩ := h
        obtain ⟨q1, q2, _⟩ := andL_append.1 hl
        simp only [h1]; exact ⟨q1, q2, trivial⟩
      · cases h
    · split at h
      · rename_i h1 h2
        split at h
        · rename_i h3
          simp only [Option.some.injEq, Prod.mk.injEq] at h
          obtain ⟨rfl, rfl⟩ := h
          obtain ⟨q1, q2, _⟩ := andL_append.1 hl
          simp only [h1, h2, h3]; exact ⟨q1, q2, trivial⟩
        · cases h
      · cases h
    · split at h
      · rename_i h1
        simp only [Option.some.injEq, Prod.mk.injEq] at h
        obtain ⟨rfl, rfl⟩ := h
        obtain ⟨q1, q2, _⟩ := andL_append.1 hl
        simp only [h1]; exact ⟨q1, q2, trivial⟩
      · cases h
    · split at h
      · rename_i h1
        simp only [Option.some.injEq, Prod.mk.injEq] at h
        obtain ⟨rfl, rfl⟩ := h
        obtain ⟨q1, q2, _⟩ := andL_append.1 hl
        simp only [h1]; exact ⟨q1, q2, trivial⟩
      · cases h
    · split at h
      · rename_i h1
        simp only [Option.some.injEq, Prod.mk.injEq] at h
        obtain ⟨rfl, rfl⟩ := h
        obtain ⟨q1, q2, _⟩ := andL_append.1 hl
        simp only [h1]; exact ⟨q1, q2, trivial⟩
      · cases h
    · cases h
  · cases h

/-- The bounds of a slice expression, in a list. -/
def cutC (P : Program) (t : TypeId) (l : List Prop) (x : V) (lo hi : Option V) : CV :=
  match x with
  | .c (.str s) => match bnds s.length lo hi with
    | some (a, h) => ckB (isStr P t) (l ++ [0 ≤ a ∧ a ≤ h ∧ h ≤ s.length], .c (.str ((s.drop a.toNat).take (h.toNat - a.toNat))))
    | none => none
  | .c (.sl len cs) => match selem P t, bnds len lo hi with
    | some (_, n), some (a, h) => some (l ++ [0 ≤ a ∧ a ≤ h ∧ h ≤ len, cs.length = len * n], .c (.sl (h.toNat - a.toNat) ((cs.drop (a.toNat * n)).take ((h.toNat - a.toNat) * n))))
    | _, _ => none
  | .c (.ptr id off) => match aelem P t with
    | some (k, _, n) => match bnds k lo hi with
      | some (a, h) => some (l ++ [0 ≤ a ∧ a < k ∧ a ≤ h ∧ h ≤ k], .c (.bsl id (off + a.toNat * n) (h.toNat - a.toNat)))
      | none => none
    | none => none
  | _ => none
theorem cutC_sound {P : Program} {t : TypeId} {l l' : List Prop} {x v : V} {lo hi : Option V} (h : cutC P t l x lo hi = some (l', v)) (hl : andL l') : andL l ∧ (sliceV P t x lo hi).1 ∧ (sliceV P t x lo hi).2 = v := by
  unfold cutC at h
  unfold sliceV
  split at h
  · split at h
    · rename_i a hh h1
      obtain ⟨hb, hr⟩ := ckB_some h
      simp only [Prod.mk.injEq] at hr
      obtain ⟨rfl, rfl⟩ := hr
      obtain ⟨q1, q2, _⟩ := andL_append.1 hl
      simp only [h1]; exact ⟨q1, ⟨hb, q2⟩, trivial⟩
    · cases h
  · split at h
    · rename_i h1 h2
      simp only [Option.some.injEq, Prod.mk.injEq] at h
      obtain ⟨rfl, rfl⟩ := h
      obtain ⟨q1, q2, q3, _⟩ := andL_append.1 hl
      simp only [h1, h2]; exact ⟨q1, ⟨q2.1, q2.2.1, q2.2.2, q3⟩, trivial⟩
    · cases h
  · split at h
    · rename_i h1
      split at h
      · rename_i h2
        simp only [Option.some.injEq, Prod.mk.injEq] at h
        obtain ⟨rfl, rfl⟩ := h
        obtain ⟨q1, q2, _⟩ := andL_append.1 hl
        simp only [h1, h2]; exact ⟨q1, q2, trivial⟩
      · cases h
    · cases h
  · cases h

def optC (st : St) (g : Bool) : Option Operand → List Prop × Option V
  | none => ([], none)
  | some x => ((argC st g x).1, some (argC st g x).2)
theorem optC_ok {st : St} {g : Bool} : ∀ {x : Option Operand}, andL (optC st g x).1 → (optArg st g x).1 ∧ (optArg st g x).2 = (optC st g x).2
  | none, _ => ⟨trivial, rfl⟩
  | some x, hl => by
    have := argC_ok (st := st) (g := g) (x := x) hl
    exact ⟨this.1, by simp only [optArg, optC, this.2]⟩

def fldC (P : Program) (s : TypeId) (f : Nat) (l : List Prop) : V → CV
  | .c (.ptr id off) => match fld P s f with
    | some (o, _, n) => ckB (Nat.blt 0 n) (l, .c (.ptr id (off + o)))
    | none => none
  | .c (.iptr cs off) => match fld P s f with
    | some (o, _, n) => ckB (Nat.blt 0 n) (l, .c (.iptr cs (off + o)))
    | none => none
  | _ => none
theorem fldC_sound {P : Program} {s : TypeId} {f : Nat} {l l' : List Prop} {x v : V} (h : fldC P s f l x = some (l', v)) : l = l' ∧ (fieldAddrV P s f x).1 ∧ (fieldAddrV P s f x).2 = v := by
  unfold fldC at h
  unfold fieldAddrV
  split at h
  · split at h
    · rename_i h1
      obtain ⟨hb, hr⟩ := ckB_some h
      simp only [Prod.mk.injEq] at hr
      simp only [h1]; exact ⟨hr.1, by simpa using hb, hr.2⟩
    · cases h
  · split at h
    · rename_i h1
      obtain ⟨hb, hr⟩ := ckB_some h
      simp only [Prod.mk.injEq] at hr
      simp only [h1]; exact ⟨hr.1, by simpa using hb, hr.2⟩
    · cases h
  · cases h
def fieldC (P : Program) (t : TypeId) (f : Nat) (l : List Prop) : V → CV
  | .agg cs => match fld P t f with
    | some (o, ag, n) => ckB (Nat.ble (o + n) cs.length && (ag || Nat.blt 0 n)) (l, toV ag o n cs)
    | none => none
  | _ => none
theorem fieldC_sound {P : Program} {s : TypeId} {f : Nat} {l l' : List Prop} {x v : V} (h : fieldC P s f l x = some (l', v)) : l = l' ∧ (fieldV P s f x).1 ∧ (fieldV P s f x).2 = v := by
  unfold fieldC at h
  unfold fieldV
  split at h
  · split at h
    · rename_i h1
      obtain ⟨hb, hr⟩ := ckB_some h
      simp only [Prod.mk.injEq] at hr
      simp only [Bool.and_eq_true, Nat.ble_eq, Bool.or_eq_true, Nat.blt_eq] at hb
      simp only [h1]; exact ⟨hr.1, hb, hr.2⟩
    · cases h
  · cases h
def idx2C (P : Program) (t : TypeId) (l : List Prop) (x y : V) (u : Option V) : CV :=
  match y with
  | .c (.int _ i) => match x with
    | .c (.str s) => ckB (isStr P t) (l ++ [0 ≤ i ∧ i < s.length], .c (.int .u8 (s.getD i.toNat 0).toNat))
    | .agg cs => match aelem P t with
      | some (k, e, n) => match tsz P e, u with
        | some (ag, _), some u => ckB (Nat.blt 0 n) (l ++ [(0 ≤ i ∧ i < k) ∧ i.toNat * n + n ≤ cs.length ∧ toV ag (i.toNat * n) n cs = u], u)
        | _, _ => none
      | none => none
    | _ => none
  | _ => none
theorem idx2C_sound {P : Program} {t : TypeId} {l l' : List Prop} {x y v : V} {u : Option V} (h : idx2C P t l x y u = some (l', v)) (hl : andL l') : andL l ∧ (indexV P t x y).1 ∧ (indexV P t x y).2 = v := by
  unfold idx2C at h
  unfold indexV
  split at h
  · split at h
    · obtain ⟨hb, hr⟩ := ckB_some h
      simp only [Prod.mk.injEq] at hr
      obtain ⟨rfl, rfl⟩ := hr
      obtain ⟨q1, q2, _⟩ := andL_append.1 hl
      exact ⟨q1, ⟨hb, q2⟩, rfl⟩
    · split at h
      · rename_i h1
        split at h
        · rename_i h2
          obtain ⟨hb, hr⟩ := ckB_some h
          simp only [Prod.mk.injEq] at hr
          obtain ⟨rfl, rfl⟩ := hr
          obtain ⟨q1, q2, _⟩ := andL_append.1 hl
          simp only [h1, h2]
          exact ⟨q1, ⟨q2.1.1, q2.1.2, q2.2.1, by simpa using hb⟩, q2.2.2⟩
        · cases h
      · cases h
    · cases h
  · cases h
def unC (op : UnOp) (l : List Prop) : V → CV
  | .c (.int k n) => match op with
    | .neg => some (l, .c (.int k (k.wrap (0 - n))))
    | .xor => some (l, .c (.int k (bXor k (if k.signed then -1 else k.max) n)))
    | _ => none
  | .c (.bool b) => match op with
    | .not => some (l, .c (.bool !b))
    | _ => none
  | _ => none
theorem unC_sound {op : UnOp} {l l' : List Prop} {x v : V} (h : unC op l x = some (l', v)) : l = l' ∧ (unV op x).1 ∧ (unV op x).2 = v := by
  unfold unC at h
  unfold unV
  split at h <;> (try split at h) <;> simp_all
def convC (P : Program) (src dst : TypeId) (st : St) (l : List Prop) : V → CV
  | .c (.int _ n) => match ikind P dst with
    | some k => ckB (hasU P src) (l, .c (.int k (k.wrap n)))
    | none => none
  | .c (.str s) => ckB (isStr P src && isStr P dst) (l, .c (.str s))
  | x => some (l ++ [(convV P src dst st x).1], (convV P src dst st x).2)
theorem convC_sound {P : Program} {src dst : TypeId} {st : St} {l l' : List Prop} {x v : V} (h : convC P src dst st l x = some (l', v)) (hl : andL l') : andL l ∧ (convV P src dst st x).1 ∧ (convV P src dst st x).2 = v := by
  unfold convC at h
  split at h
  · unfold convV
    split at h
    · rename_i h1
      obtain ⟨hb, hr⟩ := ckB_some h
      simp only [Prod.mk.injEq] at hr
      simp only [h1]; exact ⟨hr.1 ▸ hl, hb, hr.2⟩
    · cases h
  · unfold convV
    obtain ⟨hb, hr⟩ := ckB_some h
    simp only [Prod.mk.injEq] at hr
    exact ⟨hr.1 ▸ hl, by simpa using hb, hr.2⟩
  · simp only [Option.some.injEq, Prod.mk.injEq] at h
    obtain ⟨rfl, rfl⟩ := h
    obtain ⟨q1, q2, _⟩ := andL_append.1 hl
    exact ⟨q1, q2, rfl⟩
def lenC (P : Program) (t : TypeId) (st : St) (l : List Prop) : V → CV
  | .c (.str s) => ckB (isStr P t) (l, .c (.int .i64 s.length))
  | .c (.sl len _) => ckB (isSlice P t) (l, .c (.int .i64 len))
  | .c (.osl id) => match st.look id with
    | some e => match e.row with
      | some (_, _, len) => ckB (isSlice P t) (l, .c (.int .i64 len))
      | none => none
    | none => none
  | x => some (l ++ [(lenV P t st x).1], (lenV P t st x).2)
theorem lenC_sound {P : Program} {t : TypeId} {st : St} {l l' : List Prop} {x v : V} (h : lenC P t st l x = some (l', v)) (hl : andL l') : andL l ∧ (lenV P t st x).1 ∧ (lenV P t st x).2 = v := by
  unfold lenC at h
  split at h
  · obtain ⟨hb, hr⟩ := ckB_some h
    simp only [Prod.mk.injEq] at hr
    exact ⟨hr.1 ▸ hl, hb, hr.2⟩
  · obtain ⟨hb, hr⟩ := ckB_some h
    simp only [Prod.mk.injEq] at hr
    exact ⟨hr.1 ▸ hl, hb, hr.2⟩
  · unfold lenV
    split at h
    · rename_i h1
      split at h
      · rename_i h2
        obtain ⟨hb, hr⟩ := ckB_some h
        simp only [Prod.mk.injEq] at hr
        simp only [h1, h2]
        exact ⟨hr.1 ▸ hl, hb, hr.2⟩
      · cases h
    · cases h
  · simp only [Option.some.injEq, Prod.mk.injEq] at h
    obtain ⟨rfl, rfl⟩ := h
    obtain ⟨q1, q2, _⟩ := andL_append.1 hl
    exact ⟨q1, q2, rfl⟩

def rawC (P : Program) (st : St) (g : Bool) (op : Op) : Option V → CV
  | none => some ([(rdx P st g op).1], (rdx P st g op).2)
  | some u => some ([(rdx P st g op).1 ∧ (rdx P st g op).2 = u], u)
theorem rawC_sound {P : Program} {st : St} {g : Bool} {u : Option V} {op : Op} {l : List Prop} {v : V} (h : rawC P st g op u = some (l, v)) (hl : andL l) : (rdx P st g op).1 ∧ (rdx P st g op).2 = v := by
  cases u <;> simp only [rawC, Option.some.injEq, Prod.mk.injEq] at h <;> obtain ⟨rfl, rfl⟩ := h
  · exact ⟨hl.1, rfl⟩
  · exact hl.1
/-- The value of an operation that reads, and its conditions. -/
def op1 (P : Program) (st : St) (g : Bool) (u : Option V) : Op → CV
  | .move x => some (argC st g x)
  | .assign x => some (argC st g x)
  | .pick c a b => match (argC st g c).2 with
    | .c (.bool p) => pickC (argC st g c).1 p (st.ev a) (st.ev b)
    | _ => none
  | .load t x => match u with
    | none => loadC P t st (argC st g x).1 (argC st g x).2
    | some u => loadT P t st (argC st g x).1 u (argC st g x).2
  | .binOp op t x y _ => binC P op t (isConstO x || isConstO y) ((argC st g x).1 ++ (argC st g y).1) (argC st g x).2 (argC st g y).2
  | .unOp op _ x => unC op (argC st g x).1 (argC st g x).2
  | .convert src dst x => convC P src dst st (argC st g x).1 (argC st g x).2
  | .slice t x lo hi none => cutC P t ((argC st g x).1 ++ ((optC st g lo).1 ++ (optC st g hi).1)) (argC st g x).2 (optC st g lo).2 (optC st g hi).2
  | .fieldAddr s x f => fldC P s f (argC st g x).1 (argC st g x).2
  | .field t x f => fieldC P t f (argC st g x).1 (argC st g x).2
  | .indexAddr t x i => idxC P t st ((argC st g x).1 ++ (argC st g i).1) (argC st g x).2 (argC st g i).2
  | .index t x i => idx2C P t ((argC st g x).1 ++ (argC st g i).1) (argC st g x).2 (argC st g i).2 u
  | .call c => match c.callee, c.args.toList, c.argTypes.toList with
    | .builtin .len, [x], [t] => lenC P t st (argC st g x).1 (argC st g x).2
    | _, _, _ => rawC P st g (.call c) none
  | op => rawC P st g op u

theorem op1_sound {P : Program} {st : St} {g : Bool} {u : Option V} {op : Op} {l : List Prop} {v : V} (h : op1 P st g u op = some (l, v)) (hl : andL l) : (rdx P st g op).1 ∧ (rdx P st g op).2 = v := by
  have A : ∀ x, andL (argC st g x).1 → (st.arg g x).1 ∧ (st.arg g x).2 = (argC st g x).2 := fun x hx => argC_ok hx
  have O : ∀ x, andL (optC st g x).1 → (optArg st g x).1 ∧ (optArg st g x).2 = (optC st g x).2 := fun x hx => optC_ok hx
  cases op <;> simp only [op1] at h <;> try exact rawC_sound h hl
  case move x =>
    simp only [Option.some.injEq] at h
    have := A x (by rw [h]; exact hl)
    rw [h] at this
    simpa only [rdx, rd] using this
  case assign x =>
    simp only [Option.some.injEq] at h
    have := A x (by rw [h]; exact hl)
    rw [h] at this
    simpa only [rdx, rd] using this
  case pick c a b =>
    split at h
    · rename_i p hp
      unfold pickC at h
      split at h
      · rename_i ca q cb r h1 h2
        simp only [Option.some.injEq, Prod.mk.injEq] at h
        obtain ⟨rfl, rfl⟩ := h
        obtain ⟨q1, q2⟩ := andL_append.1 hl
        obtain ⟨q2, q3⟩ := andL_append.1 q2
        obtain ⟨k1, k2⟩ := A c q1
        rw [hp] at k2
        simp only [rdx, rd, bnd, k2, pickV, stripO_spec h1, stripO_spec h2]
        exact ⟨⟨k1, condO_spec q2, condO_spec q3⟩, trivial⟩
      · cases h
    · cases h
  case load t x =>
    split at h
    · have := loadC_sound h
      obtain ⟨k1, k2⟩ := A x (this.1 ▸ hl)
      simp only [rdx, rd, bnd, k2]
      exact ⟨⟨k1, this.2.1⟩, this.2.2⟩
    · have := loadT_sound h hl
      obtain ⟨k1, k2⟩ := A x this.1
      simp only [rdx, rd, bnd, k2]
      exact ⟨⟨k1, this.2.1⟩, this.2.2⟩
  case binOp op t x y ty =>
    have := binC_sound h hl
    obtain ⟨q1, q2⟩ := andL_append.1 this.1
    obtain ⟨k1, k2⟩ := A x q1
    obtain ⟨k3, k4⟩ := A y q2
    have e : rdx P st g (.binOp op t x y ty) = ((st.arg g x).1 ∧ (st.arg g y).1 ∧ (bin2 P op t (isConstO x || isConstO y) (st.arg g x).2 (st.arg g y).2).1, (bin2 P op t (isConstO x || isConstO y) (st.arg g x).2 (st.arg g y).2).2) := by
      simp only [rdx]
      unfold bin2
      split
      · rename_i cs ds e1 e2; simp only [e1, e2]
      · rename_i hne
        split
        · rename_i cs ds e1 e2; exact (hne cs ds e1 e2).elim
        · rfl
    rw [e, k2, k4]
    exact ⟨⟨k1, k3, this.2.1⟩, this.2.2⟩
  case unOp op t x =>
    have := unC_sound h
    obtain ⟨k1, k2⟩ := A x (this.1 ▸ hl)
    simp only [rdx, rd, bnd, k2]
    exact ⟨⟨k1, this.2.1⟩, this.2.2⟩
  case convert s d x =>
    have := convC_sound h hl
    obtain ⟨k1, k2⟩ := A x this.1
    simp only [rdx, rd, bnd, k2]
    exact ⟨⟨k1, this.2.1⟩, this.2.2⟩
  case slice t x lo hi mx =>
    cases mx with
    | some m => exact rawC_sound h hl
    | none =>
      have := cutC_sound h hl
      obtain ⟨q1, q2⟩ := andL_append.1 this.1
      obtain ⟨q2, q3⟩ := andL_append.1 q2
      obtain ⟨k1, k2⟩ := A x q1
      obtain ⟨k3, k4⟩ := O lo q2
      obtain ⟨k5, k6⟩ := O hi q3
      simp only [rdx, rd, bnd, k2, k4, k6]
      exact ⟨⟨k1, k3, k5, this.2.1⟩, this.2.2⟩
  case fieldAddr s x f =>
    have := fldC_sound h
    obtain ⟨k1, k2⟩ := A x (this.1 ▸ hl)
    simp only [rdx, rd, bnd, k2]
    exact ⟨⟨k1, this.2.1⟩, this.2.2⟩
  case field s x f =>
    have := fieldC_sound h
    obtain ⟨k1, k2⟩ := A x (this.1 ▸ hl)
    simp only [rdx, rd, bnd, k2]
    exact ⟨⟨k1, this.2.1⟩, this.2.2⟩
  case indexAddr t x y =>
    have := idxC_sound h hl
    obtain ⟨q1, q2⟩ := andL_append.1 this.1
    obtain ⟨k1, k2⟩ := A x q1
    obtain ⟨k3, k4⟩ := A y q2
    simp only [rdx, rd, bnd, k2, k4]
    exact ⟨⟨k1, k3, this.2.1⟩, this.2.2⟩
  case index t x y =>
    have := idx2C_sound h hl
    obtain ⟨q1, q2⟩ := andL_append.1 this.1
    obtain ⟨k1, k2⟩ := A x q1
    obtain ⟨k3, k4⟩ := A y q2
    simp only [rdx, rd, bnd, k2, k4]
    exact ⟨⟨k1, k3, this.2.1⟩, this.2.2⟩
  case call c =>
    split at h
    · rename_i x t h1 h2 h3
      have := lenC_sound h hl
      obtain ⟨k1, k2⟩ := A x this.1
      simp only [rdx, rd, h1, h2, h3, rdCall, bnd, k2]
      exact ⟨⟨k1, this.2.1⟩, this.2.2⟩
    · exact rawC_sound h hl
/-- The value told otherwise, if it is told. -/
def opT (P : Program) (st : St) (g : Bool) (u : Option V) (op : Op) : CV :=
  match u with
  | none => op1 P st g none op
  | some u => match op1 P st g (some u) op with
    | some (l, v) => some (l ++ [v = u], u)
    | none => none
theorem opT_sound {P : Program} {st : St} {g : Bool} {u : Option V} {op : Op} {l : List Prop} {v : V} (h : opT P st g u op = some (l, v)) (hl : andL l) : (rdx P st g op).1 ∧ (rdx P st g op).2 = v := by
  cases u with
  | none => simp only [opT] at h; exact op1_sound h hl
  | some u =>
    simp only [opT] at h
    split at h
    · rename_i l1 v1 h1
      simp only [Option.some.injEq, Prod.mk.injEq] at h
      obtain ⟨rfl, rfl⟩ := h
      obtain ⟨q1, q2, _⟩ := andL_append.1 hl
      obtain ⟨k1, k2⟩ := op1_sound h1 q1
      exact ⟨k1, k2.trans q2⟩
    · cases h
end Go.PL

/- The pure logic, part Y: a region run as a whole; loops as iterations. -/
namespace Go.PL
open Go Go.RowKit

inductive Stp where
  | a
  | v (x : V)
  | c (r : V)
  | e (len : Nat) (cs : List C)

/-- Cells told otherwise. -/
def told (s : Stp) (len : Nat) (cs : List C) (k : Nat → List C → List Prop → Option (List Prop × St)) : Option (List Prop × St) :=
  match s with
  | .e len' cs' => k len' cs' [len = len' ∧ cs = cs']
  | _ => k len cs []
theorem told_sound {s : Stp} {len : Nat} {cs : List C} {k : Nat → List C → List Prop → Option (List Prop × St)} {r : List Prop × St} (h : told s len cs k = some r) :
    ∃ len' cs' l, k len' cs' l = some r ∧ (andL l → len = len' ∧ cs = cs') := by
  cases s <;> simp only [told] at h <;> first
    | exact ⟨_, _, _, h, fun q => q.1⟩
    | exact ⟨_, _, _, h, fun _ => ⟨rfl, rfl⟩⟩

def rowLn (len : Nat) : Option (TypeId × Nat × Nat) → Option (TypeId × Nat × Nat)
  | some (E, n, _) => some (E, n, len)
  | none => none
def rowsOk (id : Bid) (len : Nat) : List Ent → Prop
  | [] => True
  | e :: es => match e.id == id with
    | true => rowLn len e.row = e.row ∧ rowsOk id len es
    | false => rowsOk id len es
def St.setR (st : St) (id : Bid) (cs : List C) (q : Bool) (len : Nat) : St := { st with so := st.so.map fun e => match e.id == id with
  | true => ⟨e.id, rowLn len e.row, cs, e.pu && q⟩
  | false => e }
theorem setR_eq {st : St} {id : Bid} {cs : List C} {q : Bool} {len : Nat} (h : rowsOk id len st.so) : st.setR id cs q len = st.setCs id cs q := by
  have : ∀ l : List Ent, rowsOk id len l → (l.map fun e => match e.id == id with
      | true => (⟨e.id, rowLn len e.row, cs, e.pu && q⟩ : Ent)
      | false => e) = l.map fun e => if (e.id == id) = true then (⟨e.id, e.row, cs, e.pu && q⟩ : Ent) else e := by
    intro l
    induction l with
    | nil => intro _; rfl
    | cons e l ih =>
      intro h
      simp only [rowsOk] at h
      simp only [List.map_cons]
      cases hb : e.id == id with
      | true => rw [hb] at h; simp only at h; rw [ih h.2, h.1]; simp
      | false => rw [hb] at h; simp only at h; rw [ih h]; simp
  unfold St.setR St.setCs
  rw [this st.so h]
def storeC (P : Program) (st : St) (s : Stp) (d : Option Nat) (T : TypeId) (l : List Prop) (x y : V) : Option (List Prop × St) :=
  match x, y.cells, tsz P T with
  | .c (.ptr id off), some cs, some (_, n) => match st.look id with
    | some e => match s with
      | .e len' cs' => ckB (cs.length == n) (l ++ [off + n ≤ e.cs.length ∧ e.cs.take off ++ cs ++ e.cs.drop (off + cs.length) = cs', rowsOk id len' st.so], (st.setR id cs' (pureL cs) len').put d .undef)
      | _ => ckB (cs.length == n && Nat.ble (off + n) e.cs.length) (l, (st.setCs id (e.cs.take off ++ cs ++ e.cs.drop (off + cs.length)) (pureL cs)).put d .undef)
    | none => none
  | _, _, _ => none
theorem storeC_sound {P : Program} {st st' : St} {s : Stp} {d : Option Nat} {T : TypeId} {l l' : List Prop} {x y : V} (h : storeC P st s d T l x y = some (l', st')) (hl : andL l') :
    andL l ∧ (storeE P st T x y).1 ∧ (storeE P st T x y).2.put d .undef = st' := by
  unfold storeC at h
  unfold storeE
  split at h
  · rename_i id off cs ag n h1 h2
    split at h
    · rename_i e he
      split at h
      · rename_i len cs'
        obtain ⟨hb, hr⟩ := ckB_some h
        simp only [Prod.mk.injEq] at hr
        obtain ⟨rfl, rfl⟩ := hr
        obtain ⟨q1, q2, q3, _⟩ := andL_append.1 hl
        simp only [h1, h2, he]
        exact ⟨q1, ⟨by simpa using hb, q2.1⟩, by rw [q2.2, setR_eq q3]⟩
      · obtain ⟨hb, hr⟩ := ckB_some h
        simp only [Prod.mk.injEq] at hr
        obtain ⟨rfl, rfl⟩ := hr
        simp only [Bool.and_eq_true, Nat.ble_eq, beq_iff_eq] at hb
        simp only [h1, h2, he]
        exact ⟨hl, hb, trivial⟩
    · cases h
  · cases h

def srcC (st : St) (n : Nat) : V → Option (List Prop × Nat × List C × Bool)
  | .c (.sl m cs) => some ([cs.length = m * n], m, cs, true)
  | .c (.osl id) => match st.look id with
    | some e => match e.row with
      | some (_, n', m) => ckB (n' == n) ([], m, e.cs, e.pu)
      | none => none
    | none => none
  | _ => none
theorem srcC_sound {st : St} {n : Nat} {x : V} {l : List Prop} {r : Nat × List C × Bool} (h : srcC st n x = some (l, r)) (hl : andL l) : srcOf st n x = some r := by
  unfold srcC at h
  unfold srcOf
  split at h
  · simp only [Option.some.injEq, Prod.mk.injEq] at h
    obtain ⟨rfl, rfl⟩ := h
    exact if_pos hl.1
  · split at h
    · rename_i h1
      split at h
      · rename_i h2
        obtain ⟨hb, hr⟩ := ckB_some h
        simp only [Prod.mk.injEq] at hr
        simp only [h1, h2]
        rw [if_pos (by simpa using hb)]
        exact congrArg some hr.2
      · cases h
    · cases h
  · cases h

def appendC (P : Program) (st : St) (s : Stp) (d : Nat) (t : TypeId) (l : List Prop) (u x : V) : Option (List Prop × St) :=
  match u, selemB P t with
  | .c (.osl id), some (E, n, by') => match st.look id, srcC st n x with
    | some e, some (l2, m, cs, q) => match e.row with
      | some (E', n', len) => match E' == E && n' == n && Nat.blt 0 n with
        | true => told s (len + m) (e.cs ++ cs) fun len' cs' l3 =>
          some (l ++ (l2 ++ (l3 ++ [(len + m) * by' ≤ 140737488355328 ∧ len + m ≤ maxLen])), (st.new ⟨id, some (E, n, len'), cs', e.pu && q⟩).put (some d) (.c (.osl id)))
        | false => none
      | none => none
    | _, _ => none
  | _, _ => none
theorem appendC_sound {P : Program} {st st' : St} {s : Stp} {d : Nat} {t : TypeId} {l l' : List Prop} {u x : V} (h : appendC P st s d t l u x = some (l', st')) (hl : andL l') :
    andL l ∧ (appendE P st d t u x).1 ∧ (appendE P st d t u x).2 = st' := by
  unfold appendC at h
  unfold appendE
  split at h
  · rename_i id E n by' h1
    split at h
    · rename_i e l2 m cs q h2 h3
      split at h
      · rename_i E' n' len h4
        split at h
        · rename_i hb
          obtain ⟨len', cs', l3, hk, ht⟩ := told_sound h
          simp only [Option.some.injEq, Prod.mk.injEq] at hk
          obtain ⟨rfl, rfl⟩ := hk
          obtain ⟨q1, q2⟩ := andL_append.1 hl
          obtain ⟨q2, q3⟩ := andL_append.1 q2
          obtain ⟨q3, q4, _⟩ := andL_append.1 q3
          obtain ⟨rfl, rfl⟩ := ht q3
          simp only [Bool.and_eq_true, beq_iff_eq, Nat.blt_eq] at hb
          simp only [h1, h2, srcC_sound h3 q2, h4]
          exact ⟨q1, ⟨hb.1.1, hb.1.2, hb.2, q4⟩, trivial⟩
        · cases h
      · cases h
    · cases h
  · cases h

def copyC (P : Program) (st : St) (s : Stp) (d : Nat) (t : TypeId) (l : List Prop) (x y : V) : Option (List Prop × St) :=
  match x, y, s with
  | .c (.bsl id off len), .c (.bsl id2 off2 len2), .e len' cs' => match selem P t with
    | some (_, 1) => match st.look id, st.look id2 with
      | some e, some e2 => ckB (Nat.ble (off + Nat.min len2 len) e.cs.length && Nat.ble (off2 + Nat.min len2 len) e2.cs.length) (l ++ [e.cs.take off ++ (e2.cs.drop off2).take (Nat.min len2 len) ++ e.cs.drop (off + ((e2.cs.drop off2).take (Nat.min len2 len)).length) = cs', rowsOk id len' st.so],
          (st.setR id cs' (pureL ((e2.cs.drop off2).take (Nat.min len2 len))) len').put (some d) (.c (.int .i64 (Nat.min len2 len : Nat))))
      | _, _ => none
    | _ => none
  | _, _, _ => none
theorem copyC_sound {P : Program} {st st' : St} {s : Stp} {d : Nat} {t : TypeId} {l l' : List Prop} {x y : V} (h : copyC P st s d t l x y = some (l', st')) (hl : andL l') :
    andL l ∧ (copyE P st d t x y).1 ∧ (copyE P st d t x y).2 = st' := by
  unfold copyC at h
  unfold copyE
  split at h
  · rename_i id off len id2 off2 len2 len' cs'
    split at h
    · rename_i E h0
      split at h
      · rename_i e e2 h1 h2
        obtain ⟨hb, hr⟩ := ckB_some h
        simp only [Prod.mk.injEq] at hr
        obtain ⟨rfl, rfl⟩ := hr
        obtain ⟨q1, q2, q3, _⟩ := andL_append.1 hl
        simp only [Bool.and_eq_true, Nat.ble_eq] at hb
        simp only [h0, h1, h2]
        exact ⟨q1, hb, by rw [q2, setR_eq q3]⟩
      · cases h
    · cases h
  · cases h

def makeC (P : Program) (st : St) (s : Stp) (d : Nat) (t : TypeId) (p : List Prop) (l c : V) : Option (List Prop × St) :=
  match l, c, selemB P t with
  | .c (.int _ l), .c (.int _ c), some (E, n, by') => match zeroL P E with
    | some z => match z.length == n && Nat.blt 0 n with
      | true => told s l.toNat (zerosL z l.toNat) fun len' cs' l3 => some (p ++ (l3 ++ [0 ≤ l ∧ l ≤ c ∧ c * by' ≤ 140737488355328 ∧ c ≤ maxLen]), (st.new ⟨d :: st.pre, some (E, n, len'), cs', true⟩).put (some d) (.c (.osl (d :: st.pre))))
      | false => none
    | none => none
  | _, _, _ => none
theorem makeC_sound {P : Program} {st st' : St} {s : Stp} {d : Nat} {t : TypeId} {p l' : List Prop} {l c : V} (h : makeC P st s d t p l c = some (l', st')) (hl : andL l') :
    andL p ∧ (makeE P st d t l c).1 ∧ (makeE P st d t l c).2 = st' := by
  unfold makeC at h
  unfold makeE
  split at h
  · rename_i h1
    split at h
    · rename_i h2
      split at h
      · rename_i hb
        obtain ⟨len', cs', l3, hk, ht⟩ := told_sound h
        simp only [Option.some.injEq, Prod.mk.injEq] at hk
        obtain ⟨rfl, rfl⟩ := hk
        obtain ⟨q1, q2⟩ := andL_append.1 hl
        obtain ⟨q2, q3, _⟩ := andL_append.1 q2
        obtain ⟨rfl, rfl⟩ := ht q2
        simp only [Bool.and_eq_true, beq_iff_eq, Nat.blt_eq] at hb
        simp only [h1, h2]
        exact ⟨q1, ⟨q3.1, q3.2.1, q3.2.2.1, q3.2.2.2, hb.1, hb.2⟩, trivial⟩
      · cases h
    · cases h
  · cases h

def partsC (st : St) (g : Bool) (ps : List (Nat × Operand)) : List Prop × List (Nat × V) :=
  match ps with
  | [] => ([], [])
  | (i, x) :: r => ((argC st g x).1 ++ (partsC st g r).1, (i, (argC st g x).2) :: (partsC st g r).2)
theorem partsC_ok {st : St} {g : Bool} : ∀ {ps : List (Nat × Operand)}, andL (partsC st g ps).1 → (st.parts g ps).1 ∧ (st.parts g ps).2 = (partsC st g ps).2
  | [], _ => ⟨trivial, rfl⟩
  | (i, x) :: r, hl => by
    obtain ⟨h1, h2⟩ := andL_append.1 hl
    have a := argC_ok (st := st) (g := g) (x := x) h1
    have b := partsC_ok (st := st) (g := g) (ps := r) h2
    simp only [St.parts, partsC]
    exact ⟨⟨a.1, b.1⟩, by rw [a.2, b.2]⟩

def bslC (P : Program) (st : St) (s : Stp) (d : Nat) (t : TypeId) (len : Nat) (ps : List (Nat × Operand)) : Option (List Prop × St) :=
  match selemB P t with
  | some (E, n, _) => match zeroL P E with
    | some z => match fillC (fun i => some (i * n, n)) (zerosL z len) ((partsC st true ps).2.map weakP) with
      | some cs => match z.length == n && Nat.blt 0 n && Nat.ble (len * n) (2 ^ 24) && pureL cs with
        | true => told s len cs fun len' cs' l3 => some ((partsC st true ps).1 ++ l3, (st.new ⟨d :: st.pre, some (E, n, len'), cs', true⟩).put (some d) (.c (.osl (d :: st.pre))))
        | false => none
      | none => none
    | none => none
  | none => none
theorem bslC_sound {P : Program} {st st' : St} {s : Stp} {d : Nat} {t : TypeId} {len : Nat} {ps : List (Nat × Operand)} {l' : List Prop} (h : bslC P st s d t len ps = some (l', st')) (hl : andL l') :
    (buildSliceE P st d t len ps).1 ∧ (buildSliceE P st d t len ps).2 = st' := by
  unfold bslC at h
  unfold buildSliceE
  split at h
  · rename_i h1
    split at h
    · rename_i h2
      split at h
      · rename_i h3
        split at h
        · rename_i hb
          obtain ⟨len', cs', l3, hk, ht⟩ := told_sound h
          simp only [Option.some.injEq, Prod.mk.injEq] at hk
          obtain ⟨rfl, rfl⟩ := hk
          obtain ⟨q1, q2⟩ := andL_append.1 hl
          obtain ⟨rfl, rfl⟩ := ht q2
          obtain ⟨k1, k2⟩ := partsC_ok q1
          simp only [Bool.and_eq_true, beq_iff_eq, Nat.blt_eq, Nat.ble_eq] at hb
          simp only [h1, h2, k2, h3, hb.2]
          exact ⟨⟨k1, hb.1.1.1, hb.1.1.2, hb.1.2⟩, trivial⟩
        · cases h
      · cases h
    · cases h
  · cases h

/-- The last state of an operation that makes or turns memory, and its conditions. -/
def ef1 (P : Program) (st : St) (s : Stp) (o : Oper) : Option (List Prop × St) :=
  match o.op with
  | .store T x y => storeC P st s o.dst T ((argC st true x).1 ++ (argC st true y).1) (argC st true x).2 (strR st (argC st true x).2 (strV y (argC st true y).2))
  | op => match o.dst with
    | none => none
    | some d => match op with
      | .alloc T => match zeroN P T with
        | some cs => some ([], (st.new ⟨d :: st.pre, none, cs, false⟩).put (some d) (.c (.ptr (d :: st.pre) 0)))
        | none => none
      | .box _ x => match (argC st true x).2.cells with
        | some cs => some ((argC st true x).1, (st.new ⟨d :: st.pre, none, cs, false⟩).put (some d) (.c (.ptr (d :: st.pre) 0)))
        | none => none
      | .assign (.const (.slice none 0 0)) => match selem P o.type with
        | some (E, n) => some ([], (st.new ⟨d :: st.pre, some (E, n, 0), [], true⟩).put (some d) (.c (.osl (d :: st.pre))))
        | none => none
      | .buildSlice t len ps => bslC P st s d t len ps.toList
      | .makeSlice t l c => makeC P st s d t ((argC st true l).1 ++ (argC st true c).1) (argC st true l).2 (argC st true c).2
      | .call c => match c.callee, c.args.toList, c.argTypes.toList with
        | .builtin .append, [u, x], [t, t'] => match t == t' with
          | true => appendC P st s d t ((argC st true u).1 ++ (argC st true x).1) (argC st true u).2 (argC st true x).2
          | false => none
        | .builtin .copy, [u, x], [t, _] => copyC P st s d t ((argC st true u).1 ++ (argC st true x).1) (argC st true u).2 (argC st true x).2
        | _, _, _ => none
      | _ => none
theorem ef1_sound {P : Program} {st st' : St} {s : Stp} {o : Oper} {l : List Prop} (h : ef1 P st s o = some (l, st')) (hl : andL l) : (PL.ef P st o).1 ∧ (PL.ef P st o).2 = st' := by
  have A : ∀ x, andL (argC st true x).1 → (st.arg true x).1 ∧ (st.arg true x).2 = (argC st true x).2 := fun x hx => argC_ok hx
  obtain ⟨dst, op, ty, pos, aft, gd⟩ := o
  cases op <;> cases dst <;> simp only [ef1] at h <;> simp only [PL.ef] <;> try (cases h; done)
  case store.none T x y =>
    have := storeC_sound h hl
    obtain ⟨q1, q2⟩ := andL_append.1 this.1
    obtain ⟨k1, k2⟩ := A x q1
    obtain ⟨k3, k4⟩ := A y q2
    rw [k2, k4]
    exact ⟨⟨k1, k3, this.2.1⟩, this.2.2⟩
  case store.some T x y d =>
    have := storeC_sound h hl
    obtain ⟨q1, q2⟩ := andL_append.1 this.1
    obtain ⟨k1, k2⟩ := A x q1
    obtain ⟨k3, k4⟩ := A y q2
    rw [k2, k4]
    exact ⟨⟨k1, k3, this.2.1⟩, this.2.2⟩
  case alloc.some T d =>
    split at h
    · rename_i cs hz
      simp only [Option.some.injEq, Prod.mk.injEq] at h
      obtain ⟨rfl, rfl⟩ := h
      simp only [hz]; exact ⟨trivial, trivial⟩
    · cases h
  case box.some T x d =>
    split at h
    · rename_i cs hz
      simp only [Option.some.injEq, Prod.mk.injEq] at h
      obtain ⟨rfl, rfl⟩ := h
      obtain ⟨k1, k2⟩ := A x hl
      simp only [k2, hz]; exact ⟨⟨k1, trivial⟩, trivial⟩
    · cases h
  case assign.some x d =>
    split at h
    all_goals first
      | (split at h
         · rename_i E n hE
           simp only [Option.some.injEq, Prod.mk.injEq] at h
           obtain ⟨rfl, rfl⟩ := h
           simp_all
         · cases h)
      | (rename_i q; simp_all; done)
      | (cases h; done)
      | simp_all
  case buildSlice.some t len ps d => exact bslC_sound h hl
  case makeSlice.some t a b d =>
    have := makeC_sound h hl
    obtain ⟨q1, q2⟩ := andL_append.1 this.1
    obtain ⟨k1, k2⟩ := A a q1
    obtain ⟨k3, k4⟩ := A b q2
    rw [k2, k4]
    exact ⟨⟨k1, k3, this.2.1⟩, this.2.2⟩
  case call.some c d =>
    split at h
    · rename_i u x t t' h1 h2 h3
      split at h
      · rename_i hb
        obtain rfl : t = t' := by simpa using hb
        have := appendC_sound h hl
        obtain ⟨q1, q2⟩ := andL_append.1 this.1
        obtain ⟨k1, k2⟩ := A u q1
        obtain ⟨k3, k4⟩ := A x q2
        simp only [h1, h2, h3]
        rw [k2, k4]
        exact ⟨⟨k1, k3, trivial, this.2.1⟩, this.2.2⟩
      · cases h
    · rename_i u x t t' h1 h2 h3
      have := copyC_sound h hl
      obtain ⟨q1, q2⟩ := andL_append.1 this.1
      obtain ⟨k1, k2⟩ := A u q1
      obtain ⟨k3, k4⟩ := A x q2
      simp only [h1, h2, h3]
      rw [k2, k4]
      exact ⟨⟨k1, k3, trivial, this.2.1⟩, this.2.2⟩
    · cases h

def Stp.u : Stp → Option V
  | .v x => some x
  | _ => none
/-- One operation. 'dr': in a region that draws its order. -/
def stepS (P : Program) (I : World → Prop) (dr : Bool) (ops : Array Oper) (o : Oper) (s : Stp) (st : St) : Option (List Prop × St) :=
  match o.guard with
  | none => match kindOf o.op with
    | .rd => match opT P st true s.u o.op with
      | some (l, v) => some (l, st.put o.dst v)
      | none => none
    | .cut x => match dr with
      | true => match opT P st true s.u o.op with
        | some (l, v) => some (l, st.put o.dst v)
        | none => none
      | false => match opT P (st.cutAt true x) true s.u o.op with
        | some (l, v) => some (l, (st.cutAt true x).put o.dst v)
        | none => none
    | .ef => match dr with
      | true => none
      | false => ef1 P st s o
    | .call f xs => match s with
      | .c r => match pureVs ((argsC st true xs).2.map (snapV st)) && (r.flat || (!dr && Nat.ble (topVs (argsC st true xs).2).length 1 && (topVs (argsC st true xs).2).all st.okFrz)) with
        | true => some ((argsC st true xs).1 ++ [PCall P I f ((argsC st true xs).2.map (snapV st)) (· = r)], match dr with
          | true => st.put o.dst r
          | false => st.after (topVs (argsC st true xs).2) o.dst r)
        | false => none
      | _ => none
    | .no => none
  | some (j, want) => match guardOf st ops j want with
    | some g => match kindOf o.op with
      | .rd => match opT P st g s.u o.op with
        | some ([], v) => some ([], st.put o.dst (.g g v))
        | some (l, v) => some ([g = true → andL l], st.put o.dst (.g g v))
        | none => none
      | .cut _ => match dr with
        | true => match opT P st g s.u o.op with
          | some ([], v) => some ([], st.put o.dst (.g g v))
          | some (l, v) => some ([g = true → andL l], st.put o.dst (.g g v))
          | none => none
        | false => none
      | .call f xs => match s with
        | .c r => match pureVs ((argsC st g xs).2.map (snapV st)) && (r.flat || (!dr && (topVs (argsC st g xs).2).isEmpty)) with
          | true => some ([g = true → andL (argsC st g xs).1 ∧ PCall P I f ((argsC st g xs).2.map (snapV st)) (· = r)], st.put o.dst (.g g r))
          | false => none
        | _ => none
      | .ef => match dr with
        | true => none
        | false => match ef1 P st s o with
          | some (l, st') => some (l ++ [g = true], st')
          | none => none
      | _ => none
    | none => none

def runS (P : Program) (I : World → Prop) (dr : Bool) (ops : Array Oper) : List Oper → List Stp → St → Option (List Prop × St)
  | [], [], st => some ([], st)
  | o :: rest, s :: ss, st => match stepS P I dr ops o s st with
    | some (l, st') => match runS P I dr ops rest ss st' with
      | some (l', st'') => some (l ++ l', st'')
      | none => none
    | none => none
  | _, _, _ => none

theorem arg_vals {st : St} {g : Bool} {x : Operand} : (st.arg g x).2 = (argC st g x).2 := by
  unfold argC St.arg
  generalize st.ev x = e
  cases e <;> rfl
theorem args_vals {st : St} {g : Bool} : ∀ {xs : List Operand}, (st.args g xs).2 = (argsC st g xs).2
  | [] => rfl
  | x :: xs => by simp only [St.args, argsC, arg_vals, args_vals (xs := xs)]
theorem stepS_wp {P : Program} {I : World → Prop} {ops : Array Oper} {o : Oper} {s : Stp} {st st' : St} {l : List Prop} {K : St → Prop} (h : stepS P I false ops o s st = some (l, st')) (hl : andL l) (hK : K st') : wpO P I ops o st K := by
  unfold stepS at h
  unfold wpO
  split at h
  · rename_i hg
    rw [hg]
    simp only
    unfold wp1
    right
    split at h
    · rename_i hk
      simp only [hk]
      split at h
      · rename_i l v ho
        simp only [Option.some.injEq, Prod.mk.injEq] at h
        obtain ⟨rfl, rfl⟩ := h
        obtain ⟨h1, h2⟩ := opT_sound ho hl
        exact ⟨h1, by rw [h2]; exact hK⟩
      · cases h
    · rename_i x hk
      simp only [hk]
      dsimp only at h
      split at h
      · rename_i l v ho
        simp only [Option.some.injEq, Prod.mk.injEq] at h
        obtain ⟨rfl, rfl⟩ := h
        obtain ⟨h1, h2⟩ := opT_sound ho hl
        exact ⟨h1, by rw [h2]; exact hK⟩
      · cases h
    · rename_i hk
      simp only [hk]
      obtain ⟨h1, h2⟩ := ef1_sound h hl
      exact ⟨h1, by rw [h2]; exact hK⟩
    · rename_i f xs hk
      simp only [hk]
      split at h
      · rename_i r
        split at h
        · rename_i hb
          simp only [Option.some.injEq, Prod.mk.injEq] at h
          obtain ⟨rfl, rfl⟩ := h
          obtain ⟨q1, q2, _⟩ := andL_append.1 hl
          obtain ⟨k1, k2⟩ := argsC_ok q1
          simp only [Bool.and_eq_true, Bool.or_eq_true, Bool.not_false, true_and, Nat.ble_eq, List.all_eq_true] at hb
          rw [k2]
          refine ⟨k1, hb.1, _, q2, fun r' hr' => ?_⟩
          subst hr'
          exact ⟨hb.2, hK⟩
        · cases h
      · cases h
    · cases h
  · rename_i j want hg
    rw [hg]
    simp only
    split at h
    · rename_i g hq
      rw [hq]
      simp only
      unfold wpG
      by_cases hef : kindOf o.op = .ef
      · left
        rw [hef] at h
        dsimp only at h
        split at h
        · rename_i l1 st1 h1
          simp only [Option.some.injEq, Prod.mk.injEq] at h
          obtain ⟨rfl, rfl⟩ := h
          obtain ⟨q1, q2, _⟩ := andL_append.1 hl
          refine ⟨fun _ => ?_, fun hf => by rw [q2] at hf; cases hf⟩
          unfold wp1
          right
          simp only [hef]
          obtain ⟨k1, k2⟩ := ef1_sound h1 q1
          exact ⟨k1, by rw [k2]; exact hK⟩
        · cases h
      right
      split at h
      · rename_i hk
        simp only [hk]
        split at h
        · rename_i v ho
          simp only [Option.some.injEq, Prod.mk.injEq] at h
          obtain ⟨rfl, rfl⟩ := h
          exact ⟨v, fun _ => opT_sound ho trivial, hK⟩
        · rename_i l v hne ho
          simp only [Option.some.injEq, Prod.mk.injEq] at h
          obtain ⟨rfl, rfl⟩ := h
          exact ⟨v, fun hgt => opT_sound ho (hl.1 hgt), hK⟩
        · cases h
      · cases h
      · rename_i f xs hk
        simp only [hk]
        split at h
        · rename_i r
          split at h
          · rename_i hb
            simp only [Option.some.injEq, Prod.mk.injEq] at h
            obtain ⟨rfl, rfl⟩ := h
            simp only [Bool.and_eq_true, Bool.or_eq_true, Bool.not_false, true_and, List.isEmpty_iff] at hb
            refine ⟨fun hgt => ?_, r, hb.2.imp id (fun q => by rw [args_vals]; exact q), fun hgt => ?_, hK⟩
            · obtain ⟨k1, k2⟩ := argsC_ok (hl.1 hgt).1
              rw [k2]
              exact ⟨k1, hb.1⟩
            · obtain ⟨k1, k2⟩ := argsC_ok (hl.1 hgt).1
              rw [k2]
              exact (hl.1 hgt).2
          · cases h
        · cases h
      · rename_i hk; exact absurd hk hef
      · cases h
    · cases h

theorem stepS_wq {P : Program} {I : World → Prop} {ops : Array Oper} {o : Oper} {s : Stp} {st st' : St} {l : List Prop} {K : St → Prop} (h : stepS P I true ops o s st = some (l, st')) (hl : andL l) (hK : K st') : wqO P I ops o st K := by
  unfold stepS at h
  unfold wqO
  split at h
  · rename_i hg
    rw [hg]
    simp only
    unfold wq1
    split at h
    · rename_i hk
      simp only [hk]
      split at h
      · rename_i l v ho
        simp only [Option.some.injEq, Prod.mk.injEq] at h
        obtain ⟨rfl, rfl⟩ := h
        obtain ⟨h1, h2⟩ := opT_sound ho hl
        exact ⟨h1, by rw [h2]; exact hK⟩
      · cases h
    · rename_i x hk
      simp only [hk]
      dsimp only at h
      split at h
      · rename_i l v ho
        simp only [Option.some.injEq, Prod.mk.injEq] at h
        obtain ⟨rfl, rfl⟩ := h
        obtain ⟨h1, h2⟩ := opT_sound ho hl
        exact ⟨h1, by rw [h2]; exact hK⟩
      · cases h
    · dsimp only at h; cases h
    · rename_i f xs hk
      simp only [hk]
      split at h
      · rename_i r
        split at h
        · rename_i hb
          simp only [Option.some.injEq, Prod.mk.injEq] at h
          obtain ⟨rfl, rfl⟩ := h
          obtain ⟨q1, q2, _⟩ := andL_append.1 hl
          obtain ⟨k1, k2⟩ := argsC_ok q1
          simp only [Bool.and_eq_true, Bool.or_eq_true, Bool.not_true, Bool.false_eq_true, false_and, or_false] at hb
          rw [k2]
          exact ⟨k1, hb.1, _, hb.2, q2, hK⟩
        · cases h
      · cases h
    · cases h
  · rename_i j want hg
    rw [hg]
    simp only
    split at h
    · rename_i g hq
      rw [hq]
      simp only
      unfold wqG
      split at h
      · rename_i hk
        simp only [hk]
        split at h
        · rename_i v ho
          simp only [Option.some.injEq, Prod.mk.injEq] at h
          obtain ⟨rfl, rfl⟩ := h
          exact ⟨v, fun _ => opT_sound ho trivial, hK⟩
        · rename_i l v hne ho
          simp only [Option.some.injEq, Prod.mk.injEq] at h
          obtain ⟨rfl, rfl⟩ := h
          exact ⟨v, fun hgt => opT_sound ho (hl.1 hgt), hK⟩
        · cases h
      · rename_i x hk
        simp only [hk]
        dsimp only at h
        split at h
        · rename_i v ho
          simp only [Option.some.injEq, Prod.mk.injEq] at h
          obtain ⟨rfl, rfl⟩ := h
          exact ⟨v, fun _ => opT_sound ho trivial, hK⟩
        · rename_i l v hne ho
          simp only [Option.some.injEq, Prod.mk.injEq] at h
          obtain ⟨rfl, rfl⟩ := h
          exact ⟨v, fun hgt => opT_sound ho (hl.1 hgt), hK⟩
        · cases h
      · rename_i f xs hk
        simp only [hk]
        split at h
        · rename_i r
          split at h
          · rename_i hb
            simp only [Option.some.injEq, Prod.mk.injEq] at h
            obtain ⟨rfl, rfl⟩ := h
            simp only [Bool.and_eq_true, Bool.or_eq_true, Bool.not_true, Bool.false_eq_true, false_and, or_false] at hb
            refine ⟨fun hgt => ?_, r, hb.2, fun hgt => ?_, hK⟩
            · obtain ⟨k1, k2⟩ := argsC_ok (hl.1 hgt).1
              rw [k2]
              exact ⟨k1, hb.1⟩
            · obtain ⟨k1, k2⟩ := argsC_ok (hl.1 hgt).1
              rw [k2]
              exact (hl.1 hgt).2
          · cases h
        · cases h
      · dsimp only at h; cases h
      · cases h
    · cases h

theorem runS_wp {P : Program} {I : World → Prop} {ops : Array Oper} : ∀ {l : List Oper} {ss : List Stp} {st st' : St} {cs : List Prop} {K : St → Prop}, runS P I false ops l ss st = some (cs, st') → andL cs → K st' → wpOps P I ops l st K
  | [], [], st, st', cs, K, h, _, hK => by
    simp only [runS, Option.some.injEq, Prod.mk.injEq] at h
    obtain ⟨rfl, rfl⟩ := h
    exact hK
  | o :: rest, s :: ss, st, st', cs, K, h, hl, hK => by
    simp only [runS] at h
    split at h
    · rename_i l1 st1 h1
      split at h
      · rename_i l2 st2 h2
        simp only [Option.some.injEq, Prod.mk.injEq] at h
        obtain ⟨rfl, rfl⟩ := h
        obtain ⟨q1, q2⟩ := andL_append.1 hl
        exact stepS_wp (K := fun s => wpOps P I ops rest s K) h1 q1 (runS_wp h2 q2 hK)
      · cases h
    · cases h
  | [], _ :: _, _, _, _, _, h, _, _ => by simp [runS] at h
  | _ :: _, [], _, _, _, _, h, _, _ => by simp [runS] at h
theorem runS_wq {P : Program} {I : World → Prop} {ops : Array Oper} : ∀ {l : List Oper} {ss : List Stp} {st st' : St} {cs : List Prop} {K : St → Prop}, runS P I true ops l ss st = some (cs, st') → andL cs → K st' → wqOps P I ops l st K
  | [], [], st, st', cs, K, h, _, hK => by
    simp only [runS, Option.some.injEq, Prod.mk.injEq] at h
    obtain ⟨rfl, rfl⟩ := h
    exact hK
  | o :: rest, s :: ss, st, st', cs, K, h, hl, hK => by
    simp only [runS] at h
    split at h
    · rename_i l1 st1 h1
      split at h
      · rename_i l2 st2 h2
        simp only [Option.some.injEq, Prod.mk.injEq] at h
        obtain ⟨rfl, rfl⟩ := h
        obtain ⟨q1, q2⟩ := andL_append.1 hl
        exact stepS_wq (K := fun s => wqOps P I ops rest s K) h1 q1 (runS_wq h2 q2 hK)
      · cases h
    · cases h
  | [], _ :: _, _, _, _, _, h, _, _ => by simp [runS] at h
  | _ :: _, [], _, _, _, _, h, _, _ => by simp [runS] at h

section
variable {P : Program} {F : Fr} {st : St}
theorem Holds.reg {id : Nat} {l : List Oper} {Q : Exit → St → Prop} {ss : List Stp} {cs : List Prop} {st' : St} (hr : runS P F.I false l.toArray l ss st = some (cs, st')) (hl : andL cs) (h : Q .normal st') : Holds P F (.region id l.toArray false) st Q :=
  Holds.region (runS_wp hr hl h)
theorem Holds.regQ {id : Nat} {l : List Oper} {Q : Exit → St → Prop} {ss : List Stp} {cs : List Prop} {st' : St} (h1 : P.follows .mixedOrders = true) (h2 : Region.lexB .any l.toArray = true) (hr : runS P F.I true l.toArray l ss st = some (cs, st')) (hl : andL cs) (h : Q .normal st') : Holds P F (.region id l.toArray true) st Q :=
  Holds.regionQ h1 h2 (runS_wq hr hl h)
theorem Holds.ifB {c : Operand} {x y : Code} {Q : Exit → St → Prop} (b : Bool) (hc : st.ev c = .c (.bool b)) (h1 : b = true → Holds P F x st Q) (h2 : b = false → Holds P F y st Q) : Holds P F (.cond c x y) st Q := Holds.cond hc h1 h2
theorem Holds.at {c : Code} {Q : Exit → St → Prop} (st' : St) (h : st = st') (hh : Holds P F c st' Q) : Holds P F c st Q := h ▸ hh

/-- A loop as an iteration. -/
def iter {σ ρ : Type} (B : σ → Option (σ ⊕ ρ)) : Nat → σ → Option ρ
  | 0, _ => none
  | n + 1, s => match B s with
    | some (.inl s') => iter B n s'
    | some (.inr r) => some r
    | none => none
theorem Holds.iter {σ ρ : Type} {B : σ → Option (σ ⊕ ρ)} (S : σ → St) {N : Nat} {s0 : σ} {o : ρ} {c : Code} {Q : Exit → St → Prop} (hi : PL.iter B N s0 = some o) (hl : Less st (S s0))
    (hb : ∀ s z, B s = some z → (∀ o', z = .inr o' → o' = o) → Holds P F c (S s) (thenQ (fun st' => ∃ s', z = .inl s' ∧ Less st' (S s')) Q)) : Holds P F (.loop c) st Q := by
  refine Holds.loop (X := Nat × σ) (fun x => S x.2) (fun x => PL.iter B x.1 x.2 = some o) (fun x => x.1) (N, s0) hi hl ?_
  intro ⟨n, s⟩ hx
  cases n with
  | zero => simp [PL.iter] at hx
  | succ n =>
    simp only [PL.iter] at hx
    cases hB : B s with
    | none => rw [hB] at hx; simp at hx
    | some z =>
      rw [hB] at hx
      cases z with
      | inl s' =>
        refine (hb s _ hB (fun o' e => by cases e)).mono fun e st' q => ?_
        cases e <;> simp only [thenQ] at q ⊢ <;> try exact q
        obtain ⟨s'', e, hl'⟩ := q
        injection e with e; subst e
        exact ⟨(n, s'), hx, Nat.lt_succ_self _, hl'⟩
      | inr r =>
        simp only [Option.some.injEq] at hx
        refine (hb s _ hB (fun o' e => by injection e with e; rw [← e]; exact hx)).mono fun e st' q => ?_
        cases e <;> simp only [thenQ] at q ⊢ <;> try exact q
        obtain ⟨s'', e, _⟩ := q
        cases e
end

/-! Partial functions. -/
def wrap64 (x : Int) : Int := IntKind.i64.wrap x
def gd {α : Type} [Inhabited α] (g : Bool) (o : Option α) : Option α := if g = true then o else some default
def idx {α : Type} [Inhabited α] (l : List α) (i : Int) : Option α := if 0 ≤ i ∧ i < l.length then some (l.getD i.toNat default) else none
def lsub {α : Type} (s : List α) (a b : Int) : Option (List α) := if 0 ≤ a ∧ a ≤ b ∧ b ≤ s.length then some ((s.drop a.toNat).take (b.toNat - a.toNat)) else none
def app {α : Type} (by' : Nat) (l m : List α) : Option (List α) := if (l.length + m.length) * by' ≤ 140737488355328 ∧ l.length + m.length ≤ maxLen then some (l ++ m) else none
def need (p : Prop) [Decidable p] : Option Unit := if p then some () else none

theorem bS {α β : Type} {o : Option α} {k : α → Option β} {r : β} (h : o.bind k = some r) : ∃ x, o = some x ∧ k x = some r := by
  cases o with
  | none => cases h
  | some x => exact ⟨x, rfl, h⟩
theorem iT {β : Type} {b : Bool} {x y : Option β} {r : β} (h : (if b = true then x else y) = some r) (hb : b = true) : x = some r := by rw [if_pos hb] at h; exact h
theorem iF {β : Type} {b : Bool} {x y : Option β} {r : β} (h : (if b = true then x else y) = some r) (hb : b = false) : y = some r := by rw [if_neg (by simp [hb])] at h; exact h
theorem sI {α : Type} {x y : α} (h : some x = some y) : x = y := Option.some.inj h

section
variable {α : Type} [Inhabited α] {l m r : List α} {i : Int} {x : α} {g : Bool}
theorem idx_b (h : idx l i = some x) : 0 ≤ i ∧ i < l.length := by unfold idx at h; split at h; · assumption
                                                                  · cases h
theorem idx_x (h : idx l i = some x) : x = l.getD i.toNat default := by unfold idx at h; split at h; · injection h with h; exact h.symm
                                                                        · cases h
theorem gd_t {o : Option α} (h : gd g o = some x) : g = true → o = some x := fun hg => by unfold gd at h; rw [if_pos hg] at h; exact h
theorem gidx_b (h : gd g (idx l i) = some x) : g = true → (0 ≤ i ∧ i < l.length) ∧ True := fun hg => ⟨idx_b (gd_t h hg), trivial⟩
omit [Inhabited α] in
theorem app_b {b : Nat} (h : app b l m = some r) : (l.length + m.length) * b ≤ 140737488355328 ∧ l.length + m.length ≤ maxLen := by unfold app at h; split at h; · assumption
                                                                                                                                    · cases h
omit [Inhabited α] in
theorem app_x {b : Nat} (h : app b l m = some r) : r = l ++ m := by unfold app at h; split at h; · injection h with h; exact h.symm
                                                                    · cases h
end
theorem need_b {p : Prop} [Decidable p] {u : Unit} (h : need p = some u) : p := by unfold need at h; split at h; · assumption
                                                                                   · cases h

/-! Cells. -/
def eI (k : IntKind) (v : Int) : List C := [.int k v]
def eB (v : Bool) : List C := [.bool v]
def eS (v : List UInt8) : List C := [.str v]
def eL {α : Type} (e : α → List C) (l : List α) : List C := [.sl l.length (l.flatMap e)]

/-- A part of an element that is read. -/
theorem elem_ld {α : Type} [Inhabited α] {l : List α} {i : Int} {x : α} {e : α → List C} {N : Nat} {o n : Nat} {ag : Bool} {v : V} {off : Nat} (hx : idx l i = some x) (hN : ∀ y, (e y).length = N) (hoff : off = i.toNat * N + o) (ho : o + n ≤ N) (h0 : ag = true ∨ 0 < n)
    (hv : toV ag o n (e x) = v) : off + n ≤ (l.flatMap e).length ∧ toV ag off n (l.flatMap e) = v := by
  have hb := idx_b hx
  have hxx := idx_x hx
  have hlt : i.toNat < l.length := by omega
  subst hoff
  rw [flat_len hN]
  constructor
  · have : (i.toNat + 1) * N ≤ l.length * N := Nat.mul_le_mul_right _ hlt
    rw [Nat.add_mul] at this
    omega
  · rw [← hv]
    unfold toV
    cases ag with
    | true => simp only [if_true]; rw [elem_part hN l default hlt o n ho, ← hxx]
    | false => simp only [Bool.false_eq_true, if_false]; rw [elem_get hN l default hlt o (by rcases h0 with h | h <;> first | (cases h; done) | omega), ← hxx]
/-! Results, decided. -/
def resB (P : Program) (st : St) : ResultVar → Option V
  | .tmp t => some (st.get t)
  | .cell t T => match loadC P T st [] (st.get t) with
    | some (_, v) => some v
    | none => none
def resBs (P : Program) (st : St) : List ResultVar → Option (List V)
  | [] => some []
  | x :: xs => match resB P st x, resBs P st xs with
    | some v, some vs => some (v :: vs)
    | _, _ => none
def outB (P : Program) (st : St) : List ResultVar → Option V
  | [x] => resB P st x
  | xs => match resBs P st xs with
    | some vs => some (.tup vs)
    | none => none
theorem resB_sound {P : Program} {st : St} {x : ResultVar} {v : V} (h : resB P st x = some v) : (rawR P st x).1 ∧ (rawR P st x).2 = v := by
  cases x with
  | tmp t => simp only [resB, Option.some.injEq] at h; exact ⟨trivial, h⟩
  | cell t T =>
    simp only [resB] at h
    split at h
    · rename_i l u hl
      injection h with h; subst h
      have := loadC_sound hl
      exact ⟨this.2.1, this.2.2⟩
    · cases h
theorem resBs_sound {P : Program} {st : St} : ∀ {xs : List ResultVar} {vs : List V}, resBs P st xs = some vs → (rawRs P st xs).1 ∧ (rawRs P st xs).2 = vs
  | [], vs, h => by simp only [resBs, Option.some.injEq] at h; subst h; exact ⟨trivial, rfl⟩
  | x :: xs, vs, h => by
    simp only [resBs] at h
    split at h
    · rename_i v us h1 h2
      injection h with h; subst h
      have a := resB_sound h1
      have b := resBs_sound h2
      exact ⟨⟨a.1, b.1⟩, by simp only [rawRs, a.2, b.2]⟩
    · cases h
theorem outB_raw {P : Program} {st : St} {xs : List ResultVar} {v : V} (h : outB P st xs = some v) : (rawOut P st xs).1 ∧ (rawOut P st xs).2 = v := by
  match xs with
  | [x] => exact resB_sound h
  | [] => simp only [outB, resBs, Option.some.injEq] at h; subst h; exact ⟨trivial, rfl⟩
  | x :: y :: xs =>
    simp only [outB] at h
    split at h
    · rename_i vs hv
      injection h with h; subst h
      have := resBs_sound hv
      exact ⟨this.1, by simp only [rawOut, this.2]⟩
    · cases h
theorem resV_raw {P : Program} {st : St} {x : ResultVar} : (resV P st x).1 = (rawR P st x).1 ∧ (resV P st x).2 = snapV st (rawR P st x).2 := by cases x <;> exact ⟨rfl, rfl⟩
theorem resVs_raw {P : Program} {st : St} : ∀ {xs : List ResultVar}, (resVs P st xs).1 = (rawRs P st xs).1 ∧ (resVs P st xs).2 = (rawRs P st xs).2.map (snapV st)
  | [] => ⟨rfl, rfl⟩
  | x :: xs => by
    have a := resV_raw (P := P) (st := st) (x := x)
    have b := resVs_raw (P := P) (st := st) (xs := xs)
    simp only [resVs, rawRs, a.1, a.2, b.1, b.2, List.map_cons, and_self]
def snapO (st : St) (rs : List ResultVar) : V → V
  | .tup vs => match rs with
    | [_] => .tup vs
    | _ => .tup (vs.map (snapV st))
  | v => snapV st v
/-- What a body owes at its end. -/
theorem bodyEnd {P : Program} {st : St} {rs : List ResultVar} {v r : V} {e : Exit} (he : e = .normal ∨ e = .ret) (h : outB P st rs = some v) (hs : snapO st rs v = r) (hp : r.pure = true) {r' : V} (hr : r = r') :
    (e = .normal ∨ e = .ret) ∧ (outV P st rs).1 ∧ (outV P st rs).2.pure = true ∧ (outV P st rs).2 = r' := by
  subst hr
  have key : (outV P st rs).1 ∧ (outV P st rs).2 = r := by
    match rs with
    | [x] =>
      have a := resB_sound h
      have b := resV_raw (P := P) (st := st) (x := x)
      simp only [outV]
      rw [b.1, b.2, a.2, ← hs]
      exact ⟨a.1, by cases v <;> rfl⟩
    | [] =>
      simp only [outB, resBs, Option.some.injEq] at h
      subst h; subst hs
      exact ⟨trivial, rfl⟩
    | x :: y :: xs =>
      simp only [outB] at h
      split at h
      · rename_i vs hv
        injection h with h; subst h
        have a := resBs_sound hv
        have b := resVs_raw (P := P) (st := st) (xs := x :: y :: xs)
        simp only [outV]
        rw [b.1, b.2, a.2, ← hs]
        exact ⟨a.1, rfl⟩
      · cases h
  exact ⟨he, key.1, by rw [key.2]; exact hp, key.2⟩

/-! Masks. -/
def maskL : List Bool → List V → List V
  | [], _ => []
  | true :: m, v :: vs => v :: maskL m vs
  | false :: m, _ :: vs => .undef :: maskL m vs
  | _ :: _, [] => []
theorem lessM : ∀ {m : List Bool} {l l' : List V}, m.length = l.length → maskL m l = l' → lessL l l'
  | [], [], l', _, h => by simp only [maskL] at h; subst h; trivial
  | true :: m, v :: vs, l', hl, h => by simp only [maskL] at h; subst h; exact ⟨.inr rfl, lessM (by simpa using hl) rfl⟩
  | false :: m, v :: vs, l', hl, h => by simp only [maskL] at h; subst h; exact ⟨.inl rfl, lessM (by simpa using hl) rfl⟩
  | [], _ :: _, _, hl, _ => by simp at hl
  | _ :: _, [], _, hl, _ => by simp at hl
section
variable {P : Program} {F : Fr} {st : St}
end
theorem sumL {α β γ : Type} {f : α → γ} {g : β → γ} {a : α} {r : γ} (h : Sum.elim f g (.inl a) = r) : f a = r := h
theorem sumR {α β γ : Type} {f : α → γ} {g : β → γ} {a : β} {r : γ} (h : Sum.elim f g (.inr a) = r) : g a = r := h
def FU : Nat := 9223372036854775807
theorem arr_ld {α : Type} [Inhabited α] {l : List α} {i : Int} {x : α} {e : α → List C} {N : Nat} {o n base : Nat} {ag : Bool} {v : V} {off : Nat} {cs pre post : List C} (hcs : cs = pre ++ (l.flatMap e ++ post)) (hb : pre.length = base) (hx : idx l i = some x) (hN : ∀ y, (e y).length = N) (hoff : off = base + (i.toNat * N + o)) (ho : o + n ≤ N) (h0 : ag = true ∨ 0 < n)
    (hv : toV ag o n (e x) = v) : off + n ≤ cs.length ∧ toV ag off n cs = v := by
  obtain ⟨h1, h2⟩ := elem_ld hx hN rfl ho h0 hv
  subst hcs hoff hb
  constructor
  · simp only [List.length_append]; omega
  · rw [← h2]
    unfold toV
    cases ag with
    | true =>
      simp only [if_true]
      rw [← List.drop_drop, List.drop_left, List.drop_append_of_le_length (by omega), List.take_append_of_le_length (by simp only [List.length_drop]; omega)]
    | false =>
      simp only [Bool.false_eq_true, if_false]
      have h3 : 0 < n := by rcases h0 with h | h <;> first | (cases h; done) | exact h
      simp only [List.getD_eq_getElem?_getD]
      rw [List.getElem?_append_right (by omega), Nat.add_sub_cancel_left, List.getElem?_append_left (by omega)]
end Go.PL

/- The pure logic, part Z: regions that draw their order, with effects: every order is looked at, each set of operations carried out once. -/
namespace Go.PL
open Go Go.RowKit

def bitsL (n k : Nat) : List Bool := (List.range k).map (Nat.testBit n)
theorem bitsL_len (n k : Nat) : (bitsL n k).length = k := by simp [bitsL]
theorem bitsL_set (n k i : Nat) : (bitsL n k).toArray.setIfInBounds i true = (bitsL (n ||| 2 ^ i) k).toArray := by
  apply Array.ext
  · simp [bitsL]
  · intro j h1 h2
    have hj : j < k := by simpa [bitsL] using h2
    have e : ((bitsL n k).toArray.setIfInBounds i true).toList = (bitsL n k).set i true := by simp
    have e2 : ((bitsL n k).toArray.setIfInBounds i true)[j] = ((bitsL n k).set i true)[j]'(by simp [bitsL, hj]) := by simp [← Array.getElem_toList]
    rw [e2, List.getElem_set]
    simp only [bitsL, List.getElem_toArray, List.getElem_map, List.getElem_range, Nat.testBit_or, Nat.testBit_two_pow]
    split
    · rename_i h; simp [h]
    · rename_i h; simp [h]
def rdyL (ops : Array Oper) (n : Nat) : List Nat := Region.ready .any ops (bitsL n ops.size).toArray
def closedB (ops : Array Oper) (nodes : List Nat) : Bool :=
  nodes.contains 0 && nodes.all fun n => (!(rdyL ops n).isEmpty || (bitsL n ops.size).all id) && (rdyL ops n).all fun i => nodes.contains (n ||| 2 ^ i)

/-- The entries laid in a fixed order. -/
def canS (ids : List Bid) (st : St) : St := { st with so := ids.filterMap fun i => st.so.find? fun e => e.id == i }
theorem canS_less (ids : List Bid) (hn : ids.Nodup) (st : St) : Less st (canS ids st) where
  len := rfl
  tm := fun _ => .inr rfl
  so := fun e he => by
    simp only [canS, List.mem_filterMap] at he
    obtain ⟨i, _, h⟩ := he
    exact List.mem_of_find?_eq_some h
  nd := fun _ => by
    have : ∀ ids : List Bid, ((ids.filterMap fun i => st.so.find? fun e => e.id == i).map (·.id)).Sublist ids := by
      intro ids
      induction ids with
      | nil => simp
      | cons i ids ih =>
        simp only [List.filterMap_cons]
        split
        · exact ih.cons _
        · rename_i e he
          have := List.find?_some he
          simp only [beq_iff_eq] at this
          simp only [List.map_cons, this]
          exact ih.cons_cons _
    exact List.Sublist.nodup (this ids) hn
  gh := ⟨rfl, fun _ => .inr rfl⟩
  pre := rfl

def stepN (P : Program) (I : World → Prop) (ops : Array Oper) (ss : List Stp) (ids : List Bid) (st : St) (i : Nat) : Option (List Prop × St) :=
  match ops[i]?, ss[i]? with
  | some o, some s => match stepS P I false ops o s st with
    | some (c, st') => some (c, canS ids st')
    | none => none
  | _, _ => none
def allN (P : Program) (I : World → Prop) (ops : Array Oper) (ss : List Stp) (ids : List Bid) (SL : Nat → St) (nodes : List Nat) : List (Option (List Prop × St)) :=
  nodes.flatMap fun n => (rdyL ops n).map fun i => stepN P I ops ss ids (SL n) i
def wantN (ops : Array Oper) (cs : List (List Prop)) (SL : Nat → St) (nodes : List Nat) : List (Option (List Prop × St)) :=
  nodes.flatMap fun n => (rdyL ops n).map fun i => some (cs.getD i [], SL (n ||| 2 ^ i))
theorem flat_eq {α β : Type} {f g : α → Nat → β} {r : α → List Nat} : ∀ {l : List α}, (l.flatMap fun n => (r n).map (f n)) = (l.flatMap fun n => (r n).map (g n)) → ∀ n ∈ l, ∀ i ∈ r n, f n i = g n i
  | [], _, n, hn, _, _ => by simp at hn
  | a :: l, h, n, hn, i, hi => by
    simp only [List.flatMap_cons] at h
    have hh := List.append_inj h (by simp)
    rcases List.mem_cons.1 hn with rfl | hn
    · have := hh.1
      have := List.map_inj_left.1 this
      exact this i hi
    · exact flat_eq hh.2 n hn i hi
def andLL : List (List Prop) → Prop
  | [] => True
  | l :: ls => andL l ∧ andLL ls
theorem andLL_get : ∀ {cs : List (List Prop)}, andLL cs → ∀ i, andL (cs.getD i [])
  | [], _, i => by simp [andL]
  | l :: ls, h, 0 => by simpa using h.1
  | l :: ls, h, i + 1 => by simpa using andLL_get h.2 i

section
variable {P : Program} {F : Fr} {st : St} {ops : Array Oper}
theorem wpO_sound {a : Act} {w : World} {G : Ctx} (h : R F st a w G) {o : Oper} {K : St → Prop} {Q : Exit → Act → World → Prop} (hs : wpO P F.I ops o st K) :
    if Region.wanted o (yielded ops a.tmps) = true then o.wp P a w (Nxt F K) Q else Nxt F K (a.put o.dst Go.undef) w := by
  unfold wpO at hs
  split at hs
  · rename_i hg
    rw [wanted_none hg, if_pos rfl]
    exact wp1_sound h hs
  · rename_i j want hg
    split at hs
    · rename_i g hq
      rw [guardOf_wanted h hg hq]
      exact wpG_sound h hs
    · exact hs.elim

def unl (l : List Bool) : Nat := (l.filter (! ·)).length
theorem unl_set : ∀ (l : List Bool) (i : Nat), l[i]? = some false → unl (l.set i true) + 1 = unl l
  | [], i, h => by simp at h
  | b :: l, 0, h => by simp at h; subst h; simp [unl]
  | b :: l, i + 1, h => by
    have := unl_set l i (by simpa using h)
    cases b <;> simp_all [unl] <;> omega
theorem unl_zero : ∀ (l : List Bool), unl l = 0 → l.all id = true
  | [], _ => rfl
  | true :: l, h => by simp [unl] at h ⊢; simpa using h
  | false :: l, h => by simp [unl] at h

theorem anyN {nodes : List Nat} {ss : List Stp} {ids : List Bid} {cs : List (List Prop)} {SL : Nat → St} {Q : Exit → St → Prop} (hcl : closedB ops nodes = true) (hids : ids.Nodup)
    (hst : allN P F.I ops ss ids SL nodes = wantN ops cs SL nodes) (hc : andLL cs) (hQ : ∀ n ∈ nodes, (bitsL n ops.size).all id = true → Q .normal (SL n)) :
    ∀ (fuel n : Nat) (a : Act) (w : World) (G : Ctx), n ∈ nodes → unl (bitsL n ops.size) ≤ fuel → R F (SL n) a w G →
      wpAny P .any ops (fun e a' w' => ∃ st' G', Q e st' ∧ R F st' a' w' G') fuel (bitsL n ops.size).toArray a w := by
  simp only [closedB, Bool.and_eq_true, List.all_eq_true, Bool.or_eq_true, Bool.not_eq_true', List.contains_iff_mem] at hcl
  have hall := flat_eq (r := rdyL ops) hst
  have rdyFalse : ∀ n i, i ∈ rdyL ops n → (bitsL n ops.size)[i]? = some false := by
    intro n i hi
    unfold rdyL Region.ready at hi
    simp only [List.mem_filter, List.mem_range, Bool.and_eq_true, Bool.not_eq_true'] at hi
    obtain ⟨h1, h2, _⟩ := hi
    have hlt : i < (bitsL n ops.size).length := by rw [bitsL_len]; exact h1
    rw [List.getElem?_eq_getElem hlt]
    simp [Array.getD_eq_getD_getElem?, hlt] at h2
    rw [h2]
  intro fuel
  induction fuel with
  | zero =>
    intro n a w G hn hu hR
    have hz := unl_zero _ (Nat.le_zero.1 hu)
    have hr : rdyL ops n = [] := by
      rcases hrr : rdyL ops n with _ | ⟨i, r⟩
      · rfl
      · have := rdyFalse n i (by rw [hrr]; simp)
        rw [List.all_eq_true] at hz
        have := hz false (List.mem_of_getElem? this)
        simp at this
    exact ⟨hr, _, G, hQ n hn hz, hR⟩
  | succ fuel ih =>
    intro n a w G hn hu hR
    refine ⟨fun hr => ?_, fun i hi => ?_⟩
    · have h2 := (hcl.2 n hn).1
      rcases h2 with h2 | h2
      · have : (rdyL ops n).isEmpty = true := by rw [show rdyL ops n = [] from hr]; rfl
        rw [this] at h2; cases h2
      · exact ⟨_, G, hQ n hn (by rw [List.all_eq_true]; exact h2), hR⟩
    · have hi' : i ∈ rdyL ops n := hi
      have hstep := hall n hn i hi'
      unfold stepN at hstep
      split at hstep
      · rename_i o s ho hs
        split at hstep
        · rename_i c st' hss
          simp only [Option.some.injEq, Prod.mk.injEq] at hstep
          obtain ⟨hcc, hst'⟩ := hstep
          have hwp := stepS_wp (K := fun s' => Less s' (SL (n ||| 2 ^ i))) hss (hcc ▸ andLL_get hc i) (hst' ▸ canS_less ids hids st')
          have hw := wpO_sound (Q := fun e a' w' => ∃ st' G', Q e st' ∧ R F st' a' w' G') hR hwp
          have hnext : ∀ a' w', Nxt F (fun s' => Less s' (SL (n ||| 2 ^ i))) a' w' → wpAny P .any ops (fun e a' w' => ∃ st' G', Q e st' ∧ R F st' a' w' G') fuel ((bitsL n ops.size).toArray.setIfInBounds i true) a' w' := by
            intro a' w' ⟨s', G', hl, hR'⟩
            rw [bitsL_set]
            refine ih (n ||| 2 ^ i) a' w' G' ((hcl.2 n hn).2 i hi') ?_ (hR'.less hl)
            have hb := rdyFalse n i hi'
            have e : bitsL (n ||| 2 ^ i) ops.size = (bitsL n ops.size).set i true := by
              have := congrArg Array.toList (bitsL_set n ops.size i)
              simpa using this.symm
            have := unl_set _ i hb
            rw [← e] at this
            omega
          unfold wpOp
          rw [ho]
          simp only
          by_cases hwt : Region.wanted o (yielded ops a.tmps) = true
          · rw [if_pos hwt] at hw ⊢
            exact .inl (Oper.wp_mono hnext hw)
          · rw [if_neg hwt] at hw ⊢
            exact hnext _ _ hw
        · cases hstep
      · cases hstep

/-- A region that draws its order. -/
theorem Holds.regN {rid : Nat} {l : List Oper} {Q : Exit → St → Prop} (nodes : List Nat) (full : Nat) (ss : List Stp) (ids : List Bid) (SL : Nat → St) (cs : List (List Prop)) (h1 : P.follows .mixedOrders = true) (hcl : closedB l.toArray nodes = true) (hfull : (nodes.all fun n => !(bitsL n l.length).all id || Nat.beq n full) = true) (hids : ids.Nodup)
    (h0 : Less st (SL 0)) (hst : allN P F.I l.toArray ss ids SL nodes = wantN l.toArray cs SL nodes) (hc : andLL cs) (hQ : Q .normal (SL full)) : Holds P F (.region rid l.toArray true) st Q := by
  intro a w G hR
  refine wp_region_any h1 ?_
  have hR' := (hR.less h0).same (w' := { w with drawn := w.drawn + 1 }) ⟨rfl, rfl, rfl⟩ ⟨Nat.le_refl _, fun _ _ => rfl⟩
  have h0' : bitsL 0 l.toArray.size = List.replicate l.toArray.size false := by
    apply List.ext_getElem <;> simp [bitsL]
  have key := anyN (P := P) (ops := l.toArray) (Q := Q) hcl hids hst hc (fun n hn hall => by
    have := List.all_eq_true.1 hfull n hn
    simp only [Bool.or_eq_true, Bool.not_eq_true'] at this
    rcases this with this | this
    · have : (bitsL n l.length).all id = true := by simpa using hall
      simp_all
    · rw [Nat.eq_of_beq_eq_true this]; exact hQ) l.toArray.size 0 a _ G (by
      simp only [closedB, Bool.and_eq_true, List.contains_iff_mem] at hcl
      exact hcl.1) (by
      rw [h0']; simp [unl]) hR'
  rw [h0'] at key
  simpa using key
end
end Go.PL
namespace Go.PL
open Go Go.RowKit
/-! Calls that are walked inside, in the midst of a region. -/
section
variable {P : Program} {I : World → Prop} {ops : Array Oper} {st st' : St} {K : St → Prop}
theorem runS_take : ∀ {l : List Oper} {n : Nat} {ss : List Stp} {st st' : St} {cs : List Prop}, runS P I false ops (l.take n) ss st = some (cs, st') → andL cs → wpOps P I ops (l.drop n) st' K → wpOps P I ops l st K
  | l, 0, ss, st, st', cs, h, hc, hK => by
    cases ss with
    | nil =>
      simp only [List.take_zero, runS, Option.some.injEq, Prod.mk.injEq] at h
      obtain ⟨rfl, rfl⟩ := h
      simpa using hK
    | cons => simp [runS] at h
  | [], n + 1, ss, st, st', cs, h, hc, hK => by
    cases ss with
    | nil =>
      simp only [List.take_nil, runS, Option.some.injEq, Prod.mk.injEq] at h
      obtain ⟨rfl, rfl⟩ := h
      simpa using hK
    | cons => simp [runS] at h
  | o :: l, n + 1, [], st, st', cs, h, hc, hK => by simp [runS] at h
  | o :: l, n + 1, s :: ss, st, st', cs, h, hc, hK => by
    simp only [List.take_succ_cons, runS] at h
    split at h
    · rename_i l1 st1 h1
      split at h
      · rename_i l2 st2 h2
        simp only [Option.some.injEq, Prod.mk.injEq] at h
        obtain ⟨rfl, rfl⟩ := h
        obtain ⟨q1, q2⟩ := andL_append.1 hc
        exact stepS_wp (K := fun s => wpOps P I ops l s K) h1 q1 (runS_take h2 q2 (by simpa using hK))
      · cases h
    · cases h
theorem Run.part {l : List Oper} (n : Nat) {ss : List Stp} {cs : List Prop} (st' : St) (h : runS P I false ops (l.take n) ss st = some (cs, st')) (hc : andL cs) (hK : wpOps P I ops (l.drop n) st' K) : wpOps P I ops l st K := runS_take h hc hK
theorem Run.whole {l : List Oper} {ss : List Stp} {cs : List Prop} (st' : St) (h : runS P I false ops l ss st = some (cs, st')) (hc : andL cs) (hK : K st') : wpOps P I ops l st K := runS_wp h hc hK
theorem Run.inl {l rest : List Oper} {o : Oper} (hl : l = o :: rest) (hg : o.guard = none) (h : Esc P I o st (fun st' => wpOps P I ops rest st' K)) : wpOps P I ops l st K := by
  subst hl
  simp only [wpOps, wpO, hg]
  exact .inl h
theorem Run.inlJ {X : Type} (S : X → St) (Φ : X → Prop) {l rest : List Oper} {o : Oper} (hl : l = o :: rest) (hg : o.guard = none) (h : Esc P I o st (fun st' => ∃ v, Φ v ∧ Less st' (S v))) (hK : ∀ v, Φ v → wpOps P I ops rest (S v) K) : wpOps P I ops l st K :=
  Run.inl hl hg fun F a w G Q hI hR => Oper.wp_mono (fun _ _ ⟨_, G', ⟨v, hv, hl⟩, hR'⟩ => ⟨S v, G', hK v hv, hR'.less hl⟩) (h F a w G Q hI hR)
theorem inQ.ret {rs : List ResultVar} {m : Nat} {pre : Bid} {d : Option Nat} {v : V} (h : outB P st rs = some v) (hK : K (st.back m pre d v)) : inQ P rs m pre d K .ret st := by
  have := outB_raw h
  exact ⟨this.1, by rw [this.2]; exact hK⟩
theorem inQ.normal {rs : List ResultVar} {m : Nat} {pre : Bid} {d : Option Nat} {v : V} (h : outB P st rs = some v) (hK : K (st.back m pre d v)) : inQ P rs m pre d K .normal st := by
  have := outB_raw h
  exact ⟨this.1, by rw [this.2]; exact hK⟩
end
end Go.PL
namespace Go.PL
open Go Go.RowKit
/-! Bytes. -/
end Go.PL
namespace Go.PL
open Go Go.RowKit
/-! Stores at an index. -/
theorem flat_split {α : Type} (e : α → List C) {N : Nat} (hN : ∀ y, (e y).length = N) : ∀ (l : List α) (k : Nat) (x : α), l[k]? = some x → l.flatMap e = (l.take k).flatMap e ++ (e x ++ (l.drop (k + 1)).flatMap e) ∧ ((l.take k).flatMap e).length = k * N
  | [], k, x, h => by simp at h
  | a :: l, 0, x, h => by simp at h; subst h; simp
  | a :: l, k + 1, x, h => by
    obtain ⟨h1, h2⟩ := flat_split e hN l k x (by simpa using h)
    constructor
    · rw [List.flatMap_cons, h1]; simp [List.append_assoc]
    · simp [h2, hN, Nat.add_mul]; omega
theorem set_split {α : Type} (e : α → List C) : ∀ (l : List α) (k : Nat) (x' : α), k < l.length → (l.set k x').flatMap e = (l.take k).flatMap e ++ (e x' ++ (l.drop (k + 1)).flatMap e)
  | [], k, x, h => by simp at h
  | a :: l, 0, x, h => by simp
  | a :: l, k + 1, x, h => by
    rw [List.set_cons_succ, List.flatMap_cons, set_split e l k x (by simpa using h)]
    simp [List.append_assoc]
theorem row_st {α : Type} [Inhabited α] {l : List α} {i : Int} {x x' : α} {e : α → List C} {N o off : Nat} {cs pre post : List C} (hx : idx l i = some x) (hN : ∀ y, (e y).length = N) (hoff : off = pre.length + (i.toNat * N + o)) (ho : o + cs.length ≤ N)
    (hx' : (e x).take o ++ (cs ++ (e x).drop (o + cs.length)) = e x') : off + cs.length ≤ (pre ++ (l.flatMap e ++ post)).length ∧
      (pre ++ (l.flatMap e ++ post)).take off ++ cs ++ (pre ++ (l.flatMap e ++ post)).drop (off + cs.length) = pre ++ ((l.set i.toNat x').flatMap e ++ post) := by
  have hb := idx_b hx
  have hlt : i.toNat < l.length := by omega
  have hk : l[i.toNat]? = some x := by
    rw [idx_x hx, List.getElem?_eq_getElem hlt, List.getD_eq_getElem?_getD, List.getElem?_eq_getElem hlt]; rfl
  obtain ⟨h1, h2⟩ := flat_split e hN l i.toNat x hk
  have h3 := set_split e l i.toNat x' hlt
  have hex := hN x
  rw [h1, h3, ← hx']
  subst hoff
  generalize (l.take i.toNat).flatMap e = A at *
  generalize (l.drop (i.toNat + 1)).flatMap e = B at *
  generalize e x = X at *
  constructor
  · simp only [List.length_append]; omega
  · have e1 : pre ++ (A ++ (X ++ B) ++ post) = (pre ++ (A ++ X.take o)) ++ ((X.drop o).take cs.length ++ (X.drop (o + cs.length) ++ (B ++ post))) := by
      have : X = X.take o ++ ((X.drop o).take cs.length ++ X.drop (o + cs.length)) := by
        rw [← List.drop_drop, List.take_append_drop, List.take_append_drop]
      conv => lhs; rw [this]
      simp only [List.append_assoc]
    have l1 : (pre ++ (A ++ X.take o)).length = pre.length + (i.toNat * N + o) := by simp only [List.length_append, List.length_take]; omega
    have l2 : ((X.drop o).take cs.length).length = cs.length := by simp only [List.length_take, List.length_drop]; omega
    generalize (X.drop o).take cs.length = M at *
    generalize X.drop (o + cs.length) = Z at *
    rw [e1, ← l1, List.take_left, ← List.drop_drop, List.drop_left, ← l2, List.drop_left]
    simp only [List.append_assoc]
theorem arr_st {α : Type} [Inhabited α] {l l' : List α} {i : Int} {x x' : α} {e : α → List C} {N o off base : Nat} {c0 c1 cs pre post : List C} (hc0 : c0 = pre ++ (l.flatMap e ++ post)) (hb : pre.length = base) (hc1 : c1 = pre ++ (l'.flatMap e ++ post)) (hl : l' = l.set i.toNat x') (hx : idx l i = some x) (hN : ∀ y, (e y).length = N)
    (hoff : off = base + (i.toNat * N + o)) (ho : o + cs.length ≤ N) (hx' : (e x).take o ++ (cs ++ (e x).drop (o + cs.length)) = e x') : off + cs.length ≤ c0.length ∧ c0.take off ++ cs ++ c0.drop (off + cs.length) = c1 := by
  subst hc0 hc1 hl hb
  exact row_st hx hN hoff ho hx'
end Go.PL
namespace Go.PL
open Go Go.RowKit
/-! States told by what is still wanted of them. -/
def slots : Nat → Nat → List (Nat × V) → List V
  | 0, _, _ => []
  | n + 1, i, [] => .undef :: slots n (i + 1) []
  | n + 1, i, (j, v) :: l => match Nat.beq i j with
    | true => v :: slots n (i + 1) l
    | false => .undef :: slots n (i + 1) ((j, v) :: l)
def V.isDef : V → Bool
  | .undef => false
  | _ => true
def trimS (st st' : St) : St := ⟨maskL (st'.tm.map V.isDef) st.tm, st.so.filter (fun e => st'.so.any fun e' => e'.id == e.id), maskL (st'.gh.map V.isDef) st.gh, st.pre⟩
def lenB (st st' : St) : Bool := Nat.beq st'.tm.length st.tm.length && Nat.beq st'.gh.length st.gh.length
theorem trim_less {st st' : St} (hl : lenB st st' = true) : Less st (trimS st st') := by
  simp only [lenB, Bool.and_eq_true] at hl
  have a := (lessM (m := st'.tm.map V.isDef) (l := st.tm) (by simpa using Nat.eq_of_beq_eq_true hl.1) rfl).get
  have b := (lessM (m := st'.gh.map V.isDef) (l := st.gh) (by simpa using Nat.eq_of_beq_eq_true hl.2) rfl).get
  exact ⟨a.1, a.2, fun _ he => (List.mem_filter.1 he).1, fun hn => List.Sublist.nodup (List.Sublist.map (fun d : Ent => d.id) List.filter_sublist) hn, b, rfl⟩
def trimE (st st' : St) : Option St := match lenB st st' with
  | true => some (trimS st st')
  | false => none
theorem Less.t {st st' : St} (h : trimE st st' = some st') : Less st st' := by
  unfold trimE at h
  split at h
  · rename_i hl
    injection h with h
    have q := trim_less hl
    rw [h] at q
    exact q
  · cases h
def trimO (o : Option (List Prop × St)) (st' : St) : Option (List Prop × St) :=
  match o with
  | some (cs, st) => match trimE st st' with
    | some s => some (cs, s)
    | none => none
  | none => none
theorem trimO_spec {o : Option (List Prop × St)} {st' : St} {cs : List Prop} (h : trimO o st' = some (cs, st')) : ∃ st, o = some (cs, st) ∧ Less st st' := by
  unfold trimO at h
  split at h
  · rename_i cs' st
    split at h
    · rename_i s hs
      simp only [Option.some.injEq, Prod.mk.injEq] at h
      obtain ⟨rfl, rfl⟩ := h
      exact ⟨st, rfl, Less.t hs⟩
    · cases h
  · cases h
section
variable {P : Program} {F : Fr} {st : St}
/-- A region, and what is still wanted behind it. -/
theorem Holds.rg {id : Nat} {l : List Oper} {c : Code} {Q : Exit → St → Prop} {ss : List Stp} {cs : List Prop} (st' : St) (hr : trimO (runS P F.I false l.toArray l ss st) st' = some (cs, st')) (hl : andL cs) (h : Holds P F c st' Q) : Holds P F (.seq (.region id l.toArray false) c) st Q := by
  obtain ⟨st1, h1, h2⟩ := trimO_spec hr
  exact Holds.seq (Holds.reg h1 hl (Holds.less h2 h))
theorem Holds.rgQ {id : Nat} {l : List Oper} {c : Code} {Q : Exit → St → Prop} {ss : List Stp} {cs : List Prop} (st' : St) (h1 : P.follows .mixedOrders = true) (h2 : Region.lexB .any l.toArray = true) (hr : trimO (runS P F.I true l.toArray l ss st) st' = some (cs, st')) (hl : andL cs) (h : Holds P F c st' Q) : Holds P F (.seq (.region id l.toArray true) c) st Q := by
  obtain ⟨st1, h3, h4⟩ := trimO_spec hr
  exact Holds.seq (Holds.regQ h1 h2 h3 hl (Holds.less h4 h))
end
abbrev vI (n : Int) : V := .c (.int .i64 n)
abbrev vB (b : Bool) : V := .c (.bool b)
abbrev vS (s : List UInt8) : V := .c (.str s)
abbrev vP (i : Bid) (o : Nat) : V := .c (.ptr i o)
abbrev vO (i : Bid) : V := .c (.osl i)
abbrev vL {α : Type} (e : α → List C) (l : List α) : V := .c (.sl l.length (l.flatMap e))
abbrev vX {α : Type} (e : α → List C) (l : List α) (o : Nat) : V := .c (.iptr (l.flatMap e) o)
abbrev vA {α : Type} (e : α → List C) (x : α) : V := .agg (e x)
abbrev bx (i : Bid) (cs : List C) : Ent := ⟨i, none, cs, false⟩
abbrev rw_ {α : Type} (i : Bid) (E N : Nat) (e : α → List C) (l : List α) : Ent := ⟨i, some (E, N, l.length), l.flatMap e, true⟩
end Go.PL
namespace Go.PL
theorem gT {p : Bool} (h : p = true) : (p == true) = true := by subst h; rfl
theorem gF {p : Bool} (h : p = false) : (p == false) = true := by subst h; rfl
theorem gA {p q : Bool} (h : p = true) (k : q = true) : (p && q) = true := by subst h; subst k; rfl
end Go.PL

namespace Go.PL
open Go Go.RowKit
/-! A nil slice that lies in a variable becomes the call's own. -/
def St.setCell (st : St) (i : Bid) (j : Nat) (c : C) : St := { st with so := st.so.map fun e => if e.id == i && !e.pu then ⟨e.id, e.row, e.cs.set j c, false⟩ else e }
def St.nilAt (st : St) (i : Bid) (j : Nat) : Bool :=
  match st.look i with
  | some e => !e.pu && (match e.cs[j]? with
    | some .nils => true
    | _ => false)
  | none => false
theorem relRow_set {w : World} {G : Ctx} : ∀ {cs : List C} {b o j : Nat} {c : C}, RelRow w G cs b o → (∀ v d, cs[j]? = some d → RelC w G d v → RelC w G c v) → RelRow w G (cs.set j c) b o
  | [], _, _, _, _, h, _ => by simpa using h
  | d :: cs, b, o, 0, c, h, hc => by
    simp only [RelRow] at h
    simp only [List.set_cons_zero, RelRow]
    obtain ⟨⟨v, h1, h2⟩, h3⟩ := h
    exact ⟨⟨v, h1, hc v d (by simp) h2⟩, h3⟩
  | d :: cs, b, o, j + 1, c, h, hc => by
    simp only [RelRow] at h
    simp only [List.set_cons_succ, RelRow]
    exact ⟨h.1, relRow_set h.2 (fun v d hd => hc v d (by simpa using hd))⟩
theorem R.setCell {F : Fr} {st : St} {a : Act} {w : World} {G : Ctx} (h : R F st a w G) {i k : Bid} {j : Nat} (hn : st.nilAt i j = true) (hk : G.own k = some (.slice none 0 0)) : R F (st.setCell i j (.osl k)) a w G := {
    dfr := h.dfr, size := h.size, slots := h.slots, ghosts := h.ghosts
    store := by
      intro e' he'
      simp only [St.setCell, List.mem_map] at he'
      obtain ⟨e, he, rfl⟩ := he'
      split
      · rename_i hc
        simp only [Bool.and_eq_true, beq_iff_eq, Bool.not_eq_true'] at hc
        have hE := h.store e he
        have hee : ∃ x, st.look i = some x ∧ x = e := by
          unfold St.nilAt at hn
          cases hl : st.look i with
          | none => rw [hl] at hn; cases hn
          | some x =>
            refine ⟨x, rfl, ?_⟩
            obtain ⟨hm, hid⟩ := look_mem hl
            have hp := List.pairwise_map.1 h.nodup
            rcases List.mem_iff_getElem.1 hm with ⟨p, hp1, rfl⟩
            rcases List.mem_iff_getElem.1 he with ⟨q, hq1, rfl⟩
            rcases Nat.lt_trichotomy p q with z | z | z
            · exact absurd (hid.trans hc.1.symm) (List.pairwise_iff_getElem.1 hp p q hp1 hq1 z)
            · subst z; rfl
            · exact absurd (hc.1.trans hid.symm) (List.pairwise_iff_getElem.1 hp q p hq1 hp1 z)
        obtain ⟨x, hx, rfl⟩ := hee
        have hnil : x.cs[j]? = some .nils := by
          unfold St.nilAt at hn
          rw [hx] at hn
          simp only [Bool.and_eq_true] at hn
          have := hn.2
          split at this
          · assumption
          · cases this
        have hc' : ∀ v d, x.cs[j]? = some d → RelC w G d v → RelC w G (.osl k) v := by
          intro v d hd hr
          rw [hnil] at hd
          injection hd with hd; subst hd
          simp only [RelC] at hr ⊢
          subst hr
          exact ⟨hk, rfl⟩
        unfold RelE at hE ⊢
        simp only
        split at hE
        · rename_i hrn
          obtain ⟨b, h1, hbx⟩ := hE
          obtain ⟨T, cur, h2, h3, h4⟩ := hbx.cells (look_nm hx hrn)
          exact ⟨b, h1, .inr ⟨T, cur, h2, by simpa using h3, relRow_set h4 hc'⟩⟩
        · obtain ⟨hl, v, h1, h2⟩ := hE
          refine ⟨by simpa using hl, v, h1, ?_⟩
          rcases h2 with h2 | ⟨b, cap, cur, e1, e2, e3, e4, e5, e6, e7⟩
          · exact .inl h2
          · exact .inr ⟨b, cap, cur, e1, e2, e3, e4, e5, e6, relRow_set e7 hc'⟩
      · exact h.store e he
    pures := by
      intro e' he'
      simp only [St.setCell, List.mem_map] at he'
      obtain ⟨e, he, rfl⟩ := he'
      split
      · intro hq; cases hq
      · exact h.pures e he
    nodup := by
      have : ((st.setCell i j (.osl k)).so.map (·.id)) = st.so.map (·.id) := by
        simp only [St.setCell, List.map_map]
        apply List.map_congr_left
        intro d _
        simp only [Function.comp]
        split <;> rfl
      rw [this]; exact h.nodup
    inj := h.inj, lt := h.lt, new := h.new, wr := h.wr, avlt := h.avlt, inv := h.inv, avold := h.avold, os := h.os, tape := h.tape, output := h.output, hsize := h.hsize, ext := h.ext }
/-- The nil slice in cell j of variable i gets the name k. -/
def ownNil (st : St) (i : Bid) (j : Nat) (k : Bid) (E n : Nat) : Option St :=
  match (st.new ⟨k, some (E, n, 0), [], true⟩).nilAt i j with
  | true => some ((st.new ⟨k, some (E, n, 0), [], true⟩).setCell i j (.osl k))
  | false => none
theorem Holds.own {P : Program} {F : Fr} {c : Code} {st : St} {Q : Exit → St → Prop} (i : Bid) (j : Nat) (k : Bid) (E n : Nat) (st' : St) (h : ownNil st i j k E n = some st') (hh : Holds P F c st' Q) : Holds P F c st Q := by
  unfold ownNil at h
  split at h
  · rename_i hn
    injection h with h; subst h
    intro a w G hR
    have h1 := hR.nilRow k E n
    exact hh a w _ (h1.setCell hn (by simp [upd]))
  · cases h
end Go.PL

/- The pure logic: short words for printed proofs. -/
namespace Go.PL
open Go Go.RowKit
theorem aC {p : Prop} {l : List Prop} (h : p) (k : andL l) : andL (p :: l) := ⟨h, k⟩
theorem aN : andL [] := trivial
abbrev sl (n : Nat) (l : List (Nat × V)) (so : List Ent) : St := ⟨slots n 0 l, so, [], []⟩
abbrev sg (n : Nat) (l : List (Nat × V)) (so : List Ent) (m : Nat) (g : List (Nat × V)) (p : Bid) : St := ⟨slots n 0 l, so, slots m 0 g, p⟩
theorem lT {st st' : St} (h : trimE st st' = some st' := by kernel_rfl) : Less st st' := Less.t h
def nodupB : List Bid → Bool
  | [] => true
  | i :: l => !(l.contains i) && nodupB l
theorem nodupB_spec : ∀ {l : List Bid}, nodupB l = true → l.Nodup
  | [], _ => by simp
  | i :: l, h => by
    simp only [nodupB, Bool.and_eq_true, Bool.not_eq_true'] at h
    refine List.nodup_cons.2 ⟨fun hm => ?_, nodupB_spec h.2⟩
    have := List.contains_iff_mem.2 hm
    rw [h.1] at this; cases this
theorem Less.trans {a b c : St} (h : Less a b) (k : Less b c) : Less a c where
  len := k.len.trans h.len
  tm := fun i => by
    rcases k.tm i with q | q
    · exact .inl q
    · rw [q]; exact h.tm i
  so := fun e he => h.so e (k.so e he)
  nd := fun hn => k.nd (h.nd hn)
  gh := ⟨k.gh.1.trans h.gh.1, fun i => by
    rcases k.gh.2 i with q | q
    · exact .inl q
    · rw [q]; exact h.gh.2 i⟩
  pre := k.pre.trans h.pre
def St.ids (st : St) : List Bid := st.so.map (·.id)
/-- The same with the entries in another order. -/
theorem lU {st st' : St} (hn : nodupB st'.ids = true := by kernel_rfl) (h : trimE (canS st'.ids st) st' = some st' := by kernel_rfl) : Less st st' := (canS_less _ (nodupB_spec hn) st).trans (Less.t h)
section
variable {P : Program} {F : Fr} {st : St} {id : Nat} {l : List Oper} {c : Code} {Q : Exit → St → Prop} {cs : List Prop} {K : St → Prop}
theorem Rg (ss : List Stp) (st' : St) (hl : andL cs) (h : Holds P F c st' Q) (hr : trimO (runS P F.I false l.toArray l ss st) st' = some (cs, st') := by kernel_rfl) : Holds P F (.seq (.region id l.toArray false) c) st Q := Holds.rg st' hr hl h
theorem Rq (h1 : P.follows .mixedOrders = true) (ss : List Stp) (st' : St) (hl : andL cs) (h : Holds P F c st' Q) (h2 : Region.lexB .any l.toArray = true := by kernel_rfl) (hr : trimO (runS P F.I true l.toArray l ss st) st' = some (cs, st') := by kernel_rfl) : Holds P F (.seq (.region id l.toArray true) c) st Q := Holds.rgQ st' h1 h2 hr hl h
theorem Re (ss : List Stp) (st' : St) (hl : andL cs) (h : Q .normal st') (hr : runS P F.I false l.toArray l ss st = some (cs, st') := by kernel_rfl) : Holds P F (.region id l.toArray false) st Q := Holds.reg hr hl h
theorem Rp {I : World → Prop} {ops : Array Oper} (n : Nat) (ss : List Stp) (st' : St) (hc : andL cs) (hK : wpOps P I ops (l.drop n) st' K) (h : runS P I false ops (l.take n) ss st = some (cs, st') := by kernel_rfl) : wpOps P I ops l st K := Run.part n st' h hc hK
theorem Rw {I : World → Prop} {ops : Array Oper} (ss : List Stp) (st' : St) (hc : andL cs) (hK : K st') (h : runS P I false ops l ss st = some (cs, st') := by kernel_rfl) : wpOps P I ops l st K := Run.whole st' h hc hK
theorem Ls (st' : St) (h : Holds P F c st' Q) (hl : trimE st st' = some st' := by kernel_rfl) : Holds P F c st Q := Holds.less (Less.t hl) h
theorem Ow (i : Bid) (j : Nat) (k : Bid) (E n : Nat) (st' : St) (hh : Holds P F c st' Q) (h : ownNil st i j k E n = some st' := by kernel_rfl) : Holds P F c st Q := Holds.own i j k E n st' h hh
theorem At (st' : St) (hh : Holds P F c st' Q) (h : st = st' := by kernel_rfl) : Holds P F c st Q := h ▸ hh
theorem bE {rs : List ResultVar} {e : Exit} {r' : V} (v r : V) (hr : r = r') (he : e = .normal ∨ e = .ret := by first | exact .inr rfl | exact .inl rfl) (h : outB P st rs = some v := by kernel_rfl) (hs : snapO st rs v = r := by kernel_rfl) (hp : r.pure = true := by kernel_rfl) :
    (e = .normal ∨ e = .ret) ∧ (outV P st rs).1 ∧ (outV P st rs).2.pure = true ∧ (outV P st rs).2 = r' := bodyEnd he h hs hp hr
theorem bQ {rs : List ResultVar} {e : Exit} {r' : V} (v : V) (hr : v = r') (he : e = .normal ∨ e = .ret := by first | exact .inr rfl | exact .inl rfl) (h : outB P st rs = some v := by kernel_rfl) (hs : snapO st rs v = v := by kernel_rfl) (hp : v.pure = true := by kernel_rfl) :
    (e = .normal ∨ e = .ret) ∧ (outV P st rs).1 ∧ (outV P st rs).2.pure = true ∧ (outV P st rs).2 = r' := bodyEnd he h hs hp hr
end
theorem Tn {K : St → Prop} {Q : Exit → St → Prop} {st : St} (h : K st) : thenQ K Q .normal st := h
theorem Tr {K : St → Prop} {Q : Exit → St → Prop} {st : St} (h : Q .ret st) : thenQ K Q .ret st := h
/-- Conditions under a guard. -/
theorem gi (g : Bool) : g = true → g = true := id
theorem g1 (g : Bool) : g = true → andL [g = true → g = true] := fun _ => ⟨id, trivial⟩
theorem g2 (g : Bool) : g = true → andL [g = true → g = true, g = true → g = true] := fun _ => ⟨id, id, trivial⟩
section
variable {l : List Prop}
theorem aB {e b : Bool} (h : some e = some b) (k : andL l) : andL ((vB e = vB b) :: l) := ⟨congrArg vB (sI h), k⟩
theorem aT (b : Bool) (k : andL l) : andL ((b = true → (b == true) = true) :: l) := ⟨fun q => gT q, k⟩
theorem aF (b : Bool) (k : andL l) : andL ((b = false → (b == false) = true) :: l) := ⟨fun q => gF q, k⟩
theorem aG (g : Bool) (k : andL l) : andL ((g = true → andL [g = true → g = true]) :: l) := ⟨g1 g, k⟩
theorem aH (g : Bool) (k : andL l) : andL ((g = true → andL [g = true → g = true, g = true → g = true]) :: l) := ⟨g2 g, k⟩
end
section
variable {α : Type} [Inhabited α] {g : Bool} {o : Option α} {x : α} {p : Prop}
theorem c0 (h : gd g o = some x) (k : o = some x → p) : g = true → andL [] ∧ p := fun hg => ⟨trivial, k (gd_t h hg)⟩
theorem c1 (h : gd g o = some x) (k : o = some x → p) : g = true → andL [g = true → g = true] ∧ p := fun hg => ⟨⟨id, trivial⟩, k (gd_t h hg)⟩
theorem c2 (h : gd g o = some x) (k : o = some x → p) : g = true → andL [g = true → g = true, g = true → g = true] ∧ p := fun hg => ⟨⟨id, id, trivial⟩, k (gd_t h hg)⟩
theorem c3 (h : gd g o = some x) (k : o = some x → p) : g = true → andL [g = true → g = true, g = true → g = true, g = true → g = true] ∧ p := fun hg => ⟨⟨id, id, id, trivial⟩, k (gd_t h hg)⟩
end
/-- The encodings' lengths. -/
theorem lenI (k : IntKind) : ∀ x, (eI k x).length = 1 := fun _ => rfl
theorem lenS : ∀ x, (eS x).length = 1 := fun _ => rfl
section
variable {α : Type} [Inhabited α] {l m r : List α} {i : Int} {x : α} {e : α → List C} {N : Nat}
theorem eld (hx : idx l i = some x) (hN : ∀ y, (e y).length = N) (o n : Nat) (ag : Bool) (v : V) (hv : toV ag o n (e x) = v := by kernel_rfl) (ho : Nat.ble (o + n) N = true := by kernel_rfl) (h0 : (ag || Nat.blt 0 n) = true := by kernel_rfl) :
    i.toNat * N + o + n ≤ (l.flatMap e).length ∧ toV ag (i.toNat * N + o) n (l.flatMap e) = v :=
  elem_ld hx hN rfl (Nat.le_of_ble_eq_true ho) (by simpa using h0) hv
theorem ald (hx : idx l i = some x) (hN : ∀ y, (e y).length = N) (cs : List C) (b m o n : Nat) (ag : Bool) (v : V) (hc : cs = cs.take b ++ (l.flatMap e ++ cs.drop m) := by kernel_rfl) (hb : (cs.take b).length = b := by kernel_rfl) (hv : toV ag o n (e x) = v := by kernel_rfl) (ho : Nat.ble (o + n) N = true := by kernel_rfl) (h0 : (ag || Nat.blt 0 n) = true := by kernel_rfl) :
    b + i.toNat * N + o + n ≤ cs.length ∧ toV ag (b + i.toNat * N + o) n cs = v :=
  arr_ld hc hb hx hN (Nat.add_assoc _ _ _) (Nat.le_of_ble_eq_true ho) (by simpa using h0) hv
omit [Inhabited α] in
theorem ap1 {b : Nat} (h : app b l m = some r) (e : α → List C) : l.length + m.length = r.length ∧ l.flatMap e ++ m.flatMap e = r.flatMap e := ⟨by rw [app_x h, List.length_append], by rw [app_x h, List.flatMap_append]⟩
end
end Go.PL

/- Regions that draw their order: only the orders of what makes memory are looked at; what reads is left open. -/
namespace Go.PL
open Go Go.RowKit

/-! What makes memory under a name that nothing bears yet. -/
def newM (st : St) (e : Ent) : St := { st with so := e :: st.so.filter (fun x => x.id != e.id) }
theorem killV_eq {id : Bid} {v : V} (h : v.men id = false) : killV id v = v := by unfold killV; rw [if_neg (by simp [h])]
theorem killVs_eq {id : Bid} : ∀ {l : List V}, (∀ v ∈ l, v.men id = false) → l.map (killV id) = l
  | [], _ => rfl
  | v :: l, h => by rw [List.map_cons, killV_eq (h v (by simp)), killVs_eq (fun x hx => h x (by simp [hx]))]
theorem killL_eq {id : Bid} : ∀ {l : List C}, menL id l = false → l.map (killC id) = l
  | [], _ => rfl
  | c :: l, h => by
    simp only [menL, Bool.or_eq_false_iff] at h
    rw [List.map_cons, killL_eq h.2, killC, if_neg (by simp [h.1])]
def Ent.fre (id : Bid) (e : Ent) : Bool := e.pu || !menL id e.cs
theorem Ent.kill_eq {id : Bid} {e : Ent} (h : e.fre id = true) : e.kill id = e := by
  obtain ⟨i, r, cs, pu⟩ := e
  cases pu
  · simp only [Ent.fre, Bool.false_or, Bool.not_eq_true'] at h
    simp only [Ent.kill, killL_eq h]
  · rfl
theorem new_eq {st : St} {e : Ent} (h1 : ∀ v ∈ st.tm, v.men e.id = false) (h2 : ∀ x ∈ st.so, x.id = e.id ∨ x.fre e.id = true) (h3 : ∀ v ∈ st.gh, v.men e.id = false) (h4 : e.fre e.id = true) : st.new e = newM st e := by
  have a : (st.so.filter (fun x => x.id != e.id)).map (Ent.kill e.id) = st.so.filter (fun x => x.id != e.id) := by
    have : ∀ l : List Ent, (∀ x ∈ l, x.id = e.id ∨ x.fre e.id = true) → (l.filter (fun x => x.id != e.id)).map (Ent.kill e.id) = l.filter (fun x => x.id != e.id) := by
      intro l
      induction l with
      | nil => intro _; rfl
      | cons x l ih =>
        intro hl
        simp only [List.filter_cons]
        split
        · rename_i hx
          rw [List.map_cons, ih (fun y hy => hl y (by simp [hy]))]
          rcases hl x (by simp) with q | q
          · simp [q] at hx
          · rw [Ent.kill_eq q]
        · exact ih (fun y hy => hl y (by simp [hy]))
    exact this _ h2
  unfold St.new newM St.kill
  simp only [a, killVs_eq h1, killVs_eq h3, Ent.kill_eq h4]
def mkE (P : Program) (st : St) (s : Stp) (o : Oper) : Option (List Prop × Ent × V) :=
  match o.guard, o.dst, s with
  | none, some d, .a => match o.op with
    | .alloc T => match zeroN P T with
      | some cs => some ([], ⟨d :: st.pre, none, cs, false⟩, .c (.ptr (d :: st.pre) 0))
      | none => none
    | .box _ x => match (argC st true x).2.cells with
      | some cs => some ((argC st true x).1, ⟨d :: st.pre, none, cs, false⟩, .c (.ptr (d :: st.pre) 0))
      | none => none
    | .assign (.const (.slice none 0 0)) => match selem P o.type with
      | some (E, n) => some ([], ⟨d :: st.pre, some (E, n, 0), [], true⟩, .c (.osl (d :: st.pre)))
      | none => none
    | .buildSlice t len ps => match selemB P t with
      | some (E, n, _) => match zeroL P E with
        | some z => match fillC (fun i => some (i * n, n)) (zerosL z len) ((partsC st true ps.toList).2.map weakP) with
          | some cs => match z.length == n && Nat.blt 0 n && Nat.ble (len * n) (2 ^ 24) && pureL cs with
            | true => some ((partsC st true ps.toList).1 ++ [], ⟨d :: st.pre, some (E, n, len), cs, true⟩, .c (.osl (d :: st.pre)))
            | false => none
          | none => none
        | none => none
      | none => none
    | _ => none
  | none, some d, .e len cs => match o.op with
    | .makeSlice t l c => match (argC st true l).2, (argC st true c).2, selemB P t with
      | .c (.int _ l'), .c (.int _ c'), some (E, n, by') => match zeroL P E with
        | some z => match z.length == n && Nat.blt 0 n with
          | true => some (((argC st true l).1 ++ (argC st true c).1) ++ ([l'.toNat = len ∧ zerosL z l'.toNat = cs] ++ [0 ≤ l' ∧ l' ≤ c' ∧ c' * by' ≤ 140737488355328 ∧ c' ≤ maxLen]), ⟨d :: st.pre, some (E, n, len), cs, true⟩, .c (.osl (d :: st.pre)))
          | false => none
        | none => none
      | _, _, _ => none
    | _ => none
  | _, _, _ => none
theorem mkE_spec {P : Program} {I : World → Prop} {st : St} {s : Stp} {ops : Array Oper} {o : Oper} {l : List Prop} {e : Ent} {v : V} (h : mkE P st s o = some (l, e, v)) :
    stepS P I false ops o s st = some (l, (st.new e).put o.dst v) := by
  obtain ⟨dst, op, ty, pos, aft, gd⟩ := o
  unfold mkE at h
  split at h
  · rename_i d h1 h2
    simp only at h1 h2
    subst h1 h2
    split at h
    · rename_i T hT
      simp only at hT; subst hT
      split at h
      · rename_i cs hz
        simp only [Option.some.injEq, Prod.mk.injEq] at h
        obtain ⟨rfl, rfl, rfl⟩ := h
        simp only [stepS, kindOf, ef1, hz]
      · cases h
    · rename_i T x hT
      simp only at hT; subst hT
      split at h
      · rename_i cs hz
        simp only [Option.some.injEq, Prod.mk.injEq] at h
        obtain ⟨rfl, rfl, rfl⟩ := h
        simp only [stepS, kindOf, ef1, hz]
      · cases h
    · rename_i hT
      simp only at hT; subst hT
      split at h
      · rename_i E n hz
        simp only [Option.some.injEq, Prod.mk.injEq] at h
        obtain ⟨rfl, rfl, rfl⟩ := h
        simp only [stepS, kindOf, ef1, hz]
      · cases h
    · rename_i t len ps hT
      simp only at hT; subst hT
      split at h
      · rename_i E n b h1
        split at h
        · rename_i z h2
          split at h
          · rename_i cs h3
            split at h
            · rename_i hb
              simp only [Option.some.injEq, Prod.mk.injEq] at h
              obtain ⟨rfl, rfl, rfl⟩ := h
              simp only [stepS, kindOf, ef1, bslC, h1, h2, h3, hb, told]
            · cases h
          · cases h
        · cases h
      · cases h
    · cases h
  · rename_i d len cs h1 h2
    simp only at h1 h2
    subst h1 h2
    split at h
    · rename_i t l c hT
      simp only at hT; subst hT
      split at h
      · rename_i E n b h1 h2 h3
        split at h
        · rename_i z h4
          split at h
          · rename_i hb
            simp only [Option.some.injEq, Prod.mk.injEq] at h
            obtain ⟨rfl, rfl, rfl⟩ := h
            simp only [stepS, kindOf, ef1, makeC, h1, h2, h3, h4, hb, told]
          · cases h
        · cases h
      · cases h
    · cases h
  · cases h

theorem mkE_ef {P : Program} {st : St} {s : Stp} {o : Oper} {l : List Prop} {e : Ent} {v : V} (h : mkE P st s { o with guard := none } = some (l, e, v)) :
    kindOf o.op = .ef ∧ ef1 P st s o = some (l, (st.new e).put o.dst v) := by
  have hs := mkE_spec (I := fun _ => True) (ops := #[]) h
  obtain ⟨dst, op, ty, pos, aft, gd⟩ := o
  have hk : kindOf op = .ef := by
    unfold mkE at h
    split at h
    · split at h
      all_goals first
        | (rename_i hT; simp only at hT; subst hT; rfl)
        | (cases h; done)
    · split at h
      all_goals first
        | (rename_i hT; simp only at hT; subst hT; rfl)
        | (cases h; done)
    · cases h
  refine ⟨hk, ?_⟩
  unfold stepS at hs
  simp only [hk] at hs
  exact hs
/-- What makes memory, under a guard too. -/
def mkG (P : Program) (st : St) (s : Stp) (ops : Array Oper) (o : Oper) : Option (List Prop × Ent × V) :=
  match o.guard with
  | none => mkE P st s o
  | some (j, want) => match mkE P st s { o with guard := none } with
    | some (l, e, v) => match guardOf st ops j want with
      | some g => some (l ++ [g = true], e, v)
      | none => none
    | none => none
theorem mkG_spec {P : Program} {I : World → Prop} {st : St} {s : Stp} {ops : Array Oper} {o : Oper} {l : List Prop} {e : Ent} {v : V} (h : mkG P st s ops o = some (l, e, v)) :
    stepS P I false ops o s st = some (l, (st.new e).put o.dst v) := by
  unfold mkG at h
  split at h
  · exact mkE_spec h
  · rename_i j want hg
    split at h
    · rename_i l1 e1 v1 h1
      split at h
      · rename_i g hq
        simp only [Option.some.injEq, Prod.mk.injEq] at h
        obtain ⟨rfl, rfl, rfl⟩ := h
        obtain ⟨hk, he⟩ := mkE_ef h1
        unfold stepS
        simp only [hg, hq, hk, he]
      · cases h
    · cases h

/-! The state of a region: who writes a slot or an entry, and what stood there. -/
structure RD where
  tm : List (List (Nat × V) × V)
  so : List (List (Nat × Ent) × Option Ent)
  gh : List V
  pre : Bid
def altV (f : Nat → Bool) : List (Nat × V) → V → V
  | [], u => u
  | (i, v) :: ws, u => altV f ws (cond (f i) v u)
def altE (f : Nat → Bool) : List (Nat × Ent) → Option Ent → Option Ent
  | [], u => u
  | (i, v) :: ws, u => altE f ws (cond (f i) (some v) u)
def RD.st (d : RD) (f : Nat → Bool) : St := ⟨d.tm.map (fun x => altV f x.1 x.2), d.so.filterMap (fun x => altE f x.1 x.2), d.gh, d.pre⟩
theorem altV_men {id : Bid} {f : Nat → Bool} {dead : Nat → Bool} (hd : ∀ j, dead j = true → f j = false) : ∀ {ws : List (Nat × V)} {u : V}, (ws.all fun y => dead y.1 || !y.2.men id) = true → u.men id = false → (altV f ws u).men id = false
  | [], u, _, h => h
  | (i, v) :: ws, u, h, hu => by
    simp only [List.all_cons, Bool.and_eq_true, Bool.or_eq_true, Bool.not_eq_true'] at h
    show (altV f ws (cond (f i) v u)).men id = false
    refine altV_men (ws := ws) hd h.2 ?_
    cases hf : f i
    · exact hu
    · rcases h.1 with q | q
      · rw [hd i q] at hf; cases hf
      · exact q
theorem altE_fre {id : Bid} {f : Nat → Bool} {dead : Nat → Bool} (hd : ∀ j, dead j = true → f j = false) : ∀ {ws : List (Nat × Ent)} {u : Option Ent}, (ws.all fun y => dead y.1 || (y.2.id == id || y.2.fre id)) = true → (∀ e, u = some e → e.id = id ∨ e.fre id = true) → ∀ e, altE f ws u = some e → e.id = id ∨ e.fre id = true
  | [], u, _, h => h
  | (i, v) :: ws, u, h, hu => by
    simp only [List.all_cons, Bool.and_eq_true, Bool.or_eq_true, beq_iff_eq] at h
    show ∀ e, altE f ws (cond (f i) (some v) u) = some e → _
    refine altE_fre (ws := ws) hd h.2 ?_
    intro e he
    cases hf : f i
    · rw [hf] at he; exact hu e he
    · rw [hf] at he
      simp only [cond_true, Option.some.injEq] at he
      subst he
      rcases h.1 with q | q
      · rw [hd i q] at hf; cases hf
      · exact q
def optFre (id : Bid) : Option Ent → Bool
  | some e => e.id == id || e.fre id
  | none => true
def RD.free (d : RD) (id : Bid) (dead : Nat → Bool) : Bool :=
  d.tm.all (fun x => x.1.all (fun y => dead y.1 || !y.2.men id) && !x.2.men id) &&
  (d.so.all (fun x => x.1.all (fun y => dead y.1 || (y.2.id == id || y.2.fre id)) && optFre id x.2) && d.gh.all (fun v => !v.men id))
theorem RD.free_spec {d : RD} {id : Bid} {dead f : Nat → Bool} (hd : ∀ j, dead j = true → f j = false) (h : d.free id dead = true) :
    (∀ v ∈ (d.st f).tm, v.men id = false) ∧ (∀ x ∈ (d.st f).so, x.id = id ∨ x.fre id = true) ∧ (∀ v ∈ (d.st f).gh, v.men id = false) := by
  simp only [RD.free, Bool.and_eq_true, List.all_eq_true] at h
  refine ⟨fun v hv => ?_, fun x hx => ?_, fun v hv => ?_⟩
  · simp only [RD.st, List.mem_map] at hv
    obtain ⟨y, h1, rfl⟩ := hv
    have := h.1 y h1
    simp only [Bool.and_eq_true, Bool.not_eq_true'] at this
    exact altV_men hd (List.all_eq_true.2 this.1) this.2
  · simp only [RD.st, List.mem_filterMap] at hx
    obtain ⟨y, h1, h2⟩ := hx
    have := h.2.1 y h1
    refine altE_fre hd (List.all_eq_true.2 this.1) (fun e he => ?_) x h2
    have := this.2
    rw [he] at this
    simpa [optFre] using this
  · have := h.2.2 v hv
    simpa using this
def stepM (P : Program) (I : World → Prop) (ops : Array Oper) (ss : List Stp) (ids : List Bid) (d : RD) (dead f : Nat → Bool) (i : Nat) : Option (List Prop × St) :=
  match ops[i]?, ss[i]? with
  | some o, some s => match mkG P (d.st f) s ops o with
    | some (l, e, v) => match d.free e.id dead && e.fre e.id with
      | true => some (l, canS ids ((newM (d.st f) e).put o.dst v))
      | false => none
    | none => match stepS P I false ops o s (d.st f) with
      | some (c, st') => some (c, canS ids st')
      | none => none
  | _, _ => none
theorem stepM_spec {P : Program} {I : World → Prop} {ops : Array Oper} {ss : List Stp} {ids : List Bid} {d : RD} {dead f : Nat → Bool} {i : Nat} {r : List Prop × St} (hd : ∀ j, dead j = true → f j = false) (h : stepM P I ops ss ids d dead f i = some r) :
    stepN P I ops ss ids (d.st f) i = some r := by
  unfold stepM at h
  unfold stepN
  split at h
  · rename_i o s h1 h2
    try simp only [h1, h2]
    split at h
    · rename_i l e v h3
      split at h
      · rename_i hb
        simp only [Bool.and_eq_true] at hb
        obtain ⟨a, b, c⟩ := RD.free_spec (f := f) hd hb.1
        rw [mkG_spec h3, new_eq a b c hb.2]
        exact h
      · cases h
    · exact h
  · cases h

/-! Orders. -/
def memB : List Nat → Nat → Bool
  | [], _ => false
  | x :: l, j => cond (Nat.beq x j) true (memB l j)
theorem memB_iff : ∀ {l : List Nat} {j : Nat}, memB l j = true ↔ j ∈ l
  | [], j => by simp [memB]
  | x :: l, j => by
    simp only [memB, List.mem_cons]
    cases h : Nat.beq x j
    · simp only [cond_false, memB_iff (l := l)]
      have : x ≠ j := fun e => by subst e; simp at h
      exact ⟨.inr, fun q => q.resolve_left (fun e => this e.symm)⟩
    · simp only [cond_true, true_iff]
      exact .inl (Nat.eq_of_beq_eq_true h).symm
def lkB : List Nat → List Bool → Nat → Option Bool
  | e :: es, b :: bs, j => cond (Nat.beq e j) (some b) (lkB es bs j)
  | _, _, _ => none
theorem lkB_map (f : Nat → Bool) : ∀ (E : List Nat) (j : Nat), lkB E (E.map f) j = if j ∈ E then some (f j) else none
  | [], j => rfl
  | e :: E, j => by
    simp only [List.map_cons, lkB, lkB_map f E j, List.mem_cons]
    cases h : Nat.beq e j
    · have : j ≠ e := fun q => by subst q; simp at h
      simp [this]
    · have := Nat.eq_of_beq_eq_true h
      subst this
      simp
def gam (pr : List (List Nat)) (E : List Nat) (mb : List Bool) (i : Nat) (b : Nat → Bool) : Nat → Bool := fun j =>
  cond (Nat.beq j i) false (cond (memB (pr.getD j []) i) false (match lkB E mb j with
    | some x => x
    | none => cond (memB (pr.getD i []) j) true (b j)))
def setB (f : Nat → Bool) (i : Nat) : Nat → Bool := fun j => cond (Nat.beq j i) true (f j)
def deadB (pr : List (List Nat)) (i : Nat) : Nat → Bool := fun j => cond (Nat.beq j i) true (memB (pr.getD j []) i)
def rdyE (pr : List (List Nat)) (E : List Nat) (mb : List Bool) (N : Nat) : List Nat :=
  (List.range N).filter fun i => (match lkB E mb i with
    | some true => false
    | _ => true) && (pr.getD i []).all fun j => match lkB E mb j with
      | some false => false
      | _ => true
def dirP (ops : Array Oper) (i : Nat) : List Nat := match ops[i]? with
  | some o => (o.after.toList.filter (Region.binds .any)).map (·.on)
  | none => []
/-- The lists of predecessors are those of the edges, closed; edges lead back. -/
def prOk (ops : Array Oper) (pr : List (List Nat)) : Bool :=
  (List.range ops.size).all fun i => (dirP ops i).all (fun j => Nat.blt j i && memB (pr.getD i []) j) && (pr.getD i []).all fun j => memB (dirP ops i) j || (dirP ops i).any fun k => memB (pr.getD k []) j
def msOk (pr : List (List Nat)) (E : List Nat) (ms : List (List Bool)) (N : Nat) : Bool :=
  ms.contains (E.map fun _ => false) && ms.all fun mb => (rdyE pr E mb N).all fun i => ms.contains (E.map fun j => cond (Nat.beq j i) true ((lkB E mb j).getD false))
def allS (P : Program) (I : World → Prop) (ops : Array Oper) (ss : List Stp) (ids : List Bid) (d : RD) (pr : List (List Nat)) (E : List Nat) (ms : List (List Bool)) (b : Nat → Bool) : List (Option (List Prop × St)) :=
  ms.flatMap fun mb => (rdyE pr E mb ops.size).map fun i => stepM P I ops ss ids d (deadB pr i) (gam pr E mb i b) i
def wantS (ops : Array Oper) (cs : List (List Prop)) (d : RD) (pr : List (List Nat)) (E : List Nat) (ms : List (List Bool)) (b : Nat → Bool) : List (Option (List Prop × St)) :=
  ms.flatMap fun mb => (rdyE pr E mb ops.size).map fun i => some (cs.getD i [], d.st (setB (gam pr E mb i b) i))

def bv (v : List Bool) : Nat → Bool := fun j => v.getD j false
theorem flat_eqL {α β : Type} {f g : α → Nat → β} {r : α → List Nat} : ∀ {l : List α}, (l.flatMap fun n => (r n).map (f n)) = (l.flatMap fun n => (r n).map (g n)) → ∀ n ∈ l, ∀ i ∈ r n, f n i = g n i
  | [], _, n, hn, _, _ => by simp at hn
  | a :: l, h, n, hn, i, hi => by
    simp only [List.flatMap_cons] at h
    have hh := List.append_inj h (by simp)
    rcases List.mem_cons.1 hn with rfl | hn
    · exact List.map_inj_left.1 hh.1 i hi
    · exact flat_eqL hh.2 n hn i hi
section
variable {P : Program} {F : Fr} {ops : Array Oper}
theorem rdy_false {v : List Bool} {i : Nat} (hv : v.length = ops.size) (h : i ∈ Region.ready .any ops v.toArray) : i < ops.size ∧ bv v i = false ∧ ∀ j ∈ dirP ops i, bv v j = true := by
  unfold Region.ready at h
  simp only [List.mem_filter, List.mem_range, Bool.and_eq_true, Bool.not_eq_true'] at h
  obtain ⟨h1, h2, h3⟩ := h
  refine ⟨h1, ?_, fun j hj => ?_⟩
  · have : i < v.length := by omega
    simp [Array.getD_eq_getD_getElem?, this] at h2
    simp [bv, List.getD_eq_getElem?_getD, this, h2]
  · unfold dirP at hj
    have ho : ops[i]? = some ops[i] := Array.getElem?_eq_getElem h1
    rw [ho] at hj h3
    simp only [List.mem_map, List.mem_filter] at hj
    obtain ⟨e, ⟨he, hb⟩, rfl⟩ := hj
    simp only [Option.map_some, Option.getD_some, Array.all_eq_true_iff_forall_mem] at h3
    have := h3 e (by simpa using he)
    simp only [hb, Bool.not_true, Bool.false_or] at this
    simp only [bv, List.getD_eq_getElem?_getD]
    simpa [Array.getD_eq_getD_getElem?] using this
theorem rdy_none {v : List Bool} {pr : List (List Nat)} (hv : v.length = ops.size) (hp : prOk ops pr = true) (h : Region.ready .any ops v.toArray = []) : ∀ i, i < ops.size → bv v i = true := by
  intro i
  induction i using Nat.strongRecOn with
  | ind i ih =>
    intro hi
    cases hb : bv v i
    · exfalso
      have : i ∈ Region.ready .any ops v.toArray := by
        unfold Region.ready
        simp only [List.mem_filter, List.mem_range, Bool.and_eq_true, Bool.not_eq_true']
        refine ⟨hi, ?_, ?_⟩
        · have : i < v.length := by omega
          simp only [bv, List.getD_eq_getElem?_getD, List.getElem?_eq_getElem this, Option.getD_some] at hb
          simp [Array.getD_eq_getD_getElem?, this, hb]
        · have ho : ops[i]? = some ops[i] := Array.getElem?_eq_getElem hi
          rw [ho]
          simp only [Option.map_some, Option.getD_some, Array.all_eq_true_iff_forall_mem]
          intro e he
          cases hbd : Region.binds .any e
          · rfl
          · have hd : e.on ∈ dirP ops i := by
              unfold dirP; rw [ho]
              simp only [List.mem_map, List.mem_filter]
              exact ⟨e, ⟨by simpa using he, hbd⟩, rfl⟩
            simp only [prOk, List.all_eq_true, List.mem_range, Bool.and_eq_true] at hp
            have hlt := ((hp i hi).1 _ hd).1
            simp only [Nat.blt_eq] at hlt
            have := ih _ hlt (by omega)
            simp only [bv, List.getD_eq_getElem?_getD] at this
            simp only [Bool.not_true, Bool.false_or]
            simpa [Array.getD_eq_getD_getElem?] using this
      rw [h] at this; cases this
    · rfl
theorem anyS {pr : List (List Nat)} {E : List Nat} {ms : List (List Bool)} {ss : List Stp} {ids : List Bid} {cs : List (List Prop)} {d : RD} {Q : Exit → St → Prop} (hids : ids.Nodup) (hp : prOk ops pr = true) (hm : msOk pr E ms ops.size = true)
    (hst : ∀ b, allS P F.I ops ss ids d pr E ms b = wantS ops cs d pr E ms b) (hc : andLL cs) (hQ : Q .normal (d.st fun j => Nat.blt j ops.size)) :
    ∀ (fuel : Nat) (v : List Bool) (a : Act) (w : World) (G : Ctx), v.length = ops.size → E.map (bv v) ∈ ms → (∀ i, bv v i = true → ∀ j ∈ pr.getD i [], bv v j = true) → unl v ≤ fuel → R F (d.st (bv v)) a w G →
      wpAny P .any ops (fun e a' w' => ∃ st' G', Q e st' ∧ R F st' a' w' G') fuel v.toArray a w := by
  have fin : ∀ (v : List Bool) a w G, v.length = ops.size → Region.ready .any ops v.toArray = [] → R F (d.st (bv v)) a w G → ∃ st' G', Q .normal st' ∧ R F st' a w G' := by
    intro v a w G hv hr hR
    have e : bv v = fun j => Nat.blt j ops.size := by
      funext j
      by_cases hj : j < ops.size
      · rw [rdy_none hv hp hr j hj]; exact (by simpa using hj : Nat.blt j ops.size = true).symm
      · have h1 : bv v j = false := by simp [bv, List.getD_eq_getElem?_getD, List.getElem?_eq_none (show v.length ≤ j by omega)]
        rw [h1]
        cases hb : Nat.blt j ops.size
        · rfl
        · simp at hb; omega
    rw [e] at hR
    exact ⟨_, G, hQ, hR⟩
  intro fuel
  induction fuel with
  | zero =>
    intro v a w G hv hE hcl hu hR
    have hz := unl_zero _ (Nat.le_zero.1 hu)
    have hr : Region.ready .any ops v.toArray = [] := by
      rcases hrr : Region.ready .any ops v.toArray with _ | ⟨i, r⟩
      · rfl
      · have := rdy_false hv (i := i) (by rw [hrr]; simp)
        rw [List.all_eq_true] at hz
        have hlt : i < v.length := by omega
        have h2 := hz v[i] (List.getElem_mem hlt)
        have h3 := this.2.1
        simp only [bv, List.getD_eq_getElem?_getD, List.getElem?_eq_getElem hlt, Option.getD_some] at h3
        rw [h3] at h2; cases h2
    exact ⟨hr, fin v a w G hv hr hR⟩
  | succ fuel ih =>
    intro v a w G hv hE hcl hu hR
    refine ⟨fun hr => fin v a w G hv hr hR, fun i hi => ?_⟩
    obtain ⟨hlt, hf, hdir⟩ := rdy_false hv hi
    have hp' := hp
    simp only [prOk, List.all_eq_true, List.mem_range, Bool.and_eq_true, Bool.or_eq_true, List.any_eq_true, memB_iff] at hp'
    have hpre : ∀ j ∈ pr.getD i [], bv v j = true := by
      intro j hj
      rcases (hp' i hlt).2 j hj with q | ⟨k, hk, q⟩
      · exact hdir j q
      · exact hcl k (hdir k hk) j q
    have hsuc : ∀ j, i ∈ pr.getD j [] → bv v j = false := by
      intro j hj
      cases hb : bv v j
      · rfl
      · have := hcl j hb i hj
        rw [hf] at this; cases this
    have hg : gam pr E (E.map (bv v)) i (bv v) = bv v := by
      funext j
      unfold gam
      cases h1 : Nat.beq j i
      · simp only [cond_false]
        cases h2 : memB (pr.getD j []) i
        · simp only [cond_false, lkB_map]
          split
          · rename_i x hx
            split at hx
            · simpa using hx.symm
            · cases hx
          · cases h3 : memB (pr.getD i []) j
            · rfl
            · exact (hpre j (memB_iff.1 h3)).symm
        · exact (hsuc j (memB_iff.1 h2)).symm
      · rw [Nat.eq_of_beq_eq_true h1]; exact hf.symm
    have hri : i ∈ rdyE pr E (E.map (bv v)) ops.size := by
      simp only [rdyE, List.mem_filter, List.mem_range, Bool.and_eq_true, List.all_eq_true, lkB_map]
      refine ⟨hlt, ?_, fun j hj => ?_⟩
      · split
        · rename_i hq
          split at hq
          · simp only [Option.some.injEq] at hq; rw [hf] at hq; cases hq
          · cases hq
        · rfl
      · split
        · rename_i hq
          split at hq
          · simp only [Option.some.injEq] at hq; rw [hpre j hj] at hq; cases hq
          · cases hq
        · rfl
    have hstep := flat_eqL (r := fun mb => rdyE pr E mb ops.size) (hst (bv v)) _ hE i hri
    rw [hg] at hstep
    have hdead : ∀ j, deadB pr i j = true → bv v j = false := by
      intro j hj
      unfold deadB at hj
      cases h1 : Nat.beq j i
      · rw [h1] at hj; exact hsuc j (memB_iff.1 hj)
      · rw [Nat.eq_of_beq_eq_true h1]; exact hf
    have hstep := stepM_spec hdead hstep
    have hset : setB (bv v) i = bv (v.set i true) := by
      funext j
      unfold setB
      cases h1 : Nat.beq j i
      · have : i ≠ j := fun e => by subst e; simp at h1
        simp [bv, List.getD_eq_getElem?_getD, List.getElem?_set, this]
      · have := Nat.eq_of_beq_eq_true h1
        subst this
        simp [bv, List.getD_eq_getElem?_getD, show j < v.length by omega]
    unfold stepN at hstep
    split at hstep
    · rename_i o s ho hs
      split at hstep
      · rename_i c st' hss
        simp only [Option.some.injEq, Prod.mk.injEq] at hstep
        obtain ⟨hcc, hst'⟩ := hstep
        rw [hset] at hst'
        have hwp := stepS_wp (K := fun s' => Less s' (d.st (bv (v.set i true)))) hss (hcc ▸ andLL_get hc i) (hst' ▸ canS_less ids hids st')
        have hw := wpO_sound (Q := fun e a' w' => ∃ st' G', Q e st' ∧ R F st' a' w' G') hR hwp
        have hnext : ∀ a' w', Nxt F (fun s' => Less s' (d.st (bv (v.set i true)))) a' w' → wpAny P .any ops (fun e a' w' => ∃ st' G', Q e st' ∧ R F st' a' w' G') fuel (v.toArray.setIfInBounds i true) a' w' := by
          intro a' w' ⟨s', G', hl, hR'⟩
          have hsa : v.toArray.setIfInBounds i true = (v.set i true).toArray := by simp
          rw [hsa]
          refine ih (v.set i true) a' w' G' (by simpa using hv) ?_ ?_ ?_ (hR'.less hl)
          · simp only [msOk, Bool.and_eq_true, List.all_eq_true, List.contains_iff_mem] at hm
            have := hm.2 _ hE i hri
            have e : (E.map fun j => cond (Nat.beq j i) true ((lkB E (E.map (bv v)) j).getD false)) = E.map (bv (v.set i true)) := by
              refine List.map_congr_left (fun j hj => ?_)
              rw [← hset, lkB_map, if_pos hj]
              rfl
            rwa [e] at this
          · intro k hk j hj
            rw [← hset] at hk ⊢
            unfold setB at hk ⊢
            cases h1 : Nat.beq j i
            · simp only [cond_false]
              cases h2 : Nat.beq k i
              · rw [h2] at hk; exact hcl k hk j hj
              · rw [Nat.eq_of_beq_eq_true h2] at hj; exact hpre j hj
            · rfl
          · have hb : v[i]? = some false := by
              have hl : i < v.length := by omega
              simp only [bv, List.getD_eq_getElem?_getD, List.getElem?_eq_getElem hl, Option.getD_some] at hf
              rw [List.getElem?_eq_getElem hl, hf]
            have := unl_set _ i hb
            omega
        unfold wpOp
        rw [ho]
        simp only
        by_cases hwt : Region.wanted o (yielded ops a.tmps) = true
        · rw [if_pos hwt] at hw ⊢
          exact .inl (Oper.wp_mono hnext hw)
        · rw [if_neg hwt] at hw ⊢
          exact hnext _ _ hw
      · cases hstep
    · cases hstep
/-- A region that draws its order, the reads left open. -/
theorem Holds.regS {st : St} {rid : Nat} {l : List Oper} {Q : Exit → St → Prop} (h1 : P.follows .mixedOrders = true) (pr : List (List Nat)) (E : List Nat) (ms : List (List Bool)) (ss : List Stp) (ids : List Bid) (d : RD) (cs : List (List Prop)) (hc : andLL cs) (hQ : Q .normal (d.st fun j => Nat.blt j l.toArray.size))
    (hids : nodupB ids = true := by kernel_rfl) (hp : prOk l.toArray pr = true := by kernel_rfl) (hm : msOk pr E ms l.toArray.size = true := by kernel_rfl) (h0 : trimE st (d.st fun _ => false) = some (d.st fun _ => false) := by kernel_rfl)
    (hst : ∀ b, allS P F.I l.toArray ss ids d pr E ms b = wantS l.toArray cs d pr E ms b := by intro b; kernel_rfl) : Holds P F (.region rid l.toArray true) st Q := by
  intro a w G hR
  refine wp_region_any h1 ?_
  have hR' := (hR.less (Less.t h0)).same (w' := { w with drawn := w.drawn + 1 }) ⟨rfl, rfl, rfl⟩ ⟨Nat.le_refl _, fun _ _ => rfl⟩
  have e0 : bv (List.replicate l.toArray.size false) = fun _ => false := by
    funext j
    simp only [bv, List.getD_eq_getElem?_getD, List.getElem?_replicate]
    split <;> rfl
  have key := anyS (P := P) (ops := l.toArray) (Q := Q) (nodupB_spec hids) hp hm hst hc hQ l.toArray.size (List.replicate l.toArray.size false) a _ G (by simp) (by
      simp only [msOk, Bool.and_eq_true, List.contains_iff_mem] at hm
      rw [e0]; exact hm.1) (fun i hi => by rw [e0] at hi; cases hi) (by simp [unl]) (by rw [e0]; exact hR')
  simpa using key
end
def slD : Nat → Nat → List (Nat × List (Nat × V) × V) → List (List (Nat × V) × V)
  | 0, _, _ => []
  | n + 1, i, [] => ([], .undef) :: slD n (i + 1) []
  | n + 1, i, (j, ws, v) :: l => match Nat.beq i j with
    | true => (ws, v) :: slD n (i + 1) l
    | false => ([], .undef) :: slD n (i + 1) ((j, ws, v) :: l)
theorem bC {l : List Prop} {ls : List (List Prop)} (h : andL l) (k : andLL ls) : andLL (l :: ls) := ⟨h, k⟩
theorem bN : andLL [] := trivial
end Go.PL

/- The pure logic: owned slices frozen between regions and where ways meet; slices made of zeros. -/
namespace Go.PL
open Go Go.RowKit
/-- What holds the one state holds the other, under some names. -/
def Wk (st st' : St) : Prop := ∀ (F : Fr) (a : Act) (w : World) (G : Ctx), R F st a w G → ∃ G', R F st' a w G'
theorem Wk.less {st st' : St} (h : Less st st') : Wk st st' := fun _ _ _ G hR => ⟨G, hR.less h⟩
theorem Wk.trans {a b c : St} (h : Wk a b) (k : Wk b c) : Wk a c := fun F x w G hR => by
  obtain ⟨G', q⟩ := h F x w G hR
  exact k F x w G' q
theorem Wk.frz (st : St) (id : Bid) : Wk st (st.freeze id) := fun _ _ _ _ hR => by
  obtain ⟨G', q, _⟩ := hR.freeze id
  exact ⟨G', q⟩
theorem Wk.frzs : ∀ (ids : List Bid) (st : St), Wk st (ids.foldl St.freeze st)
  | [], st => Wk.less (Less.refl st)
  | i :: l, st => (Wk.frz st i).trans (Wk.frzs l _)
theorem wT {st st' : St} (h : trimE st st' = some st' := by kernel_rfl) : Wk st st' := Wk.less (Less.t h)
theorem wF {st st' : St} (ids : List Bid) (hn : nodupB st'.ids = true := by kernel_rfl) (h : trimE (canS st'.ids (ids.foldl St.freeze st)) st' = some st' := by kernel_rfl) : Wk st st' := (Wk.frzs ids st).trans (Wk.less (lU hn h))
section
variable {P : Program} {F : Fr} {st : St}
theorem Holds.wk {c : Code} {st' : St} {Q : Exit → St → Prop} (h : Wk st st') (hh : Holds P F c st' Q) : Holds P F c st Q := fun a w G hR => by
  obtain ⟨G', q⟩ := h F a w G hR
  exact hh a w G' q
theorem Fz (ids : List Bid) (st' : St) {c : Code} {Q : Exit → St → Prop} (hh : Holds P F c st' Q) (h : ids.foldl St.freeze st = st' := by kernel_rfl) : Holds P F c st Q := Holds.wk (h ▸ Wk.frzs ids st) hh
theorem Holds.loopW {X : Type} (S : X → St) (inv : X → Prop) (μ : X → Nat) {c : Code} {Q : Exit → St → Prop} (x0 : X) (h0 : inv x0) (hl : Wk st (S x0))
    (hb : ∀ x, inv x → Holds P F c (S x) (thenQ (fun st' => ∃ y, inv y ∧ μ y < μ x ∧ Wk st' (S y)) Q)) : Holds P F (.loop c) st Q := by
  refine Holds.loop (X := X × St) (fun p => p.2) (fun p => inv p.1 ∧ Wk p.2 (S p.1)) (fun p => μ p.1) (x0, st) ⟨h0, hl⟩ (Less.refl _) (fun p hp => ?_)
  refine (Holds.wk hp.2 (hb p.1 hp.1)).mono fun e st' q => ?_
  cases e <;> simp only [thenQ] at q ⊢ <;> try exact q
  obtain ⟨y, h1, h2, h3⟩ := q
  exact ⟨(y, st'), ⟨h1, h3⟩, h2, Less.refl _⟩
theorem It {σ ρ : Type} {B : σ → Option (σ ⊕ ρ)} (S : σ → St) {N : Nat} {s0 : σ} {o : ρ} {c : Code} {Q : Exit → St → Prop} (hi : PL.iter B N s0 = some o) (hl : Wk st (S s0))
    (hb : ∀ s z, B s = some z → (∀ o', z = .inr o' → o' = o) → Holds P F c (S s) (thenQ (fun st' => ∃ s', z = .inl s' ∧ Wk st' (S s')) Q)) : Holds P F (.loop c) st Q := by
  refine Holds.loopW (X := Nat × σ) (fun x => S x.2) (fun x => PL.iter B x.1 x.2 = some o) (fun x => x.1) (N, s0) hi hl ?_
  intro ⟨n, s⟩ hx
  cases n with
  | zero => simp [PL.iter] at hx
  | succ n =>
    simp only [PL.iter] at hx
    cases hB : B s with
    | none => rw [hB] at hx; simp at hx
    | some z =>
      rw [hB] at hx
      cases z with
      | inl s' =>
        refine (hb s _ hB (fun o' e => by cases e)).mono fun e st' q => ?_
        cases e <;> simp only [thenQ] at q ⊢ <;> try exact q
        obtain ⟨s'', e, hl'⟩ := q
        injection e with e; subst e
        exact ⟨(n, s'), hx, Nat.lt_succ_self _, hl'⟩
      | inr r =>
        simp only [Option.some.injEq] at hx
        refine (hb s _ hB (fun o' e => by injection e with e; rw [← e]; exact hx)).mono fun e st' q => ?_
        cases e <;> simp only [thenQ] at q ⊢ <;> try exact q
        obtain ⟨s'', e, _⟩ := q
        cases e
theorem Sj {X : Type} (S : X → St) (Φ : X → Prop) {x y : Code} {Q : Exit → St → Prop} (hx : Holds P F x st (thenQ (fun st' => ∃ v, Φ v ∧ Wk st' (S v)) Q)) (hy : ∀ v, Φ v → Holds P F y (S v) Q) : Holds P F (.seq x y) st Q :=
  Holds.seq (hx.mono fun e st' q => by
    cases e <;> simp only [thenQ] at q ⊢ <;> try exact q
    obtain ⟨v, h1, h2⟩ := q
    exact Holds.wk h2 (hy v h1))
end
/-- Rows of zeros. -/
theorem zeros_rep {α : Type} (e : α → List C) (x : α) {z : List C} (hz : z = e x) (hp : 0 < z.length) : ∀ k, zerosL z k = (List.replicate k x).flatMap e := by
  intro k
  subst hz
  apply List.ext_getElem?
  intro i
  have hlen : ((List.replicate k x).flatMap e).length = k * (e x).length := by
    induction k with
    | zero => simp
    | succ k ih => rw [List.replicate_succ, List.flatMap_cons, List.length_append, ih, Nat.succ_mul, Nat.add_comm]
  by_cases hi : i < k * (e x).length
  · have hm : i % (e x).length < (e x).length := Nat.mod_lt _ hp
    have key : ∀ k i, i < k * (e x).length → ((List.replicate k x).flatMap e)[i]? = (e x)[i % (e x).length]? := by
      intro k
      induction k with
      | zero => intro i h; simp at h
      | succ k ih =>
        intro i h
        rw [List.replicate_succ, List.flatMap_cons]
        by_cases hlt : i < (e x).length
        · rw [List.getElem?_append_left hlt, Nat.mod_eq_of_lt hlt]
        · rw [List.getElem?_append_right (by omega), ih _ (by rw [Nat.succ_mul] at h; omega), ← Nat.mod_eq_sub_mod (by omega)]
    rw [key k i hi]
    simp only [zerosL, List.getElem?_map, List.getElem?_range hi, Option.map_some]
    rw [List.getD_eq_getElem?_getD, List.getElem?_eq_getElem hm]
    rfl
  · rw [List.getElem?_eq_none (by simp only [zerosL, List.length_map, List.length_range]; omega), List.getElem?_eq_none (by rw [hlen]; omega)]
theorem mk1 {α : Type} {x : α} {lx : List α} {n : Nat} (h : some (List.replicate n x) = some lx) (e : α → List C) (hp : Nat.blt 0 (e x).length = true := by kernel_rfl) : n = lx.length ∧ zerosL (e x) n = lx.flatMap e := by
  have := Option.some.inj h
  subst this
  exact ⟨by simp, zeros_rep e x rfl (by simpa using hp) n⟩
theorem lsub_b {α : Type} {s c : List α} {a b : Int} (h : lsub s a b = some c) : 0 ≤ a ∧ a ≤ b ∧ b ≤ s.length := by
  unfold lsub at h; split at h
  · assumption
  · cases h
theorem lsub_x {α : Type} {s c : List α} {a b : Int} (h : lsub s a b = some c) : c = (s.drop a.toNat).take (b.toNat - a.toNat) := by
  unfold lsub at h; split at h
  · exact (Option.some.inj h).symm
  · cases h
theorem flat_drop {α : Type} {e : α → List C} {N : Nat} (hN : ∀ x, (e x).length = N) : ∀ (l : List α) (k : Nat), (l.flatMap e).drop (k * N) = (l.drop k).flatMap e
  | l, 0 => by simp
  | [], k + 1 => by simp
  | x :: l, k + 1 => by
    rw [List.flatMap_cons, List.drop_succ_cons, ← flat_drop hN l k, Nat.succ_mul, Nat.add_comm, ← List.drop_drop]
    congr 1
    rw [← hN x, List.drop_left]
theorem flat_take {α : Type} {e : α → List C} {N : Nat} (hN : ∀ x, (e x).length = N) : ∀ (l : List α) (k : Nat), (l.flatMap e).take (k * N) = (l.take k).flatMap e
  | l, 0 => by simp
  | [], k + 1 => by simp
  | x :: l, k + 1 => by
    rw [List.flatMap_cons, List.take_succ_cons, List.flatMap_cons, ← flat_take hN l k, Nat.succ_mul, Nat.add_comm, ← hN x, List.take_length_add_append]
theorem sub1 {α : Type} {l r : List α} {a b : Int} {e : α → List C} {N : Nat} (h : lsub l a b = some r) (hN : ∀ x, (e x).length = N) : V.c (.sl (b.toNat - a.toNat) (((l.flatMap e).drop (a.toNat * N)).take ((b.toNat - a.toNat) * N))) = vL e r := by
  have hb := lsub_b h
  rw [flat_drop hN, flat_take hN, ← lsub_x h]
  have : r.length = b.toNat - a.toNat := by
    rw [lsub_x h, List.length_take, List.length_drop]
    omega
  unfold vL
  rw [this]
theorem flat_len' {α : Type} {enc : α → List C} {n : Nat} (hn : ∀ x, (enc x).length = n) (l : List α) : (l.flatMap enc).length = l.length * n := flat_len hn l
end Go.PL

/- The pure logic: a string read as bytes; calls of a function that lies in a slot. -/
namespace Go.PL
open Go Go.RowKit
def bytesI (s : List UInt8) : List Int := s.map fun b => (b.toNat : Int)
def byteE (P : Program) (dst : TypeId) : Option TypeId := match P.underlying dst with
  | some (.slice e) => match P.underlying e with
    | some (.int .u8) => some e
    | _ => none
  | _ => none
theorem byteE_spec {P : Program} {dst e : TypeId} (h : byteE P dst = some e) : P.underlying dst = some (.slice e) ∧ P.underlying e = some (.int .u8) := by
  unfold byteE at h
  split at h
  · rename_i e' h1
    split at h
    · rename_i h2
      injection h with h; subst h
      exact ⟨h1, h2⟩
    · cases h
  · cases h
theorem relRow_bytes {w : World} {G : Ctx} {e : TypeId} (s : List UInt8) : ∀ (l : List UInt8) (k : Nat), s.drop k = l → RelRow (Lib.bytesWorld w e ⟨s.toArray⟩) G ((bytesI l).flatMap (eI .u8)) w.heap.size k
  | [], _, _ => by simp [bytesI, RelRow]
  | b :: l, k, h => by
    have hk : k < s.length := by
      rcases Nat.lt_or_ge k s.length with q | q
      · exact q
      · rw [List.drop_eq_nil_of_le q] at h; cases h
    have hb : s.getD k 0 = b := by
      have := congrArg (fun l => l.head?) h
      simp only [List.head?_drop, List.head?_cons] at this
      rw [List.getD_eq_getElem?_getD, this]; rfl
    have hd : s.drop (k + 1) = l := by
      have := congrArg List.tail h
      simpa using this
    simp only [bytesI, List.map_cons, List.flatMap_cons, eI, List.cons_append, List.nil_append, RelRow, RelC]
    refine ⟨⟨_, Lib.bytesWorld_cell w e ⟨s.toArray⟩ k (by simpa [ByteArray.size] using hk), ?_⟩, relRow_bytes s l (k + 1) hd⟩
    simp only [List.getD_eq_getElem?_getD] at hb
    simp [List.getD_eq_getElem?_getD, hb]
theorem Esc.bytes {P : Program} {I : World → Prop} {o : Oper} {st : St} {K : St → Prop} {x : Operand} {src dst : TypeId} (e : TypeId) (s : List UInt8)
    (ho : o.op = .convert src dst x) (hlen : s.length ≤ 140737488355328) (hK : K (st.put o.dst (vL (eI .u8) (bytesI s)))) (ha : st.ev x = .c (.str s) := by kernel_rfl)
    (hs : isStr P src = true := by kernel_rfl) (hd : byteE P dst = some e := by kernel_rfl) : Esc P I o st K := by
  intro F a w G Q hI hR
  obtain ⟨h1, h2⟩ := byteE_spec hd
  have hx := hR.ev x
  rw [ha] at hx
  simp only [RelV, RelC] at hx
  obtain ⟨u, hu⟩ : ∃ u, P.underlying src = some u := by
    unfold isStr at hs
    cases hq : P.underlying src with
    | none => rw [hq] at hs; simp at hs
    | some u => exact ⟨u, rfl⟩
  have hrun : (execOp a.eval o).run P w = .ok (.value (.slice (some ⟨w.heap.size, 0, none⟩) s.length (grownCap w s.length 0 e))) (Lib.bytesWorld w e ⟨s.toArray⟩) := by
    have := Lib.run_convert_string_bytes (P := P) w src dst e ⟨s.toArray⟩ hu h1 h2
    simp [execOp, ho, hx, this, ByteArray.size]
  refine wp_of_value hrun ⟨_, G, hK, ?_⟩
  have hb := Lib.bytesWorld_below w e ⟨s.toArray⟩
  refine (hR.same (outer_below hb) (same_below hb)).put ?_
  have hl : (bytesI s).length = s.length := by simp [bytesI]
  simp only [RelV, RelC, hl]
  refine ⟨pureL_flatMap _ (fun x => by simp [eI, pureL, C.pure]) _, _, _, rfl, grownCap_ge _ _ _ _, grownCap_le_maxLen _ _ _ _ (by simp only [maxLen]; omega), fun h0 => ?_, .inr ⟨w.heap.size, 0, rfl, fun hw => absurd (hR.avlt' hw) (by omega), ?_, relRow_bytes s s 0 rfl⟩⟩
  · have : s = [] := List.length_eq_zero_iff.1 h0
    subst this; rfl
  · rw [Lib.bytesWorld_size]; omega
end Go.PL

/- The pure logic: slices that may be nil; maps that are made and held. -/
namespace Go.PL
open Go Go.RowKit
/-- Is a slice nil? If so it has no elements. -/
theorem Esc.nilq {P : Program} {I : World → Prop} {o : Oper} {st : St} {K : St → Prop} {t ty : TypeId} {x : Operand} {len : Nat} {cs : List C}
    (ho : o.op = .binOp .eql t x (.const (.slice none 0 0)) ty) (hK : ∀ b, (b = true → len = 0) → K (st.put o.dst (vB b)))
    (hx : st.ev x = .c (.sl len cs) := by kernel_rfl) (ht : isSlice P t = true := by kernel_rfl) : Esc P I o st K := by
  intro F a w G Q hI hR
  obtain ⟨e, hu⟩ := isSlice_spec ht
  have hv := hR.ev x
  rw [hx] at hv
  simp only [RelV, RelC] at hv
  obtain ⟨_, p, cap, he, _, _, _, hz⟩ := hv
  have hrun : (execOp a.eval o).run P w = .ok (.value (.bool p.isNone)) w := by
    have hq := run_equal_slice_nil (P := P) w t e p len cap hu
    have hc : a.eval (.const (.slice none 0 0)) = .slice none 0 0 := rfl
    simp [execOp, ho, he, hc, eqGuard, binOp, hq]
  refine wp_of_value hrun ⟨_, G, hK p.isNone (fun hp => ?_), hR.put (by simp only [RelV, RelC])⟩
  rcases hz with q | ⟨b, off, q, _⟩
  · exact q
  · rw [q] at hp; cases hp
theorem Esc.map {P : Program} {I : World → Prop} {o : Oper} {st : St} {K : St → Prop} {t : TypeId} (ho : o.op = .makeMap t none) (hK : K (st.put o.dst (.c .any))) : Esc P I o st K := by
  intro F a w G Q hI hR
  have hrun : (execOp a.eval o).run P w = .ok (.value (.map (some w.heap.size))) (w.alloc (.map #[] 0)) := by
    simp [execOp, ho, Instr.makeMap, newObj]
    rfl
  refine wp_of_value hrun ⟨_, G, hK, ?_⟩
  have hb : Below w.heap.size w (w.alloc (.map #[] 0)) := (Below.refl _ _).alloc (Nat.le_refl _) _
  exact (hR.same (outer_below hb) (same_below hb)).put (by simp only [RelV, RelC]; rfl)
end Go.PL

/- The pure logic: calls that hand back a slice that is the caller's own from then on. -/
namespace Go.PL
open Go Go.RowKit
structure PCallO (P : Program) (I : World → Prop) (f : FuncId) (args : List V) (E n : Nat) (Q : Nat → List C → Prop) : Prop where
  ent : ent P f = true
  run : ∀ (w : World) (vs : Array Value) (av : Nat → Prop), I w → (∀ b, av b → b < w.heap.size) → RelVs w (im av) args vs.toList →
    Calls P f vs w (fun e w' => ∃ v len cs us, e = .returned v ∧ Q len cs ∧ pureL cs = true ∧ cs.length = len * n ∧
      ((∃ p, v = .slice p 0 0 ∧ len = 0) ∨ RelL w' (im fun b => av b ∨ v.ownBlock = some b) cs us ∧ w'.ownsRow w.heap.size E n v len us) ∧ Below w.heap.size w w')
/-- What a body that ends so owes. -/
def endO (st : St) (t : Nat) (E n : Nat) (Q : Nat → List C → Prop) : Prop :=
  (∃ id e len, st.get t = .c (.osl id) ∧ st.look id = some e ∧ e.row = some (E, n, len) ∧ pureL e.cs = true ∧ Q len e.cs) ∨ (st.get t = .c .nils ∧ Q 0 [])
theorem PCallO.of {P : Program} {I : World → Prop} (hst : Stable I) {f : FuncId} {fn : Func} {c : Code} {args : List V} {E n t m : Nat} {Q : Nat → List C → Prop} (hent : PL.ent P f = true) (hf : P.funcs[f]? = some fn) (hb : fn.body = some c)
    (hr : fn.results = #[.tmp t]) (hn : fn.ntmps = m)
    (h : ∀ w0 av old gv, Holds P ⟨w0, av, old, I, gv⟩ c (St.start args m) (fun e st' => (e = .normal ∨ e = .ret) ∧ endO st' t E n Q)) : PCallO P I f args E n Q := by
  refine ⟨hent, fun w vs av hI hav hargs => calls_of_wp hf hb ?_⟩
  subst hn
  have hR := R.start hst hI hav hargs fn.ntmps
  refine Code.wp_mono (fun e a' w' ⟨st', G', ⟨he, q⟩, hR'⟩ => ?_) (h _ _ _ _ _ _ _ hR)
  have fin : a'.defers = [] ∧ ∃ v, (results fn a'.tmps).run P w' = .ok v w' ∧ (fun (e : Ending) w'' => ∃ v len cs us, e = .returned v ∧ Q len cs ∧ pureL cs = true ∧ cs.length = len * n ∧
      ((∃ p, v = .slice p 0 0 ∧ len = 0) ∨ RelL w'' (im fun b => av b ∨ v.ownBlock = some b) cs us ∧ w''.ownsRow w.heap.size E n v len us) ∧ Below w.heap.size w w'') (.returned v) w' := by
    have hres : (results fn a'.tmps).run P w' = .ok (a'.tmps.getD t Go.undef) w' := by
      have := results_run (P := P) (w := w') (fn := fn) (tmps := a'.tmps) (vs := [a'.tmps.getD t Go.undef]) (by rw [hr]; simp [resRun])
      simpa using this
    refine ⟨hR'.dfr, _, hres, ?_⟩
    have hbel := hR'.below (fun _ hx => hx)
    have hsl := hR'.slots t
    rcases q with ⟨id, e, len, q1, q2, q3, q4, q5⟩ | ⟨q1, q2⟩
    · have hsl' : RelV w' G' (st'.get t) (a'.tmps.getD t Go.undef) := hsl
      rw [q1] at hsl'
      simp only [RelV, RelC] at hsl'
      obtain ⟨hm, hid⟩ := look_mem q2
      obtain ⟨v, us, k1, k2, k3, k4⟩ := own_of_relE q3 (hR'.store e hm)
      have hE := hR'.store e hm
      have hl : e.cs.length = len * n := by unfold RelE at hE; rw [q3] at hE; exact hE.1
      rw [hid] at k1
      rw [k1] at hsl'
      have hv : v = a'.tmps.getD t Go.undef := by have := hsl'.1; injection this
      refine ⟨_, len, e.cs, us, rfl, q5, q4, hl, ?_, hbel⟩
      rw [← hv]
      rcases k4 with ⟨k4, k5⟩ | ⟨p, rfl, k5, _⟩
      · refine .inr ⟨RelL.mono (G := G') ⟨Nat.le_refl _, fun _ _ _ => rfl, fun b _ hw => ?_, fun _ _ _ _ => TyKept.same rfl⟩ _ _ (fun i hi => absurd (show menL i e.cs = true from hi) (by rw [pureL_men i e.cs q4]; simp)) k3, ?_⟩
        · rw [hR'.wr]
          have hw' : av b ∨ v.ownBlock = some b := hw
          rcases hw' with q | q
          · exact .inl q
          · exact .inr ⟨id, by rw [← hid, ← k5]; exact q⟩
        · refine ⟨k4.1, ?_⟩
          rcases k4.2 with ⟨q, h0⟩ | ⟨g, cap, cur, q, z1, z2, z3, z4, z5, z6⟩
          · exact .inl ⟨q, h0⟩
          · refine .inr ⟨g, cap, cur, q, ?_, z2, z3, z4, z5, z6⟩
            have hg : G'.blk e.id = some g := by rw [← k5, q]; rfl
            rcases hR'.new _ _ hg with q' | q'
            · exact q'
            · exact q'.elim
      · exact .inl ⟨some p, rfl, k5⟩
    · have hsl' : RelV w' G' (st'.get t) (a'.tmps.getD t Go.undef) := hsl
      rw [q1] at hsl'
      simp only [RelV, RelC] at hsl'
      exact ⟨_, 0, [], [], rfl, q2, rfl, by simp, .inl ⟨none, hsl', rfl⟩, hbel⟩
  rcases he with rfl | rfl <;> exact fin
end Go.PL
namespace Go.PL
open Go Go.RowKit
theorem PCallO.flat {P : Program} {I : World → Prop} {f : FuncId} {args : List V} {E n k : Nat} {ds : List C} (h : PCallO P I f args E n (fun len cs => len = k ∧ cs = ds)) : PCall P I f args (· = .c (.sl k ds)) := by
  refine ⟨h.ent, fun w vs av hI hav hr => (h.run w vs av hI hav hr).mono ?_⟩
  rintro e w' ⟨v, len, cs, us, he, ⟨rfl, rfl⟩, hp, hl, hv, hb⟩
  refine ⟨v, _, he, rfl, by simp only [V.pure, C.pure], ?_, hb⟩
  simp only [RelV, RelC]
  refine ⟨hp, ?_⟩
  rcases hv with ⟨p, rfl, rfl⟩ | ⟨hr, hown⟩
  · exact ⟨p, 0, rfl, Nat.le_refl _, Nat.zero_le _, fun _ => List.length_eq_zero_iff.1 (by simpa using hl), .inl rfl⟩
  · have h0 : len = 0 → cs = [] := fun h0 => List.length_eq_zero_iff.1 (by rw [hl, h0, Nat.zero_mul])
    rcases hown.2 with ⟨q, q0⟩ | ⟨g, cap, cur, q, z1, z2, z3, z4, z5, z6⟩
    · exact ⟨none, 0, by rw [q, q0], by omega, Nat.zero_le _, h0, .inl q0⟩
    · refine ⟨_, cap, q, z3, z4, h0, .inr ⟨g, 0, rfl, fun ha => ?_, (Array.getElem?_eq_some_iff.1 z2).1, ?_⟩⟩
      · have := hav g ha; omega
      · refine RelRow.of_list (vs := us) ?_ (range_of_heap z2 (rest := cur.toList.drop (len * n)) (by rw [← z6, List.take_append_drop]))
        exact RelL.mono (G := im fun b => av b ∨ v.ownBlock = some b) ⟨Nat.le_refl _, fun _ _ _ => rfl, fun b _ hw => .inl hw, fun _ _ _ _ => TyKept.same rfl⟩ _ _ (fun i hi => absurd (show menL i cs = true from hi) (by rw [pureL_men i cs hp]; simp)) hr
/-! A call that is walked inside, under a guard. -/
theorem R.guarded {F : Fr} {st : St} {a : Act} {w : World} {G : Ctx} (h : R F st a w G) {g : Bool} (hg : g = true) (d : Nat) : R F (st.put (some d) (.g g (st.get d))) a w G := {
    dfr := h.dfr
    size := by simp [St.put, h.size]
    slots := fun i => by
      simp only [St.put, List.getD_eq_getElem?_getD, List.getElem?_set]
      by_cases hi : d = i
      · subst hi
        by_cases hl : d < st.tm.length
        · rw [if_pos rfl, if_pos hl, Option.getD_some]
          simp only [RelV]
          rw [if_pos hg]
          exact h.slots d
        · rw [if_pos rfl, if_neg hl, Option.getD_none]; simp only [RelV]
      · rw [if_neg hi]
        have := h.slots i
        simpa only [List.getD_eq_getElem?_getD] using this
    ghosts := h.ghosts, store := h.store, pures := h.pures, nodup := h.nodup
    inj := h.inj, lt := h.lt, new := h.new, wr := h.wr, avlt := h.avlt, inv := h.inv, avold := h.avold, os := h.os, tape := h.tape, output := h.output, hsize := h.hsize, ext := h.ext }
theorem Run.inlgJ {P : Program} {I : World → Prop} {ops : Array Oper} {st : St} {K : St → Prop} {X : Type} (S : X → St) (Φ : X → Prop) {l rest : List Oper} {o : Oper} {j : Nat} {want g : Bool} (d : Nat) (hl : l = o :: rest) (hg : o.guard = some (j, want)) (hd : o.dst = some d)
    (hT : g = true → Esc P I o st (fun st' => ∃ v, Φ v ∧ Less (st'.put (some d) (.g g (st'.get d))) (S v)))
    (hF : g = false → ∃ v x, Φ v ∧ Less (st.put (some d) (.g g x)) (S v))
    (hK : ∀ v, Φ v → wpOps P I ops rest (S v) K) (hgd : guardOf st ops j want = some g := by kernel_rfl) : wpOps P I ops l st K := by
  subst hl
  simp only [wpOps, wpO, hg, hgd]
  refine .inl ⟨fun q => .inl fun F a w G Q hI hR => ?_, fun q => ?_⟩
  · refine Oper.wp_mono (fun _ _ ⟨_, G', ⟨v, hv, hl⟩, hR'⟩ => ?_) (hT q F a w G Q hI hR)
    exact ⟨S v, G', hK v hv, (hR'.guarded q d).less hl⟩
  · obtain ⟨v, x, hv, hl⟩ := hF q
    rw [hd]
    exact ⟨x, S v, hl, hK v hv⟩
theorem Esc.ung {P : Program} {I : World → Prop} {o : Oper} {st : St} {K : St → Prop} {g : Bool} {x : V} (t : Nat) (hg : g = true) (h : Esc P I o (st.put (some t) x) K) (hs : st.get t = .g g x := by kernel_rfl) : Esc P I o st K := by
  intro F a w G Q hI hR
  refine h F a w G Q hI ?_
  have hx : RelV w G x (a.tmps.getD t Go.undef) := by
    have := hR.slots t
    have hs' : st.tm.getD t .undef = .g g x := hs
    rw [hs'] at this
    simp only [RelV] at this
    rw [if_pos hg] at this
    exact this
  exact {
    dfr := hR.dfr
    size := by simp [St.put, hR.size]
    slots := fun i => by
      simp only [St.put, List.getD_eq_getElem?_getD, List.getElem?_set]
      by_cases hi : t = i
      · subst hi
        by_cases hl : t < st.tm.length
        · rw [if_pos rfl, if_pos hl, Option.getD_some]; exact hx
        · rw [if_pos rfl, if_neg hl, Option.getD_none]; simp only [RelV]
      · rw [if_neg hi]
        have := hR.slots i
        simpa only [List.getD_eq_getElem?_getD] using this
    ghosts := hR.ghosts, store := hR.store, pures := hR.pures, nodup := hR.nodup
    inj := hR.inj, lt := hR.lt, new := hR.new, wr := hR.wr, avlt := hR.avlt, inv := hR.inv, avold := hR.avold, os := hR.os, tape := hR.tape, output := hR.output, hsize := hR.hsize, ext := hR.ext }
end Go.PL

/- The pure logic: labels that nothing jumps to, and the scopes that bear them. -/
namespace Go.PL
open Go Go.RowKit
section
variable {P : Program} {F : Fr} {st : St}
def scopeQ (Q : Exit → St → Prop) : Exit → St → Prop
  | .goto _, _ => False
  | e, st => Q e st
theorem scopeQ.normal {Q : Exit → St → Prop} (h : Q .normal st) : scopeQ Q .normal st := h
theorem scopeQ.ret {Q : Exit → St → Prop} (h : Q .ret st) : scopeQ Q .ret st := h
theorem scopeQ.exit {Q : Exit → St → Prop} {i : Nat} (h : Q (.exit i) st) : scopeQ Q (.exit i) st := h
end
end Go.PL

/- The pure logic: a strings.Builder of the call's own. -/
namespace Go.PL
open Go Go.RowKit
/-- copyCheck of such a builder: it is as it was. -/
theorem Esc.cc {P : Program} {I : World → Prop} {o : Oper} {st : St} {K : St → Prop} {f : FuncId} {x : Operand} {T : TypeId} {id : Bid} {c1 : C} (hk : kindOf o.op = .call f [x]) (hent : ent P f = true)
    (hused : ∀ (b : Nat) (w : World), w.cell? ⟨b, 0, none⟩ = some (.pointer (some ⟨b, 0, none⟩)) → Calls P f #[.pointer (some ⟨b, 0, none⟩)] w fun e w' => e = .returned (.tuple #[]) ∧ w' = w)
    (hfresh : ∀ (b : Nat) (w : World), w.cell? ⟨b, 0, none⟩ = some (.pointer none) → w.shape? b = some (T, 2) → w.frozen? ⟨b, 0, none⟩ = false → Calls P f #[.pointer (some ⟨b, 0, none⟩)] w fun e w' => e = .returned (.tuple #[]) ∧ w' = w.setCell ⟨b, 0, none⟩ (.pointer (some ⟨b, 0, none⟩)))
    (hK : K (st.put o.dst (.tup []))) (hx : st.ev x = .c (.ptr id 0) := by kernel_rfl) (hl : st.look id = some ⟨id, none, [.bld id T, c1], false⟩ := by kernel_rfl) : Esc P I o st K := by
  intro F a w G Q hI hR
  have hr := callRun (a := a) hk hent w
  unfold Oper.wp Oper.upon
  rw [hr]
  have hxv := hR.ev x
  rw [hx] at hxv
  simp only [RelV, RelC] at hxv
  obtain ⟨b, hb, hxb⟩ := hxv
  obtain ⟨hm, -⟩ := look_mem hl
  have hE := hR.store _ hm
  obtain ⟨b', q1, hbx⟩ := (by simpa only [RelE] using hE : ∃ b, G.blk id = some b ∧ BoxAt w G [C.bld id T, c1] b)
  obtain ⟨T', cur, q2, q3, q4⟩ := hbx.cells rfl
  rw [hb] at q1; injection q1 with q1; subst q1
  have q4' := q4
  simp only [RelRow, RelC] at q4
  obtain ⟨⟨v, hv, b2, hb2, ⟨cur2, fz, hh⟩, hn⟩, _⟩ := q4
  rw [hb] at hb2; injection hb2 with hb2; subst hb2
  rw [q2] at hh
  injection hh with hh
  injection hh with h1 h2 h3
  subst h2
  have tupR : ∀ w', RelV w' G (.tup []) (.tuple #[]) := fun w' => by simp [RelV, RelVs]
  have harg : ([x].map a.eval).toArray = #[.pointer (some ⟨b, 0, none⟩)] := by simp [hxb]
  rw [harg]
  rcases hn with rfl | rfl
  · have hsh : w.shape? b = some (T', 2) := by
      simp only [World.shape?, q2]
      have : cur.size = 2 := q3
      rw [this]
    have hfz : w.frozen? ⟨b, 0, none⟩ = false := by simp [World.frozen?, q2]
    refine (hfresh b w hv hsh hfz).mono fun e w' ⟨he, hw⟩ => ?_
    subst he
    refine ⟨_, G, hK, ?_⟩
    have hrl : RelL w G [C.bld id T'] [.pointer (some ⟨b, 0, none⟩)] := by
      simp only [RelL, RelC, and_true]
      exact ⟨b, hb, ⟨cur, (0, 0), q2⟩, .inr rfl⟩
    obtain ⟨cur3, T3, k1, k2, k3⟩ := hR.stored hl hb (off := 0) (xs := [C.bld id T']) hrl (by simp)
    rw [q2] at k1; injection k1 with k1; injection k1 with k1 k1b _; subst k1 k1b
    have hst : st.setCs id (([C.bld id T', c1]).take 0 ++ [C.bld id T'] ++ ([C.bld id T', c1]).drop (0 + [C.bld id T'].length)) (pureL [C.bld id T']) = st := by
      have hn := hR.nodup
      obtain ⟨tm, so, gh, pre⟩ := st
      simp only [St.setCs, St.mk.injEq, true_and, and_true]
      conv => rhs; rw [← List.map_id so]
      refine List.map_congr_left fun d hd => ?_
      split
      · rename_i hdid
        have hdid : d.id = id := by simpa using hdid
        have hde : d = ⟨id, none, [C.bld id T', c1], false⟩ := by
          have := List.pairwise_map.1 hn
          rcases List.mem_iff_getElem.1 hd with ⟨i, hi, hi2⟩
          rcases List.mem_iff_getElem.1 hm with ⟨j, hj, hj2⟩
          rcases Nat.lt_trichotomy i j with q | q | q
          · exact absurd (by rw [hi2, hj2]; exact hdid) (List.pairwise_iff_getElem.1 this i j hi hj q)
          · subst q; rw [← hi2]; exact hj2
          · exact absurd (by rw [hi2, hj2]; exact hdid.symm) (List.pairwise_iff_getElem.1 this j i hj hi q)
        rw [hde]; rfl
      · rfl
    rw [hst] at k3
    have hww : w' = w.setRow b (cur.toList.take 0 ++ [Value.pointer (some ⟨b, 0, none⟩)] ++ cur.toList.drop (0 + [Value.pointer (some ⟨b, 0, none⟩)].length)).toArray := by
      rw [hw, setCell_eq_setRow w b 0 cur T' (0, 0) _ q2]
      congr 1
      have h2 : cur.size = 2 := q3
      apply Array.ext'
      rw [Array.toList_setIfInBounds]
      obtain ⟨l⟩ := cur
      match l, h2 with
      | [u1, u2], _ => rfl
    rw [hww]
    exact k3.put (tupR _)
  · refine (hused b w hv).mono fun e w' ⟨he, hw⟩ => ?_
    subst he hw
    exact ⟨_, G, hK, hR.put (tupR _)⟩
end Go.PL

/- The pure logic: a string appended to a row of bytes of the call's own. -/
namespace Go.PL
open Go Go.RowKit Go.Lib
def strL (s : List UInt8) : List C := s.map fun b => .int .u8 b.toNat
end Go.PL

/- The pure logic: a region that draws its order, whose last operation is told by a rule of its own. -/
namespace Go.PL
open Go Go.RowKit
section
variable {P : Program} {F : Fr} {st : St} {ops : Array Oper}
end
end Go.PL

/- The pure logic: a Builder's text is taken, and the call ends. -/
namespace Go.PL
open Go Go.RowKit
theorem strL_vals {w : World} {G : Ctx} : ∀ {s : List UInt8} {vs : List Value}, RelL w G (strL s) vs → vs = Lib.byteCells s
  | [], [], _ => rfl
  | [], _ :: _, h => by simp [strL, RelL] at h
  | _ :: _, [], h => by simp [strL, RelL] at h
  | b :: s, v :: vs, h => by
    simp only [strL, List.map_cons, RelL, RelC] at h
    have := strL_vals (s := s) (vs := vs) h.2
    rw [h.1, this]; rfl
/-- What a Builder in a box holds. -/
theorem R.builder {F : Fr} {st : St} {a : Act} {w : World} {G : Ctx} (hR : R F st a w G) (hold : ∀ b, ¬ F.old b) {id : Bid} {T E : TypeId} {c1 : C} {s : List UInt8} {b : Nat} (hb : G.blk id = some b)
    (hl : st.look id = some ⟨id, none, [.bld id T, c1], false⟩)
    (h : (∃ r pu, c1 = .osl r ∧ r ≠ id ∧ st.look r = some ⟨r, some (E, 1, s.length), strL s, pu⟩ ∧ s ≠ []) ∨ (c1 = .nils ∧ s = [])) : Lib.IsBuilder T E F.w0.heap.size b (Lib.byteCells s) w := by
  obtain ⟨hm, -⟩ := look_mem hl
  have hE := hR.store _ hm
  obtain ⟨b', q1, hbx⟩ := (by simpa only [RelE] using hE : ∃ b, G.blk id = some b ∧ BoxAt w G [C.bld id T, c1] b)
  obtain ⟨T', cur, q2, q3, q4⟩ := hbx.cells rfl
  rw [hb] at q1; injection q1 with q1; subst q1
  obtain ⟨us, r1, r2⟩ := q4.list
  have hpre := heap_of_range q2 r2
  obtain ⟨v0, v1, rfl⟩ : ∃ v0 v1, us = [v0, v1] := by
    have := r1.length
    match us, this with
    | [x, y], _ => exact ⟨x, y, rfl⟩
  have hcur : cur = #[v0, v1] := by
    apply Array.ext'
    have h2 : cur.toList.length = 2 := by simpa using q3
    have h3 := congrArg List.length hpre
    simp only [List.length_append, List.length_drop, List.length_cons, List.length_nil] at h3
    rw [← hpre]
    have : cur.toList.drop [v0, v1].length = [] := List.length_eq_zero_iff.1 (by rw [List.length_drop, h2]; rfl)
    rw [this]; rfl
  subst hcur
  simp only [RelL, RelC, and_true] at r1
  obtain ⟨⟨b2, hb2, ⟨cur2, fz, hh⟩, hn⟩, hc1⟩ := r1
  rw [hb] at hb2; injection hb2 with hb2; subst hb2
  rw [q2] at hh
  injection hh with hh
  injection hh with _ hT _
  subst hT
  have hbB : F.w0.heap.size ≤ b := (hR.new _ _ hb).resolve_right (hold b)
  have key : w.ownsRow F.w0.heap.size E 1 v1 (Lib.byteCells s).length (Lib.byteCells s) ∧ v1.ownBlock ≠ some b := by
    rcases h with ⟨r, pu, rfl, hrid, hlr, hs⟩ | ⟨rfl, rfl⟩
    · simp only [RelC] at hc1
      obtain ⟨hmr, -⟩ := look_mem hlr
      obtain ⟨v, xs, k1, k2, k3, k4⟩ := own_of_relE rfl (hR.store _ hmr)
      have hv : v = v1 := by
        have := hc1.1
        rw [k1] at this
        injection this
      subst hv
      rcases k4 with ⟨k4, k5⟩ | ⟨p, _, k5, _⟩
      · have hxs := strL_vals k3
        subst hxs
        have hbl : (Lib.byteCells s).length = s.length := Lib.byteCells_length s
        rw [hbl]
        refine ⟨⟨k4.1, ?_⟩, fun q => hrid (hR.inj _ _ b (by rw [← k5]; exact q) hb)⟩
        rcases k4.2 with q | ⟨g, cap, cur, q, z1, z2, z3, z4, z5, z6⟩
        · exact .inl q
        · refine .inr ⟨g, cap, cur, q, ?_, z2, z3, z4, z5, z6⟩
          have hg : G.blk r = some g := by
            have k5' : v.ownBlock = G.blk r := k5
            rw [← k5', q]; rfl
          exact (hR.new _ _ hg).resolve_right (hold g)
      · exact absurd (List.length_eq_zero_iff.1 k5) hs
    · simp only [RelC] at hc1
      subst hc1
      exact ⟨World.ownsRow_nil w _ E 1, by simp [Value.ownBlock]⟩
  rcases hn with rfl | rfl
  · exact .inl ⟨hbB, v1, q2, key.1, key.2⟩
  · exact .inr ⟨hbB, v1, q2, key.1, key.2⟩
end Go.PL

/- The pure logic: maps from ints to ints, of the call's own. -/
namespace Go.PL
open Go Go.RowKit Go.MapKept
/-- Where a key lies, and what it holds. -/
def mfind : List (Int × Int) → Int → Nat → Option (Nat × Int)
  | [], _, _ => none
  | p :: l, k, i => if k == p.1 then some (i, p.2) else mfind l k (i + 1)
def mGet (kv : List (Int × Int)) (k : Int) : Int := match mfind kv k 0 with
  | some (_, v) => v
  | none => 0
def mSto (kv : List (Int × Int)) (i : Nat) (x : Int) : List (Int × Int) := kv.modify i fun p => (p.1, x)
def entOf (p : (Int × Int) × Nat) : MapEntry := ⟨.int .i64 p.1.1, .int .i64 p.1.2, p.2⟩
theorem mapIs_def {kv : List (Int × Int)} {es : List MapEntry} : MapIs kv es ↔ es = kv.zipIdx.map entOf := Iff.rfl
theorem findNow_mfind {kk : IntKind} (k : Int) : ∀ (kv : List (Int × Int)) (n i : Nat), Instr.findNow (.int kk) (.int .i64 k) ((kv.zipIdx n).map entOf) i = some ((mfind kv k i).map fun q => (q.1, .int .i64 q.2))
  | [], _, _ => rfl
  | p :: l, n, i => by
    have ih := findNow_mfind (kk := kk) k l (n + 1) (i + 1)
    simp only [List.zipIdx_cons, List.map_cons, Instr.findNow, entOf, Instr.sameNow, if_true, mfind] at ih ⊢
    cases h : (k == p.1)
    · simpa using ih
    · simp
theorem mfind_some {k : Int} : ∀ {kv : List (Int × Int)} {n i : Nat} {v : Int}, mfind kv k n = some (i, v) → n ≤ i ∧ kv[i - n]? = some (k, v)
  | [], _, _, _, h => by simp [mfind] at h
  | p :: l, n, i, v, h => by
    unfold mfind at h
    split at h
    · rename_i hk
      simp only [Option.some.injEq, Prod.mk.injEq] at h
      obtain ⟨rfl, rfl⟩ := h
      have : k = p.1 := by simpa using hk
      simp [this]
    · obtain ⟨h1, h2⟩ := mfind_some h
      refine ⟨by omega, ?_⟩
      obtain ⟨m, rfl⟩ : ∃ m, i = n + 1 + m := ⟨i - (n + 1), by omega⟩
      rw [show n + 1 + m - n = m + 1 by omega, List.getElem?_cons_succ]
      rwa [show n + 1 + m - (n + 1) = m by omega] at h2
theorem mfind_none {k : Int} : ∀ {kv : List (Int × Int)} {n : Nat}, mfind kv k n = none → k ∉ kv.map (·.1)
  | [], _, _ => by simp
  | p :: l, n, h => by
    unfold mfind at h
    split at h
    · cases h
    · rename_i hk
      have := mfind_none h
      simp only [List.map_cons, List.mem_cons, not_or]
      exact ⟨by simpa using hk, this⟩
def mSet (kv : List (Int × Int)) (k x : Int) : List (Int × Int) := match mfind kv k 0 with
  | some (i, _) => mSto kv i x
  | none => kv ++ [(k, x)]
def St.lookM (st : St) (id : Bid) : Option (List (Int × Int)) := match st.so.find? (fun e => e.id == id) with
  | some ⟨_, none, [.mp kv], false⟩ => some kv
  | _ => none
theorem lookM_mem {st : St} {id : Bid} {kv : List (Int × Int)} (h : st.lookM id = some kv) : (⟨id, none, [.mp kv], false⟩ : Ent) ∈ st.so := by
  unfold St.lookM at h
  split at h
  · rename_i i kv' he
    injection h with h; subst h
    have h1 := List.mem_of_find?_eq_some he
    have h2 := List.find?_some he
    simp only [beq_iff_eq] at h2
    subst h2
    exact h1
  · cases h
section
variable {F : Fr} {st : St} {a : Act} {w : World} {G : Ctx}
theorem R.mapAt (h : R F st a w G) {id : Bid} {kv : List (Int × Int)} (hl : st.lookM id = some kv) : ∃ b es, G.blk id = some b ∧ w.heap[b]? = some (.map es kv.length) ∧ MapIs kv es.toList ∧ (kv.map (·.1)).Nodup := by
  have hE := h.store _ (lookM_mem hl)
  simp only [RelE] at hE
  obtain ⟨b, h1, h2⟩ := hE
  rcases h2 with ⟨kv', es, q1, q2, q3, q4⟩ | ⟨T, cur, q1, q2, q3⟩
  · injection q1 with q1; injection q1 with q1; subst q1
    exact ⟨b, es, h1, q2, q3, q4⟩
  · simp only [RelRow, RelC, and_false, exists_const, false_and] at q3
theorem R.mapped (h : R F st a w G) {id : Bid} {kv kv' : List (Int × Int)} (hl : st.lookM id = some kv) {b : Nat} {es es' : Array MapEntry} (hb : G.blk id = some b) (hh : w.heap[b]? = some (.map es kv.length)) (h1 : MapIs kv' es'.toList) (h2 : (kv'.map (·.1)).Nodup) :
    R F (st.setCs id [.mp kv'] false) a { w with heap := w.heap.setIfInBounds b (.map es' kv'.length) } G := by
  have hm := lookM_mem hl
  obtain ⟨hnew, hold⟩ := heap_set (o' := .map es' kv'.length) hh
  have hbl : ∀ k, k ≠ b → (w.heap.setIfInBounds b (.map es' kv'.length))[k]? = w.heap[k]? := hold
  have hk : Keeps G G w { w with heap := w.heap.setIfInBounds b (.map es' kv'.length) } := {
    size := by simp
    block := fun x hx hw => hbl x (fun q => hw ((h.wr x).2 (.inr ⟨id, by rw [q]; exact hb⟩)))
    wr := fun _ _ q => q
    ty := fun i x hi _ => by
      by_cases hxb : x = b
      · subst hxb
        intro cur T fz q
        rw [hh] at q; injection q with q; cases q
      · exact TyKept.same (hbl x hxb) }
  exact {
    dfr := h.dfr, size := h.size
    slots := fun i => RelV.mono hk _ _ (fun _ _ => ⟨rfl, rfl⟩) (h.slots i)
    ghosts := RelVs.mono hk _ _ (fun _ _ => ⟨rfl, rfl⟩) h.ghosts
    store := by
      intro e' he'
      simp only [St.setCs, List.mem_map] at he'
      obtain ⟨d, hd, rfl⟩ := he'
      split
      · rename_i hdid
        replace hdid : d.id = id := by simpa using hdid
        have : d = ⟨id, none, [.mp kv], false⟩ := by
          have := List.pairwise_map.1 h.nodup
          rcases List.mem_iff_getElem.1 hd with ⟨i, hi, hi2⟩
          rcases List.mem_iff_getElem.1 hm with ⟨j, hj, hj2⟩
          rcases Nat.lt_trichotomy i j with q | q | q
          · exact absurd (by rw [hi2, hj2]; exact hdid) (List.pairwise_iff_getElem.1 this i j hi hj q)
          · subst q; rw [← hi2]; exact hj2
          · exact absurd (by rw [hi2, hj2]; exact hdid.symm) (List.pairwise_iff_getElem.1 this j i hj hi q)
        subst this
        simp only [RelE]
        exact ⟨b, hb, .inl ⟨kv', es', rfl, hnew, h1, h2⟩⟩
      · rename_i hdid
        replace hdid : ¬ d.id = id := by simpa using hdid
        exact relE_mono hk (fun _ _ => ⟨rfl, rfl⟩) ⟨rfl, rfl⟩ (fun k hk' => hbl k (fun q => hdid (h.inj _ _ k hk' (by rw [q]; exact hb)))) (h.store d hd)
    pures := by
      intro e' he'
      simp only [St.setCs, List.mem_map] at he'
      obtain ⟨d, hd, rfl⟩ := he'
      split
      · intro hq; simp at hq
      · exact h.pures d hd
    nodup := by
      have : (st.setCs id [.mp kv'] false).so.map (·.id) = st.so.map (·.id) := by
        simp only [St.setCs, List.map_map]
        apply List.map_congr_left
        intro d _
        simp only [Function.comp]
        split <;> rfl
      rw [this]; exact h.nodup
    inj := h.inj
    lt := fun i k hi => by simpa using h.lt i k hi
    new := h.new, wr := h.wr, avlt := h.avlt, inv := h.inv, avold := h.avold
    os := h.os, tape := h.tape, output := h.output
    hsize := by simpa using h.hsize
    ext := fun k hk' ho => (hbl k (fun q => by
      rcases h.new id b hb with q2 | q2
      · omega
      · exact ho (by rw [q]; exact q2))).trans (h.ext k hk' ho) }
end
section
variable {P : Program} {I : World → Prop} {o : Oper} {st : St} {K : St → Prop}
/-- The types of such a map. -/
def mapTy (P : Program) (t : TypeId) : Bool := match P.underlying t with
  | some (.map kt et) => match P.underlying kt, P.info? et with
    | some (.int .i64), some i => match i.zero with
      | some (.int .i64 0) => true
      | _ => false
    | _, _ => false
  | _ => false
theorem mapTy_spec {t : TypeId} (h : mapTy P t = true) : ∃ kt et, P.underlying t = some (.map kt et) ∧ P.underlying kt = some (.int .i64) ∧ ∃ i, P.info? et = some i ∧ i.zero = some (.int .i64 0) := by
  unfold mapTy at h
  split at h
  · rename_i kt et h1
    split at h
    · rename_i i h2 h3
      split at h
      · rename_i h4
        exact ⟨kt, et, h1, h2, i, h3, h4⟩
      · cases h
    · cases h
  · cases h
theorem isKey_i64 (k : Int) : IsKey (.int .i64) (.int .i64 k) := by simp [IsKey]
theorem Esc.mkMap {t : TypeId} (d : Nat) (ho : o.op = .makeMap t none) (hd : o.dst = some d)
    (hK : K ((st.new ⟨d :: st.pre, none, [.mp []], false⟩).put (some d) (.c (.mref (d :: st.pre))))) : Esc P I o st K := by
  intro F a w G Q hI hR
  have hrun : (execOp a.eval o).run P w = .ok (.value (.map (some w.heap.size))) (w.alloc (.map #[] 0)) := by
    simp [execOp, ho, Instr.makeMap, newObj]
    rfl
  refine wp_of_value hrun ⟨_, upd F G (d :: st.pre) (some w.heap.size) none, hK, ?_⟩
  rw [hd]
  have hsame := same_alloc w (.map #[] 0)
  refine R.put (d := some d) (hR.set ⟨d :: st.pre, none, [.mp []], false⟩ (some w.heap.size) none (outer_alloc _ _) hsame.size (fun b hb _ => hsame.block b hb) (fun b hb _ => hsame.block b (Nat.lt_of_lt_of_le hb hR.hsize)) ?_ (fun q => by cases q) ?_) ?_
  · intro b hb; injection hb with hb; subst hb; exact ⟨.inl (Nat.le_refl _), by simp [alloc_heap]⟩
  · simp only [RelE, Ent.kill]
    exact ⟨w.heap.size, by simp [upd], .inl ⟨[], #[], by simp [killC, C.men], by simp [alloc_heap], by simp [MapIs], by simp⟩⟩
  · simp only [RelV, RelC]
    exact ⟨w.heap.size, by simp [upd], rfl⟩
theorem arr_of_map {kv : List (Int × Int)} {es : Array MapEntry} (h : MapIs kv es.toList) (i : Nat) : es[i]? = (kv[i]?).map fun p => entOf (p, i) := by
  rw [← Array.getElem?_toList, mapIs_def.1 h, List.getElem?_map, List.getElem?_zipIdx]
  cases kv[i]? <;> simp
theorem mapIs_push {kv : List (Int × Int)} {es : Array MapEntry} (h : MapIs kv es.toList) (k v : Int) : MapIs (kv ++ [(k, v)]) (es.push ⟨.int .i64 k, .int .i64 v, kv.length⟩).toList := by
  rw [mapIs_def] at h ⊢
  rw [Array.toList_push, h, List.zipIdx_append, List.map_append]
  simp [entOf]
theorem mapIs_mod {kv : List (Int × Int)} {es : Array MapEntry} (h : MapIs kv es.toList) (i : Nat) (x : Int) : MapIs (mSto kv i x) (es.modify i fun e => { e with val := .int .i64 x }).toList := by
  rw [mapIs_def]
  apply List.ext_getElem?
  intro j
  rw [Array.getElem?_toList, Array.getElem?_modify, arr_of_map h, List.getElem?_map, List.getElem?_zipIdx]
  simp only [mSto, List.getElem?_modify]
  by_cases hij : i = j
  · subst hij
    cases kv[i]? <;> simp [entOf]
  · simp only [if_neg hij]
    cases kv[j]? <;> simp
theorem mSto_keys (kv : List (Int × Int)) (i : Nat) (x : Int) : (mSto kv i x).map (·.1) = kv.map (·.1) := by
  apply List.ext_getElem?
  intro j
  simp only [mSto, List.getElem?_map, List.getElem?_modify]
  by_cases hij : i = j
  · subst hij; cases kv[i]? <;> simp
  · simp [if_neg hij]
theorem mSto_len (kv : List (Int × Int)) (i : Nat) (x : Int) : (mSto kv i x).length = kv.length := by simp [mSto]
theorem Esc.mapSet {t : TypeId} {m k x : Operand} {id : Bid} {kv : List (Int × Int)} {n z : Int} (ho : o.op = .mapUpdate t m k x) (hd : o.dst = none)
    (hK : K (st.setCs id [.mp (mSet kv n z)] false))
    (hm : st.ev m = .c (.mref id) := by kernel_rfl) (hk : st.ev k = .c (.int .i64 n) := by kernel_rfl) (hx : st.ev x = .c (.int .i64 z) := by kernel_rfl) (hl : st.lookM id = some kv := by kernel_rfl) (ht : mapTy P t = true := by kernel_rfl) : Esc P I o st K := by
  intro F a w G Q hI hR
  obtain ⟨kt, et, t1, t2, i, t3, t4⟩ := mapTy_spec ht
  obtain ⟨b, es, h1, h2, h3, h4⟩ := hR.mapAt hl
  have hmv := hR.ev m
  rw [hm] at hmv
  simp only [RelV, RelC] at hmv
  obtain ⟨b', hb', hme⟩ := hmv
  rw [h1] at hb'; injection hb' with hb'; subst hb'
  have hkv := hR.ev k
  rw [hk] at hkv
  simp only [RelV, RelC] at hkv
  have hxv := hR.ev x
  rw [hx] at hxv
  simp only [RelV, RelC] at hxv
  have hfn : Instr.findNow (.int .i64) (.int .i64 n) es.toList 0 = some ((mfind kv n 0).map fun q => (q.1, .int .i64 q.2)) := by
    rw [mapIs_def.1 h3]; exact findNow_mfind n kv 0 0
  unfold mSet at hK
  cases hf : mfind kv n 0 with
  | none =>
    rw [hf] at hfn
    simp only [hf] at hK
    have hrun : (execOp a.eval o).run P w = .ok .skip { w with heap := w.heap.setIfInBounds b (.map (es.push ⟨.int .i64 n, .int .i64 z, kv.length⟩) (kv.length + 1)) } := by
      simp [execOp, ho, hme, hkv, hxv, Instr.mapUpdate, run_underlying t1, MapKept.run_getObj_map h2, MapKept.run_checkKey t2 (isKey_i64 n), MapKept.run_findKey t2 hfn, MapKept.run_setObj_map _ h2, Result.andThen]
    have hnk := mfind_none hf
    have hR' := hR.mapped (kv' := kv ++ [(n, z)]) (es' := es.push ⟨.int .i64 n, .int .i64 z, kv.length⟩) hl h1 h2 (mapIs_push h3 n z) (by
      rw [List.map_append]
      exact List.nodup_append.2 ⟨h4, by simp, fun x hx y hy => by simp at hy; subst hy; exact fun q => hnk (q ▸ hx)⟩)
    rw [List.length_append] at hR'
    unfold Oper.wp Oper.upon
    rw [hrun]
    exact ⟨_, G, hK, by rw [hd]; exact hR'⟩
  | some q =>
    obtain ⟨j, v⟩ := q
    rw [hf] at hfn
    simp only [hf] at hK
    obtain ⟨_, hj⟩ := mfind_some hf
    rw [Nat.sub_zero] at hj
    have hej := arr_of_map h3 j
    rw [hj] at hej
    have hmod : es.modify j (fun e => { e with key := .int .i64 n, val := .int .i64 z }) = es.modify j (fun e => { e with val := .int .i64 z }) := by
      apply Array.ext_getElem?
      intro x
      rw [Array.getElem?_modify, Array.getElem?_modify]
      split
      · rename_i hx; subst hx
        rw [hej]; rfl
      · rfl
    have hrun : (execOp a.eval o).run P w = .ok .skip { w with heap := w.heap.setIfInBounds b (.map (es.modify j fun e => { e with val := .int .i64 z }) kv.length) } := by
      simp [execOp, ho, hme, hkv, hxv, Instr.mapUpdate, run_underlying t1, MapKept.run_getObj_map h2, MapKept.run_checkKey t2 (isKey_i64 n), MapKept.run_findKey t2 hfn, hej, entOf, MapKept.run_keyThatStays (isKey_i64 n), hmod, MapKept.run_setObj_map _ h2, Result.andThen]
    have hR' := hR.mapped (kv' := mSto kv j z) (es' := es.modify j fun e => { e with val := .int .i64 z }) hl h1 h2 (mapIs_mod h3 j z) (by rw [mSto_keys]; exact h4)
    rw [mSto_len] at hR'
    unfold Oper.wp Oper.upon
    rw [hrun]
    exact ⟨_, G, hK, by rw [hd]; exact hR'⟩
theorem Esc.mapGet {t : TypeId} {m k : Operand} {id : Bid} {kv : List (Int × Int)} {n : Int} (ho : o.op = .lookup t m k false)
    (hK : K (st.put o.dst (.c (.int .i64 (mGet kv n)))))
    (hm : st.ev m = .c (.mref id) := by kernel_rfl) (hk : st.ev k = .c (.int .i64 n) := by kernel_rfl) (hl : st.lookM id = some kv := by kernel_rfl) (ht : mapTy P t = true := by kernel_rfl) : Esc P I o st K := by
  intro F a w G Q hI hR
  obtain ⟨kt, et, t1, t2, i, t3, t4⟩ := mapTy_spec ht
  obtain ⟨b, es, h1, h2, h3, h4⟩ := hR.mapAt hl
  have hmv := hR.ev m
  rw [hm] at hmv
  simp only [RelV, RelC] at hmv
  obtain ⟨b', hb', hme⟩ := hmv
  rw [h1] at hb'; injection hb' with hb'; subst hb'
  have hkv := hR.ev k
  rw [hk] at hkv
  simp only [RelV, RelC] at hkv
  have hfn : Instr.findNow (.int .i64) (.int .i64 n) es.toList 0 = some ((mfind kv n 0).map fun q => (q.1, .int .i64 q.2)) := by
    rw [mapIs_def.1 h3]; exact findNow_mfind n kv 0 0
  have hrun : (execOp a.eval o).run P w = .ok (.value (.int .i64 (mGet kv n))) w := by
    unfold mGet
    cases hf : mfind kv n 0 with
    | none =>
      rw [hf] at hfn
      simp [execOp, ho, hme, hkv, Instr.lookup, run_underlying t1, MapKept.run_getObj_map h2, MapKept.run_checkKey t2 (isKey_i64 n), MapKept.run_findKey t2 hfn, run_zeroValue' t3 t4, Result.andThen]
    | some q =>
      rw [hf] at hfn
      simp [execOp, ho, hme, hkv, Instr.lookup, run_underlying t1, MapKept.run_getObj_map h2, MapKept.run_checkKey t2 (isKey_i64 n), MapKept.run_findKey t2 hfn, Result.andThen]
  exact wp_of_value hrun ⟨_, G, hK, hR.put (by simp only [RelV, RelC])⟩
end
end Go.PL

/- The pure logic: method values that are called. -/
namespace Go.PL
open Go Go.RowKit
theorem Esc.inlineB {P : Program} {I : World → Prop} {o : Oper} {st : St} {K : St → Prop} {x : Operand} {xs : List Operand} {c : Call} {s : Prop} {vs : List V} {f : FuncId} {cs : List C} {fn : Func} {body : Code} {n : Nat} {rs : List ResultVar} (k : Nat)
    (ho : o.op = .call c) (hcal : c.callee = .value x) (hxs : c.args.toList = xs) (ha : st.args true xs = (s, vs)) (hs : s) (hf : st.ev x = .c (.bmv f cs)) (hent : ent P f = true) (hfn : P.funcs[f]? = some fn) (hb : fn.body = some body) (hn : fn.ntmps = n) (hr : fn.results = rs.toArray)
    (h : ∀ w0 av old gv, Holds P ⟨w0, av, old, I, gv⟩ body (st.enter k (cs.map V.c ++ vs) n) (inQ P rs st.tm.length st.pre o.dst K)) : Esc P I o st K := by
  intro F a w G Q hI hR
  have hargs : RelVs w G vs (xs.map a.eval) := by
    have := hR.args (g := true) rfl (xs := xs) (by rw [ha]; exact hs)
    rw [ha] at this; exact this
  obtain ⟨arr, hev, hcs⟩ : ∃ arr : Array Value, a.eval x = .func (.func f) arr #[] ∧ RelL w G cs arr.toList := by
    have hx := hR.ev x
    rw [hf] at hx
    simpa only [RelV, RelC] using hx
  have hrun : (execOp a.eval o).run P w = .ok (.enter f (arr ++ (xs.map a.eval).toArray)) w := by
    have e : c.args.map a.eval = (xs.map a.eval).toArray := by apply Array.ext'; simp [← hxs]
    simp [execOp, ho, resolve, hcal, hev, Deferred.ofValue, invoke, run_callFunc' hent, e]
  unfold Oper.wp Oper.upon
  rw [hrun]
  simp only
  obtain ⟨w0, av, old, I', gv⟩ := F
  simp only at hI; subst hI
  have hall : RelVs w G (cs.map V.c ++ vs) (arr ++ (xs.map a.eval).toArray).toList := by
    simpa using relVs_append (relVs_clo hcs) hargs
  refine calls_of_wp hfn hb ?_
  have hR0 := hR.enter k hall fn.ntmps
  rw [hn] at hR0
  rw [hn]
  refine Code.wp_mono (fun e a' w' ⟨st', G', q, hR'⟩ => ?_) (h _ _ _ _ _ _ _ hR0)
  have hrs : fn.results.toList = rs := by rw [hr]
  have fin : (rawOut P st' rs).1 ∧ K (st'.back st.tm.length st.pre o.dst (rawOut P st' rs).2) →
      a'.defers = [] ∧ ∃ v, (results fn a'.tmps).run P w' = .ok v w' ∧ Nxt ⟨w0, av, old, I', gv⟩ K (a.put o.dst v) w' := by
    intro ⟨q1, q2⟩
    rw [← hrs] at q1 q2
    obtain ⟨v, k1, k2⟩ := rawOut_sound hR' (fn := fn) q1
    refine ⟨hR'.dfr, v, k1, _, G', q2, ?_⟩
    exact (R.back hR.dfr rfl hR' hR.size.symm st.pre).put k2
  cases e <;> simp only [inQ] at q <;> first | exact fin q | exact q.elim
end Go.PL
