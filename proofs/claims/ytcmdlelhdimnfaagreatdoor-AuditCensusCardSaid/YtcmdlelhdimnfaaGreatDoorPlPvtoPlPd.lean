/- The pure logic: PlPv, PlPz, PlPu, PlPy, PlPa, PlPb, PlPc, PlPl, PlPd. -/
import Derived.Test.YtcmdlelhdimnfaaGreatDoorPlOtoPlPt
import Derived.Sort.OwnSortedInts
import Derived.Lib.ItoaNum
import Derived.JoinedOf
/- The pure logic: states told by what differs; short words for printed proofs. -/
namespace Go.PL
open Go Go.RowKit
/-- Slots with some struck. -/
def stS : List V → Nat → List Nat → List V
  | [], _, _ => []
  | v :: vs, _, [] => v :: vs
  | v :: vs, i, j :: l => match Nat.beq i j with
    | true => .undef :: stS vs (i + 1) l
    | false => v :: stS vs (i + 1) (j :: l)
/-- Slots with some turned. -/
def upS : List V → Nat → List (Nat × V) → List V
  | [], _, _ => []
  | v :: vs, _, [] => v :: vs
  | v :: vs, i, (j, x) :: l => match Nat.beq i j with
    | true => x :: upS vs (i + 1) l
    | false => v :: upS vs (i + 1) ((j, x) :: l)
/-- An entry of the store: an elder one, an elder one with some cells turned, a new one. -/
inductive Dn where
  | k (n : Nat)
  | s (n : Nat) (l : List (Nat × C))
  | e (x : Ent)
def upC : List C → Nat → List (Nat × C) → List C
  | [], _, _ => []
  | v :: vs, _, [] => v :: vs
  | v :: vs, i, (j, x) :: l => match Nat.beq i j with
    | true => x :: upC vs (i + 1) l
    | false => v :: upC vs (i + 1) ((j, x) :: l)
def entN : List Ent → Nat → Ent
  | [], _ => ⟨[], none, [], false⟩
  | e :: _, 0 => e
  | _ :: l, n + 1 => entN l n
def soD (old : List Ent) : List Dn → List Ent
  | [] => []
  | .k n :: l => entN old n :: soD old l
  | .s n c :: l => (match entN old n with | ⟨i, r, cs, p⟩ => ⟨i, r, upC cs 0 c, p⟩) :: soD old l
  | .e x :: l => x :: soD old l
def u (d : List Nat) (l : List (Nat × V)) (st : St) : St := ⟨upS (stS st.tm 0 d) 0 l, st.so, st.gh, st.pre⟩
def uo (d : List Nat) (l : List (Nat × V)) (o : List Dn) (st : St) : St := ⟨upS (stS st.tm 0 d) 0 l, soD st.so o, st.gh, st.pre⟩
def nA : Nat → List Stp
  | 0 => []
  | n + 1 => .a :: nA n
section
variable {P : Program} {F : Fr} {st : St} {id : Nat} {l : List Oper} {c : Code} {Q : Exit → St → Prop} {cs : List Prop} {K : St → Prop}
theorem Gg (ss : List Stp) (f : St → St) (hl : andL cs) (h : Holds P F c (f st) Q) (hr : trimO (runS P F.I false l.toArray l ss st) (f st) = some (cs, f st) := by kernel_rfl) : Holds P F (.seq (.region id l.toArray false) c) st Q := Holds.rg _ hr hl h
theorem Gq (h1 : P.follows .mixedOrders = true) (ss : List Stp) (f : St → St) (hl : andL cs) (h : Holds P F c (f st) Q) (h2 : Region.lexB .any l.toArray = true := by kernel_rfl) (hr : trimO (runS P F.I true l.toArray l ss st) (f st) = some (cs, f st) := by kernel_rfl) : Holds P F (.seq (.region id l.toArray true) c) st Q := Rq h1 ss (f st) hl h h2 hr
theorem Ge (ss : List Stp) (f : St → St) (hl : andL cs) (h : Q .normal (f st)) (hr : runS P F.I false l.toArray l ss st = some (cs, f st) := by kernel_rfl) : Holds P F (.region id l.toArray false) st Q := Holds.reg hr hl h
theorem Gp {I : World → Prop} {ops : Array Oper} (n : Nat) (ss : List Stp) (f : St → St) (hc : andL cs) (hK : wpOps P I ops (l.drop n) (f st) K) (h : runS P I false ops (l.take n) ss st = some (cs, f st) := by kernel_rfl) : wpOps P I ops l st K := Run.part n (f st) h hc hK
theorem Gw {I : World → Prop} {ops : Array Oper} (ss : List Stp) (f : St → St) (hc : andL cs) (hK : K (f st)) (h : runS P I false ops l ss st = some (cs, f st) := by kernel_rfl) : wpOps P I ops l st K := Run.whole (f st) h hc hK
theorem Gs (f : St → St) (h : Holds P F c (f st) Q) (hl : trimE st (f st) = some (f st) := by kernel_rfl) : Holds P F c st Q := Holds.less (Less.t hl) h
theorem Gj {X : Type} (S : X → St → St) (Φ : X → Prop) {x y : Code} {Q : Exit → St → Prop} (hx : Holds P F x st (thenQ (fun st' => ∃ v, Φ v ∧ Wk st' (S v st)) Q)) (hy : ∀ v, Φ v → Holds P F y (S v st) Q) : Holds P F (.seq x y) st Q := Sj (fun v => S v st) Φ hx hy
theorem Gi {σ ρ : Type} {B : σ → Option (σ ⊕ ρ)} (S : σ → St → St) {N : Nat} {s0 : σ} {o : ρ} {c : Code} {Q : Exit → St → Prop} (hi : PL.iter B N s0 = some o) (hl : Wk st (S s0 st))
    (hb : ∀ s z, B s = some z → (∀ o', z = .inr o' → o' = o) → Holds P F c (S s st) (thenQ (fun st' => ∃ s', z = .inl s' ∧ Wk st' (S s' st)) Q)) : Holds P F (.loop c) st Q := It (fun v => S v st) hi hl hb
theorem hS {x y : Code} {Q : Exit → St → Prop} (h : Holds P F x st (thenQ (fun st' => Holds P F y st' Q) Q)) : Holds P F (.seq x y) st Q := Holds.seq h
theorem hK (h : Q .normal st) : Holds P F .skip st Q := Holds.skip h
theorem hT (h : K st) : Holds P F .skip st (thenQ K Q) := Holds.skip h
theorem hR (h : Q .ret st) : Holds P F .ret st Q := Holds.ret h
theorem hE {id : Nat} (h : Q (.exit id) st) : Holds P F (.exit id) st Q := Holds.exit h
theorem hB {id : Nat} {c : Code} {Q : Exit → St → Prop} (h : Holds P F c st (blockQ id Q)) : Holds P F (.block id c) st Q := Holds.block h
theorem hO {id : Nat} {ops : Array Oper} {Q : Exit → St → Prop} (h : wpOps P F.I ops ops.toList st (Q .normal)) : Holds P F (.region id ops false) st Q := Holds.region h
theorem Te {i : Nat} (h : Q (.exit i) st) : thenQ K Q (.exit i) st := h
theorem qN {i : Nat} (h : Q .normal st) : blockQ i Q .normal st := h
theorem qR {i : Nat} (h : Q .ret st) : blockQ i Q .ret st := h
theorem qX {i : Nat} (h : Q .normal st) : blockQ i Q (.exit i) st := blockQ.out h
end
section
variable {α : Type} {e x : α}
theorem kB {e b : Bool} (h : some e = some b) : vB e = vB b := congrArg vB (sI h)
end
section
variable {α β γ δ ε : Type} {r : ε}
theorem bS2 {o : Option α} {f : α → Option β} {g : α → β → Option ε} (h : (o.bind fun x => (f x).bind (g x)) = some r) : ∃ x, o = some x ∧ ∃ y, f x = some y ∧ g x y = some r := by
  obtain ⟨x, hx, h⟩ := bS h
  obtain ⟨y, hy, h⟩ := bS h
  exact ⟨x, hx, y, hy, h⟩
theorem bS3 {o : Option α} {f : α → Option β} {g : α → β → Option γ} {k : α → β → γ → Option ε} (h : (o.bind fun x => (f x).bind fun y => (g x y).bind (k x y)) = some r) : ∃ x, o = some x ∧ ∃ y, f x = some y ∧ ∃ z, g x y = some z ∧ k x y z = some r := by
  obtain ⟨x, hx, h⟩ := bS h
  obtain ⟨y, hy, z, hz, h⟩ := bS2 h
  exact ⟨x, hx, y, hy, z, hz, h⟩
theorem bS4 {o : Option α} {f : α → Option β} {g : α → β → Option γ} {k : α → β → γ → Option δ} {m : α → β → γ → δ → Option ε} (h : (o.bind fun x => (f x).bind fun y => (g x y).bind fun z => (k x y z).bind (m x y z)) = some r) : ∃ x, o = some x ∧ ∃ y, f x = some y ∧ ∃ z, g x y = some z ∧ ∃ w, k x y z = some w ∧ m x y z w = some r := by
  obtain ⟨x, hx, h⟩ := bS h
  obtain ⟨y, hy, z, hz, w, hw, h⟩ := bS3 h
  exact ⟨x, hx, y, hy, z, hz, w, hw, h⟩
end
section
variable {P : Program} {F : Fr} {st : St} {K : St → Prop}
theorem iC {cc : Operand} {x y : Code} {Q : Exit → St → Prop} {β : Type} {b : Bool} {X Y : Option β} {r : β} (h : (if b = true then X else Y) = some r) (h1 : X = some r → Holds P F x st Q) (h2 : Y = some r → Holds P F y st Q) (hc : st.ev cc = .c (.bool b) := by kernel_rfl) : Holds P F (.cond cc x y) st Q :=
  Holds.ifB b hc (fun hb => h1 (iT h hb)) (fun hb => h2 (iF h hb))
theorem nR {rs : List ResultVar} {m : Nat} {pre : Bid} {d : Option Nat} (v : V) (hK : K (st.back m pre d v)) (h : outB P st rs = some v := by kernel_rfl) : inQ P rs m pre d K .ret st := inQ.ret h hK
theorem nN {rs : List ResultVar} {m : Nat} {pre : Bid} {d : Option Nat} (v : V) (hK : K (st.back m pre d v)) (h : outB P st rs = some v := by kernel_rfl) : inQ P rs m pre d K .normal st := inQ.normal h hK
def trs : Nat → Prop
  | 0 => True
  | n + 1 => True ∧ trs n
theorem trsI : ∀ n, trs n
  | 0 => trivial
  | n + 1 => ⟨trivial, trsI n⟩
theorem Ei {I : World → Prop} {o : Oper} {x : Operand} {xs : List Operand} {c : Call} {f : FuncId} {fn : Func} {body : Code} {n : Nat} (k : Nat) (vs : List V) (cs : List C)
    (hfn : P.funcs[f]? = some fn) (hn : fn.ntmps = n) (rs : List ResultVar) (hb : fn.body = some body) (ho : o.op = .call c) (hcal : c.callee = .value x) (hxs : c.args.toList = xs)
    (h : ∀ w0 av old gv, Holds P ⟨w0, av, old, I, gv⟩ body (st.enter k (vs ++ cs.map V.c) n) (inQ P rs st.tm.length st.pre o.dst K))
    (ha : st.args true xs = (trs vs.length, vs) := by kernel_rfl) (hf : calleeV st x = some (f, cs) := by kernel_rfl) (hent : ent P f = true := by kernel_rfl) (hr : fn.results = rs.toArray := by kernel_rfl) : Esc P I o st K :=
  Esc.inline k ho hcal hxs ha (trsI _) hf hent hfn hb hn hr h
theorem EiB {I : World → Prop} {o : Oper} {x : Operand} {xs : List Operand} {c : Call} {f : FuncId} {fn : Func} {body : Code} {n : Nat} (k : Nat) (vs : List V) (cs : List C)
    (hfn : P.funcs[f]? = some fn) (hn : fn.ntmps = n) (rs : List ResultVar) (hb : fn.body = some body) (ho : o.op = .call c) (hcal : c.callee = .value x) (hxs : c.args.toList = xs)
    (h : ∀ w0 av old gv, Holds P ⟨w0, av, old, I, gv⟩ body (st.enter k (cs.map V.c ++ vs) n) (inQ P rs st.tm.length st.pre o.dst K))
    (ha : st.args true xs = (trs vs.length, vs) := by kernel_rfl) (hf : st.ev x = .c (.bmv f cs) := by kernel_rfl) (hent : ent P f = true := by kernel_rfl) (hr : fn.results = rs.toArray := by kernel_rfl) : Esc P I o st K :=
  Esc.inlineB k ho hcal hxs ha (trsI _) hf hent hfn hb hn hr h
theorem Nj {I : World → Prop} {ops : Array Oper} {X : Type} (S : X → St → St) (Φ : X → Prop) {l rest : List Oper} {o : Oper} (hl : l = o :: rest) (hg : o.guard = none) (h : Esc P I o st (fun st' => ∃ v, Φ v ∧ Less st' (S v st))) (hK : ∀ v, Φ v → wpOps P I ops rest (S v st) K) : wpOps P I ops l st K := Run.inlJ (fun v => S v st) Φ hl hg h hK
theorem Ng {I : World → Prop} {ops : Array Oper} {X : Type} (S : X → St → St) (Φ : X → Prop) {l rest : List Oper} {o : Oper} {j : Nat} {want g : Bool} (d : Nat) (hl : l = o :: rest) (hg : o.guard = some (j, want)) (hd : o.dst = some d)
    (hT : g = true → Esc P I o st (fun st' => ∃ v, Φ v ∧ Less (st'.put (some d) (.g g (st'.get d))) (S v st)))
    (hF : g = false → ∃ v x, Φ v ∧ Less (st.put (some d) (.g g x)) (S v st))
    (hK : ∀ v, Φ v → wpOps P I ops rest (S v st) K) (hgd : guardOf st ops j want = some g := by kernel_rfl) : wpOps P I ops l st K := Run.inlgJ (fun v => S v st) Φ d hl hg hd hT hF hK hgd
theorem rI {I : World → Prop} {ops : Array Oper} {l rest : List Oper} {o : Oper} (hl : l = o :: rest) (hg : o.guard = none) (h : Esc P I o st (fun st' => wpOps P I ops rest st' K)) : wpOps P I ops l st K := Run.inl hl hg h
end
theorem PCall.bo {P : Program} {I : World → Prop} (hsta : Stable I) {f : FuncId} {fn : Func} {c : Code} {args : List V} {Q : V → Prop} {n : Nat} (hf : P.funcs[f]? = some fn) (hb : fn.body = some c) (hn : fn.ntmps = n) (rs : List ResultVar)
    (h : ∀ w0 av old gv, Holds P ⟨w0, av, old, I, gv⟩ c (St.start args n) (fun e st' => (e = .normal ∨ e = .ret) ∧ (outV P st' rs).1 ∧ (outV P st' rs).2.pure = true ∧ Q (outV P st' rs).2))
    (hent : PL.ent P f = true := by kernel_rfl) (hr : fn.results = rs.toArray := by kernel_rfl) : PCall P I f args Q := PCall.body hsta hent hf hb hn hr rfl h
end Go.PL

/- The pure logic: nil slices in boxes that are told as empty slices where ways meet. -/
namespace Go.PL
open Go Go.RowKit
def denC : C → C
  | .nils => .sl 0 []
  | c => c
def Ent.den (ids : List Bid) (e : Ent) : Ent := if ids.contains e.id then { e with cs := e.cs.map denC } else e
def St.den (st : St) (ids : List Bid) : St := { tm := st.tm, so := st.so.map (Ent.den ids), gh := st.gh, pre := st.pre }
theorem denC_rel {w : World} {G : Ctx} {c : C} {v : Value} (h : RelC w G c v) : RelC w G (denC c) v := by
  cases c <;> try exact h
  simp only [RelC] at h
  subst h
  simp only [denC, RelC]
  exact ⟨rfl, none, 0, rfl, Nat.le_refl _, by simp [maxLen], fun _ => trivial, .inl trivial⟩
theorem denC_pure {c : C} (h : c.pure = true) : (denC c).pure = true := by cases c <;> first | exact h | rfl
theorem denRow {w : World} {G : Ctx} : ∀ (cs : List C) (b o : Nat), RelRow w G cs b o → RelRow w G (cs.map denC) b o
  | [], _, _, _ => by simp only [List.map_nil, RelRow]
  | c :: cs, b, o, h => by
    simp only [List.map_cons, RelRow] at h ⊢
    exact ⟨h.1.imp fun v q => ⟨q.1, denC_rel q.2⟩, denRow cs b (o + 1) h.2⟩
theorem denL_pure : ∀ (cs : List C), pureL cs = true → pureL (cs.map denC) = true
  | [], _ => rfl
  | c :: cs, h => by
    simp only [pureL, Bool.and_eq_true, List.map_cons] at h ⊢
    exact ⟨denC_pure h.1, denL_pure cs h.2⟩
theorem den_id (ids : List Bid) (e : Ent) : (e.den ids).id = e.id := by unfold Ent.den; split <;> rfl
theorem denE {w : World} {G : Ctx} {e : Ent} (ids : List Bid) (h : RelE w G e) : RelE w G (e.den ids) := by
  obtain ⟨i, r, cs, pu⟩ := e
  unfold Ent.den
  split
  · unfold RelE at *
    cases r with
    | none =>
      obtain ⟨b, h1, h2⟩ := h
      refine ⟨b, h1, ?_⟩
      rcases h2 with ⟨kv, es, h2, h3⟩ | ⟨T, cur, h2, h3, h4⟩
      · dsimp only at h2 ⊢
        rw [h2]; exact .inl ⟨kv, es, rfl, h3⟩
      · exact .inr ⟨T, cur, h2, by rw [List.length_map]; exact h3, denRow _ _ _ h4⟩
    | some q =>
      obtain ⟨E, n, len⟩ := q
      obtain ⟨hl, v, h1, h2⟩ := h
      refine ⟨by rw [List.length_map]; exact hl, v, h1, ?_⟩
      rcases h2 with h2 | ⟨b, cap, cur, e1, e2, e3, e4, e5, e6, e7⟩
      · exact .inl h2
      · exact .inr ⟨b, cap, cur, e1, e2, e3, e4, e5, e6, denRow _ _ _ e7⟩
  · exact h
theorem R.den {F : Fr} {st : St} {a : Act} {w : World} {G : Ctx} (h : R F st a w G) (ids : List Bid) : R F (st.den ids) a w G := {
    dfr := h.dfr, size := h.size, slots := h.slots, ghosts := h.ghosts
    store := fun e he => by
      simp only [St.den, List.mem_map] at he
      obtain ⟨d, hd, rfl⟩ := he
      exact denE ids (h.store d hd)
    pures := fun e he hp => by
      simp only [St.den, List.mem_map] at he
      obtain ⟨d, hd, rfl⟩ := he
      unfold Ent.den at hp ⊢
      split at hp
      · rename_i q
        rw [if_pos q]
        exact denL_pure _ (h.pures d hd hp)
      · rename_i q
        rw [if_neg q]
        exact h.pures d hd hp
    nodup := by
      have : (st.den ids).so.map (·.id) = st.so.map (·.id) := by simp [St.den, List.map_map, Function.comp_def, den_id]
      rw [this]; exact h.nodup
    inj := h.inj, lt := h.lt, new := h.new, wr := h.wr, avlt := h.avlt, inv := h.inv, avold := h.avold, os := h.os, tape := h.tape, output := h.output, hsize := h.hsize, ext := h.ext }
theorem Wk.den (st : St) (ids : List Bid) : Wk st (st.den ids) := fun _ _ _ G hR => ⟨G, hR.den ids⟩
theorem wN {st st' : St} (ns ids : List Bid) (hn : nodupB st'.ids = true := by kernel_rfl) (h : trimE (canS st'.ids ((ids.foldl St.freeze st).den ns)) st' = some st' := by kernel_rfl) : Wk st st' :=
  ((Wk.frzs ids st).trans (Wk.den _ ns)).trans (Wk.less (lU hn h))
end Go.PL

/- The pure logic: package variables that hold tables of strings. -/
namespace Go.PL
open Go Go.RowKit
theorem R.I {F : Fr} {st : St} {a : Act} {w : World} {G : Ctx} (h : R F st a w G) : F.I w := h.inv w h.hsize h.ext
section
variable {P : Program} {I : World → Prop} {o : Oper} {st : St} {K : St → Prop}
/-- Memory that is made and frozen at once. -/
theorem Esc.frz (id : Bid) {s : Stp} {l : List Prop} {st1 : St} (hl : andL l) (hK : K (st1.freeze id)) (hk : (match kindOf o.op with
    | .ef => true
    | _ => false) = true := by kernel_rfl) (h : ef1 P st s o = some (l, st1) := by kernel_rfl) : Esc P I o st K := by
  intro F a w G Q hI hR
  obtain ⟨h1, h2⟩ := ef1_sound h hl
  have hs : wp1 P F.I o st (fun s' => s' = st1) := by
    unfold wp1
    refine .inr ?_
    split at hk
    · rename_i he
      rw [he]
      exact ⟨h1, h2⟩
    · cases hk
  refine Oper.wp_mono (fun a' w' ⟨s', G', hs', hR'⟩ => ?_) (wp1_sound hR hs)
  subst hs'
  obtain ⟨G2, q⟩ := Wk.frz _ id F a' w' G' hR'
  exact ⟨_, G2, hK, q⟩
end
end Go.PL

/- The pure logic: a row of ints of the call's own, sorted in place by the library. -/
namespace Go.PL
open Go Go.RowKit Go.Sort Go.Proofs
/-- An element put behind all that are not greater. -/
def insI (x : Int) : List Int → List Int
  | [] => [x]
  | a :: l => if a ≤ x then a :: insI x l else x :: a :: l
def srtG (acc : List Int) : List Int → List Int
  | [] => acc
  | x :: l => srtG (insI x acc) l
def srtI (l : List Int) : List Int := srtG [] l
theorem insI_perm (x : Int) : ∀ l, (insI x l).Perm (x :: l)
  | [] => List.Perm.refl _
  | a :: l => by
    unfold insI
    split
    · exact ((insI_perm x l).cons a).trans (List.Perm.swap x a l)
    · exact List.Perm.refl _
theorem insI_sorted (x : Int) : ∀ {l : List Int}, l.Pairwise (· ≤ ·) → (insI x l).Pairwise (· ≤ ·)
  | [], _ => by simp [insI]
  | a :: l, h => by
    have h' := List.pairwise_cons.1 h
    unfold insI
    split
    · rename_i ha
      refine List.pairwise_cons.2 ⟨fun b hb => ?_, insI_sorted x h'.2⟩
      rcases List.mem_cons.1 ((insI_perm x l).mem_iff.1 hb) with rfl | hb
      · exact ha
      · exact h'.1 b hb
    · rename_i ha
      refine List.pairwise_cons.2 ⟨fun b hb => ?_, h⟩
      rcases List.mem_cons.1 hb with rfl | hb
      · omega
      · have := h'.1 b hb; omega
theorem srtG_perm : ∀ (l acc : List Int), (srtG acc l).Perm (acc ++ l)
  | [], acc => by rw [List.append_nil]; exact List.Perm.refl _
  | x :: l, acc => by
    refine (srtG_perm l (insI x acc)).trans ?_
    refine ((insI_perm x acc).append_right l).trans ?_
    exact (List.perm_middle (l₁ := acc)).symm
theorem srtG_sorted : ∀ (l : List Int) {acc : List Int}, acc.Pairwise (· ≤ ·) → (srtG acc l).Pairwise (· ≤ ·)
  | [], _, h => h
  | x :: l, _, h => srtG_sorted l (insI_sorted x h)
theorem srtI_sorted (l : List Int) : (srtI l).Pairwise (· ≤ ·) := srtG_sorted l List.Pairwise.nil
theorem srtI_perm (l : List Int) : (srtI l).Perm l := srtG_perm l []
theorem srtI_len (l : List Int) : (srtI l).length = l.length := (srtI_perm l).length_eq
theorem merge_srtI (l : List Int) : (l.mergeSort fun x y => decide (x ≤ y)) = srtI l := by
  refine List.Perm.eq_of_pairwise (le := fun a b => a ≤ b) (fun a b _ _ h1 h2 => by omega) ?_ (srtI_sorted l) ((List.mergeSort_perm l _).trans (srtI_perm l).symm)
  have := List.pairwise_mergeSort (le := fun x y : Int => decide (x ≤ y)) (by intro a b c; simp; omega) (by intro a b; simp; omega) l
  exact this.imp (by intro a b h; simpa using h)
def cI (l : List Int) : List C := l.map (C.int .i64)
theorem cI_len (l : List Int) : (cI l).length = l.length := by simp [cI]
theorem cI_pure : ∀ l : List Int, pureL (cI l) = true
  | [] => rfl
  | _ :: l => by show (true && pureL (cI l)) = true; rw [cI_pure l]; rfl
theorem cI_rel {w : World} {G : Ctx} : ∀ l : List Int, RelL w G (cI l) (l.map (Value.int .i64))
  | [] => by simp [cI, RelL]
  | n :: l => by
    have := cI_rel (w := w) (G := G) l
    simp only [cI, List.map_cons, RelL, RelC] at this ⊢
    exact ⟨trivial, this⟩
theorem relL_cI {w : World} {G : Ctx} : ∀ {l : List Int} {us : List Value}, RelL w G (cI l) us → us = l.map (Value.int .i64)
  | [], [], _ => rfl
  | [], _ :: _, h => by simp [cI, RelL] at h
  | n :: l, [], h => by simp [cI, RelL] at h
  | n :: l, u :: us, h => by
    simp only [cI, List.map_cons, RelL, RelC] at h
    rw [h.1, relL_cI h.2]; rfl
/-- An entry told anew. -/
def St.reE (st : St) (e : Ent) : St := { st with so := st.so.map fun d => if d.id == e.id then e else d }
theorem setCs_reE {F : Fr} {st : St} {a : Act} {w : World} {G : Ctx} (h : R F st a w G) {id : Bid} {e e' : Ent} {cs' : List C} {q : Bool} (he : st.look id = some e) (h1 : e'.id = id) (h2 : (⟨e.id, e.row, cs', e.pu && q⟩ : Ent) = e') : st.setCs id cs' q = st.reE e' := by
  obtain ⟨hm, hid⟩ := look_mem he
  have hn := h.nodup
  unfold St.setCs St.reE
  congr 1
  refine List.map_congr_left fun d hd => ?_
  rw [h1]
  split
  · rename_i hdid
    have hdid : d.id = id := by simpa using hdid
    have hde : d = e := by
      have := List.pairwise_map.1 hn
      rcases List.mem_iff_getElem.1 hd with ⟨i, hi, hi2⟩
      rcases List.mem_iff_getElem.1 hm with ⟨j, hj, hj2⟩
      rcases Nat.lt_trichotomy i j with q | q | q
      · exact absurd (by rw [hi2, hj2]; exact hdid.trans hid.symm) (List.pairwise_iff_getElem.1 this i j hi hj q)
      · subst q; rw [← hi2]; exact hj2
      · exact absurd (by rw [hi2, hj2]; exact hid.trans hdid.symm) (List.pairwise_iff_getElem.1 this j i hj hi q)
    rw [hde]; exact h2
  · rfl
theorem putCells_list (cur : Array Value) (ts : List Int) (h : ts.length ≤ cur.size) : (putCells (Value.int .i64) 0 ts.toArray cur) = (cur.toList.take 0 ++ ts.map (Value.int .i64) ++ cur.toList.drop (0 + (ts.map (Value.int .i64)).length)).toArray := by
  apply Array.ext'
  rw [List.take_zero, List.nil_append, Nat.zero_add, List.length_map]
  apply List.ext_getElem?
  intro j
  rw [Array.getElem?_toList]
  by_cases hj : j < ts.length
  · rw [List.getElem?_append_left (by simpa using hj)]
    simp [putCells, hj, show j < cur.size by omega]
  · rw [List.getElem?_append_right (by simpa using hj)]
    by_cases hc : j < cur.size
    · simp [putCells, hj, hc, List.getElem?_drop, show ts.length + (j - ts.length) = j by omega]
    · simp [putCells, hj, hc, List.getElem?_drop, show ts.length + (j - ts.length) = j by omega]
theorem Esc.sort {P : Program} {I : World → Prop} {o : Oper} {st : St} {K : St → Prop} {f : FuncId} {x : Operand} {r : Bid} {E : TypeId} {l : List Int} (hk : kindOf o.op = .call f [x]) (hent : ent P f = true)
    (hsome : ∀ (blk off cap : Nat) (zs : List Int) (w : World), Sort.Holds (Value.int .i64) w blk off zs.toArray → blk < w.heap.size → zs.length < 4611686018427387904 →
      Calls P f #[.slice (some ⟨blk, off, none⟩) zs.length cap] w fun e w' => e = .returned (.tuple #[]) ∧ ∃ n os, w' = grow (putRow (Value.int .i64) (Sort.ahead w n) blk off (srtI zs).toArray) os)
    (hnone : ∀ (p : Option Addr) (cap : Nat) (w : World), Calls P f #[.slice p 0 cap] w fun e w' => e = .returned (.tuple #[]) ∧ w' = w)
    (hlen : l.length < 4611686018427387904)
    (hK : K ((st.reE ⟨r, some (E, 1, (srtI l).length), cI (srtI l), true⟩).put o.dst (.tup [])))
    (hx : st.ev x = .c (.osl r) := by kernel_rfl) (hl : st.look r = some ⟨r, some (E, 1, l.length), cI l, true⟩ := by kernel_rfl) : Esc P I o st K := by
  intro F a w G Q hI hR
  have hr := callRun (a := a) hk hent w
  unfold Oper.wp Oper.upon
  rw [hr]
  obtain ⟨hm, -⟩ := look_mem hl
  have hxv := hR.ev x
  rw [hx] at hxv
  simp only [RelV, RelC] at hxv
  have hE := hR.store _ hm
  simp only [RelE] at hE
  obtain ⟨-, v, k1, k2⟩ := hE
  have hxe : a.eval x = v := by
    have := hxv.1
    rw [k1] at this
    injection this with this
    exact this.symm
  have harg : ([x].map a.eval).toArray = #[v] := by simp [hxe]
  rw [harg]
  have tupR : ∀ w', RelV w' G (.tup []) (.tuple #[]) := fun w' => by simp [RelV, RelVs]
  rcases k2 with ⟨p, rfl, h0, hb⟩ | ⟨b, cap, cur, rfl, hb, hh, c1, c2, c3, hrow⟩
  · have hl0 : l = [] := List.length_eq_zero_iff.1 h0
    subst hl0
    refine (hnone p 0 w).mono fun e w' ⟨he, hw⟩ => ?_
    subst he hw
    refine ⟨_, G, hK, ?_⟩
    have e1 : st.reE ⟨r, some (E, 1, (srtI []).length), cI (srtI []), true⟩ = st := by
      have h2 := setCs_reE hR hl (e' := ⟨r, some (E, 1, (srtI []).length), cI (srtI []), true⟩) (cs' := cI []) (q := true) rfl (by rfl)
      rw [← h2]
      unfold St.setCs
      obtain ⟨tm, so, gh, pre⟩ := st
      simp only [St.mk.injEq, true_and, and_true]
      conv => rhs; rw [← List.map_id so]
      refine List.map_congr_left fun d hd => ?_
      split
      · rename_i hdid
        have hdid : d.id = r := by simpa using hdid
        have hde : d = ⟨r, some (E, 1, ([] : List Int).length), cI [], true⟩ := by
          have := List.pairwise_map.1 hR.nodup
          rcases List.mem_iff_getElem.1 hd with ⟨i, hi, hi2⟩
          rcases List.mem_iff_getElem.1 hm with ⟨j, hj, hj2⟩
          rcases Nat.lt_trichotomy i j with q | q | q
          · exact absurd (by rw [hi2, hj2]; exact hdid) (List.pairwise_iff_getElem.1 this i j hi hj q)
          · subst q; rw [← hi2]; exact hj2
          · exact absurd (by rw [hi2, hj2]; exact hdid.symm) (List.pairwise_iff_getElem.1 this j i hj hi q)
        rw [hde]; rfl
      · rfl
    rw [e1]
    exact hR.put (tupR _)
  · obtain ⟨us, r1, r2⟩ := hrow.list
    have hus := relL_cI r1
    subst hus
    have hH : Sort.Holds (Value.int .i64) w b 0 l.toArray := by
      intro j hj
      have hj' : j < l.length := by simpa using hj
      refine ⟨?_, by simp [World.frozen?, hh]⟩
      have := r2 j (Value.int .i64 l[j]) (by simp [hj'])
      simpa [hj'] using this
    refine (hsome b 0 cap l w hH (Array.getElem?_eq_some_iff.1 hh).1 hlen).mono fun e w' ⟨he, n, os, hw⟩ => ?_
    subst he
    refine ⟨_, G, hK, ?_⟩
    obtain ⟨cur3, T3, q1, q2, q3⟩ := hR.stored hl hb (off := 0) (xs := cI (srtI l)) (vs := (srtI l).map (Value.int .i64)) (cI_rel _) (by simp [cI_len, srtI_len])
    rw [hh] at q1; injection q1 with q1; injection q1 with q1 q1b _; subst q1 q1b
    have hle : (srtI l).length ≤ cur.size := by rw [srtI_len, c3]; omega
    have ecs : ((cI l).take 0 ++ cI (srtI l) ++ (cI l).drop (0 + (cI (srtI l)).length)) = cI (srtI l) := by
      rw [List.take_zero, List.nil_append, List.drop_eq_nil_of_le (by simp [cI_len, srtI_len]), List.append_nil]
    rw [ecs, cI_pure, setCs_reE hR hl (e' := ⟨r, some (E, 1, (srtI l).length), cI (srtI l), true⟩) rfl (by rw [srtI_len]; rfl)] at q3
    have hS : Same (w.setRow b (cur.toList.take 0 ++ (srtI l).map (Value.int .i64) ++ cur.toList.drop (0 + ((srtI l).map (Value.int .i64)).length)).toArray) w' := by
      refine ⟨?_, fun k hk => ?_⟩
      · rw [hw]; simp
      · have hk' : k < w.heap.size := by simpa using hk
        by_cases hkb : k = b
        · subst hkb
          rw [hw, heap_sortedI _ hh, setRow_heap w k cur _ E (0, 0) hh, putCells_list cur (srtI l) hle]
        · rw [setRow_other w b k _ hkb, hw]
          rw [heap_grow_old _ _ (by simpa using hk')]
          simp [putRow, mapBlock, Sort.ahead, Array.getElem?_modify, Ne.symm hkb]
    have hO : Outer (w.setRow b (cur.toList.take 0 ++ (srtI l).map (Value.int .i64) ++ cur.toList.drop (0 + ((srtI l).map (Value.int .i64)).length)).toArray) w' := by
      rw [hw]; exact ⟨rfl, rfl, rfl⟩
    exact (q3.same hO hS).put (tupR _)
theorem cI_flat : ∀ l : List Int, l.flatMap (eI .i64) = cI l
  | [] => rfl
  | n :: l => by
    have := cI_flat l
    rw [List.flatMap_cons, this]
    rfl
theorem Esc.sortF {P : Program} {I : World → Prop} {o : Oper} {st : St} {K : St → Prop} {f : FuncId} {x : Operand} {r : Bid} {E : TypeId} {l : List Int} (hent : ent P f = true)
    (hsome : ∀ (blk off cap : Nat) (zs : List Int) (w : World), Sort.Holds (Value.int .i64) w blk off zs.toArray → blk < w.heap.size → zs.length < 4611686018427387904 →
      Calls P f #[.slice (some ⟨blk, off, none⟩) zs.length cap] w fun e w' => e = .returned (.tuple #[]) ∧ ∃ n os, w' = grow (putRow (Value.int .i64) (Sort.ahead w n) blk off (srtI zs).toArray) os)
    (hnone : ∀ (p : Option Addr) (cap : Nat) (w : World), Calls P f #[.slice p 0 cap] w fun e w' => e = .returned (.tuple #[]) ∧ w' = w)
    (hlen : l.length < 4611686018427387904)
    (hK : K ((st.reE ⟨r, some (E, 1, (srtI l).length), (srtI l).flatMap (eI .i64), true⟩).put o.dst (.tup [])))
    (hk : kindOf o.op = .call f [x] := by rfl) (hx : st.ev x = .c (.osl r) := by kernel_rfl) (hl : st.look r = some ⟨r, some (E, 1, l.length), l.flatMap (eI .i64), true⟩ := by kernel_rfl) : Esc P I o st K := by
  rw [cI_flat] at hl hK
  exact Esc.sort hk hent hsome hnone hlen hK hx hl
end Go.PL

/- Plain law: partial functions, loops, numbers. -/
namespace Go.PL
open Go

theorem wrap64_id {x : Int} (h0 : -9223372036854775808 ≤ x) (h1 : x ≤ 9223372036854775807) : wrap64 x = x := by
  unfold wrap64; rw [IntKind.wrap_i64]; omega
section
variable {σ ρ : Type} {B : σ → Option (σ ⊕ ρ)}
theorem iter_go {n : Nat} {s s' : σ} (h : B s = some (.inl s')) : iter B (n + 1) s = iter B n s' := by simp [iter, h]
theorem iter_end {n : Nat} {s : σ} {r : ρ} (h : B s = some (.inr r)) : iter B (n + 1) s = some r := by simp [iter, h]
theorem iter_run {S : Nat → σ} {r : ρ} {j : Nat} (hs : ∀ i, i < j → B (S i) = some (.inl (S (i + 1)))) (he : B (S j) = some (.inr r)) : ∀ (k N i : Nat), i + k = j → k < N → iter B N (S i) = some r
  | 0, N + 1, i, hi, _ => by obtain rfl : i = j := by omega
                             exact iter_end he
  | k + 1, N + 1, i, hi, hN => by rw [iter_go (hs i (by omega))]; exact iter_run hs he k N (i + 1) (by omega) (by omega)
/-- A loop whose states are told. -/
theorem iter_at (S : Nat → σ) {r : ρ} (j : Nat) (hj : j < 9223372036854775807) (hs : ∀ i, i < j → B (S i) = some (.inl (S (i + 1)))) (he : B (S j) = some (.inr r)) {s0 : σ} (h0 : s0 = S 0) : iter B FU s0 = some r := by
  subst h0; exact iter_run hs he j FU 0 (by omega) hj
end
section
variable {α : Type} [Inhabited α] {l : List α} {i : Int}
theorem idx_some (h : 0 ≤ i ∧ i < l.length) : idx l i = some (l.getD i.toNat default) := if_pos h
theorem idx_nat {k : Nat} (h : k < l.length) : idx l (k : Int) = some l[k] := by
  rw [idx_some ⟨by omega, by omega⟩]
  simp [List.getD_eq_getElem?_getD, h]
theorem gd_true (o : Option α) : gd true o = o := if_pos rfl
theorem gd_false (o : Option α) : gd false o = some default := if_neg (by simp)
end
theorem app_some {α : Type} {b : Nat} {l m : List α} (h : (l.length + m.length) * b ≤ 140737488355328 ∧ l.length + m.length ≤ maxLen) : app b l m = some (l ++ m) := if_pos h
theorem need_some {p : Prop} [Decidable p] (h : p) : need p = some () := if_pos h

/-! Numbers as texts. -/
end Go.PL

/- The arguments of a law: values of a type, read as Lean values. -/
namespace Go.PL
open Go Go.RowKit Go.WideShapes Go.ChangeShapes

def okI (k : IntKind) (v : Int) : Prop := (Lit.int k v).wf = true
def okB (_ : Bool) : Prop := True
def okS (v : List UInt8) : Prop := v.length ≤ reachBytes
def okL {α : Type} (b : Nat) (ok : α → Prop) (l : List α) : Prop := l.length * b ≤ reachBytes ∧ ∀ y ∈ l, ok y
section
variable {P : Program} {t e : TypeId} {n : Nat} {cs : List C}
theorem dI {k : IntKind} (hu : P.underlying t = some (.int k)) (h : typed P n t cs) : ∃ z, cs = eI k z ∧ okI k z := typed_int hu h
theorem dB (hu : P.underlying t = some .bool) (h : typed P n t cs) : ∃ b, cs = eB b ∧ okB b := typed_bool hu h
theorem dS (hu : P.underlying t = some .string) (h : typed P n t cs) : ∃ s, cs = eS s ∧ okS s := typed_str hu h
theorem dL {α : Type} {enc : α → List C} {ok : α → Prop} {b : Nat} (hu : P.underlying t = some (.slice e)) (hb : P.bytesOf e = b) (hd : ∀ {n ds}, typed P n e ds → ∃ x, ds = enc x ∧ ok x) (h : typed P n t cs) :
    ∃ l : List α, cs = eL enc l ∧ okL b ok l := typed_sl hu hb (fun _ _ => hd) h
theorem dA {α : Type} {m : Nat} {enc : α → List C} {ok : α → Prop} (hu : P.underlying t = some (.array m e)) (hd : ∀ {n ds}, typed P n e ds → ∃ x, ds = enc x ∧ ok x) (h : typed P n t cs) :
    ∃ l : List α, l.length = m ∧ cs = l.flatMap enc ∧ ∀ y ∈ l, ok y := by
  cases n with
  | zero => exact h.elim
  | succ n =>
    simp only [typed, hu] at h
    obtain ⟨dss, rfl, h2, h3⟩ := h
    obtain ⟨l, rfl, h5⟩ := dec_list (fun _ => hd) h3
    exact ⟨l, by simpa using h2, by rw [List.flatMap_def], h5⟩
end
section
variable {R : TypeId → List C → Prop}
theorem eachC {t : TypeId} {ts : List TypeId} {α β : Type} {e : α → List C} {E : β → List C} {ok : α → Prop} {OK : β → Prop} (hd : ∀ {ds}, R t ds → ∃ x, ds = e x ∧ ok x) (hr : ∀ {dss}, Each R ts dss → ∃ y, dss.flatten = E y ∧ OK y) {dss : List (List C)} (h : Each R (t :: ts) dss) :
    ∃ p : α × β, dss.flatten = e p.1 ++ E p.2 ∧ ok p.1 ∧ OK p.2 := by
  simp only [Each] at h
  obtain ⟨ds, r, rfl, h1, h2⟩ := h
  obtain ⟨x, rfl, h3⟩ := hd h1
  obtain ⟨y, h4, h5⟩ := hr h2
  exact ⟨(x, y), by rw [List.flatten_cons, h4], h3, h5⟩
theorem eachN {dss : List (List C)} (h : Each R [] dss) : ∃ _ : Unit, dss.flatten = [] ∧ True := by
  simp only [Each] at h
  subst h
  exact ⟨(), rfl, trivial⟩
end
section
variable {H : Type} {enc : TypeId × Value → H} {P : Program} {W : World} {spare : Nat → Bool} {r : Reach} {base : Nat} {t : TypeId} {v : Value} {d : DataW H} {ps : List MemPlace}
theorem sized_cons {ts : List TypeId} {ds : List (DataW H)} (h : (DataW.weightsEach P (t :: ts) (d :: ds)).all (· ≤ reachBytes) = true) : (d.weights P t).all (· ≤ reachBytes) = true ∧ (DataW.weightsEach P ts ds).all (· ≤ reachBytes) = true := by
  simpa only [DataW.weightsEach, List.all_append, Bool.and_eq_true] using h
theorem arg_agg {α : Type} {e : α → List C} {ok : α → Prop} {fs : Array Field} (k : Nat) (hk : okT P k t = true) (hu : P.underlying t = some (.struct fs)) (hd : ∀ {n cs}, typed P n t cs → ∃ x, cs = e x ∧ ok x)
    (hv : Value.okWide P W r base t v) (h : DataW.Trod enc P W 0 spare true t v d ps) (hw : (d.weights P t).all (· ≤ reachBytes) = true) : ∃ x, ok x ∧ RelV W (im fun _ => False) (vA e x) v := by
  obtain ⟨arr, rfl, _⟩ := okWide_struct hu hv
  obtain ⟨fuel, h⟩ := h
  obtain ⟨cs, h1, h2, _⟩ := reads_of (G := im fun _ => False) (fun _ _ h => h) k t hk fuel _ _ h hw
  obtain ⟨x, rfl, h4⟩ := hd h2
  exact ⟨x, h4, by simp only [RelV]; exact ⟨arr, rfl, h1⟩⟩
theorem arg_one {α : Type} {e : α → C} {ok : α → Prop} (k : Nat) (hk : okT P k t = true) (hd : ∀ {n cs}, typed P n t cs → ∃ x, cs = [e x] ∧ ok x)
    (hc : v.cells.toList = [v]) (h : DataW.Trod enc P W 0 spare true t v d ps) (hw : (d.weights P t).all (· ≤ reachBytes) = true) : ∃ x, ok x ∧ RelV W (im fun _ => False) (.c (e x)) v := by
  obtain ⟨fuel, h⟩ := h
  obtain ⟨cs, h1, h2, _⟩ := reads_of (G := im fun _ => False) (fun _ _ h => h) k t hk fuel _ _ h hw
  obtain ⟨x, rfl, h4⟩ := hd h2
  rw [hc] at h1
  simp only [RelL] at h1
  exact ⟨x, h4, by simp only [RelV]; exact h1.1⟩
theorem arg_int {k : IntKind} (n : Nat) (hk : okT P n t = true) (hu : P.underlying t = some (.int k))
    (hv : Value.okWide P W r base t v) (h : DataW.Trod enc P W 0 spare true t v d ps) (hw : (d.weights P t).all (· ≤ reachBytes) = true) : ∃ x, okI k x ∧ RelV W (im fun _ => False) (.c (.int k x)) v := by
  obtain ⟨z, rfl⟩ := okWide_int hu hv
  exact arg_one (e := fun x => .int k x) n hk (dI hu) rfl h hw
end
end Go.PL

/- Partial functions that answer: rules. -/
namespace Go.PL
open Go

/-- There is an answer, and it is so. -/
def W {α : Type} (o : Option α) (Q : α → Prop) : Prop := ∃ r, o = some r ∧ Q r
/-- After a round of a loop. -/
def LQ {σ ρ : Type} (I : σ → Prop) (m : σ → Nat) (s : σ) (K : ρ → Prop) : σ ⊕ ρ → Prop := Sum.elim (fun s' => I s' ∧ m s' < m s) K
section
variable {α β σ ρ : Type} {o : Option α} {P Q' : α → Prop} {f : α → Option β} {Q : β → Prop} {v : α} {g c : Bool}
theorem W.lt (k : ∀ x, x = v → W (f x) Q) : W ((some v).bind f) Q := k v rfl
theorem W.if {a b : Option β} (k1 : c = true → W a Q) (k2 : c = false → W b Q) : W (if c = true then a else b) Q := by
  cases c
  · exact k2 rfl
  · exact k1 rfl
theorem W.imp {Q2 : α → Prop} (h : W o P) (k : ∀ x, P x → Q2 x) : W o Q2 := by obtain ⟨r, h1, h2⟩ := h; exact ⟨r, h1, k r h2⟩
theorem getD_mem [Inhabited α] {l : List α} {i : Nat} (h : i < l.length) : l.getD i default ∈ l := by
  rw [List.getD_eq_getElem?_getD, List.getElem?_eq_getElem h]
  exact List.getElem_mem h
theorem W.idx [Inhabited α] {l : List α} {i : Int} (h : 0 ≤ i ∧ i < l.length) : W (idx l i) (fun e => e ∈ l ∧ e = l.getD i.toNat default ∧ idx l i = some e) :=
  ⟨_, idx_some h, getD_mem (by omega), rfl, idx_some h⟩
theorem W.app {b : Nat} {l m : List α} (h : (l.length + m.length) * b ≤ 140737488355328) (h2 : l.length + m.length ≤ maxLen) : W (app b l m) (fun e => e = l ++ m) := ⟨_, app_some ⟨h, h2⟩, rfl⟩
theorem W.need {p : Prop} [Decidable p] (h : p) : W (need p) (fun _ => True) := ⟨_, need_some h, trivial⟩
theorem W.nx {I : σ → Prop} {m : σ → Nat} {s s' : σ} {K : ρ → Prop} (h : I s') (h2 : m s' < m s) : W (some (.inl s' : σ ⊕ ρ)) (LQ I m s K) := ⟨_, rfl, h, h2⟩
theorem iter_W {B : σ → Option (σ ⊕ ρ)} {I : σ → Prop} {m : σ → Nat} {K : ρ → Prop} (hs : ∀ s, I s → W (B s) (LQ I m s K)) : ∀ (n : Nat) (s : σ), I s → m s < n → W (iter B n s) K
  | 0, _, _, h => by omega
  | n + 1, s, hI, hm => by
    obtain ⟨x, h1, h2⟩ := hs s hI
    cases x with
    | inl s' => rw [iter_go h1]; exact iter_W hs n s' h2.1 (by have := h2.2; omega)
    | inr r => rw [iter_end h1]; exact ⟨r, rfl, h2⟩
theorem W.it {B : σ → Option (σ ⊕ ρ)} {f : ρ → Option β} {s0 : σ} (I : σ → Prop) (m : σ → Nat) (h0 : I s0) (hm : m s0 < 9223372036854775807) (hs : ∀ s, I s → W (B s) (LQ I m s (fun r => W (f r) Q))) : W ((iter B FU s0).bind f) Q := by
  obtain ⟨r, h1, h2⟩ := iter_W hs FU s0 h0 hm
  rw [h1]
  exact h2
end
end Go.PL

/- Plain laws: comparing lists, loops, conditions. -/
namespace Go.PL
open Go
set_option linter.all false
theorem ifA (b q : Bool) : (if b = true then q else false) = (b && q) := by cases b <;> rfl
theorem ifO (b q : Bool) : (if b = true then true else q) = (b || q) := by cases b <;> rfl
section
variable {α : Type} [Inhabited α] [DecidableEq α] {l m : List α} {B : Int → Option (Int ⊕ (Unit ⊕ Unit))}
end
section
variable {α : Type} [Inhabited α] [DecidableEq α] {l m : List α} {B : Int → Option (Int ⊕ (Unit ⊕ Unit))}
end
abbrev T {α : Type} (o : Option α) : Prop := ∃ r, o = some r
theorem loopA {σ ρ β : Type} {B : σ → Option (σ ⊕ ρ)} {S : Nat → σ} {r : ρ} {k : ρ → Option β} {q : Option β} {s0 : σ} (j : Nat) (hj : j < 9223372036854775807) (h0 : s0 = S 0) (hs : ∀ i, i < j → B (S i) = some (.inl (S (i + 1)))) (he : B (S j) = some (.inr r)) (hk : k r = q) : (iter B FU s0).bind k = q := by
  rw [iter_at S j hj hs he h0]; exact hk
theorem app1 {α : Type} {b : Nat} {l m : List α} (h : (l.length + m.length) * b ≤ 140737488355328) (hb : 1 ≤ b) : app b l m = some (l ++ m) := by
  refine app_some ⟨h, ?_⟩
  have : (l.length + m.length) * 1 ≤ (l.length + m.length) * b := Nat.mul_le_mul_left _ hb
  unfold maxLen
  omega
end Go.PL

/- The closed facts of a row, put together. -/
namespace Go.PL
open Go
theorem ndB {a b : Bool} (h : a = true) (k : b = true) : (a && b) = true := by rw [h, k]; rfl
theorem joined_of {P : Program} {f : FuncId} {fn : Func} {s : ChangeSpec} {c : OpenClaim} (h0 : (c.wf (OpenSpec.ofChange s)) = true) (h1 : (laidOutB P) = true) (h2 : (mapsRowed P) = true) (h3 : (fn.params.all (P.readableRec ·)) = true) (h4 : (namedTie P c.named s.vars) = true) (h5 : ((c.stops == [])) = true) (h6 : ((P.stops == [])) = true) (h7 : ((c.knobs == [])) = true) (h8 : ((P.stopKnobs == [])) = true) (h9 : ((c.inPlace == P.inPlace f)) = true) (h10 : ((c.unfollowed == P.unfollowed f)) = true) (h11 : ((c.recurses == P.recurses f)) = true) (h12 : ((c.named == P.varsNamed f)) = true) (h13 : ((c.maps == (fn.params.toList ++ s.plain.varTypes P).any (P.mapsRec ·))) = true) (h14 : ((c.ifaces == (fn.params.toList ++ s.plain.varTypes P).any (P.ifacesRec ·))) = true) (h15 : ((c.mapsOut == P.mapsAmong fn.resultTypes.toList)) = true) (h16 : ((c.loops == (fn.params.toList ++ s.plain.varTypes P).any (P.loopsFrom ·))) = true) (h17 : ((c.wideKeys == (fn.params.toList ++ s.plain.varTypes P ++ fn.resultTypes.toList).any (P.wideKeysFrom ·))) = true) (h18 : (s.vars.all (P.varReadable ·)) = true) (h19 : (fn.resultTypes.all (fun t => P.readableRec t && decide (t < P.types.size))) = true) (h20 : ((c.ifacesOut == fn.resultTypes.toList.any (P.ifacesRec ·))) = true) (h21 : ((c.loopsOut == fn.resultTypes.toList.any (P.loopsFrom ·))) = true) (h22 : ((c.plainKeys == P.plainKeys)) = true) (h23 : (c.shortTexts.isNone) = true) (h24 : (P.stopsHeard) = true) (h25 : (P.mayEnter) = true) (h26 : ((c.lifted == P.liftsFinal)) = true) (h27 : ((P.make == some c.make)) = true) (h28 : (c.domain.isEmpty && (c.kinds == [])) = true) (h29 : ((c.pinned == c.pinnedBy)) = true) (h30 : ((c.veiled == (fn.params.toList ++ s.plain.varTypes P ++ fn.resultTypes.toList).any (P.veiledRec ·))) = true) (h31 : (c.veiledFits P fn.params.toList (fn.params.toList ++ s.plain.varTypes P ++ fn.resultTypes.toList)) = true) : joinedFacts P f fn s c = true := by
  obtain ⟨d1, d2⟩ := (Bool.and_eq_true _ _ ▸ h28 : _ ∧ _)
  unfold joinedFacts
  rw [if_pos d1]
  exact (ndB (ndB (ndB (ndB (ndB (ndB (ndB (ndB (ndB (ndB (ndB (ndB (ndB (ndB (ndB (ndB (ndB (ndB (ndB (ndB (ndB (ndB (ndB (ndB (ndB (ndB (ndB (ndB (ndB (ndB (ndB h0 h1) h2) h3) h4) h5) h6) h7) h8) h9) h10) h11) h12) h13) h14) h15) h16) h17) h18) h19) h20) h21) h22) h23) h24) h25) h26) h27) d2) h29) h30) h31)
end Go.PL
