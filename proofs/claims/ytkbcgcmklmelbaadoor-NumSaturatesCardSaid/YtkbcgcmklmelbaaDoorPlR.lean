/- The pure logic, part R: what a loop's body must leave, place by place; names of blocks compared. -/
import Derived.Test.YtkbcgcmklmelbaaDoorPlQ
namespace Go.PL
open Go Go.RowKit

def lessL : List V → List V → Prop
  | [], [] => True
  | a :: l, b :: m => (b = .undef ∨ b = a) ∧ lessL l m
  | _, _ => False
theorem lessL.nil : lessL [] [] := trivial
theorem lessL.skip {a : V} {l m : List V} (h : lessL l m) : lessL (a :: l) (.undef :: m) := ⟨.inl rfl, h⟩
theorem lessL.keep {a b : V} {l m : List V} (e : a = b) (h : lessL l m) : lessL (a :: l) (b :: m) := ⟨.inr e.symm, h⟩
theorem lessL.get : ∀ {l m : List V}, lessL l m → m.length = l.length ∧ ∀ i, m.getD i .undef = .undef ∨ m.getD i .undef = l.getD i .undef
  | [], [], _ => ⟨rfl, fun _ => .inr rfl⟩
  | a :: l, b :: m, h => by
    obtain ⟨h1, h2⟩ := h
    obtain ⟨q1, q2⟩ := lessL.get h2
    refine ⟨by simp [q1], fun i => ?_⟩
    cases i with
    | zero => simpa using h1
    | succ i => simpa using q2 i
  | [], _ :: _, h => h.elim
  | _ :: _, [], h => h.elim
theorem Less.of {t t' : List V} {s s' : List Ent} (h : lessL t t') (hs : s'.Sublist s) : Less ⟨t, s⟩ ⟨t', s'⟩ := ⟨h.get.1, h.get.2, hs⟩
theorem lessE.keep {e e' : Ent} {s s' : List Ent} (h : e = e') (hs : s'.Sublist s) : (e' :: s').Sublist (e :: s) := by subst h; exact hs.cons_cons _
theorem lessE.nil {s : List Ent} : ([] : List Ent).Sublist s := List.nil_sublist _
theorem lessE.skip {e : Ent} {s s' : List Ent} (hs : s'.Sublist s) : s'.Sublist (e :: s) := hs.cons _
theorem ent_eq {id : Bid} {E n l l' : Nat} {c c' : List C} (h1 : l = l') (h2 : c = c') : (⟨id, some (E, n, l), c⟩ : Ent) = ⟨id, some (E, n, l'), c'⟩ := by subst h1; subst h2; rfl

theorem bid_beq (a b : Nat) : (([a] : List Nat) == [b]) = (a == b) := by simp [List.cons_beq_cons]
theorem bid_bne (a b : Nat) : (([a] : List Nat) != [b]) = (a != b) := by simp [bne, List.cons_beq_cons]
theorem bid_beq2 (a b c d : Nat) : (([a, c] : List Nat) == [b, d]) = (a == b && c == d) := by simp [List.cons_beq_cons]
theorem bid_eq (a b : Nat) : (([a] : List Nat) = [b]) = (a = b) := by simp
theorem zerosL_zero (z : List C) : zerosL z 0 = [] := by simp [zerosL]
theorem zerosL_succ (z : List C) (k : Nat) : zerosL z (k + 1) = z ++ zerosL z k := by
  unfold zerosL
  have e : (k + 1) * z.length = z.length + k * z.length := by rw [Nat.add_mul, Nat.one_mul, Nat.add_comm]
  rw [e, List.range_add, List.map_append]
  congr 1
  · apply List.ext_getElem <;> simp
    intro i h
    rw [Nat.mod_eq_of_lt h]
    simp [h]
  · rw [List.map_map]
    apply List.map_congr_left
    intro i _
    simp [Function.comp]
/-! Lists without the call's own blocks. -/
theorem pureL_all : ∀ l : List C, pureL l = l.all C.pure
  | [] => rfl
  | c :: l => by simp [pureL, pureL_all l]
theorem pureL_append (l m : List C) : pureL (l ++ m) = (pureL l && pureL m) := by simp [pureL_all]
theorem pureL_map {α : Type} (f : α → C) (h : ∀ x, (f x).pure = true) (l : List α) : pureL (l.map f) = true := by simp [pureL_all, h]
theorem pureL_mapInt (k : IntKind) (l : List Int) : pureL (l.map (C.int k)) = true := pureL_map _ (fun _ => rfl) l
theorem pureL_mapStr (l : List (List UInt8)) : pureL (l.map C.str) = true := pureL_map _ (fun _ => rfl) l
theorem pureL_mapBool (l : List Bool) : pureL (l.map C.bool) = true := pureL_map _ (fun _ => rfl) l
theorem pureL_flatMap {α : Type} (f : α → List C) (h : ∀ x, pureL (f x) = true) : ∀ l : List α, pureL (l.flatMap f) = true
  | [] => rfl
  | a :: l => by rw [List.flatMap_cons, pureL_append, h, pureL_flatMap f h l]; rfl
theorem map_id_pure {g : C → C} (hg : ∀ c : C, c.pure = true → g c = c) : ∀ {l : List C}, pureL l = true → l.map g = l
  | [], _ => rfl
  | c :: l, h => by
    simp only [pureL, Bool.and_eq_true] at h
    rw [List.map_cons, hg c h.1, map_id_pure hg h.2]
theorem killC_pure (id : Bid) {c : C} (h : c.pure = true) : killC id c = c := by simp [killC, pure_men id c h]
theorem kill_pureL {l : List C} (id : Bid) (h : pureL l = true) : l.map (killC id) = l := map_id_pure (fun _ hc => killC_pure id hc) h
theorem frzC_pure {id : Bid} {len : Nat} {cs : List C} {c : C} (h : c.pure = true) : frzC id len cs c = c := by
  cases c <;> simp_all [frzC, C.pure, pureL_men]
theorem frz_pureL {id : Bid} {len : Nat} {cs : List C} {l : List C} (h : pureL l = true) : l.map (frzC id len cs) = l := map_id_pure (fun _ hc => frzC_pure hc) h
theorem snapC_pure (st : St) {c : C} (h : c.pure = true) : snapC st c = c := by cases c <;> simp_all [snapC, C.pure]
theorem snap_pureL {l : List C} (st : St) (h : pureL l = true) : l.map (snapC st) = l := map_id_pure (fun _ hc => snapC_pure st hc) h
theorem topC_pure {c : C} (h : c.pure = true) : topC c = [] := by cases c <;> simp_all [topC, C.pure]
theorem top_pureL : ∀ {l : List C}, pureL l = true → l.flatMap topC = []
  | [], _ => rfl
  | c :: l, h => by
    simp only [pureL, Bool.and_eq_true] at h
    rw [List.flatMap_cons, topC_pure h.1, top_pureL h.2]; rfl
attribute [go_sem] pureL_append pureL_mapInt pureL_mapStr pureL_mapBool kill_pureL frz_pureL snap_pureL top_pureL pureL_men
attribute [go_sem] bid_beq bid_bne bid_beq2 bid_eq zerosL_zero zerosL_succ Nat.reduceLeDiff Nat.reduceLT Nat.le_refl Nat.reduceBEq Nat.reduceBNe Nat.reduceMul Nat.reduceAdd Nat.reduceSub
end Go.PL
