/- The pure logic, part A: logical cells, values and states, and what it means that a machine's values and worlds hold them. -/
import Derived.WalkKit
import Derived.WalkSpells
import Derived.WalkLawsBesides
import Derived.Deep.MidRow
import Derived.Deep.LoopGhost
import Derived.Deep.QuietTactic
import Derived.BigQuiet
namespace Go.PL
open Go Go.RowKit

abbrev Bid := List Nat

/-- A logical cell. 'sl': an immutable slice with all its cells in a row; 'osl': a slice that the call owns; 'ptr': into a box or a row of the call's own; 'iptr': into immutable cells. -/
inductive C where
  | int (k : IntKind) (n : Int)
  | bool (b : Bool)
  | str (s : List UInt8)
  | sl (len : Nat) (cs : List C)
  | osl (id : Bid)
  | ptr (id : Bid) (off : Nat)
  | iptr (cs : List C) (off : Nat)
  | nilp
  | niface
  | fn (f : FuncId)
  | held
  | any

inductive V where
  | c (x : C)
  | agg (cs : List C)
  | tup (vs : List V)
  | g (b : Bool) (v : V)
  | undef

structure Ctx where
  blk : Bid → Option Nat
  own : Bid → Option Value
  wr : Nat → Prop

mutual
def RelC (w : World) (G : Ctx) : C → Value → Prop
  | .int k n, v => v = .int k n
  | .bool b, v => v = .bool b
  | .str s, v => v = .string ⟨s.toArray⟩
  | .sl len cs, v => ∃ a cap, v = .slice a len cap ∧ len ≤ cap ∧ cap ≤ maxLen ∧ (len = 0 → cs = []) ∧
      (len = 0 ∨ ∃ b off, a = some ⟨b, off, none⟩ ∧ ¬ G.wr b ∧ b < w.heap.size ∧ RelRow w G cs b off)
  | .osl id, v => G.own id = some v ∧ v.oneCell' = true
  | .ptr id off, v => ∃ b, G.blk id = some b ∧ v = .pointer (some ⟨b, off, none⟩)
  | .iptr cs off, v => ∃ b o, v = .pointer (some ⟨b, o + off, none⟩) ∧ ¬ G.wr b ∧ b < w.heap.size ∧ RelRow w G cs b o
  | .nilp, v => v = .pointer none
  | .niface, v => v = .nilIface
  | .fn f, v => v = .func (.func f) #[] #[]
  | .held, v => ∃ t x, v = .iface t x
  | .any, v => v.oneCell' = true
def RelRow (w : World) (G : Ctx) : List C → Nat → Nat → Prop
  | [], _, _ => True
  | c :: cs, b, off => (∃ v, w.cell? ⟨b, off, none⟩ = some v ∧ RelC w G c v) ∧ RelRow w G cs b (off + 1)
end

def RelL (w : World) (G : Ctx) : List C → List Value → Prop
  | [], [] => True
  | c :: cs, v :: vs => RelC w G c v ∧ RelL w G cs vs
  | _, _ => False

mutual
def RelV (w : World) (G : Ctx) : V → Value → Prop
  | .c x, v => RelC w G x v
  | .agg cs, v => ∃ arr, v = .agg arr ∧ RelL w G cs arr.toList
  | .tup vs, v => ∃ arr, v = .tuple arr ∧ RelVs w G vs arr.toList
  | .g b x, v => if b = true then RelV w G x v else v = Go.undef
  | .undef, _ => True
def RelVs (w : World) (G : Ctx) : List V → List Value → Prop
  | [], vs => vs = []
  | x :: xs, vs => ∃ v r, vs = v :: r ∧ RelV w G x v ∧ RelVs w G xs r
end

/-! Which names a cell bears. -/
mutual
def C.men (id : Bid) : C → Bool
  | .osl i => i == id
  | .ptr i _ => i == id
  | .sl _ cs => menL id cs
  | .iptr cs _ => menL id cs
  | _ => false
def menL (id : Bid) : List C → Bool
  | [] => false
  | c :: cs => c.men id || menL id cs
end

/-- Two contexts are one at the names of a cell. -/
def Agree (S : Bid → Prop) (G G' : Ctx) : Prop := ∀ id, S id → G'.blk id = G.blk id ∧ G'.own id = G.own id

/-- What may turn between two worlds: nothing that is old and immutable; what was immutable stays so. -/
structure Keeps (G G' : Ctx) (w w' : World) : Prop where
  size : w.heap.size ≤ w'.heap.size
  block : ∀ b, b < w.heap.size → ¬ G.wr b → w'.heap[b]? = w.heap[b]?
  wr : ∀ b, b < w.heap.size → G'.wr b → G.wr b

theorem Keeps.refl (G : Ctx) (w : World) : Keeps G G w w := ⟨Nat.le_refl _, fun _ _ _ => rfl, fun _ _ h => h⟩

theorem oneCell_int (k n) : (Value.int k n).oneCell' = true := rfl

mutual
theorem RelC.one {w : World} {G : Ctx} : ∀ {c : C} {v : Value}, RelC w G c v → v.oneCell' = true
  | .int .., v, h => by simp only [RelC] at h; subst h; rfl
  | .bool .., v, h => by simp only [RelC] at h; subst h; rfl
  | .str .., v, h => by simp only [RelC] at h; subst h; rfl
  | .sl .., v, h => by simp only [RelC] at h; obtain ⟨a, cap, rfl, _⟩ := h; rfl
  | .osl _, v, h => by simp only [RelC] at h; exact h.2
  | .ptr .., v, h => by simp only [RelC] at h; obtain ⟨b, _, rfl⟩ := h; rfl
  | .iptr .., v, h => by simp only [RelC] at h; obtain ⟨b, o, rfl, _⟩ := h; rfl
  | .nilp, v, h => by simp only [RelC] at h; subst h; rfl
  | .niface, v, h => by simp only [RelC] at h; subst h; rfl
  | .fn _, v, h => by simp only [RelC] at h; subst h; rfl
  | .held, v, h => by simp only [RelC] at h; obtain ⟨t, x, rfl⟩ := h; rfl
  | .any, v, h => by simp only [RelC] at h; exact h
end

theorem cell?_of_block' {w w' : World} {b : Nat} (h : w'.heap[b]? = w.heap[b]?) (o : Nat) : w'.cell? ⟨b, o, none⟩ = w.cell? ⟨b, o, none⟩ :=
  World.cell?_of_block (a := ⟨b, o, none⟩) h

mutual
theorem RelC.mono {w w' : World} {G G' : Ctx} (hk : Keeps G G' w w') : ∀ (c : C) (v : Value), Agree (fun id => c.men id = true) G G' → RelC w G c v → RelC w' G' c v
  | .int .., _, _, h => by simpa only [RelC] using h
  | .bool .., _, _, h => by simpa only [RelC] using h
  | .str .., _, _, h => by simpa only [RelC] using h
  | .sl len cs, v, ha, h => by
    simp only [RelC] at h ⊢
    obtain ⟨a, cap, h1, h2, h3, h4, h5⟩ := h
    refine ⟨a, cap, h1, h2, h3, h4, ?_⟩
    rcases h5 with h5 | ⟨b, off, e, hm, hb, hr⟩
    · exact .inl h5
    · exact .inr ⟨b, off, e, fun hm' => hm (hk.wr b hb hm'), Nat.lt_of_lt_of_le hb hk.size, RelRow.mono hk cs b off (fun id hid => ha id (by simpa only [C.men] using hid)) (fun o => cell?_of_block' (hk.block b hb hm) o) hr⟩
  | .osl id, v, ha, h => by
    simp only [RelC] at h ⊢
    rw [(ha id (by simp [C.men])).2]; exact h
  | .ptr id off, v, ha, h => by
    simp only [RelC] at h ⊢
    rw [(ha id (by simp [C.men])).1]; exact h
  | .iptr cs off, v, ha, h => by
    simp only [RelC] at h ⊢
    obtain ⟨b, o, e, hm, hb, hr⟩ := h
    exact ⟨b, o, e, fun hm' => hm (hk.wr b hb hm'), Nat.lt_of_lt_of_le hb hk.size, RelRow.mono hk cs b o (fun id hid => ha id (by simpa only [C.men] using hid)) (fun o => cell?_of_block' (hk.block b hb hm) o) hr⟩
  | .nilp, _, _, h => by simpa only [RelC] using h
  | .niface, _, _, h => by simpa only [RelC] using h
  | .fn _, _, _, h => by simpa only [RelC] using h
  | .held, _, _, h => by simpa only [RelC] using h
  | .any, _, _, h => by simpa only [RelC] using h
theorem RelRow.mono {w w' : World} {G G' : Ctx} (hk : Keeps G G' w w') : ∀ (cs : List C) (b off : Nat), Agree (fun id => menL id cs = true) G G' → (∀ o, w'.cell? ⟨b, o, none⟩ = w.cell? ⟨b, o, none⟩) → RelRow w G cs b off → RelRow w' G' cs b off
  | [], _, _, _, _, h => by simp only [RelRow]
  | c :: cs, b, off, ha, hc, h => by
    simp only [RelRow] at h ⊢
    obtain ⟨⟨v, hv, hr⟩, hrest⟩ := h
    exact ⟨⟨v, by rw [hc]; exact hv, RelC.mono hk c v (fun id hid => ha id (by simp only [menL, hid, Bool.true_or])) hr⟩,
      RelRow.mono hk cs b (off + 1) (fun id hid => ha id (by simp only [menL, hid, Bool.or_true])) hc hrest⟩
end

theorem RelL.mono {w w' : World} {G G' : Ctx} (hk : Keeps G G' w w') : ∀ (cs : List C) (vs : List Value), Agree (fun id => menL id cs = true) G G' → RelL w G cs vs → RelL w' G' cs vs
  | [], [], _, _ => by simp only [RelL]
  | [], _ :: _, _, h => by simp only [RelL] at h
  | _ :: _, [], _, h => by simp only [RelL] at h
  | c :: cs, v :: vs, ha, h => by
    simp only [RelL] at h ⊢
    exact ⟨RelC.mono hk c v (fun id hid => ha id (by simp only [menL, hid, Bool.true_or])) h.1,
      RelL.mono hk cs vs (fun id hid => ha id (by simp only [menL, hid, Bool.or_true])) h.2⟩

mutual
def V.men (id : Bid) : V → Bool
  | .c x => x.men id
  | .agg cs => menL id cs
  | .tup vs => menV id vs
  | .g b v => b && v.men id
  | .undef => false
def menV (id : Bid) : List V → Bool
  | [] => false
  | v :: vs => v.men id || menV id vs
end

mutual
theorem RelV.mono {w w' : World} {G G' : Ctx} (hk : Keeps G G' w w') : ∀ (x : V) (v : Value), Agree (fun id => x.men id = true) G G' → RelV w G x v → RelV w' G' x v
  | .c x, v, ha, h => by simp only [RelV] at h ⊢; exact RelC.mono hk x v (by simpa only [V.men] using ha) h
  | .agg cs, v, ha, h => by
    simp only [RelV] at h ⊢
    obtain ⟨arr, e, hr⟩ := h
    exact ⟨arr, e, RelL.mono hk cs _ (by simpa only [V.men] using ha) hr⟩
  | .tup vs, v, ha, h => by
    simp only [RelV] at h ⊢
    obtain ⟨arr, e, hr⟩ := h
    exact ⟨arr, e, RelVs.mono hk vs _ (by simpa only [V.men] using ha) hr⟩
  | .g b x, v, ha, h => by
    simp only [RelV] at h ⊢
    split
    · rename_i hb; rw [if_pos hb] at h; exact RelV.mono hk x v (fun id hid => ha id (by simp only [V.men, hb, hid, Bool.and_self])) h
    · rename_i hb; rw [if_neg hb] at h; exact h
  | .undef, _, _, _ => by simp only [RelV]
theorem RelVs.mono {w w' : World} {G G' : Ctx} (hk : Keeps G G' w w') : ∀ (xs : List V) (vs : List Value), Agree (fun id => menV id xs = true) G G' → RelVs w G xs vs → RelVs w' G' xs vs
  | [], _, _, h => by simpa only [RelVs] using h
  | x :: xs, vs, ha, h => by
    simp only [RelVs] at h ⊢
    obtain ⟨v, r, e, h1, h2⟩ := h
    exact ⟨v, r, e, RelV.mono hk x v (fun id hid => ha id (by simp only [menV, hid, Bool.true_or])) h1,
      RelVs.mono hk xs r (fun id hid => ha id (by simp only [menV, hid, Bool.or_true])) h2⟩
end

/-! Rows and lists. -/
theorem RelL.length {w : World} {G : Ctx} : ∀ {cs : List C} {vs : List Value}, RelL w G cs vs → cs.length = vs.length
  | [], [], _ => rfl
  | [], _ :: _, h => by simp only [RelL] at h
  | _ :: _, [], h => by simp only [RelL] at h
  | c :: cs, v :: vs, h => by
    simp only [RelL] at h
    simp [RelL.length h.2]

theorem RelL.get {w : World} {G : Ctx} : ∀ {cs : List C} {vs : List Value}, RelL w G cs vs → ∀ (i : Nat) (c : C), cs[i]? = some c → ∃ v, vs[i]? = some v ∧ RelC w G c v
  | [], [], _, i, c, hc => by simp at hc
  | [], _ :: _, h, _, _, _ => by simp only [RelL] at h
  | _ :: _, [], h, _, _, _ => by simp only [RelL] at h
  | c :: cs, v :: vs, h, i, d, hd => by
    simp only [RelL] at h
    cases i with
    | zero => simp at hd; subst hd; exact ⟨v, by simp, h.1⟩
    | succ i => simp at hd; obtain ⟨v', h1, h2⟩ := RelL.get h.2 i d hd; exact ⟨v', by simpa using h1, h2⟩

theorem RelL.one {w : World} {G : Ctx} : ∀ {cs : List C} {vs : List Value}, RelL w G cs vs → ∀ v ∈ vs, v.oneCell' = true
  | [], [], _, v, hv => by cases hv
  | [], _ :: _, h, _, _ => by simp only [RelL] at h
  | _ :: _, [], h, _, _ => by simp only [RelL] at h
  | c :: cs, v :: vs, h, u, hu => by
    simp only [RelL] at h
    rcases List.mem_cons.1 hu with rfl | hu
    · exact RelC.one h.1
    · exact RelL.one h.2 u hu

theorem RelL.drop {w : World} {G : Ctx} : ∀ {cs : List C} {vs : List Value}, RelL w G cs vs → ∀ n, RelL w G (cs.drop n) (vs.drop n)
  | cs, vs, h, 0 => by simpa using h
  | [], [], h, n + 1 => by simp [RelL]
  | [], _ :: _, h, _ + 1 => by simp only [RelL] at h
  | _ :: _, [], h, _ + 1 => by simp only [RelL] at h
  | c :: cs, v :: vs, h, n + 1 => by simp only [RelL] at h; simpa using RelL.drop h.2 n

theorem RelL.take {w : World} {G : Ctx} : ∀ {cs : List C} {vs : List Value}, RelL w G cs vs → ∀ n, RelL w G (cs.take n) (vs.take n)
  | cs, vs, h, 0 => by simp [RelL]
  | [], [], h, n + 1 => by simp [RelL]
  | [], _ :: _, h, _ + 1 => by simp only [RelL] at h
  | _ :: _, [], h, _ + 1 => by simp only [RelL] at h
  | c :: cs, v :: vs, h, n + 1 => by
    simp only [RelL] at h
    simp only [List.take_succ_cons, RelL]
    exact ⟨h.1, RelL.take h.2 n⟩

theorem RelL.append {w : World} {G : Ctx} : ∀ {cs : List C} {vs : List Value} {ds : List C} {us : List Value}, RelL w G cs vs → RelL w G ds us → RelL w G (cs ++ ds) (vs ++ us)
  | [], [], _, _, _, h' => by simpa using h'
  | [], _ :: _, _, _, h, _ => by simp only [RelL] at h
  | _ :: _, [], _, _, h, _ => by simp only [RelL] at h
  | c :: cs, v :: vs, ds, us, h, h' => by
    simp only [RelL] at h
    simp only [List.cons_append, RelL]
    exact ⟨h.1, RelL.append h.2 h'⟩

theorem RelRow.list {w : World} {G : Ctx} : ∀ {cs : List C} {b off : Nat}, RelRow w G cs b off → ∃ vs, RelL w G cs vs ∧ w.rangeAt b off vs
  | [], b, off, _ => ⟨[], by simp only [RelL], fun j v h => by simp at h⟩
  | c :: cs, b, off, h => by
    simp only [RelRow] at h
    obtain ⟨⟨v, hv, hr⟩, hrest⟩ := h
    obtain ⟨vs, h1, h2⟩ := RelRow.list hrest
    refine ⟨v :: vs, by simp only [RelL]; exact ⟨hr, h1⟩, fun j u hu => ?_⟩
    cases j with
    | zero => simp at hu; subst hu; simpa using hv
    | succ j => simp at hu; have := h2 j u hu; rw [show off + (j + 1) = off + 1 + j by omega]; exact this

theorem RelRow.of_list {w : World} {G : Ctx} : ∀ {cs : List C} {vs : List Value} {b off : Nat}, RelL w G cs vs → w.rangeAt b off vs → RelRow w G cs b off
  | [], [], b, off, _, _ => by simp only [RelRow]
  | [], _ :: _, _, _, h, _ => by simp only [RelL] at h
  | _ :: _, [], _, _, h, _ => by simp only [RelL] at h
  | c :: cs, v :: vs, b, off, h, hr => by
    simp only [RelL] at h
    simp only [RelRow]
    refine ⟨⟨v, by simpa using hr 0 v (by simp), h.1⟩, RelRow.of_list h.2 (fun j u hu => ?_)⟩
    have := hr (j + 1) u (by simpa using hu)
    rw [show off + 1 + j = off + (j + 1) by omega]; exact this

theorem RelRow.drop {w : World} {G : Ctx} {cs : List C} {b off : Nat} (h : RelRow w G cs b off) (n : Nat) : RelRow w G (cs.drop n) b (off + n) := by
  obtain ⟨vs, h1, h2⟩ := h.list
  refine RelRow.of_list (h1.drop n) (fun j v hv => ?_)
  rw [List.getElem?_drop] at hv
  have := h2 _ v hv
  rw [show off + n + j = off + (n + j) by omega]; exact this

theorem RelRow.take {w : World} {G : Ctx} {cs : List C} {b off : Nat} (h : RelRow w G cs b off) (n : Nat) : RelRow w G (cs.take n) b off := by
  obtain ⟨vs, h1, h2⟩ := h.list
  refine RelRow.of_list (h1.take n) (fun j v hv => ?_)
  rw [List.getElem?_take] at hv
  split at hv
  · exact h2 j v hv
  · cases hv

end Go.PL
