/- strings.IndexRune and strings.IndexAny beyond ASCII, where the letters that are sought are ASCII. -/
import Derived.Test.YtieikooalmfmfaaDoorRows
import Derived.Shelf.Strings.IndexAnyAll
import Derived.Shelf.Small.Utf8
import Derived.Laws.RangeAny
import Derived.Laws.Runes
import Derived.Lib.OthersKept
import Derived.Deep.QuietTactic
import Derived.BigQuiet
namespace Go.Proofs
open Go.Shelf Go.RowKit Go.Lib
variable {ρ : Ren}

set_option maxHeartbeats 8000000 in
set_option maxRecDepth 1000000 in
theorem rune_error (L : Lays.n152 Tryd.prog ρ) (s : ByteArray) (w : World) (ha : ∀ (j : Nat) b, s.data.toList[j]? = some b → b.toNat < 128) :
    Calls Tryd.prog (ρ.f 152) #[.string s, .int .i32 65533] w fun e w' => e = .returned (.int .i64 (-1)) ∧ ∃ pos, w' = w.iter s pos := by
  have HA : Aside (∀ (j : Nat) b, s.data.toList[j]? = some b → b.toNat < 128) := ha
  clear ha
  have t3 := L.t3; have a3 := L.a3; have z3 := L.z3; have v3 := L.v3
  have t4 := L.t4; have a4 := L.a4; have z4 := L.z4; have v4 := L.v4
  have t5 := L.t5; have a5 := L.a5; have z5 := L.z5; have v5 := L.v5
  have t9 := L.t9; have a9 := L.a9; have z9 := L.z9; have v9 := L.v9
  have t21 := L.t21; have a21 := L.a21; have z21 := L.z21; have v21 := L.v21
  go_enter L.f152, Body.n152_ntmps ρ
  go_wp2_with fail
  go_loopg [5, 6] s.size (fun g _ _ wx => ∃ i : Nat, i + g = s.size ∧ wx = w.iter s i)
  case atStart => exact ⟨0, by omega, rfl⟩
  case round =>
    obtain ⟨i, hig, rfl⟩ := hrel
    cases gk with
    | zero =>
      obtain rfl : i = s.size := by omega
      have hnx := run_next_end (P := Tryd.prog) w s s.size
      go_wp2
      go_ret
      exact ⟨rfl, _, rfl⟩
    | succ g =>
      have hi : i < s.size := by omega
      obtain ⟨x, hx⟩ : ∃ x : UInt8, s[i]'hi = x := ⟨_, rfl⟩
      have hxl : s.data.toList[i]? = some x := by rw [← hx]; exact Lib.data_getElem? s i hi
      have hx128 : x.toNat < 128 := HA.out i x hxl
      have hnx := fun ty => run_next_ascii (P := Tryd.prog) w s i ty hi (by rw [hx]; exact hx128)
      rw [hx] at hnx
      clear hxl hx
      have hne : ((x.toNat : Int) == 65533) = false := beq_eq_false_iff_ne.2 (by omega)
      go_wp2
      go_roundg g
      case measure => omega
      case rel => exact ⟨i + 1, by omega, rfl⟩

set_option maxHeartbeats 8000000 in
set_option maxRecDepth 1000000 in
theorem rune_invalid (L : Lays.n152 Tryd.prog ρ) (s : ByteArray) (r : Int) (w : World) (h0 : 128 ≤ r) (h1 : r ≤ 2147483647) (hr : r ≠ 65533) (hv : Lib.validRune r = false) :
    Calls Tryd.prog (ρ.f 152) #[.string s, .int .i32 r] w fun e w' => e = .returned (.int .i64 (-1)) ∧ w' = w := by
  have HV : Aside (Lib.validRune r = false) := hv
  clear hv
  have b1 : decide ((0 : Int) ≤ r) = true := decide_eq_true (by omega)
  have b2 : decide (r < (128 : Int)) = false := decide_eq_false (by omega)
  have b3 : (r == (65533 : Int)) = false := beq_eq_false_iff_ne.2 hr
  clear hr
  have t3 := L.t3; have a3 := L.a3; have z3 := L.z3; have v3 := L.v3
  have t4 := L.t4; have a4 := L.a4; have z4 := L.z4; have v4 := L.v4
  have t5 := L.t5; have a5 := L.a5; have z5 := L.z5; have v5 := L.v5
  have t9 := L.t9; have a9 := L.a9; have z9 := L.z9; have v9 := L.v9
  have t21 := L.t21; have a21 := L.a21; have z21 := L.z21; have v21 := L.v21
  have e119 : ∀ args w, (callFunc (ρ.f 119) args).run Tryd.prog w = .ok (.enter (ρ.f 119) args) w := enters_of L.f119 (by kernel_rfl) rfl
  go_enter L.f152, Body.n152_ntmps ρ
  go_wp2_with (go_at_fn (ρ.f 119); refine (Any.utf8_ValidRune { L with } _ _).mono ?_; rintro e w' ⟨rfl, hw⟩; rw [hw, HV.out])
  go_ret
  exact ⟨rfl, rfl⟩

set_option maxHeartbeats 8000000 in
set_option maxRecDepth 1000000 in
theorem rune_valid (L : Lays.n152 Tryd.prog ρ) (s : ByteArray) (r : Int) (w : World) (h0 : 128 ≤ r) (h1 : r ≤ 2147483647) (hr : r ≠ 65533) (hv : Lib.validRune r = true) (hs : s.size ≤ 1000) (ha : ∀ (j : Nat) b, s.data.toList[j]? = some b → b.toNat < 128) :
    Calls Tryd.prog (ρ.f 152) #[.string s, .int .i32 r] w fun e w' => e = .returned (.int .i64 (-1)) ∧ ∃ k, w' = w.drewN k := by
  have HV : Aside (Lib.validRune r = true) := hv
  have HA : Aside (∀ (j : Nat) b, s.data.toList[j]? = some b → b.toNat < 128) := ha
  clear ha
  have b1 : decide ((0 : Int) ≤ r) = true := decide_eq_true (by omega)
  have b2 : decide (r < (128 : Int)) = false := decide_eq_false (by omega)
  have b3 : (r == (65533 : Int)) = false := beq_eq_false_iff_ne.2 hr
  clear hr
  have t3 := L.t3; have a3 := L.a3; have z3 := L.z3; have v3 := L.v3
  have t4 := L.t4; have a4 := L.a4; have z4 := L.z4; have v4 := L.v4
  have t5 := L.t5; have a5 := L.a5; have z5 := L.z5; have v5 := L.v5
  have t9 := L.t9; have a9 := L.a9; have z9 := L.z9; have v9 := L.v9
  have t21 := L.t21; have a21 := L.a21; have z21 := L.z21; have v21 := L.v21
  have e119 : ∀ args w, (callFunc (ρ.f 119) args).run Tryd.prog w = .ok (.enter (ρ.f 119) args) w := enters_of L.f119 (by kernel_rfl) rfl
  have e137 : ∀ args w, (callFunc (ρ.f 137) args).run Tryd.prog w = .ok (.enter (ρ.f 137) args) w := enters_of L.f137 (by kernel_rfl) rfl
  obtain ⟨f1, f2, f3⟩ := encode_facts r (by rw [validRune_eq]; exact hv) h0
  have hM := wrap_small
  obtain ⟨rs, hen⟩ : ∃ rs, Utf8.encode r = rs := ⟨_, rfl⟩
  rw [hen] at f1 f2 f3
  obtain ⟨n, hn⟩ : ∃ n, rs.size = n + 1 := ⟨rs.size - 1, by omega⟩
  have F3 : Aside (∀ h : rs.size - 1 < rs.size, 128 ≤ (rs[rs.size - 1]'h).toNat) := f3
  clear f3 hM hv
  go_enter L.f152, Body.n152_ntmps ρ
  go_wp2_with (go_at_fn (ρ.f 119); refine (Any.utf8_ValidRune { L with } _ _).mono ?_; rintro e w' ⟨rfl, hw⟩; rw [hw, HV.out])
  refine wp_scope_straight ?_
  go_wp2_with fail
  go_loopg [9] 0 (fun _ c wx => c = .int .i64 (n : Int) ∧ wx = w)
  case atStart => exact ⟨rfl, rfl⟩
  case round =>
    obtain ⟨rfl, rfl⟩ := hrel
    by_cases hlt : n < s.size
    · obtain ⟨x, hx⟩ : ∃ x : UInt8, s[n]'hlt = x := ⟨_, rfl⟩
      have hx128 : x.toNat < 128 := HA.out n x (by rw [← hx]; exact Lib.data_getElem? s n hlt)
      have hrn : n < rs.size := by omega
      obtain ⟨y, hy⟩ : ∃ y : UInt8, rs[n]'hrn = y := ⟨_, rfl⟩
      have hy128 : 128 ≤ y.toNat := by
        have := F3.out (by omega)
        have e : rs.size - 1 = n := by omega
        simp only [e] at this
        rw [hy] at this; exact this
      have hl : decide ((n : Int) < (s.size : Int)) = true := decide_eq_true (by omega)
      have hne : ((x.toNat : Int) != (y.toNat : Int)) = true := by simp; omega
      go_wp2_with fail
      refine wp_scope_straight ?_
      go_wp2_with (go_at_fn (ρ.f 137); refine (Any.strings_IndexByte { L with } _ _ _).mono ?_; rintro e w' ⟨rfl, hw⟩; rw [hw])
      have i0 : (0 : Int) ≤ (n : Int) := by omega
      have i1 : (n : Int) < (s.size : Int) := by omega
      have i2 : (n : Int) < (rs.size : Int) := by omega
      obtain ⟨m, hm⟩ : ∃ m : Nat, m = n + 1 := ⟨_, rfl⟩
      have hw1 : IntKind.i64.wrap ((n : Int) + 1) = (m : Int) := by rw [wrap_small _ (by omega) (by omega)]; omega
      have i3 : (m : Int) ≤ (s.size : Int) := by omega
      have i4 : (0 : Int) ≤ (m : Int) := by omega
      clear hm
      go_quiet (fail)
      go_wp2
      go_big_quiet (exact (Any.strings_IndexByte { L with } _ _ _).mono fun e w' ⟨h1, h2⟩ => ⟨h1, _, h2⟩)
      have hib : ∀ a b, Lib.indexByte (s.extract a b).data.toList ((y.toNat : Int)).toNat.toUInt8 = -1 := fun a b => by
        have hy2 : ((y.toNat : Int)).toNat.toUInt8 = y := by simp
        rw [hy2]
        have h1 := contains_iff_indexByte (s.extract a b).data.toList y
        have h2 : (s.extract a b).data.toList.contains y = false := by
          cases hc : (s.extract a b).data.toList.contains y
          · rfl
          · have hm := mem_extract (List.contains_iff_mem.1 hc)
            obtain ⟨k, hk1, hk2⟩ := List.getElem_of_mem hm
            have := HA.out k y (by rw [List.getElem?_eq_getElem hk1, hk2])
            omega
        rw [h2] at h1
        have h3 := of_decide_eq_false h1.symm
        have h4 := indexByte_ge (s.extract a b).data.toList y
        omega
      have hd : decide (Lib.indexByte (List.take (s.size - m) (List.drop m s.data.toList)) y < 0) = true := by
        have := hib m s.size
        simp only [ByteArray.data_extract, Array.toList_extract, List.extract_eq_take_drop, Int.toNat_natCast] at this
        rw [show (y.toNat.toUInt8) = y by simp] at this
        rw [this]; rfl
      clear hib
      go_wp2
      simp only [Exit.noGoto, Exit.then, Exit.inBlock]
      go_ret
      exact ⟨rfl, _, rfl⟩
    · have hl : decide ((n : Int) < (s.size : Int)) = false := decide_eq_false (by omega)
      go_wp2
      simp only [Exit.noGoto]
      go_ret
      exact ⟨rfl, 0, rfl⟩
/-- What strings.IndexRune finds among ASCII letters. -/
def runeIx (chars : List UInt8) (r : Int) : Int := if r < 128 then Lib.indexByte chars r.toNat.toUInt8 else -1
theorem rune_any (L : Lays.n152 Tryd.prog ρ) (s : ByteArray) (r : Int) (w : World) (h0 : 0 ≤ r) (h1 : r ≤ 2147483647) (hs : s.size ≤ 1000) (ha : ∀ (j : Nat) b, s.data.toList[j]? = some b → b.toNat < 128) :
    Calls Tryd.prog (ρ.f 152) #[.string s, .int .i32 r] w fun e w' => e = .returned (.int .i64 (runeIx s.data.toList r)) ∧ Below w.heap.size w w' := by
  unfold runeIx
  by_cases h : r < 128
  · rw [if_pos h]
    exact (Any.strings_IndexRune_ascii L s r w h0 h).mono fun e w' ⟨h1, h2⟩ => ⟨h1, h2 ▸ Below.refl _ _⟩
  · rw [if_neg h]
    by_cases he : r = 65533
    · subst he
      exact (rune_error L s w ha).mono fun e w' ⟨h1, pos, h2⟩ => ⟨h1, h2 ▸ (Below.refl _ _).alloc (Nat.le_refl _) _⟩
    · cases hv : Lib.validRune r
      · exact (rune_invalid L s r w (by omega) h1 he hv).mono fun e w' ⟨h1, h2⟩ => ⟨h1, h2 ▸ Below.refl _ _⟩
      · exact (rune_valid L s r w (by omega) h1 he hv hs ha).mono fun e w' ⟨h1, k, h2⟩ => ⟨h1, h2 ▸ ⟨rfl, rfl, rfl, Nat.le_refl _, fun _ _ => rfl⟩⟩
theorem decode_skip (s : ByteArray) (i : Nat) (h : i < s.size) (ha : 128 ≤ (s[i]'h).toNat) : ∀ j, j < (Utf8.decode s i).2 → ∃ b, s.data.toList[i + j]? = some b ∧ 128 ≤ b.toNat := by
  have g : ∀ k, i + k < s.size → s.data.toList[i + k]? = some (s.get! (i + k)) := fun k hk => by
    rw [Lib.data_getElem? s (i + k) hk]
    have := get_at s (i + k) hk
    rw [Nat.add_zero] at this
    rw [this]
  have g0 : 128 ≤ (s.get! (i + 0)).toNat := by rw [get_at s i h]; exact ha
  have n0 : ¬ (s.get! (i + 0)).toNat < 128 := by omega
  have c0 := g 0 (by omega)
  have cont : ∀ k, (decide (i + k < s.size) && (s.get! (i + k)).toNat / 64 == 2) = true → ∃ b, s.data.toList[i + k]? = some b ∧ 128 ≤ b.toNat := fun k hk => by
    simp only [Bool.and_eq_true, decide_eq_true_eq, beq_iff_eq] at hk
    exact ⟨_, g k hk.1, by omega⟩
  have one : ∀ j, j < 1 → ∃ b, s.data.toList[i + j]? = some b ∧ 128 ≤ b.toNat := fun j hj => by
    obtain rfl : j = 0 := by omega
    exact ⟨_, c0, g0⟩
  simp only [Utf8.decode, n0, if_false]
  split
  · rename_i hc
    simp only [Bool.and_eq_true] at hc
    split
    · intro j hj
      have : j = 0 ∨ j = 1 := by omega
      rcases this with rfl | rfl
      · exact one 0 (by omega)
      · exact cont 1 (by simp only [Bool.and_eq_true]; exact hc.2)
    · exact one
  · split
    · rename_i hc
      simp only [Bool.and_eq_true] at hc
      split
      · intro j hj
        have : j = 0 ∨ j = 1 ∨ j = 2 := by omega
        rcases this with rfl | rfl | rfl
        · exact one 0 (by omega)
        · exact cont 1 (by simp only [Bool.and_eq_true]; exact hc.1.2)
        · exact cont 2 (by simp only [Bool.and_eq_true]; exact hc.2)
      · exact one
    · split
      · rename_i hc
        simp only [Bool.and_eq_true] at hc
        split
        · intro j hj
          have : j = 0 ∨ j = 1 ∨ j = 2 ∨ j = 3 := by omega
          rcases this with rfl | rfl | rfl | rfl
          · exact one 0 (by omega)
          · exact cont 1 (by simp only [Bool.and_eq_true]; exact hc.1.1.2)
          · exact cont 2 (by simp only [Bool.and_eq_true]; exact hc.1.2)
          · exact cont 3 (by simp only [Bool.and_eq_true]; exact hc.2)
        · exact one
      · exact one
theorem iterAt_below {B k : Nat} {a w : World} (h : Below B a w) (hk : B ≤ k) (s : ByteArray) (pos : Nat) : Below B a (w.iterAt k s pos) :=
  ⟨h.os, h.tape, h.output, by simp [World.iterAt]; exact h.size, fun j hj => by
    have : (w.iterAt k s pos).heap[j]? = w.heap[j]? := by
      simp only [World.iterAt]
      rw [Array.getElem?_setIfInBounds_ne (by omega)]
    rw [this]; exact h.block j hj⟩
/-- What stands behind a round. -/
structure Rd (w wx : World) (s : ByteArray) (i : Nat) : Prop where
  blk : wx.heap[w.heap.size]? = some (.stringIter s i)
  bel : Below w.heap.size w wx
theorem Rd.next {w wx w' : World} {s : ByteArray} {i j : Nat} (h : Rd w wx s i) (hw : Below (wx.iterAt w.heap.size s j).heap.size (wx.iterAt w.heap.size s j) w') : Rd w w' s j := by
  have h1 : (wx.iterAt w.heap.size s j).heap[w.heap.size]? = some (.stringIter s j) := iterAt_heap _ _ _ _ _ h.blk
  have hlt : w.heap.size < (wx.iterAt w.heap.size s j).heap.size := (Array.getElem?_eq_some_iff.1 h1).1
  refine ⟨by rw [hw.block _ hlt]; exact h1, ?_⟩
  exact (iterAt_below h.bel (Nat.le_refl _) s j).trans (hw.mono (Nat.le_of_lt hlt))

set_option maxHeartbeats 8000000 in
set_option maxRecDepth 1000000 in
theorem indexAny_short (L : Lays.n153 Tryd.prog ρ) (s chars : ByteArray) (w : World) (h2 : 2 ≤ chars.size) (hc : chars.size ≤ 1000) (h8 : s.size ≤ 8) (hca : ∀ (j : Nat) b, chars.data.toList[j]? = some b → b.toNat < 128) :
    Calls Tryd.prog (ρ.f 153) #[.string s, .string chars] w fun e w' => e = .returned (.int .i64 (Lib.indexAny s.data.toList chars.data.toList)) ∧ Below w.heap.size w w' := by
  have HC : Aside (∀ (j : Nat) b, chars.data.toList[j]? = some b → b.toNat < 128) := hca
  clear hca
  have hemp : chars.toList.isEmpty = false := by
    rw [Lib.toList_data]
    cases h : chars.data.toList with
    | nil => have := Lib.size_eq chars; rw [h, List.length_nil] at this; omega
    | cons _ _ => rfl
  have hn1 : ((chars.size : Int) == 1) = false := beq_eq_false_iff_ne.2 (by omega)
  have h8z : decide ((8 : Int) < (s.size : Int)) = false := decide_eq_false (by omega)
  have t3 := L.t3; have a3 := L.a3; have z3 := L.z3; have v3 := L.v3
  have t4 := L.t4; have a4 := L.a4; have z4 := L.z4; have v4 := L.v4
  have t5 := L.t5; have a5 := L.a5; have z5 := L.z5; have v5 := L.v5
  have t9 := L.t9; have a9 := L.a9; have z9 := L.z9; have v9 := L.v9
  have t21 := L.t21; have a21 := L.a21; have z21 := L.z21; have v21 := L.v21
  have e152 : ∀ args w, (callFunc (ρ.f 152) args).run Tryd.prog w = .ok (.enter (ρ.f 152) args) w := enters_of L.f152 (by kernel_rfl) rfl
  have e226 : ∀ args w, (callFunc (ρ.f 226) args).run Tryd.prog w = .ok (.enter (ρ.f 226) args) w := enters_of L.f226 (by kernel_rfl) rfl
  go_enter L.f153, Body.n153_ntmps ρ
  go_wp2_with (go_at_fn (ρ.f 226); refine (Any.strings_shouldUseASCIISet { L with } _ _).mono ?_; rintro e w' ⟨rfl, hw⟩; rw [hw, h8z])
  go_loopg [9, 10] s.size (fun g _ _ wx => ∃ i : Nat, i + g = s.size ∧ Rd w wx s i ∧ Lib.NoAny s.data.toList chars.data.toList i)
  case atStart => exact ⟨0, by omega, ⟨by simp [World.iter_heap], (Below.refl _ _).alloc (Nat.le_refl _) _⟩, Lib.NoAny.zero _ _⟩
  case round =>
    obtain ⟨i, hig, hrd, hno⟩ := hrel
    have HN : Aside (Lib.NoAny s.data.toList chars.data.toList i) := hno
    have HR : Aside (Rd w wr s i) := hrd
    have hk := hrd.blk
    clear hno hrd
    cases gk with
    | zero =>
      obtain rfl : i = s.size := by omega
      have hnx := fun ty => run_next_end_at (P := Tryd.prog) wr w.heap.size s s.size ty hk (by omega)
      clear hk
      go_wp2
      go_ret
      exact ⟨by rw [Lib.indexAny_none (by rw [← Lib.size_eq]; exact HN.out)]; rfl, HR.out.bel⟩
    | succ g =>
      have hi : i < s.size := by omega
      obtain ⟨x, hx⟩ : ∃ x : UInt8, s[i]'hi = x := ⟨_, rfl⟩
      have hxl : s.data.toList[i]? = some x := by rw [← hx]; exact Lib.data_getElem? s i hi
      have Hx : Aside (s.data.toList[i]? = some x) := hxl
      by_cases hx128 : x.toNat < 128
      · have hnx := fun ty => run_next_ascii_at (P := Tryd.prog) wr w.heap.size s i ty hk hi (by rw [hx]; exact hx128)
        rw [hx] at hnx
        clear hxl hx hk
        have hcon := Lib.contains_iff_indexByte chars.data.toList x
        have hback : ((x.toNat : Int)).toNat.toUInt8 = x := by simp
        have hri : runeIx chars.data.toList (x.toNat : Int) = Lib.indexByte chars.data.toList x := by unfold runeIx; rw [if_pos (by omega), hback]
        cases hin : chars.data.toList.contains x
        · rw [hin] at hcon
          have hlt : ¬ ((0 : Int) ≤ Lib.indexByte chars.data.toList x) := of_decide_eq_false hcon.symm
          clear hcon
          go_wp2_with (go_at_fn (ρ.f 152); refine (rune_any { L with } _ _ _ (by omega) (by omega) hc HC.out).mono ?_; rintro e w' ⟨rfl, hw⟩; rw [hri])
          go_roundg g
          case measure => omega
          case rel => exact ⟨i + 1, by omega, HR.out.next hw, HN.out.succ Hx.out hin⟩
        · rw [hin] at hcon
          have hge : (0 : Int) ≤ Lib.indexByte chars.data.toList x := of_decide_eq_true hcon.symm
          clear hcon
          go_wp2_with (go_at_fn (ρ.f 152); refine (rune_any { L with } _ _ _ (by omega) (by omega) hc HC.out).mono ?_; rintro e w' ⟨rfl, hw⟩; rw [hri])
          go_ret
          exact ⟨by rw [Lib.indexAny_hit HN.out Hx.out hin]; rfl, (HR.out.next hw).bel⟩
      · have hd := decode_high s i hi (by rw [hx]; omega)
        have hd2 := decode_le s i
        have hsk := decode_skip s i hi (by rw [hx]; omega)
        have hnx := fun ty => run_next_any_at (P := Tryd.prog) wr w.heap.size s i ty hk hi
        obtain ⟨r, hr⟩ : ∃ r, (Utf8.decode s i).1 = r := ⟨_, rfl⟩
        obtain ⟨n, hn⟩ : ∃ n, (Utf8.decode s i).2 = n := ⟨_, rfl⟩
        rw [hr, hn] at hd hnx
        rw [hr] at hd2
        rw [hn] at hsk
        have HS : Aside (∀ j, j < n → ∃ b, s.data.toList[i + j]? = some b ∧ 128 ≤ b.toNat) := hsk
        have hri : runeIx chars.data.toList (r : Int) = -1 := by unfold runeIx; rw [if_neg (by omega)]
        clear hsk hr hn hxl hx hk
        go_wp2_with (go_at_fn (ρ.f 152); refine (rune_any { L with } _ _ _ (by omega) (by omega) hc HC.out).mono ?_; rintro e w' ⟨rfl, hw⟩; rw [hri])
        have hle : i + n ≤ s.size := by
          obtain ⟨b, hb, _⟩ := HS.out (n - 1) (by omega)
          have := (List.getElem?_eq_some_iff.1 hb).1
          rw [← Lib.size_eq] at this
          omega
        go_roundg (s.size - (i + n))
        case measure => omega
        case rel =>
          refine ⟨i + n, by omega, HR.out.next hw, fun j b hj hb => ?_⟩
          by_cases hji : j < i
          · exact HN.out j b hji hb
          · obtain ⟨b', hb', hb2⟩ := HS.out (j - i) (by omega)
            rw [show i + (j - i) = j by omega, hb] at hb'
            injection hb' with hb'; subst hb'
            cases hct : chars.data.toList.contains b
            · rfl
            · obtain ⟨k, hk1, hk2⟩ := List.getElem_of_mem (List.contains_iff_mem.1 hct)
              have := HC.out k b (by rw [List.getElem?_eq_getElem hk1, hk2])
              omega

theorem indexAny_all (L : Lays.n153 Tryd.prog ρ) (hv116 : ∀ w, (zeroValue (ρ.t 116)).run Tryd.prog w = .ok (.agg (Array.replicate 256 (.bool false))) w) (hi116 : (Tryd.prog.info? (ρ.t 116)).map (·.size) = some 256) (s chars : ByteArray) (w : World) (hs : s.size < 4294967281) (h2 : 2 ≤ chars.size) (hc : chars.size ≤ 1000)
    (hca : ∀ (j : Nat) b, chars.data.toList[j]? = some b → b.toNat < 128) :
    Calls Tryd.prog (ρ.f 153) #[.string s, .string chars] w fun e w' => e = .returned (.int .i64 (Lib.indexAny s.data.toList chars.data.toList)) ∧ Below w.heap.size w w' := by
  by_cases h8 : s.size ≤ 8
  · exact indexAny_short L s chars w h2 hc h8 hca
  · refine (Any.strings_IndexAny_long L hv116 hi116 s chars w h2 (by omega) hs (by omega) hca).mono fun e w' ⟨h1, h2⟩ => ⟨h1, ?_⟩
    rw [h2]
    exact ((Below.refl _ _).alloc (Nat.le_refl _) _).alloc (by simp) _
end Go.Proofs
