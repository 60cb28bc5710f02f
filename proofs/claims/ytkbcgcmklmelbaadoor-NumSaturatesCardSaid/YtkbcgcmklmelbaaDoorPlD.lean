/- The pure logic, part D: the values of the other operations that only read, and all of them in one function. -/
import Derived.Test.YtkbcgcmklmelbaaDoorPlC
namespace Go.PL
open Go Go.RowKit

abbrev no : Prop × V := (False, .undef)

def unV (op : UnOp) : V → Prop × V
  | .c (.int k n) => match op with
    | .neg => (True, .c (.int k (k.wrap (0 - n))))
    | .xor => (True, .c (.int k (bXor k (if k.signed then -1 else k.max) n)))
    | _ => no
  | .c (.bool b) => match op with
    | .not => (True, .c (.bool !b))
    | _ => no
  | _ => no

theorem unV_sound {P : Program} {op : UnOp} {x : V} {u : Value} {w : World} {G : Ctx} (hx : RelV w G x u) (hs : (unV op x).1) :
    ∃ r, RelV w G (unV op x).2 r ∧ ∀ w', (Op.unary op u).run P w' = .ok r w' := by
  unfold unV at *
  split at hs
  · simp only [RelV, RelC] at hx; subst hx
    split at hs
    · exact ⟨_, (relC_flat rfl).2 rfl, fun w' => by simp [Op.unary, Op.intArith, cval]⟩
    · exact ⟨_, (relC_flat rfl).2 rfl, fun w' => by simp [Op.unary, Op.intBits, cval, bXor]⟩
    · exact hs.elim
  · simp only [RelV, RelC] at hx; subst hx
    split at hs
    · exact ⟨_, (relC_flat rfl).2 rfl, fun w' => by simp [Op.unary, cval]⟩
    · exact hs.elim
  · exact hs.elim

def ikind (P : Program) (t : TypeId) : Option IntKind :=
  match P.underlying t with
  | some (.int k) => some k
  | _ => none
theorem ikind_spec {P : Program} {t : TypeId} {k : IntKind} (h : ikind P t = some k) : P.underlying t = some (.int k) := by
  unfold ikind at h; split at h <;> simp_all
def hasU (P : Program) (t : TypeId) : Bool := (P.underlying t).isSome

/-- The bytes that cells spell. -/
def bytesOf : List C → Option (List UInt8)
  | [] => some []
  | .int .u8 n :: cs => match bytesOf cs with
    | some bs => if 0 ≤ n ∧ n < 256 then some (UInt8.ofNat n.toNat :: bs) else none
    | none => none
  | _ => none

def bytesT : List C → List UInt8
  | [] => []
  | .int _ n :: cs => UInt8.ofNat n.toNat :: bytesT cs
  | _ :: cs => bytesT cs
def bytesOK : List C → Prop
  | [] => True
  | .int .u8 n :: cs => (0 ≤ n ∧ n < 256) ∧ bytesOK cs
  | _ => False
theorem bytesOK_of : ∀ {cs : List C}, bytesOK cs → bytesOf cs = some (bytesT cs)
  | [], _ => rfl
  | c :: cs, h => by
    unfold bytesOK at h
    split at h
    · cases ‹_ = ([] : List C)›
    · rename_i n cs' he
      injection he with h1 h2; subst h1 h2
      simp [bytesOf, bytesOK_of h.2, h.1, bytesT]
    · exact h.elim

def isByteSlice (P : Program) (t : TypeId) : Bool :=
  match P.underlying t with
  | some (.slice e) => match P.underlying e with
    | some (.int .u8) => true
    | _ => false
  | _ => false

def convV (P : Program) (src dst : TypeId) (st : St) : V → Prop × V
  | .c (.int _ n) => match ikind P dst with
    | some k => (hasU P src = true, .c (.int k (k.wrap n)))
    | none => no
  | .c (.str s) => (isStr P src = true ∧ isStr P dst = true, .c (.str s))
  | .c (.osl id) => match st.look id with
    | some e => match e.row with
      | some (_, n, _) => ((isByteSlice P src = true ∧ isStr P dst = true) ∧ n = 1 ∧ bytesOK e.cs, .c (.str (bytesT e.cs)))
      | _ => no
    | none => no
  | _ => no

theorem isByteSlice_spec {P : Program} {t : TypeId} (h : isByteSlice P t = true) : ∃ e, P.underlying t = some (.slice e) ∧ P.underlying e = some (.int .u8) := by
  unfold isByteSlice at h
  split at h
  · rename_i e he; split at h
    · rename_i h2; exact ⟨e, he, h2⟩
    · cases h
  · cases h

theorem bytesOf_vals {w : World} {G : Ctx} : ∀ {cs : List C} {bs : List UInt8} {vs : List Value}, bytesOf cs = some bs → RelL w G cs vs → vs = bs.map (fun b => Value.int .u8 b.toNat)
  | [], bs, vs, h, hr => by
    simp [bytesOf] at h; subst h
    cases vs <;> simp_all [RelL]
  | c :: cs, bs, vs, h, hr => by
    cases vs with
    | nil => simp [RelL] at hr
    | cons v vs =>
      simp only [RelL] at hr
      unfold bytesOf at h
      split at h
      · cases ‹_ = ([] : List C)›
      · rename_i n cs' he
        injection he with h1 h2; subst h1 h2
        split at h
        · rename_i bs' hb
          split at h
          · rename_i hn
            injection h with h; subst h
            have := bytesOf_vals hb hr.2
            simp only [RelC] at hr
            rw [hr.1, this]
            simp only [List.map_cons, List.cons.injEq, and_true, Value.int.injEq, true_and]
            have : (UInt8.ofNat n.toNat).toNat = n.toNat := by simp; omega
            rw [this]; omega
          · cases h
        · cases h
      · cases h

theorem convV_sound {P : Program} {F : Fr} {st : St} {a : Act} {w : World} {G : Ctx} (h : R F st a w G) {src dst : TypeId} {x : V} {u : Value} (hx : RelV w G x u) (hs : (convV P src dst st x).1) :
    ∃ r, RelV w G (convV P src dst st x).2 r ∧ ∀ w', Same w w' → (convert src dst u).run P w' = .ok r w' := by
  unfold convV at *
  split at hs
  · simp only [RelV, RelC] at hx; subst hx
    split at hs
    · rename_i k hk
      unfold hasU at hs
      cases hu : P.underlying src with
      | none => simp [hu] at hs
      | some d => exact ⟨_, (relC_flat rfl).2 rfl, fun w' _ => by simp [convert, run_underlying hu, run_underlying (ikind_spec hk), Conv.intToInt, cval]⟩
    · exact hs.elim
  · simp only [RelV, RelC] at hx; subst hx
    exact ⟨_, (relC_flat rfl).2 rfl, fun w' _ => by simp [convert, run_underlying (isStr_spec hs.1), run_underlying (isStr_spec hs.2), cval]⟩
  · rename_i id
    split at hs
    · rename_i e he
      split at hs
      · rename_i E n len hrow
        obtain ⟨hs, rfl, hbs⟩ := hs
        have hb := bytesOK_of hbs
        generalize bytesT e.cs = bs at *
        obtain ⟨t, hs1, hs2⟩ := isByteSlice_spec hs.1
        have hd := isStr_spec hs.2
        obtain ⟨hm, hid⟩ := look_mem he
        have hE := h.store e hm
        unfold RelE at hE
        rw [hrow] at hE
        obtain ⟨hl, v, hown, hcase⟩ := hE
        simp only [RelV, RelC] at hx
        rw [hid] at hown
        rw [hown] at hx
        obtain ⟨hx, _⟩ := hx
        injection hx with hx; subst hx
        refine ⟨.string ⟨bs.toArray⟩, (relC_flat rfl).2 rfl, fun w' hw' => ?_⟩
        rcases hcase with ⟨rfl, h0, _⟩ | ⟨b, cap, cur, rfl, _, _, _, _, _, hr⟩
        · have : e.cs = [] := by cases hc : e.cs with
            | nil => rfl
            | cons c cs => rw [hc, h0] at hl; simp at hl
          rw [this] at hb; simp [bytesOf] at hb; subst hb
          exact run_convert_bytes_nil w' src t hs1 hs2 0 0 dst hd
        · obtain ⟨vs, h1, h2⟩ := hr.list
          have hv := bytesOf_vals hb h1
          have hlen : bs.length = len := by
            have := h1.length; rw [hv] at this; simp at this; omega
          rw [← hlen]
          refine run_convert_bytes_back w' src dst t ⟨b, 0, none⟩ cap bs hs1 hs2 hd ?_
          intro j hj
          rw [Addr.add_mid]
          simpa using hw'.range h2 j (.int .u8 bs[j].toNat) (by rw [hv]; simp [hj])
      · exact hs.elim
    · exact hs.elim
  · exact hs.elim

theorem fld_spec {P : Program} {t : TypeId} {f o n : Nat} {ag : Bool} (h : fld P t f = some (o, ag, n)) :
    ∃ fs x, P.underlying t = some (.struct fs) ∧ fs[f]? = some x ∧ x.offset = o ∧ tsz P x.type = some (ag, n) := by
  unfold fld at h
  split at h
  · rename_i fs h1
    split at h
    · rename_i x h2
      split at h
      · rename_i ag' n' h3
        simp only [Option.some.injEq, Prod.mk.injEq] at h
        obtain ⟨rfl, rfl, rfl⟩ := h
        exact ⟨fs, x, h1, h2, rfl, h3⟩
      · cases h
    · cases h
  · cases h

def fieldAddrV (P : Program) (s : TypeId) (f : Nat) : V → Prop × V
  | .c (.ptr id off) => match fld P s f with
    | some (o, _, n) => (0 < n, .c (.ptr id (off + o)))
    | none => no
  | .c (.iptr cs off) => match fld P s f with
    | some (o, _, n) => (0 < n, .c (.iptr cs (off + o)))
    | none => no
  | _ => no

theorem run_fieldAt' {P : Program} {s : TypeId} {f o n : Nat} {ag : Bool} (h : fld P s f = some (o, ag, n)) (hn : 0 < n) (b off : Nat) (w : World) :
    (Instr.fieldAt s (.pointer (some ⟨b, off, none⟩)) f).run P w = .ok (.pointer (some ⟨b, off + o, none⟩)) w := by
  obtain ⟨fs, x, h1, h2, h3, h4⟩ := fld_spec h
  obtain ⟨d, i, hu, _, hi, hsz⟩ := tsz_spec h4
  simp only [Instr.fieldAt, Sem.run_bind, run_underlying h1, Result.andThen_ok, h2, Instr.sureAddr, Sem.run_pure, fieldPlace, sizeOf, typeInfo]
  have : ¬ i.size = 0 := by omega
  simp [program, Sem.run, hi, this, h3, Addr.add_mid]

theorem fieldAddrV_sound {P : Program} {s : TypeId} {f : Nat} {x : V} {u : Value} {w : World} {G : Ctx} (hx : RelV w G x u) (hs : (fieldAddrV P s f x).1) :
    ∃ r, RelV w G (fieldAddrV P s f x).2 r ∧ ∀ w', (Instr.fieldAt s u f).run P w' = .ok r w' := by
  unfold fieldAddrV at *
  split at hs
  · split at hs
    · rename_i o ag n hf
      simp only [RelV, RelC] at hx ⊢
      obtain ⟨b, hb, rfl⟩ := hx
      exact ⟨_, ⟨b, hb, rfl⟩, fun w' => run_fieldAt' hf hs b _ w'⟩
    · exact hs.elim
  · split at hs
    · rename_i o ag n hf
      simp only [RelV, RelC] at hx ⊢
      obtain ⟨b, o', rfl, h1, h2, h3⟩ := hx
      exact ⟨_, ⟨b, o', rfl, h1, h2, h3⟩, fun w' => by rw [run_fieldAt' hf hs b _ w', Nat.add_assoc]⟩
    · exact hs.elim
  · exact hs.elim

theorem run_part' {P : Program} {t : TypeId} {ag : Bool} {n : Nat} (ht : tsz P t = some (ag, n)) {w : World} {G : Ctx} {cs : List C} {arr : Array Value} (h : RelL w G cs arr.toList) {off : Nat} (hb : off + n ≤ cs.length) (h0 : ag = true ∨ 0 < n) :
    ∃ r, RelV w G (toV ag off n cs) r ∧ ∀ w', (part t arr off).run P w' = .ok r w' := by
  obtain ⟨d, i, hu, hd, hi, hsz⟩ := tsz_spec ht
  have hagg : ∀ w', (isAgg t).run P w' = .ok ag w' := by
    intro w'
    unfold isAgg
    rw [Sem.run_bind, run_underlying hu w']
    cases d <;> simp_all
  have hlen := h.length
  unfold toV
  cases hag : ag with
  | true =>
    refine ⟨.agg (arr.extract off (off + n)), ⟨_, rfl, ?_⟩, fun w' => ?_⟩
    · have := (h.drop off).take n
      simpa [Array.toList_extract, List.extract_eq_take_drop] using this
    · simp [part, Sem.run_bind, hagg, hag, sizeOf, typeInfo, program, Sem.run, hi, hsz]
  | false =>
    have hn0 : 0 < n := by rcases h0 with h' | h'; · rw [hag] at h'; cases h'
                           · exact h'
    have hlt : off < cs.length := by omega
    obtain ⟨v, hv, hr⟩ := h.get off cs[off] (by simp [hlt])
    refine ⟨v, by simpa [RelV, List.getD_eq_getElem?_getD, hlt] using hr, fun w' => ?_⟩
    have hv' : arr[off]? = some v := by simpa using hv
    simp [part, Sem.run_bind, hagg, hag, hv']

def fieldV (P : Program) (t : TypeId) (f : Nat) : V → Prop × V
  | .agg cs => match fld P t f with
    | some (o, ag, n) => (o + n ≤ cs.length ∧ (ag = true ∨ 0 < n), toV ag o n cs)
    | none => no
  | _ => no

theorem fieldV_sound {P : Program} {t : TypeId} {f : Nat} {x : V} {u : Value} {w : World} {G : Ctx} (hx : RelV w G x u) (hs : (fieldV P t f x).1) :
    ∃ r, RelV w G (fieldV P t f x).2 r ∧ ∀ w', (Instr.field t u f).run P w' = .ok r w' := by
  unfold fieldV at *
  split at hs
  · split at hs
    · rename_i o ag n hf
      simp only [RelV] at hx
      obtain ⟨arr, rfl, hr⟩ := hx
      obtain ⟨fs, y, h1, h2, h3, h4⟩ := fld_spec hf
      obtain ⟨r, q1, q2⟩ := run_part' h4 hr hs.1 hs.2
      exact ⟨r, q1, fun w' => by simp [Instr.field, Sem.run_bind, run_underlying h1, h2, asAgg, h3, q2]⟩
    · exact hs.elim
  · exact hs.elim

def indexAddrV (P : Program) (t : TypeId) (st : St) (x y : V) : Prop × V :=
  match y with
  | .c (.int _ i) => match x with
    | .c (.sl len cs) => match selem P t with
      | some (_, n) => (0 ≤ i ∧ i < len, .c (.iptr cs (i.toNat * n)))
      | none => no
    | .c (.osl id) => match selem P t, st.look id with
      | some (_, n), some e => match e.row with
        | some (_, _, len) => (0 ≤ i ∧ i < len, .c (.ptr id (i.toNat * n)))
        | none => no
      | _, _ => no
    | .c (.ptr id off) => match aelem P t with
      | some (k, _, n) => (0 ≤ i ∧ i < k, .c (.ptr id (off + i.toNat * n)))
      | none => no
    | .c (.iptr cs off) => match aelem P t with
      | some (k, _, n) => (0 ≤ i ∧ i < k, .c (.iptr cs (off + i.toNat * n)))
      | none => no
    | _ => no
  | _ => no

theorem run_indexAt_sl {P : Program} {t e : TypeId} {n : Nat} (h : selem P t = some (e, n)) (b o len cap : Nat) (k : IntKind) (i : Int) (h0 : 0 ≤ i) (h1 : i < len) (w : World) :
    (Instr.indexAt t (.slice (some ⟨b, o, none⟩) len cap) (.int k i)).run P w = .ok (.pointer (some ⟨b, o + i.toNat * n, none⟩)) w := by
  obtain ⟨hu, inf, hi, hsz⟩ := selem_spec h
  simp [Instr.indexAt, asIntOf, Sem.run_bind, run_underlying hu, h0, h1, sizeOf, typeInfo, program, Sem.run, hi, hsz, Addr.add_mid]

theorem run_indexAt_ar {P : Program} {t e : TypeId} {m n : Nat} (h : aelem P t = some (m, e, n)) (b o : Nat) (k : IntKind) (i : Int) (h0 : 0 ≤ i) (h1 : i < m) (w : World) :
    (Instr.indexAt t (.pointer (some ⟨b, o, none⟩)) (.int k i)).run P w = .ok (.pointer (some ⟨b, o + i.toNat * n, none⟩)) w := by
  obtain ⟨hu, inf, hi, hsz⟩ := aelem_spec h
  simp [Instr.indexAt, asIntOf, Sem.run_bind, run_underlying hu, h0, h1, sizeOf, typeInfo, program, Sem.run, hi, hsz, Addr.add_mid, Instr.sureAddr]

theorem indexAddrV_sound {P : Program} {F : Fr} {st : St} {a : Act} {w : World} {G : Ctx} (h : R F st a w G) {t : TypeId} {x y : V} {u v : Value} (hx : RelV w G x u) (hy : RelV w G y v) (hs : (indexAddrV P t st x y).1) :
    ∃ r, RelV w G (indexAddrV P t st x y).2 r ∧ ∀ w', (Instr.indexAt t u v).run P w' = .ok r w' := by
  unfold indexAddrV at *
  split at hs
  · rename_i k i
    simp only [RelV, RelC] at hy; subst hy
    split at hs
    · split at hs
      · rename_i len cs e n hse
        simp only [RelV, RelC] at hx ⊢
        obtain ⟨ad, cap, rfl, _, _, _, h0 | ⟨b, o, rfl, h1, h2, h3⟩⟩ := hx
        · omega
        · exact ⟨_, ⟨b, o, rfl, h1, h2, h3⟩, fun w' => run_indexAt_sl hse b o _ _ k i hs.1 hs.2 w'⟩
      · exact hs.elim
    · rename_i id
      split at hs
      · rename_i e n en hse hlk
        split at hs
        · rename_i E n' len hrow
          obtain ⟨hm, hid⟩ := look_mem hlk
          have hE := h.store en hm
          unfold RelE at hE
          rw [hrow] at hE
          obtain ⟨hl, v, hown, hcase⟩ := hE
          simp only [RelV, RelC] at hx ⊢
          rw [hid] at hown
          rw [hown] at hx
          obtain ⟨hx, _⟩ := hx
          injection hx with hx; subst hx
          rcases hcase with ⟨_, h0, _⟩ | ⟨b, cap, cur, rfl, hb, _⟩
          · omega
          · refine ⟨_, ⟨b, by rw [← hid]; exact hb, rfl⟩, fun w' => ?_⟩
            simpa using run_indexAt_sl hse b 0 len cap k i hs.1 hs.2 w'
        · exact hs.elim
      · exact hs.elim
    · split at hs
      · rename_i m e n hae
        simp only [RelV, RelC] at hx ⊢
        obtain ⟨b, hb, rfl⟩ := hx
        exact ⟨_, ⟨b, hb, rfl⟩, fun w' => run_indexAt_ar hae b _ k i hs.1 hs.2 w'⟩
      · exact hs.elim
    · split at hs
      · rename_i m e n hae
        simp only [RelV, RelC] at hx ⊢
        obtain ⟨b, o, rfl, h1, h2, h3⟩ := hx
        exact ⟨_, ⟨b, o, rfl, h1, h2, h3⟩, fun w' => by rw [run_indexAt_ar hae b _ k i hs.1 hs.2 w', Nat.add_assoc]⟩
      · exact hs.elim
    · exact hs.elim
  · exact hs.elim

def indexV (P : Program) (t : TypeId) (x y : V) : Prop × V :=
  match y with
  | .c (.int _ i) => match x with
    | .c (.str s) => (isStr P t = true ∧ 0 ≤ i ∧ i < s.length, .c (.int .u8 (s.getD i.toNat 0).toNat))
    | .agg cs => match aelem P t with
      | some (k, e, n) => match tsz P e with
        | some (ag, _) => (0 ≤ i ∧ i < k ∧ i.toNat * n + n ≤ cs.length ∧ 0 < n, toV ag (i.toNat * n) n cs)
        | none => no
      | none => no
    | _ => no
  | _ => no

theorem indexV_sound {P : Program} {t : TypeId} {x y : V} {u v : Value} {w : World} {G : Ctx} (hx : RelV w G x u) (hy : RelV w G y v) (hs : (indexV P t x y).1) :
    ∃ r, RelV w G (indexV P t x y).2 r ∧ ∀ w', (Instr.index t u v).run P w' = .ok r w' := by
  unfold indexV at *
  split at hs
  · rename_i k i
    simp only [RelV, RelC] at hy; subst hy
    split at hs
    · simp only [RelV, RelC] at hx; subst hx
      obtain ⟨h1, h2, h3⟩ := hs
      rename_i s
      refine ⟨_, (relC_flat rfl).2 rfl, fun w' => ?_⟩
      have hlt : i.toNat < s.length := by omega
      have hg : (⟨s.toArray⟩ : ByteArray)[i.toNat]? = some s[i.toNat] := by
        rw [getElem?_pos _ _ (by simpa [ByteArray.size] using hlt)]
        rfl
      simp [Instr.index, asIntOf, Sem.run_bind, run_underlying (isStr_spec h1), h2, hg, cval, List.getD_eq_getElem?_getD, hlt]
    · split at hs
      · rename_i m e n hae
        split at hs
        · rename_i ag n' hts
          obtain ⟨hu, inf, hi, hsz⟩ := aelem_spec hae
          obtain ⟨d, inf', hu', hd, hi', hsz'⟩ := tsz_spec hts
          rw [hi] at hi'; injection hi' with hi'; subst hi'
          have hnn : n' = n := by omega
          subst hnn
          simp only [RelV] at hx
          obtain ⟨arr, rfl, hr⟩ := hx
          obtain ⟨r, q1, q2⟩ := run_part' hts hr hs.2.2.1 (.inr hs.2.2.2)
          exact ⟨r, q1, fun w' => by simp [Instr.index, asIntOf, Sem.run_bind, run_underlying hu, hs.1, hs.2.1, sizeOf, typeInfo, program, Sem.run, hi, hsz, q2]⟩
        · exact hs.elim
      · exact hs.elim
    · exact hs.elim
  · exact hs.elim

end Go.PL
