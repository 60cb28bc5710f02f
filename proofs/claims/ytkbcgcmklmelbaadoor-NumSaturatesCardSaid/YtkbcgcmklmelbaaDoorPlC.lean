/- The pure logic, part C: the value of each operation that only reads. -/
import Derived.Test.YtkbcgcmklmelbaaDoorPlB
namespace Go.PL
open Go Go.RowKit

def isBool (P : Program) (t : TypeId) : Bool :=
  match P.underlying t with
  | some .bool => true
  | _ => false

def bAnd (k : IntKind) (a b : Int) : Int := k.wrap (BitVec.ofInt k.bits a &&& BitVec.ofInt k.bits b).toNat
def bOr (k : IntKind) (a b : Int) : Int := k.wrap (BitVec.ofInt k.bits a ||| BitVec.ofInt k.bits b).toNat
def bXor (k : IntKind) (a b : Int) : Int := k.wrap (BitVec.ofInt k.bits a ^^^ BitVec.ofInt k.bits b).toNat
def bAndNot (k : IntKind) (a b : Int) : Int := k.wrap (BitVec.ofInt k.bits a &&& ~~~ BitVec.ofInt k.bits b).toNat

def intOp (op : BinOp) (k : IntKind) (a b : Int) : Prop × C :=
  match op with
  | .add => (True, .int k (k.wrap (a + b)))
  | .sub => (True, .int k (k.wrap (a - b)))
  | .mul => (True, .int k (k.wrap (a * b)))
  | .quo => (b ≠ 0, .int k (k.wrap (a.tdiv b)))
  | .rem => (b ≠ 0, .int k (a.tmod b))
  | .and => (True, .int k (bAnd k a b))
  | .or => (True, .int k (bOr k a b))
  | .xor => (True, .int k (bXor k a b))
  | .andNot => (True, .int k (bAndNot k a b))
  | .shl => (0 ≤ b, .int k (k.wrap (a * 2 ^ (min b.toNat k.bits))))
  | .shr => (0 ≤ b, .int k (a.fdiv (2 ^ (min b.toNat k.bits))))
  | .eql => (True, .bool (a == b))
  | .neq => (True, .bool (a != b))
  | .lss => (True, .bool (decide (a < b)))
  | .leq => (True, .bool (decide (a ≤ b)))
  | .gtr => (True, .bool (decide (b < a)))
  | .geq => (True, .bool (decide (b ≤ a)))

def strOp (op : BinOp) (a b : List UInt8) : Prop × C :=
  match op with
  | .add => (a.length + b.length ≤ maxLen, .str (a ++ b))
  | .eql => (True, .bool (a == b))
  | .neq => (True, .bool (a != b))
  | .lss => (True, .bool (Op.bytesLess a b))
  | .leq => (True, .bool (Op.bytesLess a b || a == b))
  | .gtr => (True, .bool (!(Op.bytesLess a b || a == b)))
  | .geq => (True, .bool (!Op.bytesLess a b))
  | _ => (False, .any)

def sameKind (op : BinOp) (k k' : IntKind) : Prop :=
  match op with
  | .shl | .shr => True
  | _ => k = k'

def isIface (P : Program) (t : TypeId) : Bool :=
  match P.underlying t with
  | some (.interface _) => true
  | _ => false
def isPtr (P : Program) (t : TypeId) : Bool :=
  match P.underlying t with
  | some (.pointer _) => true
  | _ => false

/-- A comparison with nil. -/
def nilOp (op : BinOp) (b : Bool) (s : Prop) : Prop × V :=
  match op with
  | .eql => (s, .c (.bool b))
  | .neq => (s, .c (.bool !b))
  | _ => (False, .undef)

def isConstO : Operand → Bool
  | .const _ => true
  | _ => false

def binV (P : Program) (op : BinOp) (t : TypeId) (k : Bool) : V → V → Prop × V
  | .c (.int k a), .c (.int k' b) => (sameKind op k k' ∧ (intOp op k a b).1, .c (intOp op k a b).2)
  | .c (.str a), .c (.str b) => ((strOp op a b).1, .c (strOp op a b).2)
  | .c (.bool a), .c (.bool b) => match op with
    | .eql => (isBool P t = true, .c (.bool (a == b)))
    | .neq => (isBool P t = true, .c (.bool (a != b)))
    | _ => (False, .undef)
  | .c .niface, .c .niface => nilOp op true (k = true ∧ isIface P t = true)
  | .c .held, .c .niface => nilOp op false (isIface P t = true)
  | .c (.ptr _ _), .c .nilp => nilOp op false (isPtr P t = true)
  | .c .nilp, .c .nilp => nilOp op true (isPtr P t = true)
  | _, _ => (False, .undef)

theorem isIface_spec {P : Program} {t : TypeId} (h : isIface P t = true) : ∃ ms, P.underlying t = some (.interface ms) := by
  unfold isIface at h; split at h
  · rename_i ms hm; exact ⟨ms, hm⟩
  · cases h
theorem isPtr_spec {P : Program} {t : TypeId} (h : isPtr P t = true) : ∃ e, P.underlying t = some (.pointer e) := by
  unfold isPtr at h; split at h
  · rename_i ms hm; exact ⟨ms, hm⟩
  · cases h
theorem isBool_spec {P : Program} {t : TypeId} (h : isBool P t = true) : P.underlying t = some .bool := by
  unfold isBool at h; split at h <;> simp_all
theorem isStr_spec {P : Program} {t : TypeId} (h : isStr P t = true) : P.underlying t = some .string := by
  unfold isStr at h; split at h <;> simp_all

theorem baSize (a : List UInt8) : (⟨a.toArray⟩ : ByteArray).size = a.length := by simp [ByteArray.size]

/-- The machine's value of a flat cell. -/
def cval : C → Value
  | .int k n => .int k n
  | .bool b => .bool b
  | .str s => .string ⟨s.toArray⟩
  | .nilp => .pointer none
  | .niface => .nilIface
  | .fn f => .func (.func f) #[] #[]
  | _ => Go.undef
def C.flat : C → Bool
  | .int .. | .bool _ | .str _ | .nilp | .niface | .fn _ => true
  | _ => false
theorem relC_flat {w : World} {G : Ctx} {c : C} (hc : c.flat = true) {v : Value} : RelC w G c v ↔ v = cval c := by
  cases c <;> simp_all [C.flat, RelC, cval]

theorem run_intOp {P : Program} {op : BinOp} {t : TypeId} {k k' : IntKind} {x y : Int} {ox oy : Operand} (h1 : sameKind op k k') (h2 : (intOp op k x y).1) (w : World) :
    (do eqGuard op t ox oy (.int k x) (.int k' y); binOp op t (.int k x) (.int k' y)).run P w = .ok (cval (intOp op k x y).2) w ∧ (intOp op k x y).2.flat = true := by
  refine ⟨?_, by cases op <;> rfl⟩
  cases op <;> simp only [sameKind, intOp] at h1 h2 <;> (try subst h1) <;> simp only [intOp, cval] <;>
    first
      | (simp [eqGuard, binOp, Op.intArith, Op.intDiv, Op.intBits, Op.intCmp, h2, bAnd, bOr, bXor, bAndNot]; done)
      | (have h3 : ¬ y < 0 := by omega
         simp [eqGuard, binOp, Op.shift, h3])

theorem baToList (a : List UInt8) : (⟨a.toArray⟩ : ByteArray).toList = a := by
  simp [ByteArray.toList_eq]

theorem run_strOp {P : Program} {op : BinOp} {t : TypeId} {x y : List UInt8} {ox oy : Operand} (h2 : (strOp op x y).1) (w : World) :
    (do eqGuard op t ox oy (.string ⟨x.toArray⟩) (.string ⟨y.toArray⟩); binOp op t (.string ⟨x.toArray⟩) (.string ⟨y.toArray⟩)).run P w = .ok (cval (strOp op x y).2) w ∧ (strOp op x y).2.flat = true := by
  cases op <;> simp only [strOp] at h2 <;> refine ⟨?_, rfl⟩ <;> simp only [strOp, cval]
  case add =>
    have h3 : ¬ ((x.length + y.length : Nat) : Int) > IntKind.i64.max := by
      have : IntKind.i64.max = 9223372036854775807 := by decide
      unfold maxLen at h2; omega
    simp only [eqGuard, binOp, Op.stringOp, baSize]
    rw [if_neg h3]
    have e : (⟨x.toArray⟩ ++ ⟨y.toArray⟩ : ByteArray) = ⟨(x ++ y).toArray⟩ := by
      apply ByteArray.ext
      simp
    simp [e]
  case neq => simp [eqGuard, binOp, Op.stringOp, ByteArray.toList_eq, bne]
  all_goals simp [eqGuard, binOp, Op.stringOp, ByteArray.toList_eq]

theorem nilOp_sound {P : Program} {op : BinOp} {t : TypeId} {u v : Value} {b : Bool} {s : Prop} {w : World} {G : Ctx} {ox oy : Operand} (hs : (nilOp op b s).1) (hshape : (∀ k a, u ≠ .int k a) ∧ (∀ k a, u ≠ .float k a) ∧ (∀ k a c, u ≠ .complex k a c) ∧ (∀ a, u ≠ .string a))
    (hg : s → ∀ w', (eqGuard op t ox oy u v).run P w' = .ok () w') (he : s → ∀ w', (Op.equal t u v).run P w' = .ok b w') :
    ∃ r, RelV w G (nilOp op b s).2 r ∧ ∀ w', (do eqGuard op t ox oy u v; binOp op t u v).run P w' = .ok r w' := by
  unfold nilOp at *
  obtain ⟨h1, h2, h3, h4⟩ := hshape
  split at hs
  · refine ⟨.bool b, (relC_flat rfl).2 rfl, fun w' => ?_⟩
    simp only [Sem.run_bind, hg hs w', Result.andThen_ok]
    cases u <;> simp_all [binOp]
  · refine ⟨.bool !b, (relC_flat rfl).2 rfl, fun w' => ?_⟩
    simp only [Sem.run_bind, hg hs w', Result.andThen_ok]
    cases u <;> simp_all [binOp]
  · exact hs.elim

theorem eqIn_held {P : Program} (d : Nat) {t u : TypeId} {x : Value} {ms : Array (String × TypeId)} (h : P.underlying t = some (.interface ms)) (w : World) : (Op.equalIn (d + 1) t (.iface u x) .nilIface).run P w = .ok false w := by
  simp [Op.equalIn, run_underlying h]
theorem eqIn_nn {P : Program} (d : Nat) {t : TypeId} {ms : Array (String × TypeId)} (h : P.underlying t = some (.interface ms)) (w : World) : (Op.equalIn (d + 1) t .nilIface .nilIface).run P w = .ok true w := by
  simp [Op.equalIn, run_underlying h]
theorem eqIn_pn {P : Program} (d : Nat) {t e : TypeId} {a : Addr} (h : P.underlying t = some (.pointer e)) (w : World) : (Op.equalIn (d + 1) t (.pointer (some a)) (.pointer none)).run P w = .ok false w := by
  simp [Op.equalIn, run_underlying h]
theorem eqIn_np {P : Program} (d : Nat) {t e : TypeId} (h : P.underlying t = some (.pointer e)) (w : World) : (Op.equalIn (d + 1) t (.pointer none) (.pointer none)).run P w = .ok true w := by
  simp [Op.equalIn, run_underlying h]
theorem run_equal_held {P : Program} {t u : TypeId} {x : Value} {ms : Array (String × TypeId)} (h : P.underlying t = some (.interface ms)) (w : World) : (Op.equal t (.iface u x) .nilIface).run P w = .ok false w := eqIn_held 9999 h w
theorem run_equal_nn {P : Program} {t : TypeId} {ms : Array (String × TypeId)} (h : P.underlying t = some (.interface ms)) (w : World) : (Op.equal t .nilIface .nilIface).run P w = .ok true w := eqIn_nn 9999 h w
theorem run_equal_pn {P : Program} {t e : TypeId} {a : Addr} (h : P.underlying t = some (.pointer e)) (w : World) : (Op.equal t (.pointer (some a)) (.pointer none)).run P w = .ok false w := eqIn_pn 9999 h w
theorem run_equal_np {P : Program} {t e : TypeId} (h : P.underlying t = some (.pointer e)) (w : World) : (Op.equal t (.pointer none) (.pointer none)).run P w = .ok true w := eqIn_np 9999 h w

theorem binV_sound {P : Program} {op : BinOp} {t : TypeId} {x y : V} {u v : Value} {w : World} {G : Ctx} {ox oy : Operand} (hx : RelV w G x u) (hy : RelV w G y v) (hs : (binV P op t (isConstO ox || isConstO oy) x y).1) :
    ∃ r, RelV w G (binV P op t (isConstO ox || isConstO oy) x y).2 r ∧ ∀ w', (do eqGuard op t ox oy u v; binOp op t u v).run P w' = .ok r w' := by
  unfold binV at *
  split at hs
  · simp only [RelV, RelC] at hx hy
    subst hx hy
    exact ⟨_, by simp only [RelV]; exact (relC_flat (run_intOp (P := P) (t := t) (ox := ox) (oy := oy) hs.1 hs.2 w).2).2 rfl, fun w' => (run_intOp hs.1 hs.2 w').1⟩
  · simp only [RelV, RelC] at hx hy
    subst hx hy
    exact ⟨_, by simp only [RelV]; exact (relC_flat (run_strOp (P := P) (t := t) (ox := ox) (oy := oy) hs w).2).2 rfl, fun w' => (run_strOp hs w').1⟩
  · simp only [RelV, RelC] at hx hy
    subst hx hy
    split at hs
    · exact ⟨_, (relC_flat rfl).2 rfl, fun w' => by simp [eqGuard, run_eql_bool w' t _ _ (isBool_spec hs), cval]⟩
    · exact ⟨_, (relC_flat rfl).2 rfl, fun w' => by simp [eqGuard, run_neq_bool w' t _ _ (isBool_spec hs), cval, bne]⟩
    · exact hs.elim
  · simp only [RelV, RelC] at hx hy
    subst hx hy
    refine nilOp_sound hs (by simp) (fun q w' => ?_) (fun q w' => ?_)
    · have hk := q.1
      cases ox <;> cases oy <;> simp_all [isConstO, eqGuard] <;> (try (split <;> rfl))
    · obtain ⟨ms, hm⟩ := isIface_spec q.2
      exact run_equal_nn hm w'
  · simp only [RelV, RelC] at hx hy
    obtain ⟨t', x', rfl⟩ := hx
    subst hy
    refine nilOp_sound hs (by simp) (fun q w' => ?_) (fun q w' => ?_)
    · simp [eqGuard] <;> (try (split <;> rfl))
    · obtain ⟨ms, hm⟩ := isIface_spec q
      exact run_equal_held hm w'
  · simp only [RelV, RelC] at hx hy
    obtain ⟨b, _, rfl⟩ := hx
    subst hy
    refine nilOp_sound hs (by simp) (fun q w' => ?_) (fun q w' => ?_)
    · simp [eqGuard] <;> (try (split <;> rfl))
    · obtain ⟨ms, hm⟩ := isPtr_spec q
      exact run_equal_pn hm w'
  · simp only [RelV, RelC] at hx hy
    subst hx hy
    refine nilOp_sound hs (by simp) (fun q w' => ?_) (fun q w' => ?_)
    · simp [eqGuard] <;> (try (split <;> rfl))
    · obtain ⟨ms, hm⟩ := isPtr_spec q
      exact run_equal_np hm w'
  · exact hs.elim

end Go.PL
