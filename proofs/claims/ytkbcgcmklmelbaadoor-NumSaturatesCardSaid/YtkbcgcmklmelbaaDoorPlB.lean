/- The pure logic, part B: states, and the operations that only read. -/
import Derived.Test.YtkbcgcmklmelbaaDoorPlA
namespace Go.PL
open Go Go.RowKit

structure Ent where
  id : Bid
  row : Option (TypeId × Nat × Nat)
  cs : List C

structure St where
  tm : List V
  so : List Ent

structure Fr where
  w0 : World
  av : Nat → Prop
  old : Nat → Prop
  I : World → Prop

def RelE (w : World) (G : Ctx) (e : Ent) : Prop :=
  match e.row with
  | none => ∃ b T cur, G.blk e.id = some b ∧ w.heap[b]? = some (.cells cur T (0, 0)) ∧ cur.size = e.cs.length ∧ RelRow w G e.cs b 0
  | some (E, n, len) => e.cs.length = len * n ∧ ∃ v, G.own e.id = some v ∧
      ((v = .slice none 0 0 ∧ len = 0 ∧ G.blk e.id = none) ∨
       ∃ b cap cur, v = .slice (some ⟨b, 0, none⟩) len cap ∧ G.blk e.id = some b ∧ w.heap[b]? = some (.cells cur E (0, 0)) ∧ len ≤ cap ∧ cap ≤ maxLen ∧ cur.size = cap * n ∧ RelRow w G e.cs b 0)

structure R (F : Fr) (st : St) (a : Act) (w : World) (G : Ctx) : Prop where
  dfr : a.defers = []
  size : a.tmps.size = st.tm.length
  slots : ∀ i, RelV w G (st.tm.getD i .undef) (a.tmps.getD i Go.undef)
  store : ∀ e ∈ st.so, RelE w G e
  nodup : (st.so.map (·.id)).Nodup
  inj : ∀ i j b, G.blk i = some b → G.blk j = some b → i = j
  lt : ∀ i b, G.blk i = some b → b < w.heap.size
  new : ∀ i b, G.blk i = some b → F.w0.heap.size ≤ b ∨ F.old b
  wr : ∀ b, G.wr b ↔ F.av b ∨ ∃ i, G.blk i = some b
  avlt : ∀ b, F.av b → b < F.w0.heap.size
  inv : ∀ w', F.w0.heap.size ≤ w'.heap.size → (∀ b, b < F.w0.heap.size → ¬ F.old b → w'.heap[b]? = F.w0.heap[b]?) → F.I w'
  avold : ∀ b, F.old b → ¬ F.av b
  os : w.os = F.w0.os
  tape : w.tape = F.w0.tape
  output : w.output = F.w0.output
  hsize : F.w0.heap.size ≤ w.heap.size
  ext : ∀ b, b < F.w0.heap.size → ¬ F.old b → w.heap[b]? = F.w0.heap[b]?

def St.get (st : St) (t : Nat) : V := st.tm.getD t .undef
def St.put (st : St) (d : Option Nat) (v : V) : St :=
  match d with
  | some d => { st with tm := st.tm.set d v }
  | none => st

/-- A constant, as a cell. -/
def constC : Value → Option C
  | .int k n => some (.int k n)
  | .bool b => some (.bool b)
  | .string s => some (.str s.data.toList)
  | .pointer none => some .nilp
  | .nilIface => some .niface
  | .slice none 0 0 => some (.sl 0 [])
  | _ => none
def constL : List Value → Option (List C)
  | [] => some []
  | v :: vs => match constC v, constL vs with
    | some c, some cs => some (c :: cs)
    | _, _ => none
def ofConst : Value → V
  | .agg cs => match constL cs.toList with
    | some l => .agg l
    | none => .undef
  | v => match constC v with
    | some c => .c c
    | none => .undef

def St.ev (st : St) : Operand → V
  | .tmp t => st.get t
  | .const v => ofConst v
  | .func f => .c (.fn f)
  | .global _ => .undef

/-- An operand under a guard. -/
def St.arg (st : St) (g : Bool) (x : Operand) : Prop × V :=
  match st.ev x with
  | .g c v => (g = true → c = true, v)
  | v => (True, v)

theorem relC_const {w : World} {G : Ctx} : ∀ {v : Value} {c : C}, constC v = some c → RelC w G c v := by
  intro v c h
  unfold constC at h
  split at h <;> first | (cases h; done) | (injection h with h; subst h; simp [RelC])
  · exact ⟨none, 0, ⟨rfl, rfl⟩, by simp [maxLen]⟩

theorem relL_const {w : World} {G : Ctx} : ∀ {vs : List Value} {cs : List C}, constL vs = some cs → RelL w G cs vs
  | [], cs, h => by simp [constL] at h; subst h; simp [RelL]
  | v :: vs, cs, h => by
    unfold constL at h
    split at h
    · rename_i c cs' h1 h2
      injection h with h; subst h
      simp only [RelL]
      exact ⟨relC_const h1, relL_const h2⟩
    · cases h

theorem relV_ofConst {w : World} {G : Ctx} (v : Value) : RelV w G (ofConst v) v := by
  unfold ofConst
  split
  · split
    · rename_i h; simp only [RelV]; exact ⟨_, rfl, relL_const h⟩
    · simp only [RelV]
  · split
    · rename_i h; simp only [RelV]; exact relC_const h
    · simp only [RelV]

theorem R.ev {F : Fr} {st : St} {a : Act} {w : World} {G : Ctx} (h : R F st a w G) (x : Operand) : RelV w G (st.ev x) (a.eval x) := by
  cases x with
  | tmp t => exact h.slots t
  | const v => exact relV_ofConst v
  | func f => simp [St.ev, Act.eval, RelV, RelC]
  | global g => simp [St.ev, RelV]

theorem R.arg {F : Fr} {st : St} {a : Act} {w : World} {G : Ctx} (h : R F st a w G) {g : Bool} (hg : g = true) {x : Operand} (hs : (st.arg g x).1) : RelV w G (st.arg g x).2 (a.eval x) := by
  have := h.ev x
  unfold St.arg at *
  split at hs
  · rename_i c v he
    rw [he] at this
    simp only [RelV] at this
    rw [if_pos (hs hg)] at this
    simpa [he] using this
  · exact this

/-! ### Types -/
def tsz (P : Program) (t : TypeId) : Option (Bool × Nat) :=
  match P.underlying t, P.info? t with
  | some d, some i => some (d.isRow, i.size)
  | _, _ => none
def selem (P : Program) (t : TypeId) : Option (TypeId × Nat) :=
  match P.underlying t with
  | some (.slice e) => match P.info? e with
    | some i => some (e, i.size)
    | none => none
  | _ => none
def aelem (P : Program) (t : TypeId) : Option (Nat × TypeId × Nat) :=
  match P.underlying t with
  | some (.array n e) => match P.info? e with
    | some i => some (n, e, i.size)
    | none => none
  | _ => none
def fld (P : Program) (t : TypeId) (f : Nat) : Option (Nat × Bool × Nat) :=
  match P.underlying t with
  | some (.struct fs) => match fs[f]? with
    | some x => match tsz P x.type with
      | some (ag, n) => some (x.offset, ag, n)
      | none => none
    | none => none
  | _ => none
def isStr (P : Program) (t : TypeId) : Bool :=
  match P.underlying t with
  | some .string => true
  | _ => false

theorem tsz_spec {P : Program} {t : TypeId} {ag : Bool} {n : Nat} (h : tsz P t = some (ag, n)) : ∃ d i, P.underlying t = some d ∧ d.isRow = ag ∧ P.info? t = some i ∧ i.size = n := by
  unfold tsz at h
  split at h
  · rename_i d i h1 h2; simp only [Option.some.injEq, Prod.mk.injEq] at h; exact ⟨d, i, h1, h.1, h2, h.2⟩
  · cases h
theorem selem_spec {P : Program} {t e : TypeId} {n : Nat} (h : selem P t = some (e, n)) : P.underlying t = some (.slice e) ∧ ∃ i, P.info? e = some i ∧ i.size = n := by
  unfold selem at h
  split at h
  · rename_i d h1
    split at h
    · rename_i i h2; simp only [Option.some.injEq, Prod.mk.injEq] at h; obtain ⟨rfl, h⟩ := h; exact ⟨h1, i, h2, h⟩
    · cases h
  · cases h
theorem aelem_spec {P : Program} {t e : TypeId} {k n : Nat} (h : aelem P t = some (k, e, n)) : P.underlying t = some (.array k e) ∧ ∃ i, P.info? e = some i ∧ i.size = n := by
  unfold aelem at h
  split at h
  · rename_i m d h1
    split at h
    · rename_i i h2; simp only [Option.some.injEq, Prod.mk.injEq] at h; obtain ⟨rfl, rfl, h⟩ := h; exact ⟨h1, i, h2, h⟩
    · cases h
  · cases h

/-- What does not turn where other operations of a drawn region, and quiet calls, run. -/
structure Same (w w' : World) : Prop where
  size : w.heap.size ≤ w'.heap.size
  block : ∀ b, b < w.heap.size → w'.heap[b]? = w.heap[b]?
theorem Same.refl (w : World) : Same w w := ⟨Nat.le_refl _, fun _ _ => rfl⟩
theorem Same.trans {a b c : World} (h : Same a b) (k : Same b c) : Same a c :=
  ⟨Nat.le_trans h.size k.size, fun x hx => (k.block x (Nat.lt_of_lt_of_le hx h.size)).trans (h.block x hx)⟩
theorem Same.cell {w w' : World} (h : Same w w') {p : Addr} {v : Value} (hv : w.cell? p = some v) : w'.cell? p = some v := by
  have hb : p.block < w.heap.size := World.block_lt_of_cell? w p hv
  rw [World.cell?_of_block (h.block p.block hb)]; exact hv
theorem Same.range {w w' : World} (h : Same w w') {b o : Nat} {vs : List Value} (hv : w.rangeAt b o vs) : w'.rangeAt b o vs :=
  fun j v hj => h.cell (hv j v hj)

/-! ### Loads -/
def St.look (st : St) (id : Bid) : Option Ent := st.so.find? (fun e => e.id == id)

theorem look_mem {st : St} {id : Bid} {e : Ent} (h : st.look id = some e) : e ∈ st.so ∧ e.id = id :=
  ⟨List.mem_of_find?_eq_some h, by have := List.find?_some h; simpa using this⟩

/-- The row that an entry's cells lie in. -/
theorem RelE.row {w : World} {G : Ctx} {e : Ent} (h : RelE w G e) {b : Nat} (hb : G.blk e.id = some b) :
    ∃ cur T, w.heap[b]? = some (.cells cur T (0, 0)) ∧ e.cs.length ≤ cur.size ∧ RelRow w G e.cs b 0 := by
  unfold RelE at h
  split at h
  · obtain ⟨b', T, cur, h1, h2, h3, h4⟩ := h
    rw [hb] at h1; injection h1 with h1; subst h1
    exact ⟨cur, T, h2, by omega, h4⟩
  · obtain ⟨hl, v, h1, h2 | ⟨b', cap, cur, e1, e2, e3, e4, e5, e6, e7⟩⟩ := h
    · rw [h2.2.2] at hb; cases hb
    · rw [hb] at e2; injection e2 with e2; subst e2
      exact ⟨cur, _, e3, by rw [hl, e6]; exact Nat.mul_le_mul_right _ e4, e7⟩

def toV (ag : Bool) (off n : Nat) (cs : List C) : V := if ag then .agg ((cs.drop off).take n) else .c (cs.getD off .any)

def loadV (P : Program) (t : TypeId) (st : St) : V → Prop × V
  | .c (.ptr id off) => match tsz P t, st.look id with
    | some (ag, n), some e => (off + n ≤ e.cs.length ∧ (ag = true ∨ 0 < n), toV ag off n e.cs)
    | _, _ => (False, .undef)
  | .c (.iptr cs off) => match tsz P t with
    | some (ag, n) => (off + n ≤ cs.length ∧ (ag = true ∨ 0 < n), toV ag off n cs)
    | _ => (False, .undef)
  | _ => (False, .undef)

theorem run_load_cell {P : Program} {w : World} {b o : Nat} {ty : TypeId} {v : Value} {d : TypeDesc} (hu : P.underlying ty = some d) (hd : d.isRow = false) (hc : w.cell? ⟨b, o, none⟩ = some v) :
    (Instr.loadAt ty (.pointer (some ⟨b, o, none⟩))).run P w = .ok v w := by
  have hagg : (isAgg ty).run P w = .ok false w := by
    unfold isAgg
    rw [Sem.run_bind, run_underlying hu w]
    cases d <;> simp_all
  simp [Instr.loadAt, Instr.sureAddr, loadVar, Sem.run_bind, hagg, load, Sem.run, hc]

theorem row_load {P : Program} {w : World} {G : Ctx} {cs : List C} {b o off n : Nat} {ty : TypeId} {ag : Bool} (hr : RelRow w G cs b o) (ht : tsz P ty = some (ag, n)) (hn : off + n ≤ cs.length) (h0 : ag = true ∨ 0 < n) :
    ∃ v, RelV w G (toV ag off n cs) v ∧ ∀ w', Same w w' → (Instr.loadAt ty (.pointer (some ⟨b, o + off, none⟩))).run P w' = .ok v w' := by
  obtain ⟨d, i, hu, hd, hi, hsz⟩ := tsz_spec ht
  obtain ⟨vs, h1, h2⟩ := hr.list
  unfold toV
  cases hag : ag with
  | true =>
    refine ⟨.agg ((vs.drop off).take n).toArray, ?_, fun w' hw' => ?_⟩
    · exact ⟨_, rfl, by simpa using (h1.drop off).take n⟩
    · refine run_loadAt_mid w' b (o + off) ty ((vs.drop off).take n) d ?_ hu (by rw [hd, hag]) ?_
      · intro j v hv
        rw [List.getElem?_take] at hv
        split at hv
        · rw [List.getElem?_drop] at hv
          have := (hw'.range h2) _ v hv
          rw [show o + off + j = o + (off + j) by omega]; exact this
        · cases hv
      · simp [hi, hsz, ← h1.length]; omega
  | false =>
    have hn0 : 0 < n := by rcases h0 with h | h; · rw [hag] at h; cases h
                           · exact h
    have hlt : off < cs.length := by omega
    obtain ⟨v, hv, hr'⟩ := h1.get off cs[off] (by simp [hlt])
    refine ⟨v, ?_, fun w' hw' => ?_⟩
    · simpa [RelV, List.getD_eq_getElem?_getD, hlt] using hr'
    · exact run_load_cell hu (by rw [hd, hag]) (by simpa using (hw'.range h2) off v hv)

theorem loadV_sound {P : Program} {F : Fr} {st : St} {a : Act} {w : World} {G : Ctx} (h : R F st a w G) {t : TypeId} {x : V} {u : Value} (hx : RelV w G x u) (hs : (loadV P t st x).1) :
    ∃ v, RelV w G (loadV P t st x).2 v ∧ ∀ w', Same w w' → (Instr.loadAt t u).run P w' = .ok v w' := by
  unfold loadV at *
  split at hs
  · rename_i id off
    split at hs
    · rename_i ag n e ht he
      simp only [RelV, RelC] at hx
      obtain ⟨b, hb, rfl⟩ := hx
      obtain ⟨hm, hid⟩ := look_mem he
      obtain ⟨cur, T, _, _, hrow⟩ := (h.store e hm).row (by rw [hid]; exact hb)
      have := row_load (P := P) hrow ht hs.1 hs.2
      simpa using this
    · exact hs.elim
  · rename_i cs off
    split at hs
    · rename_i ag n ht
      simp only [RelV, RelC] at hx
      obtain ⟨b, o, rfl, _, _, hrow⟩ := hx
      exact row_load (P := P) hrow ht hs.1 hs.2
    · exact hs.elim
  · exact hs.elim

end Go.PL
