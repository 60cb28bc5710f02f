/- The pure logic, part K: the operations that make or turn memory. -/
import Derived.Test.YtkbcgcmklmelbaaDoorPlJ
namespace Go.PL
open Go Go.RowKit

theorem relL_of_get {w : World} {G : Ctx} : ∀ {cs : List C} {vs : List Value}, cs.length = vs.length → (∀ (i : Nat) (c : C) (v : Value), cs[i]? = some c → vs[i]? = some v → RelC w G c v) → RelL w G cs vs
  | [], [], _, _ => by simp [RelL]
  | [], _ :: _, h, _ => by simp at h
  | _ :: _, [], h, _ => by simp at h
  | c :: cs, v :: vs, h, hr => by
    simp only [RelL]
    exact ⟨hr 0 c v (by simp) (by simp), relL_of_get (by simpa using h) (fun i c' v' h1 h2 => hr (i + 1) c' v' (by simpa using h1) (by simpa using h2))⟩

/-- k zero values, in a row. -/
def zerosL (z : List C) (k : Nat) : List C := (List.range (k * z.length)).map (fun i => z.getD (i % z.length) .any)

theorem rel_zeros {w : World} {G : Ctx} {z : List C} {zv : Array Value} (h : RelL w G z zv.toList) (hz : 0 < z.length) (k : Nat) :
    RelL w G (zerosL z k) ((Array.range (k * zv.size)).map (zv[· % zv.size]!)).toList := by
  have hl : z.length = zv.size := by simpa using h.length
  refine relL_of_get (by simp [zerosL, hl]) (fun i c v h1 h2 => ?_)
  simp only [zerosL, List.getElem?_map] at h1
  simp only [Array.toList_map, List.getElem?_map, Array.toList_range] at h2
  by_cases hi : i < k * z.length
  · rw [List.getElem?_range (by omega)] at h1
    rw [List.getElem?_range (by rw [← hl]; omega)] at h2
    simp only [Option.map_some, Option.some.injEq] at h1 h2
    have hm : i % z.length < z.length := Nat.mod_lt _ hz
    obtain ⟨v', q1, q2⟩ := h.get (i % z.length) z[i % z.length] (by simp [hm])
    have e1 : c = z[i % z.length] := by rw [← h1]; simp [List.getD_eq_getElem?_getD, hm]
    have e2 : v = v' := by
      rw [← h2, ← hl]
      have : zv[i % z.length]? = some v' := by simpa using q1
      simp [Array.getElem!_eq_getD, Array.getD_eq_getD_getElem?, this]
    rw [e1, e2]; exact q2
  · rw [List.getElem?_eq_none (by simp; omega)] at h1
    cases h1

structure Eff (P : Program) (F : Fr) (o : Oper) (a : Act) (w : World) (st' : St) : Prop where
  out : ∃ nx w' G', (execOp a.eval o).run P w = .ok nx w' ∧ ((∃ v, nx = .value v ∧ R F st' (a.put o.dst v) w' G') ∨ (nx = .skip ∧ R F st' (a.put o.dst Go.undef) w' G'))

/-- The parts of a composite. -/
def St.parts (st : St) (g : Bool) (ps : List (Nat × Operand)) : Prop × List (Nat × V) :=
  match ps with
  | [] => (True, [])
  | (i, x) :: r => ((st.arg g x).1 ∧ (St.parts st g r).1, (i, (st.arg g x).2) :: (St.parts st g r).2)

theorem R.parts {F : Fr} {st : St} {a : Act} {w : World} {G : Ctx} (h : R F st a w G) {g : Bool} (hg : g = true) : ∀ {ps : List (Nat × Operand)}, (st.parts g ps).1 → RelP w G (st.parts g ps).2 (ps.map fun (i, x) => (i, a.eval x))
  | [], _ => by simp [St.parts, RelP]
  | (i, x) :: r, hs => by
    simp only [St.parts] at hs ⊢
    simp only [List.map_cons, RelP]
    exact ⟨trivial, h.arg hg hs.1, h.parts hg hs.2⟩

def plc (P : Program) (t : TypeId) (i : Nat) : Option (Nat × Nat) :=
  match P.underlying t with
  | some (.array _ e) => match P.info? e with
    | some inf => some (i * inf.size, inf.size)
    | none => none
  | some (.struct fs) => match fs.toList.mapM (fun f => (P.info? f.type).map fun i => (f.offset, i.size)) with
    | some ps => ps[i]?
    | none => none
  | _ => none

def okPlc (P : Program) (t : TypeId) : Bool :=
  match P.underlying t with
  | some (.array _ e) => (P.info? e).isSome
  | some (.struct fs) => (fs.toList.mapM (fun f => (P.info? f.type).map fun i => (f.offset, i.size))).isSome
  | _ => false

def buildV (P : Program) (st : St) (g : Bool) (t : TypeId) (ps : List (Nat × Operand)) : Prop × V :=
  match zeroL P t with
  | some z => match fillC (plc P t) z (st.parts g ps).2 with
    | some cs => ((st.parts g ps).1 ∧ okPlc P t = true, .agg cs)
    | none => no
  | none => no

/-- A slice's data, to append. -/
def srcOf (st : St) (n : Nat) : V → Option (Nat × List C)
  | .c (.sl m cs) => if cs.length = m * n then some (m, cs) else none
  | .c (.osl id) => match st.look id with
    | some e => match e.row with
      | some (_, n', m) => if n' = n then some (m, e.cs) else none
      | none => none
    | none => none
  | _ => none

def selemB (P : Program) (t : TypeId) : Option (TypeId × Nat × Nat) :=
  match P.underlying t with
  | some (.slice e) => match P.info? e with
    | some i => match i.zero with
      | some z => if z.cells.size = i.size then some (e, i.size, i.bytes) else none
      | none => none
    | none => none
  | _ => none

def storeE (P : Program) (st : St) (T : TypeId) (x y : V) : Prop × St :=
  match x, y.cells, tsz P T with
  | .c (.ptr id off), some cs, some (_, n) => match st.look id with
    | some e => (cs.length = n ∧ off + n ≤ e.cs.length, st.setCs id (e.cs.take off ++ cs ++ e.cs.drop (off + cs.length)))
    | none => (False, st)
  | _, _, _ => (False, st)

def appendE (P : Program) (st : St) (d : Nat) (t : TypeId) (s x : V) : Prop × St :=
  match s, selemB P t with
  | .c (.osl id), some (E, n, by') => match st.look id, srcOf st n x with
    | some e, some (m, cs) => match e.row with
      | some (E', n', len) => (E' = E ∧ n' = n ∧ 0 < n ∧ (len + m) * by' ≤ 140737488355328 ∧ len + m ≤ maxLen, (st.new ⟨id, some (E, n, len + m), e.cs ++ cs⟩).put (some d) (.c (.osl id)))
      | none => (False, st)
    | _, _ => (False, st)
  | _, _ => (False, st)

def makeE (P : Program) (st : St) (d : Nat) (t : TypeId) (l c : V) : Prop × St :=
  match l, c, selemB P t with
  | .c (.int _ l), .c (.int _ c), some (E, n, by') => match zeroL P E with
    | some z => (0 ≤ l ∧ l ≤ c ∧ c * by' ≤ 140737488355328 ∧ c ≤ maxLen ∧ z.length = n ∧ 0 < n, (st.new ⟨[d], some (E, n, l.toNat), zerosL z l.toNat⟩).put (some d) (.c (.osl [d])))
    | none => (False, st)
  | _, _, _ => (False, st)

def buildSliceE (P : Program) (st : St) (d : Nat) (t : TypeId) (len : Nat) (ps : List (Nat × Operand)) : Prop × St :=
  match selemB P t with
  | some (E, n, _) => match zeroL P E with
    | some z => match fillC (fun i => some (i * n, n)) (zerosL z len) (st.parts true ps).2 with
      | some cs => ((st.parts true ps).1 ∧ z.length = n ∧ 0 < n ∧ len * n ≤ 2 ^ 24, (st.new ⟨[d], some (E, n, len), cs⟩).put (some d) (.c (.osl [d])))
      | none => (False, st)
    | none => (False, st)
  | none => (False, st)

def ef (P : Program) (st : St) (o : Oper) : Prop × St :=
  match o.op with
  | .store T x y => let r := storeE P st T (st.arg true x).2 (st.arg true y).2
    ((st.arg true x).1 ∧ (st.arg true y).1 ∧ r.1, r.2.put o.dst .undef)
  | op => match o.dst with
    | none => (False, st)
    | some d => match op with
      | .alloc T => match zeroL P T with
        | some cs => (True, (st.new ⟨[d], none, cs⟩).put (some d) (.c (.ptr [d] 0)))
        | none => (False, st)
      | .box T x => match (st.arg true x).2.cells with
        | some cs => ((st.arg true x).1 ∧ T = T, (st.new ⟨[d], none, cs⟩).put (some d) (.c (.ptr [d] 0)))
        | none => (False, st)
      | .assign (.const (.slice none 0 0)) => match selem P o.type with
        | some (E, n) => (True, (st.new ⟨[d], some (E, n, 0), []⟩).put (some d) (.c (.osl [d])))
        | none => (False, st)
      | .buildSlice t len ps => buildSliceE P st d t len ps.toList
      | .makeSlice t l c => let r := makeE P st d t (st.arg true l).2 (st.arg true c).2
        ((st.arg true l).1 ∧ (st.arg true c).1 ∧ r.1, r.2)
      | .call c => match c.callee, c.args.toList, c.argTypes.toList with
        | .builtin .append, [s, x], [t, t'] => let r := appendE P st d t (st.arg true s).2 (st.arg true x).2
          ((st.arg true s).1 ∧ (st.arg true x).1 ∧ t = t' ∧ r.1, r.2)
        | _, _, _ => (False, st)
      | _ => (False, st)

theorem buildV_sound {P : Program} {F : Fr} {st : St} {a : Act} {w : World} {G : Ctx} (h : R F st a w G) {g : Bool} (hg : g = true) {t : TypeId} {ps : Array (Nat × Operand)} (hs : (buildV P st g t ps.toList).1) :
    ∃ v, RelV w G (buildV P st g t ps.toList).2 v ∧ ∀ w', (Instr.build t (ps.map fun (i, x) => (i, a.eval x))).run P w' = .ok v w' := by
  unfold buildV at *
  split at hs
  · rename_i z hz
    split at hs
    · rename_i cs hf
      obtain ⟨i, zv, hi, hzv, hc⟩ := zeroL_spec hz
      obtain ⟨arr', q1, q2⟩ := fill_sound hf (h.parts hg hs.1) (relL_const (w := w) (G := G) hc)
      refine ⟨.agg arr', ⟨arr', rfl, q2⟩, fun w' => run_build w' t _ arr' ?_⟩
      have hok := hs.2
      unfold okPlc at hok
      unfold Program.built
      rw [hi]
      split at hok
      · rename_i n e hu
        cases hie : P.info? e with
        | none => rw [hie] at hok; cases hok
        | some ie =>
          simp only [hu, hzv, hie]
          have e1 : plc P t = fun i => some (i * ie.size, ie.size) := by
            funext i; unfold plc; rw [hu]; simp [hie]
          rw [e1] at q1
          simpa using q1
      · rename_i fs hu
        cases hm : fs.toList.mapM (fun f => (P.info? f.type).map fun i => (f.offset, i.size)) with
        | none => rw [hm] at hok; cases hok
        | some pl =>
          simp only [hu, hzv, hm]
          have e1 : plc P t = fun i => pl[i]? := by
            funext i; unfold plc; rw [hu]; simp [hm]
          rw [e1] at q1
          simpa using q1
      · cases hok
    · exact hs.elim
  · exact hs.elim

theorem selemB_spec {P : Program} {t e : TypeId} {n by' : Nat} (h : selemB P t = some (e, n, by')) :
    ∃ i z, P.underlying t = some (.slice e) ∧ P.info? e = some i ∧ i.zero = some z ∧ i.size = n ∧ i.bytes = by' ∧ z.cells.size = n := by
  unfold selemB at h
  split at h
  · rename_i e' hu
    split at h
    · rename_i i hi
      split at h
      · rename_i z hz
        split at h
        · rename_i hsz
          simp only [Option.some.injEq, Prod.mk.injEq] at h
          obtain ⟨rfl, rfl, rfl⟩ := h
          exact ⟨i, z, hu, hi, hz, rfl, rfl, hsz⟩
        · cases h
      · cases h
    · cases h
  · cases h

theorem storeE_sound {P : Program} {F : Fr} {st : St} {a : Act} {w : World} {G : Ctx} (h : R F st a w G) {T : TypeId} {x y : V} {u v : Value} (hx : RelV w G x u) (hy : RelV w G y v) (hs : (storeE P st T x y).1) :
    ∃ w', (Instr.storeAt T u v).run P w = .ok () w' ∧ R F (storeE P st T x y).2 a w' G := by
  unfold storeE at *
  split at hs
  · rename_i id off cs ag n hc ht
    split at hs
    · rename_i e he
      obtain ⟨h1, h2⟩ := hs
      obtain ⟨d, i, hu, hd, hi, hsz⟩ := tsz_spec ht
      simp only [RelV, RelC] at hx
      obtain ⟨b, hb, rfl⟩ := hx
      have hv := relV_cells hy hc
      have hlv := hv.length
      obtain ⟨cur, T', hheap, hfit, hR⟩ := h.stored he hb (off := off) (xs := cs) hv (by omega)
      refine ⟨_, ?_, hR⟩
      have hst := run_storeCells_at P b off T' v.cells.toList 0 cur w hheap (by simpa using hfit) (RelL.one hv)
      simp only [Nat.add_zero] at hst
      have hne : ¬ v.cells.size ≠ i.size := by simp at hlv ⊢; omega
      simp [Instr.storeAt, Instr.sureAddr, storeVar, sizeOf, typeInfo, program, Sem.run, hi, Sem.run_bind, hst]
      simp at hlv
      omega
    · exact hs.elim
  · exact hs.elim

theorem srcOf_sound {F : Fr} {st : St} {a : Act} {w : World} {G : Ctx} (h : R F st a w G) {n m : Nat} {x : V} {cs : List C} {u : Value} (hs : srcOf st n x = some (m, cs)) (hx : RelV w G x u) :
    ∃ ad cap vs, u = .slice ad m cap ∧ RelL w G cs vs ∧ vs.length = m * n ∧ (ad = none → m = 0) ∧ ∀ b, ad = some b → ∀ j v, vs[j]? = some v → w.cell? (b.add j) = some v := by
  unfold srcOf at hs
  split at hs
  · split at hs
    · rename_i hl
      simp only [Option.some.injEq, Prod.mk.injEq] at hs
      obtain ⟨rfl, rfl⟩ := hs
      simp only [RelV, RelC] at hx
      obtain ⟨ad, cap, rfl, _, _, h0, h1 | ⟨b, o, rfl, _, _, hr⟩⟩ := hx
      · have := h0 h1; subst this
        exact ⟨ad, cap, [], rfl, by simp [RelL], by rw [h1]; simp, fun _ => h1, fun b _ j v hv => by simp at hv⟩
      · obtain ⟨vs, q1, q2⟩ := hr.list
        have := q1.length
        exact ⟨_, cap, vs, rfl, q1, by omega, (by simp), fun b' hb' j v hv => by injection hb' with hb'; subst hb'; rw [Addr.add_mid]; exact q2 j v hv⟩
    · cases hs
  · split at hs
    · rename_i e hlk
      split at hs
      · rename_i E n' m' hrow
        split at hs
        · rename_i hn
          simp only [Option.some.injEq, Prod.mk.injEq] at hs
          obtain ⟨rfl, rfl⟩ := hs
          obtain ⟨hm, hid⟩ := look_mem hlk
          have hE := h.store e hm
          obtain ⟨v, vs, k1, k2, k3, k4, k5⟩ := own_of_relE hrow hE
          simp only [RelV, RelC] at hx
          rw [hid] at k1
          rw [k1] at hx
          obtain ⟨hx, _⟩ := hx
          injection hx with hx; subst hx
          rcases k4.2 with ⟨q, q0⟩ | ⟨g, cap, cur, q, _⟩
          · have : vs = [] := by
              have := k4.1; rw [q0] at this; simpa using this
            subst this
            exact ⟨none, 0, [], by rw [q, q0], k3, by rw [q0]; simp, fun _ => q0, fun b hb => by cases hb⟩
          · refine ⟨_, cap, vs, q, k3, by rw [k4.1, hn], (by simp), fun b hb j v hv => ?_⟩
            injection hb with hb; subst hb
            exact k4.cells (by rw [q]; rfl) j v hv
        · cases hs
      · cases hs
    · cases hs
  · cases hs

theorem appendE_sound {P : Program} {F : Fr} {st : St} {a : Act} {w : World} {G : Ctx} (h : R F st a w G) {d : Nat} {t ty : TypeId} {s x : V} {u v : Value} (hx : RelV w G s u) (hy : RelV w G x v) (hs : (appendE P st d t s x).1) :
    ∃ r w' G', (Builtin.append_ #[t, t] ty #[u, v]).run P w = .ok r w' ∧ R F (appendE P st d t s x).2 (a.put (some d) r) w' G' := by
  unfold appendE at *
  split at hs
  · rename_i id E n by' hsel
    split at hs
    · rename_i e m cs hlk hsrc
      split at hs
      · rename_i E' n' len hrow
        obtain ⟨rfl, rfl, hn0, hbytes, hmax⟩ := hs
        obtain ⟨i, z, hu, hi, hz, hsz, hby, hzs⟩ := selemB_spec hsel
        obtain ⟨hm, hid⟩ := look_mem hlk
        obtain ⟨u', xs, k1, k2, k3, k4, k5⟩ := own_of_relE hrow (h.store e hm)
        simp only [RelV, RelC] at hx
        rw [hid] at k1
        rw [k1] at hx
        obtain ⟨hx, _⟩ := hx
        injection hx with hx; subst hx
        obtain ⟨ad, cap, us, rfl, q1, q2, q3, q4⟩ := srcOf_sound h hsrc hy
        rw [hid] at k5
        have main : ∀ r w', (Builtin.append_ #[t, t] ty #[u', .slice ad m cap]).run P w = .ok r w' → w'.ownsRow 0 E' n' r (len + m) (xs ++ us) → w.grownBy w' u'.ownBlock → (r.ownBlock = u'.ownBlock ∨ ∀ b, r.ownBlock = some b → w.heap.size ≤ b) →
            ∃ r w' G', (Builtin.append_ #[t, t] ty #[u', .slice ad m cap]).run P w = .ok r w' ∧ R F ((st.new ⟨id, some (E', n', len + m), e.cs ++ cs⟩).put (some d) (.c (.osl id))) (a.put (some d) r) w' G' := by
          intro r w' hrun hown hg hfr
          obtain ⟨G', g1, g2, g3⟩ := h.appended hlk k1 k5 k3 q1 hown hg hfr
          exact ⟨r, w', G', hrun, g1.put (by simp only [RelV, RelC]; exact ⟨g2, g3⟩)⟩
        cases ad with
        | some b =>
          obtain ⟨r, w', hrun, hown, hg, hfr⟩ := run_append_own2 (P := P) (w := w) t ty E' i z n' by' hu hi hz hsz hby hzs hn0 u' len xs k4 b m cap us q2 (q4 b rfl) (RelL.one q1) hmax hbytes
          exact main r w' hrun hown hg hfr
        | none =>
          have hm0 := q3 rfl
          subst hm0
          have hus : us = [] := by simpa using q2
          subst hus
          refine main u' w ?_ (by simpa using k4) ⟨rfl, rfl, rfl, Nat.le_refl _, fun _ _ _ => rfl⟩ (.inl rfl)
          have hcap : ∃ bs c, u' = .slice bs len c ∧ len ≤ c ∧ (∀ b, bs = some b → b.spot = none) := by
            rcases k4.2 with ⟨q, q0⟩ | ⟨g, c, cur, q, _, _, q5, _⟩
            · exact ⟨none, 0, by rw [q, q0], by omega, by simp⟩
            · exact ⟨_, c, q, q5, by intro b hb; injection hb with hb; subst hb; rfl⟩
          obtain ⟨bs, c, rfl, hc, _⟩ := hcap
          cases bs <;> simp [Builtin.append_, run_underlying hu, sizeOf, typeInfo, program, Sem.run, hi, Builtin.lenOf, Builtin.firstCells, hc, storeCells]
      · exact hs.elim
    · exact hs.elim
  · exact hs.elim

theorem rel_osl {F : Fr} {w : World} {G : Ctx} {id : Bid} {b : Option Nat} {v : Value} (h : v.oneCell' = true) : RelV w (upd F G id b (some v)) (.c (.osl id)) v := by
  simp [RelV, RelC, upd, h]

theorem run_buildSlice' {P : Program} {w : World} {t E : TypeId} {i : TypeInfo} {zv : Value} {n len : Nat} {ps : Array (Nat × Value)} {arr' : Array Value} (hu : P.underlying t = some (.slice E)) (hi : P.info? E = some i) (hz : i.zero = some zv)
    (hsz : i.size = n) (h3 : 0 < n) (h4 : len * n ≤ 2 ^ 24) (hf : Instr.fill (fun i => some (i * n, n)) ((Array.range (len * n)).map (zv.cells[· % zv.cells.size]!)) ps.toList = some arr') :
    (Instr.buildSlice t len ps).run P w = .ok (.slice (some ⟨w.heap.size, 0, none⟩) len len) (w.alloc (.cells arr' E)) := by
  have hbig : ¬ 2 ^ 24 < len * n := by omega
  by_cases h0 : len = 0
  · subst h0
    rw [Nat.zero_mul, Array.range_zero'] at hf
    simp only [Array.map_empty] at hf
    simp [Instr.buildSlice, run_underlying hu, sizeOf, typeInfo, hi, hsz, hf, newRow, Array.range_zero']
  · have h1 : ¬ len * n = 0 := by
      rw [Nat.mul_eq_zero]; omega
    have h2 : n ≠ 0 := by omega
    simp [Instr.buildSlice, run_underlying hu, sizeOf, typeInfo, hi, hsz, hbig, zeroValue, hz, hf, newRow]
    exact fun h => absurd h h1

theorem makeE_sound {P : Program} {F : Fr} {st : St} {a : Act} {w : World} {G : Ctx} (h : R F st a w G) {d : Nat} {t : TypeId} {l c : V} {u v : Value} (hx : RelV w G l u) (hy : RelV w G c v) (hs : (makeE P st d t l c).1) :
    ∃ r w' G', (Instr.makeSlice t u v).run P w = .ok r w' ∧ R F (makeE P st d t l c).2 (a.put (some d) r) w' G' := by
  unfold makeE at *
  split at hs
  · rename_i k1 l k2 c E n by' hsel
    split at hs
    · rename_i z hz
      obtain ⟨h0, h1, h2, h3, h4, h5⟩ := hs
      obtain ⟨i, zv, hu, hi, hzv, hsz, hby, hzs⟩ := selemB_spec hsel
      obtain ⟨i', zv', hi', hzv', hc⟩ := zeroL_spec hz
      rw [hi] at hi'; injection hi' with hi'; subst hi'
      rw [hzv] at hzv'; injection hzv' with hzv'; subst hzv'
      simp only [RelV, RelC] at hx hy
      subst hx hy
      have hM : maxLen = 9223372036854775807 := rfl
      have hrun := run_make (P := P) w t E i zv hu hi hzv k1 k2 l c h0 h1 (by rw [hby, Int.mul_comm]; omega) (by omega)
      have hzr := rel_zeros (relL_const (w := w) (G := G) hc) (by omega) l.toNat
      rw [hzs] at hzr
      have hle : l.toNat * n ≤ c.toNat * n := Nat.mul_le_mul_right _ (by omega)
      have hrow := h.row [d] E n l.toNat c.toNat (zerosL z l.toNat) (madeCells zv.cells (c.toNat * i.size)) _ hzr (by
          simp only [madeCells, Array.toList_map, Array.toList_range, List.length_map, List.length_range, ← List.map_take, hzs]
          rw [List.take_range, hsz, Nat.min_eq_left hle]) (by simp [zerosL, h4]) (by rw [size_madeCells, hsz]) (by omega) (by omega)
      exact ⟨_, _, _, hrun, R.put (d := some d) hrow (rel_osl rfl)⟩
    · exact hs.elim
  · exact hs.elim

theorem buildSliceE_sound {P : Program} {F : Fr} {st : St} {a : Act} {w : World} {G : Ctx} (h : R F st a w G) {d : Nat} {t : TypeId} {len : Nat} {ps : Array (Nat × Operand)} (hs : (buildSliceE P st d t len ps.toList).1) :
    ∃ r w' G', (Instr.buildSlice t len (ps.map fun (i, x) => (i, a.eval x))).run P w = .ok r w' ∧ R F (buildSliceE P st d t len ps.toList).2 (a.put (some d) r) w' G' := by
  unfold buildSliceE at *
  split at hs
  · rename_i E n by' hsel
    split at hs
    · rename_i z hz
      split at hs
      · rename_i cs hf
        obtain ⟨h1, h2, h3, h4⟩ := hs
        obtain ⟨i, zv, hu, hi, hzv, hsz, hby, hzs⟩ := selemB_spec hsel
        obtain ⟨i', zv', hi', hzv', hc⟩ := zeroL_spec hz
        rw [hi] at hi'; injection hi' with hi'; subst hi'
        rw [hzv] at hzv'; injection hzv' with hzv'; subst hzv'
        have hzr := rel_zeros (relL_const (w := w) (G := G) hc) (by omega) len
        obtain ⟨arr', q1, q2⟩ := fill_sound hf (h.parts rfl h1) hzr
        have q1' : Instr.fill (fun i => some (i * n, n)) ((Array.range (len * n)).map (zv.cells[· % zv.cells.size]!)) (ps.map fun (i, x) => (i, a.eval x)).toList = some arr' := by
          rw [hzs] at q1 ⊢; simpa using q1
        have hsize : arr'.size = len * n := by
          have e1 := q2.length
          have e2 : cs.length = (zerosL z len).length := by
            clear hzr q1 q1' q2 e1
            have hz' : ∀ (l : List (Nat × V)) (b out : List C), fillC (fun i => some (i * n, n)) b l = some out → out.length = b.length := by
              intro l
              induction l with
              | nil => intro b out ho; simp only [fillC, Option.some.injEq] at ho; rw [← ho]
              | cons p l ih =>
                intro b out ho
                obtain ⟨i, v⟩ := p
                simp only [fillC] at ho
                split at ho
                · rename_i o s c hp hcs
                  split at ho
                  · rename_i hb
                    have := ih _ _ ho
                    simp only [List.length_append, List.length_take, List.length_drop] at this
                    omega
                  · cases ho
                · cases ho
            exact hz' _ _ _ hf
          simp [zerosL, h2] at e2
          simp at e1
          omega
        have hcl : cs.length = len * n := by have := q2.length; simp at this; omega
        have hM : maxLen = 9223372036854775807 := rfl
        have hlen : len ≤ maxLen := by
          have : len * 1 ≤ len * n := Nat.mul_le_mul_left _ h3
          omega
        have hrow := h.row [d] E n len len cs arr' arr'.toList q2 (by rw [List.take_length]) hcl hsize (Nat.le_refl _) hlen
        exact ⟨_, _, _, run_buildSlice' hu hi hzv hsz h3 h4 q1', R.put (d := some d) hrow (rel_osl rfl)⟩
      · exact hs.elim
    · exact hs.elim
  · exact hs.elim

theorem ef_sound {P : Program} {F : Fr} {st : St} {a : Act} {w : World} {G : Ctx} (h : R F st a w G) {o : Oper} (hs : (ef P st o).1) : Eff P F o a w (ef P st o).2 := by
  obtain ⟨dst, op, ty, pos, aft, gd⟩ := o
  cases op <;> cases dst <;> simp only [ef] at hs ⊢ <;> try (exact hs.elim)
  case store.none T x y =>
    obtain ⟨w', h1, h2⟩ := storeE_sound h (h.arg rfl hs.1) (h.arg rfl hs.2.1) hs.2.2
    exact ⟨.skip, w', G, by simp [execOp, h1], .inr ⟨rfl, h2⟩⟩
  case store.some T x y d =>
    obtain ⟨w', h1, h2⟩ := storeE_sound h (h.arg rfl hs.1) (h.arg rfl hs.2.1) hs.2.2
    exact ⟨.skip, w', G, by simp [execOp, h1], .inr ⟨rfl, R.put (d := some d) h2 (by simp [RelV])⟩⟩
  case alloc.some T d =>
    split at hs
    · rename_i cs hz
      obtain ⟨i, z, hi, hzv, hc⟩ := zeroL_spec hz
      have hb := h.box [d] T cs z.cells (relL_const hc)
      refine ⟨.value (.pointer (some ⟨w.heap.size, 0, none⟩)), _, _, ?_, .inl ⟨_, rfl, R.put (d := some d) hb (by simp [RelV, RelC, upd])⟩⟩
      simp [execOp, Instr.alloc, run_zeroValue' hi hzv, newVar, newRow]
    · exact hs.elim
  case box.some T x d =>
    split at hs
    · rename_i cs hc
      have hv := relV_cells (h.arg rfl hs.1) hc
      have hb := h.box [d] T cs (a.eval x).cells hv
      refine ⟨.value (.pointer (some ⟨w.heap.size, 0, none⟩)), _, _, ?_, .inl ⟨_, rfl, R.put (d := some d) hb (by simp [RelV, RelC, upd])⟩⟩
      simp [execOp, Instr.box, newVar, newRow]
    · exact hs.elim
  case assign.some x d =>
    split at hs
    all_goals first
      | (rename_i q; cases q; done)
      | (rename_i q
         cases q
         split at hs
         · rename_i E n hE
           have hb := h.nilRow [d] E n
           exact ⟨.value (.slice none 0 0), w, _, by simp [execOp, Act.eval], .inl ⟨_, rfl, R.put (d := some d) hb (rel_osl rfl)⟩⟩
         · exact hs.elim)
      | exact hs.elim
  case buildSlice.some t len ps d =>
    obtain ⟨r, w', G', q1, q2⟩ := buildSliceE_sound (d := d) h hs
    exact ⟨.value r, w', G', by simp [execOp, q1], .inl ⟨r, rfl, q2⟩⟩
  case makeSlice.some t l c d =>
    obtain ⟨r, w', G', q1, q2⟩ := makeE_sound (d := d) h (h.arg rfl hs.1) (h.arg rfl hs.2.1) hs.2.2
    exact ⟨.value r, w', G', by simp [execOp, q1], .inl ⟨r, rfl, q2⟩⟩
  case call.some c d =>
    split at hs
    · rename_i s x t t' h1 h2 h3
      obtain ⟨q1, q2, q3, q4⟩ := hs
      subst q3
      have ea : c.args = #[s, x] := by apply Array.ext'; simpa using h2
      have et : c.argTypes = #[t, t] := by apply Array.ext'; simpa using h3
      obtain ⟨r, w', G', k1, k2⟩ := appendE_sound (d := d) (ty := ty) h (h.arg rfl q1) (h.arg rfl q2) q4
      exact ⟨.value r, w', G', by simp [execOp, resolve, h1, ea, et, invoke, builtin, k1], .inl ⟨r, rfl, k2⟩⟩
    · exact hs.elim

end Go.PL
