/- Functions of the program, as partial functions in Lean, with proofs. -/
import Derived.Test.YtieikooalmfmfaaDoorPlMaB
import Derived.Test.YtieikooalmfmfaaDoorPlMaF0
import Derived.Test.YtieikooalmfmfaaDoorPlMaF1
import Derived.Test.YtieikooalmfmfaaDoorPlMaF2
namespace Go.PL
open Go Go.RowKit Go.Proofs
set_option maxRecDepth 100000
set_option linter.all false
set_option maxHeartbeats 1000000
attribute [local irreducible] Holds thenQ blockQ
def mana_Parse_J9 (a0 : List UInt8) (b4_8 : SCost) : Option (SCost × Int) :=
 (gd ((a0 == ([] : List UInt8)) == false) (mana_Text b4_8)).bind fun r10 =>
 (some (if (a0 == ([] : List UInt8)) = true then true else r10 != a0)).bind fun b11 =>
 (if b11 = true then
  some ((⟨(0 : Int), (0 : Int), (⟨(0 : Int), (0 : Int), (0 : Int), (0 : Int), (0 : Int)⟩ : A5 (Int))⟩ : SCost), (3 : Int))
 else
  some (b4_8, (0 : Int)))
def mana_Parse_B20 (s13 : List UInt8) (vt35_17 : Int) (b4_18 : SCost) : Option ((Int × SCost) ⊕ (Unit ⊕ SCost)) :=
 (if (decide (vt35_17 < ((bytesI s13).length : Int))) = true then
  (idx (bytesI s13) vt35_17).bind fun e22 =>
  (dIndexByte str_ACJRE e22).bind fun r23 =>
  (if (decide (r23 < (0 : Int))) = true then
   some (.inr (.inl ()))
  else
   (idx b4_18.Color.l r23).bind fun e25 =>
   (idx b4_18.Color.l r23).bind fun e26 =>
   some (.inl ((wrap64 (vt35_17 + (1 : Int))), ({ b4_18 with Color := b4_18.Color.set (r23).toNat (wrap64 (e25 + (1 : Int))) }))))
 else
  some (.inr (.inr b4_18)))
def mana_Parse_J3 (a0 : List UInt8) (rest_t5_1 : List UInt8) (b4_2 : SCost) : Option (SCost × Int) :=
 (cat rest_t5_1 str_A).bind fun s4 =>
 (dIndexAny s4 str_ACJRE).bind fun r5 =>
 (ssub rest_t5_1 0 r5).bind fun s6 =>
 (num_Number s6).bind fun r7 =>
 (ssub rest_t5_1 r5 (rest_t5_1.length : Int)).bind fun s13 =>
 (need (s13.length ≤ 140737488355328)).bind fun u14 =>
 (iter (fun (v : Int × SCost) => mana_Parse_B20 s13 v.1 v.2) FU ((0 : Int), ({ b4_2 with Generic := r7.1 }))).bind (Sum.elim (fun o0 => some ((⟨(0 : Int), (0 : Int), (⟨(0 : Int), (0 : Int), (0 : Int), (0 : Int), (0 : Int)⟩ : A5 (Int))⟩ : SCost), (3 : Int))) (fun o1 => mana_Parse_J9 a0 o1))
def mana_Parse_B33  (rest_t5_29 : List UInt8) (b4_30 : SCost) : Option (((List UInt8) × SCost) ⊕ (((List UInt8) × SCost))) :=
 (dHasPrefix rest_t5_29 str_X).bind fun r34 =>
 (if r34 = true then
  (ssub rest_t5_29 (1 : Int) (rest_t5_29.length : Int)).bind fun s36 =>
  some (.inl (s36, ({ b4_30 with X := wrap64 (b4_30.X + (1 : Int)) })))
 else
  some (.inr (rest_t5_29, b4_30)))
/-- cardgame/mana.Parse -/
def mana_Parse (a0 : List UInt8) : Option (SCost × Int) :=
 (iter (fun (v : (List UInt8) × SCost) => mana_Parse_B33 v.1 v.2) FU (a0, (⟨(0 : Int), (0 : Int), (⟨(0 : Int), (0 : Int), (0 : Int), (0 : Int), (0 : Int)⟩ : A5 (Int))⟩ : SCost))).bind (fun o0 => mana_Parse_J3 a0 o0.1 o0.2)
def mana_Parse_C (a0 : List UInt8) (r : SCost × Int) : Prop := PCall Tryd.prog I0 34 [vS a0] (· = .tup [vA encSCost r.1, vI r.2])
theorem mana_Parse_ok {a0 : List UInt8} {r : SCost × Int} (h : mana_Parse a0 = some r) : mana_Parse_C a0 r := by
 refine PCall.body I0_stable (by kernel_rfl) Tryd.func34 rfl Tryd.ntmps34 (rs := [.cell 2 34, .tmp 3]) rfl rfl ?_
 intro w0 av old gv
 unfold mana_Parse at h
 refine Rg [.a, .a] (sl 62 [(0, vS a0), (2, vP [2] (0))] [bx [2] [.int .i64 (0 : Int), .int .i64 (0 : Int), .int .i64 (((⟨(0 : Int), (0 : Int), (0 : Int), (0 : Int), (0 : Int)⟩ : A5 (Int))).x0), .int .i64 (((⟨(0 : Int), (0 : Int), (0 : Int), (0 : Int), (0 : Int)⟩ : A5 (Int))).x1), .int .i64 (((⟨(0 : Int), (0 : Int), (0 : Int), (0 : Int), (0 : Int)⟩ : A5 (Int))).x2), .int .i64 (((⟨(0 : Int), (0 : Int), (0 : Int), (0 : Int), (0 : Int)⟩ : A5 (Int))).x3), .int .i64 (((⟨(0 : Int), (0 : Int), (0 : Int), (0 : Int), (0 : Int)⟩ : A5 (Int))).x4)]]) (aN) ?_
 refine Rg [.a] (sl 62 [(0, vS a0), (2, vP [2] (0)), (4, vP [4] (0))] [bx [4] [.int .i64 (0 : Int), .int .i64 (0 : Int), .int .i64 (((⟨(0 : Int), (0 : Int), (0 : Int), (0 : Int), (0 : Int)⟩ : A5 (Int))).x0), .int .i64 (((⟨(0 : Int), (0 : Int), (0 : Int), (0 : Int), (0 : Int)⟩ : A5 (Int))).x1), .int .i64 (((⟨(0 : Int), (0 : Int), (0 : Int), (0 : Int), (0 : Int)⟩ : A5 (Int))).x2), .int .i64 (((⟨(0 : Int), (0 : Int), (0 : Int), (0 : Int), (0 : Int)⟩ : A5 (Int))).x3), .int .i64 (((⟨(0 : Int), (0 : Int), (0 : Int), (0 : Int), (0 : Int)⟩ : A5 (Int))).x4)], bx [2] [.int .i64 (0 : Int), .int .i64 (0 : Int), .int .i64 (((⟨(0 : Int), (0 : Int), (0 : Int), (0 : Int), (0 : Int)⟩ : A5 (Int))).x0), .int .i64 (((⟨(0 : Int), (0 : Int), (0 : Int), (0 : Int), (0 : Int)⟩ : A5 (Int))).x1), .int .i64 (((⟨(0 : Int), (0 : Int), (0 : Int), (0 : Int), (0 : Int)⟩ : A5 (Int))).x2), .int .i64 (((⟨(0 : Int), (0 : Int), (0 : Int), (0 : Int), (0 : Int)⟩ : A5 (Int))).x3), .int .i64 (((⟨(0 : Int), (0 : Int), (0 : Int), (0 : Int), (0 : Int)⟩ : A5 (Int))).x4)]]) (aN) ?_
 refine Rg [.a, .a] (sl 62 [(0, vS a0), (2, vP [2] (0)), (4, vP [4] (0)), (5, vS a0)] [bx [4] [.int .i64 (0 : Int), .int .i64 (0 : Int), .int .i64 (((⟨(0 : Int), (0 : Int), (0 : Int), (0 : Int), (0 : Int)⟩ : A5 (Int))).x0), .int .i64 (((⟨(0 : Int), (0 : Int), (0 : Int), (0 : Int), (0 : Int)⟩ : A5 (Int))).x1), .int .i64 (((⟨(0 : Int), (0 : Int), (0 : Int), (0 : Int), (0 : Int)⟩ : A5 (Int))).x2), .int .i64 (((⟨(0 : Int), (0 : Int), (0 : Int), (0 : Int), (0 : Int)⟩ : A5 (Int))).x3), .int .i64 (((⟨(0 : Int), (0 : Int), (0 : Int), (0 : Int), (0 : Int)⟩ : A5 (Int))).x4)], bx [2] [.int .i64 (0 : Int), .int .i64 (0 : Int), .int .i64 (((⟨(0 : Int), (0 : Int), (0 : Int), (0 : Int), (0 : Int)⟩ : A5 (Int))).x0), .int .i64 (((⟨(0 : Int), (0 : Int), (0 : Int), (0 : Int), (0 : Int)⟩ : A5 (Int))).x1), .int .i64 (((⟨(0 : Int), (0 : Int), (0 : Int), (0 : Int), (0 : Int)⟩ : A5 (Int))).x2), .int .i64 (((⟨(0 : Int), (0 : Int), (0 : Int), (0 : Int), (0 : Int)⟩ : A5 (Int))).x3), .int .i64 (((⟨(0 : Int), (0 : Int), (0 : Int), (0 : Int), (0 : Int)⟩ : A5 (Int))).x4)]]) (aN) ?_
 refine Sj (X := (List UInt8) × SCost) (fun v => (sl 62 [(0, vS a0), (2, vP [2] (0)), (4, vP [4] (0)), (5, vS v.1)] [bx [4] (encSCost v.2), bx [2] [.int .i64 (0 : Int), .int .i64 (0 : Int), .int .i64 (((⟨(0 : Int), (0 : Int), (0 : Int), (0 : Int), (0 : Int)⟩ : A5 (Int))).x0), .int .i64 (((⟨(0 : Int), (0 : Int), (0 : Int), (0 : Int), (0 : Int)⟩ : A5 (Int))).x1), .int .i64 (((⟨(0 : Int), (0 : Int), (0 : Int), (0 : Int), (0 : Int)⟩ : A5 (Int))).x2), .int .i64 (((⟨(0 : Int), (0 : Int), (0 : Int), (0 : Int), (0 : Int)⟩ : A5 (Int))).x3), .int .i64 (((⟨(0 : Int), (0 : Int), (0 : Int), (0 : Int), (0 : Int)⟩ : A5 (Int))).x4)]])) (fun v => mana_Parse_J3 a0 v.1 v.2 = some r) ?_ ?_
 · refine Holds.block ?_
   obtain ⟨oB33, hiB33, h⟩ := bS h
   refine It (fun (v : (List UInt8) × SCost) => (sl 62 [(0, vS a0), (2, vP [2] (0)), (4, vP [4] (0)), (5, vS v.1)] [bx [4] (encSCost v.2), bx [2] [.int .i64 (0 : Int), .int .i64 (0 : Int), .int .i64 (((⟨(0 : Int), (0 : Int), (0 : Int), (0 : Int), (0 : Int)⟩ : A5 (Int))).x0), .int .i64 (((⟨(0 : Int), (0 : Int), (0 : Int), (0 : Int), (0 : Int)⟩ : A5 (Int))).x1), .int .i64 (((⟨(0 : Int), (0 : Int), (0 : Int), (0 : Int), (0 : Int)⟩ : A5 (Int))).x2), .int .i64 (((⟨(0 : Int), (0 : Int), (0 : Int), (0 : Int), (0 : Int)⟩ : A5 (Int))).x3), .int .i64 (((⟨(0 : Int), (0 : Int), (0 : Int), (0 : Int), (0 : Int)⟩ : A5 (Int))).x4)]])) hiB33 (wT) ?_
   rintro ⟨rest_t5_29, b4_30⟩ zB33 hzB33 hoB33
   replace hzB33 : mana_Parse_B33 rest_t5_29 b4_30 = some zB33 := hzB33
   unfold mana_Parse_B33 at hzB33
   refine Holds.seq ?_
   obtain ⟨r34, hr34, hzB33⟩ := bS hzB33
   refine Rg [.a, (.c (vB r34))] (sl 62 [(0, vS a0), (2, vP [2] (0)), (4, vP [4] (0)), (5, vS rest_t5_29), (12, vB r34)] [bx [4] (encSCost b4_30), bx [2] [.int .i64 (0 : Int), .int .i64 (0 : Int), .int .i64 (((⟨(0 : Int), (0 : Int), (0 : Int), (0 : Int), (0 : Int)⟩ : A5 (Int))).x0), .int .i64 (((⟨(0 : Int), (0 : Int), (0 : Int), (0 : Int), (0 : Int)⟩ : A5 (Int))).x1), .int .i64 (((⟨(0 : Int), (0 : Int), (0 : Int), (0 : Int), (0 : Int)⟩ : A5 (Int))).x2), .int .i64 (((⟨(0 : Int), (0 : Int), (0 : Int), (0 : Int), (0 : Int)⟩ : A5 (Int))).x3), .int .i64 (((⟨(0 : Int), (0 : Int), (0 : Int), (0 : Int), (0 : Int)⟩ : A5 (Int))).x4)]]) (aC (okHasPrefix hr34) <| aN) ?_
   refine iB hzB33 (fun b35 hzB33 => ?_) (fun b35 hzB33 => ?_)
   · refine Holds.skip ?_
     refine Tn ?_
     refine Holds.block ?_
     refine Rg [.a, .a, .a, .a, .a] (sl 62 [(0, vS a0), (2, vP [2] (0)), (4, vP [4] (0)), (5, vS rest_t5_29)] [bx [4] (encSCost ({ b4_30 with X := wrap64 (b4_30.X + (1 : Int)) })), bx [2] [.int .i64 (0 : Int), .int .i64 (0 : Int), .int .i64 (((⟨(0 : Int), (0 : Int), (0 : Int), (0 : Int), (0 : Int)⟩ : A5 (Int))).x0), .int .i64 (((⟨(0 : Int), (0 : Int), (0 : Int), (0 : Int), (0 : Int)⟩ : A5 (Int))).x1), .int .i64 (((⟨(0 : Int), (0 : Int), (0 : Int), (0 : Int), (0 : Int)⟩ : A5 (Int))).x2), .int .i64 (((⟨(0 : Int), (0 : Int), (0 : Int), (0 : Int), (0 : Int)⟩ : A5 (Int))).x3), .int .i64 (((⟨(0 : Int), (0 : Int), (0 : Int), (0 : Int), (0 : Int)⟩ : A5 (Int))).x4)]]) (aN) ?_
     obtain ⟨s36, hs36, hzB33⟩ := bS hzB33
     refine Re [.a, (.v (vS s36)), .a] (sl 62 [(0, vS a0), (2, vP [2] (0)), (4, vP [4] (0)), (5, vS s36), (17, vS rest_t5_29), (18, vS s36)] [bx [4] (encSCost ({ b4_30 with X := wrap64 (b4_30.X + (1 : Int)) })), bx [2] [.int .i64 (0 : Int), .int .i64 (0 : Int), .int .i64 (((⟨(0 : Int), (0 : Int), (0 : Int), (0 : Int), (0 : Int)⟩ : A5 (Int))).x0), .int .i64 (((⟨(0 : Int), (0 : Int), (0 : Int), (0 : Int), (0 : Int)⟩ : A5 (Int))).x1), .int .i64 (((⟨(0 : Int), (0 : Int), (0 : Int), (0 : Int), (0 : Int)⟩ : A5 (Int))).x2), .int .i64 (((⟨(0 : Int), (0 : Int), (0 : Int), (0 : Int), (0 : Int)⟩ : A5 (Int))).x3), .int .i64 (((⟨(0 : Int), (0 : Int), (0 : Int), (0 : Int), (0 : Int)⟩ : A5 (Int))).x4)]]) (aC (ssub_b hs36) <| aC (congrArg (fun z => V.c (.str z)) (ssub_x hs36).symm) <| aN) ?_
     refine blockQ.normal ?_
     refine Tn ⟨(s36, ({ b4_30 with X := wrap64 (b4_30.X + (1 : Int)) })), (sI hzB33).symm, wT⟩
   · refine Holds.exit ?_
     refine thenQ.exit ?_
     have hoB33_ := hoB33 _ (sI hzB33).symm
     subst hoB33_
     refine thenQ.exit ?_
     refine blockQ.out ?_
     refine Tn ⟨(rest_t5_29, b4_30), h, wT⟩
 · rintro ⟨rest_t5_1, b4_2⟩ hJ3
   replace hJ3 : mana_Parse_J3 a0 rest_t5_1 b4_2 = some r := hJ3
   unfold mana_Parse_J3 at hJ3
   obtain ⟨s4, hs4, hJ3⟩ := bS hJ3
   obtain ⟨r5, hr5, hJ3⟩ := bS hJ3
   refine Rg [.a, (.v (vS s4)), (.c (vI r5)), .a] (sl 62 [(0, vS a0), (2, vP [2] (0)), (4, vP [4] (0)), (5, vS rest_t5_1), (6, vI r5)] [bx [4] (encSCost b4_2), bx [2] [.int .i64 (0 : Int), .int .i64 (0 : Int), .int .i64 (((⟨(0 : Int), (0 : Int), (0 : Int), (0 : Int), (0 : Int)⟩ : A5 (Int))).x0), .int .i64 (((⟨(0 : Int), (0 : Int), (0 : Int), (0 : Int), (0 : Int)⟩ : A5 (Int))).x1), .int .i64 (((⟨(0 : Int), (0 : Int), (0 : Int), (0 : Int), (0 : Int)⟩ : A5 (Int))).x2), .int .i64 (((⟨(0 : Int), (0 : Int), (0 : Int), (0 : Int), (0 : Int)⟩ : A5 (Int))).x3), .int .i64 (((⟨(0 : Int), (0 : Int), (0 : Int), (0 : Int), (0 : Int)⟩ : A5 (Int))).x4)]]) (aC (cat_b hs4) <| aC (congrArg (fun z => V.c (.str z)) (cat_x hs4).symm) <| aC (okIndexAny hr5) <| aN) ?_
   obtain ⟨s6, hs6, hJ3⟩ := bS hJ3
   obtain ⟨r7, hr7, hJ3⟩ := bS hJ3
   refine Rg [.a, .a, (.v (vS s6)), (.c (.tup [vI r7.1, vB r7.2])), .a, .a, .a, .a, .a] (sl 62 [(0, vS a0), (2, vP [2] (0)), (4, vP [4] (0)), (5, vS rest_t5_1), (6, vI r5)] [bx [4] (encSCost ({ b4_2 with Generic := r7.1 })), bx [2] [.int .i64 (0 : Int), .int .i64 (0 : Int), .int .i64 (((⟨(0 : Int), (0 : Int), (0 : Int), (0 : Int), (0 : Int)⟩ : A5 (Int))).x0), .int .i64 (((⟨(0 : Int), (0 : Int), (0 : Int), (0 : Int), (0 : Int)⟩ : A5 (Int))).x1), .int .i64 (((⟨(0 : Int), (0 : Int), (0 : Int), (0 : Int), (0 : Int)⟩ : A5 (Int))).x2), .int .i64 (((⟨(0 : Int), (0 : Int), (0 : Int), (0 : Int), (0 : Int)⟩ : A5 (Int))).x3), .int .i64 (((⟨(0 : Int), (0 : Int), (0 : Int), (0 : Int), (0 : Int)⟩ : A5 (Int))).x4)]]) (aC (ssub_b hs6) <| aC (congrArg (fun z => V.c (.str z)) (ssub_x hs6).symm) <| aC (num_Number_ok hr7) <| aC (show True ∧ 0 < [V.undef, V.undef].length from ⟨trivial, (by decide)⟩) <| aC (show True ∧ 1 < [V.undef, V.undef].length from ⟨trivial, (by decide)⟩) <| aN) ?_
   refine Sj (X := SCost) (fun v => (sl 62 [(0, vS a0), (2, vP [2] (0)), (4, vP [4] (0))] [bx [4] (encSCost v), bx [2] [.int .i64 (0 : Int), .int .i64 (0 : Int), .int .i64 (((⟨(0 : Int), (0 : Int), (0 : Int), (0 : Int), (0 : Int)⟩ : A5 (Int))).x0), .int .i64 (((⟨(0 : Int), (0 : Int), (0 : Int), (0 : Int), (0 : Int)⟩ : A5 (Int))).x1), .int .i64 (((⟨(0 : Int), (0 : Int), (0 : Int), (0 : Int), (0 : Int)⟩ : A5 (Int))).x2), .int .i64 (((⟨(0 : Int), (0 : Int), (0 : Int), (0 : Int), (0 : Int)⟩ : A5 (Int))).x3), .int .i64 (((⟨(0 : Int), (0 : Int), (0 : Int), (0 : Int), (0 : Int)⟩ : A5 (Int))).x4)]])) (fun v => mana_Parse_J9 a0 v = some r) ?_ ?_
   · refine Holds.seq ?_
     refine Holds.region ?_
     obtain ⟨s13, hs13, hJ3⟩ := bS hJ3
     refine Rp 3 [.a, .a, (.v (vS s13))] (sl 62 [(0, vS a0), (2, vP [2] (0)), (4, vP [4] (0)), (5, vS rest_t5_1), (6, vI r5), (30, vS rest_t5_1), (31, vI r5), (32, vS s13)] [bx [4] (encSCost ({ b4_2 with Generic := r7.1 })), bx [2] [.int .i64 (0 : Int), .int .i64 (0 : Int), .int .i64 (((⟨(0 : Int), (0 : Int), (0 : Int), (0 : Int), (0 : Int)⟩ : A5 (Int))).x0), .int .i64 (((⟨(0 : Int), (0 : Int), (0 : Int), (0 : Int), (0 : Int)⟩ : A5 (Int))).x1), .int .i64 (((⟨(0 : Int), (0 : Int), (0 : Int), (0 : Int), (0 : Int)⟩ : A5 (Int))).x2), .int .i64 (((⟨(0 : Int), (0 : Int), (0 : Int), (0 : Int), (0 : Int)⟩ : A5 (Int))).x3), .int .i64 (((⟨(0 : Int), (0 : Int), (0 : Int), (0 : Int), (0 : Int)⟩ : A5 (Int))).x4)]]) (aC (ssub_b hs13) <| aC (congrArg (fun z => V.c (.str z)) (ssub_x hs13).symm) <| aN) ?_
     obtain ⟨u14, hu14, hJ3⟩ := bS hJ3
     refine Run.inl rfl rfl (Esc.bytes 5 s13 rfl (need_b hu14) ?_)
     refine Rw [.a, .a] (sl 62 [(0, vS a0), (2, vP [2] (0)), (4, vP [4] (0)), (5, vS rest_t5_1), (6, vI r5), (30, vS rest_t5_1), (31, vI r5), (32, vS s13), (33, vL (eI .u8) (bytesI s13)), (34, vI ((bytesI s13).length : Int)), (35, vI (0 : Int))] [bx [4] (encSCost ({ b4_2 with Generic := r7.1 })), bx [2] [.int .i64 (0 : Int), .int .i64 (0 : Int), .int .i64 (((⟨(0 : Int), (0 : Int), (0 : Int), (0 : Int), (0 : Int)⟩ : A5 (Int))).x0), .int .i64 (((⟨(0 : Int), (0 : Int), (0 : Int), (0 : Int), (0 : Int)⟩ : A5 (Int))).x1), .int .i64 (((⟨(0 : Int), (0 : Int), (0 : Int), (0 : Int), (0 : Int)⟩ : A5 (Int))).x2), .int .i64 (((⟨(0 : Int), (0 : Int), (0 : Int), (0 : Int), (0 : Int)⟩ : A5 (Int))).x3), .int .i64 (((⟨(0 : Int), (0 : Int), (0 : Int), (0 : Int), (0 : Int)⟩ : A5 (Int))).x4)]]) (aN) ?_
     refine Tn ?_
     refine Holds.block ?_
     obtain ⟨oB20, hiB20, hJ3⟩ := bS hJ3
     refine It (fun (v : Int × SCost) => (sl 62 [(0, vS a0), (2, vP [2] (0)), (4, vP [4] (0)), (33, vL (eI .u8) (bytesI s13)), (34, vI ((bytesI s13).length : Int)), (35, vI v.1)] [bx [4] (encSCost v.2), bx [2] [.int .i64 (0 : Int), .int .i64 (0 : Int), .int .i64 (((⟨(0 : Int), (0 : Int), (0 : Int), (0 : Int), (0 : Int)⟩ : A5 (Int))).x0), .int .i64 (((⟨(0 : Int), (0 : Int), (0 : Int), (0 : Int), (0 : Int)⟩ : A5 (Int))).x1), .int .i64 (((⟨(0 : Int), (0 : Int), (0 : Int), (0 : Int), (0 : Int)⟩ : A5 (Int))).x2), .int .i64 (((⟨(0 : Int), (0 : Int), (0 : Int), (0 : Int), (0 : Int)⟩ : A5 (Int))).x3), .int .i64 (((⟨(0 : Int), (0 : Int), (0 : Int), (0 : Int), (0 : Int)⟩ : A5 (Int))).x4)]])) hiB20 (wT) ?_
     rintro ⟨vt35_17, b4_18⟩ zB20 hzB20 hoB20
     replace hzB20 : mana_Parse_B20 s13 vt35_17 b4_18 = some zB20 := hzB20
     unfold mana_Parse_B20 at hzB20
     refine Rg [.a] (sl 62 [(0, vS a0), (2, vP [2] (0)), (4, vP [4] (0)), (33, vL (eI .u8) (bytesI s13)), (34, vI ((bytesI s13).length : Int)), (35, vI vt35_17), (36, vB (decide (vt35_17 < ((bytesI s13).length : Int))))] [bx [4] (encSCost b4_18), bx [2] [.int .i64 (0 : Int), .int .i64 (0 : Int), .int .i64 (((⟨(0 : Int), (0 : Int), (0 : Int), (0 : Int), (0 : Int)⟩ : A5 (Int))).x0), .int .i64 (((⟨(0 : Int), (0 : Int), (0 : Int), (0 : Int), (0 : Int)⟩ : A5 (Int))).x1), .int .i64 (((⟨(0 : Int), (0 : Int), (0 : Int), (0 : Int), (0 : Int)⟩ : A5 (Int))).x2), .int .i64 (((⟨(0 : Int), (0 : Int), (0 : Int), (0 : Int), (0 : Int)⟩ : A5 (Int))).x3), .int .i64 (((⟨(0 : Int), (0 : Int), (0 : Int), (0 : Int), (0 : Int)⟩ : A5 (Int))).x4)]]) (aN) ?_
     refine Holds.seq ?_
     refine iB hzB20 (fun b21 hzB20 => ?_) (fun b21 hzB20 => ?_)
     · refine Holds.skip ?_
       refine Tn ?_
       refine Holds.seq ?_
       refine Holds.block ?_
       obtain ⟨e22, he22, hzB20⟩ := bS hzB20
       refine Rg [.a, (.v (.c (.int .u8 e22))), .a] (sl 62 [(0, vS a0), (2, vP [2] (0)), (4, vP [4] (0)), (8, .c (.int .u8 e22)), (33, vL (eI .u8) (bytesI s13)), (34, vI ((bytesI s13).length : Int)), (35, vI vt35_17)] [bx [4] (encSCost b4_18), bx [2] [.int .i64 (0 : Int), .int .i64 (0 : Int), .int .i64 (((⟨(0 : Int), (0 : Int), (0 : Int), (0 : Int), (0 : Int)⟩ : A5 (Int))).x0), .int .i64 (((⟨(0 : Int), (0 : Int), (0 : Int), (0 : Int), (0 : Int)⟩ : A5 (Int))).x1), .int .i64 (((⟨(0 : Int), (0 : Int), (0 : Int), (0 : Int), (0 : Int)⟩ : A5 (Int))).x2), .int .i64 (((⟨(0 : Int), (0 : Int), (0 : Int), (0 : Int), (0 : Int)⟩ : A5 (Int))).x3), .int .i64 (((⟨(0 : Int), (0 : Int), (0 : Int), (0 : Int), (0 : Int)⟩ : A5 (Int))).x4)]]) (aC (idx_b he22) <| aC (eld he22 (lenI .u8) 0 1 false (.c (.int .u8 e22))) <| aC (Eq.refl (.c (.int .u8 e22) : V)) <| aN) ?_
       obtain ⟨r23, hr23, hzB20⟩ := bS hzB20
       refine Rg [.a, (.c (vI r23)), .a] (sl 62 [(0, vS a0), (2, vP [2] (0)), (4, vP [4] (0)), (9, vI r23), (33, vL (eI .u8) (bytesI s13)), (34, vI ((bytesI s13).length : Int)), (35, vI vt35_17)] [bx [4] (encSCost b4_18), bx [2] [.int .i64 (0 : Int), .int .i64 (0 : Int), .int .i64 (((⟨(0 : Int), (0 : Int), (0 : Int), (0 : Int), (0 : Int)⟩ : A5 (Int))).x0), .int .i64 (((⟨(0 : Int), (0 : Int), (0 : Int), (0 : Int), (0 : Int)⟩ : A5 (Int))).x1), .int .i64 (((⟨(0 : Int), (0 : Int), (0 : Int), (0 : Int), (0 : Int)⟩ : A5 (Int))).x2), .int .i64 (((⟨(0 : Int), (0 : Int), (0 : Int), (0 : Int), (0 : Int)⟩ : A5 (Int))).x3), .int .i64 (((⟨(0 : Int), (0 : Int), (0 : Int), (0 : Int), (0 : Int)⟩ : A5 (Int))).x4)]]) (aC (okIndexByte hr23) <| aN) ?_
       refine Holds.seq ?_
       refine Rg [.a, .a] (sl 62 [(0, vS a0), (2, vP [2] (0)), (4, vP [4] (0)), (9, vI r23), (33, vL (eI .u8) (bytesI s13)), (34, vI ((bytesI s13).length : Int)), (35, vI vt35_17), (42, vB (decide (r23 < (0 : Int))))] [bx [4] (encSCost b4_18), bx [2] [.int .i64 (0 : Int), .int .i64 (0 : Int), .int .i64 (((⟨(0 : Int), (0 : Int), (0 : Int), (0 : Int), (0 : Int)⟩ : A5 (Int))).x0), .int .i64 (((⟨(0 : Int), (0 : Int), (0 : Int), (0 : Int), (0 : Int)⟩ : A5 (Int))).x1), .int .i64 (((⟨(0 : Int), (0 : Int), (0 : Int), (0 : Int), (0 : Int)⟩ : A5 (Int))).x2), .int .i64 (((⟨(0 : Int), (0 : Int), (0 : Int), (0 : Int), (0 : Int)⟩ : A5 (Int))).x3), .int .i64 (((⟨(0 : Int), (0 : Int), (0 : Int), (0 : Int), (0 : Int)⟩ : A5 (Int))).x4)]]) (aN) ?_
       refine iB hzB20 (fun b24 hzB20 => ?_) (fun b24 hzB20 => ?_)
       · refine Rg [.a, .a, .a] (sl 62 [(2, vP [2] (0)), (3, vI (3 : Int))] [bx [2] [.int .i64 (0 : Int), .int .i64 (0 : Int), .int .i64 (((⟨(0 : Int), (0 : Int), (0 : Int), (0 : Int), (0 : Int)⟩ : A5 (Int))).x0), .int .i64 (((⟨(0 : Int), (0 : Int), (0 : Int), (0 : Int), (0 : Int)⟩ : A5 (Int))).x1), .int .i64 (((⟨(0 : Int), (0 : Int), (0 : Int), (0 : Int), (0 : Int)⟩ : A5 (Int))).x2), .int .i64 (((⟨(0 : Int), (0 : Int), (0 : Int), (0 : Int), (0 : Int)⟩ : A5 (Int))).x3), .int .i64 (((⟨(0 : Int), (0 : Int), (0 : Int), (0 : Int), (0 : Int)⟩ : A5 (Int))).x4)]]) (aC (And.intro trivial okp34) <| aN) ?_
         refine Holds.ret ?_
         refine Tr ?_
         refine blockQ.ret ?_
         refine Tr ?_
         have hoB20_ := hoB20 _ (sI hzB20).symm
         subst hoB20_
         replace hJ3 := sumL hJ3
         refine Tr ?_
         refine blockQ.ret ?_
         refine Tr ?_
         exact bE (.tup [.agg [.int .i64 (0 : Int), .int .i64 (0 : Int), .int .i64 (((⟨(0 : Int), (0 : Int), (0 : Int), (0 : Int), (0 : Int)⟩ : A5 (Int))).x0), .int .i64 (((⟨(0 : Int), (0 : Int), (0 : Int), (0 : Int), (0 : Int)⟩ : A5 (Int))).x1), .int .i64 (((⟨(0 : Int), (0 : Int), (0 : Int), (0 : Int), (0 : Int)⟩ : A5 (Int))).x2), .int .i64 (((⟨(0 : Int), (0 : Int), (0 : Int), (0 : Int), (0 : Int)⟩ : A5 (Int))).x3), .int .i64 (((⟨(0 : Int), (0 : Int), (0 : Int), (0 : Int), (0 : Int)⟩ : A5 (Int))).x4)], vI (3 : Int)]) (.tup [.agg (encSCost (⟨(0 : Int), (0 : Int), (⟨(0 : Int), (0 : Int), (0 : Int), (0 : Int), (0 : Int)⟩ : A5 (Int))⟩ : SCost)), vI (3 : Int)]) (congrArg (fun (q : SCost × Int) => (.tup [vA encSCost q.1, vI q.2] : V)) (sI hJ3))
       · refine Holds.skip ?_
         refine Tn ?_
         obtain ⟨e25, he25, hzB20⟩ := bS hzB20
         obtain ⟨e26, he26, hzB20⟩ := bS hzB20
         refine Re [.a, .a, .a, (.v (vI e25)), .a, .a, .a, (.e 0 (encSCost ({ b4_18 with Color := b4_18.Color.set (r23).toNat (wrap64 (e25 + (1 : Int))) })))] (sl 62 [(0, vS a0), (2, vP [2] (0)), (4, vP [4] (0)), (9, vI r23), (33, vL (eI .u8) (bytesI s13)), (34, vI ((bytesI s13).length : Int)), (35, vI vt35_17), (42, vB (decide (r23 < (0 : Int)))), (44, vI r23), (45, vP [4] (2)), (46, vP [4] (2 + (r23).toNat * 1)), (47, vI e25), (48, vI (wrap64 (e25 + (1 : Int)))), (49, vP [4] (2)), (50, vP [4] (2 + (r23).toNat * 1))] [bx [4] (encSCost ({ b4_18 with Color := b4_18.Color.set (r23).toNat (wrap64 (e25 + (1 : Int))) })), bx [2] [.int .i64 (0 : Int), .int .i64 (0 : Int), .int .i64 (((⟨(0 : Int), (0 : Int), (0 : Int), (0 : Int), (0 : Int)⟩ : A5 (Int))).x0), .int .i64 (((⟨(0 : Int), (0 : Int), (0 : Int), (0 : Int), (0 : Int)⟩ : A5 (Int))).x1), .int .i64 (((⟨(0 : Int), (0 : Int), (0 : Int), (0 : Int), (0 : Int)⟩ : A5 (Int))).x2), .int .i64 (((⟨(0 : Int), (0 : Int), (0 : Int), (0 : Int), (0 : Int)⟩ : A5 (Int))).x3), .int .i64 (((⟨(0 : Int), (0 : Int), (0 : Int), (0 : Int), (0 : Int)⟩ : A5 (Int))).x4)]]) (aC (idx_b he25) <| aC (ald he25 (lenI .i64) (encSCost b4_18) 2 7 0 1 false (vI e25)) <| aC (Eq.refl (vI e25)) <| aC (idx_b he26) <| aC (show 2 + (r23).toNat * 1 + 1 ≤ (encSCost b4_18).length ∧ (encSCost b4_18).take (2 + (r23).toNat * 1) ++ ([.int .i64 (wrap64 (e25 + (1 : Int)))] : List C) ++ (encSCost b4_18).drop (2 + (r23).toNat * 1 + ([.int .i64 (wrap64 (e25 + (1 : Int)))] : List C).length) = (encSCost ({ b4_18 with Color := b4_18.Color.set (r23).toNat (wrap64 (e25 + (1 : Int))) })) from (arr_st (e := eI .i64) (N := 1) (l := b4_18.Color.l) (i := r23) (x' := (wrap64 (e25 + (1 : Int)))) (o := 0) (base := 2) (cs := ([.int .i64 (wrap64 (e25 + (1 : Int)))] : List C)) (pre := (encSCost b4_18).take 2) (post := (encSCost b4_18).drop 7) (by kernel_rfl) (by kernel_rfl) (by kernel_rfl) (A5.l_set _ _ _) he26 (lenI .i64) (by omega) (Nat.le_of_ble_eq_true (by kernel_rfl)) (by kernel_rfl))) <| aC (show ((none : Option (TypeId × Nat × Nat)) = none) ∧ True from ⟨rfl, trivial⟩) <| aN) ?_
         refine blockQ.normal ?_
         refine Tn ?_
         refine Re [.a, .a] (sl 62 [(0, vS a0), (2, vP [2] (0)), (4, vP [4] (0)), (9, vI r23), (33, vL (eI .u8) (bytesI s13)), (34, vI ((bytesI s13).length : Int)), (35, vI (wrap64 (vt35_17 + (1 : Int)))), (42, vB (decide (r23 < (0 : Int)))), (44, vI r23), (45, vP [4] (2)), (46, vP [4] (2 + (r23).toNat * 1)), (47, vI e25), (48, vI (wrap64 (e25 + (1 : Int)))), (49, vP [4] (2)), (50, vP [4] (2 + (r23).toNat * 1)), (51, vI (wrap64 (vt35_17 + (1 : Int))))] [bx [4] (encSCost ({ b4_18 with Color := b4_18.Color.set (r23).toNat (wrap64 (e25 + (1 : Int))) })), bx [2] [.int .i64 (0 : Int), .int .i64 (0 : Int), .int .i64 (((⟨(0 : Int), (0 : Int), (0 : Int), (0 : Int), (0 : Int)⟩ : A5 (Int))).x0), .int .i64 (((⟨(0 : Int), (0 : Int), (0 : Int), (0 : Int), (0 : Int)⟩ : A5 (Int))).x1), .int .i64 (((⟨(0 : Int), (0 : Int), (0 : Int), (0 : Int), (0 : Int)⟩ : A5 (Int))).x2), .int .i64 (((⟨(0 : Int), (0 : Int), (0 : Int), (0 : Int), (0 : Int)⟩ : A5 (Int))).x3), .int .i64 (((⟨(0 : Int), (0 : Int), (0 : Int), (0 : Int), (0 : Int)⟩ : A5 (Int))).x4)]]) (aN) ?_
         refine Tn ⟨((wrap64 (vt35_17 + (1 : Int))), ({ b4_18 with Color := b4_18.Color.set (r23).toNat (wrap64 (e25 + (1 : Int))) })), (sI hzB20).symm, wT⟩
     · refine Holds.exit ?_
       refine thenQ.exit ?_
       have hoB20_ := hoB20 _ (sI hzB20).symm
       subst hoB20_
       replace hJ3 := sumR hJ3
       refine thenQ.exit ?_
       refine blockQ.out ?_
       refine Tn ⟨b4_18, hJ3, wT⟩
   · rintro b4_8 hJ9
     replace hJ9 : mana_Parse_J9 a0 b4_8 = some r := hJ9
     unfold mana_Parse_J9 at hJ9
     refine Holds.seq ?_
     obtain ⟨r10, hr10, hJ9⟩ := bS hJ9
     obtain ⟨b11, hb11, hJ9⟩ := bS hJ9
     refine Rg [.a, .a, .a, .a, (.c (vS r10)), .a, .a, (.v (vB b11))] (sl 62 [(2, vP [2] (0)), (4, vP [4] (0)), (59, vB b11)] [bx [4] (encSCost b4_8), bx [2] [.int .i64 (0 : Int), .int .i64 (0 : Int), .int .i64 (((⟨(0 : Int), (0 : Int), (0 : Int), (0 : Int), (0 : Int)⟩ : A5 (Int))).x0), .int .i64 (((⟨(0 : Int), (0 : Int), (0 : Int), (0 : Int), (0 : Int)⟩ : A5 (Int))).x1), .int .i64 (((⟨(0 : Int), (0 : Int), (0 : Int), (0 : Int), (0 : Int)⟩ : A5 (Int))).x2), .int .i64 (((⟨(0 : Int), (0 : Int), (0 : Int), (0 : Int), (0 : Int)⟩ : A5 (Int))).x3), .int .i64 (((⟨(0 : Int), (0 : Int), (0 : Int), (0 : Int), (0 : Int)⟩ : A5 (Int))).x4)]]) (aC (c1 hr10 mana_Text_ok) <| aH ((a0 == ([] : List UInt8)) == false) <| aF (a0 == ([] : List UInt8)) <| aB hb11 <| aN) ?_
     refine iB hJ9 (fun b12 hJ9 => ?_) (fun b12 hJ9 => ?_)
     · refine Rg [.a, .a, .a] (sl 62 [(2, vP [2] (0)), (3, vI (3 : Int))] [bx [2] [.int .i64 (0 : Int), .int .i64 (0 : Int), .int .i64 (((⟨(0 : Int), (0 : Int), (0 : Int), (0 : Int), (0 : Int)⟩ : A5 (Int))).x0), .int .i64 (((⟨(0 : Int), (0 : Int), (0 : Int), (0 : Int), (0 : Int)⟩ : A5 (Int))).x1), .int .i64 (((⟨(0 : Int), (0 : Int), (0 : Int), (0 : Int), (0 : Int)⟩ : A5 (Int))).x2), .int .i64 (((⟨(0 : Int), (0 : Int), (0 : Int), (0 : Int), (0 : Int)⟩ : A5 (Int))).x3), .int .i64 (((⟨(0 : Int), (0 : Int), (0 : Int), (0 : Int), (0 : Int)⟩ : A5 (Int))).x4)]]) (aC (And.intro trivial okp34) <| aN) ?_
       refine Holds.ret ?_
       refine Tr ?_
       exact bE (.tup [.agg [.int .i64 (0 : Int), .int .i64 (0 : Int), .int .i64 (((⟨(0 : Int), (0 : Int), (0 : Int), (0 : Int), (0 : Int)⟩ : A5 (Int))).x0), .int .i64 (((⟨(0 : Int), (0 : Int), (0 : Int), (0 : Int), (0 : Int)⟩ : A5 (Int))).x1), .int .i64 (((⟨(0 : Int), (0 : Int), (0 : Int), (0 : Int), (0 : Int)⟩ : A5 (Int))).x2), .int .i64 (((⟨(0 : Int), (0 : Int), (0 : Int), (0 : Int), (0 : Int)⟩ : A5 (Int))).x3), .int .i64 (((⟨(0 : Int), (0 : Int), (0 : Int), (0 : Int), (0 : Int)⟩ : A5 (Int))).x4)], vI (3 : Int)]) (.tup [.agg (encSCost (⟨(0 : Int), (0 : Int), (⟨(0 : Int), (0 : Int), (0 : Int), (0 : Int), (0 : Int)⟩ : A5 (Int))⟩ : SCost)), vI (3 : Int)]) (congrArg (fun (q : SCost × Int) => (.tup [vA encSCost q.1, vI q.2] : V)) (sI hJ9))
     · refine Holds.skip ?_
       refine Tn ?_
       refine Rg [.a, .a, .a] (sl 62 [(2, vP [2] (0)), (3, vI (0 : Int))] [bx [2] (encSCost b4_8)]) (aN) ?_
       refine Holds.ret ?_
       exact bE (.tup [vA encSCost b4_8, vI (0 : Int)]) (.tup [.agg (encSCost b4_8), vI (0 : Int)]) (congrArg (fun (q : SCost × Int) => (.tup [vA encSCost q.1, vI q.2] : V)) (sI hJ9))
def r08_Parse_J3 (a0 : List UInt8) (b4_2 : SCost) : Option (SCost × Int) :=
 (gd ((a0 == ([] : List UInt8)) == false) (r08_Text b4_2)).bind fun r4 =>
 (some (if (a0 == ([] : List UInt8)) = true then true else r4 != a0)).bind fun b5 =>
 (if b5 = true then
  some ((⟨(0 : Int), (0 : Int), (⟨(0 : Int), (0 : Int), (0 : Int), (0 : Int), (0 : Int)⟩ : A5 (Int))⟩ : SCost), (3 : Int))
 else
  some (b4_2, (0 : Int)))
def r08_Parse_B12 (a0 : List UInt8) (i_t5_9 : Int) (b4_10 : SCost) : Option ((Int × SCost) ⊕ (Unit ⊕ SCost)) :=
 (if (decide (i_t5_9 < (a0.length : Int))) = true then
  (sidx a0 i_t5_9).bind fun c14 =>
  (r08_count b4_10 c14).bind fun r15 =>
  (some (if (!r15.2) = true then true else decide ((99 : Int) < r15.1.Generic))).bind fun b16 =>
  (if b16 = true then
   some (.inr (.inl ()))
  else
   some (.inl ((wrap64 (i_t5_9 + (1 : Int))), r15.1)))
 else
  some (.inr (.inr b4_10)))
/-- cardgame/cardgameref08.Parse -/
def r08_Parse (a0 : List UInt8) : Option (SCost × Int) :=
 (if (decide ((60 : Int) < (a0.length : Int))) = true then
  some ((⟨(0 : Int), (0 : Int), (⟨(0 : Int), (0 : Int), (0 : Int), (0 : Int), (0 : Int)⟩ : A5 (Int))⟩ : SCost), (3 : Int))
 else
  (iter (fun (v : Int × SCost) => r08_Parse_B12 a0 v.1 v.2) FU ((0 : Int), (⟨(0 : Int), (0 : Int), (⟨(0 : Int), (0 : Int), (0 : Int), (0 : Int), (0 : Int)⟩ : A5 (Int))⟩ : SCost))).bind (Sum.elim (fun o0 => some ((⟨(0 : Int), (0 : Int), (⟨(0 : Int), (0 : Int), (0 : Int), (0 : Int), (0 : Int)⟩ : A5 (Int))⟩ : SCost), (3 : Int))) (fun o1 => r08_Parse_J3 a0 o1)))
def r08_Parse_C (a0 : List UInt8) (r : SCost × Int) : Prop := PCall Tryd.prog I0 35 [vS a0] (· = .tup [vA encSCost r.1, vI r.2])
theorem r08_Parse_ok {a0 : List UInt8} {r : SCost × Int} (h : r08_Parse a0 = some r) : r08_Parse_C a0 r := by
 refine PCall.body I0_stable (by kernel_rfl) Tryd.func35 rfl Tryd.ntmps35 (rs := [.cell 2 34, .tmp 3]) rfl rfl ?_
 intro w0 av old gv
 unfold r08_Parse at h
 refine Rg [.a, .a] (sl 45 [(0, vS a0), (2, vP [2] (0))] [bx [2] [.int .i64 (0 : Int), .int .i64 (0 : Int), .int .i64 (((⟨(0 : Int), (0 : Int), (0 : Int), (0 : Int), (0 : Int)⟩ : A5 (Int))).x0), .int .i64 (((⟨(0 : Int), (0 : Int), (0 : Int), (0 : Int), (0 : Int)⟩ : A5 (Int))).x1), .int .i64 (((⟨(0 : Int), (0 : Int), (0 : Int), (0 : Int), (0 : Int)⟩ : A5 (Int))).x2), .int .i64 (((⟨(0 : Int), (0 : Int), (0 : Int), (0 : Int), (0 : Int)⟩ : A5 (Int))).x3), .int .i64 (((⟨(0 : Int), (0 : Int), (0 : Int), (0 : Int), (0 : Int)⟩ : A5 (Int))).x4)]]) (aN) ?_
 refine Rg [.a] (sl 45 [(0, vS a0), (2, vP [2] (0)), (4, vP [4] (0))] [bx [4] [.int .i64 (0 : Int), .int .i64 (0 : Int), .int .i64 (((⟨(0 : Int), (0 : Int), (0 : Int), (0 : Int), (0 : Int)⟩ : A5 (Int))).x0), .int .i64 (((⟨(0 : Int), (0 : Int), (0 : Int), (0 : Int), (0 : Int)⟩ : A5 (Int))).x1), .int .i64 (((⟨(0 : Int), (0 : Int), (0 : Int), (0 : Int), (0 : Int)⟩ : A5 (Int))).x2), .int .i64 (((⟨(0 : Int), (0 : Int), (0 : Int), (0 : Int), (0 : Int)⟩ : A5 (Int))).x3), .int .i64 (((⟨(0 : Int), (0 : Int), (0 : Int), (0 : Int), (0 : Int)⟩ : A5 (Int))).x4)], bx [2] [.int .i64 (0 : Int), .int .i64 (0 : Int), .int .i64 (((⟨(0 : Int), (0 : Int), (0 : Int), (0 : Int), (0 : Int)⟩ : A5 (Int))).x0), .int .i64 (((⟨(0 : Int), (0 : Int), (0 : Int), (0 : Int), (0 : Int)⟩ : A5 (Int))).x1), .int .i64 (((⟨(0 : Int), (0 : Int), (0 : Int), (0 : Int), (0 : Int)⟩ : A5 (Int))).x2), .int .i64 (((⟨(0 : Int), (0 : Int), (0 : Int), (0 : Int), (0 : Int)⟩ : A5 (Int))).x3), .int .i64 (((⟨(0 : Int), (0 : Int), (0 : Int), (0 : Int), (0 : Int)⟩ : A5 (Int))).x4)]]) (aN) ?_
 refine Holds.seq ?_
 refine Rg [.a, .a, .a] (sl 45 [(0, vS a0), (2, vP [2] (0)), (4, vP [4] (0)), (10, vB (decide ((60 : Int) < (a0.length : Int))))] [bx [4] [.int .i64 (0 : Int), .int .i64 (0 : Int), .int .i64 (((⟨(0 : Int), (0 : Int), (0 : Int), (0 : Int), (0 : Int)⟩ : A5 (Int))).x0), .int .i64 (((⟨(0 : Int), (0 : Int), (0 : Int), (0 : Int), (0 : Int)⟩ : A5 (Int))).x1), .int .i64 (((⟨(0 : Int), (0 : Int), (0 : Int), (0 : Int), (0 : Int)⟩ : A5 (Int))).x2), .int .i64 (((⟨(0 : Int), (0 : Int), (0 : Int), (0 : Int), (0 : Int)⟩ : A5 (Int))).x3), .int .i64 (((⟨(0 : Int), (0 : Int), (0 : Int), (0 : Int), (0 : Int)⟩ : A5 (Int))).x4)], bx [2] [.int .i64 (0 : Int), .int .i64 (0 : Int), .int .i64 (((⟨(0 : Int), (0 : Int), (0 : Int), (0 : Int), (0 : Int)⟩ : A5 (Int))).x0), .int .i64 (((⟨(0 : Int), (0 : Int), (0 : Int), (0 : Int), (0 : Int)⟩ : A5 (Int))).x1), .int .i64 (((⟨(0 : Int), (0 : Int), (0 : Int), (0 : Int), (0 : Int)⟩ : A5 (Int))).x2), .int .i64 (((⟨(0 : Int), (0 : Int), (0 : Int), (0 : Int), (0 : Int)⟩ : A5 (Int))).x3), .int .i64 (((⟨(0 : Int), (0 : Int), (0 : Int), (0 : Int), (0 : Int)⟩ : A5 (Int))).x4)]]) (aN) ?_
 refine iB h (fun b1 h => ?_) (fun b1 h => ?_)
 · refine Rg [.a, .a, .a] (sl 45 [(2, vP [2] (0)), (3, vI (3 : Int))] [bx [2] [.int .i64 (0 : Int), .int .i64 (0 : Int), .int .i64 (((⟨(0 : Int), (0 : Int), (0 : Int), (0 : Int), (0 : Int)⟩ : A5 (Int))).x0), .int .i64 (((⟨(0 : Int), (0 : Int), (0 : Int), (0 : Int), (0 : Int)⟩ : A5 (Int))).x1), .int .i64 (((⟨(0 : Int), (0 : Int), (0 : Int), (0 : Int), (0 : Int)⟩ : A5 (Int))).x2), .int .i64 (((⟨(0 : Int), (0 : Int), (0 : Int), (0 : Int), (0 : Int)⟩ : A5 (Int))).x3), .int .i64 (((⟨(0 : Int), (0 : Int), (0 : Int), (0 : Int), (0 : Int)⟩ : A5 (Int))).x4)]]) (aN) ?_
   refine Holds.ret ?_
   refine Tr ?_
   exact bE (.tup [.agg [.int .i64 (0 : Int), .int .i64 (0 : Int), .int .i64 (((⟨(0 : Int), (0 : Int), (0 : Int), (0 : Int), (0 : Int)⟩ : A5 (Int))).x0), .int .i64 (((⟨(0 : Int), (0 : Int), (0 : Int), (0 : Int), (0 : Int)⟩ : A5 (Int))).x1), .int .i64 (((⟨(0 : Int), (0 : Int), (0 : Int), (0 : Int), (0 : Int)⟩ : A5 (Int))).x2), .int .i64 (((⟨(0 : Int), (0 : Int), (0 : Int), (0 : Int), (0 : Int)⟩ : A5 (Int))).x3), .int .i64 (((⟨(0 : Int), (0 : Int), (0 : Int), (0 : Int), (0 : Int)⟩ : A5 (Int))).x4)], vI (3 : Int)]) (.tup [.agg (encSCost (⟨(0 : Int), (0 : Int), (⟨(0 : Int), (0 : Int), (0 : Int), (0 : Int), (0 : Int)⟩ : A5 (Int))⟩ : SCost)), vI (3 : Int)]) (congrArg (fun (q : SCost × Int) => (.tup [vA encSCost q.1, vI q.2] : V)) (sI h))
 · refine Holds.skip ?_
   refine Tn ?_
   refine Sj (X := SCost) (fun v => (sl 45 [(0, vS a0), (2, vP [2] (0)), (4, vP [4] (0))] [bx [4] (encSCost v), bx [2] [.int .i64 (0 : Int), .int .i64 (0 : Int), .int .i64 (((⟨(0 : Int), (0 : Int), (0 : Int), (0 : Int), (0 : Int)⟩ : A5 (Int))).x0), .int .i64 (((⟨(0 : Int), (0 : Int), (0 : Int), (0 : Int), (0 : Int)⟩ : A5 (Int))).x1), .int .i64 (((⟨(0 : Int), (0 : Int), (0 : Int), (0 : Int), (0 : Int)⟩ : A5 (Int))).x2), .int .i64 (((⟨(0 : Int), (0 : Int), (0 : Int), (0 : Int), (0 : Int)⟩ : A5 (Int))).x3), .int .i64 (((⟨(0 : Int), (0 : Int), (0 : Int), (0 : Int), (0 : Int)⟩ : A5 (Int))).x4)]])) (fun v => r08_Parse_J3 a0 v = some r) ?_ ?_
   · refine Rg [.a] (sl 45 [(0, vS a0), (2, vP [2] (0)), (4, vP [4] (0)), (5, vI (0 : Int))] [bx [4] [.int .i64 (0 : Int), .int .i64 (0 : Int), .int .i64 (((⟨(0 : Int), (0 : Int), (0 : Int), (0 : Int), (0 : Int)⟩ : A5 (Int))).x0), .int .i64 (((⟨(0 : Int), (0 : Int), (0 : Int), (0 : Int), (0 : Int)⟩ : A5 (Int))).x1), .int .i64 (((⟨(0 : Int), (0 : Int), (0 : Int), (0 : Int), (0 : Int)⟩ : A5 (Int))).x2), .int .i64 (((⟨(0 : Int), (0 : Int), (0 : Int), (0 : Int), (0 : Int)⟩ : A5 (Int))).x3), .int .i64 (((⟨(0 : Int), (0 : Int), (0 : Int), (0 : Int), (0 : Int)⟩ : A5 (Int))).x4)], bx [2] [.int .i64 (0 : Int), .int .i64 (0 : Int), .int .i64 (((⟨(0 : Int), (0 : Int), (0 : Int), (0 : Int), (0 : Int)⟩ : A5 (Int))).x0), .int .i64 (((⟨(0 : Int), (0 : Int), (0 : Int), (0 : Int), (0 : Int)⟩ : A5 (Int))).x1), .int .i64 (((⟨(0 : Int), (0 : Int), (0 : Int), (0 : Int), (0 : Int)⟩ : A5 (Int))).x2), .int .i64 (((⟨(0 : Int), (0 : Int), (0 : Int), (0 : Int), (0 : Int)⟩ : A5 (Int))).x3), .int .i64 (((⟨(0 : Int), (0 : Int), (0 : Int), (0 : Int), (0 : Int)⟩ : A5 (Int))).x4)]]) (aN) ?_
     refine Holds.block ?_
     obtain ⟨oB12, hiB12, h⟩ := bS h
     refine It (fun (v : Int × SCost) => (sl 45 [(0, vS a0), (2, vP [2] (0)), (4, vP [4] (0)), (5, vI v.1)] [bx [4] (encSCost v.2), bx [2] [.int .i64 (0 : Int), .int .i64 (0 : Int), .int .i64 (((⟨(0 : Int), (0 : Int), (0 : Int), (0 : Int), (0 : Int)⟩ : A5 (Int))).x0), .int .i64 (((⟨(0 : Int), (0 : Int), (0 : Int), (0 : Int), (0 : Int)⟩ : A5 (Int))).x1), .int .i64 (((⟨(0 : Int), (0 : Int), (0 : Int), (0 : Int), (0 : Int)⟩ : A5 (Int))).x2), .int .i64 (((⟨(0 : Int), (0 : Int), (0 : Int), (0 : Int), (0 : Int)⟩ : A5 (Int))).x3), .int .i64 (((⟨(0 : Int), (0 : Int), (0 : Int), (0 : Int), (0 : Int)⟩ : A5 (Int))).x4)]])) hiB12 (wT) ?_
     rintro ⟨i_t5_9, b4_10⟩ zB12 hzB12 hoB12
     replace hzB12 : r08_Parse_B12 a0 i_t5_9 b4_10 = some zB12 := hzB12
     unfold r08_Parse_B12 at hzB12
     refine Holds.seq ?_
     refine Rg [.a, .a, .a, .a] (sl 45 [(0, vS a0), (2, vP [2] (0)), (4, vP [4] (0)), (5, vI i_t5_9), (15, vB (decide (i_t5_9 < (a0.length : Int))))] [bx [4] (encSCost b4_10), bx [2] [.int .i64 (0 : Int), .int .i64 (0 : Int), .int .i64 (((⟨(0 : Int), (0 : Int), (0 : Int), (0 : Int), (0 : Int)⟩ : A5 (Int))).x0), .int .i64 (((⟨(0 : Int), (0 : Int), (0 : Int), (0 : Int), (0 : Int)⟩ : A5 (Int))).x1), .int .i64 (((⟨(0 : Int), (0 : Int), (0 : Int), (0 : Int), (0 : Int)⟩ : A5 (Int))).x2), .int .i64 (((⟨(0 : Int), (0 : Int), (0 : Int), (0 : Int), (0 : Int)⟩ : A5 (Int))).x3), .int .i64 (((⟨(0 : Int), (0 : Int), (0 : Int), (0 : Int), (0 : Int)⟩ : A5 (Int))).x4)]]) (aN) ?_
     refine iB hzB12 (fun b13 hzB12 => ?_) (fun b13 hzB12 => ?_)
     · refine Holds.skip ?_
       refine Tn ?_
       refine Holds.seq ?_
       refine Holds.block ?_
       refine Holds.seq ?_
       obtain ⟨c14, hc14, hzB12⟩ := bS hzB12
       obtain ⟨r15, hr15, hzB12⟩ := bS hzB12
       refine Holds.regN [0, 1, 2, 4, 256, 257, 258, 260, 261, 262, 263, 270, 271, 287, 319, 383, 447, 511, 1023, 2047, 895, 259, 5, 6, 7, 14, 15, 31, 63, 127, 191, 255, 3] 2047 [.a, .a, .a, (.v (.c (.int .u8 c14))), (.c (.tup [vA encSCost r15.1, vB r15.2])), .a, .a, .a, .a, .a, .a] [[6], [4], [2]] (fun n => ⟨[vS a0, .undef, vP [2] (0), .undef, vP [4] (0), vI i_t5_9, cond (Nat.testBit n 8) (vP [6] (0)) (.undef), cond (Nat.testBit n 10) (vB r15.2) (.undef), .undef, .undef, .undef, .undef, .undef, .undef, .undef, vB (decide (i_t5_9 < (a0.length : Int))), .undef, .undef, cond (Nat.testBit n 5) (.tup [vA encSCost r15.1, vB r15.2]) (.undef), cond (Nat.testBit n 0) (vA encSCost b4_10) (.undef), cond (Nat.testBit n 1) (vS a0) (.undef), cond (Nat.testBit n 2) (vI i_t5_9) (.undef), cond (Nat.testBit n 3) (.c (.int .u8 c14)) (.undef), cond (Nat.testBit n 4) (.tup [vA encSCost r15.1, vB r15.2]) (.undef), cond (Nat.testBit n 6) (vA encSCost r15.1) (.undef), cond (Nat.testBit n 7) (vB r15.2) (.undef), .undef, .undef, .undef, .undef, .undef, .undef, .undef, .undef, .undef, .undef, .undef, .undef, .undef, .undef, .undef, .undef, .undef, .undef, .undef], List.filterMap id [cond (Nat.testBit n 9) (some (bx [6] (encSCost r15.1))) (cond (Nat.testBit n 8) (some (bx [6] [.int .i64 (0 : Int), .int .i64 (0 : Int), .int .i64 (((⟨(0 : Int), (0 : Int), (0 : Int), (0 : Int), (0 : Int)⟩ : A5 (Int))).x0), .int .i64 (((⟨(0 : Int), (0 : Int), (0 : Int), (0 : Int), (0 : Int)⟩ : A5 (Int))).x1), .int .i64 (((⟨(0 : Int), (0 : Int), (0 : Int), (0 : Int), (0 : Int)⟩ : A5 (Int))).x2), .int .i64 (((⟨(0 : Int), (0 : Int), (0 : Int), (0 : Int), (0 : Int)⟩ : A5 (Int))).x3), .int .i64 (((⟨(0 : Int), (0 : Int), (0 : Int), (0 : Int), (0 : Int)⟩ : A5 (Int))).x4)])) ((none : Option Ent))), some (bx [4] (encSCost b4_10)), some (bx [2] [.int .i64 (0 : Int), .int .i64 (0 : Int), .int .i64 (((⟨(0 : Int), (0 : Int), (0 : Int), (0 : Int), (0 : Int)⟩ : A5 (Int))).x0), .int .i64 (((⟨(0 : Int), (0 : Int), (0 : Int), (0 : Int), (0 : Int)⟩ : A5 (Int))).x1), .int .i64 (((⟨(0 : Int), (0 : Int), (0 : Int), (0 : Int), (0 : Int)⟩ : A5 (Int))).x2), .int .i64 (((⟨(0 : Int), (0 : Int), (0 : Int), (0 : Int), (0 : Int)⟩ : A5 (Int))).x3), .int .i64 (((⟨(0 : Int), (0 : Int), (0 : Int), (0 : Int), (0 : Int)⟩ : A5 (Int))).x4)])], [], []⟩) [[], [], [], [0 ≤ i_t5_9 ∧ i_t5_9 < (a0.length : Int), V.c (.int .u8 ((a0.getD (i_t5_9).toNat 0).toNat : Int)) = .c (.int .u8 c14)], [r08_count_C b4_10 c14 r15], [], [True ∧ 0 < [V.undef, V.undef].length], [True ∧ 1 < [V.undef, V.undef].length], [], [], []] followsP (by kernel_rfl) (by kernel_rfl) (by decide) (Less.t (by kernel_rfl)) (by kernel_rfl) ⟨trivial, trivial, trivial, ⟨(sidx_b hc14), (congrArg (fun z => V.c (.int .u8 z)) (sidx_x hc14).symm), trivial⟩, ⟨(r08_count_ok hr15), trivial⟩, trivial, ⟨⟨trivial, (by decide)⟩, trivial⟩, ⟨⟨trivial, (by decide)⟩, trivial⟩, trivial, trivial, trivial, trivial⟩ ?_
       refine Tn ?_
       refine Ls (sl 45 [(0, vS a0), (2, vP [2] (0)), (4, vP [4] (0)), (5, vI i_t5_9), (6, vP [6] (0)), (7, vB r15.2)] [bx [6] (encSCost r15.1), bx [4] (encSCost b4_10), bx [2] [.int .i64 (0 : Int), .int .i64 (0 : Int), .int .i64 (((⟨(0 : Int), (0 : Int), (0 : Int), (0 : Int), (0 : Int)⟩ : A5 (Int))).x0), .int .i64 (((⟨(0 : Int), (0 : Int), (0 : Int), (0 : Int), (0 : Int)⟩ : A5 (Int))).x1), .int .i64 (((⟨(0 : Int), (0 : Int), (0 : Int), (0 : Int), (0 : Int)⟩ : A5 (Int))).x2), .int .i64 (((⟨(0 : Int), (0 : Int), (0 : Int), (0 : Int), (0 : Int)⟩ : A5 (Int))).x3), .int .i64 (((⟨(0 : Int), (0 : Int), (0 : Int), (0 : Int), (0 : Int)⟩ : A5 (Int))).x4)]]) ?_
       refine Holds.seq ?_
       obtain ⟨b16, hb16, hzB12⟩ := bS hzB12
       refine Rg [.a, .a, .a, .a, .a, .a, (.v (vB b16))] (sl 45 [(0, vS a0), (2, vP [2] (0)), (4, vP [4] (0)), (5, vI i_t5_9), (6, vP [6] (0)), (32, vB b16)] [bx [6] (encSCost r15.1), bx [4] (encSCost b4_10), bx [2] [.int .i64 (0 : Int), .int .i64 (0 : Int), .int .i64 (((⟨(0 : Int), (0 : Int), (0 : Int), (0 : Int), (0 : Int)⟩ : A5 (Int))).x0), .int .i64 (((⟨(0 : Int), (0 : Int), (0 : Int), (0 : Int), (0 : Int)⟩ : A5 (Int))).x1), .int .i64 (((⟨(0 : Int), (0 : Int), (0 : Int), (0 : Int), (0 : Int)⟩ : A5 (Int))).x2), .int .i64 (((⟨(0 : Int), (0 : Int), (0 : Int), (0 : Int), (0 : Int)⟩ : A5 (Int))).x3), .int .i64 (((⟨(0 : Int), (0 : Int), (0 : Int), (0 : Int), (0 : Int)⟩ : A5 (Int))).x4)]]) (aG ((!r15.2) == false) <| aG ((!r15.2) == false) <| aF (!r15.2) <| aB hb16 <| aN) ?_
       refine iB hzB12 (fun b17 hzB12 => ?_) (fun b17 hzB12 => ?_)
       · refine Rg [.a, .a, .a] (sl 45 [(2, vP [2] (0)), (3, vI (3 : Int))] [bx [2] [.int .i64 (0 : Int), .int .i64 (0 : Int), .int .i64 (((⟨(0 : Int), (0 : Int), (0 : Int), (0 : Int), (0 : Int)⟩ : A5 (Int))).x0), .int .i64 (((⟨(0 : Int), (0 : Int), (0 : Int), (0 : Int), (0 : Int)⟩ : A5 (Int))).x1), .int .i64 (((⟨(0 : Int), (0 : Int), (0 : Int), (0 : Int), (0 : Int)⟩ : A5 (Int))).x2), .int .i64 (((⟨(0 : Int), (0 : Int), (0 : Int), (0 : Int), (0 : Int)⟩ : A5 (Int))).x3), .int .i64 (((⟨(0 : Int), (0 : Int), (0 : Int), (0 : Int), (0 : Int)⟩ : A5 (Int))).x4)]]) (aC (And.intro trivial okp34) <| aN) ?_
         refine Holds.ret ?_
         refine Tr ?_
         refine blockQ.ret ?_
         refine Tr ?_
         have hoB12_ := hoB12 _ (sI hzB12).symm
         subst hoB12_
         replace h := sumL h
         refine Tr ?_
         refine blockQ.ret ?_
         refine Tr ?_
         exact bE (.tup [.agg [.int .i64 (0 : Int), .int .i64 (0 : Int), .int .i64 (((⟨(0 : Int), (0 : Int), (0 : Int), (0 : Int), (0 : Int)⟩ : A5 (Int))).x0), .int .i64 (((⟨(0 : Int), (0 : Int), (0 : Int), (0 : Int), (0 : Int)⟩ : A5 (Int))).x1), .int .i64 (((⟨(0 : Int), (0 : Int), (0 : Int), (0 : Int), (0 : Int)⟩ : A5 (Int))).x2), .int .i64 (((⟨(0 : Int), (0 : Int), (0 : Int), (0 : Int), (0 : Int)⟩ : A5 (Int))).x3), .int .i64 (((⟨(0 : Int), (0 : Int), (0 : Int), (0 : Int), (0 : Int)⟩ : A5 (Int))).x4)], vI (3 : Int)]) (.tup [.agg (encSCost (⟨(0 : Int), (0 : Int), (⟨(0 : Int), (0 : Int), (0 : Int), (0 : Int), (0 : Int)⟩ : A5 (Int))⟩ : SCost)), vI (3 : Int)]) (congrArg (fun (q : SCost × Int) => (.tup [vA encSCost q.1, vI q.2] : V)) (sI h))
       · refine Holds.skip ?_
         refine Tn ?_
         refine Re [.a, .a] (sl 45 [(0, vS a0), (2, vP [2] (0)), (4, vP [4] (0)), (5, vI i_t5_9), (6, vP [6] (0)), (32, vB b16), (34, vA encSCost r15.1)] [bx [6] (encSCost r15.1), bx [4] (encSCost r15.1), bx [2] [.int .i64 (0 : Int), .int .i64 (0 : Int), .int .i64 (((⟨(0 : Int), (0 : Int), (0 : Int), (0 : Int), (0 : Int)⟩ : A5 (Int))).x0), .int .i64 (((⟨(0 : Int), (0 : Int), (0 : Int), (0 : Int), (0 : Int)⟩ : A5 (Int))).x1), .int .i64 (((⟨(0 : Int), (0 : Int), (0 : Int), (0 : Int), (0 : Int)⟩ : A5 (Int))).x2), .int .i64 (((⟨(0 : Int), (0 : Int), (0 : Int), (0 : Int), (0 : Int)⟩ : A5 (Int))).x3), .int .i64 (((⟨(0 : Int), (0 : Int), (0 : Int), (0 : Int), (0 : Int)⟩ : A5 (Int))).x4)]]) (aN) ?_
         refine blockQ.normal ?_
         refine Tn ?_
         refine Re [.a, .a, .a] (sl 45 [(0, vS a0), (2, vP [2] (0)), (4, vP [4] (0)), (5, vI (wrap64 (i_t5_9 + (1 : Int)))), (6, vP [6] (0)), (16, vI i_t5_9), (17, vI (wrap64 (i_t5_9 + (1 : Int)))), (32, vB b16), (34, vA encSCost r15.1)] [bx [6] (encSCost r15.1), bx [4] (encSCost r15.1), bx [2] [.int .i64 (0 : Int), .int .i64 (0 : Int), .int .i64 (((⟨(0 : Int), (0 : Int), (0 : Int), (0 : Int), (0 : Int)⟩ : A5 (Int))).x0), .int .i64 (((⟨(0 : Int), (0 : Int), (0 : Int), (0 : Int), (0 : Int)⟩ : A5 (Int))).x1), .int .i64 (((⟨(0 : Int), (0 : Int), (0 : Int), (0 : Int), (0 : Int)⟩ : A5 (Int))).x2), .int .i64 (((⟨(0 : Int), (0 : Int), (0 : Int), (0 : Int), (0 : Int)⟩ : A5 (Int))).x3), .int .i64 (((⟨(0 : Int), (0 : Int), (0 : Int), (0 : Int), (0 : Int)⟩ : A5 (Int))).x4)]]) (aN) ?_
         refine Tn ⟨((wrap64 (i_t5_9 + (1 : Int))), r15.1), (sI hzB12).symm, wT⟩
     · refine Holds.exit ?_
       refine thenQ.exit ?_
       have hoB12_ := hoB12 _ (sI hzB12).symm
       subst hoB12_
       replace h := sumR h
       refine thenQ.exit ?_
       refine blockQ.out ?_
       refine Tn ⟨b4_10, h, wT⟩
   · rintro b4_2 hJ3
     replace hJ3 : r08_Parse_J3 a0 b4_2 = some r := hJ3
     unfold r08_Parse_J3 at hJ3
     refine Holds.seq ?_
     obtain ⟨r4, hr4, hJ3⟩ := bS hJ3
     obtain ⟨b5, hb5, hJ3⟩ := bS hJ3
     refine Rg [.a, .a, .a, .a, (.c (vS r4)), .a, .a, (.v (vB b5))] (sl 45 [(2, vP [2] (0)), (4, vP [4] (0)), (42, vB b5)] [bx [4] (encSCost b4_2), bx [2] [.int .i64 (0 : Int), .int .i64 (0 : Int), .int .i64 (((⟨(0 : Int), (0 : Int), (0 : Int), (0 : Int), (0 : Int)⟩ : A5 (Int))).x0), .int .i64 (((⟨(0 : Int), (0 : Int), (0 : Int), (0 : Int), (0 : Int)⟩ : A5 (Int))).x1), .int .i64 (((⟨(0 : Int), (0 : Int), (0 : Int), (0 : Int), (0 : Int)⟩ : A5 (Int))).x2), .int .i64 (((⟨(0 : Int), (0 : Int), (0 : Int), (0 : Int), (0 : Int)⟩ : A5 (Int))).x3), .int .i64 (((⟨(0 : Int), (0 : Int), (0 : Int), (0 : Int), (0 : Int)⟩ : A5 (Int))).x4)]]) (aC (c1 hr4 r08_Text_ok) <| aH ((a0 == ([] : List UInt8)) == false) <| aF (a0 == ([] : List UInt8)) <| aB hb5 <| aN) ?_
     refine iB hJ3 (fun b6 hJ3 => ?_) (fun b6 hJ3 => ?_)
     · refine Rg [.a, .a, .a] (sl 45 [(2, vP [2] (0)), (3, vI (3 : Int))] [bx [2] [.int .i64 (0 : Int), .int .i64 (0 : Int), .int .i64 (((⟨(0 : Int), (0 : Int), (0 : Int), (0 : Int), (0 : Int)⟩ : A5 (Int))).x0), .int .i64 (((⟨(0 : Int), (0 : Int), (0 : Int), (0 : Int), (0 : Int)⟩ : A5 (Int))).x1), .int .i64 (((⟨(0 : Int), (0 : Int), (0 : Int), (0 : Int), (0 : Int)⟩ : A5 (Int))).x2), .int .i64 (((⟨(0 : Int), (0 : Int), (0 : Int), (0 : Int), (0 : Int)⟩ : A5 (Int))).x3), .int .i64 (((⟨(0 : Int), (0 : Int), (0 : Int), (0 : Int), (0 : Int)⟩ : A5 (Int))).x4)]]) (aC (And.intro trivial okp34) <| aN) ?_
       refine Holds.ret ?_
       refine Tr ?_
       exact bE (.tup [.agg [.int .i64 (0 : Int), .int .i64 (0 : Int), .int .i64 (((⟨(0 : Int), (0 : Int), (0 : Int), (0 : Int), (0 : Int)⟩ : A5 (Int))).x0), .int .i64 (((⟨(0 : Int), (0 : Int), (0 : Int), (0 : Int), (0 : Int)⟩ : A5 (Int))).x1), .int .i64 (((⟨(0 : Int), (0 : Int), (0 : Int), (0 : Int), (0 : Int)⟩ : A5 (Int))).x2), .int .i64 (((⟨(0 : Int), (0 : Int), (0 : Int), (0 : Int), (0 : Int)⟩ : A5 (Int))).x3), .int .i64 (((⟨(0 : Int), (0 : Int), (0 : Int), (0 : Int), (0 : Int)⟩ : A5 (Int))).x4)], vI (3 : Int)]) (.tup [.agg (encSCost (⟨(0 : Int), (0 : Int), (⟨(0 : Int), (0 : Int), (0 : Int), (0 : Int), (0 : Int)⟩ : A5 (Int))⟩ : SCost)), vI (3 : Int)]) (congrArg (fun (q : SCost × Int) => (.tup [vA encSCost q.1, vI q.2] : V)) (sI hJ3))
     · refine Holds.skip ?_
       refine Tn ?_
       refine Rg [.a, .a, .a] (sl 45 [(2, vP [2] (0)), (3, vI (0 : Int))] [bx [2] (encSCost b4_2)]) (aN) ?_
       refine Holds.ret ?_
       exact bE (.tup [vA encSCost b4_2, vI (0 : Int)]) (.tup [.agg (encSCost b4_2), vI (0 : Int)]) (congrArg (fun (q : SCost × Int) => (.tup [vA encSCost q.1, vI q.2] : V)) (sI hJ3))
end Go.PL
