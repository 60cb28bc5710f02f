/- Functions of the program, as partial functions in Lean, with proofs. -/
import Derived.Test.YtieikooalmfmfaaDoorPlPtoPlPo
import Derived.Test.YtieikooalmfmfaaDoorPlDeB
namespace Go.PL
open Go Go.RowKit Go.Proofs
set_option maxRecDepth 100000
set_option linter.all false
set_option maxHeartbeats 1000000
theorem bytes3 : Tryd.prog.bytesOf 3 = 8 := by kernel_rfl
def okSDeck (x : SDeck) : Prop := okL 8 (okI .i64) x.Cards ∧ okL 8 (okI .i64) x.Counts ∧ True
theorem decSDeck {n : Nat} {cs : List C} (h : typed Tryd.prog n 24 cs) : ∃ x : SDeck, cs = encSDeck x ∧ okSDeck x := by
  obtain ⟨m, dss, h0, hE⟩ := typed_struct (ts := [22, 22]) Tryd.underlying24 rfl h
  obtain ⟨p, h1, h2⟩ := (eachC (dL Tryd.underlying22 bytes3 (dI Tryd.underlying3)) (eachC (dL Tryd.underlying22 bytes3 (dI Tryd.underlying3)) eachN)) hE
  exact ⟨⟨p.1, p.2.1⟩, h0.trans h1, h2⟩
end Go.PL
