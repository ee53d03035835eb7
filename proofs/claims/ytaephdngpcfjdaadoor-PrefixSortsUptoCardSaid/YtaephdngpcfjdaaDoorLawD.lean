/- The facts on the world that the contracts of the library ask for, from the listed variables and the world's shape. -/
import Derived.Test.YtaephdngpcfjdaaDoorLawC
import Derived.Test.YtaephdngpcfjdaaDoorRows
set_option linter.unusedVariables false
set_option linter.unusedSimpArgs false
namespace Go.Proofs.YtaephdngpcfjdaaDoor.tie
open Go Go.AM Go.AM.IR Go.Proofs
set_option maxRecDepth 100000
theorem powData : (Rows.laid_internal_strconv_uint64pow10 : DataW Unit) = Lib.tabData .u64 Lib.pow10Tab := by kernel_rfl
theorem nPow : Tryd.prog.globalNamed "internal/strconv.uint64pow10" = some 1 := by kernel_rfl
theorem nSyn : Tryd.prog.globalNamed "strconv.ErrSyntax" = some 2 := by kernel_rfl
theorem nRan : Tryd.prog.globalNamed "strconv.ErrRange" = some 3 := by kernel_rfl
theorem yPow : (Tryd.prog.globals[1]?).map (·.type) = some 127 := by kernel_rfl
theorem ySyn : (Tryd.prog.globals[2]?).map (·.type) = some 80 := by kernel_rfl
theorem yRan : (Tryd.prog.globals[3]?).map (·.type) = some 80 := by kernel_rfl
theorem asMet (W : World) : laidMetH Tryd.prog Rows.prefixOrdersUptoRow.laid W = laidMet Tryd.prog Rows.prefixOrdersUptoRow.laid W := by kernel_rfl
theorem facts {W : World} (hL : laidMetH Tryd.prog Rows.prefixOrdersUptoRow.laid W) (hsh : W.ShapedOpen Tryd.prog) : Facts (goW W) := by
  rw [asMet] at hL
  have h3 := hL.tail.tail
  have h5 := h3.tail.tail
  have h6 := h5.tail
  refine ⟨?_, ?_, ?_, ?_⟩
  · rw [powData] at h3
    exact tabAt_of rfl nPow (Lib.tabIs_of_head nPow yPow Tryd.underlying127 Tryd.underlying101 (by kernel_rfl) (by kernel_rfl) h3)
  · exact intAt_of rfl (cell_of_shapedOpen_int (t := 3) (zero := #[.int .i64 0]) hsh (by decide) (by kernel_rfl) rfl (by kernel_rfl) (by kernel_rfl) Tryd.underlying3)
  · exact errAt_of rfl h6 nSyn ySyn Tryd.underlying80
  · exact errAt_of rfl h5 nRan yRan Tryd.underlying80
end Go.Proofs.YtaephdngpcfjdaaDoor.tie
