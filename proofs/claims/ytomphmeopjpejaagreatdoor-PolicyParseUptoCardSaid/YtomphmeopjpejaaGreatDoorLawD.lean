/- The facts on the world that the contracts of the library ask for, from the listed variables and the world's shape. -/
import Derived.Test.YtomphmeopjpejaaGreatDoorLawC
set_option linter.unusedVariables false
set_option linter.unusedSimpArgs false
namespace Go.Proofs.YtomphmeopjpejaaGreatDoor.tie
open Go Go.AM Go.AM.IR Go.Proofs
set_option maxRecDepth 100000
theorem powData:(Rows.laid_internal_strconv_uint64pow10:DataW Unit)=Lib.tabData .u64 Lib.pow10Tab:=by kernel_rfl
theorem nPow:Tryz.prog.globalNamed "internal/strconv.uint64pow10" =some 0:=by kernel_rfl
theorem nSyn:Tryz.prog.globalNamed "strconv.ErrSyntax" =some 4:=by kernel_rfl
theorem nRan:Tryz.prog.globalNamed "strconv.ErrRange" =some 5:=by kernel_rfl
theorem yPow:(Tryz.prog.globals[0]?).map (·.type)=some 261:=by kernel_rfl
theorem ySyn:(Tryz.prog.globals[4]?).map (·.type)=some 227:=by kernel_rfl
theorem yRan:(Tryz.prog.globals[5]?).map (·.type)=some 227:=by kernel_rfl
theorem asMet (W:World):laidMetH Tryz.prog Rows.policyCheckUptoRow.laid W=laidMet Tryz.prog Rows.policyCheckUptoRow.laid W:=by kernel_rfl
theorem facts {W:World}(hL:laidMetH Tryz.prog Rows.policyCheckUptoRow.laid W)(hsh:W.ShapedOpen Tryz.prog):Facts (goW W):=by
 rw[asMet] at hL;have h3:=hL.tail.tail;have h5:=hL.tail.tail.tail.tail;have h6:=hL.tail.tail.tail.tail.tail;refine ⟨?_,?_,?_,?_⟩
 ·rw[powData] at h3
  exact Wx rfl nPow (Lib.tabIs_of_head nPow yPow Tryz.underlying261 Tryz.underlying166 (by kernel_rfl) (by kernel_rfl) h3)
 ·exact Yn rfl (cell_of_shapedOpen_int (t:=3) (zero:= #[.int .i64 0]) hsh (by decide) (by kernel_rfl) rfl (by kernel_rfl) (by kernel_rfl) Tryz.underlying3)
 ·exact JW rfl h6 nSyn ySyn Tryz.underlying227
 ·exact JW rfl h5 nRan yRan Tryz.underlying227
end Go.Proofs.YtomphmeopjpejaaGreatDoor.tie
