/- What functions of this program give. -/
import Derived.Test.YtomphmeopjpejaaGreatDoorDataW
set_option linter.unusedVariables false
set_option linter.unusedSimpArgs false
namespace Go.AM.IR
set_option maxRecDepth 100000
theorem adL:ag GA 669 [] [] ⟨.bool true,[]⟩:=Qx (F:=Zt) 100000000 rfl (by kernel_rfl) (by kernel_rfl)
end Go.AM.IR
