/- What the functions of this program give, on the abstract machine. -/
import Derived.Test.YtomphmeopjpejaaGreatDoorDataA
import Derived.Test.YtomphmeopjpejaaGreatDoorMachineC
import Derived.Test.YtomphmeopjpejaaGreatDoorDataB
set_option linter.unusedVariables false
set_option linter.unusedSimpArgs false
namespace Go.AM.IR
set_option maxRecDepth 100000
theorem awake669_gives : Gives G 669 [] [] ⟨.bool true, []⟩ := gives_runX 100000000 rfl rfl (by kernel_rfl)
end Go.AM.IR
