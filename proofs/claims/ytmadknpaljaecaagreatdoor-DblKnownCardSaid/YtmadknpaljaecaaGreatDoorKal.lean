import Derived.KernelRfl
import Derived.Test.YtmadknpaljaecaaGreatDoorKag
import Derived.Test.YtmadknpaljaecaaGreatDoorKai
set_option linter.all false
namespace Go.Proofs.YtmadknpaljaecaaGreatDoor.Ev.D
open Go Go.Proofs.YtmadknpaljaecaaGreatDoor.Ev
set_option maxRecDepth 1000000
theorem k4 : isYes (exF C3 100000000 (.reg KF2.pre) (deadV 193) ⟨.nil, 3⟩ (kFor C3 100000000 193 4 KF2)) = true := by kernel_rfl
end Go.Proofs.YtmadknpaljaecaaGreatDoor.Ev.D
