import Derived.KernelRfl
import Derived.Test.YtmadknpaljaecaaGreatDoorKag
import Derived.Test.YtmadknpaljaecaaGreatDoorKai
set_option linter.all false
namespace Go.Proofs.YtmadknpaljaecaaGreatDoor.Ev.D
open Go Go.Proofs.YtmadknpaljaecaaGreatDoor.Ev
set_option maxRecDepth 1000000
theorem k5 : isYes (exF C3 100000000 KR (deadV 193) ⟨.nil, 5⟩ (kRet 0)) = true := by kernel_rfl
end Go.Proofs.YtmadknpaljaecaaGreatDoor.Ev.D
