/- Stretches of the run, by the kernel. -/
import Derived.Test.YteljmjpmhhofoaaGreatDoorSt2
namespace Go.Proofs.YteljmjpmhhofoaaGreatDoor.Run
open Go Am
set_option maxRecDepth 100000
theorem c25 : endV Tryz.prog 1000000 [11, 10, 5, 1, 0] s24 = some (.bool true) := by kernel_rfl
end Go.Proofs.YteljmjpmhhofoaaGreatDoor.Run
