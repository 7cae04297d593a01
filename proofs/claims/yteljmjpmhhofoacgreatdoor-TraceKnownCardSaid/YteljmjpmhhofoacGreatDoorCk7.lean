/- Stretches of the run, by the kernel. -/
import Derived.Test.YteljmjpmhhofoacGreatDoorSt3
namespace Go.Proofs.YteljmjpmhhofoacGreatDoor.Run
open Go Am
set_option maxRecDepth 100000
theorem c19 : endV Tryz.prog 281 [10, 8, 7, 6, 5, 4, 3, 2, 0] s18 = some (.bool true) := by kernel_rfl
end Go.Proofs.YteljmjpmhhofoacGreatDoor.Run
