/- Stretches of the run, by the kernel. -/
import Derived.Test.YteljmjpmhhofoabGreatDoorSt1
namespace Go.Proofs.YteljmjpmhhofoabGreatDoor.Run
open Go Am
set_option maxRecDepth 100000
theorem c5 : Am.go Tryz.prog 208 [11, 10, 9] s5.hp s4 = .more s5 := by kernel_rfl
theorem c6 : endV Tryz.prog 208 [11, 10, 4, 3, 1, 0] s5 = some (.bool true) := by kernel_rfl
end Go.Proofs.YteljmjpmhhofoabGreatDoor.Run
