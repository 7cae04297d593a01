/- Stretches of the run, by the kernel. -/
import Derived.Test.YteljmjpmhhofoacGreatDoorSt1
import Derived.Test.YteljmjpmhhofoacGreatDoorSt2
namespace Go.Proofs.YteljmjpmhhofoacGreatDoor.Run
open Go Am
set_option maxRecDepth 100000
theorem c10 : Am.go Tryz.prog 281 [11, 10, 8] s10.hp s9 = .more s10 := by kernel_rfl
theorem c11 : Am.go Tryz.prog 281 [12, 7] s11.hp s10 = .more s11 := by kernel_rfl
theorem c12 : Am.go Tryz.prog 281 [11, 10, 7] s12.hp s11 = .more s12 := by kernel_rfl
end Go.Proofs.YteljmjpmhhofoacGreatDoor.Run
