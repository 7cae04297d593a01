/- Stretches of the run, by the kernel. -/
import Derived.Test.YteljmjpmhhofoacGreatDoorSt2
namespace Go.Proofs.YteljmjpmhhofoacGreatDoor.Run
open Go Am
set_option maxRecDepth 100000
theorem c13 : Am.go Tryz.prog 281 [11, 10, 9, 8] s13.hp s12 = .more s13 := by kernel_rfl
theorem c14 : Am.go Tryz.prog 281 [12, 8] s14.hp s13 = .more s14 := by kernel_rfl
theorem c15 : Am.go Tryz.prog 281 [12] s15.hp s14 = .more s15 := by kernel_rfl
end Go.Proofs.YteljmjpmhhofoacGreatDoor.Run
