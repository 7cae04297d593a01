/- Stretches of the run, by the kernel. -/
import Derived.Test.YteljmjpmhhofoacGreatDoorSt1
namespace Go.Proofs.YteljmjpmhhofoacGreatDoor.Run
open Go Am
set_option maxRecDepth 100000
theorem c7 : Am.go Tryz.prog 281 [12, 8] s7.hp s6 = .more s7 := by kernel_rfl
theorem c8 : Am.go Tryz.prog 281 [12] s8.hp s7 = .more s8 := by kernel_rfl
theorem c9 : Am.go Tryz.prog 281 [11, 10, 8] s9.hp s8 = .more s9 := by kernel_rfl
end Go.Proofs.YteljmjpmhhofoacGreatDoor.Run
