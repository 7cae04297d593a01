/- Stretches of the run, by the kernel. -/
import Derived.Test.YteljmjpmhhofoacGreatDoorSt1
namespace Go.Proofs.YteljmjpmhhofoacGreatDoor.Run
open Go Am
set_option maxRecDepth 100000
theorem c4 : Am.go Tryz.prog 281 [12, 7] s4.hp s3 = .more s4 := by kernel_rfl
theorem c5 : Am.go Tryz.prog 281 [11, 10, 8] s5.hp s4 = .more s5 := by kernel_rfl
theorem c6 : Am.go Tryz.prog 281 [11, 10, 8, 7] s6.hp s5 = .more s6 := by kernel_rfl
end Go.Proofs.YteljmjpmhhofoacGreatDoor.Run
