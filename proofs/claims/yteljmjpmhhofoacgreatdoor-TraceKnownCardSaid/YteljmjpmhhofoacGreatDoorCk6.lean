/- Stretches of the run, by the kernel. -/
import Derived.Test.YteljmjpmhhofoacGreatDoorSt2
import Derived.Test.YteljmjpmhhofoacGreatDoorSt3
namespace Go.Proofs.YteljmjpmhhofoacGreatDoor.Run
open Go Am
set_option maxRecDepth 100000
theorem c16 : Am.go Tryz.prog 281 [11, 10, 9] s16.hp s15 = .more s16 := by kernel_rfl
theorem c17 : Am.go Tryz.prog 281 [11, 10, 9, 8, 7] s17.hp s16 = .more s17 := by kernel_rfl
theorem c18 : Am.go Tryz.prog 281 [11, 10, 8] s18.hp s17 = .more s18 := by kernel_rfl
end Go.Proofs.YteljmjpmhhofoacGreatDoor.Run
