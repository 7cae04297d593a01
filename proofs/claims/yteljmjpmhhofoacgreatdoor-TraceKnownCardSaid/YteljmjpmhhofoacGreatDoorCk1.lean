/- Stretches of the run, by the kernel. -/
import Derived.Test.YteljmjpmhhofoacGreatDoorSt1
namespace Go.Proofs.YteljmjpmhhofoacGreatDoor.Run
open Go Am
set_option maxRecDepth 100000
theorem c1 : Am.go1 Tryz.prog 281 [11, 10, 9, 8, 7] s1.hp (Am.start Tryz.prog 3 []) = .more s1 := by kernel_rfl
theorem c2 : Am.go Tryz.prog 281 [11, 10, 8, 7] s2.hp s1 = .more s2 := by kernel_rfl
theorem c3 : Am.go Tryz.prog 281 [11, 10, 9, 8, 7] s3.hp s2 = .more s3 := by kernel_rfl
end Go.Proofs.YteljmjpmhhofoacGreatDoor.Run
