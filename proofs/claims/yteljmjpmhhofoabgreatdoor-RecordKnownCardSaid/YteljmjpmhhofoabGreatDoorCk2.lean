/- Stretches of the run, by the kernel. -/
import Derived.Test.YteljmjpmhhofoabGreatDoorSt1
namespace Go.Proofs.YteljmjpmhhofoabGreatDoor.Run
open Go Am
set_option maxRecDepth 100000
theorem c3 : br Tryz.prog 208 [3] 0 [4, 3, 2] s3.hp s2 = .more s3 := by kernel_rfl
theorem c3b : br Tryz.prog 208 [3] 1 [4, 3, 2] s3.hp s2 = .more s3 := by kernel_rfl
theorem c3n : brN Tryz.prog 208 [3] s2 = 2 := by kernel_rfl
theorem c4 : Am.go Tryz.prog 208 [11, 10, 8, 3, 2] s4.hp s3 = .more s4 := by kernel_rfl
end Go.Proofs.YteljmjpmhhofoabGreatDoor.Run
