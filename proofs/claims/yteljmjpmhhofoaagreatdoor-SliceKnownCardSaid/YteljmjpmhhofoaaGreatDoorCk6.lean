/- Stretches of the run, by the kernel. -/
import Derived.Test.YteljmjpmhhofoaaGreatDoorSt2
namespace Go.Proofs.YteljmjpmhhofoaaGreatDoor.Run
open Go Am
set_option maxRecDepth 100000
theorem c21 : Am.go Tryz.prog 1000000 [12] s21.hp s20 = .more s21 := by kernel_rfl
theorem c22 : Am.go Tryz.prog 1000000 [11, 10, 9, 8, 7] s22.hp s21 = .more s22 := by kernel_rfl
theorem c23 : Am.go Tryz.prog 1000000 [11, 10, 8] s23.hp s22 = .more s23 := by kernel_rfl
theorem c24 : Am.go Tryz.prog 1000000 [11, 10, 9] s24.hp s23 = .more s24 := by kernel_rfl
end Go.Proofs.YteljmjpmhhofoaaGreatDoor.Run
