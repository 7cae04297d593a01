/- Stretches of the run, by the kernel. -/
import Derived.Test.YteljmjpmhhofoaaGreatDoorSt1
namespace Go.Proofs.YteljmjpmhhofoaaGreatDoor.Run
open Go Am
set_option maxRecDepth 100000
theorem c5 : Am.go Tryz.prog 1000000 [12] s5.hp s4 = .more s5 := by kernel_rfl
theorem c6 : Am.go Tryz.prog 1000000 [11, 10, 9, 8] s6.hp s5 = .more s6 := by kernel_rfl
theorem c7 : Am.go Tryz.prog 1000000 [11, 10, 9, 7] s7.hp s6 = .more s7 := by kernel_rfl
theorem c8 : Am.go Tryz.prog 1000000 [12, 8] s8.hp s7 = .more s8 := by kernel_rfl
end Go.Proofs.YteljmjpmhhofoaaGreatDoor.Run
