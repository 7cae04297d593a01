/- Stretches of the run, by the kernel. -/
import Derived.Test.YteljmjpmhhofoaaGreatDoorSt1
namespace Go.Proofs.YteljmjpmhhofoaaGreatDoor.Run
open Go Am
set_option maxRecDepth 100000
theorem c9 : Am.go Tryz.prog 1000000 [12] s9.hp s8 = .more s9 := by kernel_rfl
theorem c10 : Am.go Tryz.prog 1000000 [11, 10, 9, 7] s10.hp s9 = .more s10 := by kernel_rfl
theorem c11 : Am.go Tryz.prog 1000000 [11, 10, 8] s11.hp s10 = .more s11 := by kernel_rfl
theorem c12 : Am.go Tryz.prog 1000000 [11, 10, 9, 7] s12.hp s11 = .more s12 := by kernel_rfl
end Go.Proofs.YteljmjpmhhofoaaGreatDoor.Run
