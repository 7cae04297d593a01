/- Stretches of the run, by the kernel. -/
import Derived.Test.YteljmjpmhhofoaaGreatDoorSt1
import Derived.Test.YteljmjpmhhofoaaGreatDoorSt2
namespace Go.Proofs.YteljmjpmhhofoaaGreatDoor.Run
open Go Am
set_option maxRecDepth 100000
theorem c17 : Am.go Tryz.prog 1000000 [11, 10, 9, 7] s17.hp s16 = .more s17 := by kernel_rfl
theorem c18 : Am.go Tryz.prog 1000000 [12, 8] s18.hp s17 = .more s18 := by kernel_rfl
theorem c19 : Am.go Tryz.prog 1000000 [11, 10, 9] s19.hp s18 = .more s19 := by kernel_rfl
theorem c20 : Am.go Tryz.prog 1000000 [12, 7] s20.hp s19 = .more s20 := by kernel_rfl
end Go.Proofs.YteljmjpmhhofoaaGreatDoor.Run
