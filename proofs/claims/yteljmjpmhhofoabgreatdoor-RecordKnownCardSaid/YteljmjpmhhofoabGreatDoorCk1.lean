/- Stretches of the run, by the kernel. -/
import Derived.Test.YteljmjpmhhofoabGreatDoorSt1
namespace Go.Proofs.YteljmjpmhhofoabGreatDoor.Run
open Go Am
set_option maxRecDepth 100000
theorem c1 : Am.go1 Tryz.prog 208 [11, 10, 8] s1.hp (Am.start Tryz.prog 3 []) = .more s1 := by kernel_rfl
theorem c2 : Am.go Tryz.prog 208 [10, 5, 4, 1, 0] s2.hp s1 = .more s2 := by kernel_rfl
end Go.Proofs.YteljmjpmhhofoabGreatDoor.Run
