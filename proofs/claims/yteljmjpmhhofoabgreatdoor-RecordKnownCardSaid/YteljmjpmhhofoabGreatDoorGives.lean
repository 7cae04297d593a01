/- The run, whole: the function answers true. -/
import Derived.Test.YteljmjpmhhofoabGreatDoorCk1
import Derived.Test.YteljmjpmhhofoabGreatDoorCk2
import Derived.Test.YteljmjpmhhofoabGreatDoorCk3
namespace Go.Proofs.YteljmjpmhhofoabGreatDoor.Run
open Go Am
theorem gives : ∃ s, Am.start Tryz.prog 3 [] = .more s ∧ Gives Tryz.prog 208 (.bool true) s := Gives.go1 c1 (.go c2 (.br2 c3 c3b c3n (.go c4 (.go c5 (.end c6)))))
end Go.Proofs.YteljmjpmhhofoabGreatDoor.Run
