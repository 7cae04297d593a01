/- The run, whole: the function answers true. -/
import Derived.Test.YteljmjpmhhofoaaGreatDoorCk1
import Derived.Test.YteljmjpmhhofoaaGreatDoorCk2
import Derived.Test.YteljmjpmhhofoaaGreatDoorCk3
import Derived.Test.YteljmjpmhhofoaaGreatDoorCk4
import Derived.Test.YteljmjpmhhofoaaGreatDoorCk5
import Derived.Test.YteljmjpmhhofoaaGreatDoorCk6
import Derived.Test.YteljmjpmhhofoaaGreatDoorCk7
namespace Go.Proofs.YteljmjpmhhofoaaGreatDoor.Run
open Go Am
theorem gives : ∃ s, Am.start Tryz.prog 3 [] = .more s ∧ Gives Tryz.prog 1000000 (.bool true) s := Gives.go1 c1 (.go c2 (.go c3 (.go c4 (.go c5 (.go c6 (.go c7 (.go c8 (.go c9 (.go c10 (.go c11 (.go c12 (.go c13 (.go c14 (.go c15 (.go c16 (.go c17 (.go c18 (.go c19 (.go c20 (.go c21 (.go c22 (.go c23 (.go c24 (.end c25))))))))))))))))))))))))
end Go.Proofs.YteljmjpmhhofoaaGreatDoor.Run
