/- The run, whole: the function answers true. -/
import Derived.Test.YteljmjpmhhofoacGreatDoorCk1
import Derived.Test.YteljmjpmhhofoacGreatDoorCk2
import Derived.Test.YteljmjpmhhofoacGreatDoorCk3
import Derived.Test.YteljmjpmhhofoacGreatDoorCk4
import Derived.Test.YteljmjpmhhofoacGreatDoorCk5
import Derived.Test.YteljmjpmhhofoacGreatDoorCk6
import Derived.Test.YteljmjpmhhofoacGreatDoorCk7
namespace Go.Proofs.YteljmjpmhhofoacGreatDoor.Run
open Go Am
theorem gives : ∃ s, Am.start Tryz.prog 3 [] = .more s ∧ Gives Tryz.prog 281 (.bool true) s := Gives.go1 c1 (.go c2 (.go c3 (.go c4 (.go c5 (.go c6 (.go c7 (.go c8 (.go c9 (.go c10 (.go c11 (.go c12 (.go c13 (.go c14 (.go c15 (.go c16 (.go c17 (.go c18 (.end c19))))))))))))))))))
end Go.Proofs.YteljmjpmhhofoacGreatDoor.Run
