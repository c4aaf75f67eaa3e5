import Derived.Test.YtobofnkmbpfoiaaGreatDoorProg
import Derived.Test.YtobofnkmbpfoiaaGreatDoorPFa
import Derived.Test.YtobofnkmbpfoiaaGreatDoorPQb
import Derived.Test.YtobofnkmbpfoiaaGreatDoorPW31
import Derived.Test.YtobofnkmbpfoiaaGreatDoorPQa
set_option linter.unusedVariables false
set_option linter.unusedSimpArgs false
set_option maxRecDepth 4000
namespace Go.Proofs.Ec
open Go.RowKit Go.Proofs.Sx
open Ecl
theorem mem_of_any {l : List Ecl.Mark} {y : Ecl.Mark} (h : y ∈ l) : l.any (fun z => decide (z = y)) = true := List.any_eq_true.2 ⟨y, h, decide_eq_true rfl⟩
end Go.Proofs.Ec
