import Derived.Test.YtobofnkmbpfoiabGreatDoorProg
import Derived.Test.YtobofnkmbpfoiabGreatDoorPFa
import Derived.Test.YtobofnkmbpfoiabGreatDoorPQb
import Derived.Test.YtobofnkmbpfoiabGreatDoorPW51
import Derived.Test.YtobofnkmbpfoiabGreatDoorPQa
set_option linter.unusedVariables false
set_option linter.unusedSimpArgs false
set_option maxRecDepth 4000
namespace Go.Proofs.Ec
open Go.RowKit Go.Proofs.Sx
open Ecl
theorem nb_of {l : List Ball} {p r : Int} (hb : isBalls l = true) (h1 : inR p 0 ((l.length : Int) - 1) = true) (h2 : inR r 0 ((l.length : Int) - 1) = true) (h3 : p ≠ r) : (isBalls l && inR p 0 ((l.length : Int) - 1) && inR r 0 ((l.length : Int) - 1) && !decide (p = r)) = true := by
 rw [hb, h1, h2, decide_eq_false h3]
 rfl
end Go.Proofs.Ec
