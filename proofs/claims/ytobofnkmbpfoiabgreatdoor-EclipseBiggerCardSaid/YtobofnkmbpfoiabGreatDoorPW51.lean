import Derived.Test.YtobofnkmbpfoiabGreatDoorProg
import Derived.Test.YtobofnkmbpfoiabGreatDoorPFa
import Derived.Test.YtobofnkmbpfoiabGreatDoorPQb
import Derived.Test.YtobofnkmbpfoiabGreatDoorPW50
set_option linter.unusedVariables false
set_option linter.unusedSimpArgs false
set_option maxRecDepth 4000
namespace Go.Proofs.Ec
open Go.RowKit Go.Proofs.Sx
open Ecl
theorem Shades_v {s : SV} {l : List Ball} {p r : Int} {y z : Ball} {w : World} (hR : Rd w encL 3 s.v l) (hok : (isBalls l && inR p 0 ((l.length : Int) - 1) && inR r 0 ((l.length : Int) - 1) && !decide (p = r)) = true) (hy : l[p.toNat]? = some y) (hz : l[r.toNat]? = some z) : Ret Tryz.prog 18 #[s.v, .int .i64 p, .int .i64 r] w fun u w' => u = .tuple #[.int .i64 (shadesB y z), .int .i64 0] ∧ Below w.heap.size w w' := by
 have := Shades_s s l p r w hR hok
 rwa [getD_ball hy, getD_ball hz] at this
end Go.Proofs.Ec
