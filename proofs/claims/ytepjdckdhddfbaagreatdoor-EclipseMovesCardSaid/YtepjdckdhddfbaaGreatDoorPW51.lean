import Derived.Test.YtepjdckdhddfbaaGreatDoorProg
import Derived.Test.YtepjdckdhddfbaaGreatDoorPFa
import Derived.Test.YtepjdckdhddfbaaGreatDoorPQb
import Derived.Test.YtepjdckdhddfbaaGreatDoorPW50
set_option linter.unusedVariables false
set_option linter.unusedSimpArgs false
set_option maxRecDepth 4000
namespace Go.Proofs.Ec
open Go.RowKit Go.Proofs.Sx
open Ecl
theorem Dark_ok {s : SV} {l : List Ball} {w : World} (hR : Rd w encL 3 s.v l) (hb : isBalls l = true) : Ret Tryz.prog 19 #[s.v] w fun u w' => (∃ s' : SV, u = .tuple #[s'.v, .int .i64 0] ∧ Fr w w' encI 1 s'.v (dark l)) ∧ Below w.heap.size w w' := by
 refine (Dark_e s l w hR).mono ?_
 rintro e w' ⟨u, he, h | h, hB⟩
 ·exact ⟨u, he, h.2, hB⟩
 rw [hb] at h
 exact absurd h.1 (by decide)
end Go.Proofs.Ec
