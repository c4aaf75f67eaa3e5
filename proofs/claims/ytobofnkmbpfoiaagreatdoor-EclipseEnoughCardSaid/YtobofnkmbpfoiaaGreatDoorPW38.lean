import Derived.Test.YtobofnkmbpfoiaaGreatDoorProg
import Derived.Test.YtobofnkmbpfoiaaGreatDoorPFa
import Derived.Test.YtobofnkmbpfoiaaGreatDoorPQb
import Derived.Test.YtobofnkmbpfoiaaGreatDoorPW31
import Derived.Test.YtobofnkmbpfoiaaGreatDoorPQa
set_option linter.unusedVariables false
set_option linter.unusedSimpArgs false
set_option maxRecDepth 4000
namespace Go.Proofs.Ec
open Go.RowKit Go.Proofs.Sx
open Ecl
theorem Widens_no {x : EV} {e : Eng} {s2 : SV} {st : List Int} {d1 d2 lt v : Int} {w : World} (hE0 : RdE w x e s2 st) (hspan : (inR d1 1 9000 && inR d2 d1 9000 && decide (d2 - d1 ≤ 400) && inR lt 0 30) = true) (hu : widens e st d1 d2 lt = v) (h : 5400 < v) : Ret Tryz.prog 45 #[.agg #[x.b.v, .int .i64 e.nnum, .int .i64 e.nden, .int .i64 e.nstart, x.s.v, x.m.v, x.n.v, x.f.v, .int .i64 e.new, .int .i64 e.full, .int .i64 e.wide], s2.v, .int .i64 d1, .int .i64 d2, .int .i64 lt] w fun u w' => u = .tuple #[.int .i64 0, .int .i64 5] ∧ Below w.heap.size w w' := by
 have := Widens_s x e s2 st d1 d2 lt w hE0 hspan
 rw [hu, if_neg (by omega)] at this
 exact this
theorem Widens_is {x : EV} {e : Eng} {s2 : SV} {st : List Int} {d1 d2 lt v : Int} {w : World} (hE0 : RdE w x e s2 st) (hspan : (inR d1 1 9000 && inR d2 d1 9000 && decide (d2 - d1 ≤ 400) && inR lt 0 30) = true) (hu : widens e st d1 d2 lt = v) (h : v ≤ 5400) : Ret Tryz.prog 45 #[.agg #[x.b.v, .int .i64 e.nnum, .int .i64 e.nden, .int .i64 e.nstart, x.s.v, x.m.v, x.n.v, x.f.v, .int .i64 e.new, .int .i64 e.full, .int .i64 e.wide], s2.v, .int .i64 d1, .int .i64 d2, .int .i64 lt] w fun u w' => u = .tuple #[.int .i64 v, .int .i64 0] ∧ Below w.heap.size w w' := by
 have := Widens_s x e s2 st d1 d2 lt w hE0 hspan
 rw [hu, if_pos h] at this
 exact this
theorem Settings_no {x : EV} {e : Eng} {d1 d2 lt : Int} {w : World} (hG : RdG w x e) (hok : isEngine e = true) (hspan : (inR d1 1 9000 && inR d2 d1 9000 && decide (d2 - d1 ≤ 400) && inR lt 0 30) = true) (hs : settings e d1 d2 lt = none) : Ret Tryz.prog 46 #[.agg #[x.b.v, .int .i64 e.nnum, .int .i64 e.nden, .int .i64 e.nstart, x.s.v, x.m.v, x.n.v, x.f.v, .int .i64 e.new, .int .i64 e.full, .int .i64 e.wide], .int .i64 d1, .int .i64 d2, .int .i64 lt] w fun u w' => u = .tuple #[.slice none 0 0, .int .i64 5] ∧ Below w.heap.size w w' := by
 have := Settings_s x e d1 d2 lt w hG hok hspan
 rw [hs] at this
 exact this
theorem Settings_is {x : EV} {e : Eng} {d1 d2 lt : Int} {l : List Int} {w : World} (hG : RdG w x e) (hok : isEngine e = true) (hspan : (inR d1 1 9000 && inR d2 d1 9000 && decide (d2 - d1 ≤ 400) && inR lt 0 30) = true) (hs : settings e d1 d2 lt = some l) : Ret Tryz.prog 46 #[.agg #[x.b.v, .int .i64 e.nnum, .int .i64 e.nden, .int .i64 e.nstart, x.s.v, x.m.v, x.n.v, x.f.v, .int .i64 e.new, .int .i64 e.full, .int .i64 e.wide], .int .i64 d1, .int .i64 d2, .int .i64 lt] w fun u w' => (∃ s : SV, u = .tuple #[s.v, .int .i64 0] ∧ Fr w w' encI 1 s.v l) ∧ Below w.heap.size w w' := by
 have := Settings_s x e d1 d2 lt w hG hok hspan
 rw [hs] at this
 exact this
end Go.Proofs.Ec
