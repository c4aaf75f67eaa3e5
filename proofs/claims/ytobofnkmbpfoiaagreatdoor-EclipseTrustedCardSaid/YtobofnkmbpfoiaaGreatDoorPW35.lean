import Derived.Test.YtobofnkmbpfoiaaGreatDoorProg
import Derived.Test.YtobofnkmbpfoiaaGreatDoorPFa
import Derived.Test.YtobofnkmbpfoiaaGreatDoorPQb
import Derived.Test.YtobofnkmbpfoiaaGreatDoorPW31
import Derived.Test.YtobofnkmbpfoiaaGreatDoorPQa
set_option linter.unusedVariables false
set_option linter.unusedSimpArgs false
set_option maxRecDepth 4000
namespace Go.Proofs.Ec
open Go.RowKit Go.Proofs.Sx
open Ecl
theorem Within_no {x : EV} {e : Eng} {s2 : SV} {st : List Int} {d1 d2 : Int} {w : World} (hE0 : RdE w x e s2 st) (hspan : (inR d1 1 9000 && inR d2 d1 9000 && decide (d2 - d1 ≤ 400)) = true) (hw : within e st d1 d2 = none) : Ret Tryz.prog 34 #[.agg #[x.b.v, .int .i64 e.nnum, .int .i64 e.nden, .int .i64 e.nstart, x.s.v, x.m.v, x.n.v, x.f.v, .int .i64 e.new, .int .i64 e.full, .int .i64 e.wide], s2.v, .int .i64 d1, .int .i64 d2] w fun u w' => u = .tuple #[.int .i64 0, .int .i64 5] ∧ Below w.heap.size w w' := by
 have := Within_s x e s2 st d1 d2 w hE0 hspan
 rw [hw] at this
 exact this
theorem Within_is {x : EV} {e : Eng} {s2 : SV} {st : List Int} {d1 d2 n : Int} {w : World} (hE0 : RdE w x e s2 st) (hspan : (inR d1 1 9000 && inR d2 d1 9000 && decide (d2 - d1 ≤ 400)) = true) (hw : within e st d1 d2 = some n) : Ret Tryz.prog 34 #[.agg #[x.b.v, .int .i64 e.nnum, .int .i64 e.nden, .int .i64 e.nstart, x.s.v, x.m.v, x.n.v, x.f.v, .int .i64 e.new, .int .i64 e.full, .int .i64 e.wide], s2.v, .int .i64 d1, .int .i64 d2] w fun u w' => u = .tuple #[.int .i64 n, .int .i64 0] ∧ Below w.heap.size w w' := by
 have := Within_s x e s2 st d1 d2 w hE0 hspan
 rw [hw] at this
 exact this
theorem Until_lo {x : EV} {e : Eng} {s2 : SV} {st : List Int} {d1 d2 lt v : Int} {w : World} (hE0 : RdE w x e s2 st) (hspan : (inR d1 1 9000 && inR d2 d1 9000 && decide (d2 - d1 ≤ 400) && inR lt 0 30) = true) (hu : until_ e st d1 d2 lt = v) (h : v < d1) : Ret Tryz.prog 35 #[.agg #[x.b.v, .int .i64 e.nnum, .int .i64 e.nden, .int .i64 e.nstart, x.s.v, x.m.v, x.n.v, x.f.v, .int .i64 e.new, .int .i64 e.full, .int .i64 e.wide], s2.v, .int .i64 d1, .int .i64 d2, .int .i64 lt] w fun u w' => u = .tuple #[.int .i64 0, .int .i64 5] ∧ Below w.heap.size w w' := by
 have := Until_s x e s2 st d1 d2 lt w hE0 hspan
 rw [hu, if_pos h] at this
 exact this
theorem Until_hi {x : EV} {e : Eng} {s2 : SV} {st : List Int} {d1 d2 lt v : Int} {w : World} (hE0 : RdE w x e s2 st) (hspan : (inR d1 1 9000 && inR d2 d1 9000 && decide (d2 - d1 ≤ 400) && inR lt 0 30) = true) (hu : until_ e st d1 d2 lt = v) (h : d1 ≤ v) : Ret Tryz.prog 35 #[.agg #[x.b.v, .int .i64 e.nnum, .int .i64 e.nden, .int .i64 e.nstart, x.s.v, x.m.v, x.n.v, x.f.v, .int .i64 e.new, .int .i64 e.full, .int .i64 e.wide], s2.v, .int .i64 d1, .int .i64 d2, .int .i64 lt] w fun u w' => u = .tuple #[.int .i64 v, .int .i64 0] ∧ Below w.heap.size w w' := by
 have := Until_s x e s2 st d1 d2 lt w hE0 hspan
 rw [hu, if_neg (by omega)] at this
 exact this
theorem until_two (e : Eng) (st : List Int) {d1 d2 lt : Int} (h : d1 ≤ d2) : (∃ v, until_ e st d1 d2 lt = v ∧ v < d1 ∧ missed e st d1 d1 lt ≠ []) ∨ ∃ v, until_ e st d1 d2 lt = v ∧ d1 ≤ v ∧ v ≤ d2 ∧ missed e st d1 v lt = [] ∧ (v ≠ d2 → missed e st (v + 1) (v + 1) lt ≠ []) := by
 unfold until_
 cases hm : missed e st d1 d2 lt with
 | nil => exact .inr ⟨d2, rfl, h, Int.le_refl _, hm, fun q => absurd rfl q⟩
 | cons y r =>
  obtain ⟨h1, h2, h3⟩ := missed_head hm
  by_cases hd : y.day - 1 < d1
  ·have he : y.day = d1 := by omega
   exact .inl ⟨y.day - 1, rfl, hd, he ▸ h3⟩
  ·exact .inr ⟨y.day - 1, rfl, by omega, by omega, h2, fun _ => by rw [show y.day - 1 + 1 = y.day by omega]; exact h3⟩
end Go.Proofs.Ec
