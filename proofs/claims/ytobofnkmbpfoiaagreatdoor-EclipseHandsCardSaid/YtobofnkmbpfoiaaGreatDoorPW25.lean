import Derived.Test.YtobofnkmbpfoiaaGreatDoorProg
import Derived.Test.YtobofnkmbpfoiaaGreatDoorPFa
import Derived.Test.YtobofnkmbpfoiaaGreatDoorPQb
import Derived.Test.YtobofnkmbpfoiaaGreatDoorPW24
import Derived.Test.YtobofnkmbpfoiaaGreatDoorPQc
set_option linter.unusedVariables false
set_option linter.unusedSimpArgs false
set_option maxRecDepth 4000
namespace Go.Proofs.Ec
open Go.RowKit Go.Proofs.Sx
open Ecl
theorem Widened_R (x : EV) (e : Eng) (wd : Int) (w : World) : Ret Tryz.prog 51 #[.agg #[x.b.v, .int .i64 e.nnum, .int .i64 e.nden, .int .i64 e.nstart, x.s.v, x.m.v, x.n.v, x.f.v, .int .i64 e.new, .int .i64 e.full, .int .i64 e.wide], .int .i64 wd] w fun u w' => u = .agg #[x.b.v, .int .i64 e.nnum, .int .i64 e.nden, .int .i64 e.nstart, x.s.v, x.m.v, x.n.v, x.f.v, .int .i64 e.new, .int .i64 e.full, .int .i64 wd] ∧ Below w.heap.size w w' := by
 have hp : Hp c0 w w [] := Hp.start trivial
 refine enter Tryz.func51 rfl (N := 10) rfl rfl fun a h => ?_
 refine rg ?_
 refine wl (box (cs := #[_, _, _, _, _, _, _, _, _, _, _]) h hp rfl rfl fun a w1 g1 hg1 h hp => ?_)
 refine wl (all h hp zc32 fun a w2 g2 hg2 h hp => ?_)
 refine wn ?_
 refine rg ?_
 refine wvl h (ldO (us := [_, _, _, _, _, _, _, _, _, _, _]) h hp rfl 0 rfl sz32 rfl ag32) fun a h => ?_
 refine wl (all h hp zc32 fun a w3 g3 hg3 h hp => ?_)
 refine wl (sta h hp rfl rfl 2 rfl sz32 rfl rfl fun w4 hp => ?_)
 refine wn ?_
 refine rg ?_
 refine wmv h rfl fun a h => ?_
 refine wvl h (fad h rfl fo32_7) fun a h => ?_
 refine wl (st1 h hp rfl rfl 2 rfl rfl sz3 rfl fun w5 hp => ?_)
 refine wn ?_
 refine rg ?_
 refine wvl h (ldO (us := [_, _, _, _, _, _, _, _, _, _, _]) h hp rfl 2 rfl sz32 rfl ag32) fun a h => ?_
 refine wl (sta h hp rfl rfl 1 rfl sz32 rfl rfl fun w6 hp => ?_)
 refine wn ?_
 refine wp_ret ?_
 try simp only [xqs, ↓reduceIte, Nat.reduceEqDiff]
 refine rt_1 h rfl (rvA h hp rfl 1 rfl ag32 sz32) ?_
 exact ⟨_, rfl, rfl, hp.ext.below⟩
end Go.Proofs.Ec
