import Derived.Test.YtepjdckdhddfbaaGreatDoorProg
import Derived.Test.YtepjdckdhddfbaaGreatDoorPFa
import Derived.Test.YtepjdckdhddfbaaGreatDoorPQb
import Derived.Test.YtepjdckdhddfbaaGreatDoorPW31
set_option linter.unusedVariables false
set_option linter.unusedSimpArgs false
set_option maxRecDepth 4000
namespace Go.Proofs.Ec
open Go.RowKit Go.Proofs.Sx
open Ecl
theorem en46_W50 : EnT Tryz.prog 46 := ento Tryz.func46
theorem en58_W50 : EnT Tryz.prog 58 := ento Tryz.func58
theorem en26_W50 : EnT Tryz.prog 26 := ento Tryz.func26
theorem en24_W50 : EnT Tryz.prog 24 := ento Tryz.func24
theorem en59_W50 : EnT Tryz.prog 59 := ento Tryz.func59
theorem isBall_e (s : SV) (l : List Ball) (n : Int) (w : World) (hR : Rd w encL 3 s.v l) : Ret Tryz.prog 55 #[s.v, .int .i64 n] w fun u w' => u = .bool (inR n 0 ((l.length : Int) - 1)) ∧ Below w.heap.size w w' := by
 have hfit := hR.fits
 have hp : Hp c0 w w [] := Hp.start trivial
 refine enter Tryz.func55 rfl (N := 10) rfl rfl fun a h => ?_
 refine rg ?_
 refine wsn h rfl fun a h => ?_
 refine rg ?_
 refine wm2 h rfl rfl rfl rfl fun a h => ?_
 refine wvl h (lenR h rfl Tryz.underlying37 (hR.keep (by decide) hp cl0)) fun a h => ?_
 refine wvl h (sub h rfl rfl (by omega)) fun a h => ?_
 refine wl (cal h rfl en61 (in_e _ _ _ _) fun u w1 ⟨e1, e2⟩ a h => ?_)
 subst e1
 subst e2
 refine wsn h rfl fun a h => ?_
 refine wp_ret ?_
 try simp only [xqs]
 refine rt_1 h rfl (rvT h rfl) ?_
 exact ⟨_, rfl, rfl, hp.bel⟩
theorem Ball_R (s : SV) (l : List Ball) (n : Int) (w : World) (hR : Rd w encL 3 s.v l) : Ret Tryz.prog 23 #[s.v, .int .i64 n] w fun u w' => u = .bool (inR n 0 ((l.length : Int) - 1)) ∧ Below w.heap.size w w' := by
 have hfit := hR.fits
 have hp : Hp c0 w w [] := Hp.start trivial
 refine enter Tryz.func23 rfl (N := 10) rfl rfl fun a h => ?_
 refine rg ?_
 refine wsn h rfl fun a h => ?_
 refine rg ?_
 refine wm2 h rfl rfl rfl rfl fun a h => ?_
 refine wvl h (lenR h rfl Tryz.underlying37 (hR.keep (by decide) hp cl0)) fun a h => ?_
 refine wvl h (sub h rfl rfl (by omega)) fun a h => ?_
 refine wl (cal h rfl en46_W50 (in_R _ _ _ _) fun u w1 ⟨e1, e2⟩ a h => ?_)
 subst e1
 subst e2
 refine wsn h rfl fun a h => ?_
 refine wp_ret ?_
 try simp only [xqs]
 refine rt_1 h rfl (rvT h rfl) ?_
 exact ⟨_, rfl, rfl, hp.bel⟩
theorem power_R (d1 : Ball) (w : World) (hxd1 : -100 ≤ d1.x ∧ d1.x ≤ 100) (hyd1 : -100 ≤ d1.y ∧ d1.y ≤ 100) (hrd1 : 1 ≤ d1.r ∧ d1.r ≤ 20) : Ret Tryz.prog 58 #[.agg #[.int .i64 d1.x, .int .i64 d1.y, .int .i64 d1.r]] w fun u w' => u = .int .i64 (d1.x * d1.x + d1.y * d1.y - d1.r * d1.r) ∧ Below w.heap.size w w' := by
 have q1 := sq_bd (m := 100) (x := d1.x) (by omega)
 have q2 := sq_bd (m := 100) (x := d1.y) (by omega)
 have q3 := sq_bd (m := 20) (x := d1.r) (by omega)
 have hp : Hp c0 w w [] := Hp.start trivial
 refine enter Tryz.func58 rfl (N := 20) rfl rfl fun a h => ?_
 refine rg ?_
 refine wl (box (cs := #[_, _, _]) h hp rfl rfl fun a w1 g1 hg1 h hp => ?_)
 refine wsn h rfl fun a h => ?_
 refine rg ?_
 refine wvl h (fad h rfl fo51_0) fun a h => ?_
 refine wvl h (ldo h hp rfl 0 rfl rfl ag3) fun a h => ?_
 refine wvl h (fad h rfl fo51_0) fun a h => ?_
 refine wvl h (ldo h hp rfl 0 rfl rfl ag3) fun a h => ?_
 refine wvl h (mul h rfl rfl (by omega)) fun a h => ?_
 refine wvl h (fad h rfl fo51_1) fun a h => ?_
 refine wvl h (ldo h hp rfl 0 rfl rfl ag3) fun a h => ?_
 refine wvl h (fad h rfl fo51_1) fun a h => ?_
 refine wvl h (ldo h hp rfl 0 rfl rfl ag3) fun a h => ?_
 refine wvl h (mul h rfl rfl (by omega)) fun a h => ?_
 refine wvl h (add h rfl rfl (by omega)) fun a h => ?_
 refine wvl h (fad h rfl fo51_2) fun a h => ?_
 refine wvl h (ldo h hp rfl 0 rfl rfl ag3) fun a h => ?_
 refine wvl h (fad h rfl fo51_2) fun a h => ?_
 refine wvl h (ldo h hp rfl 0 rfl rfl ag3) fun a h => ?_
 refine wvl h (mul h rfl rfl (by omega)) fun a h => ?_
 refine wvl h (sub h rfl rfl (by omega)) fun a h => ?_
 refine wsn h rfl fun a h => ?_
 refine wp_ret ?_
 try simp only [xqs]
 refine rt_1 h rfl (rvT h rfl) ?_
 exact ⟨_, rfl, rfl, hp.bel⟩
theorem Before_R (d1 d2 : Ball) (w : World) (hxd1 : -100 ≤ d1.x ∧ d1.x ≤ 100) (hyd1 : -100 ≤ d1.y ∧ d1.y ≤ 100) (hrd1 : 1 ≤ d1.r ∧ d1.r ≤ 20) (hxd2 : -100 ≤ d2.x ∧ d2.x ≤ 100) (hyd2 : -100 ≤ d2.y ∧ d2.y ≤ 100) (hrd2 : 1 ≤ d2.r ∧ d2.r ≤ 20) : Ret Tryz.prog 26 #[.agg #[.int .i64 d1.x, .int .i64 d1.y, .int .i64 d1.r], .agg #[.int .i64 d2.x, .int .i64 d2.y, .int .i64 d2.r]] w fun u w' => u = .bool (decide ((d1.x * d1.x + d1.y * d1.y - d1.r * d1.r) < (d2.x * d2.x + d2.y * d2.y - d2.r * d2.r))) ∧ Below w.heap.size w w' := by
 have q1 := sq_bd (m := 100) (x := d1.x) (by omega)
 have q2 := sq_bd (m := 100) (x := d1.y) (by omega)
 have q3 := sq_bd (m := 20) (x := d1.r) (by omega)
 have q4 := sq_bd (m := 100) (x := d2.x) (by omega)
 have q5 := sq_bd (m := 100) (x := d2.y) (by omega)
 have q6 := sq_bd (m := 20) (x := d2.r) (by omega)
 have hp : Hp c0 w w [] := Hp.start trivial
 refine enter Tryz.func26 rfl (N := 10) rfl rfl fun a h => ?_
 refine rg ?_
 refine wl (box (cs := #[_, _, _]) h hp rfl rfl fun a w1 g1 hg1 h hp => ?_)
 refine wl (box (cs := #[_, _, _]) h hp rfl rfl fun a w2 g2 hg2 h hp => ?_)
 refine wsn h rfl fun a h => ?_
 refine rdh (n := 6) hp mixed rfl ?_
 have hp := hp.drew
 refine tkq 0 h rfl hp (fun W hp => ldO (us := [_, _, _]) h hp rfl 0 rfl sz51 rfl ag51) fun a h => ?_
 refine tkq 2 h rfl hp (fun W hp => ldO (us := [_, _, _]) h hp rfl 1 rfl sz51 rfl ag51) fun a h => ?_
 refine one 1 (by kernel_rfl) rfl (cal h rfl en58_W50 (power_R _ _ (by omega) (by omega) (by omega)) fun u w3 ⟨e1, e2⟩ a h => ⟨hp.below e2, ?_⟩)
 subst e1
 have hp := hp.below e2
 refine one 3 (by kernel_rfl) rfl (cal h rfl en58_W50 (power_R _ _ (by omega) (by omega) (by omega)) fun u w4 ⟨e1, e2⟩ a h => ⟨hp.below e2, ?_⟩)
 subst e1
 have hp := hp.below e2
 refine tkq 4 h rfl hp (fun W _ => lss h rfl rfl) fun a h => ?_
 refine tka 5 h rfl hp rfl fun a h => ?_
 refine dn (by kernel_rfl) ?_
 refine wp_ret ?_
 try simp only [xqs]
 refine rt_1 h rfl (rvT h rfl) ?_
 exact ⟨_, rfl, rfl, hp.bel⟩
theorem apart_R (d1 d2 : Ball) (w : World) (hxd1 : -100 ≤ d1.x ∧ d1.x ≤ 100) (hyd1 : -100 ≤ d1.y ∧ d1.y ≤ 100) (hrd1 : 1 ≤ d1.r ∧ d1.r ≤ 20) (hxd2 : -100 ≤ d2.x ∧ d2.x ≤ 100) (hyd2 : -100 ≤ d2.y ∧ d2.y ≤ 100) (hrd2 : 1 ≤ d2.r ∧ d2.r ≤ 20) : Ret Tryz.prog 59 #[.agg #[.int .i64 d1.x, .int .i64 d1.y, .int .i64 d1.r], .agg #[.int .i64 d2.x, .int .i64 d2.y, .int .i64 d2.r]] w fun u w' => u = .bool (apartB d1 d2) ∧ Below w.heap.size w w' := by
 have q1 := sq_bd (m := 200) (x := d1.x - d2.x) (by omega)
 have q2 := sq_bd (m := 200) (x := d1.y - d2.y) (by omega)
 have q3 := sq_bd (m := 40) (x := d1.r + d2.r) (by omega)
 have hp : Hp c0 w w [] := Hp.start trivial
 refine enter Tryz.func59 rfl (N := 34) rfl rfl fun a h => ?_
 refine rg ?_
 refine wl (box (cs := #[_, _, _]) h hp rfl rfl fun a w1 g1 hg1 h hp => ?_)
 refine wl (box (cs := #[_, _, _]) h hp rfl rfl fun a w2 g2 hg2 h hp => ?_)
 refine wsn h rfl fun a h => ?_
 refine rdh (n := 18) hp mixed rfl ?_
 have hp := hp.drew
 refine tkq 0 h rfl hp (fun W _ => fad h rfl fo51_0) fun a h => ?_
 refine tkq 1 h rfl hp (fun W hp => ldo h hp rfl 0 rfl rfl ag3) fun a h => ?_
 refine tkq 2 h rfl hp (fun W _ => fad h rfl fo51_0) fun a h => ?_
 refine tkq 3 h rfl hp (fun W hp => ldo h hp rfl 1 rfl rfl ag3) fun a h => ?_
 refine tkq 4 h rfl hp (fun W _ => sub h rfl rfl (by omega)) fun a h => ?_
 refine tkq 5 h rfl hp (fun W _ => fad h rfl fo51_1) fun a h => ?_
 refine tkq 6 h rfl hp (fun W hp => ldo h hp rfl 0 rfl rfl ag3) fun a h => ?_
 refine tkq 7 h rfl hp (fun W _ => fad h rfl fo51_1) fun a h => ?_
 refine tkq 8 h rfl hp (fun W hp => ldo h hp rfl 1 rfl rfl ag3) fun a h => ?_
 refine tkq 9 h rfl hp (fun W _ => sub h rfl rfl (by omega)) fun a h => ?_
 refine tkq 10 h rfl hp (fun W _ => fad h rfl fo51_2) fun a h => ?_
 refine tkq 11 h rfl hp (fun W hp => ldo h hp rfl 0 rfl rfl ag3) fun a h => ?_
 refine tkq 12 h rfl hp (fun W _ => fad h rfl fo51_2) fun a h => ?_
 refine tkq 13 h rfl hp (fun W hp => ldo h hp rfl 1 rfl rfl ag3) fun a h => ?_
 refine tkq 14 h rfl hp (fun W _ => add h rfl rfl (by omega)) fun a h => ?_
 refine tka 15 h rfl hp rfl fun a h => ?_
 refine tka 16 h rfl hp rfl fun a h => ?_
 refine tka 17 h rfl hp rfl fun a h => ?_
 refine dn (by kernel_rfl) ?_
 refine rg ?_
 refine wm2 h rfl rfl rfl rfl fun a h => ?_
 refine wvl h (mul h rfl rfl (by omega)) fun a h => ?_
 refine wm2 h rfl rfl rfl rfl fun a h => ?_
 refine wvl h (mul h rfl rfl (by omega)) fun a h => ?_
 refine wvl h (add h rfl rfl (by omega)) fun a h => ?_
 refine wm2 h rfl rfl rfl rfl fun a h => ?_
 refine wvl h (mul h rfl rfl (by omega)) fun a h => ?_
 refine wvl h (gtr h rfl rfl) fun a h => ?_
 refine wsn h rfl fun a h => ?_
 refine wp_ret ?_
 try simp only [xqs]
 refine rt_1 h rfl (rvT h rfl) ?_
 exact ⟨_, rfl, rfl, hp.bel⟩
set_option maxHeartbeats 2000000 in
theorem Shades_R (d1 d2 : Ball) (w : World) (h1 : BallBd d1) (h2 : BallBd d2) : Ret Tryz.prog 24 #[.agg #[.int .i64 d1.x, .int .i64 d1.y, .int .i64 d1.r], .agg #[.int .i64 d2.x, .int .i64 d2.y, .int .i64 d2.r]] w fun u w' => u = .int .i64 (shadesB d1 d2) ∧ Below w.heap.size w w' := by
 obtain ⟨x1, y1, r1, p1⟩ := h1
 obtain ⟨x2, y2, r2, p2⟩ := h2
 have q1 := sq_bd (m := 100) (x := d1.x) (by omega)
 have q2 := sq_bd (m := 100) (x := d1.y) (by omega)
 have q3 := sq_bd (m := 20) (x := d1.r) (by omega)
 have q4 := sq_bd (m := 100) (x := d2.x) (by omega)
 have q5 := sq_bd (m := 100) (x := d2.y) (by omega)
 have q6 := sq_bd (m := 20) (x := d2.r) (by omega)
 have q7 := mul_bd3 (m := 100) (n := 100) x1 x2
 have q8 := mul_bd3 (m := 100) (n := 100) y1 y2
 have q9 := mul_bd3 (x := d1.r) (y := d2.r) (m := 20) (n := 20) (by omega) (by omega)
 have n1 := mul_bd3 (x := d1.r * d1.r) (y := d2.x * d2.x + d2.y * d2.y) (m := 400) (n := 20000) (by omega) (by omega)
 have n2 := mul_bd3 (x := d2.r * d2.r) (y := d1.x * d1.x + d1.y * d1.y) (m := 400) (n := 20000) (by omega) (by omega)
 have n3 := mul_bd3 (x := (d1.x * d1.x + d1.y * d1.y - d1.r * d1.r)) (y := (d2.x * d2.x + d2.y * d2.y - d2.r * d2.r)) (m := 20400) (n := 20400) (by omega) (by omega)
 have n4 := sq_bd (m := 40000) (x := d1.x * d2.x + d1.y * d2.y - d1.r * d2.r) (by omega)
 have n5 := sq_bd (m := 40000) (x := d1.x * d2.x + d1.y * d2.y + d1.r * d2.r) (by omega)
 have hp : Hp c0 w w [] := Hp.start trivial
 refine enter Tryz.func24 rfl (N := 98) rfl rfl fun a h => ?_
 refine rg ?_
 refine wl (box (cs := #[_, _, _]) h hp rfl rfl fun a w1 g1 hg1 h hp => ?_)
 refine wl (box (cs := #[_, _, _]) h hp rfl rfl fun a w2 g2 hg2 h hp => ?_)
 refine wsn h rfl fun a h => ?_
 refine wp_seq ?_
 refine rg ?_
 refine wvl h (ldO (us := [_, _, _]) h hp rfl 0 rfl sz51 rfl ag51) fun a h => ?_
 refine wvl h (ldO (us := [_, _, _]) h hp rfl 1 rfl sz51 rfl ag51) fun a h => ?_
 refine wl (cal h rfl en26_W50 (Before_R _ _ _ (by omega) (by omega) (by omega) (by omega) (by omega) (by omega)) fun u w3 ⟨e1, e2⟩ a h => ?_)
 subst e1
 have hp := hp.below e2
 refine wvl h (not_ h rfl) fun a h => ?_
 refine wn ?_
 refine cnd1 h rfl (fun hb1 => ?_) (fun hb1 => ?_)
 ·refine rg ?_
  refine wsn h rfl fun a h => ?_
  refine wp_ret ?_
  try simp only [xqs]
  refine rt_1 h rfl (rvT h rfl) ?_
  refine ⟨_, rfl, congrArg (Value.int .i64) ?_, hp.bel⟩
  simp only [Bool.not_eq_true', Bool.not_eq_false', decide_eq_true_eq, decide_eq_false_iff_not, ge_iff_le, gt_iff_lt] at hb1
  unfold shadesB Ball.pow
  simp only
  repeat' (first | rfl | (split <;> first | rfl | omega | skip))
 refine skp ?_
 refine rdh (n := 18) hp mixed rfl ?_
 have hp := hp.drew
 refine tkq 0 h rfl hp (fun W _ => fad h rfl fo51_0) fun a h => ?_
 refine tkq 1 h rfl hp (fun W hp => ldo h hp rfl 0 rfl rfl ag3) fun a h => ?_
 refine tkq 2 h rfl hp (fun W _ => fad h rfl fo51_0) fun a h => ?_
 refine tkq 3 h rfl hp (fun W hp => ldo h hp rfl 1 rfl rfl ag3) fun a h => ?_
 refine tkq 4 h rfl hp (fun W _ => mul h rfl rfl (by omega)) fun a h => ?_
 refine tkq 5 h rfl hp (fun W _ => fad h rfl fo51_1) fun a h => ?_
 refine tkq 6 h rfl hp (fun W hp => ldo h hp rfl 0 rfl rfl ag3) fun a h => ?_
 refine tkq 7 h rfl hp (fun W _ => fad h rfl fo51_1) fun a h => ?_
 refine tkq 8 h rfl hp (fun W hp => ldo h hp rfl 1 rfl rfl ag3) fun a h => ?_
 refine tkq 9 h rfl hp (fun W _ => mul h rfl rfl (by omega)) fun a h => ?_
 refine tkq 10 h rfl hp (fun W _ => add h rfl rfl (by omega)) fun a h => ?_
 refine tkq 11 h rfl hp (fun W _ => fad h rfl fo51_2) fun a h => ?_
 refine tkq 12 h rfl hp (fun W hp => ldo h hp rfl 0 rfl rfl ag3) fun a h => ?_
 refine tkq 13 h rfl hp (fun W _ => fad h rfl fo51_2) fun a h => ?_
 refine tkq 14 h rfl hp (fun W hp => ldo h hp rfl 1 rfl rfl ag3) fun a h => ?_
 refine tkq 15 h rfl hp (fun W _ => mul h rfl rfl (by omega)) fun a h => ?_
 refine tka 16 h rfl hp rfl fun a h => ?_
 refine tka 17 h rfl hp rfl fun a h => ?_
 refine dn (by kernel_rfl) ?_
 refine rdh (n := 6) hp mixed rfl ?_
 have hp := hp.drew
 refine tkq 0 h rfl hp (fun W hp => ldO (us := [_, _, _]) h hp rfl 0 rfl sz51 rfl ag51) fun a h => ?_
 refine tkq 2 h rfl hp (fun W hp => ldO (us := [_, _, _]) h hp rfl 1 rfl sz51 rfl ag51) fun a h => ?_
 refine one 1 (by kernel_rfl) rfl (cal h rfl en58_W50 (power_R _ _ (by omega) (by omega) (by omega)) fun u w4 ⟨e1, e2⟩ a h => ⟨hp.below e2, ?_⟩)
 subst e1
 have hp := hp.below e2
 refine one 3 (by kernel_rfl) rfl (cal h rfl en58_W50 (power_R _ _ (by omega) (by omega) (by omega)) fun u w5 ⟨e1, e2⟩ a h => ⟨hp.below e2, ?_⟩)
 subst e1
 have hp := hp.below e2
 refine tkq 4 h rfl hp (fun W _ => mul h rfl rfl (by omega)) fun a h => ?_
 refine tka 5 h rfl hp rfl fun a h => ?_
 refine dn (by kernel_rfl) ?_
 refine rg ?_
 refine wvl h (fad h rfl fo51_2) fun a h => ?_
 refine wvl h (ldo h hp rfl 0 rfl rfl ag3) fun a h => ?_
 refine wvl h (fad h rfl fo51_2) fun a h => ?_
 refine wvl h (ldo h hp rfl 0 rfl rfl ag3) fun a h => ?_
 refine wvl h (mul h rfl rfl (by omega)) fun a h => ?_
 refine wvl h (fad h rfl fo51_0) fun a h => ?_
 refine wvl h (ldo h hp rfl 1 rfl rfl ag3) fun a h => ?_
 refine wvl h (fad h rfl fo51_0) fun a h => ?_
 refine wvl h (ldo h hp rfl 1 rfl rfl ag3) fun a h => ?_
 refine wvl h (mul h rfl rfl (by omega)) fun a h => ?_
 refine wvl h (fad h rfl fo51_1) fun a h => ?_
 refine wvl h (ldo h hp rfl 1 rfl rfl ag3) fun a h => ?_
 refine wvl h (fad h rfl fo51_1) fun a h => ?_
 refine wvl h (ldo h hp rfl 1 rfl rfl ag3) fun a h => ?_
 refine wvl h (mul h rfl rfl (by omega)) fun a h => ?_
 refine wvl h (add h rfl rfl (by omega)) fun a h => ?_
 refine wvl h (mul h rfl rfl (by omega)) fun a h => ?_
 refine wvl h (fad h rfl fo51_2) fun a h => ?_
 refine wvl h (ldo h hp rfl 1 rfl rfl ag3) fun a h => ?_
 refine wvl h (fad h rfl fo51_2) fun a h => ?_
 refine wvl h (ldo h hp rfl 1 rfl rfl ag3) fun a h => ?_
 refine wvl h (mul h rfl rfl (by omega)) fun a h => ?_
 refine wvl h (fad h rfl fo51_0) fun a h => ?_
 refine wvl h (ldo h hp rfl 0 rfl rfl ag3) fun a h => ?_
 refine wvl h (fad h rfl fo51_0) fun a h => ?_
 refine wvl h (ldo h hp rfl 0 rfl rfl ag3) fun a h => ?_
 refine wvl h (mul h rfl rfl (by omega)) fun a h => ?_
 refine wvl h (fad h rfl fo51_1) fun a h => ?_
 refine wvl h (ldo h hp rfl 0 rfl rfl ag3) fun a h => ?_
 refine wvl h (fad h rfl fo51_1) fun a h => ?_
 refine wvl h (ldo h hp rfl 0 rfl rfl ag3) fun a h => ?_
 refine wvl h (mul h rfl rfl (by omega)) fun a h => ?_
 refine wvl h (add h rfl rfl (by omega)) fun a h => ?_
 refine wvl h (mul h rfl rfl (by omega)) fun a h => ?_
 refine wvl h (geq h rfl rfl) fun a h => ?_
 refine wsn h rfl fun a h => ?_
 refine wp_seq ?_
 refine rg ?_
 refine wm2 h rfl rfl rfl rfl fun a h => ?_
 refine wvl h (sub h rfl rfl (by omega)) fun a h => ?_
 refine wsn h rfl fun a h => ?_
 refine rg ?_
 refine wm2 h rfl rfl rfl rfl fun a h => ?_
 refine split (t := 75) h rfl (fun hb2 => ?_) (fun hb2 => ?_)
 ·refine wl (stp_on h rfl rfl rfl hb2 (vl h (mov h rfl) fun a h => ?_))
  refine wl (stp_on h rfl rfl rfl hb2 (vl h (geq h rfl rfl) fun a h => ?_))
  refine wvl h (pckT h rfl hb2 rfl) fun a h => ?_
  refine wmv h rfl fun a h => ?_
  refine split (t := 79) h rfl (fun hb3 => ?_) (fun hb3 => ?_)
  ·refine wl (stp_on h rfl rfl rfl hb3 (vl h (mov h rfl) fun a h => ?_))
   refine wl (stp_on h rfl rfl rfl hb3 (vl h (mov h rfl) fun a h => ?_))
   refine wl (stp_on h rfl rfl rfl hb3 (vl h (mul h rfl rfl (by omega)) fun a h => ?_))
   refine wl (stp_on h rfl rfl rfl hb3 (vl h (mov h rfl) fun a h => ?_))
   refine wl (stp_on h rfl rfl rfl hb3 (vl h (geq h rfl rfl) fun a h => ?_))
   refine wvl h (pckT h rfl hb3 rfl) fun a h => ?_
   refine wn ?_
   refine cnd1 h rfl (fun hb4 => ?_) (fun hb4 => ?_)
   ·refine rg ?_
    refine wsn h rfl fun a h => ?_
    refine wp_ret ?_
    try simp only [xqs]
    refine rt_1 h rfl (rvT h rfl) ?_
    refine ⟨_, rfl, congrArg (Value.int .i64) ?_, hp.bel⟩
    simp only [Bool.not_eq_true', Bool.not_eq_false', decide_eq_true_eq, decide_eq_false_iff_not, ge_iff_le, gt_iff_lt] at hb1 hb2 hb3 hb4
    unfold shadesB Ball.pow
    simp only
    repeat' (first | rfl | (split <;> first | rfl | omega | skip))
   refine skp ?_
   refine wp_seq ?_
   refine rg ?_
   refine wm2 h rfl rfl rfl rfl fun a h => ?_
   refine wvl h (add h rfl rfl (by omega)) fun a h => ?_
   refine wsn h rfl fun a h => ?_
   refine rg ?_
   refine wmv h rfl fun a h => ?_
   refine wvl h (gtr h rfl rfl) fun a h => ?_
   refine wmv h rfl fun a h => ?_
   refine split (t := 91) h rfl (fun hb5 => ?_) (fun hb5 => ?_)
   ·refine wl (stp_on h rfl rfl rfl hb5 (vl h (mov h rfl) fun a h => ?_))
    refine wl (stp_on h rfl rfl rfl hb5 (vl h (mov h rfl) fun a h => ?_))
    refine wl (stp_on h rfl rfl rfl hb5 (vl h (mul h rfl rfl (by omega)) fun a h => ?_))
    refine wl (stp_on h rfl rfl rfl hb5 (vl h (mov h rfl) fun a h => ?_))
    refine wl (stp_on h rfl rfl rfl hb5 (vl h (gtr h rfl rfl) fun a h => ?_))
    refine wvl h (pckT h rfl hb5 rfl) fun a h => ?_
    refine wn ?_
    refine cnd1 h rfl (fun hb6 => ?_) (fun hb6 => ?_)
    ·refine rg ?_
     refine wsn h rfl fun a h => ?_
     refine wp_ret ?_
     try simp only [xqs]
     refine rt_1 h rfl (rvT h rfl) ?_
     refine ⟨_, rfl, congrArg (Value.int .i64) ?_, hp.bel⟩
     simp only [Bool.not_eq_true', Bool.not_eq_false', decide_eq_true_eq, decide_eq_false_iff_not, ge_iff_le, gt_iff_lt] at hb1 hb2 hb3 hb4 hb5 hb6
     unfold shadesB Ball.pow
     simp only
     repeat' (first | rfl | (split <;> first | rfl | omega | skip))
    refine skp ?_
    refine rg ?_
    refine wsn h rfl fun a h => ?_
    refine wp_ret ?_
    try simp only [xqs]
    refine rt_1 h rfl (rvT h rfl) ?_
    refine ⟨_, rfl, congrArg (Value.int .i64) ?_, hp.bel⟩
    simp only [Bool.not_eq_true', Bool.not_eq_false', decide_eq_true_eq, decide_eq_false_iff_not, ge_iff_le, gt_iff_lt] at hb1 hb2 hb3 hb4 hb5 hb6
    unfold shadesB Ball.pow
    simp only
    repeat' (first | rfl | (split <;> first | rfl | omega | skip))
   refine wl (stp_off h rfl rfl rfl rfl rfl hb5 fun a h => ?_)
   refine wl (stp_off h rfl rfl rfl rfl rfl hb5 fun a h => ?_)
   refine wl (stp_off h rfl rfl rfl rfl rfl hb5 fun a h => ?_)
   refine wl (stp_off h rfl rfl rfl rfl rfl hb5 fun a h => ?_)
   refine wl (stp_off h rfl rfl rfl rfl rfl hb5 fun a h => ?_)
   refine wvl h (pckF h rfl hb5 rfl) fun a h => ?_
   refine wn ?_
   refine cnd1 h rfl (fun e => nomatch e) (fun _ => ?_)
   refine skp ?_
   refine rg ?_
   refine wsn h rfl fun a h => ?_
   refine wp_ret ?_
   try simp only [xqs]
   refine rt_1 h rfl (rvT h rfl) ?_
   refine ⟨_, rfl, congrArg (Value.int .i64) ?_, hp.bel⟩
   simp only [Bool.not_eq_true', Bool.not_eq_false', decide_eq_true_eq, decide_eq_false_iff_not, ge_iff_le, gt_iff_lt] at hb1 hb2 hb3 hb4 hb5
   unfold shadesB Ball.pow
   simp only
   repeat' (first | rfl | (split <;> first | rfl | omega | skip))
  refine wl (stp_off h rfl rfl rfl rfl rfl hb3 fun a h => ?_)
  refine wl (stp_off h rfl rfl rfl rfl rfl hb3 fun a h => ?_)
  refine wl (stp_off h rfl rfl rfl rfl rfl hb3 fun a h => ?_)
  refine wl (stp_off h rfl rfl rfl rfl rfl hb3 fun a h => ?_)
  refine wl (stp_off h rfl rfl rfl rfl rfl hb3 fun a h => ?_)
  refine wvl h (pckF h rfl hb3 rfl) fun a h => ?_
  refine wn ?_
  refine cnd1 h rfl (fun e => nomatch e) (fun _ => ?_)
  refine skp ?_
  refine wp_seq ?_
  refine rg ?_
  refine wm2 h rfl rfl rfl rfl fun a h => ?_
  refine wvl h (add h rfl rfl (by omega)) fun a h => ?_
  refine wsn h rfl fun a h => ?_
  refine rg ?_
  refine wmv h rfl fun a h => ?_
  refine wvl h (gtr h rfl rfl) fun a h => ?_
  refine wmv h rfl fun a h => ?_
  refine split (t := 91) h rfl (fun hb7 => ?_) (fun hb7 => ?_)
  ·refine wl (stp_on h rfl rfl rfl hb7 (vl h (mov h rfl) fun a h => ?_))
   refine wl (stp_on h rfl rfl rfl hb7 (vl h (mov h rfl) fun a h => ?_))
   refine wl (stp_on h rfl rfl rfl hb7 (vl h (mul h rfl rfl (by omega)) fun a h => ?_))
   refine wl (stp_on h rfl rfl rfl hb7 (vl h (mov h rfl) fun a h => ?_))
   refine wl (stp_on h rfl rfl rfl hb7 (vl h (gtr h rfl rfl) fun a h => ?_))
   refine wvl h (pckT h rfl hb7 rfl) fun a h => ?_
   refine wn ?_
   refine cnd1 h rfl (fun hb8 => ?_) (fun hb8 => ?_)
   ·refine rg ?_
    refine wsn h rfl fun a h => ?_
    refine wp_ret ?_
    try simp only [xqs]
    refine rt_1 h rfl (rvT h rfl) ?_
    refine ⟨_, rfl, congrArg (Value.int .i64) ?_, hp.bel⟩
    simp only [Bool.not_eq_true', Bool.not_eq_false', decide_eq_true_eq, decide_eq_false_iff_not, ge_iff_le, gt_iff_lt] at hb1 hb2 hb3 hb7 hb8
    unfold shadesB Ball.pow
    simp only
    repeat' (first | rfl | (split <;> first | rfl | omega | skip))
   refine skp ?_
   refine rg ?_
   refine wsn h rfl fun a h => ?_
   refine wp_ret ?_
   try simp only [xqs]
   refine rt_1 h rfl (rvT h rfl) ?_
   refine ⟨_, rfl, congrArg (Value.int .i64) ?_, hp.bel⟩
   simp only [Bool.not_eq_true', Bool.not_eq_false', decide_eq_true_eq, decide_eq_false_iff_not, ge_iff_le, gt_iff_lt] at hb1 hb2 hb3 hb7 hb8
   unfold shadesB Ball.pow
   simp only
   repeat' (first | rfl | (split <;> first | rfl | omega | skip))
  refine wl (stp_off h rfl rfl rfl rfl rfl hb7 fun a h => ?_)
  refine wl (stp_off h rfl rfl rfl rfl rfl hb7 fun a h => ?_)
  refine wl (stp_off h rfl rfl rfl rfl rfl hb7 fun a h => ?_)
  refine wl (stp_off h rfl rfl rfl rfl rfl hb7 fun a h => ?_)
  refine wl (stp_off h rfl rfl rfl rfl rfl hb7 fun a h => ?_)
  refine wvl h (pckF h rfl hb7 rfl) fun a h => ?_
  refine wn ?_
  refine cnd1 h rfl (fun e => nomatch e) (fun _ => ?_)
  refine skp ?_
  refine rg ?_
  refine wsn h rfl fun a h => ?_
  refine wp_ret ?_
  try simp only [xqs]
  refine rt_1 h rfl (rvT h rfl) ?_
  refine ⟨_, rfl, congrArg (Value.int .i64) ?_, hp.bel⟩
  simp only [Bool.not_eq_true', Bool.not_eq_false', decide_eq_true_eq, decide_eq_false_iff_not, ge_iff_le, gt_iff_lt] at hb1 hb2 hb3 hb7
  unfold shadesB Ball.pow
  simp only
  repeat' (first | rfl | (split <;> first | rfl | omega | skip))
 refine wl (stp_off h rfl rfl rfl rfl rfl hb2 fun a h => ?_)
 refine wl (stp_off h rfl rfl rfl rfl rfl hb2 fun a h => ?_)
 refine wvl h (pckF h rfl hb2 rfl) fun a h => ?_
 refine wmv h rfl fun a h => ?_
 refine wl (stp_off h rfl rfl rfl rfl rfl rfl fun a h => ?_)
 refine wl (stp_off h rfl rfl rfl rfl rfl rfl fun a h => ?_)
 refine wl (stp_off h rfl rfl rfl rfl rfl rfl fun a h => ?_)
 refine wl (stp_off h rfl rfl rfl rfl rfl rfl fun a h => ?_)
 refine wl (stp_off h rfl rfl rfl rfl rfl rfl fun a h => ?_)
 refine wvl h (pckF h rfl rfl rfl) fun a h => ?_
 refine wn ?_
 refine cnd1 h rfl (fun e => nomatch e) (fun _ => ?_)
 refine skp ?_
 refine wp_seq ?_
 refine rg ?_
 refine wm2 h rfl rfl rfl rfl fun a h => ?_
 refine wvl h (add h rfl rfl (by omega)) fun a h => ?_
 refine wsn h rfl fun a h => ?_
 refine rg ?_
 refine wmv h rfl fun a h => ?_
 refine wvl h (gtr h rfl rfl) fun a h => ?_
 refine wmv h rfl fun a h => ?_
 refine split (t := 91) h rfl (fun hb9 => ?_) (fun hb9 => ?_)
 ·refine wl (stp_on h rfl rfl rfl hb9 (vl h (mov h rfl) fun a h => ?_))
  refine wl (stp_on h rfl rfl rfl hb9 (vl h (mov h rfl) fun a h => ?_))
  refine wl (stp_on h rfl rfl rfl hb9 (vl h (mul h rfl rfl (by omega)) fun a h => ?_))
  refine wl (stp_on h rfl rfl rfl hb9 (vl h (mov h rfl) fun a h => ?_))
  refine wl (stp_on h rfl rfl rfl hb9 (vl h (gtr h rfl rfl) fun a h => ?_))
  refine wvl h (pckT h rfl hb9 rfl) fun a h => ?_
  refine wn ?_
  refine cnd1 h rfl (fun hb10 => ?_) (fun hb10 => ?_)
  ·refine rg ?_
   refine wsn h rfl fun a h => ?_
   refine wp_ret ?_
   try simp only [xqs]
   refine rt_1 h rfl (rvT h rfl) ?_
   refine ⟨_, rfl, congrArg (Value.int .i64) ?_, hp.bel⟩
   simp only [Bool.not_eq_true', Bool.not_eq_false', decide_eq_true_eq, decide_eq_false_iff_not, ge_iff_le, gt_iff_lt] at hb1 hb2 hb9 hb10
   unfold shadesB Ball.pow
   simp only
   repeat' (first | rfl | (split <;> first | rfl | omega | skip))
  refine skp ?_
  refine rg ?_
  refine wsn h rfl fun a h => ?_
  refine wp_ret ?_
  try simp only [xqs]
  refine rt_1 h rfl (rvT h rfl) ?_
  refine ⟨_, rfl, congrArg (Value.int .i64) ?_, hp.bel⟩
  simp only [Bool.not_eq_true', Bool.not_eq_false', decide_eq_true_eq, decide_eq_false_iff_not, ge_iff_le, gt_iff_lt] at hb1 hb2 hb9 hb10
  unfold shadesB Ball.pow
  simp only
  repeat' (first | rfl | (split <;> first | rfl | omega | skip))
 refine wl (stp_off h rfl rfl rfl rfl rfl hb9 fun a h => ?_)
 refine wl (stp_off h rfl rfl rfl rfl rfl hb9 fun a h => ?_)
 refine wl (stp_off h rfl rfl rfl rfl rfl hb9 fun a h => ?_)
 refine wl (stp_off h rfl rfl rfl rfl rfl hb9 fun a h => ?_)
 refine wl (stp_off h rfl rfl rfl rfl rfl hb9 fun a h => ?_)
 refine wvl h (pckF h rfl hb9 rfl) fun a h => ?_
 refine wn ?_
 refine cnd1 h rfl (fun e => nomatch e) (fun _ => ?_)
 refine skp ?_
 refine rg ?_
 refine wsn h rfl fun a h => ?_
 refine wp_ret ?_
 try simp only [xqs]
 refine rt_1 h rfl (rvT h rfl) ?_
 refine ⟨_, rfl, congrArg (Value.int .i64) ?_, hp.bel⟩
 simp only [Bool.not_eq_true', Bool.not_eq_false', decide_eq_true_eq, decide_eq_false_iff_not, ge_iff_le, gt_iff_lt] at hb1 hb2 hb9
 unfold shadesB Ball.pow
 simp only
 repeat' (first | rfl | (split <;> first | rfl | omega | skip))
theorem darkest_R (s : SV) (l : List Ball) (q : Nat) (w : World) (hR : Rd w encL 3 s.v l) (hb : ∀ b ∈ l, BallBd b) (hn : q < l.length) : Ret Tryz.prog 60 #[s.v, .int .i64 (q : Int)] w fun u w' => u = .int .i64 (darkest l q) ∧ Below w.heap.size w w' := by
 obtain ⟨z, hz⟩ : ∃ z, l[q]? = some z := ⟨_, List.getElem?_eq_getElem hn⟩
 have hzB := hb z (List.mem_of_getElem? hz)
 have hzd : l.getD q noBall = z := by rw [List.getD_eq_getElem?_getD, hz]; rfl
 have hp : Hp c0 w w [] := Hp.start trivial
 refine enter Tryz.func60 rfl (N := 28) rfl rfl fun a h => ?_
 refine rg ?_
 refine wsn h rfl fun a h => ?_
 refine rg ?_
 refine wsn h rfl fun a h => ?_
 refine wp_seq ?_
 refine rg ?_
 refine wsn h rfl fun a h => ?_
 refine lp1 h [0, 1, 4] (fun n f w' => ∃ k : Nat, ∃ m : Int, k ≤ l.length ∧ n = l.length - k ∧ f = [(6, .int .i64 k), (5, .int .i64 m)] ∧ Hp c0 w w' ([]) ∧ m = darkGo z q 0 (l.take k) 1) (l.length) [(6, .int .i64 ((0 : Nat) : Int)), (5, .int .i64 1)] ⟨rfl, rfl, rfl, rfl, rfl, trivial⟩ ⟨0, 1, Nat.zero_le _, rfl, rfl, hp, rfl⟩ ?_
 rintro n f a w1 ⟨k, m, hk, rfl, rfl, hp, hm⟩ h
 have hfit := hR.fits
 refine wp_seq ?_
 refine rg ?_
 refine wm2 h rfl rfl rfl rfl fun a h => ?_
 refine wvl h (lenR h rfl Tryz.underlying37 (hR.keep (by decide) hp cl0)) fun a h => ?_
 refine wvl h (lss h rfl rfl) fun a h => ?_
 refine wn ?_
 refine cnd1 h rfl (fun hb1 => ?_) (fun hb1 => ?_)
 ·have hlt : k < l.length := by have := of_decide_eq_true hb1; omega
  obtain ⟨y, hy⟩ : ∃ y, l[k]? = some y := ⟨_, List.getElem?_eq_getElem hlt⟩
  have hyB := hb y (List.mem_of_getElem? hy)
  refine skp ?_
  refine blk ?_
  refine rg ?_
  refine wm2 h rfl rfl rfl rfl fun a h => ?_
  refine wvl h (nei h rfl rfl) fun a h => ?_
  refine wn ?_
  refine cnd1 h rfl (fun hb2 => ?_) (fun hb2 => ?_)
  ·have hkn : ¬ k = q := by have hq := hb2; simp at hq; omega
   refine rdh1 (n := 12) hp mixed rfl ?_
   have hp := hp.drew
   refine tkm 0 h rfl hp rfl fun a h => ?_
   refine tkm 1 h rfl hp rfl fun a h => ?_
   refine tkm 2 h rfl hp rfl fun a h => ?_
   refine tkq 3 h rfl hp (fun W hp => iadR (k) h rfl rfl Tryz.underlying37 sz51 (hR.keep (by decide) hp cl0) (rfl) (hlt)) fun a h => ?_
   refine tkq 4 h rfl hp (fun W hp => ldE h (hR.keep (by decide) hp cl0) hy rfl ag51 sz51) fun a h => ?_
   refine tkm 5 h rfl hp rfl fun a h => ?_
   refine tkm 6 h rfl hp rfl fun a h => ?_
   refine tkq 7 h rfl hp (fun W hp => iadR (q) h rfl rfl Tryz.underlying37 sz51 (hR.keep (by decide) hp cl0) (rfl) (hn)) fun a h => ?_
   refine tkq 8 h rfl hp (fun W hp => ldE h (hR.keep (by decide) hp cl0) hz rfl ag51 sz51) fun a h => ?_
   refine one 9 (by kernel_rfl) rfl (cal h rfl en24_W50 (Shades_R y z _ hyB hzB) fun u w2 ⟨e1, e2⟩ a h => ⟨hp.below e2, ?_⟩)
   subst e1
   have hp := hp.below e2
   refine tkq 10 h rfl hp (fun W _ => max_ h rfl rfl) fun a h => ?_
   refine tka 11 h rfl hp rfl fun a h => ?_
   refine dn (by kernel_rfl) ?_
   try simp only [xqs, ↓reduceIte, Nat.reduceEqDiff]
   refine rg1 ?_
   refine wmv h rfl fun a h => ?_
   refine wvl h (add h rfl rfl (by omega)) fun a h => ?_
   refine wsn h rfl fun a h => ?_
   exact ⟨_, _, (by omega), ⟨k + 1, _, by omega, rfl, rfl, hp.pre 0 rfl, by rw [dark_take hy, if_neg hkn, ← hm]⟩, h.sub ⟨rfl, rfl, rfl, rfl, rfl, trivial⟩⟩
  have hkn : k = q := by have hq := hb2; simp at hq; omega
  refine wp_skip ?_
  refine rg1 ?_
  refine wmv h rfl fun a h => ?_
  refine wvl h (add h rfl rfl (by omega)) fun a h => ?_
  refine wsn h rfl fun a h => ?_
  exact ⟨_, _, (by omega), ⟨k + 1, _, by omega, rfl, rfl, hp.pre 0 rfl, by rw [dark_take hy, if_pos hkn, ← hm]⟩, h.sub ⟨rfl, rfl, rfl, rfl, rfl, trivial⟩⟩
 have hend : k = l.length := by have := of_decide_eq_false hb1; omega
 subst hend
 rw [List.take_length] at hm
 refine wp_exit ?_
 try simp only [xqs, ↓reduceIte, Nat.reduceEqDiff]
 refine rg ?_
 refine wmv h rfl fun a h => ?_
 refine wsn h rfl fun a h => ?_
 refine wp_ret ?_
 try simp only [xqs]
 refine rt_1 h rfl (rvT h rfl) ?_
 exact ⟨_, rfl, by rw [darkest, hzd, hm], hp.bel⟩
set_option maxHeartbeats 2000000 in
theorem Balls_R (s : SV) (l : List Ball) (w : World) (hR : Rd w encL 3 s.v l) : Ret Tryz.prog 20 #[s.v] w fun u w' => u = .bool (isBalls l) ∧ Below w.heap.size w w' := by
 have hp : Hp c0 w w [] := Hp.start trivial
 refine enter Tryz.func20 rfl (N := 52) rfl rfl fun a h => ?_
 refine rg ?_
 refine wsn h rfl fun a h => ?_
 refine wp_seq ?_
 refine rg ?_
 refine wsn h rfl fun a h => ?_
 refine lp1 h [0] (fun n f w' => ∃ k : Nat, k ≤ l.length ∧ n = l.length - k ∧ f = [(3, .int .i64 k)] ∧ Hp c0 w w' ([]) ∧ ballsOk (l.take k) = true) (l.length) [(3, .int .i64 ((0 : Nat) : Int))] ⟨rfl, rfl, trivial⟩ ⟨0, Nat.zero_le _, rfl, rfl, hp, rfl⟩ ?_
 rintro n f a w1 ⟨k, hk, rfl, rfl, hp, hI⟩ h
 have hfit := hR.fits
 refine wp_seq ?_
 refine rg ?_
 refine wm2 h rfl rfl rfl rfl fun a h => ?_
 refine wvl h (lenR h rfl Tryz.underlying37 (hR.keep (by decide) hp cl0)) fun a h => ?_
 refine wvl h (lss h rfl rfl) fun a h => ?_
 refine wn ?_
 refine cnd1 h rfl (fun hb1 => ?_) (fun hb1 => ?_)
 ·have hlt : k < l.length := by have := of_decide_eq_true hb1; omega
  obtain ⟨y, hy⟩ : ∃ y, l[k]? = some y := ⟨_, List.getElem?_eq_getElem hlt⟩
  refine skp ?_
  refine blk ?_
  refine rg ?_
  refine wm2 h rfl rfl rfl rfl fun a h => ?_
  refine wvl h (iadR (k) h rfl rfl Tryz.underlying37 sz51 (hR.keep (by decide) hp cl0) (rfl) (hlt)) fun a h => ?_
  refine wvl h (ldE h (hR.keep (by decide) hp cl0) hy rfl ag51 sz51) fun a h => ?_
  refine wl (all h hp zc51 fun a w2 g1 hg1 h hp => ?_)
  refine wl (sta h hp rfl rfl 0 rfl sz51 rfl rfl fun w3 hp => ?_)
  refine wn ?_
  refine wp_seq ?_
  refine rg ?_
  refine wvl h (fad h rfl fo51_0) fun a h => ?_
  refine wvl h (ldo h hp rfl 0 rfl rfl ag3) fun a h => ?_
  refine wl (cal h rfl en46_W50 (in_R _ _ _ _) fun u w4 ⟨e1, e2⟩ a h => ?_)
  subst e1
  subst e2
  refine wvl h (not_ h rfl) fun a h => ?_
  refine wmv h rfl fun a h => ?_
  refine split (t := 20) h rfl (fun hb2 => ?_) (fun hb2 => ?_)
  ·have hok : okBall y = false := by have hq := hb2; simp only [Bool.not_eq_true'] at hq; rw [okBall, hq]; rfl
   refine wl (stp_off h rfl rfl rfl rfl rfl hb2 fun a h => ?_)
   refine wl (stp_off h rfl rfl rfl rfl rfl hb2 fun a h => ?_)
   refine wl (stp_off h rfl rfl rfl rfl rfl hb2 fun a h => ?_)
   refine wl (stp_off h rfl rfl rfl rfl rfl hb2 fun a h => ?_)
   refine wvl h (pckT h rfl hb2 rfl) fun a h => ?_
   refine wmv h rfl fun a h => ?_
   refine wl (stp_off h rfl rfl rfl rfl rfl rfl fun a h => ?_)
   refine wl (stp_off h rfl rfl rfl rfl rfl rfl fun a h => ?_)
   refine wl (stp_off h rfl rfl rfl rfl rfl rfl fun a h => ?_)
   refine wl (stp_off h rfl rfl rfl rfl rfl rfl fun a h => ?_)
   refine wvl h (pckT h rfl rfl rfl) fun a h => ?_
   refine wmv h rfl fun a h => ?_
   refine wl (stp_off h rfl rfl rfl rfl rfl rfl fun a h => ?_)
   refine wl (stp_off h rfl rfl rfl rfl rfl rfl fun a h => ?_)
   refine wl (stp_off h rfl rfl rfl rfl rfl rfl fun a h => ?_)
   refine wvl h (pckT h rfl rfl rfl) fun a h => ?_
   refine wn ?_
   refine cnd1 h rfl (fun _ => ?_) (fun e => nomatch e)
   refine rg ?_
   refine wsn h rfl fun a h => ?_
   refine wp_ret ?_
   try simp only [xqs]
   refine rt_1 h rfl (rvT h rfl) ?_
   exact ⟨_, rfl, by rw [balls_no hy (by rw [hok]; rfl)], hp.bel⟩
  have hx := hb2
  simp only [Bool.not_eq_false'] at hx
  have hxb := hx
  simp only [inR, Bool.and_eq_true, decide_eq_true_eq] at hxb
  refine wl (stp_on h rfl rfl rfl hb2 (vl h (fad h rfl fo51_1) fun a h => ?_))
  refine wl (stp_on h rfl rfl rfl hb2 (vl h (ldo h hp rfl 0 rfl rfl ag3) fun a h => ?_))
  refine wl (stp_on h rfl rfl rfl hb2 (cal h rfl en46_W50 (in_R _ _ _ _) fun u w5 ⟨e1, e2⟩ a h => ?_))
  subst e1
  subst e2
  refine wl (stp_on h rfl rfl rfl hb2 (vl h (not_ h rfl) fun a h => ?_))
  refine wvl h (pckF h rfl hb2 rfl) fun a h => ?_
  refine wmv h rfl fun a h => ?_
  refine split (t := 26) h rfl (fun hb3 => ?_) (fun hb3 => ?_)
  ·have hok : okBall y = false := by have hq := hb3; simp only [Bool.not_eq_true'] at hq; rw [okBall, hx, hq]; rfl
   refine wl (stp_off h rfl rfl rfl rfl rfl hb3 fun a h => ?_)
   refine wl (stp_off h rfl rfl rfl rfl rfl hb3 fun a h => ?_)
   refine wl (stp_off h rfl rfl rfl rfl rfl hb3 fun a h => ?_)
   refine wl (stp_off h rfl rfl rfl rfl rfl hb3 fun a h => ?_)
   refine wvl h (pckT h rfl hb3 rfl) fun a h => ?_
   refine wmv h rfl fun a h => ?_
   refine wl (stp_off h rfl rfl rfl rfl rfl rfl fun a h => ?_)
   refine wl (stp_off h rfl rfl rfl rfl rfl rfl fun a h => ?_)
   refine wl (stp_off h rfl rfl rfl rfl rfl rfl fun a h => ?_)
   refine wvl h (pckT h rfl rfl rfl) fun a h => ?_
   refine wn ?_
   refine cnd1 h rfl (fun _ => ?_) (fun e => nomatch e)
   refine rg ?_
   refine wsn h rfl fun a h => ?_
   refine wp_ret ?_
   try simp only [xqs]
   refine rt_1 h rfl (rvT h rfl) ?_
   exact ⟨_, rfl, by rw [balls_no hy (by rw [hok]; rfl)], hp.bel⟩
  have hx2 := hb3
  simp only [Bool.not_eq_false'] at hx2
  have hx2b := hx2
  simp only [inR, Bool.and_eq_true, decide_eq_true_eq] at hx2b
  refine wl (stp_on h rfl rfl rfl hb3 (vl h (fad h rfl fo51_2) fun a h => ?_))
  refine wl (stp_on h rfl rfl rfl hb3 (vl h (ldo h hp rfl 0 rfl rfl ag3) fun a h => ?_))
  refine wl (stp_on h rfl rfl rfl hb3 (cal h rfl en46_W50 (in_R _ _ _ _) fun u w6 ⟨e1, e2⟩ a h => ?_))
  subst e1
  subst e2
  refine wl (stp_on h rfl rfl rfl hb3 (vl h (not_ h rfl) fun a h => ?_))
  refine wvl h (pckF h rfl hb3 rfl) fun a h => ?_
  refine wmv h rfl fun a h => ?_
  refine split (t := 32) h rfl (fun hb4 => ?_) (fun hb4 => ?_)
  ·have hok : okBall y = false := by have hq := hb4; simp only [Bool.not_eq_true'] at hq; rw [okBall, hx, hx2, hq]; rfl
   refine wl (stp_off h rfl rfl rfl rfl rfl hb4 fun a h => ?_)
   refine wl (stp_off h rfl rfl rfl rfl rfl hb4 fun a h => ?_)
   refine wl (stp_off h rfl rfl rfl rfl rfl hb4 fun a h => ?_)
   refine wvl h (pckT h rfl hb4 rfl) fun a h => ?_
   refine wn ?_
   refine cnd1 h rfl (fun _ => ?_) (fun e => nomatch e)
   refine rg ?_
   refine wsn h rfl fun a h => ?_
   refine wp_ret ?_
   try simp only [xqs]
   refine rt_1 h rfl (rvT h rfl) ?_
   exact ⟨_, rfl, by rw [balls_no hy (by rw [hok]; rfl)], hp.bel⟩
  have hx3 := hb4
  simp only [Bool.not_eq_false'] at hx3
  have hx3b := hx3
  simp only [inR, Bool.and_eq_true, decide_eq_true_eq] at hx3b
  refine wl (stp_on h rfl rfl rfl hb4 (vl h (ldO (us := [_, _, _]) h hp rfl 0 rfl sz51 rfl ag51) fun a h => ?_))
  refine wl (stp_on h rfl rfl rfl hb4 (cal h rfl en58_W50 (power_R _ _ (by omega) (by omega) (by omega)) fun u w7 ⟨e1, e2⟩ a h => ?_))
  subst e1
  have hp := hp.below e2
  refine wl (stp_on h rfl rfl rfl hb4 (vl h (leq h rfl rfl) fun a h => ?_))
  refine wvl h (pckF h rfl hb4 rfl) fun a h => ?_
  refine wn ?_
  refine cnd1 h rfl (fun hb5 => ?_) (fun hb5 => ?_)
  ·have hok : okBall y = false := by have hq := of_decide_eq_true hb5; rw [okBall, hx, hx2, hx3]; simp only [Ball.pow, Bool.true_and]; exact decide_eq_false (by omega)
   refine rg ?_
   refine wsn h rfl fun a h => ?_
   refine wp_ret ?_
   try simp only [xqs]
   refine rt_1 h rfl (rvT h rfl) ?_
   exact ⟨_, rfl, by rw [balls_no hy (by rw [hok]; rfl)], hp.bel⟩
  have hok : okBall y = true := by have hq := of_decide_eq_false hb5; rw [okBall, hx, hx2, hx3]; simp only [Ball.pow, Bool.true_and]; exact decide_eq_true (by omega)
  refine skp ?_
  refine rg ?_
  refine wsn h rfl fun a h => ?_
  refine lp1 h [0, 3, 4] (fun n f w' => ∃ j : Nat, j ≤ k ∧ n = k - j ∧ f = [(5, .int .i64 j)] ∧ Hp c0 w w' ([.blk g1 (.cells #[.int .i64 y.x, .int .i64 y.y, .int .i64 y.r] 51 (0, 0))]) ∧ ((l.take k).take j).all (fun a => apartB a y) = true) (k) [(5, .int .i64 ((0 : Nat) : Int))] ⟨rfl, rfl, rfl, rfl, trivial⟩ ⟨0, Nat.zero_le _, rfl, rfl, hp, rfl⟩ ?_
  rintro n f a w8 ⟨j, hk2, rfl, rfl, hp, hJ⟩ h
  refine wp_seq ?_
  refine rg ?_
  refine wm2 h rfl rfl rfl rfl fun a h => ?_
  refine wvl h (lss h rfl rfl) fun a h => ?_
  refine wn ?_
  refine cnd1 h rfl (fun hb6 => ?_) (fun hb6 => ?_)
  ·have hlt2 : j < k := by have := of_decide_eq_true hb6; omega
   obtain ⟨z, hz0⟩ : ∃ z, l[j]? = some z := ⟨_, List.getElem?_eq_getElem (by omega)⟩
   have hz : (l.take k)[j]? = some z := by rw [List.getElem?_take, if_pos hlt2]; exact hz0
   obtain ⟨x2, y2, r2, p2⟩ := balls_take hI hz
   refine skp ?_
   refine blk ?_
   refine rdh (n := 7) hp mixed rfl ?_
   have hp := hp.drew
   refine tkm 0 h rfl hp rfl fun a h => ?_
   refine tkm 1 h rfl hp rfl fun a h => ?_
   refine tkq 2 h rfl hp (fun W hp => iadR (j) h rfl rfl Tryz.underlying37 sz51 (hR.keep (by decide) hp cl0) (rfl) (by omega)) fun a h => ?_
   refine tkq 3 h rfl hp (fun W hp => ldE h (hR.keep (by decide) hp cl0) hz0 rfl ag51 sz51) fun a h => ?_
   refine tkq 4 h rfl hp (fun W hp => ldO (us := [_, _, _]) h hp rfl 0 rfl sz51 rfl ag51) fun a h => ?_
   refine one 5 (by kernel_rfl) rfl (cal h rfl en59_W50 (apart_R _ _ _ (by omega) (by omega) (by omega) (by omega) (by omega) (by omega)) fun u w9 ⟨e1, e2⟩ a h => ⟨hp.below e2, ?_⟩)
   subst e1
   have hp := hp.below e2
   refine tkq 6 h rfl hp (fun W _ => not_ h rfl) fun a h => ?_
   refine dn (by kernel_rfl) ?_
   refine cnd1 h rfl (fun hb7 => ?_) (fun hb7 => ?_)
   ·have hap0 : apartB z y = false := by simpa using hb7
    have hap : (l.take k).all (fun a => apartB a y) = false := all_bad hz hap0
    refine rg ?_
    refine wsn h rfl fun a h => ?_
    refine wp_ret ?_
    try simp only [xqs]
    refine rt_1 h rfl (rvT h rfl) ?_
    exact ⟨_, rfl, by rw [balls_no hy (by rw [hok, hap]; rfl)], hp.bel⟩
   have hap : apartB z y = true := by simpa using hb7
   refine wp_skip ?_
   refine rg1 ?_
   refine wmv h rfl fun a h => ?_
   refine wvl h (add h rfl rfl (by omega)) fun a h => ?_
   refine wsn h rfl fun a h => ?_
   exact ⟨_, _, (by omega), ⟨j + 1, by omega, rfl, rfl, hp.pre 1 rfl, all_snoc hz hJ hap⟩, h.sub ⟨rfl, rfl, rfl, rfl, trivial⟩⟩
  have hend2 : k = j := by have := of_decide_eq_false hb6; omega
  subst hend2
  rw [List.take_take, Nat.min_self] at hJ
  have hin := hJ
  refine wp_exit ?_
  try simp only [xqs, ↓reduceIte, Nat.reduceEqDiff]
  refine rg1 ?_
  refine wmv h rfl fun a h => ?_
  refine wvl h (add h rfl rfl (by omega)) fun a h => ?_
  refine wsn h rfl fun a h => ?_
  exact ⟨_, _, (by omega), ⟨k + 1, by omega, rfl, rfl, hp.pre 0 rfl, by rw [balls_snoc hy, hI, hok, hin]; rfl⟩, h.sub ⟨rfl, rfl, trivial⟩⟩
 have hend : k = l.length := by have := of_decide_eq_false hb1; omega
 subst hend
 rw [List.take_length] at hI
 refine wp_exit ?_
 try simp only [xqs, ↓reduceIte, Nat.reduceEqDiff]
 refine rg ?_
 refine wmv h rfl fun a h => ?_
 refine wvl h (lenR h rfl Tryz.underlying37 (hR.keep (by decide) hp cl0)) fun a h => ?_
 refine wl (cal h rfl en46_W50 (in_R _ _ _ _) fun u w10 ⟨e1, e2⟩ a h => ?_)
 subst e1
 subst e2
 refine wsn h rfl fun a h => ?_
 refine wp_ret ?_
 try simp only [xqs]
 refine rt_1 h rfl (rvT h rfl) ?_
 exact ⟨_, rfl, by rw [isBalls, hI, Bool.and_true], hp.bel⟩
end Go.Proofs.Ec
