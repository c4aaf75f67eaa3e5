import Derived.Test.YtepjdckdhddfbaaGreatDoorProg
import Derived.Test.YtepjdckdhddfbaaGreatDoorPFa
import Derived.Test.YtepjdckdhddfbaaGreatDoorPQb
import Derived.Test.YtepjdckdhddfbaaGreatDoorPW10
import Derived.Test.YtepjdckdhddfbaaGreatDoorPQc
set_option linter.unusedVariables false
set_option linter.unusedSimpArgs false
set_option maxRecDepth 4000
namespace Go.Proofs.Ec
open Go.RowKit Go.Proofs.Sx
open Ecl
theorem squares_e (s : SV) (l : List Int) (w : World) (hR : Rd w encI 1 s.v l) (hl : l.length ≤ 2) (hb : ∀ x ∈ l, -30000 ≤ x ∧ x ≤ 30000) : Ret Tryz.prog 93 #[s.v] w fun u w' => u = .int .i64 (sqSum l) ∧ Below w.heap.size w w' := by
 have hp : Hp c0 w w [] := Hp.start trivial
 refine enter Tryz.func93 rfl (N := 19) rfl rfl fun a h => ?_
 refine rg ?_
 refine wsn h rfl fun a h => ?_
 refine rg ?_
 refine wsn h rfl fun a h => ?_
 refine wp_seq ?_
 refine rg ?_
 refine wmv h rfl fun a h => ?_
 refine wvl h (lenR h rfl Tryz.underlying74 (hR.keep (by decide) hp cl0)) fun a h => ?_
 refine wmv h rfl fun a h => ?_
 refine wn ?_
 refine lp1 h [2, 6, 7] (fun n f w' => ∃ k : Nat, ∃ z : Int, k ≤ l.length ∧ n = l.length - k ∧ f = [(8, .int .i64 k), (3, .int .i64 z)] ∧ Hp c0 w w' ([]) ∧ z = sqSum (l.take k) ∧ 0 ≤ z ∧ z ≤ 900000000 * k) (l.length) [(8, .int .i64 ((0 : Nat) : Int)), (3, .int .i64 0)] ⟨rfl, rfl, rfl, rfl, rfl, trivial⟩ ⟨0, 0, Nat.zero_le _, rfl, rfl, hp, rfl, by omega, by omega⟩ ?_
 rintro n f a w1 ⟨k, z, hk, rfl, rfl, hp, hz, z0, z1⟩ h
 have hfit := hR.fits
 refine rg ?_
 refine wvl h (lss h rfl rfl) fun a h => ?_
 refine wn ?_
 refine cnd h rfl (fun hb1 => ?_) (fun hb1 => ?_)
 ·have hlt : k < l.length := by have := of_decide_eq_true hb1; omega
  obtain ⟨y, hy⟩ : ∃ y, l[k]? = some y := ⟨_, List.getElem?_eq_getElem hlt⟩
  have hyb := sq_bd (m := 30000) (hb y (List.mem_of_getElem? hy))
  refine skp ?_
  refine blk ?_
  refine rg ?_
  refine wvl h (iadR (k) h rfl rfl Tryz.underlying74 sz3 (hR.keep (by decide) hp cl0) (rfl) (hlt)) fun a h => ?_
  refine wvl h (ld0 h (hR.keep (by decide) hp cl0) hy rfl ag3 rfl) fun a h => ?_
  refine wsn h rfl fun a h => ?_
  refine rg1 ?_
  refine wm3 h rfl rfl rfl rfl rfl rfl fun a h => ?_
  refine wvl h (mul h rfl rfl (by omega)) fun a h => ?_
  refine wvl h (add h rfl rfl (by omega)) fun a h => ?_
  refine wsg h rfl fun a h => ?_
  refine wn' ?_
  try simp only [xqs, ↓reduceIte, Nat.reduceEqDiff]
  refine rg1 ?_
  refine wvl h (add h rfl rfl (by omega)) fun a h => ?_
  refine wmv h rfl fun a h => ?_
  refine wn ?_
  exact ⟨_, _, (by omega), ⟨k + 1, _, by omega, rfl, rfl, hp, by rw [sq_take hy, hz], by omega, by omega⟩, h.sub ⟨rfl, rfl, rfl, rfl, rfl, trivial⟩⟩
 have hend : k = l.length := by have := of_decide_eq_false hb1; omega
 subst hend
 rw [List.take_length] at hz
 refine wp_exit ?_
 try simp only [xqs, ↓reduceIte, Nat.reduceEqDiff]
 refine rg ?_
 refine wmv h rfl fun a h => ?_
 refine wsn h rfl fun a h => ?_
 refine wp_ret ?_
 try simp only [xqs]
 refine rt_1 h rfl (rvT h rfl) ?_
 exact ⟨_, rfl, by rw [hz], hp.bel⟩
theorem squares1 {g t : Nat} {x : Int} {w : World} (h : w.heap[g]? = some (.cells #[.int .i64 x] t (0, 0))) (hx : -30000 ≤ x ∧ x ≤ 30000) : Ret Tryz.prog 93 #[.slice (some ⟨g, 0, none⟩) 1 1] w fun u w' => u = .int .i64 (x * x) ∧ Below w.heap.size w w' := by
 have := squares_e ⟨some ⟨g, 0, none⟩, 1, 1⟩ [x] w (rd1 h) (by simp) (by simpa using hx)
 rwa [show sqSum [x] = x * x by simp [sqSum]] at this
theorem squares2 {g t : Nat} {x y : Int} {w : World} (h : w.heap[g]? = some (.cells #[.int .i64 x, .int .i64 y] t (0, 0))) (hx : -30000 ≤ x ∧ x ≤ 30000) (hy : -30000 ≤ y ∧ y ≤ 30000) : Ret Tryz.prog 93 #[.slice (some ⟨g, 0, none⟩) 2 2] w fun u w' => u = .int .i64 (x * x + y * y) ∧ Below w.heap.size w w' := by
 have := squares_e ⟨some ⟨g, 0, none⟩, 2, 2⟩ [x, y] w (rd2 h) (by simp) (by simp only [List.mem_cons, List.not_mem_nil, or_false, forall_eq_or_imp, forall_eq]; exact ⟨hx, hy⟩)
 rwa [show sqSum [x, y] = x * x + y * y by simp [sqSum]] at this
set_option maxHeartbeats 2000000 in
theorem shades_e (d1 d2 : Ball) (w : World) (h1 : BallBd d1) (h2 : BallBd d2) : Ret Tryz.prog 56 #[.agg #[.int .i64 d1.x, .int .i64 d1.y, .int .i64 d1.r], .agg #[.int .i64 d2.x, .int .i64 d2.y, .int .i64 d2.r]] w fun u w' => u = .int .i64 (shadesB d1 d2) ∧ Below w.heap.size w w' := by
 obtain ⟨x1, y1, r1, p1⟩ := h1
 obtain ⟨x2, y2, r2, p2⟩ := h2
 have q1 := sq_bd (m := 100) (x := d1.x) (by omega)
 have q2 := sq_bd (m := 100) (x := d1.y) (by omega)
 have q3 := sq_bd (m := 20) (x := d1.r) (by omega)
 have q4 := sq_bd (m := 100) (x := d2.x) (by omega)
 have q5 := sq_bd (m := 100) (x := d2.y) (by omega)
 have q6 := sq_bd (m := 20) (x := d2.r) (by omega)
 have q7 := mul_bd3 (m := 100) (n := 100) x1 x2
 have q8 := mul_bd3 (m := 100) (n := 100) y1 y2
 have q9 := mul_bd3 (x := d1.r) (y := d2.r) (m := 20) (n := 20) (by omega) (by omega)
 have n1 := mul_bd3 (x := d1.r * d1.r) (y := d2.x * d2.x + d2.y * d2.y) (m := 400) (n := 20000) (by omega) (by omega)
 have n2 := mul_bd3 (x := d2.r * d2.r) (y := d1.x * d1.x + d1.y * d1.y) (m := 400) (n := 20000) (by omega) (by omega)
 have n3 := mul_bd3 (x := d1.x * d1.x + d1.y * d1.y - d1.r * d1.r) (y := d2.x * d2.x + d2.y * d2.y - d2.r * d2.r) (m := 20400) (n := 20400) (by omega) (by omega)
 have hp : Hp c0 w w [] := Hp.start trivial
 refine enter Tryz.func56 rfl (N := 106) rfl rfl fun a h => ?_
 refine rg ?_
 refine wl (box (cs := #[_, _, _]) h hp rfl rfl fun a w1 g1 hg1 h hp => ?_)
 refine wl (box (cs := #[_, _, _]) h hp rfl rfl fun a w2 g2 hg2 h hp => ?_)
 refine wsn h rfl fun a h => ?_
 refine rdF (n := 24) [10, 11, 12, 13, 14, 15, 16, 17, 18, 19, 20, 21, 22, 23, 24, 25, 26, 27, 28, 29, 30, 31, 5, 6] [.val (.pointer (some ⟨g1, 0, none⟩)), .val (.int .i64 d1.x), .val (.pointer (some ⟨g1, 1, none⟩)), .val (.int .i64 d1.y), .arr 2 #[.int .i64 d1.x, .int .i64 d1.y] 3, .val (.int .i64 (d1.x * d1.x + d1.y * d1.y)), .val (.pointer (some ⟨g1, 2, none⟩)), .val (.int .i64 d1.r), .arr 1 #[.int .i64 d1.r] 3, .val (.int .i64 (d1.r * d1.r)), .val (.int .i64 ((d1.x * d1.x + d1.y * d1.y) - (d1.r * d1.r))), .val (.pointer (some ⟨g2, 0, none⟩)), .val (.int .i64 d2.x), .val (.pointer (some ⟨g2, 1, none⟩)), .val (.int .i64 d2.y), .arr 2 #[.int .i64 d2.x, .int .i64 d2.y] 3, .val (.int .i64 (d2.x * d2.x + d2.y * d2.y)), .val (.pointer (some ⟨g2, 2, none⟩)), .val (.int .i64 d2.r), .arr 1 #[.int .i64 d2.r] 3, .val (.int .i64 (d2.r * d2.r)), .val (.int .i64 ((d2.x * d2.x + d2.y * d2.y) - (d2.r * d2.r))), .val (.int .i64 ((d1.x * d1.x + d1.y * d1.y) - (d1.r * d1.r))), .val (.int .i64 ((d2.x * d2.x + d2.y * d2.y) - (d2.r * d2.r)))] [(2, .pointer (some ⟨g1, 0, none⟩)), (3, .pointer (some ⟨g2, 0, none⟩))] h ⟨rfl, rfl, trivial⟩ hp mixed rfl rfl (by decide) (by kernel_rfl) ⟨?_, ?_, ?_, ?_, ?_, ?_, ?_, ?_, ?_, ?_, ?_, ?_, ?_, ?_, ?_, ?_, ?_, ?_, ?_, ?_, ?_, ?_, ?_, ?_, trivial⟩ ?_
 ·intro a w3 h hp hd
  obtain ⟨_⟩ := hd
  exact StepF.val h (fad h rfl fo51_0) ⟨rfl, rfl, trivial⟩ rfl rfl rfl rfl rfl
 ·intro a w4 h hp hd
  obtain ⟨dp0, _⟩ := hd
  obtain ⟨v0, hv0, hf0⟩ := dp0 rfl
  have hf0 : v0 = .pointer (some ⟨g1, 0, none⟩) := hf0
  subst hf0
  have h := h.also (t := 10) hv0
  exact StepF.val h (ldo h hp rfl 0 rfl rfl ag3) ⟨rfl, rfl, trivial⟩ rfl rfl rfl rfl rfl
 ·intro a w5 h hp hd
  obtain ⟨_⟩ := hd
  exact StepF.val h (fad h rfl fo51_1) ⟨rfl, rfl, trivial⟩ rfl rfl rfl rfl rfl
 ·intro a w6 h hp hd
  obtain ⟨dp0, _⟩ := hd
  obtain ⟨v0, hv0, hf0⟩ := dp0 rfl
  have hf0 : v0 = .pointer (some ⟨g1, 1, none⟩) := hf0
  subst hf0
  have h := h.also (t := 12) hv0
  exact StepF.val h (ldo h hp rfl 0 rfl rfl ag3) ⟨rfl, rfl, trivial⟩ rfl rfl rfl rfl rfl
 ·intro a w7 h hp hd
  obtain ⟨dp0, dp1, _⟩ := hd
  obtain ⟨v0, hv0, hf0⟩ := dp0 rfl
  have hf0 : v0 = .int .i64 d1.x := hf0
  subst hf0
  have h := h.also (t := 11) hv0
  obtain ⟨v1, hv1, hf1⟩ := dp1 rfl
  have hf1 : v1 = .int .i64 d1.y := hf1
  subst hf1
  have h := h.also (t := 13) hv1
  have hq : Hp c0 w7 w7 [] := Hp.start trivial
  exact bsl h hq rfl (bs74_2_0_1 _ _) fun a w9 g9 hg9 h hq => ⟨hq.bel, h.sub ⟨rfl, rfl, trivial⟩, _, h.get 14 _ rfl, g9, rfl, hq.fact (i := 0) rfl⟩
 ·intro a w8 h hp hd
  obtain ⟨dp0, _⟩ := hd
  obtain ⟨v0, hv0, hf0⟩ := dp0 rfl
  obtain ⟨ga, rfl, hga⟩ := hf0
  have h := h.also (t := 14) hv0
  refine cal h rfl en93 (squares2 hga (by omega) (by omega)) fun u w9 ⟨e1, e2⟩ a h => ?_
  subst e1
  exact ⟨e2, h.sub ⟨rfl, rfl, trivial⟩, _, h.get 15 _ rfl, rfl⟩
 ·intro a w9 h hp hd
  obtain ⟨_⟩ := hd
  exact StepF.val h (fad h rfl fo51_2) ⟨rfl, rfl, trivial⟩ rfl rfl rfl rfl rfl
 ·intro a w10 h hp hd
  obtain ⟨dp0, _⟩ := hd
  obtain ⟨v0, hv0, hf0⟩ := dp0 rfl
  have hf0 : v0 = .pointer (some ⟨g1, 2, none⟩) := hf0
  subst hf0
  have h := h.also (t := 16) hv0
  exact StepF.val h (ldo h hp rfl 0 rfl rfl ag3) ⟨rfl, rfl, trivial⟩ rfl rfl rfl rfl rfl
 ·intro a w11 h hp hd
  obtain ⟨dp0, _⟩ := hd
  obtain ⟨v0, hv0, hf0⟩ := dp0 rfl
  have hf0 : v0 = .int .i64 d1.r := hf0
  subst hf0
  have h := h.also (t := 17) hv0
  have hq : Hp c0 w11 w11 [] := Hp.start trivial
  exact bsl h hq rfl (bs74_1_0 _) fun a w9 g9 hg9 h hq => ⟨hq.bel, h.sub ⟨rfl, rfl, trivial⟩, _, h.get 18 _ rfl, g9, rfl, hq.fact (i := 0) rfl⟩
 ·intro a w12 h hp hd
  obtain ⟨dp0, dp1, _⟩ := hd
  obtain ⟨v0, hv0, hf0⟩ := dp0 rfl
  obtain ⟨ga, rfl, hga⟩ := hf0
  have h := h.also (t := 18) hv0
  refine cal h rfl en93 (squares1 hga (by omega)) fun u w9 ⟨e1, e2⟩ a h => ?_
  subst e1
  exact ⟨e2, h.sub ⟨rfl, rfl, trivial⟩, _, h.get 19 _ rfl, rfl⟩
 ·intro a w13 h hp hd
  obtain ⟨dp0, dp1, _⟩ := hd
  obtain ⟨v0, hv0, hf0⟩ := dp0 rfl
  have hf0 : v0 = .int .i64 (d1.x * d1.x + d1.y * d1.y) := hf0
  subst hf0
  have h := h.also (t := 15) hv0
  obtain ⟨v1, hv1, hf1⟩ := dp1 rfl
  have hf1 : v1 = .int .i64 (d1.r * d1.r) := hf1
  subst hf1
  have h := h.also (t := 19) hv1
  exact StepF.val h (sub h rfl rfl (by omega)) ⟨rfl, rfl, trivial⟩ rfl rfl rfl rfl rfl
 ·intro a w14 h hp hd
  obtain ⟨_⟩ := hd
  exact StepF.val h (fad h rfl fo51_0) ⟨rfl, rfl, trivial⟩ rfl rfl rfl rfl rfl
 ·intro a w15 h hp hd
  obtain ⟨dp0, _⟩ := hd
  obtain ⟨v0, hv0, hf0⟩ := dp0 rfl
  have hf0 : v0 = .pointer (some ⟨g2, 0, none⟩) := hf0
  subst hf0
  have h := h.also (t := 21) hv0
  exact StepF.val h (ldo h hp rfl 1 rfl rfl ag3) ⟨rfl, rfl, trivial⟩ rfl rfl rfl rfl rfl
 ·intro a w16 h hp hd
  obtain ⟨_⟩ := hd
  exact StepF.val h (fad h rfl fo51_1) ⟨rfl, rfl, trivial⟩ rfl rfl rfl rfl rfl
 ·intro a w17 h hp hd
  obtain ⟨dp0, _⟩ := hd
  obtain ⟨v0, hv0, hf0⟩ := dp0 rfl
  have hf0 : v0 = .pointer (some ⟨g2, 1, none⟩) := hf0
  subst hf0
  have h := h.also (t := 23) hv0
  exact StepF.val h (ldo h hp rfl 1 rfl rfl ag3) ⟨rfl, rfl, trivial⟩ rfl rfl rfl rfl rfl
 ·intro a w18 h hp hd
  obtain ⟨dp0, dp1, _⟩ := hd
  obtain ⟨v0, hv0, hf0⟩ := dp0 rfl
  have hf0 : v0 = .int .i64 d2.x := hf0
  subst hf0
  have h := h.also (t := 22) hv0
  obtain ⟨v1, hv1, hf1⟩ := dp1 rfl
  have hf1 : v1 = .int .i64 d2.y := hf1
  subst hf1
  have h := h.also (t := 24) hv1
  have hq : Hp c0 w18 w18 [] := Hp.start trivial
  exact bsl h hq rfl (bs74_2_0_1 _ _) fun a w9 g9 hg9 h hq => ⟨hq.bel, h.sub ⟨rfl, rfl, trivial⟩, _, h.get 25 _ rfl, g9, rfl, hq.fact (i := 0) rfl⟩
 ·intro a w19 h hp hd
  obtain ⟨dp0, dp1, _⟩ := hd
  obtain ⟨v0, hv0, hf0⟩ := dp0 rfl
  obtain ⟨ga, rfl, hga⟩ := hf0
  have h := h.also (t := 25) hv0
  refine cal h rfl en93 (squares2 hga (by omega) (by omega)) fun u w9 ⟨e1, e2⟩ a h => ?_
  subst e1
  exact ⟨e2, h.sub ⟨rfl, rfl, trivial⟩, _, h.get 26 _ rfl, rfl⟩
 ·intro a w20 h hp hd
  obtain ⟨_⟩ := hd
  exact StepF.val h (fad h rfl fo51_2) ⟨rfl, rfl, trivial⟩ rfl rfl rfl rfl rfl
 ·intro a w21 h hp hd
  obtain ⟨dp0, _⟩ := hd
  obtain ⟨v0, hv0, hf0⟩ := dp0 rfl
  have hf0 : v0 = .pointer (some ⟨g2, 2, none⟩) := hf0
  subst hf0
  have h := h.also (t := 27) hv0
  exact StepF.val h (ldo h hp rfl 1 rfl rfl ag3) ⟨rfl, rfl, trivial⟩ rfl rfl rfl rfl rfl
 ·intro a w22 h hp hd
  obtain ⟨dp0, _⟩ := hd
  obtain ⟨v0, hv0, hf0⟩ := dp0 rfl
  have hf0 : v0 = .int .i64 d2.r := hf0
  subst hf0
  have h := h.also (t := 28) hv0
  have hq : Hp c0 w22 w22 [] := Hp.start trivial
  exact bsl h hq rfl (bs74_1_0 _) fun a w9 g9 hg9 h hq => ⟨hq.bel, h.sub ⟨rfl, rfl, trivial⟩, _, h.get 29 _ rfl, g9, rfl, hq.fact (i := 0) rfl⟩
 ·intro a w23 h hp hd
  obtain ⟨dp0, dp1, _⟩ := hd
  obtain ⟨v0, hv0, hf0⟩ := dp0 rfl
  obtain ⟨ga, rfl, hga⟩ := hf0
  have h := h.also (t := 29) hv0
  refine cal h rfl en93 (squares1 hga (by omega)) fun u w9 ⟨e1, e2⟩ a h => ?_
  subst e1
  exact ⟨e2, h.sub ⟨rfl, rfl, trivial⟩, _, h.get 30 _ rfl, rfl⟩
 ·intro a w24 h hp hd
  obtain ⟨dp0, dp1, dp2, _⟩ := hd
  obtain ⟨v0, hv0, hf0⟩ := dp0 rfl
  have hf0 : v0 = .int .i64 (d2.x * d2.x + d2.y * d2.y) := hf0
  subst hf0
  have h := h.also (t := 26) hv0
  obtain ⟨v1, hv1, hf1⟩ := dp1 rfl
  have hf1 : v1 = .int .i64 (d2.r * d2.r) := hf1
  subst hf1
  have h := h.also (t := 30) hv1
  exact StepF.val h (sub h rfl rfl (by omega)) ⟨rfl, rfl, trivial⟩ rfl rfl rfl rfl rfl
 ·intro a w25 h hp hd
  obtain ⟨dp0, dp1, dp2, dp3, dp4, dp5, dp6, dp7, dp8, dp9, dp10, dp11, dp12, dp13, dp14, dp15, dp16, dp17, dp18, dp19, dp20, dp21, dp22, dp23, _⟩ := hd
  obtain ⟨v0, hv0, hf0⟩ := dp0 rfl
  have hf0 : v0 = .int .i64 ((d1.x * d1.x + d1.y * d1.y) - (d1.r * d1.r)) := hf0
  subst hf0
  have h := h.also (t := 20) hv0
  obtain ⟨v12, hv12, hf12⟩ := dp12 rfl
  have hf12 : v12 = .int .i64 ((d1.x * d1.x + d1.y * d1.y) - (d1.r * d1.r)) := hf12
  subst hf12
  have h := h.also (t := 20) hv12
  exact StepF.val h (asg h rfl) ⟨rfl, rfl, trivial⟩ rfl rfl rfl rfl rfl
 ·intro a w26 h hp hd
  obtain ⟨dp0, dp1, dp2, dp3, dp4, dp5, dp6, dp7, dp8, dp9, dp10, dp11, dp12, dp13, dp14, dp15, dp16, dp17, dp18, dp19, dp20, dp21, dp22, dp23, dp24, _⟩ := hd
  obtain ⟨v0, hv0, hf0⟩ := dp0 rfl
  have hf0 : v0 = .int .i64 ((d2.x * d2.x + d2.y * d2.y) - (d2.r * d2.r)) := hf0
  subst hf0
  have h := h.also (t := 31) hv0
  obtain ⟨v23, hv23, hf23⟩ := dp23 rfl
  have hf23 : v23 = .int .i64 ((d2.x * d2.x + d2.y * d2.y) - (d2.r * d2.r)) := hf23
  subst hf23
  have h := h.also (t := 31) hv23
  exact StepF.val h (asg h rfl) ⟨rfl, rfl, trivial⟩ rfl rfl rfl rfl rfl
 intro a w27 h hp hf
 obtain ⟨v9, hv9, hf9⟩ := hf 22 (by decide)
 have hf9 : v9 = .int .i64 ((d1.x * d1.x + d1.y * d1.y) - (d1.r * d1.r)) := hf9
 subst hf9
 have h := h.also (t := 5) hv9
 obtain ⟨v9, hv9, hf9⟩ := hf 23 (by decide)
 have hf9 : v9 = .int .i64 ((d2.x * d2.x + d2.y * d2.y) - (d2.r * d2.r)) := hf9
 subst hf9
 have h := h.also (t := 6) hv9
 refine wp_seq ?_
 refine rg ?_
 refine wm2 h rfl rfl rfl rfl fun a h => ?_
 refine wvl h (geq h rfl rfl) fun a h => ?_
 refine wn ?_
 refine cnd1 h rfl (fun hb1 => ?_) (fun hb1 => ?_)
 ·refine rg ?_
  refine wsn h rfl fun a h => ?_
  refine wp_ret ?_
  try simp only [xqs]
  refine rt_1 h rfl (rvT h rfl) ?_
  refine ⟨_, rfl, congrArg (Value.int .i64) ?_, hp.bel⟩
  simp only [decide_eq_true_eq, decide_eq_false_iff_not] at hb1
  unfold shadesB Ball.pow
  simp only
  repeat' (first | rfl | (split <;> first | rfl | omega | skip))
 refine skp ?_
 refine rdh (n := 18) hp mixed rfl ?_
 have hp := hp.drew
 refine tkq 0 h rfl hp (fun W _ => fad h rfl fo51_0) fun a h => ?_
 refine tkq 1 h rfl hp (fun W hp => ldo h hp rfl 0 rfl rfl ag3) fun a h => ?_
 refine tkq 2 h rfl hp (fun W _ => fad h rfl fo51_0) fun a h => ?_
 refine tkq 3 h rfl hp (fun W hp => ldo h hp rfl 1 rfl rfl ag3) fun a h => ?_
 refine tkq 4 h rfl hp (fun W _ => mul h rfl rfl (by omega)) fun a h => ?_
 refine tkq 5 h rfl hp (fun W _ => fad h rfl fo51_1) fun a h => ?_
 refine tkq 6 h rfl hp (fun W hp => ldo h hp rfl 0 rfl rfl ag3) fun a h => ?_
 refine tkq 7 h rfl hp (fun W _ => fad h rfl fo51_1) fun a h => ?_
 refine tkq 8 h rfl hp (fun W hp => ldo h hp rfl 1 rfl rfl ag3) fun a h => ?_
 refine tkq 9 h rfl hp (fun W _ => mul h rfl rfl (by omega)) fun a h => ?_
 refine tkq 10 h rfl hp (fun W _ => add h rfl rfl (by omega)) fun a h => ?_
 refine tkq 11 h rfl hp (fun W _ => fad h rfl fo51_2) fun a h => ?_
 refine tkq 12 h rfl hp (fun W hp => ldo h hp rfl 0 rfl rfl ag3) fun a h => ?_
 refine tkq 13 h rfl hp (fun W _ => fad h rfl fo51_2) fun a h => ?_
 refine tkq 14 h rfl hp (fun W hp => ldo h hp rfl 1 rfl rfl ag3) fun a h => ?_
 refine tkq 15 h rfl hp (fun W _ => mul h rfl rfl (by omega)) fun a h => ?_
 refine tka 16 h rfl hp rfl fun a h => ?_
 refine tka 17 h rfl hp rfl fun a h => ?_
 refine dn (by kernel_rfl) ?_
 refine rdF (n := 24) [51, 52, 53, 54, 55, 56, 57, 58, 59, 60, 61, 62, 63, 64, 65, 66, 67, 68, 69, 70, 71, 72, 73, 9] [.val (.pointer (some ⟨g1, 2, none⟩)), .val (.int .i64 d1.r), .arr 1 #[.int .i64 d1.r] 3, .val (.int .i64 (d1.r * d1.r)), .val (.pointer (some ⟨g2, 0, none⟩)), .val (.int .i64 d2.x), .val (.pointer (some ⟨g2, 1, none⟩)), .val (.int .i64 d2.y), .arr 2 #[.int .i64 d2.x, .int .i64 d2.y] 3, .val (.int .i64 (d2.x * d2.x + d2.y * d2.y)), .val (.int .i64 ((d1.r * d1.r) * (d2.x * d2.x + d2.y * d2.y))), .val (.pointer (some ⟨g2, 2, none⟩)), .val (.int .i64 d2.r), .arr 1 #[.int .i64 d2.r] 3, .val (.int .i64 (d2.r * d2.r)), .val (.pointer (some ⟨g1, 0, none⟩)), .val (.int .i64 d1.x), .val (.pointer (some ⟨g1, 1, none⟩)), .val (.int .i64 d1.y), .arr 2 #[.int .i64 d1.x, .int .i64 d1.y] 3, .val (.int .i64 (d1.x * d1.x + d1.y * d1.y)), .val (.int .i64 ((d2.r * d2.r) * (d1.x * d1.x + d1.y * d1.y))), .val (.bool (decide (((d2.r * d2.r) * (d1.x * d1.x + d1.y * d1.y)) ≤ ((d1.r * d1.r) * (d2.x * d2.x + d2.y * d2.y))))), .val (.bool (decide (((d2.r * d2.r) * (d1.x * d1.x + d1.y * d1.y)) ≤ ((d1.r * d1.r) * (d2.x * d2.x + d2.y * d2.y)))))] [(2, .pointer (some ⟨g1, 0, none⟩)), (3, .pointer (some ⟨g2, 0, none⟩)), (5, .int .i64 (d1.x * d1.x + d1.y * d1.y - d1.r * d1.r)), (6, .int .i64 (d2.x * d2.x + d2.y * d2.y - d2.r * d2.r)), (7, .int .i64 (d1.x * d2.x + d1.y * d2.y)), (8, .int .i64 (d1.r * d2.r))] h ⟨rfl, rfl, rfl, rfl, rfl, rfl, trivial⟩ hp mixed rfl rfl (by decide) (by kernel_rfl) ⟨?_, ?_, ?_, ?_, ?_, ?_, ?_, ?_, ?_, ?_, ?_, ?_, ?_, ?_, ?_, ?_, ?_, ?_, ?_, ?_, ?_, ?_, ?_, ?_, trivial⟩ ?_
 ·intro a w28 h hp hd
  obtain ⟨_⟩ := hd
  exact StepF.val h (fad h rfl fo51_2) ⟨rfl, rfl, rfl, rfl, rfl, rfl, trivial⟩ rfl rfl rfl rfl rfl
 ·intro a w29 h hp hd
  obtain ⟨dp0, _⟩ := hd
  obtain ⟨v0, hv0, hf0⟩ := dp0 rfl
  have hf0 : v0 = .pointer (some ⟨g1, 2, none⟩) := hf0
  subst hf0
  have h := h.also (t := 51) hv0
  exact StepF.val h (ldo h hp rfl 0 rfl rfl ag3) ⟨rfl, rfl, rfl, rfl, rfl, rfl, trivial⟩ rfl rfl rfl rfl rfl
 ·intro a w30 h hp hd
  obtain ⟨dp0, _⟩ := hd
  obtain ⟨v0, hv0, hf0⟩ := dp0 rfl
  have hf0 : v0 = .int .i64 d1.r := hf0
  subst hf0
  have h := h.also (t := 52) hv0
  have hq : Hp c0 w30 w30 [] := Hp.start trivial
  exact bsl h hq rfl (bs74_1_0 _) fun a w9 g9 hg9 h hq => ⟨hq.bel, h.sub ⟨rfl, rfl, rfl, rfl, rfl, rfl, trivial⟩, _, h.get 53 _ rfl, g9, rfl, hq.fact (i := 0) rfl⟩
 ·intro a w31 h hp hd
  obtain ⟨dp0, _⟩ := hd
  obtain ⟨v0, hv0, hf0⟩ := dp0 rfl
  obtain ⟨ga, rfl, hga⟩ := hf0
  have h := h.also (t := 53) hv0
  refine cal h rfl en93 (squares1 hga (by omega)) fun u w9 ⟨e1, e2⟩ a h => ?_
  subst e1
  exact ⟨e2, h.sub ⟨rfl, rfl, rfl, rfl, rfl, rfl, trivial⟩, _, h.get 54 _ rfl, rfl⟩
 ·intro a w32 h hp hd
  obtain ⟨_⟩ := hd
  exact StepF.val h (fad h rfl fo51_0) ⟨rfl, rfl, rfl, rfl, rfl, rfl, trivial⟩ rfl rfl rfl rfl rfl
 ·intro a w33 h hp hd
  obtain ⟨dp0, _⟩ := hd
  obtain ⟨v0, hv0, hf0⟩ := dp0 rfl
  have hf0 : v0 = .pointer (some ⟨g2, 0, none⟩) := hf0
  subst hf0
  have h := h.also (t := 55) hv0
  exact StepF.val h (ldo h hp rfl 1 rfl rfl ag3) ⟨rfl, rfl, rfl, rfl, rfl, rfl, trivial⟩ rfl rfl rfl rfl rfl
 ·intro a w34 h hp hd
  obtain ⟨_⟩ := hd
  exact StepF.val h (fad h rfl fo51_1) ⟨rfl, rfl, rfl, rfl, rfl, rfl, trivial⟩ rfl rfl rfl rfl rfl
 ·intro a w35 h hp hd
  obtain ⟨dp0, _⟩ := hd
  obtain ⟨v0, hv0, hf0⟩ := dp0 rfl
  have hf0 : v0 = .pointer (some ⟨g2, 1, none⟩) := hf0
  subst hf0
  have h := h.also (t := 57) hv0
  exact StepF.val h (ldo h hp rfl 1 rfl rfl ag3) ⟨rfl, rfl, rfl, rfl, rfl, rfl, trivial⟩ rfl rfl rfl rfl rfl
 ·intro a w36 h hp hd
  obtain ⟨dp0, dp1, _⟩ := hd
  obtain ⟨v0, hv0, hf0⟩ := dp0 rfl
  have hf0 : v0 = .int .i64 d2.x := hf0
  subst hf0
  have h := h.also (t := 56) hv0
  obtain ⟨v1, hv1, hf1⟩ := dp1 rfl
  have hf1 : v1 = .int .i64 d2.y := hf1
  subst hf1
  have h := h.also (t := 58) hv1
  have hq : Hp c0 w36 w36 [] := Hp.start trivial
  exact bsl h hq rfl (bs74_2_0_1 _ _) fun a w9 g9 hg9 h hq => ⟨hq.bel, h.sub ⟨rfl, rfl, rfl, rfl, rfl, rfl, trivial⟩, _, h.get 59 _ rfl, g9, rfl, hq.fact (i := 0) rfl⟩
 ·intro a w37 h hp hd
  obtain ⟨dp0, dp1, _⟩ := hd
  obtain ⟨v0, hv0, hf0⟩ := dp0 rfl
  obtain ⟨ga, rfl, hga⟩ := hf0
  have h := h.also (t := 59) hv0
  refine cal h rfl en93 (squares2 hga (by omega) (by omega)) fun u w9 ⟨e1, e2⟩ a h => ?_
  subst e1
  exact ⟨e2, h.sub ⟨rfl, rfl, rfl, rfl, rfl, rfl, trivial⟩, _, h.get 60 _ rfl, rfl⟩
 ·intro a w38 h hp hd
  obtain ⟨dp0, dp1, _⟩ := hd
  obtain ⟨v0, hv0, hf0⟩ := dp0 rfl
  have hf0 : v0 = .int .i64 (d1.r * d1.r) := hf0
  subst hf0
  have h := h.also (t := 54) hv0
  obtain ⟨v1, hv1, hf1⟩ := dp1 rfl
  have hf1 : v1 = .int .i64 (d2.x * d2.x + d2.y * d2.y) := hf1
  subst hf1
  have h := h.also (t := 60) hv1
  exact StepF.val h (mul h rfl rfl (by omega)) ⟨rfl, rfl, rfl, rfl, rfl, rfl, trivial⟩ rfl rfl rfl rfl rfl
 ·intro a w39 h hp hd
  obtain ⟨_⟩ := hd
  exact StepF.val h (fad h rfl fo51_2) ⟨rfl, rfl, rfl, rfl, rfl, rfl, trivial⟩ rfl rfl rfl rfl rfl
 ·intro a w40 h hp hd
  obtain ⟨dp0, _⟩ := hd
  obtain ⟨v0, hv0, hf0⟩ := dp0 rfl
  have hf0 : v0 = .pointer (some ⟨g2, 2, none⟩) := hf0
  subst hf0
  have h := h.also (t := 62) hv0
  exact StepF.val h (ldo h hp rfl 1 rfl rfl ag3) ⟨rfl, rfl, rfl, rfl, rfl, rfl, trivial⟩ rfl rfl rfl rfl rfl
 ·intro a w41 h hp hd
  obtain ⟨dp0, _⟩ := hd
  obtain ⟨v0, hv0, hf0⟩ := dp0 rfl
  have hf0 : v0 = .int .i64 d2.r := hf0
  subst hf0
  have h := h.also (t := 63) hv0
  have hq : Hp c0 w41 w41 [] := Hp.start trivial
  exact bsl h hq rfl (bs74_1_0 _) fun a w9 g9 hg9 h hq => ⟨hq.bel, h.sub ⟨rfl, rfl, rfl, rfl, rfl, rfl, trivial⟩, _, h.get 64 _ rfl, g9, rfl, hq.fact (i := 0) rfl⟩
 ·intro a w42 h hp hd
  obtain ⟨dp0, dp1, _⟩ := hd
  obtain ⟨v0, hv0, hf0⟩ := dp0 rfl
  obtain ⟨ga, rfl, hga⟩ := hf0
  have h := h.also (t := 64) hv0
  refine cal h rfl en93 (squares1 hga (by omega)) fun u w9 ⟨e1, e2⟩ a h => ?_
  subst e1
  exact ⟨e2, h.sub ⟨rfl, rfl, rfl, rfl, rfl, rfl, trivial⟩, _, h.get 65 _ rfl, rfl⟩
 ·intro a w43 h hp hd
  obtain ⟨_⟩ := hd
  exact StepF.val h (fad h rfl fo51_0) ⟨rfl, rfl, rfl, rfl, rfl, rfl, trivial⟩ rfl rfl rfl rfl rfl
 ·intro a w44 h hp hd
  obtain ⟨dp0, _⟩ := hd
  obtain ⟨v0, hv0, hf0⟩ := dp0 rfl
  have hf0 : v0 = .pointer (some ⟨g1, 0, none⟩) := hf0
  subst hf0
  have h := h.also (t := 66) hv0
  exact StepF.val h (ldo h hp rfl 0 rfl rfl ag3) ⟨rfl, rfl, rfl, rfl, rfl, rfl, trivial⟩ rfl rfl rfl rfl rfl
 ·intro a w45 h hp hd
  obtain ⟨_⟩ := hd
  exact StepF.val h (fad h rfl fo51_1) ⟨rfl, rfl, rfl, rfl, rfl, rfl, trivial⟩ rfl rfl rfl rfl rfl
 ·intro a w46 h hp hd
  obtain ⟨dp0, _⟩ := hd
  obtain ⟨v0, hv0, hf0⟩ := dp0 rfl
  have hf0 : v0 = .pointer (some ⟨g1, 1, none⟩) := hf0
  subst hf0
  have h := h.also (t := 68) hv0
  exact StepF.val h (ldo h hp rfl 0 rfl rfl ag3) ⟨rfl, rfl, rfl, rfl, rfl, rfl, trivial⟩ rfl rfl rfl rfl rfl
 ·intro a w47 h hp hd
  obtain ⟨dp0, dp1, _⟩ := hd
  obtain ⟨v0, hv0, hf0⟩ := dp0 rfl
  have hf0 : v0 = .int .i64 d1.x := hf0
  subst hf0
  have h := h.also (t := 67) hv0
  obtain ⟨v1, hv1, hf1⟩ := dp1 rfl
  have hf1 : v1 = .int .i64 d1.y := hf1
  subst hf1
  have h := h.also (t := 69) hv1
  have hq : Hp c0 w47 w47 [] := Hp.start trivial
  exact bsl h hq rfl (bs74_2_0_1 _ _) fun a w9 g9 hg9 h hq => ⟨hq.bel, h.sub ⟨rfl, rfl, rfl, rfl, rfl, rfl, trivial⟩, _, h.get 70 _ rfl, g9, rfl, hq.fact (i := 0) rfl⟩
 ·intro a w48 h hp hd
  obtain ⟨dp0, dp1, _⟩ := hd
  obtain ⟨v0, hv0, hf0⟩ := dp0 rfl
  obtain ⟨ga, rfl, hga⟩ := hf0
  have h := h.also (t := 70) hv0
  refine cal h rfl en93 (squares2 hga (by omega) (by omega)) fun u w9 ⟨e1, e2⟩ a h => ?_
  subst e1
  exact ⟨e2, h.sub ⟨rfl, rfl, rfl, rfl, rfl, rfl, trivial⟩, _, h.get 71 _ rfl, rfl⟩
 ·intro a w49 h hp hd
  obtain ⟨dp0, dp1, _⟩ := hd
  obtain ⟨v0, hv0, hf0⟩ := dp0 rfl
  have hf0 : v0 = .int .i64 (d2.r * d2.r) := hf0
  subst hf0
  have h := h.also (t := 65) hv0
  obtain ⟨v1, hv1, hf1⟩ := dp1 rfl
  have hf1 : v1 = .int .i64 (d1.x * d1.x + d1.y * d1.y) := hf1
  subst hf1
  have h := h.also (t := 71) hv1
  exact StepF.val h (mul h rfl rfl (by omega)) ⟨rfl, rfl, rfl, rfl, rfl, rfl, trivial⟩ rfl rfl rfl rfl rfl
 ·intro a w50 h hp hd
  obtain ⟨dp0, dp1, _⟩ := hd
  obtain ⟨v0, hv0, hf0⟩ := dp0 rfl
  have hf0 : v0 = .int .i64 ((d1.r * d1.r) * (d2.x * d2.x + d2.y * d2.y)) := hf0
  subst hf0
  have h := h.also (t := 61) hv0
  obtain ⟨v1, hv1, hf1⟩ := dp1 rfl
  have hf1 : v1 = .int .i64 ((d2.r * d2.r) * (d1.x * d1.x + d1.y * d1.y)) := hf1
  subst hf1
  have h := h.also (t := 72) hv1
  exact StepF.val h (geq h rfl rfl) ⟨rfl, rfl, rfl, rfl, rfl, rfl, trivial⟩ rfl rfl rfl rfl rfl
 ·intro a w51 h hp hd
  obtain ⟨dp0, dp1, dp2, dp3, dp4, dp5, dp6, dp7, dp8, dp9, dp10, dp11, dp12, dp13, dp14, dp15, dp16, dp17, dp18, dp19, dp20, dp21, dp22, dp23, dp24, _⟩ := hd
  obtain ⟨v0, hv0, hf0⟩ := dp0 rfl
  have hf0 : v0 = .bool (decide (((d2.r * d2.r) * (d1.x * d1.x + d1.y * d1.y)) ≤ ((d1.r * d1.r) * (d2.x * d2.x + d2.y * d2.y)))) := hf0
  subst hf0
  have h := h.also (t := 73) hv0
  obtain ⟨v24, hv24, hf24⟩ := dp24 rfl
  have hf24 : v24 = .bool (decide (((d2.r * d2.r) * (d1.x * d1.x + d1.y * d1.y)) ≤ ((d1.r * d1.r) * (d2.x * d2.x + d2.y * d2.y)))) := hf24
  subst hf24
  have h := h.also (t := 73) hv24
  exact StepF.val h (asg h rfl) ⟨rfl, rfl, rfl, rfl, rfl, rfl, trivial⟩ rfl rfl rfl rfl rfl
 intro a w52 h hp hf
 obtain ⟨v9, hv9, hf9⟩ := hf 23 (by decide)
 have hf9 : v9 = .bool (decide (((d2.r * d2.r) * (d1.x * d1.x + d1.y * d1.y)) ≤ ((d1.r * d1.r) * (d2.x * d2.x + d2.y * d2.y)))) := hf9
 subst hf9
 have h := h.also (t := 9) hv9
 refine wp_seq ?_
 refine rg ?_
 refine wm2 h rfl rfl rfl rfl fun a h => ?_
 refine split (t := 75) h rfl (fun hb2 => ?_) (fun hb2 => ?_)
 ·refine wl (stp_on h rfl rfl rfl hb2 (vl h (mov h rfl) fun a h => ?_))
  refine wl (stp_on h rfl rfl rfl hb2 (vl h (mov h rfl) fun a h => ?_))
  refine wl (stp_on h rfl rfl rfl hb2 (vl h (geq h rfl rfl) fun a h => ?_))
  refine wvl h (pckT h rfl hb2 rfl) fun a h => ?_
  refine wmv h rfl fun a h => ?_
  refine split (t := 80) h rfl (fun hb3 => ?_) (fun hb3 => ?_)
  ·refine wl (stp_on h rfl rfl rfl hb3 (vl h (mov h rfl) fun a h => ?_))
   refine wl (stp_on h rfl rfl rfl hb3 (vl h (mov h rfl) fun a h => ?_))
   refine wl (stp_on h rfl rfl rfl hb3 (vl h (sub h rfl rfl (by omega)) fun a h => ?_))
   refine wl (stp_on h rfl rfl rfl hb3 (bsl h hp rfl (bs74_1_0 _) fun a w53 g3 hg3 h hp => ?_))
   refine wl (stp_on h rfl rfl rfl hb3 (cal h rfl en93 (squares1 (hp.fact (i := 2) rfl) (by omega)) fun u w54 ⟨e1, e2⟩ a h => ?_))
   subst e1
   have hp := hp.below e2
   refine wl (stp_on h rfl rfl rfl hb3 (vl h (mov h rfl) fun a h => ?_))
   refine wl (stp_on h rfl rfl rfl hb3 (vl h (mov h rfl) fun a h => ?_))
   refine wl (stp_on h rfl rfl rfl hb3 (vl h (mul h rfl rfl (by omega)) fun a h => ?_))
   refine wl (stp_on h rfl rfl rfl hb3 (vl h (geq h rfl rfl) fun a h => ?_))
   refine wvl h (pckT h rfl hb3 rfl) fun a h => ?_
   refine wn ?_
   refine cnd1 h rfl (fun hb4 => ?_) (fun hb4 => ?_)
   ·refine rg ?_
    refine wsn h rfl fun a h => ?_
    refine wp_ret ?_
    try simp only [xqs]
    refine rt_1 h rfl (rvT h rfl) ?_
    refine ⟨_, rfl, congrArg (Value.int .i64) ?_, hp.bel⟩
    simp only [decide_eq_true_eq, decide_eq_false_iff_not] at hb1 hb2 hb3 hb4
    unfold shadesB Ball.pow
    simp only
    repeat' (first | rfl | (split <;> first | rfl | omega | skip))
   refine skp ?_
   refine wp_seq ?_
   refine rg ?_
   refine wm2 h rfl rfl rfl rfl fun a h => ?_
   refine wvl h (neg h rfl (by omega)) fun a h => ?_
   refine wvl h (gtr h rfl rfl) fun a h => ?_
   refine wmv h rfl fun a h => ?_
   refine split (t := 95) h rfl (fun hb5 => ?_) (fun hb5 => ?_)
   ·refine wl (stp_on h rfl rfl rfl hb5 (vl h (mov h rfl) fun a h => ?_))
    refine wl (stp_on h rfl rfl rfl hb5 (vl h (mov h rfl) fun a h => ?_))
    refine wl (stp_on h rfl rfl rfl hb5 (vl h (add h rfl rfl (by omega)) fun a h => ?_))
    refine wl (stp_on h rfl rfl rfl hb5 (bsl h hp rfl (bs74_1_0 _) fun a w55 g4 hg4 h hp => ?_))
    refine wl (stp_on h rfl rfl rfl hb5 (cal h rfl en93 (squares1 (hp.fact (i := 3) rfl) (by omega)) fun u w56 ⟨e1, e2⟩ a h => ?_))
    subst e1
    have hp := hp.below e2
    refine wl (stp_on h rfl rfl rfl hb5 (vl h (mov h rfl) fun a h => ?_))
    refine wl (stp_on h rfl rfl rfl hb5 (vl h (mov h rfl) fun a h => ?_))
    refine wl (stp_on h rfl rfl rfl hb5 (vl h (mul h rfl rfl (by omega)) fun a h => ?_))
    refine wl (stp_on h rfl rfl rfl hb5 (vl h (gtr h rfl rfl) fun a h => ?_))
    refine wvl h (pckT h rfl hb5 rfl) fun a h => ?_
    refine wn ?_
    refine cnd1 h rfl (fun hb6 => ?_) (fun hb6 => ?_)
    ·refine rg ?_
     refine wsn h rfl fun a h => ?_
     refine wp_ret ?_
     try simp only [xqs]
     refine rt_1 h rfl (rvT h rfl) ?_
     refine ⟨_, rfl, congrArg (Value.int .i64) ?_, hp.bel⟩
     simp only [decide_eq_true_eq, decide_eq_false_iff_not] at hb1 hb2 hb3 hb4 hb5 hb6
     unfold shadesB Ball.pow
     simp only
     repeat' (first | rfl | (split <;> first | rfl | omega | skip))
    refine skp ?_
    refine rg ?_
    refine wsn h rfl fun a h => ?_
    refine wp_ret ?_
    try simp only [xqs]
    refine rt_1 h rfl (rvT h rfl) ?_
    refine ⟨_, rfl, congrArg (Value.int .i64) ?_, hp.bel⟩
    simp only [decide_eq_true_eq, decide_eq_false_iff_not] at hb1 hb2 hb3 hb4 hb5 hb6
    unfold shadesB Ball.pow
    simp only
    repeat' (first | rfl | (split <;> first | rfl | omega | skip))
   refine wl (stp_off h rfl rfl rfl rfl rfl hb5 fun a h => ?_)
   refine wl (stp_off h rfl rfl rfl rfl rfl hb5 fun a h => ?_)
   refine wl (stp_off h rfl rfl rfl rfl rfl hb5 fun a h => ?_)
   refine wl (stp_off h rfl rfl rfl rfl rfl hb5 fun a h => ?_)
   refine wl (stp_off h rfl rfl rfl rfl rfl hb5 fun a h => ?_)
   refine wl (stp_off h rfl rfl rfl rfl rfl hb5 fun a h => ?_)
   refine wl (stp_off h rfl rfl rfl rfl rfl hb5 fun a h => ?_)
   refine wl (stp_off h rfl rfl rfl rfl rfl hb5 fun a h => ?_)
   refine wl (stp_off h rfl rfl rfl rfl rfl hb5 fun a h => ?_)
   refine wvl h (pckF h rfl hb5 rfl) fun a h => ?_
   refine wn ?_
   refine cnd1 h rfl (fun e => nomatch e) (fun _ => ?_)
   refine skp ?_
   refine rg ?_
   refine wsn h rfl fun a h => ?_
   refine wp_ret ?_
   try simp only [xqs]
   refine rt_1 h rfl (rvT h rfl) ?_
   refine ⟨_, rfl, congrArg (Value.int .i64) ?_, hp.bel⟩
   simp only [decide_eq_true_eq, decide_eq_false_iff_not] at hb1 hb2 hb3 hb4 hb5
   unfold shadesB Ball.pow
   simp only
   repeat' (first | rfl | (split <;> first | rfl | omega | skip))
  refine wl (stp_off h rfl rfl rfl rfl rfl hb3 fun a h => ?_)
  refine wl (stp_off h rfl rfl rfl rfl rfl hb3 fun a h => ?_)
  refine wl (stp_off h rfl rfl rfl rfl rfl hb3 fun a h => ?_)
  refine wl (stp_off h rfl rfl rfl rfl rfl hb3 fun a h => ?_)
  refine wl (stp_off h rfl rfl rfl rfl rfl hb3 fun a h => ?_)
  refine wl (stp_off h rfl rfl rfl rfl rfl hb3 fun a h => ?_)
  refine wl (stp_off h rfl rfl rfl rfl rfl hb3 fun a h => ?_)
  refine wl (stp_off h rfl rfl rfl rfl rfl hb3 fun a h => ?_)
  refine wl (stp_off h rfl rfl rfl rfl rfl hb3 fun a h => ?_)
  refine wvl h (pckF h rfl hb3 rfl) fun a h => ?_
  refine wn ?_
  refine cnd1 h rfl (fun e => nomatch e) (fun _ => ?_)
  refine skp ?_
  refine wp_seq ?_
  refine rg ?_
  refine wm2 h rfl rfl rfl rfl fun a h => ?_
  refine wvl h (neg h rfl (by omega)) fun a h => ?_
  refine wvl h (gtr h rfl rfl) fun a h => ?_
  refine wmv h rfl fun a h => ?_
  refine split (t := 95) h rfl (fun hb7 => ?_) (fun hb7 => ?_)
  ·refine wl (stp_on h rfl rfl rfl hb7 (vl h (mov h rfl) fun a h => ?_))
   refine wl (stp_on h rfl rfl rfl hb7 (vl h (mov h rfl) fun a h => ?_))
   refine wl (stp_on h rfl rfl rfl hb7 (vl h (add h rfl rfl (by omega)) fun a h => ?_))
   refine wl (stp_on h rfl rfl rfl hb7 (bsl h hp rfl (bs74_1_0 _) fun a w57 g5 hg5 h hp => ?_))
   refine wl (stp_on h rfl rfl rfl hb7 (cal h rfl en93 (squares1 (hp.fact (i := 2) rfl) (by omega)) fun u w58 ⟨e1, e2⟩ a h => ?_))
   subst e1
   have hp := hp.below e2
   refine wl (stp_on h rfl rfl rfl hb7 (vl h (mov h rfl) fun a h => ?_))
   refine wl (stp_on h rfl rfl rfl hb7 (vl h (mov h rfl) fun a h => ?_))
   refine wl (stp_on h rfl rfl rfl hb7 (vl h (mul h rfl rfl (by omega)) fun a h => ?_))
   refine wl (stp_on h rfl rfl rfl hb7 (vl h (gtr h rfl rfl) fun a h => ?_))
   refine wvl h (pckT h rfl hb7 rfl) fun a h => ?_
   refine wn ?_
   refine cnd1 h rfl (fun hb8 => ?_) (fun hb8 => ?_)
   ·refine rg ?_
    refine wsn h rfl fun a h => ?_
    refine wp_ret ?_
    try simp only [xqs]
    refine rt_1 h rfl (rvT h rfl) ?_
    refine ⟨_, rfl, congrArg (Value.int .i64) ?_, hp.bel⟩
    simp only [decide_eq_true_eq, decide_eq_false_iff_not] at hb1 hb2 hb3 hb7 hb8
    unfold shadesB Ball.pow
    simp only
    repeat' (first | rfl | (split <;> first | rfl | omega | skip))
   refine skp ?_
   refine rg ?_
   refine wsn h rfl fun a h => ?_
   refine wp_ret ?_
   try simp only [xqs]
   refine rt_1 h rfl (rvT h rfl) ?_
   refine ⟨_, rfl, congrArg (Value.int .i64) ?_, hp.bel⟩
   simp only [decide_eq_true_eq, decide_eq_false_iff_not] at hb1 hb2 hb3 hb7 hb8
   unfold shadesB Ball.pow
   simp only
   repeat' (first | rfl | (split <;> first | rfl | omega | skip))
  refine wl (stp_off h rfl rfl rfl rfl rfl hb7 fun a h => ?_)
  refine wl (stp_off h rfl rfl rfl rfl rfl hb7 fun a h => ?_)
  refine wl (stp_off h rfl rfl rfl rfl rfl hb7 fun a h => ?_)
  refine wl (stp_off h rfl rfl rfl rfl rfl hb7 fun a h => ?_)
  refine wl (stp_off h rfl rfl rfl rfl rfl hb7 fun a h => ?_)
  refine wl (stp_off h rfl rfl rfl rfl rfl hb7 fun a h => ?_)
  refine wl (stp_off h rfl rfl rfl rfl rfl hb7 fun a h => ?_)
  refine wl (stp_off h rfl rfl rfl rfl rfl hb7 fun a h => ?_)
  refine wl (stp_off h rfl rfl rfl rfl rfl hb7 fun a h => ?_)
  refine wvl h (pckF h rfl hb7 rfl) fun a h => ?_
  refine wn ?_
  refine cnd1 h rfl (fun e => nomatch e) (fun _ => ?_)
  refine skp ?_
  refine rg ?_
  refine wsn h rfl fun a h => ?_
  refine wp_ret ?_
  try simp only [xqs]
  refine rt_1 h rfl (rvT h rfl) ?_
  refine ⟨_, rfl, congrArg (Value.int .i64) ?_, hp.bel⟩
  simp only [decide_eq_true_eq, decide_eq_false_iff_not] at hb1 hb2 hb3 hb7
  unfold shadesB Ball.pow
  simp only
  repeat' (first | rfl | (split <;> first | rfl | omega | skip))
 refine wl (stp_off h rfl rfl rfl rfl rfl hb2 fun a h => ?_)
 refine wl (stp_off h rfl rfl rfl rfl rfl hb2 fun a h => ?_)
 refine wl (stp_off h rfl rfl rfl rfl rfl hb2 fun a h => ?_)
 refine wvl h (pckF h rfl hb2 rfl) fun a h => ?_
 refine wmv h rfl fun a h => ?_
 refine wl (stp_off h rfl rfl rfl rfl rfl rfl fun a h => ?_)
 refine wl (stp_off h rfl rfl rfl rfl rfl rfl fun a h => ?_)
 refine wl (stp_off h rfl rfl rfl rfl rfl rfl fun a h => ?_)
 refine wl (stp_off h rfl rfl rfl rfl rfl rfl fun a h => ?_)
 refine wl (stp_off h rfl rfl rfl rfl rfl rfl fun a h => ?_)
 refine wl (stp_off h rfl rfl rfl rfl rfl rfl fun a h => ?_)
 refine wl (stp_off h rfl rfl rfl rfl rfl rfl fun a h => ?_)
 refine wl (stp_off h rfl rfl rfl rfl rfl rfl fun a h => ?_)
 refine wl (stp_off h rfl rfl rfl rfl rfl rfl fun a h => ?_)
 refine wvl h (pckF h rfl rfl rfl) fun a h => ?_
 refine wn ?_
 refine cnd1 h rfl (fun e => nomatch e) (fun _ => ?_)
 refine skp ?_
 refine wp_seq ?_
 refine rg ?_
 refine wm2 h rfl rfl rfl rfl fun a h => ?_
 refine wvl h (neg h rfl (by omega)) fun a h => ?_
 refine wvl h (gtr h rfl rfl) fun a h => ?_
 refine wmv h rfl fun a h => ?_
 refine split (t := 95) h rfl (fun hb9 => ?_) (fun hb9 => ?_)
 ·refine wl (stp_on h rfl rfl rfl hb9 (vl h (mov h rfl) fun a h => ?_))
  refine wl (stp_on h rfl rfl rfl hb9 (vl h (mov h rfl) fun a h => ?_))
  refine wl (stp_on h rfl rfl rfl hb9 (vl h (add h rfl rfl (by omega)) fun a h => ?_))
  refine wl (stp_on h rfl rfl rfl hb9 (bsl h hp rfl (bs74_1_0 _) fun a w59 g6 hg6 h hp => ?_))
  refine wl (stp_on h rfl rfl rfl hb9 (cal h rfl en93 (squares1 (hp.fact (i := 2) rfl) (by omega)) fun u w60 ⟨e1, e2⟩ a h => ?_))
  subst e1
  have hp := hp.below e2
  refine wl (stp_on h rfl rfl rfl hb9 (vl h (mov h rfl) fun a h => ?_))
  refine wl (stp_on h rfl rfl rfl hb9 (vl h (mov h rfl) fun a h => ?_))
  refine wl (stp_on h rfl rfl rfl hb9 (vl h (mul h rfl rfl (by omega)) fun a h => ?_))
  refine wl (stp_on h rfl rfl rfl hb9 (vl h (gtr h rfl rfl) fun a h => ?_))
  refine wvl h (pckT h rfl hb9 rfl) fun a h => ?_
  refine wn ?_
  refine cnd1 h rfl (fun hb10 => ?_) (fun hb10 => ?_)
  ·refine rg ?_
   refine wsn h rfl fun a h => ?_
   refine wp_ret ?_
   try simp only [xqs]
   refine rt_1 h rfl (rvT h rfl) ?_
   refine ⟨_, rfl, congrArg (Value.int .i64) ?_, hp.bel⟩
   simp only [decide_eq_true_eq, decide_eq_false_iff_not] at hb1 hb2 hb9 hb10
   unfold shadesB Ball.pow
   simp only
   repeat' (first | rfl | (split <;> first | rfl | omega | skip))
  refine skp ?_
  refine rg ?_
  refine wsn h rfl fun a h => ?_
  refine wp_ret ?_
  try simp only [xqs]
  refine rt_1 h rfl (rvT h rfl) ?_
  refine ⟨_, rfl, congrArg (Value.int .i64) ?_, hp.bel⟩
  simp only [decide_eq_true_eq, decide_eq_false_iff_not] at hb1 hb2 hb9 hb10
  unfold shadesB Ball.pow
  simp only
  repeat' (first | rfl | (split <;> first | rfl | omega | skip))
 refine wl (stp_off h rfl rfl rfl rfl rfl hb9 fun a h => ?_)
 refine wl (stp_off h rfl rfl rfl rfl rfl hb9 fun a h => ?_)
 refine wl (stp_off h rfl rfl rfl rfl rfl hb9 fun a h => ?_)
 refine wl (stp_off h rfl rfl rfl rfl rfl hb9 fun a h => ?_)
 refine wl (stp_off h rfl rfl rfl rfl rfl hb9 fun a h => ?_)
 refine wl (stp_off h rfl rfl rfl rfl rfl hb9 fun a h => ?_)
 refine wl (stp_off h rfl rfl rfl rfl rfl hb9 fun a h => ?_)
 refine wl (stp_off h rfl rfl rfl rfl rfl hb9 fun a h => ?_)
 refine wl (stp_off h rfl rfl rfl rfl rfl hb9 fun a h => ?_)
 refine wvl h (pckF h rfl hb9 rfl) fun a h => ?_
 refine wn ?_
 refine cnd1 h rfl (fun e => nomatch e) (fun _ => ?_)
 refine skp ?_
 refine rg ?_
 refine wsn h rfl fun a h => ?_
 refine wp_ret ?_
 try simp only [xqs]
 refine rt_1 h rfl (rvT h rfl) ?_
 refine ⟨_, rfl, congrArg (Value.int .i64) ?_, hp.bel⟩
 simp only [decide_eq_true_eq, decide_eq_false_iff_not] at hb1 hb2 hb9
 unfold shadesB Ball.pow
 simp only
 repeat' (first | rfl | (split <;> first | rfl | omega | skip))
set_option maxHeartbeats 2000000 in
theorem apart_e (s : SV) (l : List Ball) (w : World) (hR : Rd w encL 3 s.v l) : RetP Tryz.prog 54 #[s.v] w (fun u w' => (u = .tuple #[] ∧ isBalls l = true) ∧ Below w.heap.size w w') (fun v w' => ((∃ n : Int, v = (.iface 99 (.agg #[.int .i64 n]))) ∧ isBalls l = false) ∧ Below w.heap.size w w') := by
 have hp : Hp c0 w w [] := Hp.start trivial
 refine enter Tryz.func54 rfl (N := 86) rfl rfl fun a h => ?_
 refine wp_seq ?_
 refine rg ?_
 refine wmv h rfl fun a h => ?_
 refine wvl h (lenR h rfl Tryz.underlying37 (hR.keep (by decide) hp cl0)) fun a h => ?_
 refine wl (cal h rfl en61 (in_e _ _ _ _) fun u w1 ⟨e1, e2⟩ a h => ?_)
 subst e1
 have e2 := e2.symm
 subst e2
 refine wvl h (not_ h rfl) fun a h => ?_
 refine wn ?_
 refine cnd1 h rfl (fun hb1 => ?_) (fun hb1 => ?_)
 ·have hlen : inR (l.length : Int) 1 5 = false := by simpa using hb1
  refine rg1 ?_
  refine wmv h rfl fun a h => ?_
  refine wvl h (lenR h rfl Tryz.underlying37 (hR.keep (by decide) hp cl0)) fun a h => ?_
  refine wvl h (bld h rfl (bl99_0 _ _)) fun a h => ?_
  refine wvl h (mki h rfl (by kernel_rfl)) fun a h => ?_
  refine wl (pan h rfl ?_)
  exact ⟨h.defs, .inr ⟨_, rfl, ⟨⟨_, rfl⟩, by rw [isBalls, hlen]; rfl⟩, hp.bel⟩⟩
 have hlen : inR (l.length : Int) 1 5 = true := by simpa using hb1
 refine skp ?_
 refine rg ?_
 refine wmv h rfl fun a h => ?_
 refine wvl h (lenR h rfl Tryz.underlying37 (hR.keep (by decide) hp cl0)) fun a h => ?_
 refine wmv h rfl fun a h => ?_
 refine wn ?_
 refine lp1 h [0, 14, 15] (fun n f w' => ∃ k : Nat, k ≤ l.length ∧ n = l.length - k ∧ f = [(16, .int .i64 k)] ∧ Hp c0 w w' ([]) ∧ ballsOk (l.take k) = true) (l.length) [(16, .int .i64 ((0 : Nat) : Int))] ⟨rfl, rfl, rfl, rfl, trivial⟩ ⟨0, Nat.zero_le _, rfl, rfl, hp, rfl⟩ ?_
 rintro n f a w2 ⟨k, hk, rfl, rfl, hp, hI⟩ h
 have hfit := hR.fits
 refine rg ?_
 refine wvl h (lss h rfl rfl) fun a h => ?_
 refine wn ?_
 refine cnd h rfl (fun hb2 => ?_) (fun hb2 => ?_)
 ·have hlt : k < l.length := by have := of_decide_eq_true hb2; omega
  obtain ⟨y, hy⟩ : ∃ y, l[k]? = some y := ⟨_, List.getElem?_eq_getElem hlt⟩
  have hlk : (l.take k).length = k := by rw [List.length_take]; omega
  refine skp ?_
  refine blk ?_
  refine rg ?_
  refine wmv h rfl fun a h => ?_
  refine wvl h (iadR (k) h rfl rfl Tryz.underlying37 sz51 (hR.keep (by decide) hp cl0) (rfl) (hlt)) fun a h => ?_
  refine wvl h (ldE h (hR.keep (by decide) hp cl0) hy rfl ag51 sz51) fun a h => ?_
  refine wl (all h hp zc51 fun a w3 g1 hg1 h hp => ?_)
  refine wsg h rfl fun a h => ?_
  refine wl (sta h hp rfl rfl 0 rfl sz51 rfl rfl fun w4 hp => ?_)
  refine wn ?_
  refine wp_seq ?_
  refine cutN (fun a w' => Has [] 86 a [(0, s.v), (2, .int .i64 (k : Int)), (3, .pointer (some ⟨g1, 0, none⟩)), (14, s.v), (15, .int .i64 (l.length : Int)), (16, .int .i64 (k : Int)), (49, .bool (!okBall y))] ∧ Hp c0 w w' [.blk g1 (.cells #[.int .i64 y.x, .int .i64 y.y, .int .i64 y.r] 51 (0, 0))]) ?_ ?_
  ·refine rdh1 (n := 29) hp mixed rfl ?_
   have hp := hp.drew
   refine tkq 0 h rfl hp (fun W _ => fad h rfl fo51_0) fun a h => ?_
   refine tkq 1 h rfl hp (fun W hp => ldo h hp rfl 0 rfl rfl ag3) fun a h => ?_
   refine one 2 (by kernel_rfl) rfl (cal h rfl en61 (in_e _ _ _ _) fun u w6 ⟨e1, e2⟩ a h => ⟨e2 ▸ hp, ?_⟩)
   subst e1
   have e2 := e2.symm
   subst e2
   refine tkq 3 h rfl hp (fun W _ => not_ h rfl) fun a h => ?_
   refine tkm 4 h rfl hp rfl fun a h => ?_
   refine split (t := 25) h rfl (fun hb3 => ?_) (fun hb3 => ?_)
   ·have hok : okBall y = false := by have hq := hb3; simp only [Bool.not_eq_true'] at hq; rw [okBall, hq]; rfl
    refine tkG 5 h rfl hp rfl rfl rfl hb3 fun a h => ?_
    refine tkG 6 h rfl hp rfl rfl rfl hb3 fun a h => ?_
    refine tkG 7 h rfl hp rfl rfl rfl hb3 fun a h => ?_
    refine tkG 8 h rfl hp rfl rfl rfl hb3 fun a h => ?_
    refine tkq 9 h rfl hp (fun W _ => pckT h rfl hb3 rfl) fun a h => ?_
    refine tkm 10 h rfl hp rfl fun a h => ?_
    refine tkG 11 h rfl hp rfl rfl rfl rfl fun a h => ?_
    refine tkG 12 h rfl hp rfl rfl rfl rfl fun a h => ?_
    refine tkG 13 h rfl hp rfl rfl rfl rfl fun a h => ?_
    refine tkG 14 h rfl hp rfl rfl rfl rfl fun a h => ?_
    refine tkq 15 h rfl hp (fun W _ => pckT h rfl rfl rfl) fun a h => ?_
    refine tkm 16 h rfl hp rfl fun a h => ?_
    refine tkG 17 h rfl hp rfl rfl rfl rfl fun a h => ?_
    refine tkG 18 h rfl hp rfl rfl rfl rfl fun a h => ?_
    refine tkG 19 h rfl hp rfl rfl rfl rfl fun a h => ?_
    refine tkG 20 h rfl hp rfl rfl rfl rfl fun a h => ?_
    refine tkG 21 h rfl hp rfl rfl rfl rfl fun a h => ?_
    refine tkG 22 h rfl hp rfl rfl rfl rfl fun a h => ?_
    refine tkG 23 h rfl hp rfl rfl rfl rfl fun a h => ?_
    refine tkG 24 h rfl hp rfl rfl rfl rfl fun a h => ?_
    refine tkG 25 h rfl hp rfl rfl rfl rfl fun a h => ?_
    refine tkG 26 h rfl hp rfl rfl rfl rfl fun a h => ?_
    refine tkG 27 h rfl hp rfl rfl rfl rfl fun a h => ?_
    refine tkq 28 h rfl hp (fun W _ => pckT h rfl rfl rfl) fun a h => ?_
    refine dn (by kernel_rfl) ?_
    have e9 : (!okBall y) = true := by rw [hok]; rfl
    exact ⟨by rw [e9]; exact h.sub ⟨rfl, rfl, rfl, rfl, rfl, rfl, rfl, trivial⟩, hp.pre 1 rfl⟩
   have hx := hb3
   simp only [Bool.not_eq_false'] at hx
   have hxb := hx
   simp only [inR, Bool.and_eq_true, decide_eq_true_eq] at hxb
   refine tk_on 5 h rfl (by kernel_rfl) (fun _ _ _ q => q) hp rfl rfl rfl rfl rfl hb3 (fun W _ => fad h rfl fo51_1) fun a h => ?_
   refine tk_on 6 h rfl (by kernel_rfl) (fun _ _ _ q => q) hp rfl rfl rfl rfl rfl hb3 (fun W hp => ldo h hp rfl 0 rfl rfl ag3) fun a h => ?_
   refine one 7 (by kernel_rfl) rfl (stp_on h rfl rfl rfl hb3 (cal h rfl en61 (in_e _ _ _ _) fun u w7 ⟨e1, e2⟩ a h => ⟨e2 ▸ hp, ?_⟩))
   subst e1
   have e2 := e2.symm
   subst e2
   refine tk_on 8 h rfl (by kernel_rfl) (fun _ _ _ q => q) hp rfl rfl rfl rfl rfl hb3 (fun W _ => not_ h rfl) fun a h => ?_
   refine tkq 9 h rfl hp (fun W _ => pckF h rfl hb3 rfl) fun a h => ?_
   refine tkm 10 h rfl hp rfl fun a h => ?_
   refine split (t := 31) h rfl (fun hb4 => ?_) (fun hb4 => ?_)
   ·have hok : okBall y = false := by have hq := hb4; simp only [Bool.not_eq_true'] at hq; rw [okBall, hx, hq]; rfl
    refine tkG 11 h rfl hp rfl rfl rfl hb4 fun a h => ?_
    refine tkG 12 h rfl hp rfl rfl rfl hb4 fun a h => ?_
    refine tkG 13 h rfl hp rfl rfl rfl hb4 fun a h => ?_
    refine tkG 14 h rfl hp rfl rfl rfl hb4 fun a h => ?_
    refine tkq 15 h rfl hp (fun W _ => pckT h rfl hb4 rfl) fun a h => ?_
    refine tkm 16 h rfl hp rfl fun a h => ?_
    refine tkG 17 h rfl hp rfl rfl rfl rfl fun a h => ?_
    refine tkG 18 h rfl hp rfl rfl rfl rfl fun a h => ?_
    refine tkG 19 h rfl hp rfl rfl rfl rfl fun a h => ?_
    refine tkG 20 h rfl hp rfl rfl rfl rfl fun a h => ?_
    refine tkG 21 h rfl hp rfl rfl rfl rfl fun a h => ?_
    refine tkG 22 h rfl hp rfl rfl rfl rfl fun a h => ?_
    refine tkG 23 h rfl hp rfl rfl rfl rfl fun a h => ?_
    refine tkG 24 h rfl hp rfl rfl rfl rfl fun a h => ?_
    refine tkG 25 h rfl hp rfl rfl rfl rfl fun a h => ?_
    refine tkG 26 h rfl hp rfl rfl rfl rfl fun a h => ?_
    refine tkG 27 h rfl hp rfl rfl rfl rfl fun a h => ?_
    refine tkq 28 h rfl hp (fun W _ => pckT h rfl rfl rfl) fun a h => ?_
    refine dn (by kernel_rfl) ?_
    have e9 : (!okBall y) = true := by rw [hok]; rfl
    exact ⟨by rw [e9]; exact h.sub ⟨rfl, rfl, rfl, rfl, rfl, rfl, rfl, trivial⟩, hp.pre 1 rfl⟩
   have hx2 := hb4
   simp only [Bool.not_eq_false'] at hx2
   have hx2b := hx2
   simp only [inR, Bool.and_eq_true, decide_eq_true_eq] at hx2b
   refine tk_on 11 h rfl (by kernel_rfl) (fun _ _ _ q => q) hp rfl rfl rfl rfl rfl hb4 (fun W _ => fad h rfl fo51_2) fun a h => ?_
   refine tk_on 12 h rfl (by kernel_rfl) (fun _ _ _ q => q) hp rfl rfl rfl rfl rfl hb4 (fun W hp => ldo h hp rfl 0 rfl rfl ag3) fun a h => ?_
   refine one 13 (by kernel_rfl) rfl (stp_on h rfl rfl rfl hb4 (cal h rfl en61 (in_e _ _ _ _) fun u w8 ⟨e1, e2⟩ a h => ⟨e2 ▸ hp, ?_⟩))
   subst e1
   have e2 := e2.symm
   subst e2
   refine tk_on 14 h rfl (by kernel_rfl) (fun _ _ _ q => q) hp rfl rfl rfl rfl rfl hb4 (fun W _ => not_ h rfl) fun a h => ?_
   refine tkq 15 h rfl hp (fun W _ => pckF h rfl hb4 rfl) fun a h => ?_
   refine tkm 16 h rfl hp rfl fun a h => ?_
   refine split (t := 37) h rfl (fun hb5 => ?_) (fun hb5 => ?_)
   ·have hok : okBall y = false := by have hq := hb5; simp only [Bool.not_eq_true'] at hq; rw [okBall, hx, hx2, hq]; rfl
    refine tkG 17 h rfl hp rfl rfl rfl hb5 fun a h => ?_
    refine tkG 18 h rfl hp rfl rfl rfl hb5 fun a h => ?_
    refine tkG 19 h rfl hp rfl rfl rfl hb5 fun a h => ?_
    refine tkG 20 h rfl hp rfl rfl rfl hb5 fun a h => ?_
    refine tkG 21 h rfl hp rfl rfl rfl hb5 fun a h => ?_
    refine tkG 22 h rfl hp rfl rfl rfl hb5 fun a h => ?_
    refine tkG 23 h rfl hp rfl rfl rfl hb5 fun a h => ?_
    refine tkG 24 h rfl hp rfl rfl rfl hb5 fun a h => ?_
    refine tkG 25 h rfl hp rfl rfl rfl hb5 fun a h => ?_
    refine tkG 26 h rfl hp rfl rfl rfl hb5 fun a h => ?_
    refine tkG 27 h rfl hp rfl rfl rfl hb5 fun a h => ?_
    refine tkq 28 h rfl hp (fun W _ => pckT h rfl hb5 rfl) fun a h => ?_
    refine dn (by kernel_rfl) ?_
    have e9 : (!okBall y) = true := by rw [hok]; rfl
    exact ⟨by rw [e9]; exact h.sub ⟨rfl, rfl, rfl, rfl, rfl, rfl, rfl, trivial⟩, hp.pre 1 rfl⟩
   have hx3 := hb5
   simp only [Bool.not_eq_false'] at hx3
   have hx3b := hx3
   simp only [inR, Bool.and_eq_true, decide_eq_true_eq] at hx3b
   refine tk_on 17 h rfl (by kernel_rfl) (fun _ _ _ q => q) hp rfl rfl rfl rfl rfl hb5 (fun W _ => fad h rfl fo51_0) fun a h => ?_
   refine tk_on 18 h rfl (by kernel_rfl) (fun _ _ _ q => q) hp rfl rfl rfl rfl rfl hb5 (fun W hp => ldo h hp rfl 0 rfl rfl ag3) fun a h => ?_
   refine tk_on 19 h rfl (by kernel_rfl) (fun _ _ _ q => q) hp rfl rfl rfl rfl rfl hb5 (fun W _ => fad h rfl fo51_1) fun a h => ?_
   refine tk_on 20 h rfl (by kernel_rfl) (fun _ _ _ q => q) hp rfl rfl rfl rfl rfl hb5 (fun W hp => ldo h hp rfl 0 rfl rfl ag3) fun a h => ?_
   refine tk_on 23 h rfl (by kernel_rfl) (fun _ _ _ q => q) hp rfl rfl rfl rfl rfl hb5 (fun W _ => fad h rfl fo51_2) fun a h => ?_
   refine tk_on 24 h rfl (by kernel_rfl) (fun _ _ _ q => q) hp rfl rfl rfl rfl rfl hb5 (fun W hp => ldo h hp rfl 0 rfl rfl ag3) fun a h => ?_
   refine two 21 25 (by kernel_rfl) rfl rfl ?_ ?_
   ·refine (stp_on h rfl rfl rfl hb5 (bsl h hp rfl (bs74_2_0_1 _ _) fun a w9 g2 hg2 h hp => ⟨((hp).pre 1 rfl), ?_⟩))
    refine two 22 25 (by kernel_rfl) rfl rfl ?_ ?_
    ·refine (stp_on h rfl rfl rfl hb5 (cal h rfl en93 (squares2 (hp.fact (i := 1) rfl) (by omega) (by omega)) fun u w10 ⟨e1, e2⟩ a h => ⟨((hp.below e2).pre 1 rfl), ?_⟩))
     subst e1
     have hp := hp.below e2
     refine one 25 (by kernel_rfl) rfl (stp_on h rfl rfl rfl hb5 (bsl h hp rfl (bs74_1_0 _) fun a w11 g3 hg3 h hp => ⟨((hp).pre 1 rfl), ?_⟩))
     refine one 26 (by kernel_rfl) rfl (stp_on h rfl rfl rfl hb5 (cal h rfl en93 (squares1 (hp.fact (i := 2) rfl) (by omega)) fun u w12 ⟨e1, e2⟩ a h => ⟨((hp.below e2).pre 1 rfl), ?_⟩))
     subst e1
     have hp := hp.below e2
     refine tk_on 27 h rfl (by kernel_rfl) (fun _ _ _ q => q) ((hp).pre 1 rfl) rfl rfl rfl rfl rfl hb5 (fun W _ => leq h rfl rfl) fun a h => ?_
     refine tkq 28 h rfl ((hp).pre 1 rfl) (fun W _ => pckF h rfl hb5 rfl) fun a h => ?_
     refine dn (by kernel_rfl) ?_
     have e9 : (!okBall y) = _ := ok_last hx hx2 hx3
     exact ⟨by rw [e9]; exact h.sub ⟨rfl, rfl, rfl, rfl, rfl, rfl, rfl, trivial⟩, hp.pre 1 rfl⟩
    refine (stp_on h rfl rfl rfl hb5 (bsl h hp rfl (bs74_1_0 _) fun a w13 g4 hg4 h hp => ⟨((hp).pre 1 rfl), ?_⟩))
    refine one 22 (by kernel_rfl) rfl (stp_on h rfl rfl rfl hb5 (cal h rfl en93 (squares2 (hp.fact (i := 1) rfl) (by omega) (by omega)) fun u w14 ⟨e1, e2⟩ a h => ⟨((hp.below e2).pre 1 rfl), ?_⟩))
    subst e1
    have hp := hp.below e2
    refine one 26 (by kernel_rfl) rfl (stp_on h rfl rfl rfl hb5 (cal h rfl en93 (squares1 (hp.fact (i := 2) rfl) (by omega)) fun u w15 ⟨e1, e2⟩ a h => ⟨((hp.below e2).pre 1 rfl), ?_⟩))
    subst e1
    have hp := hp.below e2
    refine tk_on 27 h rfl (by kernel_rfl) (fun _ _ _ q => q) ((hp).pre 1 rfl) rfl rfl rfl rfl rfl hb5 (fun W _ => leq h rfl rfl) fun a h => ?_
    refine tkq 28 h rfl ((hp).pre 1 rfl) (fun W _ => pckF h rfl hb5 rfl) fun a h => ?_
    refine dn (by kernel_rfl) ?_
    have e9 : (!okBall y) = _ := ok_last hx hx2 hx3
    exact ⟨by rw [e9]; exact h.sub ⟨rfl, rfl, rfl, rfl, rfl, rfl, rfl, trivial⟩, hp.pre 1 rfl⟩
   refine (stp_on h rfl rfl rfl hb5 (bsl h hp rfl (bs74_1_0 _) fun a w16 g5 hg5 h hp => ⟨((hp).pre 1 rfl), ?_⟩))
   refine one 21 (by kernel_rfl) rfl (stp_on h rfl rfl rfl hb5 (bsl h hp rfl (bs74_2_0_1 _ _) fun a w17 g6 hg6 h hp => ⟨((hp).pre 1 rfl), ?_⟩))
   refine one 22 (by kernel_rfl) rfl (stp_on h rfl rfl rfl hb5 (cal h rfl en93 (squares2 (hp.fact (i := 2) rfl) (by omega) (by omega)) fun u w18 ⟨e1, e2⟩ a h => ⟨((hp.below e2).pre 1 rfl), ?_⟩))
   subst e1
   have hp := hp.below e2
   refine one 26 (by kernel_rfl) rfl (stp_on h rfl rfl rfl hb5 (cal h rfl en93 (squares1 (hp.fact (i := 1) rfl) (by omega)) fun u w19 ⟨e1, e2⟩ a h => ⟨((hp.below e2).pre 1 rfl), ?_⟩))
   subst e1
   have hp := hp.below e2
   refine tk_on 27 h rfl (by kernel_rfl) (fun _ _ _ q => q) ((hp).pre 1 rfl) rfl rfl rfl rfl rfl hb5 (fun W _ => leq h rfl rfl) fun a h => ?_
   refine tkq 28 h rfl ((hp).pre 1 rfl) (fun W _ => pckF h rfl hb5 rfl) fun a h => ?_
   refine dn (by kernel_rfl) ?_
   have e9 : (!okBall y) = _ := ok_last hx hx2 hx3
   exact ⟨by rw [e9]; exact h.sub ⟨rfl, rfl, rfl, rfl, rfl, rfl, rfl, trivial⟩, hp.pre 1 rfl⟩
  rintro a w5 ⟨h, hp⟩
  refine cnd1 h rfl (fun hb6 => ?_) (fun hb6 => ?_)
  ·have hok : okBall y = false := by simpa using hb6
   refine rg1 ?_
   refine wmv h rfl fun a h => ?_
   refine wvl h (bld h rfl (bl99_0 _ _)) fun a h => ?_
   refine wvl h (mki h rfl (by kernel_rfl)) fun a h => ?_
   refine wl (pan h rfl ?_)
   exact ⟨h.defs, .inr ⟨_, rfl, ⟨⟨_, rfl⟩, balls_no hy (by rw [hok]; rfl)⟩, hp.bel⟩⟩
  have hok : okBall y = true := by simpa using hb6
  have hyb := okBall_iff.1 hok
  obtain ⟨x1, y1, r1, p1⟩ := hyb
  refine skp ?_
  refine rg ?_
  refine wm2 h rfl rfl rfl rfl fun a h => ?_
  refine wvl h (slcH (k) h rfl rfl Tryz.underlying37 sz51 (hR.keep (by decide) hp cl0) rfl (by omega)) fun a h => ?_
  refine wvl h (lenR h rfl Tryz.underlying37 ((hR.keep (by decide) hp cl0).cutH (Nat.le_of_lt hlt))) fun a h => ?_
  refine wmv h rfl fun a h => ?_
  refine wn ?_
  refine lp1 h [0, 2, 3, 14, 15, 16, 55, 56] (fun n f w' => ∃ j : Nat, j ≤ (l.take k).length ∧ n = (l.take k).length - j ∧ f = [(57, .int .i64 j)] ∧ Hp c0 w w' ([.blk g1 (.cells #[.int .i64 y.x, .int .i64 y.y, .int .i64 y.r] 51 (0, 0))]) ∧ ((l.take k).take j).all (fun a => apartB a y) = true) ((l.take k).length) [(57, .int .i64 ((0 : Nat) : Int))] ⟨rfl, rfl, rfl, rfl, rfl, rfl, rfl, rfl, rfl, trivial⟩ ⟨0, Nat.zero_le _, rfl, rfl, hp, rfl⟩ ?_
  rintro n f a w20 ⟨j, hk2, rfl, rfl, hp, hJ⟩ h
  have hfit2 := (hR.cutH (Nat.le_of_lt hlt)).fits
  refine rg ?_
  refine wvl h (lss h rfl rfl) fun a h => ?_
  refine wn ?_
  refine cnd h rfl (fun hb7 => ?_) (fun hb7 => ?_)
  ·have hlt2 : j < (l.take k).length := by have := of_decide_eq_true hb7; omega
   obtain ⟨z, hz⟩ : ∃ z, (l.take k)[j]? = some z := ⟨_, List.getElem?_eq_getElem hlt2⟩
   obtain ⟨x2, y2, r2, p2⟩ := balls_take hI hz
   refine skp ?_
   refine blk ?_
   refine rg ?_
   refine wvl h (iadR (j) h rfl rfl Tryz.underlying37 sz51 ((hR.keep (by decide) hp cl0).cutH (Nat.le_of_lt hlt)) (rfl) (hlt2)) fun a h => ?_
   refine wvl h (ldE h ((hR.keep (by decide) hp cl0).cutH (Nat.le_of_lt hlt)) hz rfl ag51 sz51) fun a h => ?_
   refine wl (all h hp zc51 fun a w21 g7 hg7 h hp => ?_)
   refine wl (sta h hp rfl rfl 1 rfl sz51 rfl rfl fun w22 hp => ?_)
   refine wn ?_
   refine cutN (fun a w' => Has [] 86 a [(0, s.v), (2, .int .i64 (k : Int)), (3, .pointer (some ⟨g1, 0, none⟩)), (14, s.v), (15, .int .i64 (l.length : Int)), (16, .int .i64 (k : Int)), (55, (cutV s.v 3 0 k).v), (56, .int .i64 ((l.take k).length : Int)), (57, .int .i64 (j : Int)), (80, .bool (!apartB z y))] ∧ Hp c0 w w' [.blk g1 (.cells #[.int .i64 y.x, .int .i64 y.y, .int .i64 y.r] 51 (0, 0))]) ?_ ?_
   ·refine rdh1 (n := 20) hp mixed rfl ?_
    have hp := hp.drew
    refine tkq 0 h rfl hp (fun W _ => fad h rfl fo51_0) fun a h => ?_
    refine tkq 1 h rfl hp (fun W hp => ldo h hp rfl 0 rfl rfl ag3) fun a h => ?_
    refine tkq 2 h rfl hp (fun W _ => fad h rfl fo51_0) fun a h => ?_
    refine tkq 3 h rfl hp (fun W hp => ldo h hp rfl 1 rfl rfl ag3) fun a h => ?_
    refine tkq 4 h rfl hp (fun W _ => sub h rfl rfl (by omega)) fun a h => ?_
    refine tkq 5 h rfl hp (fun W _ => fad h rfl fo51_1) fun a h => ?_
    refine tkq 6 h rfl hp (fun W hp => ldo h hp rfl 0 rfl rfl ag3) fun a h => ?_
    refine tkq 7 h rfl hp (fun W _ => fad h rfl fo51_1) fun a h => ?_
    refine tkq 8 h rfl hp (fun W hp => ldo h hp rfl 1 rfl rfl ag3) fun a h => ?_
    refine tkq 9 h rfl hp (fun W _ => sub h rfl rfl (by omega)) fun a h => ?_
    refine tkq 12 h rfl hp (fun W _ => fad h rfl fo51_2) fun a h => ?_
    refine tkq 13 h rfl hp (fun W hp => ldo h hp rfl 0 rfl rfl ag3) fun a h => ?_
    refine tkq 14 h rfl hp (fun W _ => fad h rfl fo51_2) fun a h => ?_
    refine tkq 15 h rfl hp (fun W hp => ldo h hp rfl 1 rfl rfl ag3) fun a h => ?_
    refine tkq 16 h rfl hp (fun W _ => add h rfl rfl (by omega)) fun a h => ?_
    refine two 10 17 (by kernel_rfl) rfl rfl ?_ ?_
    ·refine (bsl h hp rfl (bs74_2_0_1 _ _) fun a w24 g8 hg8 h hp => ⟨((hp).pre 2 rfl), ?_⟩)
     refine two 11 17 (by kernel_rfl) rfl rfl ?_ ?_
     ·refine (cal h rfl en93 (squares2 (hp.fact (i := 2) rfl) (by omega) (by omega)) fun u w25 ⟨e1, e2⟩ a h => ⟨((hp.below e2).pre 2 rfl), ?_⟩)
      subst e1
      have hp := hp.below e2
      refine one 17 (by kernel_rfl) rfl (bsl h hp rfl (bs74_1_0 _) fun a w26 g9 hg9 h hp => ⟨((hp).pre 2 rfl), ?_⟩)
      refine one 18 (by kernel_rfl) rfl (cal h rfl en93 (squares1 (hp.fact (i := 3) rfl) (by omega)) fun u w27 ⟨e1, e2⟩ a h => ⟨((hp.below e2).pre 2 rfl), ?_⟩)
      subst e1
      have hp := hp.below e2
      refine tkq 19 h rfl ((hp).pre 2 rfl) (fun W _ => leq h rfl rfl) fun a h => ?_
      refine dn (by kernel_rfl) ?_
      have e9 := ap_last z y
      exact ⟨by rw [e9]; exact h.sub ⟨rfl, rfl, rfl, rfl, rfl, rfl, rfl, rfl, rfl, rfl, trivial⟩, hp.pre 1 rfl⟩
     refine (bsl h hp rfl (bs74_1_0 _) fun a w28 g10 hg10 h hp => ⟨((hp).pre 2 rfl), ?_⟩)
     refine one 11 (by kernel_rfl) rfl (cal h rfl en93 (squares2 (hp.fact (i := 2) rfl) (by omega) (by omega)) fun u w29 ⟨e1, e2⟩ a h => ⟨((hp.below e2).pre 2 rfl), ?_⟩)
     subst e1
     have hp := hp.below e2
     refine one 18 (by kernel_rfl) rfl (cal h rfl en93 (squares1 (hp.fact (i := 3) rfl) (by omega)) fun u w30 ⟨e1, e2⟩ a h => ⟨((hp.below e2).pre 2 rfl), ?_⟩)
     subst e1
     have hp := hp.below e2
     refine tkq 19 h rfl ((hp).pre 2 rfl) (fun W _ => leq h rfl rfl) fun a h => ?_
     refine dn (by kernel_rfl) ?_
     have e9 := ap_last z y
     exact ⟨by rw [e9]; exact h.sub ⟨rfl, rfl, rfl, rfl, rfl, rfl, rfl, rfl, rfl, rfl, trivial⟩, hp.pre 1 rfl⟩
    refine (bsl h hp rfl (bs74_1_0 _) fun a w31 g11 hg11 h hp => ⟨((hp).pre 2 rfl), ?_⟩)
    refine one 10 (by kernel_rfl) rfl (bsl h hp rfl (bs74_2_0_1 _ _) fun a w32 g12 hg12 h hp => ⟨((hp).pre 2 rfl), ?_⟩)
    refine one 11 (by kernel_rfl) rfl (cal h rfl en93 (squares2 (hp.fact (i := 3) rfl) (by omega) (by omega)) fun u w33 ⟨e1, e2⟩ a h => ⟨((hp.below e2).pre 2 rfl), ?_⟩)
    subst e1
    have hp := hp.below e2
    refine one 18 (by kernel_rfl) rfl (cal h rfl en93 (squares1 (hp.fact (i := 2) rfl) (by omega)) fun u w34 ⟨e1, e2⟩ a h => ⟨((hp.below e2).pre 2 rfl), ?_⟩)
    subst e1
    have hp := hp.below e2
    refine tkq 19 h rfl ((hp).pre 2 rfl) (fun W _ => leq h rfl rfl) fun a h => ?_
    refine dn (by kernel_rfl) ?_
    have e9 := ap_last z y
    exact ⟨by rw [e9]; exact h.sub ⟨rfl, rfl, rfl, rfl, rfl, rfl, rfl, rfl, rfl, rfl, trivial⟩, hp.pre 1 rfl⟩
   rintro a w23 ⟨h, hp⟩
   refine cnd1 h rfl (fun hb8 => ?_) (fun hb8 => ?_)
   ·have hap0 : apartB z y = false := by simpa using hb8
    have hap : (l.take k).all (fun a => apartB a y) = false := all_bad hz hap0
    refine rg1 ?_
    refine wmv h rfl fun a h => ?_
    refine wvl h (bld h rfl (bl99_0 _ _)) fun a h => ?_
    refine wvl h (mki h rfl (by kernel_rfl)) fun a h => ?_
    refine wl (pan h rfl ?_)
    exact ⟨h.defs, .inr ⟨_, rfl, ⟨⟨_, rfl⟩, balls_no hy (by rw [hok, hap]; rfl)⟩, hp.bel⟩⟩
   have hap : apartB z y = true := by simpa using hb8
   refine wp_skip ?_
   refine rg1 ?_
   refine wvl h (add h rfl rfl (by omega)) fun a h => ?_
   refine wmv h rfl fun a h => ?_
   refine wn ?_
   exact ⟨_, _, (by omega), ⟨j + 1, by omega, rfl, rfl, hp.pre 1 rfl, all_snoc hz hJ hap⟩, h.sub ⟨rfl, rfl, rfl, rfl, rfl, rfl, rfl, rfl, rfl, trivial⟩⟩
  have hend2 : j = (l.take k).length := by have := of_decide_eq_false hb7; omega
  subst hend2
  rw [List.take_length] at hJ
  have hin := hJ
  refine wp_exit ?_
  try simp only [xqs, ↓reduceIte, Nat.reduceEqDiff]
  refine rg1 ?_
  refine wvl h (add h rfl rfl (by omega)) fun a h => ?_
  refine wmv h rfl fun a h => ?_
  refine wn ?_
  exact ⟨_, _, (by omega), ⟨k + 1, by omega, rfl, rfl, hp.pre 0 rfl, by rw [balls_snoc hy, hI, hok, hin]; rfl⟩, h.sub ⟨rfl, rfl, rfl, rfl, trivial⟩⟩
 have hend : k = l.length := by have := of_decide_eq_false hb2; omega
 subst hend
 rw [List.take_length] at hI
 refine wp_exit ?_
 try simp only [xqs, ↓reduceIte, Nat.reduceEqDiff]
 refine rt0 h rfl ?_
 exact .inl ⟨_, rfl, ⟨rfl, by rw [isBalls, hlen, hI]; rfl⟩, hp.bel⟩
end Go.Proofs.Ec
