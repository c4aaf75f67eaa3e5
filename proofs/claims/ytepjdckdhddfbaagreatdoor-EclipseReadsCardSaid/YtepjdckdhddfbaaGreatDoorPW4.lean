import Derived.Test.YtepjdckdhddfbaaGreatDoorProg
import Derived.Test.YtepjdckdhddfbaaGreatDoorPFa
import Derived.Test.YtepjdckdhddfbaaGreatDoorPQb
import Derived.Test.YtepjdckdhddfbaaGreatDoorPQc
import Derived.Test.YtepjdckdhddfbaaGreatDoorPW3
set_option linter.unusedVariables false
set_option linter.unusedSimpArgs false
set_option maxRecDepth 4000
namespace Go.Proofs.Ec
open Go.RowKit Go.Proofs.Sx
open Ecl
theorem idxB (s : SV) (ys : List BV) (fid : Nat) (first cap : Array Value) (pr : BV → Bool) (w : World) (hR : Rd w encB 4 s.v ys) (hen : ∀ (args : Array Value) (w : World), (callFunc fid args).run Tryz.prog w = .ok (.enter fid args) w) (hf : ∀ y ∈ ys, ∀ W, Below w.heap.size w W → Ret Tryz.prog fid (first ++ #[.agg #[.int .i64 y.1.num, .int .i64 y.1.den, .int .i64 y.1.start, y.2.v]] ++ cap) W fun u W' => u = .bool (pr y) ∧ Below W.heap.size W W') : Ret Tryz.prog 147 #[s.v, .func (.func fid) first cap] w fun u w' => (∃ r : Int, u = .int .i64 r ∧ decide (0 ≤ r) = ys.any pr) ∧ Below w.heap.size w w' := by
 have hp : Hp c0 w w [] := Hp.start trivial
 refine enter Tryz.func147 rfl (N := 19) rfl rfl fun a h => ?_
 refine rg ?_
 refine wsn h rfl fun a h => ?_
 refine wp_seq ?_
 refine rg ?_
 refine wmv h rfl fun a h => ?_
 refine wvl h (lenR h rfl Tryz.underlying66 (hR.keep (by decide) hp cl0)) fun a h => ?_
 refine wmv h rfl fun a h => ?_
 refine wn ?_
 refine lp1 h [0, 1, 7] (fun n f w' => ∃ k : Nat, k ≤ ys.length ∧ n = ys.length - k ∧ f = [(8, .int .i64 k)] ∧ Hp c0 w w' ([]) ∧ (ys.take k).any pr = false) (ys.length) [(8, .int .i64 ((0 : Nat) : Int))] ⟨rfl, rfl, rfl, rfl, trivial⟩ ⟨0, Nat.zero_le _, rfl, rfl, hp, rfl⟩ ?_
 rintro n f a w1 ⟨k, hk, rfl, rfl, hp, hI⟩ h
 have hfit := hR.fits
 refine rg ?_
 refine wvl h (lss h rfl rfl) fun a h => ?_
 refine wn ?_
 refine cnd h rfl (fun hb1 => ?_) (fun hb1 => ?_)
 ·have hlt : k < ys.length := by have := of_decide_eq_true hb1; omega
  obtain ⟨y, hy⟩ : ∃ y, ys[k]? = some y := ⟨_, List.getElem?_eq_getElem hlt⟩
  refine skp ?_
  refine blk ?_
  refine rg ?_
  refine wmv h rfl fun a h => ?_
  refine wsn h rfl fun a h => ?_
  refine rg ?_
  refine wm3 h rfl rfl rfl rfl rfl rfl fun a h => ?_
  refine wvl h (iadR (k) h rfl rfl Tryz.underlying66 sz110 (hR.keep (by decide) hp cl0) (rfl) (hlt)) fun a h => ?_
  refine wvl h (ldE h (hR.keep (by decide) hp cl0) hy rfl ag110 sz110) fun a h => ?_
  refine wl (calv h rfl rfl (hen) (hf y (List.mem_of_getElem? hy) _ hp.bel) fun u w2 ⟨e1, e2⟩ a h => ?_)
  subst e1
  have hp := hp.below e2
  refine wn ?_
  refine cnd1 h rfl (fun hb2 => ?_) (fun hb2 => ?_)
  ·refine rg ?_
   refine wmv h rfl fun a h => ?_
   refine wsn h rfl fun a h => ?_
   refine wp_ret ?_
   try simp only [xqs]
   refine rt_1 h rfl (rvT h rfl) ?_
   exact ⟨_, rfl, ⟨_, rfl, by rw [any_at hy hb2]; simp⟩, hp.bel⟩
  refine wp_skip ?_
  refine rg1 ?_
  refine wvl h (add h rfl rfl (by omega)) fun a h => ?_
  refine wmv h rfl fun a h => ?_
  refine wn ?_
  exact ⟨_, _, (by omega), ⟨k + 1, by omega, rfl, rfl, hp, any_snoc hy hI hb2⟩, h.sub ⟨rfl, rfl, rfl, rfl, trivial⟩⟩
 have hend : k = ys.length := by have := of_decide_eq_false hb1; omega
 subst hend
 rw [List.take_length] at hI
 refine wp_exit ?_
 try simp only [xqs, ↓reduceIte, Nat.reduceEqDiff]
 refine rg ?_
 refine wsn h rfl fun a h => ?_
 refine wp_ret ?_
 try simp only [xqs]
 refine rt_1 h rfl (rvT h rfl) ?_
 exact ⟨_, rfl, ⟨_, rfl, by rw [hI]; rfl⟩, hp.bel⟩
theorem conB (s : SV) (ys : List BV) (fid : Nat) (first cap : Array Value) (pr : BV → Bool) (w : World) (hR : Rd w encB 4 s.v ys) (hen : ∀ (args : Array Value) (w : World), (callFunc fid args).run Tryz.prog w = .ok (.enter fid args) w) (hf : ∀ y ∈ ys, ∀ W, Below w.heap.size w W → Ret Tryz.prog fid (first ++ #[.agg #[.int .i64 y.1.num, .int .i64 y.1.den, .int .i64 y.1.start, y.2.v]] ++ cap) W fun u W' => u = .bool (pr y) ∧ Below W.heap.size W W') : Ret Tryz.prog 123 #[s.v, .func (.func fid) first cap] w fun u w' => u = .bool (ys.any pr) ∧ Below w.heap.size w w' := by
 have hp : Hp c0 w w [] := Hp.start trivial
 refine enter Tryz.func123 rfl (N := 9) rfl rfl fun a h => ?_
 refine rg ?_
 refine wsn h rfl fun a h => ?_
 refine rg ?_
 refine wm2 h rfl rfl rfl rfl fun a h => ?_
 refine wl (cal h rfl en147 (idxB s ys fid first cap pr _ hR hen hf) fun u w1 ⟨⟨z, e1, hz⟩, e2⟩ a h => ?_)
 subst e1
 have hp := hp.below e2
 refine wvl h (geq h rfl rfl) fun a h => ?_
 refine wsn h rfl fun a h => ?_
 refine wp_ret ?_
 try simp only [xqs]
 refine rt_1 h rfl (rvT h rfl) ?_
 exact ⟨_, rfl, by rw [← hz], hp.bel⟩
theorem idxI (s : SV) (ys : List Int) (fid : Nat) (first cap : Array Value) (pr : Int → Bool) (w : World) (hR : Rd w encI 1 s.v ys) (hen : ∀ (args : Array Value) (w : World), (callFunc fid args).run Tryz.prog w = .ok (.enter fid args) w) (hf : ∀ y ∈ ys, ∀ W, Below w.heap.size w W → Ret Tryz.prog fid (first ++ #[.int .i64 y] ++ cap) W fun u W' => u = .bool (pr y) ∧ Below W.heap.size W W') : Ret Tryz.prog 148 #[s.v, .func (.func fid) first cap] w fun u w' => (∃ r : Int, u = .int .i64 r ∧ decide (0 ≤ r) = ys.any pr) ∧ Below w.heap.size w w' := by
 have hp : Hp c0 w w [] := Hp.start trivial
 refine enter Tryz.func148 rfl (N := 19) rfl rfl fun a h => ?_
 refine rg ?_
 refine wsn h rfl fun a h => ?_
 refine wp_seq ?_
 refine rg ?_
 refine wmv h rfl fun a h => ?_
 refine wvl h (lenR h rfl Tryz.underlying74 (hR.keep (by decide) hp cl0)) fun a h => ?_
 refine wmv h rfl fun a h => ?_
 refine wn ?_
 refine lp1 h [0, 1, 7] (fun n f w' => ∃ k : Nat, k ≤ ys.length ∧ n = ys.length - k ∧ f = [(8, .int .i64 k)] ∧ Hp c0 w w' ([]) ∧ (ys.take k).any pr = false) (ys.length) [(8, .int .i64 ((0 : Nat) : Int))] ⟨rfl, rfl, rfl, rfl, trivial⟩ ⟨0, Nat.zero_le _, rfl, rfl, hp, rfl⟩ ?_
 rintro n f a w1 ⟨k, hk, rfl, rfl, hp, hI⟩ h
 have hfit := hR.fits
 refine rg ?_
 refine wvl h (lss h rfl rfl) fun a h => ?_
 refine wn ?_
 refine cnd h rfl (fun hb1 => ?_) (fun hb1 => ?_)
 ·have hlt : k < ys.length := by have := of_decide_eq_true hb1; omega
  obtain ⟨y, hy⟩ : ∃ y, ys[k]? = some y := ⟨_, List.getElem?_eq_getElem hlt⟩
  refine skp ?_
  refine blk ?_
  refine rg ?_
  refine wmv h rfl fun a h => ?_
  refine wsn h rfl fun a h => ?_
  refine rg ?_
  refine wm3 h rfl rfl rfl rfl rfl rfl fun a h => ?_
  refine wvl h (iadR (k) h rfl rfl Tryz.underlying74 sz3 (hR.keep (by decide) hp cl0) (rfl) (hlt)) fun a h => ?_
  refine wvl h (ld0 h (hR.keep (by decide) hp cl0) hy rfl ag3 rfl) fun a h => ?_
  refine wl (calv h rfl rfl (hen) (hf y (List.mem_of_getElem? hy) _ hp.bel) fun u w2 ⟨e1, e2⟩ a h => ?_)
  subst e1
  have hp := hp.below e2
  refine wn ?_
  refine cnd1 h rfl (fun hb2 => ?_) (fun hb2 => ?_)
  ·refine rg ?_
   refine wmv h rfl fun a h => ?_
   refine wsn h rfl fun a h => ?_
   refine wp_ret ?_
   try simp only [xqs]
   refine rt_1 h rfl (rvT h rfl) ?_
   exact ⟨_, rfl, ⟨_, rfl, by rw [any_at hy hb2]; simp⟩, hp.bel⟩
  refine wp_skip ?_
  refine rg1 ?_
  refine wvl h (add h rfl rfl (by omega)) fun a h => ?_
  refine wmv h rfl fun a h => ?_
  refine wn ?_
  exact ⟨_, _, (by omega), ⟨k + 1, by omega, rfl, rfl, hp, any_snoc hy hI hb2⟩, h.sub ⟨rfl, rfl, rfl, rfl, trivial⟩⟩
 have hend : k = ys.length := by have := of_decide_eq_false hb1; omega
 subst hend
 rw [List.take_length] at hI
 refine wp_exit ?_
 try simp only [xqs, ↓reduceIte, Nat.reduceEqDiff]
 refine rg ?_
 refine wsn h rfl fun a h => ?_
 refine wp_ret ?_
 try simp only [xqs]
 refine rt_1 h rfl (rvT h rfl) ?_
 exact ⟨_, rfl, ⟨_, rfl, by rw [hI]; rfl⟩, hp.bel⟩
theorem conI (s : SV) (ys : List Int) (fid : Nat) (first cap : Array Value) (pr : Int → Bool) (w : World) (hR : Rd w encI 1 s.v ys) (hen : ∀ (args : Array Value) (w : World), (callFunc fid args).run Tryz.prog w = .ok (.enter fid args) w) (hf : ∀ y ∈ ys, ∀ W, Below w.heap.size w W → Ret Tryz.prog fid (first ++ #[.int .i64 y] ++ cap) W fun u W' => u = .bool (pr y) ∧ Below W.heap.size W W') : Ret Tryz.prog 125 #[s.v, .func (.func fid) first cap] w fun u w' => u = .bool (ys.any pr) ∧ Below w.heap.size w w' := by
 have hp : Hp c0 w w [] := Hp.start trivial
 refine enter Tryz.func125 rfl (N := 9) rfl rfl fun a h => ?_
 refine rg ?_
 refine wsn h rfl fun a h => ?_
 refine rg ?_
 refine wm2 h rfl rfl rfl rfl fun a h => ?_
 refine wl (cal h rfl en148 (idxI s ys fid first cap pr _ hR hen hf) fun u w1 ⟨⟨z, e1, hz⟩, e2⟩ a h => ?_)
 subst e1
 have hp := hp.below e2
 refine wvl h (geq h rfl rfl) fun a h => ?_
 refine wsn h rfl fun a h => ?_
 refine wp_ret ?_
 try simp only [xqs]
 refine rt_1 h rfl (rvT h rfl) ?_
 exact ⟨_, rfl, by rw [← hz], hp.bel⟩
theorem isPlace_s (n : Int) (w : World) : Ret Tryz.prog 122 #[.int .i64 n] w fun u w1 => u = .bool (isPlace n) ∧ w1 = w := by
 refine enter Tryz.func122 rfl (N := 5) rfl rfl fun a h => ?_
 refine rg ?_
 refine wsn h rfl fun a h => ?_
 refine rg ?_
 refine wmv h rfl fun a h => ?_
 refine wl (cal h rfl en120 (in_s _ _ _ _) fun u w1 ⟨e1, e2⟩ a h => ?_)
 subst e1
 subst e2
 refine wsn h rfl fun a h => ?_
 refine wp_ret ?_
 try simp only [xqs]
 refine rt_1 h rfl (rvT h rfl) ?_
 exact ⟨_, rfl, by simp only [isPlace, Bool.true_and, Bool.false_and, Bool.and_true, Bool.and_false, Bool.or_true, Bool.true_or, Bool.or_false, Bool.false_or, Bool.not_true, Bool.not_false], rfl⟩
theorem isDay_s (n : Int) (w : World) : Ret Tryz.prog 101 #[.int .i64 n] w fun u w1 => u = .bool (inR n 0 20000) ∧ w1 = w := by
 refine enter Tryz.func101 rfl (N := 5) rfl rfl fun a h => ?_
 refine rg ?_
 refine wsn h rfl fun a h => ?_
 refine rg ?_
 refine wmv h rfl fun a h => ?_
 refine wl (cal h rfl en120 (in_s _ _ _ _) fun u w1 ⟨e1, e2⟩ a h => ?_)
 subst e1
 subst e2
 refine wsn h rfl fun a h => ?_
 refine wp_ret ?_
 try simp only [xqs]
 refine rt_1 h rfl (rvT h rfl) ?_
 exact ⟨_, rfl, by simp only [inR, Bool.true_and, Bool.false_and, Bool.and_true, Bool.and_false, Bool.or_true, Bool.true_or, Bool.or_false, Bool.false_or, Bool.not_true, Bool.not_false], rfl⟩
theorem isLimit_s (n : Int) (w : World) : Ret Tryz.prog 130 #[.int .i64 n] w fun u w1 => u = .bool (isLimit n) ∧ w1 = w := by
 refine enter Tryz.func130 rfl (N := 5) rfl rfl fun a h => ?_
 refine rg ?_
 refine wsn h rfl fun a h => ?_
 refine rg ?_
 refine wmv h rfl fun a h => ?_
 refine wl (cal h rfl en120 (in_s _ _ _ _) fun u w1 ⟨e1, e2⟩ a h => ?_)
 subst e1
 subst e2
 refine wsn h rfl fun a h => ?_
 refine wp_ret ?_
 try simp only [xqs]
 refine rt_1 h rfl (rvT h rfl) ?_
 exact ⟨_, rfl, by simp only [isLimit, Bool.true_and, Bool.false_and, Bool.and_true, Bool.and_false, Bool.or_true, Bool.true_or, Bool.or_false, Bool.false_or, Bool.not_true, Bool.not_false], rfl⟩
theorem isSpan_s (a : Int) (b : Int) (w : World) : Ret Tryz.prog 131 #[.int .i64 a, .int .i64 b] w fun u w1 => u = .bool (inR a 1 20000 && inR b a 20000 && decide (b - a ≤ 800)) ∧ w1 = w := by
 refine enter Tryz.func131 rfl (N := 18) rfl rfl fun a h => ?_
 refine rg ?_
 refine wsn h rfl fun a h => ?_
 refine rg ?_
 refine wmv h rfl fun a h => ?_
 refine wl (cal h rfl en120 (in_s _ _ _ _) fun u w1 ⟨e1, e2⟩ a h => ?_)
 subst e1
 subst e2
 refine wmv h rfl fun a h => ?_
 refine split (t := 7) h rfl (fun hb1 => ?_) (fun hb1 => ?_)
 ·refine wl (stp_on h rfl rfl rfl hb1 (vl h (mov h rfl) fun a h => ?_))
  refine wl (stp_on h rfl rfl rfl hb1 (vl h (mov h rfl) fun a h => ?_))
  refine wl (stp_on h rfl rfl rfl hb1 (cal h rfl en120 (in_s _ _ _ _) fun u w2 ⟨e1, e2⟩ a h => ?_))
  subst e1
  subst e2
  refine wvl h (pckT h rfl hb1 rfl) fun a h => ?_
  refine wmv h rfl fun a h => ?_
  refine split (t := 12) h rfl (fun hb2 => ?_) (fun hb2 => ?_)
  ·refine wl (stp_on h rfl rfl rfl hb2 (vl h (mov h rfl) fun a h => ?_))
   refine wl (stp_on h rfl rfl rfl hb2 (vl h (mov h rfl) fun a h => ?_))
   refine wl (stp_on h rfl rfl rfl hb2 (vl h (sub h rfl rfl (by simp only [inR, Bool.and_eq_true, decide_eq_true_eq] at hb1 hb2; omega)) fun a h => ?_))
   refine wl (stp_on h rfl rfl rfl hb2 (vl h (leq h rfl rfl) fun a h => ?_))
   refine wvl h (pckT h rfl hb2 rfl) fun a h => ?_
   refine wsn h rfl fun a h => ?_
   refine wp_ret ?_
   try simp only [xqs]
   refine rt_1 h rfl (rvT h rfl) ?_
   exact ⟨_, rfl, by simp only [Bool.and_true, hb1, hb2, Bool.true_and, Bool.false_and, Bool.and_true, Bool.and_false, Bool.or_true, Bool.true_or, Bool.or_false, Bool.false_or, Bool.not_true, Bool.not_false], rfl⟩
  refine wl (stp_off h rfl rfl rfl rfl rfl hb2 fun a h => ?_)
  refine wl (stp_off h rfl rfl rfl rfl rfl hb2 fun a h => ?_)
  refine wl (stp_off h rfl rfl rfl rfl rfl hb2 fun a h => ?_)
  refine wl (stp_off h rfl rfl rfl rfl rfl hb2 fun a h => ?_)
  refine wvl h (pckF h rfl hb2 rfl) fun a h => ?_
  refine wsn h rfl fun a h => ?_
  refine wp_ret ?_
  try simp only [xqs]
  refine rt_1 h rfl (rvT h rfl) ?_
  exact ⟨_, rfl, by simp only [Bool.and_true, hb1, hb2, Bool.true_and, Bool.false_and, Bool.and_true, Bool.and_false, Bool.or_true, Bool.true_or, Bool.or_false, Bool.false_or, Bool.not_true, Bool.not_false], rfl⟩
 refine wl (stp_off h rfl rfl rfl rfl rfl hb1 fun a h => ?_)
 refine wl (stp_off h rfl rfl rfl rfl rfl hb1 fun a h => ?_)
 refine wl (stp_off h rfl rfl rfl rfl rfl hb1 fun a h => ?_)
 refine wvl h (pckF h rfl hb1 rfl) fun a h => ?_
 refine wmv h rfl fun a h => ?_
 refine wl (stp_off h rfl rfl rfl rfl rfl rfl fun a h => ?_)
 refine wl (stp_off h rfl rfl rfl rfl rfl rfl fun a h => ?_)
 refine wl (stp_off h rfl rfl rfl rfl rfl rfl fun a h => ?_)
 refine wl (stp_off h rfl rfl rfl rfl rfl rfl fun a h => ?_)
 refine wvl h (pckF h rfl rfl rfl) fun a h => ?_
 refine wsn h rfl fun a h => ?_
 refine wp_ret ?_
 try simp only [xqs]
 refine rt_1 h rfl (rvT h rfl) ?_
 exact ⟨_, rfl, by simp only [Bool.and_true, hb1, Bool.true_and, Bool.false_and, Bool.and_true, Bool.and_false, Bool.or_true, Bool.true_or, Bool.or_false, Bool.false_or, Bool.not_true, Bool.not_false], rfl⟩
theorem isPeriod_s (a b : Int) (w : World) : Ret Tryz.prog 121 #[.agg #[.int .i64 a, .int .i64 b]] w fun u w' => u = .bool (isPeriod a b) ∧ Below w.heap.size w w' := by
 have hp : Hp c0 w w [] := Hp.start trivial
 refine enter Tryz.func121 rfl (N := 19) rfl rfl fun a h => ?_
 refine rg ?_
 refine wl (box (cs := #[_, _]) h hp rfl rfl fun a w1 g1 hg1 h hp => ?_)
 refine wsn h rfl fun a h => ?_
 refine rg ?_
 refine wvl h (fad h rfl fo68_0) fun a h => ?_
 refine wvl h (ldo h hp rfl 0 rfl rfl ag3) fun a h => ?_
 refine wl (cal h rfl en120 (in_s _ _ _ _) fun u w2 ⟨e1, e2⟩ a h => ?_)
 subst e1
 subst e2
 refine wmv h rfl fun a h => ?_
 refine split (t := 6) h rfl (fun hb1 => ?_) (fun hb1 => ?_)
 ·refine wl (stp_on h rfl rfl rfl hb1 (vl h (fad h rfl fo68_1) fun a h => ?_))
  refine wl (stp_on h rfl rfl rfl hb1 (vl h (ldo h hp rfl 0 rfl rfl ag3) fun a h => ?_))
  refine wl (stp_on h rfl rfl rfl hb1 (cal h rfl en120 (in_s _ _ _ _) fun u w3 ⟨e1, e2⟩ a h => ?_))
  subst e1
  subst e2
  refine wvl h (pckT h rfl hb1 rfl) fun a h => ?_
  refine wmv h rfl fun a h => ?_
  refine split (t := 11) h rfl (fun hb2 => ?_) (fun hb2 => ?_)
  ·refine wl (stp_on h rfl rfl rfl hb2 (vl h (fad h rfl fo68_0) fun a h => ?_))
   refine wl (stp_on h rfl rfl rfl hb2 (vl h (ldo h hp rfl 0 rfl rfl ag3) fun a h => ?_))
   refine wl (stp_on h rfl rfl rfl hb2 (vl h (fad h rfl fo68_1) fun a h => ?_))
   refine wl (stp_on h rfl rfl rfl hb2 (vl h (ldo h hp rfl 0 rfl rfl ag3) fun a h => ?_))
   refine wl (stp_on h rfl rfl rfl hb2 (vl h (mul h rfl rfl (by simp only [inR, Bool.and_eq_true, decide_eq_true_eq] at hb1 hb2; omega)) fun a h => ?_))
   refine wl (stp_on h rfl rfl rfl hb2 (vl h (geq h rfl rfl) fun a h => ?_))
   refine wvl h (pckT h rfl hb2 rfl) fun a h => ?_
   refine wsn h rfl fun a h => ?_
   refine wp_ret ?_
   try simp only [xqs]
   refine rt_1 h rfl (rvT h rfl) ?_
   exact ⟨_, rfl, by simp only [isPeriod, hb1, hb2, Bool.true_and, Bool.false_and, Bool.and_true, Bool.and_false, Bool.or_true, Bool.true_or, Bool.or_false, Bool.false_or, Bool.not_true, Bool.not_false], hp.bel⟩
  refine wl (stp_off h rfl rfl rfl rfl rfl hb2 fun a h => ?_)
  refine wl (stp_off h rfl rfl rfl rfl rfl hb2 fun a h => ?_)
  refine wl (stp_off h rfl rfl rfl rfl rfl hb2 fun a h => ?_)
  refine wl (stp_off h rfl rfl rfl rfl rfl hb2 fun a h => ?_)
  refine wl (stp_off h rfl rfl rfl rfl rfl hb2 fun a h => ?_)
  refine wl (stp_off h rfl rfl rfl rfl rfl hb2 fun a h => ?_)
  refine wvl h (pckF h rfl hb2 rfl) fun a h => ?_
  refine wsn h rfl fun a h => ?_
  refine wp_ret ?_
  try simp only [xqs]
  refine rt_1 h rfl (rvT h rfl) ?_
  exact ⟨_, rfl, by simp only [isPeriod, hb1, hb2, Bool.true_and, Bool.false_and, Bool.and_true, Bool.and_false, Bool.or_true, Bool.true_or, Bool.or_false, Bool.false_or, Bool.not_true, Bool.not_false], hp.bel⟩
 refine wl (stp_off h rfl rfl rfl rfl rfl hb1 fun a h => ?_)
 refine wl (stp_off h rfl rfl rfl rfl rfl hb1 fun a h => ?_)
 refine wl (stp_off h rfl rfl rfl rfl rfl hb1 fun a h => ?_)
 refine wvl h (pckF h rfl hb1 rfl) fun a h => ?_
 refine wmv h rfl fun a h => ?_
 refine wl (stp_off h rfl rfl rfl rfl rfl rfl fun a h => ?_)
 refine wl (stp_off h rfl rfl rfl rfl rfl rfl fun a h => ?_)
 refine wl (stp_off h rfl rfl rfl rfl rfl rfl fun a h => ?_)
 refine wl (stp_off h rfl rfl rfl rfl rfl rfl fun a h => ?_)
 refine wl (stp_off h rfl rfl rfl rfl rfl rfl fun a h => ?_)
 refine wl (stp_off h rfl rfl rfl rfl rfl rfl fun a h => ?_)
 refine wvl h (pckF h rfl rfl rfl) fun a h => ?_
 refine wsn h rfl fun a h => ?_
 refine wp_ret ?_
 try simp only [xqs]
 refine rt_1 h rfl (rvT h rfl) ?_
 exact ⟨_, rfl, by simp only [isPeriod, hb1, Bool.true_and, Bool.false_and, Bool.and_true, Bool.and_false, Bool.or_true, Bool.true_or, Bool.or_false, Bool.false_or, Bool.not_true, Bool.not_false], hp.bel⟩
theorem isSky11 (n : Int) (w : World) : Ret Tryz.prog 126 #[.int .i64 n] w fun u w' => u = .bool (!(inR n (-600) 600)) ∧ Below w.heap.size w w' := by
 have hp : Hp c0 w w [] := Hp.start trivial
 refine enter Tryz.func126 rfl (N := 6) rfl rfl fun a h => ?_
 refine rg ?_
 refine wsn h rfl fun a h => ?_
 refine rg ?_
 refine wmv h rfl fun a h => ?_
 refine wl (cal h rfl en120 (in_s _ _ _ _) fun u w1 ⟨e1, e2⟩ a h => ?_)
 subst e1
 subst e2
 refine wvl h (not_ h rfl) fun a h => ?_
 refine wsn h rfl fun a h => ?_
 refine wp_ret ?_
 try simp only [xqs]
 refine rt_1 h rfl (rvT h rfl) ?_
 exact ⟨_, rfl, rfl, hp.ext.below⟩
theorem isSky1 (y : BV) (w : World) (hR : Rd w encI 1 y.2.v y.1.road) : Ret Tryz.prog 124 #[.agg #[.int .i64 y.1.num, .int .i64 y.1.den, .int .i64 y.1.start, y.2.v]] w fun u w' => u = .bool (!(isBodyB y.1)) ∧ Below w.heap.size w w' := by
 have hp : Hp c0 w w [] := Hp.start trivial
 refine enter Tryz.func124 rfl (N := 25) rfl rfl fun a h => ?_
 refine rg ?_
 refine wl (box (cs := #[_, _, _, _]) h hp rfl rfl fun a w1 g1 hg1 h hp => ?_)
 refine wsn h rfl fun a h => ?_
 refine rg ?_
 refine wvl h (fad h rfl fo110_0) fun a h => ?_
 refine wvl h (ldO (us := [_, _]) h hp rfl 0 rfl sz68 rfl ag68) fun a h => ?_
 refine wl (cal h rfl en121 (isPeriod_s _ _ _) fun u w2 ⟨e1, e2⟩ a h => ?_)
 subst e1
 have hp := hp.below e2
 refine wvl h (not_ h rfl) fun a h => ?_
 refine wmv h rfl fun a h => ?_
 refine split (t := 7) h rfl (fun hb1 => ?_) (fun hb1 => ?_)
 ·refine wl (stp_off h rfl rfl rfl rfl rfl hb1 fun a h => ?_)
  refine wl (stp_off h rfl rfl rfl rfl rfl hb1 fun a h => ?_)
  refine wl (stp_off h rfl rfl rfl rfl rfl hb1 fun a h => ?_)
  refine wl (stp_off h rfl rfl rfl rfl rfl hb1 fun a h => ?_)
  refine wvl h (pckT h rfl hb1 rfl) fun a h => ?_
  refine wmv h rfl fun a h => ?_
  refine wl (stp_off h rfl rfl rfl rfl rfl rfl fun a h => ?_)
  refine wl (stp_off h rfl rfl rfl rfl rfl rfl fun a h => ?_)
  refine wl (stp_off h rfl rfl rfl rfl rfl rfl fun a h => ?_)
  refine wl (stp_off h rfl rfl rfl rfl rfl rfl fun a h => ?_)
  refine wl (stp_off h rfl rfl rfl rfl rfl rfl fun a h => ?_)
  refine wvl h (pckT h rfl rfl rfl) fun a h => ?_
  refine wmv h rfl fun a h => ?_
  refine wl (stp_off h rfl rfl rfl rfl rfl rfl fun a h => ?_)
  refine wl (stp_off h rfl rfl rfl rfl rfl rfl fun a h => ?_)
  refine wl (stp_off h rfl rfl rfl rfl rfl rfl fun a h => ?_)
  refine wvl h (pckT h rfl rfl rfl) fun a h => ?_
  refine wsn h rfl fun a h => ?_
  refine wp_ret ?_
  try simp only [xqs]
  refine rt_1 h rfl (rvT h rfl) ?_
  exact ⟨_, rfl, by simp only [Bool.not_eq_true', Bool.not_eq_false'] at hb1; simp only [isBodyB, hb1, Bool.true_and, Bool.false_and, Bool.and_true, Bool.and_false, Bool.or_true, Bool.true_or, Bool.or_false, Bool.false_or, Bool.not_true, Bool.not_false, na2], hp.bel⟩
 refine wl (stp_on h rfl rfl rfl hb1 (vl h (fad h rfl fo110_1) fun a h => ?_))
 refine wl (stp_on h rfl rfl rfl hb1 (vl h (ldo h hp rfl 0 rfl rfl ag3) fun a h => ?_))
 refine wl (stp_on h rfl rfl rfl hb1 (cal h rfl en122 (isPlace_s _ _) fun u w3 ⟨e1, e2⟩ a h => ?_))
 subst e1
 subst e2
 refine wl (stp_on h rfl rfl rfl hb1 (vl h (not_ h rfl) fun a h => ?_))
 refine wvl h (pckF h rfl hb1 rfl) fun a h => ?_
 refine wmv h rfl fun a h => ?_
 refine split (t := 13) h rfl (fun hb2 => ?_) (fun hb2 => ?_)
 ·refine wl (stp_off h rfl rfl rfl rfl rfl hb2 fun a h => ?_)
  refine wl (stp_off h rfl rfl rfl rfl rfl hb2 fun a h => ?_)
  refine wl (stp_off h rfl rfl rfl rfl rfl hb2 fun a h => ?_)
  refine wl (stp_off h rfl rfl rfl rfl rfl hb2 fun a h => ?_)
  refine wl (stp_off h rfl rfl rfl rfl rfl hb2 fun a h => ?_)
  refine wvl h (pckT h rfl hb2 rfl) fun a h => ?_
  refine wmv h rfl fun a h => ?_
  refine wl (stp_off h rfl rfl rfl rfl rfl rfl fun a h => ?_)
  refine wl (stp_off h rfl rfl rfl rfl rfl rfl fun a h => ?_)
  refine wl (stp_off h rfl rfl rfl rfl rfl rfl fun a h => ?_)
  refine wvl h (pckT h rfl rfl rfl) fun a h => ?_
  refine wsn h rfl fun a h => ?_
  refine wp_ret ?_
  try simp only [xqs]
  refine rt_1 h rfl (rvT h rfl) ?_
  exact ⟨_, rfl, by simp only [Bool.not_eq_true', Bool.not_eq_false'] at hb1 hb2; simp only [isBodyB, hb1, hb2, Bool.true_and, Bool.false_and, Bool.and_true, Bool.and_false, Bool.or_true, Bool.true_or, Bool.or_false, Bool.false_or, Bool.not_true, Bool.not_false, na2], hp.bel⟩
 refine wl (stp_on h rfl rfl rfl hb2 (vl h (fad h rfl fo110_2) fun a h => ?_))
 refine wl (stp_on h rfl rfl rfl hb2 (vl h (ldo h hp rfl 0 rfl rfl ag74) fun a h => ?_))
 refine wl (stp_on h rfl rfl rfl hb2 (vl h (lenR h rfl Tryz.underlying74 (hR.keep (by decide) hp cl0)) fun a h => ?_))
 refine wl (stp_on h rfl rfl rfl hb2 (cal h rfl en120 (in_s _ _ _ _) fun u w4 ⟨e1, e2⟩ a h => ?_))
 subst e1
 subst e2
 refine wl (stp_on h rfl rfl rfl hb2 (vl h (not_ h rfl) fun a h => ?_))
 refine wvl h (pckF h rfl hb2 rfl) fun a h => ?_
 refine wmv h rfl fun a h => ?_
 refine split (t := 20) h rfl (fun hb3 => ?_) (fun hb3 => ?_)
 ·refine wl (stp_off h rfl rfl rfl rfl rfl hb3 fun a h => ?_)
  refine wl (stp_off h rfl rfl rfl rfl rfl hb3 fun a h => ?_)
  refine wl (stp_off h rfl rfl rfl rfl rfl hb3 fun a h => ?_)
  refine wvl h (pckT h rfl hb3 rfl) fun a h => ?_
  refine wsn h rfl fun a h => ?_
  refine wp_ret ?_
  try simp only [xqs]
  refine rt_1 h rfl (rvT h rfl) ?_
  exact ⟨_, rfl, by simp only [Bool.not_eq_true', Bool.not_eq_false'] at hb1 hb2 hb3; simp only [isBodyB, hb1, hb2, hb3, Bool.true_and, Bool.false_and, Bool.and_true, Bool.and_false, Bool.or_true, Bool.true_or, Bool.or_false, Bool.false_or, Bool.not_true, Bool.not_false, na2], hp.bel⟩
 refine wl (stp_on h rfl rfl rfl hb3 (vl h (fad h rfl fo110_2) fun a h => ?_))
 refine wl (stp_on h rfl rfl rfl hb3 (vl h (ldo h hp rfl 0 rfl rfl ag74) fun a h => ?_))
 refine wl (stp_on h rfl rfl rfl hb3 (cal h rfl en125 (conI _ y.1.road 126 #[] #[] (fun n => !(inR n (-600) 600)) _ (hR.keep (by decide) hp cl0) en126 (fun n _ W _ => isSky11 n W)) fun u w5 ⟨e1, e2⟩ a h => ?_))
 subst e1
 have hp := hp.below e2
 refine wvl h (pckF h rfl hb3 rfl) fun a h => ?_
 refine wsn h rfl fun a h => ?_
 refine wp_ret ?_
 try simp only [xqs]
 refine rt_1 h rfl (rvT h rfl) ?_
 exact ⟨_, rfl, by simp only [Bool.not_eq_true', Bool.not_eq_false'] at hb1 hb2 hb3; simp only [isBodyB, hb1, hb2, hb3, Bool.true_and, Bool.false_and, Bool.and_true, Bool.and_false, Bool.or_true, Bool.true_or, Bool.or_false, Bool.false_or, Bool.not_true, Bool.not_false, na2], hp.bel⟩
theorem isSky_s (x : EV) (e : Eng) (w : World) (hS : RdS w x e) : Ret Tryz.prog 99 #[.agg #[x.b.v, .int .i64 e.nnum, .int .i64 e.nden, .int .i64 e.nstart]] w fun u w' => u = .bool (isSky e) ∧ Below w.heap.size w w' := by
 have hp : Hp c0 w w [] := Hp.start trivial
 refine enter Tryz.func99 rfl (N := 25) rfl rfl fun a h => ?_
 refine rg ?_
 refine wl (box (cs := #[_, _, _, _]) h hp rfl rfl fun a w1 g1 hg1 h hp => ?_)
 refine wsn h rfl fun a h => ?_
 refine rg ?_
 refine wvl h (fad h rfl fo72_0) fun a h => ?_
 refine wvl h (ldo h hp rfl 0 rfl rfl ag66) fun a h => ?_
 refine wvl h (lenR h rfl Tryz.underlying66 (hS.keep hp cl0).b) fun a h => ?_
 refine wl (cal h rfl en120 (in_s _ _ _ _) fun u w2 ⟨e1, e2⟩ a h => ?_)
 subst e1
 subst e2
 refine wmv h rfl fun a h => ?_
 refine split (t := 7) h rfl (fun hb1 => ?_) (fun hb1 => ?_)
 ·refine wl (stp_on h rfl rfl rfl hb1 (vl h (fad h rfl fo72_1) fun a h => ?_))
  refine wl (stp_on h rfl rfl rfl hb1 (vl h (fad h rfl fo70_0) fun a h => ?_))
  refine wl (stp_on h rfl rfl rfl hb1 (vl h (ldO (us := [_, _]) h hp rfl 0 rfl sz68 rfl ag68) fun a h => ?_))
  refine wl (stp_on h rfl rfl rfl hb1 (cal h rfl en121 (isPeriod_s _ _ _) fun u w3 ⟨e1, e2⟩ a h => ?_))
  subst e1
  have hp := hp.below e2
  refine wvl h (pckT h rfl hb1 rfl) fun a h => ?_
  refine wmv h rfl fun a h => ?_
  refine split (t := 13) h rfl (fun hb2 => ?_) (fun hb2 => ?_)
  ·refine wl (stp_on h rfl rfl rfl hb2 (vl h (fad h rfl fo72_1) fun a h => ?_))
   refine wl (stp_on h rfl rfl rfl hb2 (vl h (fad h rfl fo70_1) fun a h => ?_))
   refine wl (stp_on h rfl rfl rfl hb2 (vl h (ldo h hp rfl 0 rfl rfl ag3) fun a h => ?_))
   refine wl (stp_on h rfl rfl rfl hb2 (cal h rfl en122 (isPlace_s _ _) fun u w4 ⟨e1, e2⟩ a h => ?_))
   subst e1
   subst e2
   refine wvl h (pckT h rfl hb2 rfl) fun a h => ?_
   refine wmv h rfl fun a h => ?_
   refine split (t := 19) h rfl (fun hb3 => ?_) (fun hb3 => ?_)
   ·refine wl (stp_on h rfl rfl rfl hb3 (vl h (fad h rfl fo72_0) fun a h => ?_))
    refine wl (stp_on h rfl rfl rfl hb3 (vl h (ldo h hp rfl 0 rfl rfl ag66) fun a h => ?_))
    refine wl (stp_on h rfl rfl rfl hb3 (cal h rfl en123 (conB _ x.bs 124 #[] #[] (fun y => !(isBodyB y.1)) _ (hS.keep hp cl0).b en124 (fun y hy W hW => isSky1 y W (((hS.keep hp cl0).road y hy).below (by decide) hW))) fun u w5 ⟨e1, e2⟩ a h => ?_))
    subst e1
    have hp := hp.below e2
    refine wl (stp_on h rfl rfl rfl hb3 (vl h (not_ h rfl) fun a h => ?_))
    refine wvl h (pckT h rfl hb3 rfl) fun a h => ?_
    refine wsn h rfl fun a h => ?_
    refine wp_ret ?_
    try simp only [xqs]
    refine rt_1 h rfl (rvT h rfl) ?_
    exact ⟨_, rfl, by simp only [isSky, hS.bs, List.length_map, List.all_map, Function.comp_def, hb1, hb2, hb3, Bool.true_and, Bool.false_and, Bool.and_true, Bool.and_false, Bool.or_true, Bool.true_or, Bool.or_false, Bool.false_or, Bool.not_true, Bool.not_false, na], hp.bel⟩
   refine wl (stp_off h rfl rfl rfl rfl rfl hb3 fun a h => ?_)
   refine wl (stp_off h rfl rfl rfl rfl rfl hb3 fun a h => ?_)
   refine wl (stp_off h rfl rfl rfl rfl rfl hb3 fun a h => ?_)
   refine wl (stp_off h rfl rfl rfl rfl rfl hb3 fun a h => ?_)
   refine wvl h (pckF h rfl hb3 rfl) fun a h => ?_
   refine wsn h rfl fun a h => ?_
   refine wp_ret ?_
   try simp only [xqs]
   refine rt_1 h rfl (rvT h rfl) ?_
   exact ⟨_, rfl, by simp only [isSky, hS.bs, List.length_map, List.all_map, Function.comp_def, hb1, hb2, hb3, Bool.true_and, Bool.false_and, Bool.and_true, Bool.and_false, Bool.or_true, Bool.true_or, Bool.or_false, Bool.false_or, Bool.not_true, Bool.not_false, na], hp.bel⟩
  refine wl (stp_off h rfl rfl rfl rfl rfl hb2 fun a h => ?_)
  refine wl (stp_off h rfl rfl rfl rfl rfl hb2 fun a h => ?_)
  refine wl (stp_off h rfl rfl rfl rfl rfl hb2 fun a h => ?_)
  refine wl (stp_off h rfl rfl rfl rfl rfl hb2 fun a h => ?_)
  refine wvl h (pckF h rfl hb2 rfl) fun a h => ?_
  refine wmv h rfl fun a h => ?_
  refine wl (stp_off h rfl rfl rfl rfl rfl rfl fun a h => ?_)
  refine wl (stp_off h rfl rfl rfl rfl rfl rfl fun a h => ?_)
  refine wl (stp_off h rfl rfl rfl rfl rfl rfl fun a h => ?_)
  refine wl (stp_off h rfl rfl rfl rfl rfl rfl fun a h => ?_)
  refine wvl h (pckF h rfl rfl rfl) fun a h => ?_
  refine wsn h rfl fun a h => ?_
  refine wp_ret ?_
  try simp only [xqs]
  refine rt_1 h rfl (rvT h rfl) ?_
  exact ⟨_, rfl, by simp only [isSky, hS.bs, List.length_map, List.all_map, Function.comp_def, hb1, hb2, Bool.true_and, Bool.false_and, Bool.and_true, Bool.and_false, Bool.or_true, Bool.true_or, Bool.or_false, Bool.false_or, Bool.not_true, Bool.not_false, na], hp.bel⟩
 refine wl (stp_off h rfl rfl rfl rfl rfl hb1 fun a h => ?_)
 refine wl (stp_off h rfl rfl rfl rfl rfl hb1 fun a h => ?_)
 refine wl (stp_off h rfl rfl rfl rfl rfl hb1 fun a h => ?_)
 refine wl (stp_off h rfl rfl rfl rfl rfl hb1 fun a h => ?_)
 refine wvl h (pckF h rfl hb1 rfl) fun a h => ?_
 refine wmv h rfl fun a h => ?_
 refine wl (stp_off h rfl rfl rfl rfl rfl rfl fun a h => ?_)
 refine wl (stp_off h rfl rfl rfl rfl rfl rfl fun a h => ?_)
 refine wl (stp_off h rfl rfl rfl rfl rfl rfl fun a h => ?_)
 refine wl (stp_off h rfl rfl rfl rfl rfl rfl fun a h => ?_)
 refine wvl h (pckF h rfl rfl rfl) fun a h => ?_
 refine wmv h rfl fun a h => ?_
 refine wl (stp_off h rfl rfl rfl rfl rfl rfl fun a h => ?_)
 refine wl (stp_off h rfl rfl rfl rfl rfl rfl fun a h => ?_)
 refine wl (stp_off h rfl rfl rfl rfl rfl rfl fun a h => ?_)
 refine wl (stp_off h rfl rfl rfl rfl rfl rfl fun a h => ?_)
 refine wvl h (pckF h rfl rfl rfl) fun a h => ?_
 refine wsn h rfl fun a h => ?_
 refine wp_ret ?_
 try simp only [xqs]
 refine rt_1 h rfl (rvT h rfl) ?_
 exact ⟨_, rfl, by simp only [isSky, hS.bs, List.length_map, List.all_map, Function.comp_def, hb1, Bool.true_and, Bool.false_and, Bool.and_true, Bool.and_false, Bool.or_true, Bool.true_or, Bool.or_false, Bool.false_or, Bool.not_true, Bool.not_false, na], hp.bel⟩
theorem isBody_s (x : EV) (e : Eng) (n : Int) (w : World) (hS : RdS w x e) : Ret Tryz.prog 100 #[.agg #[x.b.v, .int .i64 e.nnum, .int .i64 e.nden, .int .i64 e.nstart], .int .i64 n] w fun u w' => u = .bool (inR n 0 ((x.bs.length : Int) - 1)) ∧ Below w.heap.size w w' := by
 have hp : Hp c0 w w [] := Hp.start trivial
 refine enter Tryz.func100 rfl (N := 11) rfl rfl fun a h => ?_
 refine rg ?_
 refine wl (box (cs := #[_, _, _, _]) h hp rfl rfl fun a w1 g1 hg1 h hp => ?_)
 refine wsn h rfl fun a h => ?_
 refine rg ?_
 refine wmv h rfl fun a h => ?_
 refine wvl h (fad h rfl fo72_0) fun a h => ?_
 refine wvl h (ldo h hp rfl 0 rfl rfl ag66) fun a h => ?_
 refine wvl h (lenR h rfl Tryz.underlying66 (hS.keep hp cl0).b) fun a h => ?_
 have hfit := hS.b.fits
 refine wvl h (sub h rfl rfl (by omega)) fun a h => ?_
 refine wl (cal h rfl en120 (in_s _ _ _ _) fun u w2 ⟨e1, e2⟩ a h => ?_)
 subst e1
 subst e2
 refine wsn h rfl fun a h => ?_
 refine wp_ret ?_
 try simp only [xqs]
 refine rt_1 h rfl (rvT h rfl) ?_
 exact ⟨_, rfl, rfl, hp.ext.below⟩
theorem floor_s (a b : Int) (w : World) (ha : -1000000000000000000 ≤ a ∧ a ≤ 1000000000000000000) (hb : 0 < b ∧ b ≤ 1000000000000) : Ret Tryz.prog 127 #[.int .i64 a, .int .i64 b] w fun u w' => u = .tuple #[.int .i64 (a / b), .int .i64 (a % b)] ∧ Below w.heap.size w w' := by
 have hq := tdiv_bd hb.1 ha
 have hm := tmod_bd (a := a) hb.1
 have hp : Hp c0 w w [] := Hp.start trivial
 refine enter Tryz.func127 rfl (N := 23) rfl rfl fun a h => ?_
 refine rg ?_
 refine ws2 h rfl rfl rfl rfl fun a h => ?_
 refine rdh (n := 8) hp mixed rfl ?_
 have hp := hp.drew
 refine tkm 0 h rfl hp rfl fun a h => ?_
 refine tkm 1 h rfl hp rfl fun a h => ?_
 refine tkq 2 h rfl hp (fun W _ => quo h rfl rfl (by omega) (by omega)) fun a h => ?_
 refine tkm 3 h rfl hp rfl fun a h => ?_
 refine tkm 4 h rfl hp rfl fun a h => ?_
 refine tkq 5 h rfl hp (fun W _ => rem h rfl rfl (by omega)) fun a h => ?_
 refine tka 6 h rfl hp rfl fun a h => ?_
 refine tka 7 h rfl hp rfl fun a h => ?_
 refine dn (by kernel_rfl) ?_
 refine wp_seq ?_
 refine rg ?_
 refine wmv h rfl fun a h => ?_
 refine wvl h (lss h rfl rfl) fun a h => ?_
 refine wn ?_
 refine cnd1 h rfl (fun hb1 => ?_) (fun hb1 => ?_)
 ·have hn := floor_neg hb.1 (of_decide_eq_true hb1)
  refine rg1 ?_
  refine wmv h rfl fun a h => ?_
  refine wvl h (sub h rfl rfl (by omega)) fun a h => ?_
  refine wm2 h rfl rfl rfl rfl fun a h => ?_
  refine wvl h (add h rfl rfl (by omega)) fun a h => ?_
  refine ws2 h rfl rfl rfl rfl fun a h => ?_
  refine rg ?_
  refine wm2 h rfl rfl rfl rfl fun a h => ?_
  refine ws2 h rfl rfl rfl rfl fun a h => ?_
  refine wp_ret ?_
  try simp only [xqs]
  refine rt_2 h rfl (rvT h rfl) (rvT h rfl) ?_
  exact ⟨_, rfl, by rw [hn.1, hn.2], hp.bel⟩
 have hn := floor_pos hb.1 (of_decide_eq_false hb1)
 refine skp ?_
 refine rg ?_
 refine wm2 h rfl rfl rfl rfl fun a h => ?_
 refine ws2 h rfl rfl rfl rfl fun a h => ?_
 refine wp_ret ?_
 try simp only [xqs]
 refine rt_2 h rfl (rvT h rfl) (rvT h rfl) ?_
 exact ⟨_, rfl, by rw [hn.1, hn.2], hp.bel⟩
theorem around_s (n : Int) (w : World) (hn : -1000000000000000000 ≤ n ∧ n ≤ 1000000000000000000) : Ret Tryz.prog 102 #[.int .i64 n] w fun u w' => u = .int .i64 (around n) ∧ Below w.heap.size w w' := by
 have hp : Hp c0 w w [] := Hp.start trivial
 refine enter Tryz.func102 rfl (N := 11) rfl rfl fun a h => ?_
 refine rg ?_
 refine wsn h rfl fun a h => ?_
 refine rg ?_
 refine wmv h rfl fun a h => ?_
 refine wl (cal h rfl en127 (floor_s _ _ _ (by omega) (by omega)) fun u w1 ⟨e1, e2⟩ a h => ?_)
 subst e1
 have hp := hp.below e2
 refine wmv h rfl fun a h => ?_
 refine wvl h (ext h rfl rfl) fun a h => ?_
 refine wvl h (ext h rfl rfl) fun a h => ?_
 refine ws2 h rfl rfl rfl rfl fun a h => ?_
 refine rg ?_
 refine wmv h rfl fun a h => ?_
 refine wsn h rfl fun a h => ?_
 refine wp_ret ?_
 try simp only [xqs]
 refine rt_1 h rfl (rvT h rfl) ?_
 exact ⟨_, rfl, rfl, hp.ext.below⟩
theorem passes_s (a b : Int) (w : World) (ha : -1000000000000000000 ≤ a ∧ a ≤ 1000000000000000000) (hb : -1000000000000000000 ≤ b ∧ b ≤ 1000000000000000000) : Ret Tryz.prog 176 #[.int .i64 a, .int .i64 b] w fun u w' => u = .bool (decide (a / 21600 < b / 21600)) ∧ Below w.heap.size w w' := by
 have hp : Hp c0 w w [] := Hp.start trivial
 refine enter Tryz.func176 rfl (N := 22) rfl rfl fun a h => ?_
 refine rg ?_
 refine wsn h rfl fun a h => ?_
 refine rg ?_
 refine wmv h rfl fun a h => ?_
 refine wl (cal h rfl en127 (floor_s _ _ _ (by omega) (by omega)) fun u w1 ⟨e1, e2⟩ a h => ?_)
 subst e1
 have hp := hp.below e2
 refine wmv h rfl fun a h => ?_
 refine wvl h (ext h rfl rfl) fun a h => ?_
 refine wvl h (ext h rfl rfl) fun a h => ?_
 refine ws2 h rfl rfl rfl rfl fun a h => ?_
 refine rg ?_
 refine wmv h rfl fun a h => ?_
 refine wl (cal h rfl en127 (floor_s _ _ _ (by omega) (by omega)) fun u w2 ⟨e1, e2⟩ a h => ?_)
 subst e1
 have hp := hp.below e2
 refine wmv h rfl fun a h => ?_
 refine wvl h (ext h rfl rfl) fun a h => ?_
 refine wvl h (ext h rfl rfl) fun a h => ?_
 refine ws2 h rfl rfl rfl rfl fun a h => ?_
 refine rg ?_
 refine wm2 h rfl rfl rfl rfl fun a h => ?_
 refine wvl h (gtr h rfl rfl) fun a h => ?_
 refine wsn h rfl fun a h => ?_
 refine wp_ret ?_
 try simp only [xqs]
 refine rt_1 h rfl (rvT h rfl) ?_
 exact ⟨_, rfl, rfl, hp.ext.below⟩
theorem sum_s (s : SV) (l : List Int) (w : World) (hR : Rd w encI 1 s.v l) (hl : l.length ≤ 3) (hb : ∀ x ∈ l, -1000000000000000 ≤ x ∧ x ≤ 1000000000000000) : Ret Tryz.prog 128 #[s.v] w fun u w' => u = .int .i64 (l.foldl (· + ·) 0) ∧ Below w.heap.size w w' := by
 have hp : Hp c0 w w [] := Hp.start trivial
 refine enter Tryz.func128 rfl (N := 17) rfl rfl fun a h => ?_
 refine rg ?_
 refine wsn h rfl fun a h => ?_
 refine rg ?_
 refine wsn h rfl fun a h => ?_
 refine wp_seq ?_
 refine rg ?_
 refine wmv h rfl fun a h => ?_
 refine wvl h (lenR h rfl Tryz.underlying74 (hR.keep (by decide) hp cl0)) fun a h => ?_
 refine wmv h rfl fun a h => ?_
 refine wn ?_
 refine lp1 h [2, 6, 7] (fun n f w' => ∃ k : Nat, ∃ p : Int, k ≤ l.length ∧ n = l.length - k ∧ f = [(8, .int .i64 k), (3, .int .i64 p)] ∧ Hp c0 w w' ([]) ∧ p = (l.take k).foldl (· + ·) 0 ∧ -(k * 1000000000000000) ≤ p ∧ p ≤ k * 1000000000000000) (l.length) [(8, .int .i64 ((0 : Nat) : Int)), (3, .int .i64 0)] ⟨rfl, rfl, rfl, rfl, rfl, trivial⟩ ⟨0, 0, Nat.zero_le _, rfl, rfl, hp, rfl, by omega, by omega⟩ ?_
 rintro n f a w1 ⟨k, p, hk, rfl, rfl, hp, hpe, h1, h2⟩ h
 have hfit := hR.fits
 refine rg ?_
 refine wvl h (lss h rfl rfl) fun a h => ?_
 refine wn ?_
 refine cnd h rfl (fun hb1 => ?_) (fun hb1 => ?_)
 ·have hlt : k < l.length := by have := of_decide_eq_true hb1; omega
  obtain ⟨y, hy⟩ : ∃ y, l[k]? = some y := ⟨_, List.getElem?_eq_getElem hlt⟩
  have hyb := hb y (List.mem_of_getElem? hy)
  refine skp ?_
  refine blk ?_
  refine rg ?_
  refine wvl h (iadR (k) h rfl rfl Tryz.underlying74 sz3 (hR.keep (by decide) hp cl0) (rfl) (hlt)) fun a h => ?_
  refine wvl h (ld0 h (hR.keep (by decide) hp cl0) hy rfl ag3 rfl) fun a h => ?_
  refine wsn h rfl fun a h => ?_
  refine rg1 ?_
  refine wm2 h rfl rfl rfl rfl fun a h => ?_
  refine wvl h (add h rfl rfl (by omega)) fun a h => ?_
  refine wsg h rfl fun a h => ?_
  refine wn' ?_
  try simp only [xqs, ↓reduceIte, Nat.reduceEqDiff]
  refine rg1 ?_
  refine wvl h (add h rfl rfl (by omega)) fun a h => ?_
  refine wmv h rfl fun a h => ?_
  refine wn ?_
  exact ⟨_, _, (by omega), ⟨k + 1, p + y, by omega, rfl, rfl, hp, by rw [take_snoc hy, List.foldl_append, ← hpe]; rfl, by omega, by omega⟩, h.sub ⟨rfl, rfl, rfl, rfl, rfl, trivial⟩⟩
 have hend : k = l.length := by have := of_decide_eq_false hb1; omega
 subst hend
 rw [List.take_length] at hpe
 refine wp_exit ?_
 try simp only [xqs, ↓reduceIte, Nat.reduceEqDiff]
 refine rg ?_
 refine wmv h rfl fun a h => ?_
 refine wsn h rfl fun a h => ?_
 refine wp_ret ?_
 try simp only [xqs]
 refine rt_1 h rfl (rvT h rfl) ?_
 exact ⟨_, rfl, by rw [← hpe], hp.bel⟩
theorem gone_s (s : SV) (a b c t num den : Int) (w : World) (hn : 1 ≤ num ∧ num ≤ 10000) (hd : 1 ≤ den ∧ den ≤ 10000) (ht : 0 ≤ t ∧ t ≤ 20000) : Ret Tryz.prog 129 #[.agg #[s.v, .int .i64 a, .int .i64 b, .int .i64 c, .int .i64 t], .agg #[.int .i64 num, .int .i64 den]] w fun u w' => u = .int .i64 (gone num den t) ∧ Below w.heap.size w w' := by
 have hp : Hp c0 w w [] := Hp.start trivial
 refine enter Tryz.func129 rfl (N := 20) rfl rfl fun a h => ?_
 refine rg ?_
 refine wl (box (cs := #[_, _, _, _, _]) h hp rfl rfl fun a w1 g1 hg1 h hp => ?_)
 refine wl (box (cs := #[_, _]) h hp rfl rfl fun a w2 g2 hg2 h hp => ?_)
 refine wsn h rfl fun a h => ?_
 refine rg ?_
 refine wvl h (fad h rfl fo147_1) fun a h => ?_
 refine wvl h (ldo h hp rfl 0 rfl rfl ag3) fun a h => ?_
 refine wvl h (mul h rfl rfl (by omega)) fun a h => ?_
 refine wvl h (fad h rfl fo68_1) fun a h => ?_
 refine wvl h (ldo h hp rfl 1 rfl rfl ag3) fun a h => ?_
 have m1 := mul_bd (a := t * 21600) (b := den) (A := 20000 * 21600) (B := 10000) (by omega) (by omega) (by omega) (by omega)
 refine wvl h (mul h rfl rfl (by omega)) fun a h => ?_
 refine wvl h (fad h rfl fo68_0) fun a h => ?_
 refine wvl h (ldo h hp rfl 1 rfl rfl ag3) fun a h => ?_
 refine wl (cal h rfl en127 (floor_s _ _ _ (by omega) (by omega)) fun u w3 ⟨e1, e2⟩ a h => ?_)
 subst e1
 have hp := hp.below e2
 refine wmv h rfl fun a h => ?_
 refine wvl h (ext h rfl rfl) fun a h => ?_
 refine wvl h (ext h rfl rfl) fun a h => ?_
 refine ws2 h rfl rfl rfl rfl fun a h => ?_
 refine rg ?_
 refine wmv h rfl fun a h => ?_
 refine wsn h rfl fun a h => ?_
 refine wp_ret ?_
 try simp only [xqs]
 refine rt_1 h rfl (rvT h rfl) ?_
 exact ⟨_, rfl, rfl, hp.ext.below⟩
theorem mean_s (x : EV) (e : Eng) (t : Int) (i : Nat) (b : BV) (w : World) (hS : RdS w x e) (hsk : isSky e = true) (ht : 0 ≤ t ∧ t ≤ 20000) (hb : x.bs[i]? = some b) : Ret Tryz.prog 103 #[.agg #[x.b.v, .int .i64 e.nnum, .int .i64 e.nden, .int .i64 e.nstart, .int .i64 t], .int .i64 i] w fun u w' => u = .int .i64 (mean b.1 t) ∧ Below w.heap.size w w' := by
 obtain ⟨h1, h2, h3, h4, h5, h6⟩ := body_bd (hS.body hsk hb)
 have hg := gone_bd h1.1 h2 h3 ht
 have hp : Hp c0 w w [] := Hp.start trivial
 refine enter Tryz.func103 rfl (N := 20) rfl rfl fun a h => ?_
 refine rg ?_
 refine wl (box (cs := #[_, _, _, _, _]) h hp rfl rfl fun a w1 g1 hg1 h hp => ?_)
 refine wsn h rfl fun a h => ?_
 refine rg ?_
 refine wvl h (fad h rfl fo147_0) fun a h => ?_
 refine wvl h (fad h rfl fo72_0) fun a h => ?_
 refine wvl h (ldo h hp rfl 0 rfl rfl ag66) fun a h => ?_
 refine wmv h rfl fun a h => ?_
 refine wvl h (iadR (i) h rfl rfl Tryz.underlying66 sz110 (hS.keep hp cl0).b (rfl) ((List.getElem?_eq_some_iff.1 hb).1)) fun a h => ?_
 refine wvl h (ldE h (hS.keep hp cl0).b hb rfl ag110 sz110) fun a h => ?_
 refine wl (all h hp zc110 fun a w2 g2 hg2 h hp => ?_)
 refine wl (sta h hp rfl rfl 1 rfl sz110 rfl rfl fun w3 hp => ?_)
 refine wn ?_
 refine rdh (n := 9) hp mixed rfl ?_
 have hp := hp.drew
 refine tkq 0 h rfl hp (fun W _ => fad h rfl fo110_1) fun a h => ?_
 refine tkq 1 h rfl hp (fun W hp => ldo h hp rfl 1 rfl rfl ag3) fun a h => ?_
 refine tkq 2 h rfl hp (fun W hp => ldO (us := [_, _, _, _, _]) h hp rfl 0 rfl sz147 rfl ag147) fun a h => ?_
 refine tkq 3 h rfl hp (fun W _ => fad h rfl fo110_0) fun a h => ?_
 refine tkq 4 h rfl hp (fun W hp => ldO (us := [_, _]) h hp rfl 1 rfl sz68 rfl ag68) fun a h => ?_
 refine one 5 (by kernel_rfl) rfl (cal h rfl en129 (gone_s _ _ _ _ _ _ _ _ (by omega) (by omega) (by omega)) fun u w4 ⟨e1, e2⟩ a h => ⟨hp.below e2, ?_⟩)
 subst e1
 have hp := hp.below e2
 refine one 6 (by kernel_rfl) rfl (bsl h hp rfl (bs74_2_0_1 _ _) fun a w5 g3 hg3 h hp => ⟨((hp).pre 2 rfl), ?_⟩)
 refine one 7 (by kernel_rfl) rfl (cal h rfl en128 (sum_s ⟨_, _, _⟩ [b.1.start, gone b.1.num b.1.den t] _ (hp.rdA (i := 2) _ rfl rfl rfl (Nat.le_of_ble_eq_true rfl) (Nat.le_of_ble_eq_true rfl) (fun _ _ => rfl)) (by simp) (by simp; omega)) fun u w6 ⟨e1, e2⟩ a h => ⟨((hp.below e2).pre 2 rfl), ?_⟩)
 subst e1
 have hp := hp.below e2
 refine tka 8 h rfl ((hp).pre 2 rfl) rfl fun a h => ?_
 refine dn (by kernel_rfl) ?_
 refine wp_ret ?_
 try simp only [xqs]
 refine rt_1 h rfl (rvT h rfl) ?_
 exact ⟨_, rfl, by simp [Ecl.mean], hp.bel⟩
end Go.Proofs.Ec
