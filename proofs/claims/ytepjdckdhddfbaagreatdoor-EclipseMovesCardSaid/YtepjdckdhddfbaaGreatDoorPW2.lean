import Derived.Test.YtepjdckdhddfbaaGreatDoorProg
import Derived.Test.YtepjdckdhddfbaaGreatDoorPFa
import Derived.Test.YtepjdckdhddfbaaGreatDoorPQb
import Derived.Test.YtepjdckdhddfbaaGreatDoorPQc
import Derived.Test.YtepjdckdhddfbaaGreatDoorPW1
set_option linter.unusedVariables false
set_option linter.unusedSimpArgs false
set_option maxRecDepth 4000
namespace Go.Proofs.Ec
open Go.RowKit Go.Proofs.Sx
theorem idxP (s : SV) (ys : List (Int × Int)) (fid : Nat) (first cap : Array Value) (pr : (Int × Int) → Bool) (w : World) (hR : Rd w encP 2 s.v ys) (hen : ∀ (args : Array Value) (w : World), (callFunc fid args).run Tryz.prog w = .ok (.enter fid args) w) (hf : ∀ y ∈ ys, ∀ W, Below w.heap.size w W → Ret Tryz.prog fid (first ++ #[.agg #[.int .i64 y.1, .int .i64 y.2]] ++ cap) W fun u W' => u = .bool (pr y) ∧ Below W.heap.size W W') : Ret Tryz.prog 189 #[s.v, .func (.func fid) first cap] w fun u w' => (∃ r : Int, u = .int .i64 r ∧ decide (0 ≤ r) = ys.any pr) ∧ Below w.heap.size w w' := by
 have hp : Hp c0 w w [] := Hp.start trivial
 refine enter Tryz.func189 rfl (N := 19) rfl rfl fun a h => ?_
 refine rg ?_
 refine wsn h rfl fun a h => ?_
 refine wp_seq ?_
 refine rg ?_
 refine wmv h rfl fun a h => ?_
 refine wvl h (lenR h rfl Tryz.underlying73 (hR.keep (by decide) hp cl0)) fun a h => ?_
 refine wmv h rfl fun a h => ?_
 refine wn ?_
 refine lp1 h [0, 1, 7] (fun n f w' => ∃ k : Nat, k ≤ ys.length ∧ n = ys.length - k ∧ f = [(8, .int .i64 k)] ∧ Hp c0 w w' ([]) ∧ (ys.take k).any pr = false) (ys.length) [(8, .int .i64 ((0 : Nat) : Int))] ⟨rfl, rfl, rfl, rfl, trivial⟩ ⟨0, Nat.zero_le _, rfl, rfl, hp, rfl⟩ ?_
 rintro n f a w1 ⟨k, hk, rfl, rfl, hp, hI⟩ h
 have hfit := hR.fits
 refine rg ?_
 refine wvl h (lss h rfl rfl) fun a h => ?_
 refine wn ?_
 refine cnd h rfl (fun hb1 => ?_) (fun hb1 => ?_)
 ·have hlt : k < ys.length := by have := of_decide_eq_true hb1; omega
  obtain ⟨y, hy⟩ : ∃ y, ys[k]? = some y := ⟨_, List.getElem?_eq_getElem hlt⟩
  refine skp ?_
  refine blk ?_
  refine rg ?_
  refine wmv h rfl fun a h => ?_
  refine wsn h rfl fun a h => ?_
  refine rg ?_
  refine wm3 h rfl rfl rfl rfl rfl rfl fun a h => ?_
  refine wvl h (iadR (k) h rfl rfl Tryz.underlying73 sz143 (hR.keep (by decide) hp cl0) (rfl) (hlt)) fun a h => ?_
  refine wvl h (ldE h (hR.keep (by decide) hp cl0) hy rfl ag143 sz143) fun a h => ?_
  refine wl (calv h rfl rfl (hen) (hf y (List.mem_of_getElem? hy) _ hp.bel) fun u w2 ⟨e1, e2⟩ a h => ?_)
  subst e1
  have hp := hp.below e2
  refine wn ?_
  refine cnd1 h rfl (fun hb2 => ?_) (fun hb2 => ?_)
  ·refine rg ?_
   refine wmv h rfl fun a h => ?_
   refine wsn h rfl fun a h => ?_
   refine wp_ret ?_
   try simp only [xqs]
   refine rt_1 h rfl (rvT h rfl) ?_
   exact ⟨_, rfl, ⟨_, rfl, by rw [any_at hy hb2]; simp⟩, hp.bel⟩
  refine wp_skip ?_
  refine rg1 ?_
  refine wvl h (add h rfl rfl (by omega)) fun a h => ?_
  refine wmv h rfl fun a h => ?_
  refine wn ?_
  exact ⟨_, _, (by omega), ⟨k + 1, by omega, rfl, rfl, hp, any_snoc hy hI hb2⟩, h.sub ⟨rfl, rfl, rfl, rfl, trivial⟩⟩
 have hend : k = ys.length := by have := of_decide_eq_false hb1; omega
 subst hend
 rw [List.take_length] at hI
 refine wp_exit ?_
 try simp only [xqs, ↓reduceIte, Nat.reduceEqDiff]
 refine rg ?_
 refine wsn h rfl fun a h => ?_
 refine wp_ret ?_
 try simp only [xqs]
 refine rt_1 h rfl (rvT h rfl) ?_
 exact ⟨_, rfl, ⟨_, rfl, by rw [hI]; rfl⟩, hp.bel⟩
theorem conP (s : SV) (ys : List (Int × Int)) (fid : Nat) (first cap : Array Value) (pr : (Int × Int) → Bool) (w : World) (hR : Rd w encP 2 s.v ys) (hen : ∀ (args : Array Value) (w : World), (callFunc fid args).run Tryz.prog w = .ok (.enter fid args) w) (hf : ∀ y ∈ ys, ∀ W, Below w.heap.size w W → Ret Tryz.prog fid (first ++ #[.agg #[.int .i64 y.1, .int .i64 y.2]] ++ cap) W fun u W' => u = .bool (pr y) ∧ Below W.heap.size W W') : Ret Tryz.prog 164 #[s.v, .func (.func fid) first cap] w fun u w' => u = .bool (ys.any pr) ∧ Below w.heap.size w w' := by
 have hp : Hp c0 w w [] := Hp.start trivial
 refine enter Tryz.func164 rfl (N := 9) rfl rfl fun a h => ?_
 refine rg ?_
 refine wsn h rfl fun a h => ?_
 refine rg ?_
 refine wm2 h rfl rfl rfl rfl fun a h => ?_
 refine wl (cal h rfl en189 (idxP s ys fid first cap pr _ hR hen hf) fun u w1 ⟨⟨z, e1, hz⟩, e2⟩ a h => ?_)
 subst e1
 have hp := hp.below e2
 refine wvl h (geq h rfl rfl) fun a h => ?_
 refine wsn h rfl fun a h => ?_
 refine wp_ret ?_
 try simp only [xqs]
 refine rt_1 h rfl (rvT h rfl) ?_
 exact ⟨_, rfl, by rw [← hz], hp.bel⟩
theorem isTeeth_t (n : Int) (w : World) : Ret Tryz.prog 166 #[.int .i64 n] w fun u w1 => u = .bool (Ecl.isTeeth n) ∧ w1 = w := by
 refine enter Tryz.func166 rfl (N := 5) rfl rfl fun a h => ?_
 refine rg ?_
 refine wsn h rfl fun a h => ?_
 refine rg ?_
 refine wmv h rfl fun a h => ?_
 refine wl (cal h rfl en163 (in_t _ _ _ _) fun u w1 ⟨e1, e2⟩ a h => ?_)
 subst e1
 subst e2
 refine wsn h rfl fun a h => ?_
 refine wp_ret ?_
 try simp only [xqs]
 refine rt_1 h rfl (rvT h rfl) ?_
 exact ⟨_, rfl, by simp only [Ecl.isTeeth, Bool.true_and, Bool.false_and, Bool.and_true, Bool.and_false, Bool.or_true, Bool.true_or, Bool.or_false, Bool.false_or, Bool.not_true, Bool.not_false], rfl⟩
theorem isTrain1 (x y : Int) (w : World) : Ret Tryz.prog 165 #[.agg #[.int .i64 x, .int .i64 y]] w fun u w' => u = .bool (!(Ecl.isTeeth x && Ecl.isTeeth y)) ∧ Below w.heap.size w w' := by
 have hp : Hp c0 w w [] := Hp.start trivial
 refine enter Tryz.func165 rfl (N := 13) rfl rfl fun a h => ?_
 refine rg ?_
 refine wl (box (cs := #[_, _]) h hp rfl rfl fun a w1 g1 hg1 h hp => ?_)
 refine wsn h rfl fun a h => ?_
 refine rg ?_
 refine wvl h (fad h rfl fo143_0) fun a h => ?_
 refine wvl h (ldo h hp rfl 0 rfl rfl ag3) fun a h => ?_
 refine wl (cal h rfl en166 (isTeeth_t _ _) fun u w2 ⟨e1, e2⟩ a h => ?_)
 subst e1
 subst e2
 refine wvl h (not_ h rfl) fun a h => ?_
 refine wmv h rfl fun a h => ?_
 refine split (t := 7) h rfl (fun hb1 => ?_) (fun hb1 => ?_)
 ·refine wl (stp_off h rfl rfl rfl rfl rfl hb1 fun a h => ?_)
  refine wl (stp_off h rfl rfl rfl rfl rfl hb1 fun a h => ?_)
  refine wl (stp_off h rfl rfl rfl rfl rfl hb1 fun a h => ?_)
  refine wl (stp_off h rfl rfl rfl rfl rfl hb1 fun a h => ?_)
  refine wvl h (pckT h rfl hb1 rfl) fun a h => ?_
  refine wsn h rfl fun a h => ?_
  refine wp_ret ?_
  try simp only [xqs]
  refine rt_1 h rfl (rvT h rfl) ?_
  exact ⟨_, rfl, by simp only [Bool.not_eq_true', Bool.not_eq_false'] at hb1; simp only [hb1, Bool.true_and, Bool.false_and, Bool.and_true, Bool.and_false, Bool.or_true, Bool.true_or, Bool.or_false, Bool.false_or, Bool.not_true, Bool.not_false], hp.bel⟩
 refine wl (stp_on h rfl rfl rfl hb1 (vl h (fad h rfl fo143_1) fun a h => ?_))
 refine wl (stp_on h rfl rfl rfl hb1 (vl h (ldo h hp rfl 0 rfl rfl ag3) fun a h => ?_))
 refine wl (stp_on h rfl rfl rfl hb1 (cal h rfl en166 (isTeeth_t _ _) fun u w3 ⟨e1, e2⟩ a h => ?_))
 subst e1
 subst e2
 refine wl (stp_on h rfl rfl rfl hb1 (vl h (not_ h rfl) fun a h => ?_))
 refine wvl h (pckF h rfl hb1 rfl) fun a h => ?_
 refine wsn h rfl fun a h => ?_
 refine wp_ret ?_
 try simp only [xqs]
 refine rt_1 h rfl (rvT h rfl) ?_
 exact ⟨_, rfl, by simp only [Bool.not_eq_true', Bool.not_eq_false'] at hb1; simp only [hb1, Bool.true_and, Bool.false_and, Bool.and_true, Bool.and_false, Bool.or_true, Bool.true_or, Bool.or_false, Bool.false_or, Bool.not_true, Bool.not_false], hp.bel⟩
theorem isTrain_t (s : SV) (l : List (Int × Int)) (w : World) (hR : Rd w encP 2 s.v l) : Ret Tryz.prog 140 #[s.v] w fun u w' => u = .bool (Ecl.isTrain l) ∧ Below w.heap.size w w' := by
 have hp : Hp c0 w w [] := Hp.start trivial
 refine enter Tryz.func140 rfl (N := 11) rfl rfl fun a h => ?_
 refine rg ?_
 refine wsn h rfl fun a h => ?_
 refine rg ?_
 refine wmv h rfl fun a h => ?_
 refine wvl h (lenR h rfl Tryz.underlying73 (hR.keep (by decide) hp cl0)) fun a h => ?_
 refine wl (cal h rfl en163 (in_t _ _ _ _) fun u w1 ⟨e1, e2⟩ a h => ?_)
 subst e1
 subst e2
 refine wmv h rfl fun a h => ?_
 refine split (t := 6) h rfl (fun hb1 => ?_) (fun hb1 => ?_)
 ·refine wl (stp_on h rfl rfl rfl hb1 (vl h (mov h rfl) fun a h => ?_))
  refine wl (stp_on h rfl rfl rfl hb1 (cal h rfl en164 (conP s l 165 #[] #[] (fun y => !(Ecl.isTeeth y.1 && Ecl.isTeeth y.2)) _ (hR.keep (by decide) hp cl0) en165 (fun y _ W _ => isTrain1 y.1 y.2 W)) fun u w2 ⟨e1, e2⟩ a h => ?_))
  subst e1
  have hp := hp.below e2
  refine wl (stp_on h rfl rfl rfl hb1 (vl h (not_ h rfl) fun a h => ?_))
  refine wvl h (pckT h rfl hb1 rfl) fun a h => ?_
  refine wsn h rfl fun a h => ?_
  refine wp_ret ?_
  try simp only [xqs]
  refine rt_1 h rfl (rvT h rfl) ?_
  exact ⟨_, rfl, by simp only [Ecl.isTrain, hb1, Bool.true_and, Bool.false_and, Bool.and_true, Bool.and_false, Bool.or_true, Bool.true_or, Bool.or_false, Bool.false_or, Bool.not_true, Bool.not_false, na], hp.bel⟩
 refine wl (stp_off h rfl rfl rfl rfl rfl hb1 fun a h => ?_)
 refine wl (stp_off h rfl rfl rfl rfl rfl hb1 fun a h => ?_)
 refine wl (stp_off h rfl rfl rfl rfl rfl hb1 fun a h => ?_)
 refine wvl h (pckF h rfl hb1 rfl) fun a h => ?_
 refine wsn h rfl fun a h => ?_
 refine wp_ret ?_
 try simp only [xqs]
 refine rt_1 h rfl (rvT h rfl) ?_
 exact ⟨_, rfl, by simp only [Ecl.isTrain, hb1, Bool.true_and, Bool.false_and, Bool.and_true, Bool.and_false, Bool.or_true, Bool.true_or, Bool.or_false, Bool.false_or, Bool.not_true, Bool.not_false, na], hp.bel⟩
end Go.Proofs.Ec
