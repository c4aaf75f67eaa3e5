import Derived.Test.YtepjdckdhddfbaaGreatDoorProg
import Derived.Test.YtepjdckdhddfbaaGreatDoorPFa
import Derived.Test.YtepjdckdhddfbaaGreatDoorPQb
import Derived.Test.YtepjdckdhddfbaaGreatDoorPQc
import Derived.Test.YtepjdckdhddfbaaGreatDoorPW2
set_option linter.unusedVariables false
set_option linter.unusedSimpArgs false
set_option maxRecDepth 4000
namespace Go.Proofs.Ec
open Go.RowKit Go.Proofs.Sx
open Ecl
theorem product_t (s : SV) (l : List Int) (w : World) (hR : Rd w encI 1 s.v l) (hl : l.length ≤ 3) (hb : ∀ x ∈ l, 1 ≤ x ∧ x ≤ 60) : Ret Tryz.prog 168 #[s.v] w fun u w' => u = .int .i64 (l.foldl (· * ·) 1) ∧ Below w.heap.size w w' := by
 have hp : Hp c0 w w [] := Hp.start trivial
 refine enter Tryz.func168 rfl (N := 17) rfl rfl fun a h => ?_
 refine rg ?_
 refine wsn h rfl fun a h => ?_
 refine rg ?_
 refine wsn h rfl fun a h => ?_
 refine wp_seq ?_
 refine rg ?_
 refine wmv h rfl fun a h => ?_
 refine wvl h (lenR h rfl Tryz.underlying74 (hR.keep (by decide) hp cl0)) fun a h => ?_
 refine wmv h rfl fun a h => ?_
 refine wn ?_
 refine lp1 h [2, 6, 7] (fun n f w' => ∃ k : Nat, ∃ p : Int, k ≤ l.length ∧ n = l.length - k ∧ f = [(8, .int .i64 k), (3, .int .i64 p)] ∧ Hp c0 w w' ([]) ∧ p = (l.take k).foldl (· * ·) 1 ∧ 1 ≤ p ∧ (k = 0 → p ≤ 1) ∧ (k = 1 → p ≤ 60) ∧ (k = 2 → p ≤ 3600) ∧ p ≤ 216000) (l.length) [(8, .int .i64 ((0 : Nat) : Int)), (3, .int .i64 1)] ⟨rfl, rfl, rfl, rfl, rfl, trivial⟩ ⟨0, 1, Nat.zero_le _, rfl, rfl, hp, rfl, by omega, by omega, by omega, by omega, by omega⟩ ?_
 rintro n f a w1 ⟨k, p, hk, rfl, rfl, hp, hpe, h1, h2, h3, h4, h5⟩ h
 have hfit := hR.fits
 refine rg ?_
 refine wvl h (lss h rfl rfl) fun a h => ?_
 refine wn ?_
 refine cnd h rfl (fun hb1 => ?_) (fun hb1 => ?_)
 ·have hlt : k < l.length := by have := of_decide_eq_true hb1; omega
  obtain ⟨y, hy⟩ : ∃ y, l[k]? = some y := ⟨_, List.getElem?_eq_getElem hlt⟩
  have hyb := hb y (List.mem_of_getElem? hy)
  have m1 := Int.mul_le_mul_of_nonneg_left hyb.2 (by omega : 0 ≤ p)
  have m2 := Int.mul_pos (by omega : 0 < p) (by omega : 0 < y)
  have m3 := Int.mul_le_mul_of_nonneg_left hyb.1 (by omega : 0 ≤ p)
  refine skp ?_
  refine blk ?_
  refine rg ?_
  refine wvl h (iadR (k) h rfl rfl Tryz.underlying74 sz3 (hR.keep (by decide) hp cl0) (rfl) (hlt)) fun a h => ?_
  refine wvl h (ld0 h (hR.keep (by decide) hp cl0) hy rfl ag3 rfl) fun a h => ?_
  refine wsn h rfl fun a h => ?_
  refine rg1 ?_
  refine wm2 h rfl rfl rfl rfl fun a h => ?_
  refine wvl h (mul h rfl rfl (by omega)) fun a h => ?_
  refine wsg h rfl fun a h => ?_
  refine wn' ?_
  try simp only [xqs, ↓reduceIte, Nat.reduceEqDiff]
  refine rg1 ?_
  refine wvl h (add h rfl rfl (by omega)) fun a h => ?_
  refine wmv h rfl fun a h => ?_
  refine wn ?_
  exact ⟨_, _, (by omega), ⟨k + 1, p * y, by omega, rfl, rfl, hp, by rw [fold_snoc hy, ← hpe], by omega, by omega, by omega, by omega, by omega⟩, h.sub ⟨rfl, rfl, rfl, rfl, rfl, trivial⟩⟩
 have hend : k = l.length := by have := of_decide_eq_false hb1; omega
 subst hend
 rw [List.take_length] at hpe
 refine wp_exit ?_
 try simp only [xqs, ↓reduceIte, Nat.reduceEqDiff]
 refine rg ?_
 refine wmv h rfl fun a h => ?_
 refine wsn h rfl fun a h => ?_
 refine wp_ret ?_
 try simp only [xqs]
 refine rt_1 h rfl (rvT h rfl) ?_
 exact ⟨_, rfl, by rw [← hpe], hp.bel⟩
theorem gcd_t (x y : Int) (w : World) (hx : 0 < x ∧ x ≤ 4611686018427387904) (hy : 0 ≤ y ∧ y ≤ 4611686018427387904) : Ret Tryz.prog 190 #[.int .i64 x, .int .i64 y] w fun u w' => u = .int .i64 (Int.gcd x y : Int) ∧ Below w.heap.size w w' := by
 have hp : Hp c0 w w [] := Hp.start trivial
 refine enter Tryz.func190 rfl (N := 12) rfl rfl fun a h => ?_
 refine rg ?_
 refine wsn h rfl fun a h => ?_
 refine lp h [] (fun n f w' => ∃ p r : Int, n = r.toNat ∧ f = [(0, .int .i64 p), (1, .int .i64 r)] ∧ Hp c0 w w' [] ∧ Int.gcd p r = Int.gcd x y ∧ 0 < p ∧ p ≤ 4611686018427387904 ∧ 0 ≤ r ∧ r ≤ 4611686018427387904) (y.toNat) [(0, .int .i64 x), (1, .int .i64 y)] ⟨rfl, rfl, trivial⟩ ⟨x, y, rfl, rfl, hp, rfl, hx.1, hx.2, hy.1, hy.2⟩ ?_
 rintro n f a w1 ⟨p, r, rfl, rfl, hp, hg, h1, h2, h3, h4⟩ h
 refine wp_seq ?_
 refine rg ?_
 refine wmv h rfl fun a h => ?_
 refine wvl h (gtr h rfl rfl) fun a h => ?_
 refine wn ?_
 refine cnd1 h rfl (fun hb1 => ?_) (fun hb1 => ?_)
 ·have hr := of_decide_eq_true hb1
  have m1 := Int.emod_nonneg p (by omega : r ≠ 0)
  have m2 := Int.emod_lt_of_pos p hr
  refine skp ?_
  refine blk1 ?_
  refine rdh1 (n := 6) hp mixed rfl ?_
  have hp := hp.drew
  refine tkm 0 h rfl hp rfl fun a h => ?_
  refine tkm 1 h rfl hp rfl fun a h => ?_
  refine tkm 2 h rfl hp rfl fun a h => ?_
  refine tkq 3 h rfl hp (fun W _ => rem0 h rfl rfl (by omega) (by omega)) fun a h => ?_
  refine tka 4 h rfl hp rfl fun a h => ?_
  refine tka 5 h rfl hp rfl fun a h => ?_
  refine dn (by kernel_rfl) ?_
  try simp only [xqs, ↓reduceIte, Nat.reduceEqDiff]
  exact ⟨_, _, (by omega), ⟨r, p % r, rfl, rfl, hp, by rw [← hg]; exact gcd_step _ _ h3, by omega, by omega, by omega, by omega⟩, h.sub ⟨rfl, rfl, trivial⟩⟩
 have hr := of_decide_eq_false hb1
 obtain rfl : r = 0 := by omega
 refine wp_exit ?_
 try simp only [xqs, ↓reduceIte, Nat.reduceEqDiff]
 refine rg ?_
 refine wmv h rfl fun a h => ?_
 refine wsn h rfl fun a h => ?_
 refine wp_ret ?_
 try simp only [xqs]
 refine rt_1 h rfl (rvT h rfl) ?_
 rw [Int.gcd_zero_right] at hg
 exact ⟨_, rfl, by rw [← hg]; congr 1; omega, hp.bel⟩
theorem areFeasts_t (s : SV) (l : List Int) (w : World) (hR : Rd w encI 1 s.v l) : Ret Tryz.prog 171 #[s.v] w fun u w' => u = .bool (rising 1 10000 l && decide (l.length ≤ 8)) ∧ Below w.heap.size w w' := by
 have hp : Hp c0 w w [] := Hp.start trivial
 refine enter Tryz.func171 rfl (N := 32) rfl rfl fun a h => ?_
 refine rg ?_
 refine wsn h rfl fun a h => ?_
 refine wp_seq ?_
 refine rg ?_
 refine wmv h rfl fun a h => ?_
 refine wvl h (lenR h rfl Tryz.underlying74 (hR.keep (by decide) hp cl0)) fun a h => ?_
 refine wmv h rfl fun a h => ?_
 refine wn ?_
 refine lp1 h [0, 5, 6] (fun n f w' => ∃ k : Nat, k ≤ l.length ∧ n = l.length - k ∧ f = [(7, .int .i64 k)] ∧ Hp c0 w w' ([]) ∧ rising 1 10000 (l.take k) = true) (l.length) [(7, .int .i64 ((0 : Nat) : Int))] ⟨rfl, rfl, rfl, rfl, trivial⟩ ⟨0, Nat.zero_le _, rfl, rfl, hp, rfl⟩ ?_
 rintro n f a w1 ⟨k, hk, rfl, rfl, hp, hI⟩ h
 have hfit := hR.fits
 refine rg ?_
 refine wvl h (lss h rfl rfl) fun a h => ?_
 refine wn ?_
 refine cnd h rfl (fun hb1 => ?_) (fun hb1 => ?_)
 ·have hlt : k < l.length := by have := of_decide_eq_true hb1; omega
  obtain ⟨y, hy⟩ : ∃ y, l[k]? = some y := ⟨_, List.getElem?_eq_getElem hlt⟩
  refine skp ?_
  refine blk ?_
  refine rg ?_
  refine wmv h rfl fun a h => ?_
  refine wvl h (iadR (k) h rfl rfl Tryz.underlying74 sz3 (hR.keep (by decide) hp cl0) (rfl) (hlt)) fun a h => ?_
  refine wvl h (ld0 h (hR.keep (by decide) hp cl0) hy rfl ag3 rfl) fun a h => ?_
  refine ws2 h rfl rfl rfl rfl fun a h => ?_
  refine rg ?_
  refine wmv h rfl fun a h => ?_
  refine wl (cal h rfl en163 (in_t _ _ _ _) fun u w2 ⟨e1, e2⟩ a h => ?_)
  subst e1
  subst e2
  refine wvl h (not_ h rfl) fun a h => ?_
  refine wmv h rfl fun a h => ?_
  refine split (t := 15) h rfl (fun hb2 => ?_) (fun hb2 => ?_)
  ·have hin : inR y 1 10000 = false := by simpa using hb2
   refine wl (stp_off h rfl rfl rfl rfl rfl hb2 fun a h => ?_)
   refine wl (stp_off h rfl rfl rfl rfl rfl hb2 fun a h => ?_)
   refine wl (stp_off h rfl rfl rfl rfl rfl hb2 fun a h => ?_)
   refine wl (stp_un h rfl rfl rfl rfl rfl fun a h => ?_)
   refine wl (stp_un h rfl rfl rfl rfl rfl fun a h => ?_)
   refine wl (stp_un h rfl rfl rfl rfl rfl fun a h => ?_)
   refine wl (stp_un h rfl rfl rfl rfl rfl fun a h => ?_)
   refine wl (stp_un h rfl rfl rfl rfl rfl fun a h => ?_)
   refine wl (stp_un h rfl rfl rfl rfl rfl fun a h => ?_)
   refine wl (stp_un h rfl rfl rfl rfl rfl fun a h => ?_)
   refine wl (stp_off h rfl rfl rfl rfl rfl hb2 fun a h => ?_)
   refine wvl h (pckT h rfl hb2 rfl) fun a h => ?_
   refine wn ?_
   refine cnd1 h rfl (fun _ => ?_) (fun e => nomatch e)
   refine rg ?_
   refine wsn h rfl fun a h => ?_
   refine wp_ret ?_
   try simp only [xqs]
   refine rt_1 h rfl (rvT h rfl) ?_
   exact ⟨_, rfl, by rw [rise_bad1 hy hin]; rfl, hp.bel⟩
  have hin : inR y 1 10000 = true := by simpa using hb2
  refine wl (stp_on h rfl rfl rfl hb2 (vl h (mov h rfl) fun a h => ?_))
  refine wl (stp_on h rfl rfl rfl hb2 (vl h (gtr h rfl rfl) fun a h => ?_))
  refine wl (stp_on h rfl rfl rfl hb2 (vl h (mov h rfl) fun a h => ?_))
  refine split (t := 18) h rfl (fun hb3 => ?_) (fun hb3 => ?_)
  ·have hk0 : 0 < k := by have := of_decide_eq_true hb3; omega
   obtain ⟨y1, hy1⟩ : ∃ z, l[k - 1]? = some z := ⟨_, List.getElem?_eq_getElem (by omega)⟩
   refine wl (stp_on h rfl rfl rfl hb3 (vl h (mov h rfl) fun a h => ?_))
   refine wl (stp_on h rfl rfl rfl hb3 (vl h (mov h rfl) fun a h => ?_))
   refine wl (stp_on h rfl rfl rfl hb3 (vl h (mov h rfl) fun a h => ?_))
   refine wl (stp_on h rfl rfl rfl hb3 (vl h (sub h rfl rfl (by omega)) fun a h => ?_))
   refine wl (stp_on h rfl rfl rfl hb3 (vl h (iadR (k - 1) h rfl rfl Tryz.underlying74 sz3 (hR.keep (by decide) hp cl0) (by omega) (by omega)) fun a h => ?_))
   refine wl (stp_on h rfl rfl rfl hb3 (vl h (ld0 h (hR.keep (by decide) hp cl0) hy1 rfl ag3 rfl) fun a h => ?_))
   refine wl (stp_on h rfl rfl rfl hb3 (vl h (leq h rfl rfl) fun a h => ?_))
   refine wl (stp_on h rfl rfl rfl hb2 (vl h (pckT h rfl hb3 rfl) fun a h => ?_))
   refine wvl h (pckF h rfl hb2 rfl) fun a h => ?_
   refine wn ?_
   refine cnd1 h rfl (fun hb4 => ?_) (fun hb4 => ?_)
   ·have hn := of_decide_eq_true hb4
    refine rg ?_
    refine wsn h rfl fun a h => ?_
    refine wp_ret ?_
    try simp only [xqs]
    refine rt_1 h rfl (rvT h rfl) ?_
    exact ⟨_, rfl, by rw [rise_bad2 hk0 hy1 hy hn]; rfl, hp.bel⟩
   have hn := of_decide_eq_false hb4
   refine wp_skip ?_
   refine rg1 ?_
   refine wvl h (add h rfl rfl (by omega)) fun a h => ?_
   refine wmv h rfl fun a h => ?_
   refine wn ?_
   exact ⟨_, _, (by omega), ⟨k + 1, by omega, rfl, rfl, hp, (by first | exact rise_go1 hk0 hI hy1 hy hin hn | exact rise_go0 hk0 hy hin)⟩, h.sub ⟨rfl, rfl, rfl, rfl, trivial⟩⟩
  have hk0 : ¬ 0 < k := by have := of_decide_eq_false hb3; omega
  refine wl (stp_off h rfl rfl rfl rfl rfl hb3 fun a h => ?_)
  refine wl (stp_off h rfl rfl rfl rfl rfl hb3 fun a h => ?_)
  refine wl (stp_off h rfl rfl rfl rfl rfl hb3 fun a h => ?_)
  refine wl (stp_off h rfl rfl rfl rfl rfl hb3 fun a h => ?_)
  refine wl (stp_off h rfl rfl rfl rfl rfl hb3 fun a h => ?_)
  refine wl (stp_off h rfl rfl rfl rfl rfl hb3 fun a h => ?_)
  refine wl (stp_off h rfl rfl rfl rfl rfl hb3 fun a h => ?_)
  refine wl (stp_on h rfl rfl rfl hb2 (vl h (pckF h rfl hb3 rfl) fun a h => ?_))
  refine wvl h (pckF h rfl hb2 rfl) fun a h => ?_
  refine wn ?_
  refine cnd1 h rfl (fun e => nomatch e) (fun _ => ?_)
  refine wp_skip ?_
  refine rg1 ?_
  refine wvl h (add h rfl rfl (by omega)) fun a h => ?_
  refine wmv h rfl fun a h => ?_
  refine wn ?_
  exact ⟨_, _, (by omega), ⟨k + 1, by omega, rfl, rfl, hp, (by first | exact rise_go1 hk0 hI hy1 hy hin hn | exact rise_go0 hk0 hy hin)⟩, h.sub ⟨rfl, rfl, rfl, rfl, trivial⟩⟩
 have hend : k = l.length := by have := of_decide_eq_false hb1; omega
 subst hend
 rw [List.take_length] at hI
 refine wp_exit ?_
 try simp only [xqs, ↓reduceIte, Nat.reduceEqDiff]
 refine rg ?_
 refine wmv h rfl fun a h => ?_
 refine wvl h (lenR h rfl Tryz.underlying74 (hR.keep (by decide) hp cl0)) fun a h => ?_
 refine wvl h (leq h rfl rfl) fun a h => ?_
 refine wsn h rfl fun a h => ?_
 refine wp_ret ?_
 try simp only [xqs]
 refine rt_1 h rfl (rvT h rfl) ?_
 exact ⟨_, rfl, by rw [hI]; simp only [Bool.true_and]; congr 1; exact decide_eq_decide.2 (by omega), hp.bel⟩
theorem areSettings_t (s : SV) (l : List Int) (f : SV) (fe : List Int) (w : World) (hR : Rd w encI 1 s.v l) (hF : Rd w encI 1 f.v fe) : Ret Tryz.prog 172 #[f.v, s.v] w fun u w' => u = .bool (rising 0 ((fe.length : Int) - 1) l) ∧ Below w.heap.size w w' := by
 have hp : Hp c0 w w [] := Hp.start trivial
 refine enter Tryz.func172 rfl (N := 34) rfl rfl fun a h => ?_
 refine rg ?_
 refine wsn h rfl fun a h => ?_
 refine wp_seq ?_
 refine rg ?_
 refine wmv h rfl fun a h => ?_
 refine wvl h (lenR h rfl Tryz.underlying74 (hR.keep (by decide) hp cl0)) fun a h => ?_
 refine wmv h rfl fun a h => ?_
 refine wn ?_
 refine lp1 h [0, 1, 7, 8] (fun n f w' => ∃ k : Nat, k ≤ l.length ∧ n = l.length - k ∧ f = [(9, .int .i64 k)] ∧ Hp c0 w w' ([]) ∧ rising 0 ((fe.length : Int) - 1) (l.take k) = true) (l.length) [(9, .int .i64 ((0 : Nat) : Int))] ⟨rfl, rfl, rfl, rfl, rfl, trivial⟩ ⟨0, Nat.zero_le _, rfl, rfl, hp, rfl⟩ ?_
 rintro n f a w1 ⟨k, hk, rfl, rfl, hp, hI⟩ h
 have hfit := hR.fits
 refine rg ?_
 refine wvl h (lss h rfl rfl) fun a h => ?_
 refine wn ?_
 refine cnd h rfl (fun hb1 => ?_) (fun hb1 => ?_)
 ·have hlt : k < l.length := by have := of_decide_eq_true hb1; omega
  obtain ⟨y, hy⟩ : ∃ y, l[k]? = some y := ⟨_, List.getElem?_eq_getElem hlt⟩
  refine skp ?_
  refine blk ?_
  refine rg ?_
  refine wmv h rfl fun a h => ?_
  refine wvl h (iadR (k) h rfl rfl Tryz.underlying74 sz3 (hR.keep (by decide) hp cl0) (rfl) (hlt)) fun a h => ?_
  refine wvl h (ld0 h (hR.keep (by decide) hp cl0) hy rfl ag3 rfl) fun a h => ?_
  refine ws2 h rfl rfl rfl rfl fun a h => ?_
  refine rg ?_
  refine wm2 h rfl rfl rfl rfl fun a h => ?_
  refine wvl h (lenR h rfl Tryz.underlying74 (hF.keep (by decide) hp cl0)) fun a h => ?_
  have hfit2 := hF.fits
  refine wvl h (sub h rfl rfl (by omega)) fun a h => ?_
  refine wl (cal h rfl en163 (in_t _ _ _ _) fun u w2 ⟨e1, e2⟩ a h => ?_)
  subst e1
  subst e2
  refine wvl h (not_ h rfl) fun a h => ?_
  refine wmv h rfl fun a h => ?_
  refine split (t := 20) h rfl (fun hb2 => ?_) (fun hb2 => ?_)
  ·have hin : inR y 0 ((fe.length : Int) - 1) = false := by simpa using hb2
   refine wl (stp_off h rfl rfl rfl rfl rfl hb2 fun a h => ?_)
   refine wl (stp_off h rfl rfl rfl rfl rfl hb2 fun a h => ?_)
   refine wl (stp_off h rfl rfl rfl rfl rfl hb2 fun a h => ?_)
   refine wl (stp_un h rfl rfl rfl rfl rfl fun a h => ?_)
   refine wl (stp_un h rfl rfl rfl rfl rfl fun a h => ?_)
   refine wl (stp_un h rfl rfl rfl rfl rfl fun a h => ?_)
   refine wl (stp_un h rfl rfl rfl rfl rfl fun a h => ?_)
   refine wl (stp_un h rfl rfl rfl rfl rfl fun a h => ?_)
   refine wl (stp_un h rfl rfl rfl rfl rfl fun a h => ?_)
   refine wl (stp_un h rfl rfl rfl rfl rfl fun a h => ?_)
   refine wl (stp_off h rfl rfl rfl rfl rfl hb2 fun a h => ?_)
   refine wvl h (pckT h rfl hb2 rfl) fun a h => ?_
   refine wn ?_
   refine cnd1 h rfl (fun _ => ?_) (fun e => nomatch e)
   refine rg ?_
   refine wsn h rfl fun a h => ?_
   refine wp_ret ?_
   try simp only [xqs]
   refine rt_1 h rfl (rvT h rfl) ?_
   exact ⟨_, rfl, by rw [rise_bad1 hy hin], hp.bel⟩
  have hin : inR y 0 ((fe.length : Int) - 1) = true := by simpa using hb2
  refine wl (stp_on h rfl rfl rfl hb2 (vl h (mov h rfl) fun a h => ?_))
  refine wl (stp_on h rfl rfl rfl hb2 (vl h (gtr h rfl rfl) fun a h => ?_))
  refine wl (stp_on h rfl rfl rfl hb2 (vl h (mov h rfl) fun a h => ?_))
  refine split (t := 23) h rfl (fun hb3 => ?_) (fun hb3 => ?_)
  ·have hk0 : 0 < k := by have := of_decide_eq_true hb3; omega
   obtain ⟨y1, hy1⟩ : ∃ z, l[k - 1]? = some z := ⟨_, List.getElem?_eq_getElem (by omega)⟩
   refine wl (stp_on h rfl rfl rfl hb3 (vl h (mov h rfl) fun a h => ?_))
   refine wl (stp_on h rfl rfl rfl hb3 (vl h (mov h rfl) fun a h => ?_))
   refine wl (stp_on h rfl rfl rfl hb3 (vl h (mov h rfl) fun a h => ?_))
   refine wl (stp_on h rfl rfl rfl hb3 (vl h (sub h rfl rfl (by omega)) fun a h => ?_))
   refine wl (stp_on h rfl rfl rfl hb3 (vl h (iadR (k - 1) h rfl rfl Tryz.underlying74 sz3 (hR.keep (by decide) hp cl0) (by omega) (by omega)) fun a h => ?_))
   refine wl (stp_on h rfl rfl rfl hb3 (vl h (ld0 h (hR.keep (by decide) hp cl0) hy1 rfl ag3 rfl) fun a h => ?_))
   refine wl (stp_on h rfl rfl rfl hb3 (vl h (leq h rfl rfl) fun a h => ?_))
   refine wl (stp_on h rfl rfl rfl hb2 (vl h (pckT h rfl hb3 rfl) fun a h => ?_))
   refine wvl h (pckF h rfl hb2 rfl) fun a h => ?_
   refine wn ?_
   refine cnd1 h rfl (fun hb4 => ?_) (fun hb4 => ?_)
   ·have hn := of_decide_eq_true hb4
    refine rg ?_
    refine wsn h rfl fun a h => ?_
    refine wp_ret ?_
    try simp only [xqs]
    refine rt_1 h rfl (rvT h rfl) ?_
    exact ⟨_, rfl, by rw [rise_bad2 hk0 hy1 hy hn], hp.bel⟩
   have hn := of_decide_eq_false hb4
   refine wp_skip ?_
   refine rg1 ?_
   refine wvl h (add h rfl rfl (by omega)) fun a h => ?_
   refine wmv h rfl fun a h => ?_
   refine wn ?_
   exact ⟨_, _, (by omega), ⟨k + 1, by omega, rfl, rfl, hp, (by first | exact rise_go1 hk0 hI hy1 hy hin hn | exact rise_go0 hk0 hy hin)⟩, h.sub ⟨rfl, rfl, rfl, rfl, rfl, trivial⟩⟩
  have hk0 : ¬ 0 < k := by have := of_decide_eq_false hb3; omega
  refine wl (stp_off h rfl rfl rfl rfl rfl hb3 fun a h => ?_)
  refine wl (stp_off h rfl rfl rfl rfl rfl hb3 fun a h => ?_)
  refine wl (stp_off h rfl rfl rfl rfl rfl hb3 fun a h => ?_)
  refine wl (stp_off h rfl rfl rfl rfl rfl hb3 fun a h => ?_)
  refine wl (stp_off h rfl rfl rfl rfl rfl hb3 fun a h => ?_)
  refine wl (stp_off h rfl rfl rfl rfl rfl hb3 fun a h => ?_)
  refine wl (stp_off h rfl rfl rfl rfl rfl hb3 fun a h => ?_)
  refine wl (stp_on h rfl rfl rfl hb2 (vl h (pckF h rfl hb3 rfl) fun a h => ?_))
  refine wvl h (pckF h rfl hb2 rfl) fun a h => ?_
  refine wn ?_
  refine cnd1 h rfl (fun e => nomatch e) (fun _ => ?_)
  refine wp_skip ?_
  refine rg1 ?_
  refine wvl h (add h rfl rfl (by omega)) fun a h => ?_
  refine wmv h rfl fun a h => ?_
  refine wn ?_
  exact ⟨_, _, (by omega), ⟨k + 1, by omega, rfl, rfl, hp, (by first | exact rise_go1 hk0 hI hy1 hy hin hn | exact rise_go0 hk0 hy hin)⟩, h.sub ⟨rfl, rfl, rfl, rfl, rfl, trivial⟩⟩
 have hend : k = l.length := by have := of_decide_eq_false hb1; omega
 subst hend
 rw [List.take_length] at hI
 refine wp_exit ?_
 try simp only [xqs, ↓reduceIte, Nat.reduceEqDiff]
 refine rg ?_
 refine wsn h rfl fun a h => ?_
 refine wp_ret ?_
 try simp only [xqs]
 refine rt_1 h rfl (rvT h rfl) ?_
 exact ⟨_, rfl, by rw [hI], hp.bel⟩
theorem reduced_t (x y : Int) (w : World) (hx : 0 < x ∧ x ≤ 4611686018427387904) (hy : 0 < y ∧ y ≤ 4611686018427387904) : Ret Tryz.prog 167 #[.int .i64 x, .int .i64 y] w fun u w' => u = .agg #[.int .i64 (x / (Int.gcd x y : Int)), .int .i64 (y / (Int.gcd x y : Int))] ∧ Below w.heap.size w w' := by
 have hp : Hp c0 w w [] := Hp.start trivial
 refine enter Tryz.func167 rfl (N := 16) rfl rfl fun a h => ?_
 refine rg ?_
 refine wl (all h hp zc169 fun a w1 g1 hg1 h hp => ?_)
 refine wn ?_
 refine rg ?_
 refine wm2 h rfl rfl rfl rfl fun a h => ?_
 refine wl (cal h rfl en190 (gcd_t _ _ _ hx (by omega)) fun u w2 ⟨e1, e2⟩ a h => ?_)
 subst e1
 have hp := hp.below e2
 have hg : 0 < (Int.gcd x y : Int) := by have := Int.gcd_pos_of_ne_zero_left y (by omega : x ≠ 0); omega
 refine wsn h rfl fun a h => ?_
 refine rdh (n := 8) ((hp).pick [] (by decide) rfl) mixed rfl ?_
 have hp := hp.drew
 refine tkm 0 h rfl ((hp).pick [] (by decide) rfl) rfl fun a h => ?_
 refine tkm 1 h rfl ((hp).pick [] (by decide) rfl) rfl fun a h => ?_
 refine tkq 2 h rfl ((hp).pick [] (by decide) rfl) (fun W _ => quo0 h rfl rfl (by omega) (by omega)) fun a h => ?_
 refine tkm 3 h rfl ((hp).pick [] (by decide) rfl) rfl fun a h => ?_
 refine tkm 4 h rfl ((hp).pick [] (by decide) rfl) rfl fun a h => ?_
 refine tkq 5 h rfl ((hp).pick [] (by decide) rfl) (fun W _ => quo0 h rfl rfl (by omega) (by omega)) fun a h => ?_
 refine tkq 6 h rfl ((hp).pick [] (by decide) rfl) (fun W _ => bld h rfl (bl169_0_1 _ _ _)) fun a h => ?_
 refine one 7 (by kernel_rfl) rfl (sta h hp rfl rfl 0 rfl sz169 rfl rfl fun w3 hp => ⟨((hp).pick [] (by decide) rfl), ?_⟩)
 refine dn (by kernel_rfl) ?_
 refine wp_ret ?_
 try simp only [xqs]
 refine rt_1 h rfl (rvA h hp rfl 0 rfl ag169 sz169) ?_
 exact ⟨_, rfl, rfl, hp.ext.below⟩
theorem turns_t (s : SV) (ys : List (Int × Int)) (w : World) (hR : Rd w encP 2 s.v ys) (hT : Ecl.isTrain ys = true) : Ret Tryz.prog 141 #[s.v] w fun u w' => u = .agg #[.int .i64 (Ecl.turns ys).1, .int .i64 (Ecl.turns ys).2] ∧ Below w.heap.size w w' := by
 have hp : Hp c0 w w [] := Hp.start trivial
 refine enter Tryz.func141 rfl (N := 29) rfl rfl fun a h => ?_
 refine rg ?_
 refine wl (all h hp zc169 fun a w1 g1 hg1 h hp => ?_)
 refine wn ?_
 refine rg ?_
 refine ws2 h rfl rfl rfl rfl fun a h => ?_
 refine wp_seq ?_
 refine rg ?_
 refine wmv h rfl fun a h => ?_
 refine wvl h (lenR h rfl Tryz.underlying73 (hR.keep (by decide) hp cl0)) fun a h => ?_
 refine wmv h rfl fun a h => ?_
 refine wn ?_
 have hp := (hp.nilB 3 1).nilB 3 1
 refine lp1 h [2, 7, 8] (fun n f w' => ∃ k : Nat, ∃ s1 s2 : SV, k ≤ ys.length ∧ n = ys.length - k ∧ f = [(9, .int .i64 k), (3, s1.v), (4, s2.v)] ∧ Hp c0 w w' ([.blk g1 (.cells #[.int .i64 0, .int .i64 0] 169 (0, 0)), .buf 3 1 s1.v k (((ys.take k).map (·.1)).flatMap encI), .buf 3 1 s2.v k (((ys.take k).map (·.2)).flatMap encI)]) ∧ True) (ys.length) [(9, .int .i64 ((0 : Nat) : Int)), (3, .slice none 0 0), (4, .slice none 0 0)] ⟨rfl, rfl, rfl, rfl, rfl, rfl, trivial⟩ ⟨0, ⟨none, 0, 0⟩, ⟨none, 0, 0⟩, Nat.zero_le _, rfl, rfl, hp, trivial⟩ ?_
 rintro n f a w2 ⟨k, s1, s2, hk, rfl, rfl, hp, _⟩ h
 have hfit := hR.fits
 refine rg ?_
 refine wvl h (lss h rfl rfl) fun a h => ?_
 refine wn ?_
 refine cnd h rfl (fun hb1 => ?_) (fun hb1 => ?_)
 ·have hlt : k < ys.length := by have := of_decide_eq_true hb1; omega
  obtain ⟨y, hy⟩ : ∃ y, ys[k]? = some y := ⟨_, List.getElem?_eq_getElem hlt⟩
  refine skp ?_
  refine blk ?_
  refine rg ?_
  refine wvl h (iadR (k) h rfl rfl Tryz.underlying73 sz143 (hR.keep (by decide) hp cl0) (rfl) (hlt)) fun a h => ?_
  refine wvl h (ldE h (hR.keep (by decide) hp cl0) hy rfl ag143 sz143) fun a h => ?_
  refine wl (all h hp zc143 fun a w3 g2 hg2 h hp => ?_)
  refine wl (sta h hp rfl rfl 3 rfl sz143 rfl rfl fun w4 hp => ?_)
  refine wn ?_
  refine rdh1 (n := 12) ((hp).pick [0, 3] (by decide) rfl) mixed rfl ?_
  have hp := hp.drew
  refine tkm 0 h rfl ((hp).pick [0, 3] (by decide) rfl) rfl fun a h => ?_
  refine tkq 1 h rfl ((hp).pick [0, 3] (by decide) rfl) (fun W _ => fad h rfl fo143_0) fun a h => ?_
  refine tkq 2 h rfl ((hp).pick [0, 3] (by decide) rfl) (fun W hp => ldo h hp rfl 1 rfl rfl ag3) fun a h => ?_
  refine tkm 5 h rfl ((hp).pick [0, 3] (by decide) rfl) rfl fun a h => ?_
  refine tkq 6 h rfl ((hp).pick [0, 3] (by decide) rfl) (fun W _ => fad h rfl fo143_1) fun a h => ?_
  refine tkq 7 h rfl ((hp).pick [0, 3] (by decide) rfl) (fun W hp => ldo h hp rfl 1 rfl rfl ag3) fun a h => ?_
  refine two 3 8 (by kernel_rfl) rfl rfl ?_ ?_
  ·refine (bsl h hp rfl (bs74_1_0 _) fun a w5 g3 hg3 h hp => ⟨((hp).pick [0, 3] (by decide) rfl), ?_⟩)
   refine two 4 8 (by kernel_rfl) rfl rfl ?_ ?_
   ·refine (app1 1 h hp rfl rfl rfl ap74 4 rfl rfl rfl (by have := (train_bd hT).1; omega) (by have := (train_bd hT).1; omega) fun a w6 v h hp => ⟨((hp).pick [0, 3] (by decide) rfl), ?_⟩)
    refine one 8 (by kernel_rfl) rfl (bsl h hp rfl (bs74_1_0 _) fun a w7 g4 hg4 h hp => ⟨((hp).pick [0, 3] (by decide) rfl), ?_⟩)
    refine one 9 (by kernel_rfl) rfl (app1 2 h hp rfl rfl rfl ap74 5 rfl rfl rfl (by have := (train_bd hT).1; omega) (by have := (train_bd hT).1; omega) fun a w8 v h hp => ⟨((hp).pick [0, 3] (by decide) rfl), ?_⟩)
    refine tka 10 h rfl ((hp).pick [0, 3] (by decide) rfl) rfl fun a h => ?_
    refine tka 11 h rfl ((hp).pick [0, 3] (by decide) rfl) rfl fun a h => ?_
    refine dn (by kernel_rfl) ?_
    try simp only [xqs, ↓reduceIte, Nat.reduceEqDiff]
    refine rg1 ?_
    refine wvl h (add h rfl rfl (by have := (train_bd hT).1; omega)) fun a h => ?_
    refine wmv h rfl fun a h => ?_
    refine wn ?_
    exact ⟨_, _, (by omega), ⟨k + 1, _, _, by omega, rfl, rfl, hp.pre 3 (by simp [take_snoc hy, encI]), trivial⟩, h.sub ⟨rfl, rfl, rfl, rfl, rfl, rfl, trivial⟩⟩
   refine (bsl h hp rfl (bs74_1_0 _) fun a w9 g5 hg5 h hp => ⟨((hp).pick [0, 3] (by decide) rfl), ?_⟩)
   refine one 4 (by kernel_rfl) rfl (app1 1 h hp rfl rfl rfl ap74 4 rfl rfl rfl (by have := (train_bd hT).1; omega) (by have := (train_bd hT).1; omega) fun a w10 v h hp => ⟨((hp).pick [0, 3] (by decide) rfl), ?_⟩)
   refine one 9 (by kernel_rfl) rfl (app1 2 h hp rfl rfl rfl ap74 5 rfl rfl rfl (by have := (train_bd hT).1; omega) (by have := (train_bd hT).1; omega) fun a w11 v h hp => ⟨((hp).pick [0, 3] (by decide) rfl), ?_⟩)
   refine tka 10 h rfl ((hp).pick [0, 3] (by decide) rfl) rfl fun a h => ?_
   refine tka 11 h rfl ((hp).pick [0, 3] (by decide) rfl) rfl fun a h => ?_
   refine dn (by kernel_rfl) ?_
   try simp only [xqs, ↓reduceIte, Nat.reduceEqDiff]
   refine rg1 ?_
   refine wvl h (add h rfl rfl (by have := (train_bd hT).1; omega)) fun a h => ?_
   refine wmv h rfl fun a h => ?_
   refine wn ?_
   exact ⟨_, _, (by omega), ⟨k + 1, _, _, by omega, rfl, rfl, hp.pre 3 (by simp [take_snoc hy, encI]), trivial⟩, h.sub ⟨rfl, rfl, rfl, rfl, rfl, rfl, trivial⟩⟩
  refine (bsl h hp rfl (bs74_1_0 _) fun a w12 g6 hg6 h hp => ⟨((hp).pick [0, 3] (by decide) rfl), ?_⟩)
  refine one 3 (by kernel_rfl) rfl (bsl h hp rfl (bs74_1_0 _) fun a w13 g7 hg7 h hp => ⟨((hp).pick [0, 3] (by decide) rfl), ?_⟩)
  refine one 4 (by kernel_rfl) rfl (app1 1 h hp rfl rfl rfl ap74 5 rfl rfl rfl (by have := (train_bd hT).1; omega) (by have := (train_bd hT).1; omega) fun a w14 v h hp => ⟨((hp).pick [0, 3] (by decide) rfl), ?_⟩)
  refine one 9 (by kernel_rfl) rfl (app1 2 h hp rfl rfl rfl ap74 4 rfl rfl rfl (by have := (train_bd hT).1; omega) (by have := (train_bd hT).1; omega) fun a w15 v h hp => ⟨((hp).pick [0, 3] (by decide) rfl), ?_⟩)
  refine tka 10 h rfl ((hp).pick [0, 3] (by decide) rfl) rfl fun a h => ?_
  refine tka 11 h rfl ((hp).pick [0, 3] (by decide) rfl) rfl fun a h => ?_
  refine dn (by kernel_rfl) ?_
  try simp only [xqs, ↓reduceIte, Nat.reduceEqDiff]
  refine rg1 ?_
  refine wvl h (add h rfl rfl (by have := (train_bd hT).1; omega)) fun a h => ?_
  refine wmv h rfl fun a h => ?_
  refine wn ?_
  exact ⟨_, _, (by omega), ⟨k + 1, _, _, by omega, rfl, rfl, hp.pre 3 (by simp [take_snoc hy, encI]), trivial⟩, h.sub ⟨rfl, rfl, rfl, rfl, rfl, rfl, trivial⟩⟩
 have hend : k = ys.length := by have := of_decide_eq_false hb1; omega
 subst hend
 rw [List.take_length] at hp
 refine wp_exit ?_
 try simp only [xqs, ↓reduceIte, Nat.reduceEqDiff]
 refine rg ?_
 refine wmv h rfl fun a h => ?_
 refine wl (cal h rfl en168 (product_t _ _ _ (hp.rdB (i := 1) (ys := ys.map (·.1)) rfl rfl (by simp) (fun _ _ => rfl)) (by rw [List.length_map]; exact (train_bd hT).1) (train_bd hT).2.1) fun u w16 ⟨e1, e2⟩ a h => ?_)
 subst e1
 have hp := hp.below e2
 refine wmv h rfl fun a h => ?_
 refine wl (cal h rfl en168 (product_t _ _ _ (hp.rdB (i := 2) (ys := ys.map (·.2)) rfl rfl (by simp) (fun _ _ => rfl)) (by rw [List.length_map]; exact (train_bd hT).1) (train_bd hT).2.2) fun u w17 ⟨e1, e2⟩ a h => ?_)
 subst e1
 have hp := hp.below e2
 refine wl (cal h rfl en167 (reduced_t _ _ _ (by have := train_prod hT; omega) (by have := train_prod hT; omega)) fun u w18 ⟨e1, e2⟩ a h => ?_)
 subst e1
 have hp := hp.below e2
 refine wl (sta h hp rfl rfl 0 rfl sz169 rfl rfl fun w19 hp => ?_)
 refine wn ?_
 refine wp_ret ?_
 try simp only [xqs]
 refine rt_1 h rfl (rvA h hp rfl 0 rfl ag169 sz169) ?_
 exact ⟨_, rfl, by simp only [turns, prodA_fold, prodB_fold], hp.bel⟩
theorem isTurn_t (n : Int) (w : World) : Ret Tryz.prog 173 #[.int .i64 n] w fun u w1 => u = .bool (inR n 0 10000) ∧ w1 = w := by
 refine enter Tryz.func173 rfl (N := 5) rfl rfl fun a h => ?_
 refine rg ?_
 refine wsn h rfl fun a h => ?_
 refine rg ?_
 refine wmv h rfl fun a h => ?_
 refine wl (cal h rfl en163 (in_t _ _ _ _) fun u w1 ⟨e1, e2⟩ a h => ?_)
 subst e1
 subst e2
 refine wsn h rfl fun a h => ?_
 refine wp_ret ?_
 try simp only [xqs]
 refine rt_1 h rfl (rvT h rfl) ?_
 exact ⟨_, rfl, by simp only [inR, Bool.true_and, Bool.false_and, Bool.and_true, Bool.and_false, Bool.or_true, Bool.true_or, Bool.or_false, Bool.false_or, Bool.not_true, Bool.not_false], rfl⟩
theorem isFraction_t (x y : Int) (w : World) : Ret Tryz.prog 170 #[.agg #[.int .i64 x, .int .i64 y]] w fun u w' => u = .bool (inR x 0 50000 && inR y 1 50000) ∧ Below w.heap.size w w' := by
 have hp : Hp c0 w w [] := Hp.start trivial
 refine enter Tryz.func170 rfl (N := 11) rfl rfl fun a h => ?_
 refine rg ?_
 refine wl (box (cs := #[_, _]) h hp rfl rfl fun a w1 g1 hg1 h hp => ?_)
 refine wsn h rfl fun a h => ?_
 refine rg ?_
 refine wvl h (fad h rfl fo169_0) fun a h => ?_
 refine wvl h (ldo h hp rfl 0 rfl rfl ag3) fun a h => ?_
 refine wl (cal h rfl en163 (in_t _ _ _ _) fun u w2 ⟨e1, e2⟩ a h => ?_)
 subst e1
 subst e2
 refine wmv h rfl fun a h => ?_
 refine split (t := 6) h rfl (fun hb1 => ?_) (fun hb1 => ?_)
 ·refine wl (stp_on h rfl rfl rfl hb1 (vl h (fad h rfl fo169_1) fun a h => ?_))
  refine wl (stp_on h rfl rfl rfl hb1 (vl h (ldo h hp rfl 0 rfl rfl ag3) fun a h => ?_))
  refine wl (stp_on h rfl rfl rfl hb1 (cal h rfl en163 (in_t _ _ _ _) fun u w3 ⟨e1, e2⟩ a h => ?_))
  subst e1
  subst e2
  refine wvl h (pckT h rfl hb1 rfl) fun a h => ?_
  refine wsn h rfl fun a h => ?_
  refine wp_ret ?_
  try simp only [xqs]
  refine rt_1 h rfl (rvT h rfl) ?_
  exact ⟨_, rfl, by simp only [hb1, Bool.true_and, Bool.false_and, Bool.and_true, Bool.and_false, Bool.or_true, Bool.true_or, Bool.or_false, Bool.false_or, Bool.not_true, Bool.not_false], hp.bel⟩
 refine wl (stp_off h rfl rfl rfl rfl rfl hb1 fun a h => ?_)
 refine wl (stp_off h rfl rfl rfl rfl rfl hb1 fun a h => ?_)
 refine wl (stp_off h rfl rfl rfl rfl rfl hb1 fun a h => ?_)
 refine wvl h (pckF h rfl hb1 rfl) fun a h => ?_
 refine wsn h rfl fun a h => ?_
 refine wp_ret ?_
 try simp only [xqs]
 refine rt_1 h rfl (rvT h rfl) ?_
 exact ⟨_, rfl, by simp only [hb1, Bool.true_and, Bool.false_and, Bool.and_true, Bool.and_false, Bool.or_true, Bool.true_or, Bool.or_false, Bool.false_or, Bool.not_true, Bool.not_false], hp.bel⟩
theorem Turns_t (s : SV) (l : List (Int × Int)) (w : World) (hR : Rd w encP 2 s.v l) : Ret Tryz.prog 117 #[s.v] w fun u w' => (∃ p q : Int, ∃ b : Bool, u = .tuple #[.agg #[.int .i64 p, .int .i64 q], .bool b, .int .i64 (if isTrain l then 0 else 2)]) ∧ Below w.heap.size w w' := by
 have hp : Hp c0 w w [] := Hp.start trivial
 refine enter Tryz.func117 rfl (N := 15) rfl rfl fun a h => ?_
 refine rg ?_
 refine wl (all h hp zc169 fun a w1 g1 hg1 h hp => ?_)
 refine ws2 h rfl rfl rfl rfl fun a h => ?_
 refine wp_seq ?_
 refine rg ?_
 refine wmv h rfl fun a h => ?_
 refine wl (cal h rfl en140 (isTrain_t _ _ _ (hR.keep (by decide) hp cl0)) fun u w2 ⟨e1, e2⟩ a h => ?_)
 subst e1
 have hp := hp.below e2
 refine wvl h (not_ h rfl) fun a h => ?_
 refine wn ?_
 refine cnd1 h rfl (fun hb1 => ?_) (fun hb1 => ?_)
 ·refine rg ?_
  refine wvl h (bld h rfl (bl169_ _)) fun a h => ?_
  refine wl (sta h hp rfl rfl 0 rfl sz169 rfl rfl fun w3 hp => ?_)
  refine ws2 h rfl rfl rfl rfl fun a h => ?_
  refine wp_ret ?_
  try simp only [xqs]
  refine rt_3 h rfl (rvA h hp rfl 0 rfl ag169 sz169) (rvT h rfl) (rvT h rfl) ?_
  exact ⟨_, rfl, ⟨_, _, _, by rw [show isTrain l = false from by simpa using hb1]; rfl⟩, hp.bel⟩
 refine skp ?_
 refine rg ?_
 refine wmv h rfl fun a h => ?_
 refine wl (cal h rfl en141 (turns_t _ _ _ (hR.keep (by decide) hp cl0) (by simpa using hb1)) fun u w4 ⟨e1, e2⟩ a h => ?_)
 subst e1
 have hp := hp.below e2
 refine wmv h rfl fun a h => ?_
 refine wvl h (lenR h rfl Tryz.underlying73 (hR.keep (by decide) hp cl0)) fun a h => ?_
 have hfit := hR.fits
 refine wvl h (rem0 h rfl rfl (by omega) (by omega)) fun a h => ?_
 refine wvl h (eqi h rfl rfl) fun a h => ?_
 refine wl (sta h hp rfl rfl 0 rfl sz169 rfl rfl fun w5 hp => ?_)
 refine ws2 h rfl rfl rfl rfl fun a h => ?_
 refine wp_ret ?_
 try simp only [xqs]
 refine rt_3 h rfl (rvA h hp rfl 0 rfl ag169 sz169) (rvT h rfl) (rvT h rfl) ?_
 exact ⟨_, rfl, ⟨_, _, _, by rw [show isTrain l = true from by simpa using hb1]; rfl⟩, hp.bel⟩
theorem Shown_t (s : SV) (l : List (Int × Int)) (fn fd : Int) (f s2 : SV) (fe st : List Int) (t : Int) (w : World) (hR : Rd w encP 2 s.v l) (hF : Rd w encI 1 f.v fe) (hS : Rd w encI 1 s2.v st) (hT : isTrain l = true) (hfr : (inR fn 0 50000 && inR fd 1 50000) = true) (hfe : (rising 1 10000 fe && decide (fe.length ≤ 8)) = true) (hset : rising 0 ((fe.length : Int) - 1) st = true) (ht : inR t 0 10000 = true) : Ret Tryz.prog 146 #[s.v, .agg #[.int .i64 fn, .int .i64 fd], f.v, s2.v, .int .i64 t] w fun u w' => u = .tuple #[.int .i64 (shown l fn fd fe st t), .int .i64 0] ∧ Below w.heap.size w w' := by
 have hfr2 := hfr
 have ht2 := ht
 simp only [inR, Bool.and_eq_true, decide_eq_true_eq] at hfr2 ht2
 have hp : Hp c0 w w [] := Hp.start trivial
 refine enter Tryz.func146 rfl (N := 89) rfl rfl fun a h => ?_
 refine rg ?_
 refine wl (box (cs := #[_, _]) h hp rfl rfl fun a w1 g1 hg1 h hp => ?_)
 refine ws2 h rfl rfl rfl rfl fun a h => ?_
 refine wp_seq ?_
 refine rg ?_
 refine wmv h rfl fun a h => ?_
 refine wl (cal h rfl en140 (isTrain_t _ _ _ (hR.keep (by decide) hp cl0)) fun u w2 ⟨e1, e2⟩ a h => ?_)
 subst e1
 have hp := hp.below e2
 refine wvl h (not_ h rfl) fun a h => ?_
 refine wmv h rfl fun a h => ?_
 refine split (t := 21) h rfl (fun hb1 => ?_) (fun hb1 => ?_)
 ·exact absurd hb1 (by simp [hT])
 refine wl (stp_on h rfl rfl rfl hb1 (vl h (ldO (us := [_, _]) h hp rfl 0 rfl sz169 rfl ag169) fun a h => ?_))
 refine wl (stp_on h rfl rfl rfl hb1 (cal h rfl en170 (isFraction_t _ _ _) fun u w3 ⟨e1, e2⟩ a h => ?_))
 subst e1
 have hp := hp.below e2
 refine wl (stp_on h rfl rfl rfl hb1 (vl h (not_ h rfl) fun a h => ?_))
 refine wvl h (pckF h rfl hb1 rfl) fun a h => ?_
 refine wmv h rfl fun a h => ?_
 refine split (t := 26) h rfl (fun hb2 => ?_) (fun hb2 => ?_)
 ·exact absurd hb2 (by simp [hfr])
 refine wl (stp_on h rfl rfl rfl hb2 (vl h (mov h rfl) fun a h => ?_))
 refine wl (stp_on h rfl rfl rfl hb2 (cal h rfl en171 (areFeasts_t _ _ _ (hF.keep (by decide) hp cl0)) fun u w4 ⟨e1, e2⟩ a h => ?_))
 subst e1
 have hp := hp.below e2
 refine wl (stp_on h rfl rfl rfl hb2 (vl h (not_ h rfl) fun a h => ?_))
 refine wvl h (pckF h rfl hb2 rfl) fun a h => ?_
 refine wmv h rfl fun a h => ?_
 refine split (t := 31) h rfl (fun hb3 => ?_) (fun hb3 => ?_)
 ·exact absurd hb3 (by simp [hfe])
 refine wl (stp_on h rfl rfl rfl hb3 (vl h (mov h rfl) fun a h => ?_))
 refine wl (stp_on h rfl rfl rfl hb3 (vl h (mov h rfl) fun a h => ?_))
 refine wl (stp_on h rfl rfl rfl hb3 (cal h rfl en172 (areSettings_t _ _ _ _ _ (hS.keep (by decide) hp cl0) (hF.keep (by decide) hp cl0)) fun u w5 ⟨e1, e2⟩ a h => ?_))
 subst e1
 have hp := hp.below e2
 refine wl (stp_on h rfl rfl rfl hb3 (vl h (not_ h rfl) fun a h => ?_))
 refine wvl h (pckF h rfl hb3 rfl) fun a h => ?_
 refine wmv h rfl fun a h => ?_
 refine split (t := 37) h rfl (fun hb4 => ?_) (fun hb4 => ?_)
 ·exact absurd hb4 (by simp [hset])
 refine wl (stp_on h rfl rfl rfl hb4 (vl h (mov h rfl) fun a h => ?_))
 refine wl (stp_on h rfl rfl rfl hb4 (cal h rfl en173 (isTurn_t _ _) fun u w6 ⟨e1, e2⟩ a h => ?_))
 subst e1
 subst e2
 refine wl (stp_on h rfl rfl rfl hb4 (vl h (not_ h rfl) fun a h => ?_))
 refine wvl h (pckF h rfl hb4 rfl) fun a h => ?_
 refine wn ?_
 refine cnd1 h rfl (fun hb5 => ?_) (fun hb5 => ?_)
 ·exact absurd hb5 (by simp [ht])
 refine skp ?_
 refine rg ?_
 refine wsn h rfl fun a h => ?_
 refine wp_seq ?_
 refine rg ?_
 refine wmv h rfl fun a h => ?_
 refine wvl h (lenR h rfl Tryz.underlying74 (hS.keep (by decide) hp cl0)) fun a h => ?_
 refine wmv h rfl fun a h => ?_
 refine wn ?_
 refine lp1 h [0, 2, 4, 6, 10, 11, 41, 42, 43] (fun n f w' => ∃ k : Nat, ∃ z : Int, k ≤ st.length ∧ n = st.length - k ∧ f = [(44, .int .i64 k), (12, .int .i64 z)] ∧ Hp c0 w w' ([.blk g1 (.cells #[.int .i64 fn, .int .i64 fd] 169 (0, 0))]) ∧ z = lastSet fe t (st.take k) 0 ∧ 0 ≤ z ∧ z ≤ t) (st.length) [(44, .int .i64 ((0 : Nat) : Int)), (12, .int .i64 0)] ⟨rfl, rfl, rfl, rfl, rfl, rfl, rfl, rfl, rfl, rfl, rfl, trivial⟩ ⟨0, 0, Nat.zero_le _, rfl, rfl, hp, rfl, by omega, by omega⟩ ?_
 rintro n f a w7 ⟨k, z, hk, rfl, rfl, hp, hz, z0, z1⟩ h
 have hfit := hS.fits
 refine rg ?_
 refine wvl h (lss h rfl rfl) fun a h => ?_
 refine wn ?_
 refine cnd h rfl (fun hb6 => ?_) (fun hb6 => ?_)
 ·have hlt : k < st.length := by have := of_decide_eq_true hb6; omega
  obtain ⟨y, hy⟩ : ∃ y, st[k]? = some y := ⟨_, List.getElem?_eq_getElem hlt⟩
  obtain ⟨hy0, hy1⟩ := set_bd hset (List.mem_of_getElem? hy)
  obtain ⟨f, hf⟩ : ∃ f, fe[y.toNat]? = some f := ⟨_, List.getElem?_eq_getElem (by omega)⟩
  have hf1 := feast_bd hfe (List.mem_of_getElem? hf)
  refine skp ?_
  refine blk ?_
  refine rg ?_
  refine wvl h (iadR (k) h rfl rfl Tryz.underlying74 sz3 (hS.keep (by decide) hp cl0) (rfl) (hlt)) fun a h => ?_
  refine wvl h (ld0 h (hS.keep (by decide) hp cl0) hy rfl ag3 rfl) fun a h => ?_
  refine wsn h rfl fun a h => ?_
  refine rg ?_
  refine wm2 h rfl rfl rfl rfl fun a h => ?_
  refine wvl h (iadR (y.toNat) h rfl rfl Tryz.underlying74 sz3 (hF.keep (by decide) hp cl0) (by omega) (by omega)) fun a h => ?_
  refine wvl h (ld0 h (hF.keep (by decide) hp cl0) hf rfl ag3 rfl) fun a h => ?_
  refine wmv h rfl fun a h => ?_
  refine wvl h (leq h rfl rfl) fun a h => ?_
  refine wn ?_
  refine cnd1 h rfl (fun hb7 => ?_) (fun hb7 => ?_)
  ·have hb7 := of_decide_eq_true hb7
   refine rg1 ?_
   refine wm2 h rfl rfl rfl rfl fun a h => ?_
   refine wvl h (iadR (y.toNat) h rfl rfl Tryz.underlying74 sz3 (hF.keep (by decide) hp cl0) (by omega) (by omega)) fun a h => ?_
   refine wvl h (ld0 h (hF.keep (by decide) hp cl0) hf rfl ag3 rfl) fun a h => ?_
   refine wsg h rfl fun a h => ?_
   refine wn' ?_
   try simp only [xqs, ↓reduceIte, Nat.reduceEqDiff]
   refine rg1 ?_
   refine wvl h (add h rfl rfl (by omega)) fun a h => ?_
   refine wmv h rfl fun a h => ?_
   refine wn ?_
   exact ⟨_, _, (by omega), ⟨k + 1, _, by omega, rfl, rfl, hp, (by rw [take_snoc hy, lastSet_app, at0_eq hy0 hf]; simp [hb7, hz]), by omega, by omega⟩, h.sub ⟨rfl, rfl, rfl, rfl, rfl, rfl, rfl, rfl, rfl, rfl, rfl, trivial⟩⟩
  have hb7 := of_decide_eq_false hb7
  refine wp_skip ?_
  refine rg1 ?_
  refine wvl h (add h rfl rfl (by omega)) fun a h => ?_
  refine wmv h rfl fun a h => ?_
  refine wn ?_
  exact ⟨_, _, (by omega), ⟨k + 1, _, by omega, rfl, rfl, hp, (by rw [take_snoc hy, lastSet_app, at0_eq hy0 hf]; simp [hb7, hz]), by omega, by omega⟩, h.sub ⟨rfl, rfl, rfl, rfl, rfl, rfl, rfl, rfl, rfl, rfl, rfl, trivial⟩⟩
 have hend : k = st.length := by have := of_decide_eq_false hb6; omega
 subst hend
 rw [List.take_length] at hz
 refine wp_exit ?_
 try simp only [xqs, ↓reduceIte, Nat.reduceEqDiff]
 refine rg ?_
 refine wmv h rfl fun a h => ?_
 refine wl (cal h rfl en141 (turns_t _ _ _ (hR.keep (by decide) hp cl0) hT) fun u w8 ⟨e1, e2⟩ a h => ?_)
 subst e1
 have hp := hp.below e2
 refine wl (all h hp zc169 fun a w9 g2 hg2 h hp => ?_)
 refine wl (sta h hp rfl rfl 1 rfl sz169 rfl rfl fun w10 hp => ?_)
 refine wn ?_
 refine rg ?_
 refine wvl h (fad h rfl fo169_1) fun a h => ?_
 refine wvl h (ldo h hp rfl 1 rfl rfl ag3) fun a h => ?_
 refine wvl h (fad h rfl fo169_1) fun a h => ?_
 refine wvl h (ldo h hp rfl 0 rfl rfl ag3) fun a h => ?_
 have hx := turns_bd hT
 have m0 := mul_bd (a := (turns l).2) (b := fd) (A := 216000) (B := 50000) (by omega) (by omega) (by omega) (by omega)
 have m0p : 0 < (turns l).2 * fd := Int.mul_pos (by omega) (by omega)
 refine wvl h (mul h rfl rfl (by omega)) fun a h => ?_
 refine wsn h rfl fun a h => ?_
 refine rg ?_
 refine wvl h (fad h rfl fo169_0) fun a h => ?_
 refine wvl h (ldo h hp rfl 0 rfl rfl ag3) fun a h => ?_
 refine wmv h rfl fun a h => ?_
 have m1 := mul_bd (a := fn) (b := z) (A := 50000) (B := 10000) (by omega) (by omega) (by omega) (by omega)
 refine wvl h (mul h rfl rfl (by omega)) fun a h => ?_
 refine wvl h (fad h rfl fo169_1) fun a h => ?_
 refine wvl h (ldo h hp rfl 1 rfl rfl ag3) fun a h => ?_
 have m2 := mul_bd (a := fn * z) (b := (turns l).2) (A := 50000 * 10000) (B := 216000) (by omega) (by omega) (by omega) (by omega)
 refine wvl h (mul h rfl rfl (by omega)) fun a h => ?_
 refine wvl h (fad h rfl fo169_0) fun a h => ?_
 refine wvl h (ldo h hp rfl 1 rfl rfl ag3) fun a h => ?_
 refine wm2 h rfl rfl rfl rfl fun a h => ?_
 refine wvl h (sub h rfl rfl (by omega)) fun a h => ?_
 have m3 := mul_bd (a := (turns l).1) (b := t - z) (A := 216000) (B := 10000) (by omega) (by omega) (by omega) (by omega)
 refine wvl h (mul h rfl rfl (by omega)) fun a h => ?_
 refine wvl h (fad h rfl fo169_1) fun a h => ?_
 refine wvl h (ldo h hp rfl 0 rfl rfl ag3) fun a h => ?_
 have m4 := mul_bd (a := (turns l).1 * (t - z)) (b := fd) (A := 216000 * 10000) (B := 50000) (by omega) (by omega) (by omega) (by omega)
 refine wvl h (mul h rfl rfl (by omega)) fun a h => ?_
 refine wvl h (add h rfl rfl (by omega)) fun a h => ?_
 refine wmv h rfl fun a h => ?_
 refine wvl h (rem0 h rfl rfl (by omega) (by omega)) fun a h => ?_
 refine wsn h rfl fun a h => ?_
 refine rg ?_
 refine wmv h rfl fun a h => ?_
 have m5 := Int.emod_nonneg (fn * z * (turns l).2 + (turns l).1 * (t - z) * fd) (by omega : (turns l).2 * fd ≠ 0)
 have m6 := Int.emod_lt_of_pos (fn * z * (turns l).2 + (turns l).1 * (t - z) * fd) m0p
 refine wvl h (mul h rfl rfl (by omega)) fun a h => ?_
 refine wmv h rfl fun a h => ?_
 refine wvl h (quo0 h rfl rfl (by omega) (by omega)) fun a h => ?_
 refine ws2 h rfl rfl rfl rfl fun a h => ?_
 refine wp_ret ?_
 try simp only [xqs]
 refine rt_2 h rfl (rvT h rfl) (rvT h rfl) ?_
 exact ⟨_, rfl, by simp only [shown, shownX, ← hz], hp.bel⟩
end Go.Proofs.Ec
