import Derived.Test.YtepjdckdhddfbaaGreatDoorProg
import Derived.Test.YtepjdckdhddfbaaGreatDoorPFa
import Derived.Test.YtepjdckdhddfbaaGreatDoorPQb
import Derived.Test.YtepjdckdhddfbaaGreatDoorPW10
import Derived.Test.YtepjdckdhddfbaaGreatDoorPQc
set_option linter.unusedVariables false
set_option linter.unusedSimpArgs false
set_option maxRecDepth 4000
namespace Go.Proofs.Ec
open Go.RowKit Go.Proofs.Sx
open Ecl
theorem words_e  (w : World) : Ret Tryz.prog 112 #[] w fun u w' => u = .agg #[.string (bs wNew), .string (bs wFull)] ∧ Below w.heap.size w w' := by
 have hp : Hp c0 w w [] := Hp.start trivial
 refine enter Tryz.func112 rfl (N := 2) rfl rfl fun a h => ?_
 refine rg ?_
 refine wl (all h hp zc156 fun a w1 g1 hg1 h hp => ?_)
 refine wn ?_
 refine rg ?_
 refine wvl h (bld h rfl (bl156_0_1 _ _ _)) fun a h => ?_
 refine wl (sta h hp rfl rfl 0 rfl sz156 rfl rfl fun w2 hp => ?_)
 refine wn ?_
 refine wp_ret ?_
 try simp only [xqs]
 refine rt_1 h rfl (rvA h hp rfl 0 rfl ag156 sz156) ?_
 exact ⟨_, rfl, rfl, hp.ext.below⟩
theorem word_e (b : Bool) (w : World) : Ret Tryz.prog 87 #[.bool b] w fun u w' => u = .string (bs (wordOf b)) ∧ Below w.heap.size w w' := by
 have hp : Hp c0 w w [] := Hp.start trivial
 refine enter Tryz.func87 rfl (N := 8) rfl rfl fun a h => ?_
 refine rg ?_
 refine wsn h rfl fun a h => ?_
 refine wp_seq ?_
 refine rg ?_
 refine wmv h rfl fun a h => ?_
 refine wn ?_
 refine cnd1 h rfl (fun hb1 => ?_) (fun hb1 => ?_)
 ·refine rg ?_
  refine wl (cal h rfl en112 (words_e _) fun u w1 ⟨e1, e2⟩ a h => ?_)
  subst e1
  have hp := hp.below e2
  refine wvl h (ixv h rfl rfl (ix156_1 _ _ _)) fun a h => ?_
  refine wsn h rfl fun a h => ?_
  refine wp_ret ?_
  try simp only [xqs]
  refine rt_1 h rfl (rvT h rfl) ?_
  exact ⟨_, rfl, by rw [hb1]; rfl, hp.bel⟩
 refine skp ?_
 refine rg ?_
 refine wl (cal h rfl en112 (words_e _) fun u w2 ⟨e1, e2⟩ a h => ?_)
 subst e1
 have hp := hp.below e2
 refine wvl h (ixv h rfl rfl (ix156_0 _ _ _)) fun a h => ?_
 refine wsn h rfl fun a h => ?_
 refine wp_ret ?_
 try simp only [xqs]
 refine rt_1 h rfl (rvT h rfl) ?_
 exact ⟨_, rfl, by rw [hb1]; rfl, hp.bel⟩
theorem isList_e (s : SV) (l : List Ecl.Mark) (w : World) (hR : Rd w encM 3 s.v l) : Ret Tryz.prog 44 #[s.v] w fun u w' => u = .bool (isList l) ∧ Below w.heap.size w w' := by
 have hp : Hp c0 w w [] := Hp.start trivial
 refine enter Tryz.func44 rfl (N := 63) rfl rfl fun a h => ?_
 refine rg ?_
 refine wsn h rfl fun a h => ?_
 refine wp_seq ?_
 refine rg ?_
 refine wmv h rfl fun a h => ?_
 refine wvl h (lenR h rfl Tryz.underlying22 (hR.keep (by decide) hp cl0)) fun a h => ?_
 refine wmv h rfl fun a h => ?_
 refine wn ?_
 refine lp1 h [0, 5, 6] (fun n f w' => ∃ k : Nat, k ≤ l.length ∧ n = l.length - k ∧ f = [(7, .int .i64 k)] ∧ Hp c0 w w' ([]) ∧ marksTo l k = true) (l.length) [(7, .int .i64 ((0 : Nat) : Int))] ⟨rfl, rfl, rfl, rfl, trivial⟩ ⟨0, Nat.zero_le _, rfl, rfl, hp, rfl⟩ ?_
 rintro n f a w1 ⟨k, hk, rfl, rfl, hp, hI⟩ h
 have hfit := hR.fits
 refine rg ?_
 refine wvl h (lss h rfl rfl) fun a h => ?_
 refine wn ?_
 refine cnd h rfl (fun hb1 => ?_) (fun hb1 => ?_)
 ·have hlt : k < l.length := by have := of_decide_eq_true hb1; omega
  obtain ⟨y, hy⟩ : ∃ y, l[k]? = some y := ⟨_, List.getElem?_eq_getElem hlt⟩
  refine skp ?_
  refine blk ?_
  refine rg ?_
  refine wmv h rfl fun a h => ?_
  refine wvl h (iadR (k) h rfl rfl Tryz.underlying22 sz87 (hR.keep (by decide) hp cl0) (rfl) (hlt)) fun a h => ?_
  refine wvl h (ldE h (hR.keep (by decide) hp cl0) hy rfl ag87 sz87) fun a h => ?_
  refine wl (all h hp zc87 fun a w2 g1 hg1 h hp => ?_)
  refine wsg h rfl fun a h => ?_
  refine wl (sta h hp rfl rfl 0 rfl sz87 rfl rfl fun w3 hp => ?_)
  refine wn ?_
  refine wp_seq ?_
  refine rg ?_
  refine wvl h (fad h rfl fo87_0) fun a h => ?_
  refine wvl h (ldo h hp rfl 0 rfl rfl ag3) fun a h => ?_
  refine wl (cal h rfl en61 (in_e _ _ _ _) fun u w4 ⟨e1, e2⟩ a h => ?_)
  subst e1
  subst e2
  refine wvl h (not_ h rfl) fun a h => ?_
  refine wmv h rfl fun a h => ?_
  refine split (t := 16) h rfl (fun hb2 => ?_) (fun hb2 => ?_)
  ·have hod : inR y.day 1 20000 = false := by simpa using hb2
   have okm : okMark y = false := by rw [okMark, hod]; rfl
   refine wl (stp_off h rfl rfl rfl rfl rfl hb2 fun a h => ?_)
   refine wl (stp_off h rfl rfl rfl rfl rfl hb2 fun a h => ?_)
   refine wl (stp_off h rfl rfl rfl rfl rfl hb2 fun a h => ?_)
   refine wl (stp_off h rfl rfl rfl rfl rfl hb2 fun a h => ?_)
   refine wvl h (pckT h rfl hb2 rfl) fun a h => ?_
   refine wn ?_
   refine cnd1 h rfl (fun _ => ?_) (fun e => nomatch e)
   refine rg ?_
   refine wsn h rfl fun a h => ?_
   refine wp_ret ?_
   try simp only [xqs]
   refine rt_1 h rfl (rvT h rfl) ?_
   exact ⟨_, rfl, by rw [isList, marks_bad hlt (by rw [okAt_eq hy, okm, Bool.false_and])]; rfl, hp.bel⟩
  have hod : inR y.day 1 20000 = true := by simpa using hb2
  refine wl (stp_on h rfl rfl rfl hb2 (vl h (fad h rfl fo87_2) fun a h => ?_))
  refine wl (stp_on h rfl rfl rfl hb2 (vl h (ldo h hp rfl 0 rfl rfl ag3) fun a h => ?_))
  refine wl (stp_on h rfl rfl rfl hb2 (cal h rfl en78 (isLimit_e _ _) fun u w5 ⟨e1, e2⟩ a h => ?_))
  subst e1
  subst e2
  refine wl (stp_on h rfl rfl rfl hb2 (vl h (not_ h rfl) fun a h => ?_))
  refine wvl h (pckF h rfl hb2 rfl) fun a h => ?_
  refine wn ?_
  refine cnd1 h rfl (fun hb3 => ?_) (fun hb3 => ?_)
  ·have okm : okMark y = false := by rw [okMark, hod, show isLimit y.far = false by simpa using hb3]; rfl
   refine rg ?_
   refine wsn h rfl fun a h => ?_
   refine wp_ret ?_
   try simp only [xqs]
   refine rt_1 h rfl (rvT h rfl) ?_
   exact ⟨_, rfl, by rw [isList, marks_bad hlt (by rw [okAt_eq hy, okm, Bool.false_and])]; rfl, hp.bel⟩
  have okm : okMark y = true := by rw [okMark, hod, show isLimit y.far = true by simpa using hb3]; rfl
  refine skp ?_
  refine rdh (n := 37) hp mixed rfl ?_
  have hp := hp.drew
  refine tkm 0 h rfl hp rfl fun a h => ?_
  refine tkq 1 h rfl hp (fun W _ => gtr h rfl rfl) fun a h => ?_
  refine tkm 2 h rfl hp rfl fun a h => ?_
  refine split (t := 24) h rfl (fun hb4 => ?_) (fun hb4 => ?_)
  ·have hk0 := of_decide_eq_true hb4
   have hk1 : decide (0 < k) = true := decide_eq_true (by omega)
   obtain ⟨y1, hy1⟩ : ∃ z, l[k - 1]? = some z := ⟨_, List.getElem?_eq_getElem (by omega)⟩
   refine tk_on 3 h rfl (by kernel_rfl) (fun _ _ _ q => q) hp rfl rfl rfl rfl rfl hb4 (fun W _ => fad h rfl fo87_0) fun a h => ?_
   refine tk_on 4 h rfl (by kernel_rfl) (fun _ _ _ q => q) hp rfl rfl rfl rfl rfl hb4 (fun W hp => ldo h hp rfl 0 rfl rfl ag3) fun a h => ?_
   refine tk_on 5 h rfl (by kernel_rfl) (fun _ _ _ q => q) hp rfl rfl rfl rfl rfl hb4 (fun W _ => mov h rfl) fun a h => ?_
   refine tk_on 6 h rfl (by kernel_rfl) (fun _ _ _ q => q) hp rfl rfl rfl rfl rfl hb4 (fun W _ => mov h rfl) fun a h => ?_
   refine tk_on 7 h rfl (by kernel_rfl) (fun _ _ _ q => q) hp rfl rfl rfl rfl rfl hb4 (fun W _ => sub h rfl rfl (by omega)) fun a h => ?_
   refine tk_on 8 h rfl (by kernel_rfl) (fun _ _ _ q => q) hp rfl rfl rfl rfl rfl hb4 (fun W hp => iadR (k - 1) h rfl rfl Tryz.underlying22 sz87 (hR.keep (by decide) hp cl0) (by omega) (by omega)) fun a h => ?_
   refine tk_on 9 h rfl (by kernel_rfl) (fun _ _ _ q => q) hp rfl rfl rfl rfl rfl hb4 (fun W _ => fad h rfl fo87_0) fun a h => ?_
   refine tk_on 10 h rfl (by kernel_rfl) (fun _ _ _ q => q) hp rfl rfl rfl rfl rfl hb4 (fun W hp => ldF 0 h (hR.keep (by decide) hp cl0) hy1 rfl ag3 rfl) fun a h => ?_
   refine tk_on 11 h rfl (by kernel_rfl) (fun _ _ _ q => q) hp rfl rfl rfl rfl rfl hb4 (fun W _ => lss h rfl rfl) fun a h => ?_
   refine tk_on 12 h rfl (by kernel_rfl) (fun _ _ _ q => q) hp rfl rfl rfl rfl rfl hb4 (fun W _ => mov h rfl) fun a h => ?_
   refine split (t := 34) h rfl (fun hb5 => ?_) (fun hb5 => ?_)
   ·refine tkG 13 h rfl hp rfl rfl rfl hb5 fun a h => ?_
    refine tkG 14 h rfl hp rfl rfl rfl hb5 fun a h => ?_
    refine tkG 15 h rfl hp rfl rfl rfl hb5 fun a h => ?_
    refine tkG 16 h rfl hp rfl rfl rfl hb5 fun a h => ?_
    refine tkG 17 h rfl hp rfl rfl rfl hb5 fun a h => ?_
    refine tkG 18 h rfl hp rfl rfl rfl hb5 fun a h => ?_
    refine tkG 19 h rfl hp rfl rfl rfl hb5 fun a h => ?_
    refine tkG 20 h rfl hp rfl rfl rfl hb5 fun a h => ?_
    refine tkG 21 h rfl hp rfl rfl rfl hb5 fun a h => ?_
    refine tkG 22 h rfl hp rfl rfl rfl hb5 fun a h => ?_
    refine tk_un 23 h rfl (by kernel_rfl) (fun _ _ _ q => q) hp rfl rfl rfl rfl rfl fun a h => ?_
    refine tk_un 24 h rfl (by kernel_rfl) (fun _ _ _ q => q) hp rfl rfl rfl rfl rfl fun a h => ?_
    refine tk_un 25 h rfl (by kernel_rfl) (fun _ _ _ q => q) hp rfl rfl rfl rfl rfl fun a h => ?_
    refine tk_un 26 h rfl (by kernel_rfl) (fun _ _ _ q => q) hp rfl rfl rfl rfl rfl fun a h => ?_
    refine tk_un 27 h rfl (by kernel_rfl) (fun _ _ _ q => q) hp rfl rfl rfl rfl rfl fun a h => ?_
    refine tk_un 28 h rfl (by kernel_rfl) (fun _ _ _ q => q) hp rfl rfl rfl rfl rfl fun a h => ?_
    refine tk_un 29 h rfl (by kernel_rfl) (fun _ _ _ q => q) hp rfl rfl rfl rfl rfl fun a h => ?_
    refine tk_un 30 h rfl (by kernel_rfl) (fun _ _ _ q => q) hp rfl rfl rfl rfl rfl fun a h => ?_
    refine tk_un 31 h rfl (by kernel_rfl) (fun _ _ _ q => q) hp rfl rfl rfl rfl rfl fun a h => ?_
    refine tk_un 32 h rfl (by kernel_rfl) (fun _ _ _ q => q) hp rfl rfl rfl rfl rfl fun a h => ?_
    refine tk_un 33 h rfl (by kernel_rfl) (fun _ _ _ q => q) hp rfl rfl rfl rfl rfl fun a h => ?_
    refine tkG 34 h rfl hp rfl rfl rfl hb5 fun a h => ?_
    refine tk_on 35 h rfl (by kernel_rfl) (fun _ _ _ q => q) hp rfl rfl rfl rfl rfl hb4 (fun W _ => pckT h rfl hb5 rfl) fun a h => ?_
    refine tkq 36 h rfl hp (fun W _ => pckT h rfl hb4 rfl) fun a h => ?_
    refine dn (by kernel_rfl) ?_
    refine cnd1 h rfl (fun _ => ?_) (fun e => nomatch e)
    refine rg ?_
    refine wsn h rfl fun a h => ?_
    refine wp_ret ?_
    try simp only [xqs]
    refine rt_1 h rfl (rvT h rfl) ?_
    exact ⟨_, rfl, by rw [isList, marks_bad hlt (by rw [okAt_eq hy, getD_at hy1, badPair]; simp only [okm, hk1, hb1, hb2, hb3, hb4, hb5, Bool.true_and, Bool.false_and, Bool.and_true, Bool.and_false, Bool.or_true, Bool.true_or, Bool.or_false, Bool.false_or, Bool.not_true, Bool.not_false])]; rfl, hp.bel⟩
   refine tk_on 13 h rfl (by kernel_rfl) (fun _ _ _ q => q) hp rfl rfl rfl rfl rfl hb5 (fun W _ => fad h rfl fo87_0) fun a h => ?_
   refine tk_on 14 h rfl (by kernel_rfl) (fun _ _ _ q => q) hp rfl rfl rfl rfl rfl hb5 (fun W hp => ldo h hp rfl 0 rfl rfl ag3) fun a h => ?_
   refine tk_on 15 h rfl (by kernel_rfl) (fun _ _ _ q => q) hp rfl rfl rfl rfl rfl hb5 (fun W _ => mov h rfl) fun a h => ?_
   refine tk_on 16 h rfl (by kernel_rfl) (fun _ _ _ q => q) hp rfl rfl rfl rfl rfl hb5 (fun W _ => mov h rfl) fun a h => ?_
   refine tk_on 17 h rfl (by kernel_rfl) (fun _ _ _ q => q) hp rfl rfl rfl rfl rfl hb5 (fun W _ => sub h rfl rfl (by omega)) fun a h => ?_
   refine tk_on 18 h rfl (by kernel_rfl) (fun _ _ _ q => q) hp rfl rfl rfl rfl rfl hb5 (fun W hp => iadR (k - 1) h rfl rfl Tryz.underlying22 sz87 (hR.keep (by decide) hp cl0) (by omega) (by omega)) fun a h => ?_
   refine tk_on 19 h rfl (by kernel_rfl) (fun _ _ _ q => q) hp rfl rfl rfl rfl rfl hb5 (fun W _ => fad h rfl fo87_0) fun a h => ?_
   refine tk_on 20 h rfl (by kernel_rfl) (fun _ _ _ q => q) hp rfl rfl rfl rfl rfl hb5 (fun W hp => ldF 0 h (hR.keep (by decide) hp cl0) hy1 rfl ag3 rfl) fun a h => ?_
   refine tk_on 21 h rfl (by kernel_rfl) (fun _ _ _ q => q) hp rfl rfl rfl rfl rfl hb5 (fun W _ => eqi h rfl rfl) fun a h => ?_
   refine tk_on 22 h rfl (by kernel_rfl) (fun _ _ _ q => q) hp rfl rfl rfl rfl rfl hb5 (fun W _ => mov h rfl) fun a h => ?_
   refine split (t := 44) h rfl (fun hb6 => ?_) (fun hb6 => ?_)
   ·refine tk_on 23 h rfl (by kernel_rfl) (fun _ _ _ q => q) hp rfl rfl rfl rfl rfl hb6 (fun W _ => mov h rfl) fun a h => ?_
    refine tk_on 24 h rfl (by kernel_rfl) (fun _ _ _ q => q) hp rfl rfl rfl rfl rfl hb6 (fun W _ => mov h rfl) fun a h => ?_
    refine tk_on 25 h rfl (by kernel_rfl) (fun _ _ _ q => q) hp rfl rfl rfl rfl rfl hb6 (fun W _ => sub h rfl rfl (by omega)) fun a h => ?_
    refine tk_on 26 h rfl (by kernel_rfl) (fun _ _ _ q => q) hp rfl rfl rfl rfl rfl hb6 (fun W hp => iadR (k - 1) h rfl rfl Tryz.underlying22 sz87 (hR.keep (by decide) hp cl0) (by omega) (by omega)) fun a h => ?_
    refine tk_on 27 h rfl (by kernel_rfl) (fun _ _ _ q => q) hp rfl rfl rfl rfl rfl hb6 (fun W _ => fad h rfl fo87_1) fun a h => ?_
    refine tk_on 28 h rfl (by kernel_rfl) (fun _ _ _ q => q) hp rfl rfl rfl rfl rfl hb6 (fun W hp => ldF 1 h (hR.keep (by decide) hp cl0) hy1 rfl ag4 rfl) fun a h => ?_
    refine tk_on 29 h rfl (by kernel_rfl) (fun _ _ _ q => q) hp rfl rfl rfl rfl rfl hb6 (fun W _ => mov h rfl) fun a h => ?_
    refine split (t := 51) h rfl (fun hb7 => ?_) (fun hb7 => ?_)
    ·refine tkG 30 h rfl hp rfl rfl rfl hb7 fun a h => ?_
     refine tkG 31 h rfl hp rfl rfl rfl hb7 fun a h => ?_
     refine tkG 32 h rfl hp rfl rfl rfl hb7 fun a h => ?_
     refine tk_on 33 h rfl (by kernel_rfl) (fun _ _ _ q => q) hp rfl rfl rfl rfl rfl hb6 (fun W _ => pckT h rfl hb7 rfl) fun a h => ?_
     refine tk_on 34 h rfl (by kernel_rfl) (fun _ _ _ q => q) hp rfl rfl rfl rfl rfl hb5 (fun W _ => pckT h rfl hb6 rfl) fun a h => ?_
     refine tk_on 35 h rfl (by kernel_rfl) (fun _ _ _ q => q) hp rfl rfl rfl rfl rfl hb4 (fun W _ => pckF h rfl hb5 rfl) fun a h => ?_
     refine tkq 36 h rfl hp (fun W _ => pckT h rfl hb4 rfl) fun a h => ?_
     refine dn (by kernel_rfl) ?_
     refine cnd1 h rfl (fun _ => ?_) (fun e => nomatch e)
     refine rg ?_
     refine wsn h rfl fun a h => ?_
     refine wp_ret ?_
     try simp only [xqs]
     refine rt_1 h rfl (rvT h rfl) ?_
     exact ⟨_, rfl, by rw [isList, marks_bad hlt (by rw [okAt_eq hy, getD_at hy1, badPair]; simp only [okm, hk1, hb1, hb2, hb3, hb4, hb5, hb6, hb7, Bool.true_and, Bool.false_and, Bool.and_true, Bool.and_false, Bool.or_true, Bool.true_or, Bool.or_false, Bool.false_or, Bool.not_true, Bool.not_false])]; rfl, hp.bel⟩
    refine tk_on 30 h rfl (by kernel_rfl) (fun _ _ _ q => q) hp rfl rfl rfl rfl rfl hb7 (fun W _ => fad h rfl fo87_1) fun a h => ?_
    refine tk_on 31 h rfl (by kernel_rfl) (fun _ _ _ q => q) hp rfl rfl rfl rfl rfl hb7 (fun W hp => ldo h hp rfl 0 rfl rfl ag4) fun a h => ?_
    refine tk_on 32 h rfl (by kernel_rfl) (fun _ _ _ q => q) hp rfl rfl rfl rfl rfl hb7 (fun W _ => not_ h rfl) fun a h => ?_
    refine tk_on 33 h rfl (by kernel_rfl) (fun _ _ _ q => q) hp rfl rfl rfl rfl rfl hb6 (fun W _ => pckF h rfl hb7 rfl) fun a h => ?_
    refine tk_on 34 h rfl (by kernel_rfl) (fun _ _ _ q => q) hp rfl rfl rfl rfl rfl hb5 (fun W _ => pckT h rfl hb6 rfl) fun a h => ?_
    refine tk_on 35 h rfl (by kernel_rfl) (fun _ _ _ q => q) hp rfl rfl rfl rfl rfl hb4 (fun W _ => pckF h rfl hb5 rfl) fun a h => ?_
    refine tkq 36 h rfl hp (fun W _ => pckT h rfl hb4 rfl) fun a h => ?_
    refine dn (by kernel_rfl) ?_
    refine cnd1 h rfl (fun hb8 => ?_) (fun hb8 => ?_)
    ·refine rg ?_
     refine wsn h rfl fun a h => ?_
     refine wp_ret ?_
     try simp only [xqs]
     refine rt_1 h rfl (rvT h rfl) ?_
     exact ⟨_, rfl, by rw [isList, marks_bad hlt (by rw [okAt_eq hy, getD_at hy1, badPair]; simp only [okm, hk1, hb1, hb2, hb3, hb4, hb5, hb6, hb7, hb8, Bool.true_and, Bool.false_and, Bool.and_true, Bool.and_false, Bool.or_true, Bool.true_or, Bool.or_false, Bool.false_or, Bool.not_true, Bool.not_false])]; rfl, hp.bel⟩
    refine wp_skip ?_
    refine rg1 ?_
    refine wvl h (add h rfl rfl (by omega)) fun a h => ?_
    refine wmv h rfl fun a h => ?_
    refine wn ?_
    exact ⟨_, _, (by omega), ⟨k + 1, by omega, rfl, rfl, hp.pre 0 rfl, by rw [marks_succ, hI, okAt_eq hy, getD_at hy1, badPair]; simp only [okm, hk1, hb1, hb2, hb3, hb4, hb5, hb6, hb7, hb8, Bool.true_and, Bool.false_and, Bool.and_true, Bool.and_false, Bool.or_true, Bool.true_or, Bool.or_false, Bool.false_or, Bool.not_true, Bool.not_false]⟩, h.sub ⟨rfl, rfl, rfl, rfl, trivial⟩⟩
   refine tkG 23 h rfl hp rfl rfl rfl hb6 fun a h => ?_
   refine tkG 24 h rfl hp rfl rfl rfl hb6 fun a h => ?_
   refine tkG 25 h rfl hp rfl rfl rfl hb6 fun a h => ?_
   refine tkG 26 h rfl hp rfl rfl rfl hb6 fun a h => ?_
   refine tkG 27 h rfl hp rfl rfl rfl hb6 fun a h => ?_
   refine tkG 28 h rfl hp rfl rfl rfl hb6 fun a h => ?_
   refine tkG 29 h rfl hp rfl rfl rfl hb6 fun a h => ?_
   refine tk_un 30 h rfl (by kernel_rfl) (fun _ _ _ q => q) hp rfl rfl rfl rfl rfl fun a h => ?_
   refine tk_un 31 h rfl (by kernel_rfl) (fun _ _ _ q => q) hp rfl rfl rfl rfl rfl fun a h => ?_
   refine tk_un 32 h rfl (by kernel_rfl) (fun _ _ _ q => q) hp rfl rfl rfl rfl rfl fun a h => ?_
   refine tkG 33 h rfl hp rfl rfl rfl hb6 fun a h => ?_
   refine tk_on 34 h rfl (by kernel_rfl) (fun _ _ _ q => q) hp rfl rfl rfl rfl rfl hb5 (fun W _ => pckF h rfl hb6 rfl) fun a h => ?_
   refine tk_on 35 h rfl (by kernel_rfl) (fun _ _ _ q => q) hp rfl rfl rfl rfl rfl hb4 (fun W _ => pckF h rfl hb5 rfl) fun a h => ?_
   refine tkq 36 h rfl hp (fun W _ => pckT h rfl hb4 rfl) fun a h => ?_
   refine dn (by kernel_rfl) ?_
   refine cnd1 h rfl (fun e => nomatch e) (fun _ => ?_)
   refine wp_skip ?_
   refine rg1 ?_
   refine wvl h (add h rfl rfl (by omega)) fun a h => ?_
   refine wmv h rfl fun a h => ?_
   refine wn ?_
   exact ⟨_, _, (by omega), ⟨k + 1, by omega, rfl, rfl, hp.pre 0 rfl, by rw [marks_succ, hI, okAt_eq hy, getD_at hy1, badPair]; simp only [okm, hk1, hb1, hb2, hb3, hb4, hb5, hb6, Bool.true_and, Bool.false_and, Bool.and_true, Bool.and_false, Bool.or_true, Bool.true_or, Bool.or_false, Bool.false_or, Bool.not_true, Bool.not_false]⟩, h.sub ⟨rfl, rfl, rfl, rfl, trivial⟩⟩
  have hk0 := of_decide_eq_false hb4
  have hk1 : decide (0 < k) = false := decide_eq_false (by omega)
  refine tkG 3 h rfl hp rfl rfl rfl hb4 fun a h => ?_
  refine tkG 4 h rfl hp rfl rfl rfl hb4 fun a h => ?_
  refine tkG 5 h rfl hp rfl rfl rfl hb4 fun a h => ?_
  refine tkG 6 h rfl hp rfl rfl rfl hb4 fun a h => ?_
  refine tkG 7 h rfl hp rfl rfl rfl hb4 fun a h => ?_
  refine tkG 8 h rfl hp rfl rfl rfl hb4 fun a h => ?_
  refine tkG 9 h rfl hp rfl rfl rfl hb4 fun a h => ?_
  refine tkG 10 h rfl hp rfl rfl rfl hb4 fun a h => ?_
  refine tkG 11 h rfl hp rfl rfl rfl hb4 fun a h => ?_
  refine tkG 12 h rfl hp rfl rfl rfl hb4 fun a h => ?_
  refine tk_un 13 h rfl (by kernel_rfl) (fun _ _ _ q => q) hp rfl rfl rfl rfl rfl fun a h => ?_
  refine tk_un 14 h rfl (by kernel_rfl) (fun _ _ _ q => q) hp rfl rfl rfl rfl rfl fun a h => ?_
  refine tk_un 15 h rfl (by kernel_rfl) (fun _ _ _ q => q) hp rfl rfl rfl rfl rfl fun a h => ?_
  refine tk_un 16 h rfl (by kernel_rfl) (fun _ _ _ q => q) hp rfl rfl rfl rfl rfl fun a h => ?_
  refine tk_un 17 h rfl (by kernel_rfl) (fun _ _ _ q => q) hp rfl rfl rfl rfl rfl fun a h => ?_
  refine tk_un 18 h rfl (by kernel_rfl) (fun _ _ _ q => q) hp rfl rfl rfl rfl rfl fun a h => ?_
  refine tk_un 19 h rfl (by kernel_rfl) (fun _ _ _ q => q) hp rfl rfl rfl rfl rfl fun a h => ?_
  refine tk_un 20 h rfl (by kernel_rfl) (fun _ _ _ q => q) hp rfl rfl rfl rfl rfl fun a h => ?_
  refine tk_un 21 h rfl (by kernel_rfl) (fun _ _ _ q => q) hp rfl rfl rfl rfl rfl fun a h => ?_
  refine tk_un 22 h rfl (by kernel_rfl) (fun _ _ _ q => q) hp rfl rfl rfl rfl rfl fun a h => ?_
  refine tk_un 23 h rfl (by kernel_rfl) (fun _ _ _ q => q) hp rfl rfl rfl rfl rfl fun a h => ?_
  refine tk_un 24 h rfl (by kernel_rfl) (fun _ _ _ q => q) hp rfl rfl rfl rfl rfl fun a h => ?_
  refine tk_un 25 h rfl (by kernel_rfl) (fun _ _ _ q => q) hp rfl rfl rfl rfl rfl fun a h => ?_
  refine tk_un 26 h rfl (by kernel_rfl) (fun _ _ _ q => q) hp rfl rfl rfl rfl rfl fun a h => ?_
  refine tk_un 27 h rfl (by kernel_rfl) (fun _ _ _ q => q) hp rfl rfl rfl rfl rfl fun a h => ?_
  refine tk_un 28 h rfl (by kernel_rfl) (fun _ _ _ q => q) hp rfl rfl rfl rfl rfl fun a h => ?_
  refine tk_un 29 h rfl (by kernel_rfl) (fun _ _ _ q => q) hp rfl rfl rfl rfl rfl fun a h => ?_
  refine tk_un 30 h rfl (by kernel_rfl) (fun _ _ _ q => q) hp rfl rfl rfl rfl rfl fun a h => ?_
  refine tk_un 31 h rfl (by kernel_rfl) (fun _ _ _ q => q) hp rfl rfl rfl rfl rfl fun a h => ?_
  refine tk_un 32 h rfl (by kernel_rfl) (fun _ _ _ q => q) hp rfl rfl rfl rfl rfl fun a h => ?_
  refine tk_un 33 h rfl (by kernel_rfl) (fun _ _ _ q => q) hp rfl rfl rfl rfl rfl fun a h => ?_
  refine tk_un 34 h rfl (by kernel_rfl) (fun _ _ _ q => q) hp rfl rfl rfl rfl rfl fun a h => ?_
  refine tkG 35 h rfl hp rfl rfl rfl hb4 fun a h => ?_
  refine tkq 36 h rfl hp (fun W _ => pckF h rfl hb4 rfl) fun a h => ?_
  refine dn (by kernel_rfl) ?_
  refine cnd1 h rfl (fun e => nomatch e) (fun _ => ?_)
  refine wp_skip ?_
  refine rg1 ?_
  refine wvl h (add h rfl rfl (by omega)) fun a h => ?_
  refine wmv h rfl fun a h => ?_
  refine wn ?_
  exact ⟨_, _, (by omega), ⟨k + 1, by omega, rfl, rfl, hp.pre 0 rfl, by rw [marks_succ, hI, okAt_eq hy]; simp only [okm, hk1, hb1, hb2, hb3, hb4, Bool.true_and, Bool.false_and, Bool.and_true, Bool.and_false, Bool.or_true, Bool.true_or, Bool.or_false, Bool.false_or, Bool.not_true, Bool.not_false]⟩, h.sub ⟨rfl, rfl, rfl, rfl, trivial⟩⟩
 have hend : k = l.length := by have := of_decide_eq_false hb1; omega
 subst hend
 refine wp_exit ?_
 try simp only [xqs, ↓reduceIte, Nat.reduceEqDiff]
 refine rg ?_
 refine wmv h rfl fun a h => ?_
 refine wvl h (lenR h rfl Tryz.underlying22 (hR.keep (by decide) hp cl0)) fun a h => ?_
 refine wvl h (leq h rfl rfl) fun a h => ?_
 refine wsn h rfl fun a h => ?_
 refine wp_ret ?_
 try simp only [xqs]
 refine rt_1 h rfl (rvT h rfl) ?_
 exact ⟨_, rfl, by rw [isList, hI, Bool.true_and]; congr 1; exact decide_eq_decide.2 (by omega), hp.bel⟩
end Go.Proofs.Ec
