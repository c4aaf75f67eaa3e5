import Derived.Test.YtobofnkmbpfoiaaGreatDoorProg
import Derived.Test.YtobofnkmbpfoiaaGreatDoorPFa
import Derived.Test.YtobofnkmbpfoiaaGreatDoorPQb
import Derived.Test.YtobofnkmbpfoiaaGreatDoorPW10
import Derived.Test.YtobofnkmbpfoiaaGreatDoorPQa
set_option linter.unusedVariables false
set_option linter.unusedSimpArgs false
set_option maxRecDepth 4000
namespace Go.Proofs.Ec
open Go.RowKit Go.Proofs.Sx
open Ecl
theorem Teeth_T (n : Int) (w : World) : Ret Tryz.prog 113 #[.int .i64 n] w fun u w1 => u = .bool (Ecl.isTeeth n) ∧ w1 = w := by
 refine enter Tryz.func113 rfl (N := 5) rfl rfl fun a h => ?_
 refine rg ?_
 refine wsn h rfl fun a h => ?_
 refine rg ?_
 refine wmv h rfl fun a h => ?_
 refine wl (cal h rfl en60 (in_T _ _ _ _) fun u w1 ⟨e1, e2⟩ a h => ?_)
 subst e1
 subst e2
 refine wsn h rfl fun a h => ?_
 refine wp_ret ?_
 try simp only [xqs]
 refine rt_1 h rfl (rvT h rfl) ?_
 exact ⟨_, rfl, by simp only [Ecl.isTeeth, Bool.true_and, Bool.false_and, Bool.and_true, Bool.and_false, Bool.or_true, Bool.true_or, Bool.or_false, Bool.false_or, Bool.not_true, Bool.not_false], rfl⟩
abbrev pT : Int × Int → Bool := fun p => isTeeth p.1 && isTeeth p.2
theorem Train_T (s : SV) (l : List (Int × Int)) (w : World) (hR : Rd w encP 2 s.v l) : Ret Tryz.prog 57 #[s.v] w fun u w' => u = .bool (Ecl.isTrain l) ∧ Below w.heap.size w w' := by
 have hp : Hp c0 w w [] := Hp.start trivial
 refine enter Tryz.func57 rfl (N := 29) rfl rfl fun a h => ?_
 refine rg ?_
 refine wsn h rfl fun a h => ?_
 refine wp_seq ?_
 refine rg ?_
 refine wsn h rfl fun a h => ?_
 refine lp1 h [0] (fun n f w' => ∃ k : Nat, k ≤ l.length ∧ n = l.length - k ∧ f = [(3, .int .i64 k)] ∧ Hp c0 w w' ([]) ∧ (l.take k).all pT = true) (l.length) [(3, .int .i64 ((0 : Nat) : Int))] ⟨rfl, rfl, trivial⟩ ⟨0, Nat.zero_le _, rfl, rfl, hp, rfl⟩ ?_
 rintro n f a w1 ⟨k, hk, rfl, rfl, hp, hI⟩ h
 have hfit := hR.fits
 refine wp_seq ?_
 refine rg ?_
 refine wm2 h rfl rfl rfl rfl fun a h => ?_
 refine wvl h (lenR h rfl Tryz.underlying29 (hR.keep (by decide) hp cl0)) fun a h => ?_
 refine wvl h (lss h rfl rfl) fun a h => ?_
 refine wn ?_
 refine cnd1 h rfl (fun hb1 => ?_) (fun hb1 => ?_)
 ·have hlt : k < l.length := by have := of_decide_eq_true hb1; omega
  obtain ⟨y, hy⟩ : ∃ y, l[k]? = some y := ⟨_, List.getElem?_eq_getElem hlt⟩
  refine skp ?_
  refine blk ?_
  refine rg ?_
  refine wm2 h rfl rfl rfl rfl fun a h => ?_
  refine wvl h (iadR (k) h rfl rfl Tryz.underlying29 sz140 (hR.keep (by decide) hp cl0) (rfl) (hlt)) fun a h => ?_
  refine wvl h (fad h rfl fo140_0) fun a h => ?_
  refine wvl h (ldF 0 h (hR.keep (by decide) hp cl0) hy rfl ag3 rfl) fun a h => ?_
  refine wl (cal h rfl en113 (Teeth_T _ _) fun u w2 ⟨e1, e2⟩ a h => ?_)
  subst e1
  subst e2
  refine wvl h (not_ h rfl) fun a h => ?_
  refine wmv h rfl fun a h => ?_
  refine split (t := 17) h rfl (fun hb2 => ?_) (fun hb2 => ?_)
  ·have hbad : pT y = false := by rw [pT, show isTeeth y.1 = false by simpa using hb2]; rfl
   refine wl (stp_off h rfl rfl rfl rfl rfl hb2 fun a h => ?_)
   refine wl (stp_off h rfl rfl rfl rfl rfl hb2 fun a h => ?_)
   refine wl (stp_off h rfl rfl rfl rfl rfl hb2 fun a h => ?_)
   refine wl (stp_off h rfl rfl rfl rfl rfl hb2 fun a h => ?_)
   refine wl (stp_off h rfl rfl rfl rfl rfl hb2 fun a h => ?_)
   refine wl (stp_off h rfl rfl rfl rfl rfl hb2 fun a h => ?_)
   refine wl (stp_off h rfl rfl rfl rfl rfl hb2 fun a h => ?_)
   refine wvl h (pckT h rfl hb2 rfl) fun a h => ?_
   refine wn ?_
   refine cnd1 h rfl (fun _ => ?_) (fun e => nomatch e)
   refine rg ?_
   refine wsn h rfl fun a h => ?_
   refine wp_ret ?_
   try simp only [xqs]
   refine rt_1 h rfl (rvT h rfl) ?_
   exact ⟨_, rfl, by rw [isTrain, show (l.all fun p => isTeeth p.1 && isTeeth p.2) = false from all_bad hy hbad, Bool.and_false], hp.bel⟩
  have ha : isTeeth y.1 = true := by simpa using hb2
  refine wl (stp_on h rfl rfl rfl hb2 (vl h (mov h rfl) fun a h => ?_))
  refine wl (stp_on h rfl rfl rfl hb2 (vl h (mov h rfl) fun a h => ?_))
  refine wl (stp_on h rfl rfl rfl hb2 (vl h (iadR (k) h rfl rfl Tryz.underlying29 sz140 (hR.keep (by decide) hp cl0) (rfl) (hlt)) fun a h => ?_))
  refine wl (stp_on h rfl rfl rfl hb2 (vl h (fad h rfl fo140_1) fun a h => ?_))
  refine wl (stp_on h rfl rfl rfl hb2 (vl h (ldF 1 h (hR.keep (by decide) hp cl0) hy rfl ag3 rfl) fun a h => ?_))
  refine wl (stp_on h rfl rfl rfl hb2 (cal h rfl en113 (Teeth_T _ _) fun u w3 ⟨e1, e2⟩ a h => ?_))
  subst e1
  subst e2
  refine wl (stp_on h rfl rfl rfl hb2 (vl h (not_ h rfl) fun a h => ?_))
  refine wvl h (pckF h rfl hb2 rfl) fun a h => ?_
  refine wn ?_
  refine cnd1 h rfl (fun hb3 => ?_) (fun hb3 => ?_)
  ·have hbad : pT y = false := by rw [pT, ha, show isTeeth y.2 = false by simpa using hb3]; rfl
   refine rg ?_
   refine wsn h rfl fun a h => ?_
   refine wp_ret ?_
   try simp only [xqs]
   refine rt_1 h rfl (rvT h rfl) ?_
   exact ⟨_, rfl, by rw [isTrain, show (l.all fun p => isTeeth p.1 && isTeeth p.2) = false from all_bad hy hbad, Bool.and_false], hp.bel⟩
  have hok : pT y = true := by rw [pT, ha, show isTeeth y.2 = true by simpa using hb3]; rfl
  refine wp_skip ?_
  refine rg1 ?_
  refine wmv h rfl fun a h => ?_
  refine wvl h (add h rfl rfl (by omega)) fun a h => ?_
  refine wsn h rfl fun a h => ?_
  exact ⟨_, _, (by omega), ⟨k + 1, by omega, rfl, rfl, hp, all_snoc hy hI hok⟩, h.sub ⟨rfl, rfl, trivial⟩⟩
 have hend : k = l.length := by have := of_decide_eq_false hb1; omega
 subst hend
 rw [List.take_length] at hI
 refine wp_exit ?_
 try simp only [xqs, ↓reduceIte, Nat.reduceEqDiff]
 refine rg ?_
 refine wmv h rfl fun a h => ?_
 refine wvl h (lenR h rfl Tryz.underlying29 (hR.keep (by decide) hp cl0)) fun a h => ?_
 refine wl (cal h rfl en60 (in_T _ _ _ _) fun u w4 ⟨e1, e2⟩ a h => ?_)
 subst e1
 subst e2
 refine wsn h rfl fun a h => ?_
 refine wp_ret ?_
 try simp only [xqs]
 refine rt_1 h rfl (rvT h rfl) ?_
 exact ⟨_, rfl, by rw [isTrain, show (l.all fun p => isTeeth p.1 && isTeeth p.2) = true from hI, Bool.and_true], hp.bel⟩
theorem Feasts_T (s : SV) (l : List Int) (w : World) (hR : Rd w encI 1 s.v l) : Ret Tryz.prog 58 #[s.v] w fun u w' => u = .bool (rising 1 10000 l && decide (l.length ≤ 8)) ∧ Below w.heap.size w w' := by
 have hp : Hp c0 w w [] := Hp.start trivial
 refine enter Tryz.func58 rfl (N := 35) rfl rfl fun a h => ?_
 refine rg ?_
 refine wsn h rfl fun a h => ?_
 refine wp_seq ?_
 refine rg ?_
 refine wsn h rfl fun a h => ?_
 refine lp1 h [0] (fun n f w' => ∃ k : Nat, k ≤ l.length ∧ n = l.length - k ∧ f = [(3, .int .i64 k)] ∧ Hp c0 w w' ([]) ∧ rising 1 10000 (l.take k) = true) (l.length) [(3, .int .i64 ((0 : Nat) : Int))] ⟨rfl, rfl, trivial⟩ ⟨0, Nat.zero_le _, rfl, rfl, hp, rfl⟩ ?_
 rintro n f a w1 ⟨k, hk, rfl, rfl, hp, hI⟩ h
 have hfit := hR.fits
 refine wp_seq ?_
 refine rg ?_
 refine wm2 h rfl rfl rfl rfl fun a h => ?_
 refine wvl h (lenR h rfl Tryz.underlying30 (hR.keep (by decide) hp cl0)) fun a h => ?_
 refine wvl h (lss h rfl rfl) fun a h => ?_
 refine wn ?_
 refine cnd1 h rfl (fun hb1 => ?_) (fun hb1 => ?_)
 ·have hlt : k < l.length := by have := of_decide_eq_true hb1; omega
  obtain ⟨y, hy⟩ : ∃ y, l[k]? = some y := ⟨_, List.getElem?_eq_getElem hlt⟩
  refine skp ?_
  refine blk ?_
  refine rdh (n := 22) hp mixed rfl ?_
  have hp := hp.drew
  refine tkm 0 h rfl hp rfl fun a h => ?_
  refine tkm 1 h rfl hp rfl fun a h => ?_
  refine tkq 2 h rfl hp (fun W hp => iadR (k) h rfl rfl Tryz.underlying30 sz3 (hR.keep (by decide) hp cl0) (rfl) (hlt)) fun a h => ?_
  refine tkq 3 h rfl hp (fun W hp => ld0 h (hR.keep (by decide) hp cl0) hy rfl ag3 rfl) fun a h => ?_
  refine one 4 (by kernel_rfl) rfl (cal h rfl en60 (in_T _ _ _ _) fun u w2 ⟨e1, e2⟩ a h => ⟨e2 ▸ hp, ?_⟩)
  subst e1
  subst e2
  refine tkq 5 h rfl hp (fun W _ => not_ h rfl) fun a h => ?_
  refine tkm 6 h rfl hp rfl fun a h => ?_
  refine split (t := 16) h rfl (fun hb2 => ?_) (fun hb2 => ?_)
  ·have hin : inR y 1 10000 = false := by simpa using hb2
   refine tkG 7 h rfl hp rfl rfl rfl hb2 fun a h => ?_
   refine tkG 8 h rfl hp rfl rfl rfl hb2 fun a h => ?_
   refine tkG 9 h rfl hp rfl rfl rfl hb2 fun a h => ?_
   refine tk_un 10 h rfl (by kernel_rfl) (fun _ _ _ q => q) hp rfl rfl rfl rfl rfl fun a h => ?_
   refine tk_un 11 h rfl (by kernel_rfl) (fun _ _ _ q => q) hp rfl rfl rfl rfl rfl fun a h => ?_
   refine tk_un 12 h rfl (by kernel_rfl) (fun _ _ _ q => q) hp rfl rfl rfl rfl rfl fun a h => ?_
   refine tk_un 13 h rfl (by kernel_rfl) (fun _ _ _ q => q) hp rfl rfl rfl rfl rfl fun a h => ?_
   refine tk_un 14 h rfl (by kernel_rfl) (fun _ _ _ q => q) hp rfl rfl rfl rfl rfl fun a h => ?_
   refine tk_un 15 h rfl (by kernel_rfl) (fun _ _ _ q => q) hp rfl rfl rfl rfl rfl fun a h => ?_
   refine tk_un 16 h rfl (by kernel_rfl) (fun _ _ _ q => q) hp rfl rfl rfl rfl rfl fun a h => ?_
   refine tk_un 17 h rfl (by kernel_rfl) (fun _ _ _ q => q) hp rfl rfl rfl rfl rfl fun a h => ?_
   refine tk_un 18 h rfl (by kernel_rfl) (fun _ _ _ q => q) hp rfl rfl rfl rfl rfl fun a h => ?_
   refine tk_un 19 h rfl (by kernel_rfl) (fun _ _ _ q => q) hp rfl rfl rfl rfl rfl fun a h => ?_
   refine tkG 20 h rfl hp rfl rfl rfl hb2 fun a h => ?_
   refine tkq 21 h rfl hp (fun W _ => pckT h rfl hb2 rfl) fun a h => ?_
   refine dn (by kernel_rfl) ?_
   refine cnd1 h rfl (fun _ => ?_) (fun e => nomatch e)
   refine rg ?_
   refine wsn h rfl fun a h => ?_
   refine wp_ret ?_
   try simp only [xqs]
   refine rt_1 h rfl (rvT h rfl) ?_
   exact ⟨_, rfl, by rw [rise_bad1 hy hin]; rfl, hp.bel⟩
  have hin : inR y 1 10000 = true := by simpa using hb2
  refine tk_on 7 h rfl (by kernel_rfl) (fun _ _ _ q => q) hp rfl rfl rfl rfl rfl hb2 (fun W _ => mov h rfl) fun a h => ?_
  refine tk_on 8 h rfl (by kernel_rfl) (fun _ _ _ q => q) hp rfl rfl rfl rfl rfl hb2 (fun W _ => gtr h rfl rfl) fun a h => ?_
  refine tk_on 9 h rfl (by kernel_rfl) (fun _ _ _ q => q) hp rfl rfl rfl rfl rfl hb2 (fun W _ => mov h rfl) fun a h => ?_
  refine split (t := 19) h rfl (fun hb3 => ?_) (fun hb3 => ?_)
  ·have hk0 : 0 < k := by have := of_decide_eq_true hb3; omega
   obtain ⟨y1, hy1⟩ : ∃ z, l[k - 1]? = some z := ⟨_, List.getElem?_eq_getElem (by omega)⟩
   refine tk_on 10 h rfl (by kernel_rfl) (fun _ _ _ q => q) hp rfl rfl rfl rfl rfl hb3 (fun W _ => mov h rfl) fun a h => ?_
   refine tk_on 11 h rfl (by kernel_rfl) (fun _ _ _ q => q) hp rfl rfl rfl rfl rfl hb3 (fun W _ => mov h rfl) fun a h => ?_
   refine tk_on 12 h rfl (by kernel_rfl) (fun _ _ _ q => q) hp rfl rfl rfl rfl rfl hb3 (fun W hp => iadR (k) h rfl rfl Tryz.underlying30 sz3 (hR.keep (by decide) hp cl0) (rfl) (hlt)) fun a h => ?_
   refine tk_on 13 h rfl (by kernel_rfl) (fun _ _ _ q => q) hp rfl rfl rfl rfl rfl hb3 (fun W hp => ld0 h (hR.keep (by decide) hp cl0) hy rfl ag3 rfl) fun a h => ?_
   refine tk_on 14 h rfl (by kernel_rfl) (fun _ _ _ q => q) hp rfl rfl rfl rfl rfl hb3 (fun W _ => mov h rfl) fun a h => ?_
   refine tk_on 15 h rfl (by kernel_rfl) (fun _ _ _ q => q) hp rfl rfl rfl rfl rfl hb3 (fun W _ => mov h rfl) fun a h => ?_
   refine tk_on 16 h rfl (by kernel_rfl) (fun _ _ _ q => q) hp rfl rfl rfl rfl rfl hb3 (fun W _ => sub h rfl rfl (by omega)) fun a h => ?_
   refine tk_on 17 h rfl (by kernel_rfl) (fun _ _ _ q => q) hp rfl rfl rfl rfl rfl hb3 (fun W hp => iadR (k - 1) h rfl rfl Tryz.underlying30 sz3 (hR.keep (by decide) hp cl0) (by omega) (by omega)) fun a h => ?_
   refine tk_on 18 h rfl (by kernel_rfl) (fun _ _ _ q => q) hp rfl rfl rfl rfl rfl hb3 (fun W hp => ld0 h (hR.keep (by decide) hp cl0) hy1 rfl ag3 rfl) fun a h => ?_
   refine tk_on 19 h rfl (by kernel_rfl) (fun _ _ _ q => q) hp rfl rfl rfl rfl rfl hb3 (fun W _ => leq h rfl rfl) fun a h => ?_
   refine tk_on 20 h rfl (by kernel_rfl) (fun _ _ _ q => q) hp rfl rfl rfl rfl rfl hb2 (fun W _ => pckT h rfl hb3 rfl) fun a h => ?_
   refine tkq 21 h rfl hp (fun W _ => pckF h rfl hb2 rfl) fun a h => ?_
   refine dn (by kernel_rfl) ?_
   refine cnd1 h rfl (fun hb4 => ?_) (fun hb4 => ?_)
   ·have hn := of_decide_eq_true hb4
    refine rg ?_
    refine wsn h rfl fun a h => ?_
    refine wp_ret ?_
    try simp only [xqs]
    refine rt_1 h rfl (rvT h rfl) ?_
    exact ⟨_, rfl, by rw [rise_bad2 hk0 hy1 hy hn]; rfl, hp.bel⟩
   have hn := of_decide_eq_false hb4
   refine wp_skip ?_
   refine rg1 ?_
   refine wmv h rfl fun a h => ?_
   refine wvl h (add h rfl rfl (by omega)) fun a h => ?_
   refine wsn h rfl fun a h => ?_
   exact ⟨_, _, (by omega), ⟨k + 1, by omega, rfl, rfl, hp, rise_go1 hk0 hI hy1 hy hin hn⟩, h.sub ⟨rfl, rfl, trivial⟩⟩
  have hk0 : ¬ 0 < k := by have := of_decide_eq_false hb3; omega
  refine tkG 10 h rfl hp rfl rfl rfl hb3 fun a h => ?_
  refine tkG 11 h rfl hp rfl rfl rfl hb3 fun a h => ?_
  refine tkG 12 h rfl hp rfl rfl rfl hb3 fun a h => ?_
  refine tkG 13 h rfl hp rfl rfl rfl hb3 fun a h => ?_
  refine tkG 14 h rfl hp rfl rfl rfl hb3 fun a h => ?_
  refine tkG 15 h rfl hp rfl rfl rfl hb3 fun a h => ?_
  refine tkG 16 h rfl hp rfl rfl rfl hb3 fun a h => ?_
  refine tkG 17 h rfl hp rfl rfl rfl hb3 fun a h => ?_
  refine tkG 18 h rfl hp rfl rfl rfl hb3 fun a h => ?_
  refine tkG 19 h rfl hp rfl rfl rfl hb3 fun a h => ?_
  refine tk_on 20 h rfl (by kernel_rfl) (fun _ _ _ q => q) hp rfl rfl rfl rfl rfl hb2 (fun W _ => pckF h rfl hb3 rfl) fun a h => ?_
  refine tkq 21 h rfl hp (fun W _ => pckF h rfl hb2 rfl) fun a h => ?_
  refine dn (by kernel_rfl) ?_
  refine cnd1 h rfl (fun e => nomatch e) (fun _ => ?_)
  refine wp_skip ?_
  refine rg1 ?_
  refine wmv h rfl fun a h => ?_
  refine wvl h (add h rfl rfl (by omega)) fun a h => ?_
  refine wsn h rfl fun a h => ?_
  exact ⟨_, _, (by omega), ⟨k + 1, by omega, rfl, rfl, hp, rise_go0 hk0 hy hin⟩, h.sub ⟨rfl, rfl, trivial⟩⟩
 have hend : k = l.length := by have := of_decide_eq_false hb1; omega
 subst hend
 rw [List.take_length] at hI
 refine wp_exit ?_
 try simp only [xqs, ↓reduceIte, Nat.reduceEqDiff]
 refine rg ?_
 refine wmv h rfl fun a h => ?_
 refine wvl h (lenR h rfl Tryz.underlying30 (hR.keep (by decide) hp cl0)) fun a h => ?_
 refine wvl h (leq h rfl rfl) fun a h => ?_
 refine wsn h rfl fun a h => ?_
 refine wp_ret ?_
 try simp only [xqs]
 refine rt_1 h rfl (rvT h rfl) ?_
 exact ⟨_, rfl, by rw [hI, Bool.true_and]; congr 1; exact decide_eq_decide.2 (by omega), hp.bel⟩
theorem Set_T (s : SV) (l : List Int) (f : SV) (fe : List Int) (w : World) (hR : Rd w encI 1 s.v l) (hF : Rd w encI 1 f.v fe) : Ret Tryz.prog 17 #[f.v, s.v] w fun u w' => u = .bool (rising 0 ((fe.length : Int) - 1) l) ∧ Below w.heap.size w w' := by
 have hfit2 := hF.fits
 have hp : Hp c0 w w [] := Hp.start trivial
 refine enter Tryz.func17 rfl (N := 37) rfl rfl fun a h => ?_
 refine rg ?_
 refine wsn h rfl fun a h => ?_
 refine wp_seq ?_
 refine rg ?_
 refine wsn h rfl fun a h => ?_
 refine lp1 h [0, 1] (fun n f w' => ∃ k : Nat, k ≤ l.length ∧ n = l.length - k ∧ f = [(5, .int .i64 k)] ∧ Hp c0 w w' ([]) ∧ rising 0 ((fe.length : Int) - 1) (l.take k) = true) (l.length) [(5, .int .i64 ((0 : Nat) : Int))] ⟨rfl, rfl, rfl, trivial⟩ ⟨0, Nat.zero_le _, rfl, rfl, hp, rfl⟩ ?_
 rintro n f a w1 ⟨k, hk, rfl, rfl, hp, hI⟩ h
 have hfit := hR.fits
 refine wp_seq ?_
 refine rg ?_
 refine wm2 h rfl rfl rfl rfl fun a h => ?_
 refine wvl h (lenR h rfl Tryz.underlying30 (hR.keep (by decide) hp cl0)) fun a h => ?_
 refine wvl h (lss h rfl rfl) fun a h => ?_
 refine wn ?_
 refine cnd1 h rfl (fun hb1 => ?_) (fun hb1 => ?_)
 ·have hlt : k < l.length := by have := of_decide_eq_true hb1; omega
  obtain ⟨y, hy⟩ : ∃ y, l[k]? = some y := ⟨_, List.getElem?_eq_getElem hlt⟩
  refine skp ?_
  refine blk ?_
  refine rdh (n := 25) hp mixed rfl ?_
  have hp := hp.drew
  refine tkm 0 h rfl hp rfl fun a h => ?_
  refine tkm 1 h rfl hp rfl fun a h => ?_
  refine tkq 2 h rfl hp (fun W hp => iadR (k) h rfl rfl Tryz.underlying30 sz3 (hR.keep (by decide) hp cl0) (rfl) (hlt)) fun a h => ?_
  refine tkq 3 h rfl hp (fun W hp => ld0 h (hR.keep (by decide) hp cl0) hy rfl ag3 rfl) fun a h => ?_
  refine tkm 4 h rfl hp rfl fun a h => ?_
  refine tkq 5 h rfl hp (fun W hp => lenR h rfl Tryz.underlying30 (hF.keep (by decide) hp cl0)) fun a h => ?_
  refine tkq 6 h rfl hp (fun W _ => sub h rfl rfl (by omega)) fun a h => ?_
  refine one 7 (by kernel_rfl) rfl (cal h rfl en60 (in_T _ _ _ _) fun u w2 ⟨e1, e2⟩ a h => ⟨e2 ▸ hp, ?_⟩)
  subst e1
  subst e2
  refine tkq 8 h rfl hp (fun W _ => not_ h rfl) fun a h => ?_
  refine tkm 9 h rfl hp rfl fun a h => ?_
  refine split (t := 21) h rfl (fun hb2 => ?_) (fun hb2 => ?_)
  ·have hin : inR y 0 ((fe.length : Int) - 1) = false := by simpa using hb2
   refine tkG 10 h rfl hp rfl rfl rfl hb2 fun a h => ?_
   refine tkG 11 h rfl hp rfl rfl rfl hb2 fun a h => ?_
   refine tkG 12 h rfl hp rfl rfl rfl hb2 fun a h => ?_
   refine tk_un 13 h rfl (by kernel_rfl) (fun _ _ _ q => q) hp rfl rfl rfl rfl rfl fun a h => ?_
   refine tk_un 14 h rfl (by kernel_rfl) (fun _ _ _ q => q) hp rfl rfl rfl rfl rfl fun a h => ?_
   refine tk_un 15 h rfl (by kernel_rfl) (fun _ _ _ q => q) hp rfl rfl rfl rfl rfl fun a h => ?_
   refine tk_un 16 h rfl (by kernel_rfl) (fun _ _ _ q => q) hp rfl rfl rfl rfl rfl fun a h => ?_
   refine tk_un 17 h rfl (by kernel_rfl) (fun _ _ _ q => q) hp rfl rfl rfl rfl rfl fun a h => ?_
   refine tk_un 18 h rfl (by kernel_rfl) (fun _ _ _ q => q) hp rfl rfl rfl rfl rfl fun a h => ?_
   refine tk_un 19 h rfl (by kernel_rfl) (fun _ _ _ q => q) hp rfl rfl rfl rfl rfl fun a h => ?_
   refine tk_un 20 h rfl (by kernel_rfl) (fun _ _ _ q => q) hp rfl rfl rfl rfl rfl fun a h => ?_
   refine tk_un 21 h rfl (by kernel_rfl) (fun _ _ _ q => q) hp rfl rfl rfl rfl rfl fun a h => ?_
   refine tk_un 22 h rfl (by kernel_rfl) (fun _ _ _ q => q) hp rfl rfl rfl rfl rfl fun a h => ?_
   refine tkG 23 h rfl hp rfl rfl rfl hb2 fun a h => ?_
   refine tkq 24 h rfl hp (fun W _ => pckT h rfl hb2 rfl) fun a h => ?_
   refine dn (by kernel_rfl) ?_
   refine cnd1 h rfl (fun _ => ?_) (fun e => nomatch e)
   refine rg ?_
   refine wsn h rfl fun a h => ?_
   refine wp_ret ?_
   try simp only [xqs]
   refine rt_1 h rfl (rvT h rfl) ?_
   exact ⟨_, rfl, by rw [rise_bad1 hy hin], hp.bel⟩
  have hin : inR y 0 ((fe.length : Int) - 1) = true := by simpa using hb2
  refine tk_on 10 h rfl (by kernel_rfl) (fun _ _ _ q => q) hp rfl rfl rfl rfl rfl hb2 (fun W _ => mov h rfl) fun a h => ?_
  refine tk_on 11 h rfl (by kernel_rfl) (fun _ _ _ q => q) hp rfl rfl rfl rfl rfl hb2 (fun W _ => gtr h rfl rfl) fun a h => ?_
  refine tk_on 12 h rfl (by kernel_rfl) (fun _ _ _ q => q) hp rfl rfl rfl rfl rfl hb2 (fun W _ => mov h rfl) fun a h => ?_
  refine split (t := 24) h rfl (fun hb3 => ?_) (fun hb3 => ?_)
  ·have hk0 : 0 < k := by have := of_decide_eq_true hb3; omega
   obtain ⟨y1, hy1⟩ : ∃ z, l[k - 1]? = some z := ⟨_, List.getElem?_eq_getElem (by omega)⟩
   refine tk_on 13 h rfl (by kernel_rfl) (fun _ _ _ q => q) hp rfl rfl rfl rfl rfl hb3 (fun W _ => mov h rfl) fun a h => ?_
   refine tk_on 14 h rfl (by kernel_rfl) (fun _ _ _ q => q) hp rfl rfl rfl rfl rfl hb3 (fun W _ => mov h rfl) fun a h => ?_
   refine tk_on 15 h rfl (by kernel_rfl) (fun _ _ _ q => q) hp rfl rfl rfl rfl rfl hb3 (fun W hp => iadR (k) h rfl rfl Tryz.underlying30 sz3 (hR.keep (by decide) hp cl0) (rfl) (hlt)) fun a h => ?_
   refine tk_on 16 h rfl (by kernel_rfl) (fun _ _ _ q => q) hp rfl rfl rfl rfl rfl hb3 (fun W hp => ld0 h (hR.keep (by decide) hp cl0) hy rfl ag3 rfl) fun a h => ?_
   refine tk_on 17 h rfl (by kernel_rfl) (fun _ _ _ q => q) hp rfl rfl rfl rfl rfl hb3 (fun W _ => mov h rfl) fun a h => ?_
   refine tk_on 18 h rfl (by kernel_rfl) (fun _ _ _ q => q) hp rfl rfl rfl rfl rfl hb3 (fun W _ => mov h rfl) fun a h => ?_
   refine tk_on 19 h rfl (by kernel_rfl) (fun _ _ _ q => q) hp rfl rfl rfl rfl rfl hb3 (fun W _ => sub h rfl rfl (by omega)) fun a h => ?_
   refine tk_on 20 h rfl (by kernel_rfl) (fun _ _ _ q => q) hp rfl rfl rfl rfl rfl hb3 (fun W hp => iadR (k - 1) h rfl rfl Tryz.underlying30 sz3 (hR.keep (by decide) hp cl0) (by omega) (by omega)) fun a h => ?_
   refine tk_on 21 h rfl (by kernel_rfl) (fun _ _ _ q => q) hp rfl rfl rfl rfl rfl hb3 (fun W hp => ld0 h (hR.keep (by decide) hp cl0) hy1 rfl ag3 rfl) fun a h => ?_
   refine tk_on 22 h rfl (by kernel_rfl) (fun _ _ _ q => q) hp rfl rfl rfl rfl rfl hb3 (fun W _ => leq h rfl rfl) fun a h => ?_
   refine tk_on 23 h rfl (by kernel_rfl) (fun _ _ _ q => q) hp rfl rfl rfl rfl rfl hb2 (fun W _ => pckT h rfl hb3 rfl) fun a h => ?_
   refine tkq 24 h rfl hp (fun W _ => pckF h rfl hb2 rfl) fun a h => ?_
   refine dn (by kernel_rfl) ?_
   refine cnd1 h rfl (fun hb4 => ?_) (fun hb4 => ?_)
   ·have hn := of_decide_eq_true hb4
    refine rg ?_
    refine wsn h rfl fun a h => ?_
    refine wp_ret ?_
    try simp only [xqs]
    refine rt_1 h rfl (rvT h rfl) ?_
    exact ⟨_, rfl, by rw [rise_bad2 hk0 hy1 hy hn], hp.bel⟩
   have hn := of_decide_eq_false hb4
   refine wp_skip ?_
   refine rg1 ?_
   refine wmv h rfl fun a h => ?_
   refine wvl h (add h rfl rfl (by omega)) fun a h => ?_
   refine wsn h rfl fun a h => ?_
   exact ⟨_, _, (by omega), ⟨k + 1, by omega, rfl, rfl, hp, rise_go1 hk0 hI hy1 hy hin hn⟩, h.sub ⟨rfl, rfl, rfl, trivial⟩⟩
  have hk0 : ¬ 0 < k := by have := of_decide_eq_false hb3; omega
  refine tkG 13 h rfl hp rfl rfl rfl hb3 fun a h => ?_
  refine tkG 14 h rfl hp rfl rfl rfl hb3 fun a h => ?_
  refine tkG 15 h rfl hp rfl rfl rfl hb3 fun a h => ?_
  refine tkG 16 h rfl hp rfl rfl rfl hb3 fun a h => ?_
  refine tkG 17 h rfl hp rfl rfl rfl hb3 fun a h => ?_
  refine tkG 18 h rfl hp rfl rfl rfl hb3 fun a h => ?_
  refine tkG 19 h rfl hp rfl rfl rfl hb3 fun a h => ?_
  refine tkG 20 h rfl hp rfl rfl rfl hb3 fun a h => ?_
  refine tkG 21 h rfl hp rfl rfl rfl hb3 fun a h => ?_
  refine tkG 22 h rfl hp rfl rfl rfl hb3 fun a h => ?_
  refine tk_on 23 h rfl (by kernel_rfl) (fun _ _ _ q => q) hp rfl rfl rfl rfl rfl hb2 (fun W _ => pckF h rfl hb3 rfl) fun a h => ?_
  refine tkq 24 h rfl hp (fun W _ => pckF h rfl hb2 rfl) fun a h => ?_
  refine dn (by kernel_rfl) ?_
  refine cnd1 h rfl (fun e => nomatch e) (fun _ => ?_)
  refine wp_skip ?_
  refine rg1 ?_
  refine wmv h rfl fun a h => ?_
  refine wvl h (add h rfl rfl (by omega)) fun a h => ?_
  refine wsn h rfl fun a h => ?_
  exact ⟨_, _, (by omega), ⟨k + 1, by omega, rfl, rfl, hp, rise_go0 hk0 hy hin⟩, h.sub ⟨rfl, rfl, rfl, trivial⟩⟩
 have hend : k = l.length := by have := of_decide_eq_false hb1; omega
 subst hend
 rw [List.take_length] at hI
 refine wp_exit ?_
 try simp only [xqs, ↓reduceIte, Nat.reduceEqDiff]
 refine rg ?_
 refine wsn h rfl fun a h => ?_
 refine wp_ret ?_
 try simp only [xqs]
 refine rt_1 h rfl (rvT h rfl) ?_
 exact ⟨_, rfl, by rw [hI], hp.bel⟩
theorem gcd_T (x y : Int) (w : World) (hx : 0 < x ∧ x ≤ 4611686018427387904) (hy : 0 ≤ y ∧ y ≤ 4611686018427387904) : Ret Tryz.prog 198 #[.int .i64 x, .int .i64 y] w fun u w' => u = .int .i64 (Int.gcd x y : Int) ∧ Below w.heap.size w w' := by
 have hp : Hp c0 w w [] := Hp.start trivial
 refine enter Tryz.func198 rfl (N := 12) rfl rfl fun a h => ?_
 refine rg ?_
 refine wsn h rfl fun a h => ?_
 refine lp h [] (fun n f w' => ∃ p r : Int, n = r.toNat ∧ f = [(0, .int .i64 p), (1, .int .i64 r)] ∧ Hp c0 w w' [] ∧ Int.gcd p r = Int.gcd x y ∧ 0 < p ∧ p ≤ 4611686018427387904 ∧ 0 ≤ r ∧ r ≤ 4611686018427387904) (y.toNat) [(0, .int .i64 x), (1, .int .i64 y)] ⟨rfl, rfl, trivial⟩ ⟨x, y, rfl, rfl, hp, rfl, hx.1, hx.2, hy.1, hy.2⟩ ?_
 rintro n f a w1 ⟨p, r, rfl, rfl, hp, hg, h1, h2, h3, h4⟩ h
 refine wp_seq ?_
 refine rg ?_
 refine wmv h rfl fun a h => ?_
 refine wvl h (gtr h rfl rfl) fun a h => ?_
 refine wn ?_
 refine cnd1 h rfl (fun hb1 => ?_) (fun hb1 => ?_)
 ·have hr := of_decide_eq_true hb1
  have m1 := Int.emod_nonneg p (by omega : r ≠ 0)
  have m2 := Int.emod_lt_of_pos p hr
  refine skp ?_
  refine blk1 ?_
  refine rdh1 (n := 6) hp mixed rfl ?_
  have hp := hp.drew
  refine tkm 0 h rfl hp rfl fun a h => ?_
  refine tkm 1 h rfl hp rfl fun a h => ?_
  refine tkm 2 h rfl hp rfl fun a h => ?_
  refine tkq 3 h rfl hp (fun W _ => rem0 h rfl rfl (by omega) (by omega)) fun a h => ?_
  refine tka 4 h rfl hp rfl fun a h => ?_
  refine tka 5 h rfl hp rfl fun a h => ?_
  refine dn (by kernel_rfl) ?_
  try simp only [xqs, ↓reduceIte, Nat.reduceEqDiff]
  exact ⟨_, _, (by omega), ⟨r, p % r, rfl, rfl, hp, by rw [← hg]; exact gcd_step _ _ h3, by omega, by omega, by omega, by omega⟩, h.sub ⟨rfl, rfl, trivial⟩⟩
 have hr := of_decide_eq_false hb1
 obtain rfl : r = 0 := by omega
 refine wp_exit ?_
 try simp only [xqs, ↓reduceIte, Nat.reduceEqDiff]
 refine rg ?_
 refine wmv h rfl fun a h => ?_
 refine wsn h rfl fun a h => ?_
 refine wp_ret ?_
 try simp only [xqs]
 refine rt_1 h rfl (rvT h rfl) ?_
 rw [Int.gcd_zero_right] at hg
 exact ⟨_, rfl, by rw [← hg]; congr 1; omega, hp.bel⟩
theorem Reduced_T (x y : Int) (w : World) (hx : 0 < x ∧ x ≤ 4611686018427387904) (hy : 0 < y ∧ y ≤ 4611686018427387904) : Ret Tryz.prog 181 #[.agg #[.int .i64 x, .int .i64 y]] w fun u w' => u = .agg #[.int .i64 (x / (Int.gcd x y : Int)), .int .i64 (y / (Int.gcd x y : Int))] ∧ Below w.heap.size w w' := by
 have hg : 0 < (Int.gcd x y : Int) := by have := Int.gcd_pos_of_ne_zero_left y (by omega : x ≠ 0); omega
 have hp : Hp c0 w w [] := Hp.start trivial
 refine enter Tryz.func181 rfl (N := 18) rfl rfl fun a h => ?_
 refine rg ?_
 refine wl (box (cs := #[_, _]) h hp rfl rfl fun a w1 g1 hg1 h hp => ?_)
 refine wl (all h hp zc43 fun a w2 g2 hg2 h hp => ?_)
 refine wn ?_
 refine rg ?_
 refine wvl h (fad h rfl fo43_0) fun a h => ?_
 refine wvl h (ldo h hp rfl 0 rfl rfl ag3) fun a h => ?_
 refine wvl h (fad h rfl fo43_1) fun a h => ?_
 refine wvl h (ldo h hp rfl 0 rfl rfl ag3) fun a h => ?_
 refine wl (cal h rfl en198 (gcd_T _ _ _ hx (by omega)) fun u w3 ⟨e1, e2⟩ a h => ?_)
 subst e1
 have hp := hp.below e2
 refine wsn h rfl fun a h => ?_
 refine rdh (n := 10) ((hp).pick [0] (by decide) rfl) mixed rfl ?_
 have hp := hp.drew
 refine tkq 0 h rfl ((hp).pick [0] (by decide) rfl) (fun W _ => fad h rfl fo43_0) fun a h => ?_
 refine tkq 1 h rfl ((hp).pick [0] (by decide) rfl) (fun W hp => ldo h hp rfl 0 rfl rfl ag3) fun a h => ?_
 refine tkm 2 h rfl ((hp).pick [0] (by decide) rfl) rfl fun a h => ?_
 refine tkq 3 h rfl ((hp).pick [0] (by decide) rfl) (fun W _ => quo0 h rfl rfl (by omega) (by omega)) fun a h => ?_
 refine tkq 4 h rfl ((hp).pick [0] (by decide) rfl) (fun W _ => fad h rfl fo43_1) fun a h => ?_
 refine tkq 5 h rfl ((hp).pick [0] (by decide) rfl) (fun W hp => ldo h hp rfl 0 rfl rfl ag3) fun a h => ?_
 refine tkm 6 h rfl ((hp).pick [0] (by decide) rfl) rfl fun a h => ?_
 refine tkq 7 h rfl ((hp).pick [0] (by decide) rfl) (fun W _ => quo0 h rfl rfl (by omega) (by omega)) fun a h => ?_
 refine tkq 8 h rfl ((hp).pick [0] (by decide) rfl) (fun W _ => bld h rfl (bl43_0_1 _ _ _)) fun a h => ?_
 refine one 9 (by kernel_rfl) rfl (sta h hp rfl rfl 1 rfl sz43 rfl rfl fun w4 hp => ⟨((hp).pick [0] (by decide) rfl), ?_⟩)
 refine dn (by kernel_rfl) ?_
 refine wp_ret ?_
 try simp only [xqs]
 refine rt_1 h rfl (rvA h hp rfl 1 rfl ag43 sz43) ?_
 exact ⟨_, rfl, rfl, hp.ext.below⟩
theorem Turns_T (s : SV) (l : List (Int × Int)) (w : World) (hR : Rd w encP 2 s.v l) (hT : isTrain l = true) : Ret Tryz.prog 153 #[s.v] w fun u w' => u = .agg #[.int .i64 (turns l).1, .int .i64 (turns l).2] ∧ Below w.heap.size w w' := by
 have hp : Hp c0 w w [] := Hp.start trivial
 refine enter Tryz.func153 rfl (N := 31) rfl rfl fun a h => ?_
 refine rg ?_
 refine wl (all h hp zc43 fun a w1 g1 hg1 h hp => ?_)
 refine wn ?_
 refine rg ?_
 refine wvl h (bld h rfl (bl43_0_1 _ _ _)) fun a h => ?_
 refine wl (all h hp zc43 fun a w2 g2 hg2 h hp => ?_)
 refine wl (sta h hp rfl rfl 1 rfl sz43 rfl rfl fun w3 hp => ?_)
 refine wn ?_
 refine wp_seq ?_
 refine rg ?_
 refine wsn h rfl fun a h => ?_
 refine lp1 h [0, 2, 3] (fun n f w' => ∃ k : Nat, k ≤ l.length ∧ n = l.length - k ∧ f = [(4, .int .i64 k)] ∧ Hp c0 w w' ([.blk g1 (.cells #[.int .i64 0, .int .i64 0] 43 (0, 0)), .blk g2 (.cells #[.int .i64 (((l.take k).map (·.1)).foldl (· * ·) 1), .int .i64 (((l.take k).map (·.2)).foldl (· * ·) 1)] 43 (0, 0))]) ∧ True) (l.length) [(4, .int .i64 ((0 : Nat) : Int))] ⟨rfl, rfl, rfl, rfl, trivial⟩ ⟨0, Nat.zero_le _, rfl, rfl, hp, trivial⟩ ?_
 rintro n f a w4 ⟨k, hk, rfl, rfl, hp, _⟩ h
 have hfit := hR.fits
 refine wp_seq ?_
 refine rg ?_
 refine wm2 h rfl rfl rfl rfl fun a h => ?_
 refine wvl h (lenR h rfl Tryz.underlying29 (hR.keep (by decide) hp cl0)) fun a h => ?_
 refine wvl h (lss h rfl rfl) fun a h => ?_
 refine wn ?_
 refine cnd1 h rfl (fun hb1 => ?_) (fun hb1 => ?_)
 ·have hlt : k < l.length := by have := of_decide_eq_true hb1; omega
  obtain ⟨y, hy⟩ : ∃ y, l[k]? = some y := ⟨_, List.getElem?_eq_getElem hlt⟩
  have hyb := pair_bd hT (List.mem_of_getElem? hy)
  have hft := fst_take hT k
  have m1 := mul_bd (a := ((l.take k).map (·.1)).foldl (· * ·) 1) (b := y.1) (A := 216000) (B := 60) (by omega) (by omega) (by omega) (by omega)
  have m2 := mul_bd (a := ((l.take k).map (·.2)).foldl (· * ·) 1) (b := y.2) (A := 216000) (B := 60) (by omega) (by omega) (by omega) (by omega)
  refine skp ?_
  refine blk ?_
  refine rdh1 (n := 18) ((hp).pick [0] (by decide) rfl) mixed rfl ?_
  have hp := hp.drew
  refine tkq 0 h rfl ((hp).pick [0] (by decide) rfl) (fun W _ => fad h rfl fo43_0) fun a h => ?_
  refine tkm 2 h rfl ((hp).pick [0] (by decide) rfl) rfl fun a h => ?_
  refine tkm 3 h rfl ((hp).pick [0] (by decide) rfl) rfl fun a h => ?_
  refine tkq 4 h rfl ((hp).pick [0] (by decide) rfl) (fun W hp => iadR (k) h rfl rfl Tryz.underlying29 sz140 (hR.keep (by decide) hp cl0) (rfl) (hlt)) fun a h => ?_
  refine tkq 5 h rfl ((hp).pick [0] (by decide) rfl) (fun W _ => fad h rfl fo140_0) fun a h => ?_
  refine tkq 6 h rfl ((hp).pick [0] (by decide) rfl) (fun W hp => ldF 0 h (hR.keep (by decide) hp cl0) hy rfl ag3 rfl) fun a h => ?_
  refine tkq 8 h rfl ((hp).pick [0] (by decide) rfl) (fun W _ => fad h rfl fo43_1) fun a h => ?_
  refine tkm 10 h rfl ((hp).pick [0] (by decide) rfl) rfl fun a h => ?_
  refine tkm 11 h rfl ((hp).pick [0] (by decide) rfl) rfl fun a h => ?_
  refine tkq 12 h rfl ((hp).pick [0] (by decide) rfl) (fun W hp => iadR (k) h rfl rfl Tryz.underlying29 sz140 (hR.keep (by decide) hp cl0) (rfl) (hlt)) fun a h => ?_
  refine tkq 13 h rfl ((hp).pick [0] (by decide) rfl) (fun W _ => fad h rfl fo140_1) fun a h => ?_
  refine tkq 14 h rfl ((hp).pick [0] (by decide) rfl) (fun W hp => ldF 1 h (hR.keep (by decide) hp cl0) hy rfl ag3 rfl) fun a h => ?_
  refine two 1 9 (by kernel_rfl) rfl rfl ?_ ?_
  ·refine (vl h (ldo h hp rfl 1 rfl rfl ag3) fun a h => ⟨((hp).pick [0] (by decide) rfl), ?_⟩)
   refine tkq 7 h rfl ((hp).pick [0] (by decide) rfl) (fun W _ => mul h rfl rfl (by omega)) fun a h => ?_
   refine one 9 (by kernel_rfl) rfl (vl h (ldo h hp rfl 1 rfl rfl ag3) fun a h => ⟨((hp).pick [0] (by decide) rfl), ?_⟩)
   refine tkq 15 h rfl ((hp).pick [0] (by decide) rfl) (fun W _ => mul h rfl rfl (by omega)) fun a h => ?_
   refine tkq 16 h rfl ((hp).pick [0] (by decide) rfl) (fun W _ => bld h rfl (bl43_0_1 _ _ _)) fun a h => ?_
   refine one 17 (by kernel_rfl) rfl (sta h hp rfl rfl 1 rfl sz43 rfl rfl fun w5 hp => ⟨((hp).pick [0] (by decide) rfl), ?_⟩)
   refine dn (by kernel_rfl) ?_
   try simp only [xqs, ↓reduceIte, Nat.reduceEqDiff]
   refine rg1 ?_
   refine wmv h rfl fun a h => ?_
   refine wvl h (add h rfl rfl (by omega)) fun a h => ?_
   refine wsn h rfl fun a h => ?_
   exact ⟨_, _, (by omega), ⟨k + 1, by omega, rfl, rfl, (by rw [fold1_snoc hy, fold2_snoc hy]; exact hp.pre 2 rfl), trivial⟩, h.sub ⟨rfl, rfl, rfl, rfl, trivial⟩⟩
  refine (vl h (ldo h hp rfl 1 rfl rfl ag3) fun a h => ⟨((hp).pick [0] (by decide) rfl), ?_⟩)
  refine tkq 15 h rfl ((hp).pick [0] (by decide) rfl) (fun W _ => mul h rfl rfl (by omega)) fun a h => ?_
  refine one 1 (by kernel_rfl) rfl (vl h (ldo h hp rfl 1 rfl rfl ag3) fun a h => ⟨((hp).pick [0] (by decide) rfl), ?_⟩)
  refine tkq 7 h rfl ((hp).pick [0] (by decide) rfl) (fun W _ => mul h rfl rfl (by omega)) fun a h => ?_
  refine tkq 16 h rfl ((hp).pick [0] (by decide) rfl) (fun W _ => bld h rfl (bl43_0_1 _ _ _)) fun a h => ?_
  refine one 17 (by kernel_rfl) rfl (sta h hp rfl rfl 1 rfl sz43 rfl rfl fun w6 hp => ⟨((hp).pick [0] (by decide) rfl), ?_⟩)
  refine dn (by kernel_rfl) ?_
  try simp only [xqs, ↓reduceIte, Nat.reduceEqDiff]
  refine rg1 ?_
  refine wmv h rfl fun a h => ?_
  refine wvl h (add h rfl rfl (by omega)) fun a h => ?_
  refine wsn h rfl fun a h => ?_
  exact ⟨_, _, (by omega), ⟨k + 1, by omega, rfl, rfl, (by rw [fold1_snoc hy, fold2_snoc hy]; exact hp.pre 2 rfl), trivial⟩, h.sub ⟨rfl, rfl, rfl, rfl, trivial⟩⟩
 have hend : k = l.length := by have := of_decide_eq_false hb1; omega
 subst hend
 rw [List.take_length] at hp
 refine wp_exit ?_
 try simp only [xqs, ↓reduceIte, Nat.reduceEqDiff]
 refine rg ?_
 refine wvl h (ldO (us := [_, _]) h hp rfl 1 rfl sz43 rfl ag43) fun a h => ?_
 have hft := fst_take hT l.length
 rw [List.take_length] at hft
 refine wl (cal h rfl en181 (Reduced_T _ _ _ (by omega) (by omega)) fun u w7 ⟨e1, e2⟩ a h => ?_)
 subst e1
 have hp := hp.below e2
 refine wl (sta h hp rfl rfl 0 rfl sz43 rfl rfl fun w8 hp => ?_)
 refine wn ?_
 refine wp_ret ?_
 try simp only [xqs]
 refine rt_1 h rfl (rvA h hp rfl 0 rfl ag43 sz43) ?_
 exact ⟨_, rfl, by rw [turns_eq], hp.bel⟩
end Go.Proofs.Ec
