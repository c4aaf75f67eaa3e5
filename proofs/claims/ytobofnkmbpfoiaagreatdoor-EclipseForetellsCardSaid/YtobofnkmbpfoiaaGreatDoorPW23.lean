import Derived.Test.YtobofnkmbpfoiaaGreatDoorProg
import Derived.Test.YtobofnkmbpfoiaaGreatDoorPFa
import Derived.Test.YtobofnkmbpfoiaaGreatDoorPQb
import Derived.Test.YtobofnkmbpfoiaaGreatDoorPW10
import Derived.Test.YtobofnkmbpfoiaaGreatDoorPQc
set_option linter.unusedVariables false
set_option linter.unusedSimpArgs false
set_option maxRecDepth 4000
namespace Go.Proofs.Ec
open Go.RowKit Go.Proofs.Sx
open Ecl
theorem Spot_S (n : Int) (w : World) : Ret Tryz.prog 79 #[.int .i64 n] w fun u w1 => u = .bool (isPlace n) ∧ w1 = w := by
 refine enter Tryz.func79 rfl (N := 5) rfl rfl fun a h => ?_
 refine rg ?_
 refine wsn h rfl fun a h => ?_
 refine rg ?_
 refine wmv h rfl fun a h => ?_
 refine wl (cal h rfl en107 (in_S _ _ _ _) fun u w1 ⟨e1, e2⟩ a h => ?_)
 subst e1
 subst e2
 refine wsn h rfl fun a h => ?_
 refine wp_ret ?_
 try simp only [xqs]
 refine rt_1 h rfl (rvT h rfl) ?_
 exact ⟨_, rfl, by simp only [isPlace, Bool.true_and, Bool.false_and, Bool.and_true, Bool.and_false, Bool.or_true, Bool.true_or, Bool.or_false, Bool.false_or, Bool.not_true, Bool.not_false], rfl⟩
theorem Limit_S (n : Int) (w : World) : Ret Tryz.prog 50 #[.int .i64 n] w fun u w1 => u = .bool (isLimit n) ∧ w1 = w := by
 refine enter Tryz.func50 rfl (N := 5) rfl rfl fun a h => ?_
 refine rg ?_
 refine wsn h rfl fun a h => ?_
 refine rg ?_
 refine wmv h rfl fun a h => ?_
 refine wl (cal h rfl en107 (in_S _ _ _ _) fun u w1 ⟨e1, e2⟩ a h => ?_)
 subst e1
 subst e2
 refine wsn h rfl fun a h => ?_
 refine wp_ret ?_
 try simp only [xqs]
 refine rt_1 h rfl (rvT h rfl) ?_
 exact ⟨_, rfl, by simp only [isLimit, Bool.true_and, Bool.false_and, Bool.and_true, Bool.and_false, Bool.or_true, Bool.true_or, Bool.or_false, Bool.false_or, Bool.not_true, Bool.not_false], rfl⟩
theorem period_S (a9 b9 : Int) (w : World) : Ret Tryz.prog 112 #[.agg #[.int .i64 a9, .int .i64 b9]] w fun u w' => u = .bool (isPeriod a9 b9) ∧ Below w.heap.size w w' := by
 have hp : Hp c0 w w [] := Hp.start trivial
 refine enter Tryz.func112 rfl (N := 19) rfl rfl fun a h => ?_
 refine rg ?_
 refine wl (box (cs := #[_, _]) h hp rfl rfl fun a w1 g1 hg1 h hp => ?_)
 refine wsn h rfl fun a h => ?_
 refine rg ?_
 refine wvl h (fad h rfl fo24_0) fun a h => ?_
 refine wvl h (ldo h hp rfl 0 rfl rfl ag3) fun a h => ?_
 refine wl (cal h rfl en107 (in_S _ _ _ _) fun u w2 ⟨e1, e2⟩ a h => ?_)
 subst e1
 subst e2
 refine wmv h rfl fun a h => ?_
 refine split (t := 6) h rfl (fun hb1 => ?_) (fun hb1 => ?_)
 ·refine wl (stp_on h rfl rfl rfl hb1 (vl h (fad h rfl fo24_1) fun a h => ?_))
  refine wl (stp_on h rfl rfl rfl hb1 (vl h (ldo h hp rfl 0 rfl rfl ag3) fun a h => ?_))
  refine wl (stp_on h rfl rfl rfl hb1 (cal h rfl en107 (in_S _ _ _ _) fun u w3 ⟨e1, e2⟩ a h => ?_))
  subst e1
  subst e2
  refine wvl h (pckT h rfl hb1 rfl) fun a h => ?_
  refine wmv h rfl fun a h => ?_
  refine split (t := 11) h rfl (fun hb2 => ?_) (fun hb2 => ?_)
  ·refine wl (stp_on h rfl rfl rfl hb2 (vl h (fad h rfl fo24_0) fun a h => ?_))
   refine wl (stp_on h rfl rfl rfl hb2 (vl h (ldo h hp rfl 0 rfl rfl ag3) fun a h => ?_))
   refine wl (stp_on h rfl rfl rfl hb2 (vl h (fad h rfl fo24_1) fun a h => ?_))
   refine wl (stp_on h rfl rfl rfl hb2 (vl h (ldo h hp rfl 0 rfl rfl ag3) fun a h => ?_))
   refine wl (stp_on h rfl rfl rfl hb2 (vl h (mul h rfl rfl (by simp only [inR, Bool.and_eq_true, decide_eq_true_eq] at hb1 hb2; omega)) fun a h => ?_))
   refine wl (stp_on h rfl rfl rfl hb2 (vl h (geq h rfl rfl) fun a h => ?_))
   refine wvl h (pckT h rfl hb2 rfl) fun a h => ?_
   refine wsn h rfl fun a h => ?_
   refine wp_ret ?_
   try simp only [xqs]
   refine rt_1 h rfl (rvT h rfl) ?_
   exact ⟨_, rfl, by simp only [isPeriod, hb1, hb2, Bool.true_and, Bool.false_and, Bool.and_true, Bool.and_false, Bool.or_true, Bool.true_or, Bool.or_false, Bool.false_or, Bool.not_true, Bool.not_false], hp.bel⟩
  refine wl (stp_off h rfl rfl rfl rfl rfl hb2 fun a h => ?_)
  refine wl (stp_off h rfl rfl rfl rfl rfl hb2 fun a h => ?_)
  refine wl (stp_off h rfl rfl rfl rfl rfl hb2 fun a h => ?_)
  refine wl (stp_off h rfl rfl rfl rfl rfl hb2 fun a h => ?_)
  refine wl (stp_off h rfl rfl rfl rfl rfl hb2 fun a h => ?_)
  refine wl (stp_off h rfl rfl rfl rfl rfl hb2 fun a h => ?_)
  refine wvl h (pckF h rfl hb2 rfl) fun a h => ?_
  refine wsn h rfl fun a h => ?_
  refine wp_ret ?_
  try simp only [xqs]
  refine rt_1 h rfl (rvT h rfl) ?_
  exact ⟨_, rfl, by simp only [isPeriod, hb1, hb2, Bool.true_and, Bool.false_and, Bool.and_true, Bool.and_false, Bool.or_true, Bool.true_or, Bool.or_false, Bool.false_or, Bool.not_true, Bool.not_false], hp.bel⟩
 refine wl (stp_off h rfl rfl rfl rfl rfl hb1 fun a h => ?_)
 refine wl (stp_off h rfl rfl rfl rfl rfl hb1 fun a h => ?_)
 refine wl (stp_off h rfl rfl rfl rfl rfl hb1 fun a h => ?_)
 refine wvl h (pckF h rfl hb1 rfl) fun a h => ?_
 refine wmv h rfl fun a h => ?_
 refine wl (stp_off h rfl rfl rfl rfl rfl rfl fun a h => ?_)
 refine wl (stp_off h rfl rfl rfl rfl rfl rfl fun a h => ?_)
 refine wl (stp_off h rfl rfl rfl rfl rfl rfl fun a h => ?_)
 refine wl (stp_off h rfl rfl rfl rfl rfl rfl fun a h => ?_)
 refine wl (stp_off h rfl rfl rfl rfl rfl rfl fun a h => ?_)
 refine wl (stp_off h rfl rfl rfl rfl rfl rfl fun a h => ?_)
 refine wvl h (pckF h rfl rfl rfl) fun a h => ?_
 refine wsn h rfl fun a h => ?_
 refine wp_ret ?_
 try simp only [xqs]
 refine rt_1 h rfl (rvT h rfl) ?_
 exact ⟨_, rfl, by simp only [isPeriod, hb1, Bool.true_and, Bool.false_and, Bool.and_true, Bool.and_false, Bool.or_true, Bool.true_or, Bool.or_false, Bool.false_or, Bool.not_true, Bool.not_false], hp.bel⟩
theorem Sky_S (x : EV) (e : Eng) (w : World) (hS : RdS w x e) : Ret Tryz.prog 56 #[.agg #[x.b.v, .int .i64 e.nnum, .int .i64 e.nden, .int .i64 e.nstart]] w fun u w' => u = .bool (isSky e) ∧ Below w.heap.size w w' := by
 have hp : Hp c0 w w [] := Hp.start trivial
 refine enter Tryz.func56 rfl (N := 65) rfl rfl fun a h => ?_
 refine rg ?_
 refine wl (box (cs := #[_, _, _, _]) h hp rfl rfl fun a w1 g1 hg1 h hp => ?_)
 refine wsn h rfl fun a h => ?_
 refine wp_seq ?_
 refine rg ?_
 refine wsn h rfl fun a h => ?_
 refine lp1 h [1] (fun n f w' => ∃ k : Nat, k ≤ x.bs.length ∧ n = x.bs.length - k ∧ f = [(3, .int .i64 k)] ∧ Hp c0 w w' ([.blk g1 (.cells #[x.b.v, .int .i64 e.nnum, .int .i64 e.nden, .int .i64 e.nstart] 28 (0, 0))]) ∧ (x.bs.take k).all (fun y => isBodyB y.1) = true) (x.bs.length) [(3, .int .i64 ((0 : Nat) : Int))] ⟨rfl, rfl, trivial⟩ ⟨0, Nat.zero_le _, rfl, rfl, hp, rfl⟩ ?_
 rintro n f a w2 ⟨k, hk, rfl, rfl, hp, hI⟩ h
 have hfit := hS.b.fits
 refine wp_seq ?_
 refine rg ?_
 refine wmv h rfl fun a h => ?_
 refine wvl h (fad h rfl fo28_0) fun a h => ?_
 refine wvl h (ldo h hp rfl 0 rfl rfl ag22) fun a h => ?_
 refine wvl h (lenR h rfl Tryz.underlying22 (hS.keep hp cl0).b) fun a h => ?_
 refine wvl h (lss h rfl rfl) fun a h => ?_
 refine wn ?_
 refine cnd1 h rfl (fun hb1 => ?_) (fun hb1 => ?_)
 ·have hlt : k < x.bs.length := by have := of_decide_eq_true hb1; omega
  obtain ⟨y, hy⟩ : ∃ y, x.bs[k]? = some y := ⟨_, List.getElem?_eq_getElem hlt⟩
  refine skp ?_
  refine blk ?_
  refine rg ?_
  refine wvl h (fad h rfl fo28_0) fun a h => ?_
  refine wvl h (ldo h hp rfl 0 rfl rfl ag22) fun a h => ?_
  refine wmv h rfl fun a h => ?_
  refine wvl h (iadR (k) h rfl rfl Tryz.underlying22 sz46 (hS.keep hp cl0).b (rfl) (hlt)) fun a h => ?_
  refine wvl h (ldE h (hS.keep hp cl0).b hy rfl ag46 sz46) fun a h => ?_
  refine wl (all h hp zc46 fun a w3 g2 hg2 h hp => ?_)
  refine wl (sta h hp rfl rfl 1 rfl sz46 rfl rfl fun w4 hp => ?_)
  refine wn ?_
  refine wp_seq ?_
  refine rg ?_
  refine wvl h (fad h rfl fo46_0) fun a h => ?_
  refine wvl h (ldO (us := [_, _]) h hp rfl 1 rfl sz24 rfl ag24) fun a h => ?_
  refine wl (cal h rfl en112 (period_S _ _ _) fun u w5 ⟨e1, e2⟩ a h => ?_)
  subst e1
  have hp := hp.below e2
  refine wvl h (not_ h rfl) fun a h => ?_
  refine wmv h rfl fun a h => ?_
  refine split (t := 22) h rfl (fun hb2 => ?_) (fun hb2 => ?_)
  ·have hper : isPeriod y.1.num y.1.den = false := by simpa using hb2
   have hbb : isBodyB y.1 = false := by rw [isBodyB, hper]; rfl
   refine wl (stp_off h rfl rfl rfl rfl rfl hb2 fun a h => ?_)
   refine wl (stp_off h rfl rfl rfl rfl rfl hb2 fun a h => ?_)
   refine wl (stp_off h rfl rfl rfl rfl rfl hb2 fun a h => ?_)
   refine wl (stp_off h rfl rfl rfl rfl rfl hb2 fun a h => ?_)
   refine wvl h (pckT h rfl hb2 rfl) fun a h => ?_
   refine wmv h rfl fun a h => ?_
   refine wl (stp_off h rfl rfl rfl rfl rfl rfl fun a h => ?_)
   refine wl (stp_off h rfl rfl rfl rfl rfl rfl fun a h => ?_)
   refine wl (stp_off h rfl rfl rfl rfl rfl rfl fun a h => ?_)
   refine wl (stp_off h rfl rfl rfl rfl rfl rfl fun a h => ?_)
   refine wl (stp_off h rfl rfl rfl rfl rfl rfl fun a h => ?_)
   refine wvl h (pckT h rfl rfl rfl) fun a h => ?_
   refine wn ?_
   refine cnd1 h rfl (fun _ => ?_) (fun e => nomatch e)
   refine rg ?_
   refine wsn h rfl fun a h => ?_
   refine wp_ret ?_
   try simp only [xqs]
   refine rt_1 h rfl (rvT h rfl) ?_
   exact ⟨_, rfl, by simp only [isSky, hS.bs, List.length_map, List.all_map, Function.comp_def, show (x.bs.all fun y => isBodyB y.1) = false from all_bad (p := fun y : BV => isBodyB y.1) hy hbb, Bool.and_false], hp.bel⟩
  have hper : isPeriod y.1.num y.1.den = true := by simpa using hb2
  refine wl (stp_on h rfl rfl rfl hb2 (vl h (fad h rfl fo46_1) fun a h => ?_))
  refine wl (stp_on h rfl rfl rfl hb2 (vl h (ldo h hp rfl 1 rfl rfl ag3) fun a h => ?_))
  refine wl (stp_on h rfl rfl rfl hb2 (cal h rfl en79 (Spot_S _ _) fun u w6 ⟨e1, e2⟩ a h => ?_))
  subst e1
  subst e2
  refine wl (stp_on h rfl rfl rfl hb2 (vl h (not_ h rfl) fun a h => ?_))
  refine wvl h (pckF h rfl hb2 rfl) fun a h => ?_
  refine wmv h rfl fun a h => ?_
  refine split (t := 28) h rfl (fun hb3 => ?_) (fun hb3 => ?_)
  ·have hpl : isPlace y.1.start = false := by simpa using hb3
   have hbb : isBodyB y.1 = false := by rw [isBodyB, hper, hpl]; rfl
   refine wl (stp_off h rfl rfl rfl rfl rfl hb3 fun a h => ?_)
   refine wl (stp_off h rfl rfl rfl rfl rfl hb3 fun a h => ?_)
   refine wl (stp_off h rfl rfl rfl rfl rfl hb3 fun a h => ?_)
   refine wl (stp_off h rfl rfl rfl rfl rfl hb3 fun a h => ?_)
   refine wl (stp_off h rfl rfl rfl rfl rfl hb3 fun a h => ?_)
   refine wvl h (pckT h rfl hb3 rfl) fun a h => ?_
   refine wn ?_
   refine cnd1 h rfl (fun _ => ?_) (fun e => nomatch e)
   refine rg ?_
   refine wsn h rfl fun a h => ?_
   refine wp_ret ?_
   try simp only [xqs]
   refine rt_1 h rfl (rvT h rfl) ?_
   exact ⟨_, rfl, by simp only [isSky, hS.bs, List.length_map, List.all_map, Function.comp_def, show (x.bs.all fun y => isBodyB y.1) = false from all_bad (p := fun y : BV => isBodyB y.1) hy hbb, Bool.and_false], hp.bel⟩
  have hpl : isPlace y.1.start = true := by simpa using hb3
  refine wl (stp_on h rfl rfl rfl hb3 (vl h (fad h rfl fo46_2) fun a h => ?_))
  refine wl (stp_on h rfl rfl rfl hb3 (vl h (ldo h hp rfl 1 rfl rfl ag30) fun a h => ?_))
  refine wl (stp_on h rfl rfl rfl hb3 (vl h (lenR h rfl Tryz.underlying30 ((hS.road y (List.mem_of_getElem? hy)).keep (by decide) hp cl0)) fun a h => ?_))
  refine wl (stp_on h rfl rfl rfl hb3 (cal h rfl en107 (in_S _ _ _ _) fun u w7 ⟨e1, e2⟩ a h => ?_))
  subst e1
  subst e2
  refine wl (stp_on h rfl rfl rfl hb3 (vl h (not_ h rfl) fun a h => ?_))
  refine wvl h (pckF h rfl hb3 rfl) fun a h => ?_
  refine wn ?_
  refine cnd1 h rfl (fun hb4 => ?_) (fun hb4 => ?_)
  ·have hrl : inR (y.1.road.length : Int) 1 8 = false := by simpa using hb4
   have hbb : isBodyB y.1 = false := by rw [isBodyB, hper, hpl, hrl]; rfl
   refine rg ?_
   refine wsn h rfl fun a h => ?_
   refine wp_ret ?_
   try simp only [xqs]
   refine rt_1 h rfl (rvT h rfl) ?_
   exact ⟨_, rfl, by simp only [isSky, hS.bs, List.length_map, List.all_map, Function.comp_def, show (x.bs.all fun y => isBodyB y.1) = false from all_bad (p := fun y : BV => isBodyB y.1) hy hbb, Bool.and_false], hp.bel⟩
  have hrl : inR (y.1.road.length : Int) 1 8 = true := by simpa using hb4
  refine skp ?_
  refine rg ?_
  refine wsn h rfl fun a h => ?_
  refine lp1 h [1, 3, 4] (fun n f w' => ∃ j : Nat, j ≤ y.1.road.length ∧ n = y.1.road.length - j ∧ f = [(5, .int .i64 j)] ∧ Hp c0 w w' ([.blk g1 (.cells #[x.b.v, .int .i64 e.nnum, .int .i64 e.nden, .int .i64 e.nstart] 28 (0, 0)), .blk g2 (.cells #[.int .i64 y.1.num, .int .i64 y.1.den, .int .i64 y.1.start, y.2.v] 46 (0, 0))]) ∧ (y.1.road.take j).all (fun n => inR n (-600) 600) = true) (y.1.road.length) [(5, .int .i64 ((0 : Nat) : Int))] ⟨rfl, rfl, rfl, rfl, trivial⟩ ⟨0, Nat.zero_le _, rfl, rfl, hp, rfl⟩ ?_
  rintro n f a w8 ⟨j, hk2, rfl, rfl, hp, hJ⟩ h
  have hfit2 := (hS.road y (List.mem_of_getElem? hy)).fits
  refine wp_seq ?_
  refine rg ?_
  refine wmv h rfl fun a h => ?_
  refine wvl h (fad h rfl fo46_2) fun a h => ?_
  refine wvl h (ldo h hp rfl 1 rfl rfl ag30) fun a h => ?_
  refine wvl h (lenR h rfl Tryz.underlying30 ((hS.road y (List.mem_of_getElem? hy)).keep (by decide) hp cl0)) fun a h => ?_
  refine wvl h (lss h rfl rfl) fun a h => ?_
  refine wn ?_
  refine cnd1 h rfl (fun hb5 => ?_) (fun hb5 => ?_)
  ·have hlt2 : j < y.1.road.length := by have := of_decide_eq_true hb5; omega
   obtain ⟨z, hz⟩ : ∃ z, y.1.road[j]? = some z := ⟨_, List.getElem?_eq_getElem hlt2⟩
   refine skp ?_
   refine blk ?_
   refine rg ?_
   refine wvl h (fad h rfl fo46_2) fun a h => ?_
   refine wvl h (ldo h hp rfl 1 rfl rfl ag30) fun a h => ?_
   refine wmv h rfl fun a h => ?_
   refine wvl h (iadR (j) h rfl rfl Tryz.underlying30 sz3 ((hS.road y (List.mem_of_getElem? hy)).keep (by decide) hp cl0) (rfl) (hlt2)) fun a h => ?_
   refine wvl h (ld0 h ((hS.road y (List.mem_of_getElem? hy)).keep (by decide) hp cl0) hz rfl ag3 rfl) fun a h => ?_
   refine wl (cal h rfl en107 (in_S _ _ _ _) fun u w9 ⟨e1, e2⟩ a h => ?_)
   subst e1
   subst e2
   refine wvl h (not_ h rfl) fun a h => ?_
   refine wn ?_
   refine cnd1 h rfl (fun hb6 => ?_) (fun hb6 => ?_)
   ·have hrd : inR z (-600) 600 = false := by simpa using hb6
    have hbb : isBodyB y.1 = false := by rw [isBodyB, all_bad hz hrd, Bool.and_false]
    refine rg ?_
    refine wsn h rfl fun a h => ?_
    refine wp_ret ?_
    try simp only [xqs]
    refine rt_1 h rfl (rvT h rfl) ?_
    exact ⟨_, rfl, by simp only [isSky, hS.bs, List.length_map, List.all_map, Function.comp_def, show (x.bs.all fun y => isBodyB y.1) = false from all_bad (p := fun y : BV => isBodyB y.1) hy hbb, Bool.and_false], hp.bel⟩
   have hrd : inR z (-600) 600 = true := by simpa using hb6
   refine wp_skip ?_
   refine rg1 ?_
   refine wmv h rfl fun a h => ?_
   refine wvl h (add h rfl rfl (by omega)) fun a h => ?_
   refine wsn h rfl fun a h => ?_
   exact ⟨_, _, (by omega), ⟨j + 1, by omega, rfl, rfl, hp, all_snoc hz hJ hrd⟩, h.sub ⟨rfl, rfl, rfl, rfl, trivial⟩⟩
  have hend2 : j = y.1.road.length := by have := of_decide_eq_false hb5; omega
  subst hend2
  rw [List.take_length] at hJ
  have hok : isBodyB y.1 = true := by rw [isBodyB, hper, hpl, hrl, hJ]; rfl
  refine wp_exit ?_
  try simp only [xqs, ↓reduceIte, Nat.reduceEqDiff]
  refine rg1 ?_
  refine wmv h rfl fun a h => ?_
  refine wvl h (add h rfl rfl (by omega)) fun a h => ?_
  refine wsn h rfl fun a h => ?_
  exact ⟨_, _, (by omega), ⟨k + 1, by omega, rfl, rfl, hp.pre 1 rfl, all_snoc (p := fun y : BV => isBodyB y.1) hy hI hok⟩, h.sub ⟨rfl, rfl, trivial⟩⟩
 have hend : k = x.bs.length := by have := of_decide_eq_false hb1; omega
 subst hend
 rw [List.take_length] at hI
 refine wp_exit ?_
 try simp only [xqs, ↓reduceIte, Nat.reduceEqDiff]
 refine rg ?_
 refine wvl h (fad h rfl fo28_0) fun a h => ?_
 refine wvl h (ldo h hp rfl 0 rfl rfl ag22) fun a h => ?_
 refine wvl h (lenR h rfl Tryz.underlying22 (hS.keep hp cl0).b) fun a h => ?_
 refine wl (cal h rfl en107 (in_S _ _ _ _) fun u w10 ⟨e1, e2⟩ a h => ?_)
 subst e1
 subst e2
 refine wmv h rfl fun a h => ?_
 refine split (t := 53) h rfl (fun hb7 => ?_) (fun hb7 => ?_)
 ·refine wl (stp_on h rfl rfl rfl hb7 (vl h (fad h rfl fo28_1) fun a h => ?_))
  refine wl (stp_on h rfl rfl rfl hb7 (vl h (fad h rfl fo26_0) fun a h => ?_))
  refine wl (stp_on h rfl rfl rfl hb7 (vl h (ldO (us := [_, _]) h hp rfl 0 rfl sz24 rfl ag24) fun a h => ?_))
  refine wl (stp_on h rfl rfl rfl hb7 (cal h rfl en112 (period_S _ _ _) fun u w11 ⟨e1, e2⟩ a h => ?_))
  subst e1
  have hp := hp.below e2
  refine wvl h (pckT h rfl hb7 rfl) fun a h => ?_
  refine wmv h rfl fun a h => ?_
  refine split (t := 59) h rfl (fun hb8 => ?_) (fun hb8 => ?_)
  ·refine wl (stp_on h rfl rfl rfl hb8 (vl h (fad h rfl fo28_1) fun a h => ?_))
   refine wl (stp_on h rfl rfl rfl hb8 (vl h (fad h rfl fo26_1) fun a h => ?_))
   refine wl (stp_on h rfl rfl rfl hb8 (vl h (ldo h hp rfl 0 rfl rfl ag3) fun a h => ?_))
   refine wl (stp_on h rfl rfl rfl hb8 (cal h rfl en79 (Spot_S _ _) fun u w12 ⟨e1, e2⟩ a h => ?_))
   subst e1
   subst e2
   refine wvl h (pckT h rfl hb8 rfl) fun a h => ?_
   refine wsn h rfl fun a h => ?_
   refine wp_ret ?_
   try simp only [xqs]
   refine rt_1 h rfl (rvT h rfl) ?_
   exact ⟨_, rfl, by simp only [isSky, hS.bs, List.length_map, List.all_map, Function.comp_def, hI, hb1, hb7, hb8, Bool.true_and, Bool.false_and, Bool.and_true, Bool.and_false, Bool.or_true, Bool.true_or, Bool.or_false, Bool.false_or, Bool.not_true, Bool.not_false], hp.bel⟩
  refine wl (stp_off h rfl rfl rfl rfl rfl hb8 fun a h => ?_)
  refine wl (stp_off h rfl rfl rfl rfl rfl hb8 fun a h => ?_)
  refine wl (stp_off h rfl rfl rfl rfl rfl hb8 fun a h => ?_)
  refine wl (stp_off h rfl rfl rfl rfl rfl hb8 fun a h => ?_)
  refine wvl h (pckF h rfl hb8 rfl) fun a h => ?_
  refine wsn h rfl fun a h => ?_
  refine wp_ret ?_
  try simp only [xqs]
  refine rt_1 h rfl (rvT h rfl) ?_
  exact ⟨_, rfl, by simp only [isSky, hS.bs, List.length_map, List.all_map, Function.comp_def, hI, hb1, hb7, hb8, Bool.true_and, Bool.false_and, Bool.and_true, Bool.and_false, Bool.or_true, Bool.true_or, Bool.or_false, Bool.false_or, Bool.not_true, Bool.not_false], hp.bel⟩
 refine wl (stp_off h rfl rfl rfl rfl rfl hb7 fun a h => ?_)
 refine wl (stp_off h rfl rfl rfl rfl rfl hb7 fun a h => ?_)
 refine wl (stp_off h rfl rfl rfl rfl rfl hb7 fun a h => ?_)
 refine wl (stp_off h rfl rfl rfl rfl rfl hb7 fun a h => ?_)
 refine wvl h (pckF h rfl hb7 rfl) fun a h => ?_
 refine wmv h rfl fun a h => ?_
 refine wl (stp_off h rfl rfl rfl rfl rfl rfl fun a h => ?_)
 refine wl (stp_off h rfl rfl rfl rfl rfl rfl fun a h => ?_)
 refine wl (stp_off h rfl rfl rfl rfl rfl rfl fun a h => ?_)
 refine wl (stp_off h rfl rfl rfl rfl rfl rfl fun a h => ?_)
 refine wvl h (pckF h rfl rfl rfl) fun a h => ?_
 refine wsn h rfl fun a h => ?_
 refine wp_ret ?_
 try simp only [xqs]
 refine rt_1 h rfl (rvT h rfl) ?_
 exact ⟨_, rfl, by simp only [isSky, hS.bs, List.length_map, List.all_map, Function.comp_def, hI, hb1, hb7, Bool.true_and, Bool.false_and, Bool.and_true, Bool.and_false, Bool.or_true, Bool.true_or, Bool.or_false, Bool.false_or, Bool.not_true, Bool.not_false], hp.bel⟩
theorem down_S (a9 b9 : Int) (w : World) (ha : -1000000000000000000 ≤ a9 ∧ a9 ≤ 1000000000000000000) (hb : 0 < b9 ∧ b9 ≤ 1000000000000) : Ret Tryz.prog 134 #[.int .i64 a9, .int .i64 b9] w fun u w' => u = .int .i64 (a9 / b9) ∧ Below w.heap.size w w' := by
 have hd := down_bd hb.1 ha
 have hp : Hp c0 w w [] := Hp.start trivial
 refine enter Tryz.func134 rfl (N := 17) rfl rfl fun a h => ?_
 refine rg ?_
 refine wsn h rfl fun a h => ?_
 refine rg ?_
 refine wm2 h rfl rfl rfl rfl fun a h => ?_
 refine wvl h (quo h rfl rfl (by omega) (by omega)) fun a h => ?_
 refine wsn h rfl fun a h => ?_
 refine wp_seq ?_
 refine rg ?_
 refine wm2 h rfl rfl rfl rfl fun a h => ?_
 refine wvl h (mul h rfl rfl (by omega)) fun a h => ?_
 refine wmv h rfl fun a h => ?_
 refine wvl h (gtr h rfl rfl) fun a h => ?_
 refine wn ?_
 refine cnd1 h rfl (fun hb1 => ?_) (fun hb1 => ?_)
 ·refine rg1 ?_
  refine wmv h rfl fun a h => ?_
  refine wvl h (sub h rfl rfl (by omega)) fun a h => ?_
  refine wsn h rfl fun a h => ?_
  refine rg ?_
  refine wmv h rfl fun a h => ?_
  refine wsn h rfl fun a h => ?_
  refine wp_ret ?_
  try simp only [xqs]
  refine rt_1 h rfl (rvT h rfl) ?_
  exact ⟨_, rfl, by rw [← down_eq hb.1]; first | rw [if_pos (of_decide_eq_true hb1)] | rw [if_neg (of_decide_eq_false hb1)], hp.bel⟩
 refine skp ?_
 refine rg ?_
 refine wmv h rfl fun a h => ?_
 refine wsn h rfl fun a h => ?_
 refine wp_ret ?_
 try simp only [xqs]
 refine rt_1 h rfl (rvT h rfl) ?_
 exact ⟨_, rfl, by rw [← down_eq hb.1]; first | rw [if_pos (of_decide_eq_true hb1)] | rw [if_neg (of_decide_eq_false hb1)], hp.bel⟩
theorem Less_S (n9 : Int) (w : World) (hn : -1000000000000000000 ≤ n9 ∧ n9 ≤ 1000000000000000000) : Ret Tryz.prog 80 #[.int .i64 n9] w fun u w' => u = .int .i64 (around n9) ∧ Below w.heap.size w w' := by
 have hp : Hp c0 w w [] := Hp.start trivial
 refine enter Tryz.func80 rfl (N := 8) rfl rfl fun a h => ?_
 refine rg ?_
 refine wsn h rfl fun a h => ?_
 refine rg ?_
 refine wm2 h rfl rfl rfl rfl fun a h => ?_
 refine wl (cal h rfl en134 (down_S _ _ _ (by omega) (by omega)) fun u w1 ⟨e1, e2⟩ a h => ?_)
 subst e1
 have hp := hp.below e2
 refine wvl h (mul h rfl rfl (by omega)) fun a h => ?_
 refine wvl h (sub h rfl rfl (by omega)) fun a h => ?_
 refine wsn h rfl fun a h => ?_
 refine wp_ret ?_
 try simp only [xqs]
 refine rt_1 h rfl (rvT h rfl) ?_
 exact ⟨_, rfl, by rw [less_eq], hp.bel⟩
theorem gcd_S (x y : Int) (w : World) (hx : 0 < x ∧ x ≤ 4611686018427387904) (hy : 0 ≤ y ∧ y ≤ 4611686018427387904) : Ret Tryz.prog 114 #[.int .i64 x, .int .i64 y] w fun u w' => u = .int .i64 (Int.gcd x y : Int) ∧ Below w.heap.size w w' := by
 have hp : Hp c0 w w [] := Hp.start trivial
 refine enter Tryz.func114 rfl (N := 12) rfl rfl fun a h => ?_
 refine rg ?_
 refine wsn h rfl fun a h => ?_
 refine lp h [] (fun n f w' => ∃ p r : Int, n = r.toNat ∧ f = [(0, .int .i64 p), (1, .int .i64 r)] ∧ Hp c0 w w' [] ∧ Int.gcd p r = Int.gcd x y ∧ 0 < p ∧ p ≤ 4611686018427387904 ∧ 0 ≤ r ∧ r ≤ 4611686018427387904) (y.toNat) [(0, .int .i64 x), (1, .int .i64 y)] ⟨rfl, rfl, trivial⟩ ⟨x, y, rfl, rfl, hp, rfl, hx.1, hx.2, hy.1, hy.2⟩ ?_
 rintro n f a w1 ⟨p, r, rfl, rfl, hp, hg, h1, h2, h3, h4⟩ h
 refine wp_seq ?_
 refine rg ?_
 refine wmv h rfl fun a h => ?_
 refine wvl h (gtr h rfl rfl) fun a h => ?_
 refine wn ?_
 refine cnd1 h rfl (fun hb1 => ?_) (fun hb1 => ?_)
 ·have hr := of_decide_eq_true hb1
  have m1 := Int.emod_nonneg p (by omega : r ≠ 0)
  have m2 := Int.emod_lt_of_pos p hr
  refine skp ?_
  refine blk1 ?_
  refine rdh1 (n := 6) hp mixed rfl ?_
  have hp := hp.drew
  refine tkm 0 h rfl hp rfl fun a h => ?_
  refine tkm 1 h rfl hp rfl fun a h => ?_
  refine tkm 2 h rfl hp rfl fun a h => ?_
  refine tkq 3 h rfl hp (fun W _ => rem0 h rfl rfl (by omega) (by omega)) fun a h => ?_
  refine tka 4 h rfl hp rfl fun a h => ?_
  refine tka 5 h rfl hp rfl fun a h => ?_
  refine dn (by kernel_rfl) ?_
  try simp only [xqs, ↓reduceIte, Nat.reduceEqDiff]
  exact ⟨_, _, (by omega), ⟨r, p % r, rfl, rfl, hp, by rw [← hg]; exact gcd_step _ _ h3, by omega, by omega, by omega, by omega⟩, h.sub ⟨rfl, rfl, trivial⟩⟩
 have hr := of_decide_eq_false hb1
 obtain rfl : r = 0 := by omega
 refine wp_exit ?_
 try simp only [xqs, ↓reduceIte, Nat.reduceEqDiff]
 refine rg ?_
 refine wmv h rfl fun a h => ?_
 refine wsn h rfl fun a h => ?_
 refine wp_ret ?_
 try simp only [xqs]
 refine rt_1 h rfl (rvT h rfl) ?_
 rw [Int.gcd_zero_right] at hg
 exact ⟨_, rfl, by rw [← hg]; congr 1; omega, hp.bel⟩
theorem Month_S (x : EV) (e : Eng) (w : World) (hS : RdS w x e) (hsk : isSky e = true) : Ret Tryz.prog 59 #[.agg #[x.b.v, .int .i64 e.nnum, .int .i64 e.nden, .int .i64 e.nstart]] w fun u w' => (∃ p q : Int, u = .tuple #[.int .i64 p, .int .i64 q, .bool (decide (0 < slow e))]) ∧ Below w.heap.size w w' := by
 obtain ⟨hbl, b0, b1, hB0, hB1, e0, e1, v0, v1⟩ := sky2 hS hsk
 obtain ⟨c1, c2, -⟩ := body_bd v0
 obtain ⟨c3, c4, -⟩ := body_bd v1
 have m1 := mul_bd (a := b1.1.num) (b := b0.1.num) (A := 10000) (B := 10000) (by omega) (by omega) (by omega) (by omega)
 have m2 := mul_bd (a := b1.1.den) (b := b0.1.num) (A := 10000) (B := 10000) (by omega) (by omega) (by omega) (by omega)
 have m3 := mul_bd (a := b0.1.den) (b := b1.1.num) (A := 10000) (B := 10000) (by omega) (by omega) (by omega) (by omega)
 have m4 : 0 < b1.1.num * b0.1.num := Int.mul_pos (by omega) (by omega)
 have hsl : slow e = b1.1.den * b0.1.num - b0.1.den * b1.1.num := by rw [slow, e0, e1]
 have hp : Hp c0 w w [] := Hp.start trivial
 refine enter Tryz.func59 rfl (N := 47) rfl rfl fun a h => ?_
 refine rg ?_
 refine wl (box (cs := #[_, _, _, _]) h hp rfl rfl fun a w1 g1 hg1 h hp => ?_)
 refine wsg h rfl fun a h => ?_
 refine ws2 h rfl rfl rfl rfl fun a h => ?_
 refine rdh (n := 14) hp mixed rfl ?_
 have hp := hp.drew
 refine tkq 0 h rfl hp (fun W _ => fad h rfl fo28_0) fun a h => ?_
 refine tkq 1 h rfl hp (fun W hp => ldo h hp rfl 0 rfl rfl ag22) fun a h => ?_
 refine tkq 2 h rfl hp (fun W hp => iadR (0) h rfl rfl Tryz.underlying22 sz46 (hS.keep hp cl0).b (rfl) (by omega)) fun a h => ?_
 refine tkq 3 h rfl hp (fun W _ => fad h rfl fo46_0) fun a h => ?_
 refine tkq 4 h rfl hp (fun W hp => ldFn 0 [_, _] h (hS.keep hp cl0).b hB0 rfl ag24 sz24 rfl) fun a h => ?_
 refine tkq 5 h rfl hp (fun W _ => fad h rfl fo28_0) fun a h => ?_
 refine tkq 6 h rfl hp (fun W hp => ldo h hp rfl 0 rfl rfl ag22) fun a h => ?_
 refine tkq 7 h rfl hp (fun W hp => iadR (1) h rfl rfl Tryz.underlying22 sz46 (hS.keep hp cl0).b (rfl) (by omega)) fun a h => ?_
 refine tkq 8 h rfl hp (fun W _ => fad h rfl fo46_0) fun a h => ?_
 refine tkq 9 h rfl hp (fun W hp => ldFn 0 [_, _] h (hS.keep hp cl0).b hB1 rfl ag24 sz24 rfl) fun a h => ?_
 refine two 10 11 (by kernel_rfl) rfl rfl ?_ ?_
 ·refine (all h hp zc24 fun a w2 g2 hg2 h hp => ⟨((hp).pre 1 rfl), ?_⟩)
  refine one 11 (by kernel_rfl) rfl (all h hp zc24 fun a w3 g3 hg3 h hp => ⟨((hp).pre 1 rfl), ?_⟩)
  refine one 12 (by kernel_rfl) rfl (sta h hp rfl rfl 1 rfl sz24 rfl rfl fun w4 hp => ⟨((hp).pre 1 rfl), ?_⟩)
  refine one 13 (by kernel_rfl) rfl (sta h hp rfl rfl 2 rfl sz24 rfl rfl fun w5 hp => ⟨((hp).pre 1 rfl), ?_⟩)
  refine dn (by kernel_rfl) ?_
  refine rdh (n := 18) hp mixed rfl ?_
  have hp := hp.drew
  refine tkq 0 h rfl hp (fun W _ => fad h rfl fo24_0) fun a h => ?_
  refine tkq 1 h rfl hp (fun W hp => ldo h hp rfl 2 rfl rfl ag3) fun a h => ?_
  refine tkq 2 h rfl hp (fun W _ => fad h rfl fo24_0) fun a h => ?_
  refine tkq 3 h rfl hp (fun W hp => ldo h hp rfl 1 rfl rfl ag3) fun a h => ?_
  refine tkq 4 h rfl hp (fun W _ => mul h rfl rfl (by omega)) fun a h => ?_
  refine tkq 5 h rfl hp (fun W _ => fad h rfl fo24_1) fun a h => ?_
  refine tkq 6 h rfl hp (fun W hp => ldo h hp rfl 2 rfl rfl ag3) fun a h => ?_
  refine tkq 7 h rfl hp (fun W _ => fad h rfl fo24_0) fun a h => ?_
  refine tkq 8 h rfl hp (fun W hp => ldo h hp rfl 1 rfl rfl ag3) fun a h => ?_
  refine tkq 9 h rfl hp (fun W _ => mul h rfl rfl (by omega)) fun a h => ?_
  refine tkq 10 h rfl hp (fun W _ => fad h rfl fo24_1) fun a h => ?_
  refine tkq 11 h rfl hp (fun W hp => ldo h hp rfl 1 rfl rfl ag3) fun a h => ?_
  refine tkq 12 h rfl hp (fun W _ => fad h rfl fo24_0) fun a h => ?_
  refine tkq 13 h rfl hp (fun W hp => ldo h hp rfl 2 rfl rfl ag3) fun a h => ?_
  refine tkq 14 h rfl hp (fun W _ => mul h rfl rfl (by omega)) fun a h => ?_
  refine tkq 15 h rfl hp (fun W _ => sub h rfl rfl (by omega)) fun a h => ?_
  refine tka 16 h rfl hp rfl fun a h => ?_
  refine tka 17 h rfl hp rfl fun a h => ?_
  refine dn (by kernel_rfl) ?_
  refine wp_seq ?_
  refine rg ?_
  refine wmv h rfl fun a h => ?_
  refine wvl h (leq h rfl rfl) fun a h => ?_
  refine wn ?_
  refine cnd1 h rfl (fun hb1 => ?_) (fun hb1 => ?_)
  ·have hs0 := of_decide_eq_true hb1
   refine rg ?_
   refine wsg h rfl fun a h => ?_
   refine ws2 h rfl rfl rfl rfl fun a h => ?_
   refine wp_ret ?_
   try simp only [xqs]
   refine rt_3 h rfl (rvT h rfl) (rvT h rfl) (rvT h rfl) ?_
   exact ⟨_, rfl, ⟨_, _, by rw [show decide (0 < slow e) = false from by rw [hsl]; exact decide_eq_false (by omega)]⟩, hp.bel⟩
  have hs0 := of_decide_eq_false hb1
  refine skp ?_
  refine rg ?_
  refine wm2 h rfl rfl rfl rfl fun a h => ?_
  refine wl (cal h rfl en114 (gcd_S _ _ _ (by omega) (by omega)) fun u w6 ⟨e1_, e2⟩ a h => ?_)
  subst e1_
  have hp := hp.below e2
  have hgp : 0 < (Int.gcd (b1.1.num * b0.1.num) (b1.1.den * b0.1.num - b0.1.den * b1.1.num) : Int) := by have := Int.gcd_pos_of_ne_zero_left (b1.1.den * b0.1.num - b0.1.den * b1.1.num) (by omega : b1.1.num * b0.1.num ≠ 0); omega
  refine wsn h rfl fun a h => ?_
  refine rdh (n := 9) hp mixed rfl ?_
  have hp := hp.drew
  refine tkm 0 h rfl hp rfl fun a h => ?_
  refine tkm 1 h rfl hp rfl fun a h => ?_
  refine tkq 2 h rfl hp (fun W _ => quo0 h rfl rfl (by omega) (by omega)) fun a h => ?_
  refine tkm 3 h rfl hp rfl fun a h => ?_
  refine tkm 4 h rfl hp rfl fun a h => ?_
  refine tkq 5 h rfl hp (fun W _ => quo0 h rfl rfl (by omega) (by omega)) fun a h => ?_
  refine tka 6 h rfl hp rfl fun a h => ?_
  refine tka 7 h rfl hp rfl fun a h => ?_
  refine tka 8 h rfl hp rfl fun a h => ?_
  refine dn (by kernel_rfl) ?_
  refine wp_ret ?_
  try simp only [xqs]
  refine rt_3 h rfl (rvT h rfl) (rvT h rfl) (rvT h rfl) ?_
  exact ⟨_, rfl, ⟨_, _, by rw [show decide (0 < slow e) = true from by rw [hsl]; exact decide_eq_true (by omega)]⟩, hp.bel⟩
 refine (all h hp zc24 fun a w7 g4 hg4 h hp => ⟨((hp).pre 1 rfl), ?_⟩)
 refine one 10 (by kernel_rfl) rfl (all h hp zc24 fun a w8 g5 hg5 h hp => ⟨((hp).pre 1 rfl), ?_⟩)
 refine one 12 (by kernel_rfl) rfl (sta h hp rfl rfl 2 rfl sz24 rfl rfl fun w9 hp => ⟨((hp).pre 1 rfl), ?_⟩)
 refine one 13 (by kernel_rfl) rfl (sta h hp rfl rfl 1 rfl sz24 rfl rfl fun w10 hp => ⟨((hp).pre 1 rfl), ?_⟩)
 refine dn (by kernel_rfl) ?_
 refine rdh (n := 18) hp mixed rfl ?_
 have hp := hp.drew
 refine tkq 0 h rfl hp (fun W _ => fad h rfl fo24_0) fun a h => ?_
 refine tkq 1 h rfl hp (fun W hp => ldo h hp rfl 1 rfl rfl ag3) fun a h => ?_
 refine tkq 2 h rfl hp (fun W _ => fad h rfl fo24_0) fun a h => ?_
 refine tkq 3 h rfl hp (fun W hp => ldo h hp rfl 2 rfl rfl ag3) fun a h => ?_
 refine tkq 4 h rfl hp (fun W _ => mul h rfl rfl (by omega)) fun a h => ?_
 refine tkq 5 h rfl hp (fun W _ => fad h rfl fo24_1) fun a h => ?_
 refine tkq 6 h rfl hp (fun W hp => ldo h hp rfl 1 rfl rfl ag3) fun a h => ?_
 refine tkq 7 h rfl hp (fun W _ => fad h rfl fo24_0) fun a h => ?_
 refine tkq 8 h rfl hp (fun W hp => ldo h hp rfl 2 rfl rfl ag3) fun a h => ?_
 refine tkq 9 h rfl hp (fun W _ => mul h rfl rfl (by omega)) fun a h => ?_
 refine tkq 10 h rfl hp (fun W _ => fad h rfl fo24_1) fun a h => ?_
 refine tkq 11 h rfl hp (fun W hp => ldo h hp rfl 2 rfl rfl ag3) fun a h => ?_
 refine tkq 12 h rfl hp (fun W _ => fad h rfl fo24_0) fun a h => ?_
 refine tkq 13 h rfl hp (fun W hp => ldo h hp rfl 1 rfl rfl ag3) fun a h => ?_
 refine tkq 14 h rfl hp (fun W _ => mul h rfl rfl (by omega)) fun a h => ?_
 refine tkq 15 h rfl hp (fun W _ => sub h rfl rfl (by omega)) fun a h => ?_
 refine tka 16 h rfl hp rfl fun a h => ?_
 refine tka 17 h rfl hp rfl fun a h => ?_
 refine dn (by kernel_rfl) ?_
 refine wp_seq ?_
 refine rg ?_
 refine wmv h rfl fun a h => ?_
 refine wvl h (leq h rfl rfl) fun a h => ?_
 refine wn ?_
 refine cnd1 h rfl (fun hb2 => ?_) (fun hb2 => ?_)
 ·have hs0 := of_decide_eq_true hb2
  refine rg ?_
  refine wsg h rfl fun a h => ?_
  refine ws2 h rfl rfl rfl rfl fun a h => ?_
  refine wp_ret ?_
  try simp only [xqs]
  refine rt_3 h rfl (rvT h rfl) (rvT h rfl) (rvT h rfl) ?_
  exact ⟨_, rfl, ⟨_, _, by rw [show decide (0 < slow e) = false from by rw [hsl]; exact decide_eq_false (by omega)]⟩, hp.bel⟩
 have hs0 := of_decide_eq_false hb2
 refine skp ?_
 refine rg ?_
 refine wm2 h rfl rfl rfl rfl fun a h => ?_
 refine wl (cal h rfl en114 (gcd_S _ _ _ (by omega) (by omega)) fun u w11 ⟨e1_, e2⟩ a h => ?_)
 subst e1_
 have hp := hp.below e2
 have hgp : 0 < (Int.gcd (b1.1.num * b0.1.num) (b1.1.den * b0.1.num - b0.1.den * b1.1.num) : Int) := by have := Int.gcd_pos_of_ne_zero_left (b1.1.den * b0.1.num - b0.1.den * b1.1.num) (by omega : b1.1.num * b0.1.num ≠ 0); omega
 refine wsn h rfl fun a h => ?_
 refine rdh (n := 9) hp mixed rfl ?_
 have hp := hp.drew
 refine tkm 0 h rfl hp rfl fun a h => ?_
 refine tkm 1 h rfl hp rfl fun a h => ?_
 refine tkq 2 h rfl hp (fun W _ => quo0 h rfl rfl (by omega) (by omega)) fun a h => ?_
 refine tkm 3 h rfl hp rfl fun a h => ?_
 refine tkm 4 h rfl hp rfl fun a h => ?_
 refine tkq 5 h rfl hp (fun W _ => quo0 h rfl rfl (by omega) (by omega)) fun a h => ?_
 refine tka 6 h rfl hp rfl fun a h => ?_
 refine tka 7 h rfl hp rfl fun a h => ?_
 refine tka 8 h rfl hp rfl fun a h => ?_
 refine dn (by kernel_rfl) ?_
 refine wp_ret ?_
 try simp only [xqs]
 refine rt_3 h rfl (rvT h rfl) (rvT h rfl) (rvT h rfl) ?_
 exact ⟨_, rfl, ⟨_, _, by rw [show decide (0 < slow e) = true from by rw [hsl]; exact decide_eq_true (by omega)]⟩, hp.bel⟩
end Go.Proofs.Ec
