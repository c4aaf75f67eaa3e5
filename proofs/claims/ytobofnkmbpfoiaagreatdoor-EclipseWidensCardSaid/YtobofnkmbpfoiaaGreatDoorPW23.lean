import Derived.Test.YtobofnkmbpfoiaaGreatDoorProg
import Derived.Test.YtobofnkmbpfoiaaGreatDoorPFa
import Derived.Test.YtobofnkmbpfoiaaGreatDoorPQb
import Derived.Test.YtobofnkmbpfoiaaGreatDoorPW10
import Derived.Test.YtobofnkmbpfoiaaGreatDoorPQc
set_option linter.unusedVariables false
set_option linter.unusedSimpArgs false
set_option maxRecDepth 4000
namespace Go.Proofs.Ec
open Go.RowKit Go.Proofs.Sx
open Ecl
theorem Spot_S (n : Int) (w : World) : Ret Tryz.prog 79 #[.int .i64 n] w fun u w1 => u = .bool (isPlace n) ∧ w1 = w := by
 refine enter Tryz.func79 rfl (N := 5) rfl rfl fun a h => ?_
 refine rg ?_
 refine wsn h rfl fun a h => ?_
 refine rg ?_
 refine wmv h rfl fun a h => ?_
 refine wl (cal h rfl en107 (in_S _ _ _ _) fun u w1 ⟨e1, e2⟩ a h => ?_)
 subst e1
 subst e2
 refine wsn h rfl fun a h => ?_
 refine wp_ret ?_
 try simp only [xqs]
 refine rt_1 h rfl (rvT h rfl) ?_
 exact ⟨_, rfl, by simp only [isPlace, Bool.true_and, Bool.false_and, Bool.and_true, Bool.and_false, Bool.or_true, Bool.true_or, Bool.or_false, Bool.false_or, Bool.not_true, Bool.not_false], rfl⟩
theorem Limit_S (n : Int) (w : World) : Ret Tryz.prog 50 #[.int .i64 n] w fun u w1 => u = .bool (isLimit n) ∧ w1 = w := by
 refine enter Tryz.func50 rfl (N := 5) rfl rfl fun a h => ?_
 refine rg ?_
 refine wsn h rfl fun a h => ?_
 refine rg ?_
 refine wmv h rfl fun a h => ?_
 refine wl (cal h rfl en107 (in_S _ _ _ _) fun u w1 ⟨e1, e2⟩ a h => ?_)
 subst e1
 subst e2
 refine wsn h rfl fun a h => ?_
 refine wp_ret ?_
 try simp only [xqs]
 refine rt_1 h rfl (rvT h rfl) ?_
 exact ⟨_, rfl, by simp only [isLimit, Bool.true_and, Bool.false_and, Bool.and_true, Bool.and_false, Bool.or_true, Bool.true_or, Bool.or_false, Bool.false_or, Bool.not_true, Bool.not_false], rfl⟩
theorem period_S (a9 b9 : Int) (w : World) : Ret Tryz.prog 112 #[.agg #[.int .i64 a9, .int .i64 b9]] w fun u w' => u = .bool (isPeriod a9 b9) ∧ Below w.heap.size w w' := by
 have hp : Hp c0 w w [] := Hp.start trivial
 refine enter Tryz.func112 rfl (N := 19) rfl rfl fun a h => ?_
 refine rg ?_
 refine wl (box (cs := #[_, _]) h hp rfl rfl fun a w1 g1 hg1 h hp => ?_)
 refine wsn h rfl fun a h => ?_
 refine rg ?_
 refine wvl h (fad h rfl fo24_0) fun a h => ?_
 refine wvl h (ldo h hp rfl 0 rfl rfl ag3) fun a h => ?_
 refine wl (cal h rfl en107 (in_S _ _ _ _) fun u w2 ⟨e1, e2⟩ a h => ?_)
 subst e1
 subst e2
 refine wmv h rfl fun a h => ?_
 refine split (t := 6) h rfl (fun hb1 => ?_) (fun hb1 => ?_)
 ·refine wl (stp_on h rfl rfl rfl hb1 (vl h (fad h rfl fo24_1) fun a h => ?_))
  refine wl (stp_on h rfl rfl rfl hb1 (vl h (ldo h hp rfl 0 rfl rfl ag3) fun a h => ?_))
  refine wl (stp_on h rfl rfl rfl hb1 (cal h rfl en107 (in_S _ _ _ _) fun u w3 ⟨e1, e2⟩ a h => ?_))
  subst e1
  subst e2
  refine wvl h (pckT h rfl hb1 rfl) fun a h => ?_
  refine wmv h rfl fun a h => ?_
  refine split (t := 11) h rfl (fun hb2 => ?_) (fun hb2 => ?_)
  ·refine wl (stp_on h rfl rfl rfl hb2 (vl h (fad h rfl fo24_0) fun a h => ?_))
   refine wl (stp_on h rfl rfl rfl hb2 (vl h (ldo h hp rfl 0 rfl rfl ag3) fun a h => ?_))
   refine wl (stp_on h rfl rfl rfl hb2 (vl h (fad h rfl fo24_1) fun a h => ?_))
   refine wl (stp_on h rfl rfl rfl hb2 (vl h (ldo h hp rfl 0 rfl rfl ag3) fun a h => ?_))
   refine wl (stp_on h rfl rfl rfl hb2 (vl h (mul h rfl rfl (by simp only [inR, Bool.and_eq_true, decide_eq_true_eq] at hb1 hb2; omega)) fun a h => ?_))
   refine wl (stp_on h rfl rfl rfl hb2 (vl h (geq h rfl rfl) fun a h => ?_))
   refine wvl h (pckT h rfl hb2 rfl) fun a h => ?_
   refine wsn h rfl fun a h => ?_
   refine wp_ret ?_
   try simp only [xqs]
   refine rt_1 h rfl (rvT h rfl) ?_
   exact ⟨_, rfl, by simp only [isPeriod, hb1, hb2, Bool.true_and, Bool.false_and, Bool.and_true, Bool.and_false, Bool.or_true, Bool.true_or, Bool.or_false, Bool.false_or, Bool.not_true, Bool.not_false], hp.bel⟩
  refine wl (stp_off h rfl rfl rfl rfl rfl hb2 fun a h => ?_)
  refine wl (stp_off h rfl rfl rfl rfl rfl hb2 fun a h => ?_)
  refine wl (stp_off h rfl rfl rfl rfl rfl hb2 fun a h => ?_)
  refine wl (stp_off h rfl rfl rfl rfl rfl hb2 fun a h => ?_)
  refine wl (stp_off h rfl rfl rfl rfl rfl hb2 fun a h => ?_)
  refine wl (stp_off h rfl rfl rfl rfl rfl hb2 fun a h => ?_)
  refine wvl h (pckF h rfl hb2 rfl) fun a h => ?_
  refine wsn h rfl fun a h => ?_
  refine wp_ret ?_
  try simp only [xqs]
  refine rt_1 h rfl (rvT h rfl) ?_
  exact ⟨_, rfl, by simp only [isPeriod, hb1, hb2, Bool.true_and, Bool.false_and, Bool.and_true, Bool.and_false, Bool.or_true, Bool.true_or, Bool.or_false, Bool.false_or, Bool.not_true, Bool.not_false], hp.bel⟩
 refine wl (stp_off h rfl rfl rfl rfl rfl hb1 fun a h => ?_)
 refine wl (stp_off h rfl rfl rfl rfl rfl hb1 fun a h => ?_)
 refine wl (stp_off h rfl rfl rfl rfl rfl hb1 fun a h => ?_)
 refine wvl h (pckF h rfl hb1 rfl) fun a h => ?_
 refine wmv h rfl fun a h => ?_
 refine wl (stp_off h rfl rfl rfl rfl rfl rfl fun a h => ?_)
 refine wl (stp_off h rfl rfl rfl rfl rfl rfl fun a h => ?_)
 refine wl (stp_off h rfl rfl rfl rfl rfl rfl fun a h => ?_)
 refine wl (stp_off h rfl rfl rfl rfl rfl rfl fun a h => ?_)
 refine wl (stp_off h rfl rfl rfl rfl rfl rfl fun a h => ?_)
 refine wl (stp_off h rfl rfl rfl rfl rfl rfl fun a h => ?_)
 refine wvl h (pckF h rfl rfl rfl) fun a h => ?_
 refine wsn h rfl fun a h => ?_
 refine wp_ret ?_
 try simp only [xqs]
 refine rt_1 h rfl (rvT h rfl) ?_
 exact ⟨_, rfl, by simp only [isPeriod, hb1, Bool.true_and, Bool.false_and, Bool.and_true, Bool.and_false, Bool.or_true, Bool.true_or, Bool.or_false, Bool.false_or, Bool.not_true, Bool.not_false], hp.bel⟩
theorem Sky_S (x : EV) (e : Eng) (w : World) (hS : RdS w x e) : Ret Tryz.prog 56 #[.agg #[x.b.v, .int .i64 e.nnum, .int .i64 e.nden, .int .i64 e.nstart]] w fun u w' => u = .bool (isSky e) ∧ Below w.heap.size w w' := by
 have hp : Hp c0 w w [] := Hp.start trivial
 refine enter Tryz.func56 rfl (N := 65) rfl rfl fun a h => ?_
 refine rg ?_
 refine wl (box (cs := #[_, _, _, _]) h hp rfl rfl fun a w1 g1 hg1 h hp => ?_)
 refine wsn h rfl fun a h => ?_
 refine wp_seq ?_
 refine rg ?_
 refine wsn h rfl fun a h => ?_
 refine lp1 h [1] (fun n f w' => ∃ k : Nat, k ≤ x.bs.length ∧ n = x.bs.length - k ∧ f = [(3, .int .i64 k)] ∧ Hp c0 w w' ([.blk g1 (.cells #[x.b.v, .int .i64 e.nnum, .int .i64 e.nden, .int .i64 e.nstart] 28 (0, 0))]) ∧ (x.bs.take k).all (fun y => isBodyB y.1) = true) (x.bs.length) [(3, .int .i64 ((0 : Nat) : Int))] ⟨rfl, rfl, trivial⟩ ⟨0, Nat.zero_le _, rfl, rfl, hp, rfl⟩ ?_
 rintro n f a w2 ⟨k, hk, rfl, rfl, hp, hI⟩ h
 have hfit := hS.b.fits
 refine wp_seq ?_
 refine rg ?_
 refine wmv h rfl fun a h => ?_
 refine wvl h (fad h rfl fo28_0) fun a h => ?_
 refine wvl h (ldo h hp rfl 0 rfl rfl ag22) fun a h => ?_
 refine wvl h (lenR h rfl Tryz.underlying22 (hS.keep hp cl0).b) fun a h => ?_
 refine wvl h (lss h rfl rfl) fun a h => ?_
 refine wn ?_
 refine cnd1 h rfl (fun hb1 => ?_) (fun hb1 => ?_)
 ·have hlt : k < x.bs.length := by have := of_decide_eq_true hb1; omega
  obtain ⟨y, hy⟩ : ∃ y, x.bs[k]? = some y := ⟨_, List.getElem?_eq_getElem hlt⟩
  refine skp ?_
  refine blk ?_
  refine rg ?_
  refine wvl h (fad h rfl fo28_0) fun a h => ?_
  refine wvl h (ldo h hp rfl 0 rfl rfl ag22) fun a h => ?_
  refine wmv h rfl fun a h => ?_
  refine wvl h (iadR (k) h rfl rfl Tryz.underlying22 sz46 (hS.keep hp cl0).b (rfl) (hlt)) fun a h => ?_
  refine wvl h (ldE h (hS.keep hp cl0).b hy rfl ag46 sz46) fun a h => ?_
  refine wl (all h hp zc46 fun a w3 g2 hg2 h hp => ?_)
  refine wl (sta h hp rfl rfl 1 rfl sz46 rfl rfl fun w4 hp => ?_)
  refine wn ?_
  refine wp_seq ?_
  refine rg ?_
  refine wvl h (fad h rfl fo46_0) fun a h => ?_
  refine wvl h (ldO (us := [_, _]) h hp rfl 1 rfl sz24 rfl ag24) fun a h => ?_
  refine wl (cal h rfl en112 (period_S _ _ _) fun u w5 ⟨e1, e2⟩ a h => ?_)
  subst e1
  have hp := hp.below e2
  refine wvl h (not_ h rfl) fun a h => ?_
  refine wmv h rfl fun a h => ?_
  refine split (t := 22) h rfl (fun hb2 => ?_) (fun hb2 => ?_)
  ·have hper : isPeriod y.1.num y.1.den = false := by simpa using hb2
   have hbb : isBodyB y.1 = false := by rw [isBodyB, hper]; rfl
   refine wl (stp_off h rfl rfl rfl rfl rfl hb2 fun a h => ?_)
   refine wl (stp_off h rfl rfl rfl rfl rfl hb2 fun a h => ?_)
   refine wl (stp_off h rfl rfl rfl rfl rfl hb2 fun a h => ?_)
   refine wl (stp_off h rfl rfl rfl rfl rfl hb2 fun a h => ?_)
   refine wvl h (pckT h rfl hb2 rfl) fun a h => ?_
   refine wmv h rfl fun a h => ?_
   refine wl (stp_off h rfl rfl rfl rfl rfl rfl fun a h => ?_)
   refine wl (stp_off h rfl rfl rfl rfl rfl rfl fun a h => ?_)
   refine wl (stp_off h rfl rfl rfl rfl rfl rfl fun a h => ?_)
   refine wl (stp_off h rfl rfl rfl rfl rfl rfl fun a h => ?_)
   refine wl (stp_off h rfl rfl rfl rfl rfl rfl fun a h => ?_)
   refine wvl h (pckT h rfl rfl rfl) fun a h => ?_
   refine wn ?_
   refine cnd1 h rfl (fun _ => ?_) (fun e => nomatch e)
   refine rg ?_
   refine wsn h rfl fun a h => ?_
   refine wp_ret ?_
   try simp only [xqs]
   refine rt_1 h rfl (rvT h rfl) ?_
   exact ⟨_, rfl, by simp only [isSky, hS.bs, List.length_map, List.all_map, Function.comp_def, show (x.bs.all fun y => isBodyB y.1) = false from all_bad (p := fun y : BV => isBodyB y.1) hy hbb, Bool.and_false], hp.bel⟩
  have hper : isPeriod y.1.num y.1.den = true := by simpa using hb2
  refine wl (stp_on h rfl rfl rfl hb2 (vl h (fad h rfl fo46_1) fun a h => ?_))
  refine wl (stp_on h rfl rfl rfl hb2 (vl h (ldo h hp rfl 1 rfl rfl ag3) fun a h => ?_))
  refine wl (stp_on h rfl rfl rfl hb2 (cal h rfl en79 (Spot_S _ _) fun u w6 ⟨e1, e2⟩ a h => ?_))
  subst e1
  subst e2
  refine wl (stp_on h rfl rfl rfl hb2 (vl h (not_ h rfl) fun a h => ?_))
  refine wvl h (pckF h rfl hb2 rfl) fun a h => ?_
  refine wmv h rfl fun a h => ?_
  refine split (t := 28) h rfl (fun hb3 => ?_) (fun hb3 => ?_)
  ·have hpl : isPlace y.1.start = false := by simpa using hb3
   have hbb : isBodyB y.1 = false := by rw [isBodyB, hper, hpl]; rfl
   refine wl (stp_off h rfl rfl rfl rfl rfl hb3 fun a h => ?_)
   refine wl (stp_off h rfl rfl rfl rfl rfl hb3 fun a h => ?_)
   refine wl (stp_off h rfl rfl rfl rfl rfl hb3 fun a h => ?_)
   refine wl (stp_off h rfl rfl rfl rfl rfl hb3 fun a h => ?_)
   refine wl (stp_off h rfl rfl rfl rfl rfl hb3 fun a h => ?_)
   refine wvl h (pckT h rfl hb3 rfl) fun a h => ?_
   refine wn ?_
   refine cnd1 h rfl (fun _ => ?_) (fun e => nomatch e)
   refine rg ?_
   refine wsn h rfl fun a h => ?_
   refine wp_ret ?_
   try simp only [xqs]
   refine rt_1 h rfl (rvT h rfl) ?_
   exact ⟨_, rfl, by simp only [isSky, hS.bs, List.length_map, List.all_map, Function.comp_def, show (x.bs.all fun y => isBodyB y.1) = false from all_bad (p := fun y : BV => isBodyB y.1) hy hbb, Bool.and_false], hp.bel⟩
  have hpl : isPlace y.1.start = true := by simpa using hb3
  refine wl (stp_on h rfl rfl rfl hb3 (vl h (fad h rfl fo46_2) fun a h => ?_))
  refine wl (stp_on h rfl rfl rfl hb3 (vl h (ldo h hp rfl 1 rfl rfl ag30) fun a h => ?_))
  refine wl (stp_on h rfl rfl rfl hb3 (vl h (lenR h rfl Tryz.underlying30 ((hS.road y (List.mem_of_getElem? hy)).keep (by decide) hp cl0)) fun a h => ?_))
  refine wl (stp_on h rfl rfl rfl hb3 (cal h rfl en107 (in_S _ _ _ _) fun u w7 ⟨e1, e2⟩ a h => ?_))
  subst e1
  subst e2
  refine wl (stp_on h rfl rfl rfl hb3 (vl h (not_ h rfl) fun a h => ?_))
  refine wvl h (pckF h rfl hb3 rfl) fun a h => ?_
  refine wn ?_
  refine cnd1 h rfl (fun hb4 => ?_) (fun hb4 => ?_)
  ·have hrl : inR (y.1.road.length : Int) 1 8 = false := by simpa using hb4
   have hbb : isBodyB y.1 = false := by rw [isBodyB, hper, hpl, hrl]; rfl
   refine rg ?_
   refine wsn h rfl fun a h => ?_
   refine wp_ret ?_
   try simp only [xqs]
   refine rt_1 h rfl (rvT h rfl) ?_
   exact ⟨_, rfl, by simp only [isSky, hS.bs, List.length_map, List.all_map, Function.comp_def, show (x.bs.all fun y => isBodyB y.1) = false from all_bad (p := fun y : BV => isBodyB y.1) hy hbb, Bool.and_false], hp.bel⟩
  have hrl : inR (y.1.road.length : Int) 1 8 = true := by simpa using hb4
  refine skp ?_
  refine rg ?_
  refine wsn h rfl fun a h => ?_
  refine lp1 h [1, 3, 4] (fun n f w' => ∃ j : Nat, j ≤ y.1.road.length ∧ n = y.1.road.length - j ∧ f = [(5, .int .i64 j)] ∧ Hp c0 w w' ([.blk g1 (.cells #[x.b.v, .int .i64 e.nnum, .int .i64 e.nden, .int .i64 e.nstart] 28 (0, 0)), .blk g2 (.cells #[.int .i64 y.1.num, .int .i64 y.1.den, .int .i64 y.1.start, y.2.v] 46 (0, 0))]) ∧ (y.1.road.take j).all (fun n => inR n (-600) 600) = true) (y.1.road.length) [(5, .int .i64 ((0 : Nat) : Int))] ⟨rfl, rfl, rfl, rfl, trivial⟩ ⟨0, Nat.zero_le _, rfl, rfl, hp, rfl⟩ ?_
  rintro n f a w8 ⟨j, hk2, rfl, rfl, hp, hJ⟩ h
  have hfit2 := (hS.road y (List.mem_of_getElem? hy)).fits
  refine wp_seq ?_
  refine rg ?_
  refine wmv h rfl fun a h => ?_
  refine wvl h (fad h rfl fo46_2) fun a h => ?_
  refine wvl h (ldo h hp rfl 1 rfl rfl ag30) fun a h => ?_
  refine wvl h (lenR h rfl Tryz.underlying30 ((hS.road y (List.mem_of_getElem? hy)).keep (by decide) hp cl0)) fun a h => ?_
  refine wvl h (lss h rfl rfl) fun a h => ?_
  refine wn ?_
  refine cnd1 h rfl (fun hb5 => ?_) (fun hb5 => ?_)
  ·have hlt2 : j < y.1.road.length := by have := of_decide_eq_true hb5; omega
   obtain ⟨z, hz⟩ : ∃ z, y.1.road[j]? = some z := ⟨_, List.getElem?_eq_getElem hlt2⟩
   refine skp ?_
   refine blk ?_
   refine rg ?_
   refine wvl h (fad h rfl fo46_2) fun a h => ?_
   refine wvl h (ldo h hp rfl 1 rfl rfl ag30) fun a h => ?_
   refine wmv h rfl fun a h => ?_
   refine wvl h (iadR (j) h rfl rfl Tryz.underlying30 sz3 ((hS.road y (List.mem_of_getElem? hy)).keep (by decide) hp cl0) (rfl) (hlt2)) fun a h => ?_
   refine wvl h (ld0 h ((hS.road y (List.mem_of_getElem? hy)).keep (by decide) hp cl0) hz rfl ag3 rfl) fun a h => ?_
   refine wl (cal h rfl en107 (in_S _ _ _ _) fun u w9 ⟨e1, e2⟩ a h => ?_)
   subst e1
   subst e2
   refine wvl h (not_ h rfl) fun a h => ?_
   refine wn ?_
   refine cnd1 h rfl (fun hb6 => ?_) (fun hb6 => ?_)
   ·have hrd : inR z (-600) 600 = false := by simpa using hb6
    have hbb : isBodyB y.1 = false := by rw [isBodyB, all_bad hz hrd, Bool.and_false]
    refine rg ?_
    refine wsn h rfl fun a h => ?_
    refine wp_ret ?_
    try simp only [xqs]
    refine rt_1 h rfl (rvT h rfl) ?_
    exact ⟨_, rfl, by simp only [isSky, hS.bs, List.length_map, List.all_map, Function.comp_def, show (x.bs.all fun y => isBodyB y.1) = false from all_bad (p := fun y : BV => isBodyB y.1) hy hbb, Bool.and_false], hp.bel⟩
   have hrd : inR z (-600) 600 = true := by simpa using hb6
   refine wp_skip ?_
   refine rg1 ?_
   refine wmv h rfl fun a h => ?_
   refine wvl h (add h rfl rfl (by omega)) fun a h => ?_
   refine wsn h rfl fun a h => ?_
   exact ⟨_, _, (by omega), ⟨j + 1, by omega, rfl, rfl, hp, all_snoc hz hJ hrd⟩, h.sub ⟨rfl, rfl, rfl, rfl, trivial⟩⟩
  have hend2 : j = y.1.road.length := by have := of_decide_eq_false hb5; omega
  subst hend2
  rw [List.take_length] at hJ
  have hok : isBodyB y.1 = true := by rw [isBodyB, hper, hpl, hrl, hJ]; rfl
  refine wp_exit ?_
  try simp only [xqs, ↓reduceIte, Nat.reduceEqDiff]
  refine rg1 ?_
  refine wmv h rfl fun a h => ?_
  refine wvl h (add h rfl rfl (by omega)) fun a h => ?_
  refine wsn h rfl fun a h => ?_
  exact ⟨_, _, (by omega), ⟨k + 1, by omega, rfl, rfl, hp.pre 1 rfl, all_snoc (p := fun y : BV => isBodyB y.1) hy hI hok⟩, h.sub ⟨rfl, rfl, trivial⟩⟩
 have hend : k = x.bs.length := by have := of_decide_eq_false hb1; omega
 subst hend
 rw [List.take_length] at hI
 refine wp_exit ?_
 try simp only [xqs, ↓reduceIte, Nat.reduceEqDiff]
 refine rg ?_
 refine wvl h (fad h rfl fo28_0) fun a h => ?_
 refine wvl h (ldo h hp rfl 0 rfl rfl ag22) fun a h => ?_
 refine wvl h (lenR h rfl Tryz.underlying22 (hS.keep hp cl0).b) fun a h => ?_
 refine wl (cal h rfl en107 (in_S _ _ _ _) fun u w10 ⟨e1, e2⟩ a h => ?_)
 subst e1
 subst e2
 refine wmv h rfl fun a h => ?_
 refine split (t := 53) h rfl (fun hb7 => ?_) (fun hb7 => ?_)
 ·refine wl (stp_on h rfl rfl rfl hb7 (vl h (fad h rfl fo28_1) fun a h => ?_))
  refine wl (stp_on h rfl rfl rfl hb7 (vl h (fad h rfl fo26_0) fun a h => ?_))
  refine wl (stp_on h rfl rfl rfl hb7 (vl h (ldO (us := [_, _]) h hp rfl 0 rfl sz24 rfl ag24) fun a h => ?_))
  refine wl (stp_on h rfl rfl rfl hb7 (cal h rfl en112 (period_S _ _ _) fun u w11 ⟨e1, e2⟩ a h => ?_))
  subst e1
  have hp := hp.below e2
  refine wvl h (pckT h rfl hb7 rfl) fun a h => ?_
  refine wmv h rfl fun a h => ?_
  refine split (t := 59) h rfl (fun hb8 => ?_) (fun hb8 => ?_)
  ·refine wl (stp_on h rfl rfl rfl hb8 (vl h (fad h rfl fo28_1) fun a h => ?_))
   refine wl (stp_on h rfl rfl rfl hb8 (vl h (fad h rfl fo26_1) fun a h => ?_))
   refine wl (stp_on h rfl rfl rfl hb8 (vl h (ldo h hp rfl 0 rfl rfl ag3) fun a h => ?_))
   refine wl (stp_on h rfl rfl rfl hb8 (cal h rfl en79 (Spot_S _ _) fun u w12 ⟨e1, e2⟩ a h => ?_))
   subst e1
   subst e2
   refine wvl h (pckT h rfl hb8 rfl) fun a h => ?_
   refine wsn h rfl fun a h => ?_
   refine wp_ret ?_
   try simp only [xqs]
   refine rt_1 h rfl (rvT h rfl) ?_
   exact ⟨_, rfl, by simp only [isSky, hS.bs, List.length_map, List.all_map, Function.comp_def, hI, hb1, hb7, hb8, Bool.true_and, Bool.false_and, Bool.and_true, Bool.and_false, Bool.or_true, Bool.true_or, Bool.or_false, Bool.false_or, Bool.not_true, Bool.not_false], hp.bel⟩
  refine wl (stp_off h rfl rfl rfl rfl rfl hb8 fun a h => ?_)
  refine wl (stp_off h rfl rfl rfl rfl rfl hb8 fun a h => ?_)
  refine wl (stp_off h rfl rfl rfl rfl rfl hb8 fun a h => ?_)
  refine wl (stp_off h rfl rfl rfl rfl rfl hb8 fun a h => ?_)
  refine wvl h (pckF h rfl hb8 rfl) fun a h => ?_
  refine wsn h rfl fun a h => ?_
  refine wp_ret ?_
  try simp only [xqs]
  refine rt_1 h rfl (rvT h rfl) ?_
  exact ⟨_, rfl, by simp only [isSky, hS.bs, List.length_map, List.all_map, Function.comp_def, hI, hb1, hb7, hb8, Bool.true_and, Bool.false_and, Bool.and_true, Bool.and_false, Bool.or_true, Bool.true_or, Bool.or_false, Bool.false_or, Bool.not_true, Bool.not_false], hp.bel⟩
 refine wl (stp_off h rfl rfl rfl rfl rfl hb7 fun a h => ?_)
 refine wl (stp_off h rfl rfl rfl rfl rfl hb7 fun a h => ?_)
 refine wl (stp_off h rfl rfl rfl rfl rfl hb7 fun a h => ?_)
 refine wl (stp_off h rfl rfl rfl rfl rfl hb7 fun a h => ?_)
 refine wvl h (pckF h rfl hb7 rfl) fun a h => ?_
 refine wmv h rfl fun a h => ?_
 refine wl (stp_off h rfl rfl rfl rfl rfl rfl fun a h => ?_)
 refine wl (stp_off h rfl rfl rfl rfl rfl rfl fun a h => ?_)
 refine wl (stp_off h rfl rfl rfl rfl rfl rfl fun a h => ?_)
 refine wl (stp_off h rfl rfl rfl rfl rfl rfl fun a h => ?_)
 refine wvl h (pckF h rfl rfl rfl) fun a h => ?_
 refine wsn h rfl fun a h => ?_
 refine wp_ret ?_
 try simp only [xqs]
 refine rt_1 h rfl (rvT h rfl) ?_
 exact ⟨_, rfl, by simp only [isSky, hS.bs, List.length_map, List.all_map, Function.comp_def, hI, hb1, hb7, Bool.true_and, Bool.false_and, Bool.and_true, Bool.and_false, Bool.or_true, Bool.true_or, Bool.or_false, Bool.false_or, Bool.not_true, Bool.not_false], hp.bel⟩
theorem down_S (a9 b9 : Int) (w : World) (ha : -1000000000000000000 ≤ a9 ∧ a9 ≤ 1000000000000000000) (hb : 0 < b9 ∧ b9 ≤ 1000000000000) : Ret Tryz.prog 134 #[.int .i64 a9, .int .i64 b9] w fun u w' => u = .int .i64 (a9 / b9) ∧ Below w.heap.size w w' := by
 have hd := down_bd hb.1 ha
 have hp : Hp c0 w w [] := Hp.start trivial
 refine enter Tryz.func134 rfl (N := 17) rfl rfl fun a h => ?_
 refine rg ?_
 refine wsn h rfl fun a h => ?_
 refine rg ?_
 refine wm2 h rfl rfl rfl rfl fun a h => ?_
 refine wvl h (quo h rfl rfl (by omega) (by omega)) fun a h => ?_
 refine wsn h rfl fun a h => ?_
 refine wp_seq ?_
 refine rg ?_
 refine wm2 h rfl rfl rfl rfl fun a h => ?_
 refine wvl h (mul h rfl rfl (by omega)) fun a h => ?_
 refine wmv h rfl fun a h => ?_
 refine wvl h (gtr h rfl rfl) fun a h => ?_
 refine wn ?_
 refine cnd1 h rfl (fun hb1 => ?_) (fun hb1 => ?_)
 ·refine rg1 ?_
  refine wmv h rfl fun a h => ?_
  refine wvl h (sub h rfl rfl (by omega)) fun a h => ?_
  refine wsn h rfl fun a h => ?_
  refine rg ?_
  refine wmv h rfl fun a h => ?_
  refine wsn h rfl fun a h => ?_
  refine wp_ret ?_
  try simp only [xqs]
  refine rt_1 h rfl (rvT h rfl) ?_
  exact ⟨_, rfl, by rw [← down_eq hb.1]; first | rw [if_pos (of_decide_eq_true hb1)] | rw [if_neg (of_decide_eq_false hb1)], hp.bel⟩
 refine skp ?_
 refine rg ?_
 refine wmv h rfl fun a h => ?_
 refine wsn h rfl fun a h => ?_
 refine wp_ret ?_
 try simp only [xqs]
 refine rt_1 h rfl (rvT h rfl) ?_
 exact ⟨_, rfl, by rw [← down_eq hb.1]; first | rw [if_pos (of_decide_eq_true hb1)] | rw [if_neg (of_decide_eq_false hb1)], hp.bel⟩
theorem Less_S (n9 : Int) (w : World) (hn : -1000000000000000000 ≤ n9 ∧ n9 ≤ 1000000000000000000) : Ret Tryz.prog 80 #[.int .i64 n9] w fun u w' => u = .int .i64 (around n9) ∧ Below w.heap.size w w' := by
 have hp : Hp c0 w w [] := Hp.start trivial
 refine enter Tryz.func80 rfl (N := 8) rfl rfl fun a h => ?_
 refine rg ?_
 refine wsn h rfl fun a h => ?_
 refine rg ?_
 refine wm2 h rfl rfl rfl rfl fun a h => ?_
 refine wl (cal h rfl en134 (down_S _ _ _ (by omega) (by omega)) fun u w1 ⟨e1, e2⟩ a h => ?_)
 subst e1
 have hp := hp.below e2
 refine wvl h (mul h rfl rfl (by omega)) fun a h => ?_
 refine wvl h (sub h rfl rfl (by omega)) fun a h => ?_
 refine wsn h rfl fun a h => ?_
 refine wp_ret ?_
 try simp only [xqs]
 refine rt_1 h rfl (rvT h rfl) ?_
 exact ⟨_, rfl, by rw [less_eq], hp.bel⟩
theorem mean_S (y : BV) (t : Int) (w : World) (hv : isBodyB y.1 = true) (ht : 0 ≤ t ∧ t ≤ 20000) : Ret Tryz.prog 154 #[.agg #[.int .i64 y.1.num, .int .i64 y.1.den, .int .i64 y.1.start, y.2.v], .int .i64 t] w fun u w' => u = .int .i64 (mean y.1 t) ∧ Below w.heap.size w w' := by
 obtain ⟨p1, p2, p3, p4, p5, p6⟩ := body_bd hv
 have hmb := mean_bd hv ht
 have m0 := mul_bd (a := t * 21600) (b := y.1.den) (A := 432000000) (B := 10000) (by omega) (by omega) (by omega) (by omega)
 have hg := gone_bd (num := y.1.num) (den := y.1.den) (t := t) p1.1 p2 p3 ht
 rw [gone] at hg
 have hp : Hp c0 w w [] := Hp.start trivial
 refine enter Tryz.func154 rfl (N := 18) rfl rfl fun a h => ?_
 refine rg ?_
 refine wl (box (cs := #[_, _, _, _]) h hp rfl rfl fun a w1 g1 hg1 h hp => ?_)
 refine wsn h rfl fun a h => ?_
 refine rdh (n := 14) hp mixed rfl ?_
 have hp := hp.drew
 refine tkq 0 h rfl hp (fun W _ => fad h rfl fo46_1) fun a h => ?_
 refine tkq 1 h rfl hp (fun W hp => ldo h hp rfl 0 rfl rfl ag3) fun a h => ?_
 refine tkm 2 h rfl hp rfl fun a h => ?_
 refine tkq 3 h rfl hp (fun W _ => mul h rfl rfl (by omega)) fun a h => ?_
 refine tkq 4 h rfl hp (fun W _ => fad h rfl fo46_0) fun a h => ?_
 refine tkq 5 h rfl hp (fun W _ => fad h rfl fo24_1) fun a h => ?_
 refine tkq 6 h rfl hp (fun W hp => ldo h hp rfl 0 rfl rfl ag3) fun a h => ?_
 refine tkq 7 h rfl hp (fun W _ => mul h rfl rfl (by omega)) fun a h => ?_
 refine tkq 8 h rfl hp (fun W _ => fad h rfl fo46_0) fun a h => ?_
 refine tkq 9 h rfl hp (fun W _ => fad h rfl fo24_0) fun a h => ?_
 refine tkq 10 h rfl hp (fun W hp => ldo h hp rfl 0 rfl rfl ag3) fun a h => ?_
 refine tkq 11 h rfl hp (fun W _ => quo0 h rfl rfl (by omega) (by omega)) fun a h => ?_
 refine tkq 12 h rfl hp (fun W _ => add h rfl rfl (by omega)) fun a h => ?_
 refine tka 13 h rfl hp rfl fun a h => ?_
 refine dn (by kernel_rfl) ?_
 refine wp_ret ?_
 try simp only [xqs]
 refine rt_1 h rfl (rvT h rfl) ?_
 exact ⟨_, rfl, rfl, hp.bel⟩
theorem Mean_S (y : BV) (t : Int) (w : World) (hv : isBodyB y.1 = true) (ht : 0 ≤ t ∧ t ≤ 20000) : Ret Tryz.prog 110 #[.agg #[.int .i64 y.1.num, .int .i64 y.1.den, .int .i64 y.1.start, y.2.v], .int .i64 t] w fun u w' => u = .int .i64 (around (mean y.1 t)) ∧ Below w.heap.size w w' := by
 obtain ⟨p1, p2, p3, p4, p5, p6⟩ := body_bd hv
 have hmb := mean_bd hv ht
 have m0 := mul_bd (a := t * 21600) (b := y.1.den) (A := 432000000) (B := 10000) (by omega) (by omega) (by omega) (by omega)
 have hg := gone_bd (num := y.1.num) (den := y.1.den) (t := t) p1.1 p2 p3 ht
 rw [gone] at hg
 have hp : Hp c0 w w [] := Hp.start trivial
 refine enter Tryz.func110 rfl (N := 9) rfl rfl fun a h => ?_
 refine rg ?_
 refine wl (box (cs := #[_, _, _, _]) h hp rfl rfl fun a w1 g1 hg1 h hp => ?_)
 refine wsn h rfl fun a h => ?_
 refine rg ?_
 refine wvl h (ldO (us := [_, _, _, _]) h hp rfl 0 rfl sz46 rfl ag46) fun a h => ?_
 refine wmv h rfl fun a h => ?_
 refine wl (cal h rfl en154 (mean_S y t _ hv (by omega)) fun u w2 ⟨e1, e2⟩ a h => ?_)
 subst e1
 have hp := hp.below e2
 refine wl (cal h rfl en80 (Less_S _ _ (by omega)) fun u w3 ⟨e1, e2⟩ a h => ?_)
 subst e1
 have hp := hp.below e2
 refine wsn h rfl fun a h => ?_
 refine wp_ret ?_
 try simp only [xqs]
 refine rt_1 h rfl (rvT h rfl) ?_
 exact ⟨_, rfl, rfl, hp.ext.below⟩
theorem Node_S (e : Eng) (t : Int) (w : World) (hsk : isSky e = true) (ht : 0 ≤ t ∧ t ≤ 20000) : Ret Tryz.prog 111 #[.agg #[.int .i64 e.nnum, .int .i64 e.nden, .int .i64 e.nstart], .int .i64 t] w fun u w' => u = .int .i64 (nodeAt e t) ∧ Below w.heap.size w w' := by
 obtain ⟨k1, k2, k3, -⟩ := sky_bd hsk
 have hg := node_bd k1 k2 ht
 rw [gone] at hg
 have m0 := mul_bd (a := t * 21600) (b := e.nden) (A := 432000000) (B := 10000) (by omega) (by omega) (by omega) (by omega)
 have hp : Hp c0 w w [] := Hp.start trivial
 refine enter Tryz.func111 rfl (N := 19) rfl rfl fun a h => ?_
 refine rg ?_
 refine wl (box (cs := #[_, _, _]) h hp rfl rfl fun a w1 g1 hg1 h hp => ?_)
 refine wsn h rfl fun a h => ?_
 refine rdh (n := 15) hp mixed rfl ?_
 have hp := hp.drew
 refine tkq 0 h rfl hp (fun W _ => fad h rfl fo26_1) fun a h => ?_
 refine tkq 1 h rfl hp (fun W hp => ldo h hp rfl 0 rfl rfl ag3) fun a h => ?_
 refine tkm 2 h rfl hp rfl fun a h => ?_
 refine tkq 3 h rfl hp (fun W _ => mul h rfl rfl (by omega)) fun a h => ?_
 refine tkq 4 h rfl hp (fun W _ => fad h rfl fo26_0) fun a h => ?_
 refine tkq 5 h rfl hp (fun W _ => fad h rfl fo24_1) fun a h => ?_
 refine tkq 6 h rfl hp (fun W hp => ldo h hp rfl 0 rfl rfl ag3) fun a h => ?_
 refine tkq 7 h rfl hp (fun W _ => mul h rfl rfl (by omega)) fun a h => ?_
 refine tkq 8 h rfl hp (fun W _ => fad h rfl fo26_0) fun a h => ?_
 refine tkq 9 h rfl hp (fun W _ => fad h rfl fo24_0) fun a h => ?_
 refine tkq 10 h rfl hp (fun W hp => ldo h hp rfl 0 rfl rfl ag3) fun a h => ?_
 refine tkq 11 h rfl hp (fun W _ => quo0 h rfl rfl (by omega) (by omega)) fun a h => ?_
 refine tkq 12 h rfl hp (fun W _ => sub h rfl rfl (by omega)) fun a h => ?_
 refine one 13 (by kernel_rfl) rfl (cal h rfl en80 (Less_S _ _ (by omega)) fun u w2 ⟨e1, e2⟩ a h => ⟨hp.below e2, ?_⟩)
 subst e1
 have hp := hp.below e2
 refine tka 14 h rfl hp rfl fun a h => ?_
 refine dn (by kernel_rfl) ?_
 refine wp_ret ?_
 try simp only [xqs]
 refine rt_1 h rfl (rvT h rfl) ?_
 exact ⟨_, rfl, rfl, hp.bel⟩
theorem way_S (y : BV) (t : Int) (w : World) (hv : isBodyB y.1 = true) (ht : 0 ≤ t ∧ t ≤ 20000) (hRo : Rd w encI 1 y.2.v y.1.road) : Ret Tryz.prog 212 #[.agg #[.int .i64 y.1.num, .int .i64 y.1.den, .int .i64 y.1.start, y.2.v], .int .i64 t] w fun u w' => u = .int .i64 (way y.1 t) ∧ Below w.heap.size w w' := by
 obtain ⟨p1, p2, p3, p4, p5, p6⟩ := body_bd hv
 have hmb := mean_bd hv ht
 obtain ⟨i0, hi, hl0, hc, hl1⟩ := road_at hv (mean y.1 t)
 obtain ⟨z, hz⟩ : ∃ z, y.1.road[i0]? = some z := ⟨_, List.getElem?_eq_getElem hl0⟩
 obtain ⟨z2, hz2⟩ : ∃ z2, y.1.road[(i0 + 1) % y.1.road.length]? = some z2 := ⟨_, List.getElem?_eq_getElem hl1⟩
 have hz6 := p6 z (List.mem_of_getElem? hz)
 have hy6 := p6 z2 (List.mem_of_getElem? hz2)
 have ha := around_bd (mean y.1 t)
 have m := mul_bd (a := around (mean y.1 t)) (b := (y.1.road.length : Int)) (A := 21599) (B := 8) (by omega) (by omega) (by omega) (by omega)
 have m2 := mul_bd2 (a := z2 - z) (b := around (mean y.1 t) * (y.1.road.length : Int) % 21600) (A := 1200) (B := 21600) (by omega) (by omega) (by omega) (by omega)
 have m3 := div_bd (a := (z2 - z) * (around (mean y.1 t) * (y.1.road.length : Int) % 21600)) (b := 21600) (B := 25920000) (by omega) (by omega) (by omega)
 have hp : Hp c0 w w [] := Hp.start trivial
 refine enter Tryz.func212 rfl (N := 48) rfl rfl fun a h => ?_
 refine rg ?_
 refine wl (box (cs := #[_, _, _, _]) h hp rfl rfl fun a w1 g1 hg1 h hp => ?_)
 refine wsn h rfl fun a h => ?_
 refine rdh (n := 8) hp mixed rfl ?_
 have hp := hp.drew
 refine tkq 0 h rfl hp (fun W hp => ldO (us := [_, _, _, _]) h hp rfl 0 rfl sz46 rfl ag46) fun a h => ?_
 refine tkm 1 h rfl hp rfl fun a h => ?_
 refine tkq 3 h rfl hp (fun W _ => fad h rfl fo46_2) fun a h => ?_
 refine tkq 4 h rfl hp (fun W hp => ldo h hp rfl 0 rfl rfl ag30) fun a h => ?_
 refine tkq 5 h rfl hp (fun W hp => lenR h rfl Tryz.underlying30 (hRo.keep (by decide) hp cl0)) fun a h => ?_
 refine one 2 (by kernel_rfl) rfl (cal h rfl en110 (Mean_S y t _ hv (by omega)) fun u w2 ⟨e1, e2⟩ a h => ⟨hp.below e2, ?_⟩)
 subst e1
 have hp := hp.below e2
 refine tkq 6 h rfl hp (fun W _ => mul h rfl rfl (by omega)) fun a h => ?_
 refine tka 7 h rfl hp rfl fun a h => ?_
 refine dn (by kernel_rfl) ?_
 refine rg ?_
 refine wmv h rfl fun a h => ?_
 refine wvl h (quo0 h rfl rfl (by omega) (by omega)) fun a h => ?_
 refine wsn h rfl fun a h => ?_
 refine rdh (n := 11) hp mixed rfl ?_
 have hp := hp.drew
 refine tkq 0 h rfl hp (fun W _ => fad h rfl fo46_2) fun a h => ?_
 refine tkq 1 h rfl hp (fun W hp => ldo h hp rfl 0 rfl rfl ag30) fun a h => ?_
 refine tkm 2 h rfl hp rfl fun a h => ?_
 refine tkq 3 h rfl hp (fun W _ => add h rfl rfl (by omega)) fun a h => ?_
 refine tkq 4 h rfl hp (fun W _ => fad h rfl fo46_2) fun a h => ?_
 refine tkq 5 h rfl hp (fun W hp => ldo h hp rfl 0 rfl rfl ag30) fun a h => ?_
 refine tkq 6 h rfl hp (fun W hp => lenR h rfl Tryz.underlying30 (hRo.keep (by decide) hp cl0)) fun a h => ?_
 refine tkq 7 h rfl hp (fun W _ => rem0 h rfl rfl (by omega) (by omega)) fun a h => ?_
 refine tkq 8 h rfl hp (fun W hp => iadR ((i0 + 1) % y.1.road.length) h rfl rfl Tryz.underlying30 sz3 (hRo.keep (by decide) hp cl0) (by rw [hi, hc]) (hl1)) fun a h => ?_
 refine tkq 9 h rfl hp (fun W hp => ld0 h (hRo.keep (by decide) hp cl0) hz2 rfl ag3 rfl) fun a h => ?_
 refine tka 10 h rfl hp rfl fun a h => ?_
 refine dn (by kernel_rfl) ?_
 refine rdh (n := 22) hp mixed rfl ?_
 have hp := hp.drew
 refine tkq 0 h rfl hp (fun W hp => ldO (us := [_, _, _, _]) h hp rfl 0 rfl sz46 rfl ag46) fun a h => ?_
 refine tkm 1 h rfl hp rfl fun a h => ?_
 refine tkq 3 h rfl hp (fun W _ => fad h rfl fo46_2) fun a h => ?_
 refine tkq 4 h rfl hp (fun W hp => ldo h hp rfl 0 rfl rfl ag30) fun a h => ?_
 refine tkm 5 h rfl hp rfl fun a h => ?_
 refine tkq 6 h rfl hp (fun W hp => iadR (i0) h rfl rfl Tryz.underlying30 sz3 (hRo.keep (by decide) hp cl0) (hi) (hl0)) fun a h => ?_
 refine tkq 7 h rfl hp (fun W hp => ld0 h (hRo.keep (by decide) hp cl0) hz rfl ag3 rfl) fun a h => ?_
 refine tkm 9 h rfl hp rfl fun a h => ?_
 refine tkq 10 h rfl hp (fun W _ => fad h rfl fo46_2) fun a h => ?_
 refine tkq 11 h rfl hp (fun W hp => ldo h hp rfl 0 rfl rfl ag30) fun a h => ?_
 refine tkm 12 h rfl hp rfl fun a h => ?_
 refine tkq 13 h rfl hp (fun W hp => iadR (i0) h rfl rfl Tryz.underlying30 sz3 (hRo.keep (by decide) hp cl0) (hi) (hl0)) fun a h => ?_
 refine tkq 14 h rfl hp (fun W hp => ld0 h (hRo.keep (by decide) hp cl0) hz rfl ag3 rfl) fun a h => ?_
 refine tkq 15 h rfl hp (fun W _ => sub h rfl rfl (by omega)) fun a h => ?_
 refine tkm 16 h rfl hp rfl fun a h => ?_
 refine tkq 17 h rfl hp (fun W _ => rem0 h rfl rfl (by omega) (by omega)) fun a h => ?_
 refine tkq 18 h rfl hp (fun W _ => mul h rfl rfl (by omega)) fun a h => ?_
 refine one 2 (by kernel_rfl) rfl (cal h rfl en154 (mean_S y t _ hv (by omega)) fun u w3 ⟨e1, e2⟩ a h => ⟨hp.below e2, ?_⟩)
 subst e1
 have hp := hp.below e2
 refine tkq 8 h rfl hp (fun W _ => add h rfl rfl (by omega)) fun a h => ?_
 refine one 19 (by kernel_rfl) rfl (cal h rfl en134 (down_S _ _ _ (by omega) (by omega)) fun u w4 ⟨e1, e2⟩ a h => ⟨hp.below e2, ?_⟩)
 subst e1
 have hp := hp.below e2
 refine tkq 20 h rfl hp (fun W _ => add h rfl rfl (by omega)) fun a h => ?_
 refine tka 21 h rfl hp rfl fun a h => ?_
 refine dn (by kernel_rfl) ?_
 refine wp_ret ?_
 try simp only [xqs]
 refine rt_1 h rfl (rvT h rfl) ?_
 exact ⟨_, rfl, by rw [way_eq hi hc hz hz2], hp.bel⟩
theorem Place_S (y : BV) (t : Int) (w : World) (hv : isBodyB y.1 = true) (ht : 0 ≤ t ∧ t ≤ 20000) (hRo : Rd w encI 1 y.2.v y.1.road) : Ret Tryz.prog 189 #[.agg #[.int .i64 y.1.num, .int .i64 y.1.den, .int .i64 y.1.start, y.2.v], .int .i64 t] w fun u w' => u = .int .i64 (around (way y.1 t)) ∧ Below w.heap.size w w' := by
 have hwb := way_bd hv ht
 have hp : Hp c0 w w [] := Hp.start trivial
 refine enter Tryz.func189 rfl (N := 9) rfl rfl fun a h => ?_
 refine rg ?_
 refine wl (box (cs := #[_, _, _, _]) h hp rfl rfl fun a w1 g1 hg1 h hp => ?_)
 refine wsn h rfl fun a h => ?_
 refine rg ?_
 refine wvl h (ldO (us := [_, _, _, _]) h hp rfl 0 rfl sz46 rfl ag46) fun a h => ?_
 refine wmv h rfl fun a h => ?_
 refine wl (cal h rfl en212 (way_S y t _ hv (by omega) (hRo.keep (by decide) hp cl0)) fun u w2 ⟨e1, e2⟩ a h => ?_)
 subst e1
 have hp := hp.below e2
 refine wl (cal h rfl en80 (Less_S _ _ (by omega)) fun u w3 ⟨e1, e2⟩ a h => ?_)
 subst e1
 have hp := hp.below e2
 refine wsn h rfl fun a h => ?_
 refine wp_ret ?_
 try simp only [xqs]
 refine rt_1 h rfl (rvT h rfl) ?_
 exact ⟨_, rfl, rfl, hp.ext.below⟩
theorem ahead_S (x : EV) (e : Eng) (t : Int) (w : World) (hS : RdS w x e) (hsk : isSky e = true) (ht : 0 ≤ t ∧ t ≤ 20000) : Ret Tryz.prog 211 #[.agg #[x.b.v, .int .i64 e.nnum, .int .i64 e.nden, .int .i64 e.nstart], .int .i64 ((1 : Nat) : Int), .int .i64 ((0 : Nat) : Int), .int .i64 t] w fun u w' => u = .int .i64 (lunar e t) ∧ Below w.heap.size w w' := by
 obtain ⟨hbl, b0, b1, hB0, hB1, e0, e1, v0, v1⟩ := sky2 hS hsk
 have wb0 := way_bd v0 ht
 have wb1 := way_bd v1 ht
 rw [← e0] at wb0
 rw [← e1] at wb1
 rw [e0] at wb0
 rw [e1] at wb1
 have hp : Hp c0 w w [] := Hp.start trivial
 refine enter Tryz.func211 rfl (N := 24) rfl rfl fun a h => ?_
 refine rg ?_
 refine wl (box (cs := #[_, _, _, _]) h hp rfl rfl fun a w1 g1 hg1 h hp => ?_)
 refine wsn h rfl fun a h => ?_
 refine rdh (n := 16) hp mixed rfl ?_
 have hp := hp.drew
 refine tkq 0 h rfl hp (fun W _ => fad h rfl fo28_0) fun a h => ?_
 refine tkq 1 h rfl hp (fun W hp => ldo h hp rfl 0 rfl rfl ag22) fun a h => ?_
 refine tkm 2 h rfl hp rfl fun a h => ?_
 refine tkq 3 h rfl hp (fun W hp => iadR (1) h rfl rfl Tryz.underlying22 sz46 (hS.keep hp cl0).b (rfl) (by omega)) fun a h => ?_
 refine tkq 4 h rfl hp (fun W hp => ldE h (hS.keep hp cl0).b hB1 rfl ag46 sz46) fun a h => ?_
 refine tkm 5 h rfl hp rfl fun a h => ?_
 refine tkq 7 h rfl hp (fun W _ => fad h rfl fo28_0) fun a h => ?_
 refine tkq 8 h rfl hp (fun W hp => ldo h hp rfl 0 rfl rfl ag22) fun a h => ?_
 refine tkm 9 h rfl hp rfl fun a h => ?_
 refine tkq 10 h rfl hp (fun W hp => iadR (0) h rfl rfl Tryz.underlying22 sz46 (hS.keep hp cl0).b (rfl) (by omega)) fun a h => ?_
 refine tkq 11 h rfl hp (fun W hp => ldE h (hS.keep hp cl0).b hB0 rfl ag46 sz46) fun a h => ?_
 refine tkm 12 h rfl hp rfl fun a h => ?_
 refine one 6 (by kernel_rfl) rfl (cal h rfl en212 (way_S b1 t _ v1 ht ((hS.road b1 (List.mem_of_getElem? hB1)).keep (by decide) hp cl0)) fun u w2 ⟨e1, e2⟩ a h => ⟨hp.below e2, ?_⟩)
 subst e1
 have hp := hp.below e2
 refine one 13 (by kernel_rfl) rfl (cal h rfl en212 (way_S b0 t _ v0 ht ((hS.road b0 (List.mem_of_getElem? hB0)).keep (by decide) hp cl0)) fun u w3 ⟨e1, e2⟩ a h => ⟨hp.below e2, ?_⟩)
 subst e1
 have hp := hp.below e2
 refine tkq 14 h rfl hp (fun W _ => sub h rfl rfl (by omega)) fun a h => ?_
 refine tka 15 h rfl hp rfl fun a h => ?_
 refine dn (by kernel_rfl) ?_
 refine wp_ret ?_
 try simp only [xqs]
 refine rt_1 h rfl (rvT h rfl) ?_
 exact ⟨_, rfl, by rw [lunar, e0, e1], hp.bel⟩
theorem passed_S (a9 b9 : Int) (w : World) (ha : -1000000000000000000 ≤ a9 ∧ a9 ≤ 1000000000000000000) (hb : -1000000000000000000 ≤ b9 ∧ b9 ≤ 1000000000000000000) : Ret Tryz.prog 210 #[.int .i64 a9, .int .i64 b9] w fun u w' => u = .bool (decide (a9 / 21600 < b9 / 21600)) ∧ Below w.heap.size w w' := by
 have hp : Hp c0 w w [] := Hp.start trivial
 refine enter Tryz.func210 rfl (N := 10) rfl rfl fun a h => ?_
 refine rg ?_
 refine wsn h rfl fun a h => ?_
 refine rg ?_
 refine wmv h rfl fun a h => ?_
 refine wl (cal h rfl en134 (down_S _ _ _ (by omega) (by omega)) fun u w1 ⟨e1, e2⟩ a h => ?_)
 subst e1
 have hp := hp.below e2
 refine wmv h rfl fun a h => ?_
 refine wl (cal h rfl en134 (down_S _ _ _ (by omega) (by omega)) fun u w2 ⟨e1, e2⟩ a h => ?_)
 subst e1
 have hp := hp.below e2
 refine wvl h (gtr h rfl rfl) fun a h => ?_
 refine wsn h rfl fun a h => ?_
 refine wp_ret ?_
 try simp only [xqs]
 refine rt_1 h rfl (rvT h rfl) ?_
 exact ⟨_, rfl, rfl, hp.ext.below⟩
theorem Moon_S (x : EV) (e : Eng) (t : Int) (full : Bool) (w : World) (hS : RdS w x e) (hsk : isSky e = true) (ht : 1 ≤ t ∧ t ≤ 20000) : Ret Tryz.prog 188 #[.agg #[x.b.v, .int .i64 e.nnum, .int .i64 e.nden, .int .i64 e.nstart], .int .i64 t, .bool full] w fun u w' => u = .bool (skyMoon e t full) ∧ Below w.heap.size w w' := by
 obtain ⟨hbl, b0, b1, hB0, hB1, e0, e1, v0, v1⟩ := sky2 hS hsk
 have wb0 := way_bd v0 (t := t) (by omega)
 have wb1 := way_bd v1 (t := t) (by omega)
 have wa0 := way_bd v0 (t := t - 1) (by omega)
 have wa1 := way_bd v1 (t := t - 1) (by omega)
 rw [← e0] at wb0 wa0
 rw [← e1] at wb1 wa1
 have hl0 : lunar e t = way e.b1 t - way e.b0 t := rfl
 have hl1 : lunar e (t - 1) = way e.b1 (t - 1) - way e.b0 (t - 1) := rfl
 have hp : Hp c0 w w [] := Hp.start trivial
 refine enter Tryz.func188 rfl (N := 21) rfl rfl fun a h => ?_
 refine rg ?_
 refine wl (box (cs := #[_, _, _, _]) h hp rfl rfl fun a w1 g1 hg1 h hp => ?_)
 refine wsn h rfl fun a h => ?_
 refine rg ?_
 refine wsn h rfl fun a h => ?_
 refine wp_seq ?_
 refine rg ?_
 refine wmv h rfl fun a h => ?_
 refine wn ?_
 refine cnd1 h rfl (fun hb1 => ?_) (fun hb1 => ?_)
 ·refine rg1 ?_
  refine wsn h rfl fun a h => ?_
  refine rdh (n := 13) hp mixed rfl ?_
  have hp := hp.drew
  refine tkq 0 h rfl hp (fun W hp => ldO (us := [_, _, _, _]) h hp rfl 0 rfl sz28 rfl ag28) fun a h => ?_
  refine tkm 1 h rfl hp rfl fun a h => ?_
  refine tkq 2 h rfl hp (fun W _ => sub h rfl rfl (by omega)) fun a h => ?_
  refine tkm 4 h rfl hp rfl fun a h => ?_
  refine tkq 6 h rfl hp (fun W hp => ldO (us := [_, _, _, _]) h hp rfl 0 rfl sz28 rfl ag28) fun a h => ?_
  refine tkm 7 h rfl hp rfl fun a h => ?_
  refine tkm 9 h rfl hp rfl fun a h => ?_
  refine one 3 (by kernel_rfl) rfl (cal h rfl en211 (ahead_S x e _ _ (hS.keep hp cl0) hsk (by omega)) fun u w2 ⟨e1, e2⟩ a h => ⟨hp.below e2, ?_⟩)
  subst e1
  have hp := hp.below e2
  refine tkq 5 h rfl hp (fun W _ => sub h rfl rfl (by omega)) fun a h => ?_
  refine one 8 (by kernel_rfl) rfl (cal h rfl en211 (ahead_S x e _ _ (hS.keep hp cl0) hsk (by omega)) fun u w3 ⟨e1, e2⟩ a h => ⟨hp.below e2, ?_⟩)
  subst e1
  have hp := hp.below e2
  refine tkq 10 h rfl hp (fun W _ => sub h rfl rfl (by omega)) fun a h => ?_
  refine one 11 (by kernel_rfl) rfl (cal h rfl en210 (passed_S _ _ _ (by omega) (by omega)) fun u w4 ⟨e1, e2⟩ a h => ⟨hp.below e2, ?_⟩)
  subst e1
  have hp := hp.below e2
  refine tka 12 h rfl hp rfl fun a h => ?_
  refine dn (by kernel_rfl) ?_
  refine wp_ret ?_
  try simp only [xqs]
  refine rt_1 h rfl (rvT h rfl) ?_
  exact ⟨_, rfl, by rw [hb1]; simp [skyMoon, halfIf], hp.bel⟩
 refine skp ?_
 refine rdh (n := 13) hp mixed rfl ?_
 have hp := hp.drew
 refine tkq 0 h rfl hp (fun W hp => ldO (us := [_, _, _, _]) h hp rfl 0 rfl sz28 rfl ag28) fun a h => ?_
 refine tkm 1 h rfl hp rfl fun a h => ?_
 refine tkq 2 h rfl hp (fun W _ => sub h rfl rfl (by omega)) fun a h => ?_
 refine tkm 4 h rfl hp rfl fun a h => ?_
 refine tkq 6 h rfl hp (fun W hp => ldO (us := [_, _, _, _]) h hp rfl 0 rfl sz28 rfl ag28) fun a h => ?_
 refine tkm 7 h rfl hp rfl fun a h => ?_
 refine tkm 9 h rfl hp rfl fun a h => ?_
 refine one 3 (by kernel_rfl) rfl (cal h rfl en211 (ahead_S x e _ _ (hS.keep hp cl0) hsk (by omega)) fun u w5 ⟨e1, e2⟩ a h => ⟨hp.below e2, ?_⟩)
 subst e1
 have hp := hp.below e2
 refine tkq 5 h rfl hp (fun W _ => sub h rfl rfl (by omega)) fun a h => ?_
 refine one 8 (by kernel_rfl) rfl (cal h rfl en211 (ahead_S x e _ _ (hS.keep hp cl0) hsk (by omega)) fun u w6 ⟨e1, e2⟩ a h => ⟨hp.below e2, ?_⟩)
 subst e1
 have hp := hp.below e2
 refine tkq 10 h rfl hp (fun W _ => sub h rfl rfl (by omega)) fun a h => ?_
 refine one 11 (by kernel_rfl) rfl (cal h rfl en210 (passed_S _ _ _ (by omega) (by omega)) fun u w7 ⟨e1, e2⟩ a h => ⟨hp.below e2, ?_⟩)
 subst e1
 have hp := hp.below e2
 refine tka 12 h rfl hp rfl fun a h => ?_
 refine dn (by kernel_rfl) ?_
 refine wp_ret ?_
 try simp only [xqs]
 refine rt_1 h rfl (rvT h rfl) ?_
 exact ⟨_, rfl, by rw [hb1]; simp [skyMoon, halfIf], hp.bel⟩
theorem Moons_S (x : EV) (e : Eng) (d1 d2 : Int) (w : World) (hS : RdS w x e) (hsk : isSky e = true) (hab : 1 ≤ d1 ∧ d2 ≤ 20000 ∧ d2 - d1 ≤ 900) : Ret Tryz.prog 166 #[.agg #[x.b.v, .int .i64 e.nnum, .int .i64 e.nden, .int .i64 e.nstart], .int .i64 d1, .int .i64 d2] w fun u w' => (∃ s : SV, u = s.v ∧ Fr w w' encMoon 2 s.v (moonsAll e d1 d2)) ∧ Below w.heap.size w w' := by
 have hp : Hp c0 w w [] := Hp.start trivial
 refine enter Tryz.func166 rfl (N := 32) rfl rfl fun a h => ?_
 refine rg ?_
 refine wl (box (cs := #[_, _, _, _]) h hp rfl rfl fun a w1 g1 hg1 h hp => ?_)
 refine wsn h rfl fun a h => ?_
 refine rg ?_
 refine wsn h rfl fun a h => ?_
 refine wp_seq ?_
 refine rg ?_
 refine wmv h rfl fun a h => ?_
 refine wsn h rfl fun a h => ?_
 have hp := hp.nilB 118 2
 refine lp1 h [2, 3, 6] (fun n f w' => ∃ (k : Nat) (s1 : SV), n = (d2 + 1 - (d1 + k)).toNat ∧ (d1 + k ≤ d2 + 1 ∨ k = 0) ∧ f = [(8, .int .i64 (d1 + k)), (7, s1.v)] ∧ Hp c0 w w' [.blk g1 (.cells #[x.b.v, .int .i64 e.nnum, .int .i64 e.nden, .int .i64 e.nstart] 28 (0, 0)), .buf 118 2 s1.v ((daysN k d1).flatMap (moonsOn e)).length (((daysN k d1).flatMap (moonsOn e)).flatMap encMoon)]) ((d2 + 1 - d1).toNat) [(8, .int .i64 d1), (7, .slice none 0 0)] ⟨rfl, rfl, rfl, rfl, rfl, trivial⟩ ⟨0, ⟨none, 0, 0⟩, by simp, .inr rfl, by simp; rfl, hp⟩ ?_
 rintro n f a w2 ⟨k, s1, rfl, hk, rfl, hp⟩ h
 have hml := flat_len2 (moonsOn e) (moonsOn_length e) (daysN k d1)
 rw [daysN_len] at hml
 refine wp_seq ?_
 refine rg ?_
 refine wm2 h rfl rfl rfl rfl fun a h => ?_
 refine wvl h (leq h rfl rfl) fun a h => ?_
 refine wn ?_
 refine cnd1 h rfl (fun hb1 => ?_) (fun hb1 => ?_)
 ·have hlt := of_decide_eq_true hb1
  refine skp ?_
  refine blk ?_
  refine wp_seq ?_
  refine rg ?_
  refine wvl h (ldO (us := [_, _, _, _]) h hp rfl 0 rfl sz28 rfl ag28) fun a h => ?_
  refine wmv h rfl fun a h => ?_
  refine wl (cal h rfl en188 (Moon_S x e _ _ _ (hS.keep hp cl0) hsk (by omega)) fun u w3 ⟨e1, e2⟩ a h => ?_)
  subst e1
  have hp := hp.below e2
  refine wn ?_
  refine cnd1 h rfl (fun hb2 => ?_) (fun hb2 => ?_)
  ·have hm1 : skyMoon e (d1 + k) false = true := hb2
   refine rg1 ?_
   refine wm2 h rfl rfl rfl rfl fun a h => ?_
   refine wvl h (bld h rfl (bl118_0 _ _)) fun a h => ?_
   refine wl (bsl h hp rfl (bs115_1_0 _ _) fun a w4 g2 hg2 h hp => ?_)
   refine wl (app1 1 h hp rfl rfl rfl ap115 2 rfl rfl rfl (by omega) (by omega) fun a w5 v h hp => ?_)
   refine wsn h rfl fun a h => ?_
   refine rg ?_
   refine wvl h (ldO (us := [_, _, _, _]) h hp rfl 0 rfl sz28 rfl ag28) fun a h => ?_
   refine wmv h rfl fun a h => ?_
   refine wl (cal h rfl en188 (Moon_S x e _ _ _ (hS.keep hp cl0) hsk (by omega)) fun u w6 ⟨e1, e2⟩ a h => ?_)
   subst e1
   have hp := hp.below e2
   refine wn ?_
   refine cnd1 h rfl (fun hb3 => ?_) (fun hb3 => ?_)
   ·have hm2 : skyMoon e (d1 + k) true = true := hb3
    refine rg1 ?_
    refine wm2 h rfl rfl rfl rfl fun a h => ?_
    refine wvl h (bld h rfl (bl118_0_1 _ _ _)) fun a h => ?_
    refine wl (bsl h hp rfl (bs115_1_0 _ _) fun a w7 g3 hg3 h hp => ?_)
    refine wl (app1 1 h hp rfl rfl rfl ap115 3 rfl rfl rfl (by omega) (by omega) fun a w8 v h hp => ?_)
    refine wsg h rfl fun a h => ?_
    refine wn' ?_
    try simp only [xqs, ↓reduceIte, Nat.reduceEqDiff]
    refine rg1 ?_
    refine wmv h rfl fun a h => ?_
    refine wvl h (add h rfl rfl (by omega)) fun a h => ?_
    refine wsn h rfl fun a h => ?_
    exact ⟨_, _, (by omega), ⟨k + 1, _, rfl, by omega, congrArg (fun z => [(8, Value.int .i64 z), (7, _)]) (by push_cast; omega : d1 + (k : Int) + 1 = d1 + ((k + 1 : Nat) : Int)), hp.pre 2 (by rw [daysN_snoc, List.flatMap_append]; simp [moonsOn, hm1, hm2, encMoon])⟩, h.sub ⟨rfl, rfl, rfl, rfl, rfl, trivial⟩⟩
   have hm2 : skyMoon e (d1 + k) true = false := hb3
   refine wp_skip ?_
   refine rg1 ?_
   refine wmv h rfl fun a h => ?_
   refine wvl h (add h rfl rfl (by omega)) fun a h => ?_
   refine wsn h rfl fun a h => ?_
   exact ⟨_, _, (by omega), ⟨k + 1, _, rfl, by omega, congrArg (fun z => [(8, Value.int .i64 z), (7, _)]) (by push_cast; omega : d1 + (k : Int) + 1 = d1 + ((k + 1 : Nat) : Int)), hp.pre 2 (by rw [daysN_snoc, List.flatMap_append]; simp [moonsOn, hm1, hm2, encMoon])⟩, h.sub ⟨rfl, rfl, rfl, rfl, rfl, trivial⟩⟩
  have hm1 : skyMoon e (d1 + k) false = false := hb2
  refine skp ?_
  refine rg ?_
  refine wvl h (ldO (us := [_, _, _, _]) h hp rfl 0 rfl sz28 rfl ag28) fun a h => ?_
  refine wmv h rfl fun a h => ?_
  refine wl (cal h rfl en188 (Moon_S x e _ _ _ (hS.keep hp cl0) hsk (by omega)) fun u w9 ⟨e1, e2⟩ a h => ?_)
  subst e1
  have hp := hp.below e2
  refine wn ?_
  refine cnd1 h rfl (fun hb4 => ?_) (fun hb4 => ?_)
  ·have hm2 : skyMoon e (d1 + k) true = true := hb4
   refine rg1 ?_
   refine wm2 h rfl rfl rfl rfl fun a h => ?_
   refine wvl h (bld h rfl (bl118_0_1 _ _ _)) fun a h => ?_
   refine wl (bsl h hp rfl (bs115_1_0 _ _) fun a w10 g4 hg4 h hp => ?_)
   refine wl (app1 1 h hp rfl rfl rfl ap115 2 rfl rfl rfl (by omega) (by omega) fun a w11 v h hp => ?_)
   refine wsg h rfl fun a h => ?_
   refine wn' ?_
   try simp only [xqs, ↓reduceIte, Nat.reduceEqDiff]
   refine rg1 ?_
   refine wmv h rfl fun a h => ?_
   refine wvl h (add h rfl rfl (by omega)) fun a h => ?_
   refine wsn h rfl fun a h => ?_
   exact ⟨_, _, (by omega), ⟨k + 1, _, rfl, by omega, congrArg (fun z => [(8, Value.int .i64 z), (7, _)]) (by push_cast; omega : d1 + (k : Int) + 1 = d1 + ((k + 1 : Nat) : Int)), hp.pre 2 (by rw [daysN_snoc, List.flatMap_append]; simp [moonsOn, hm1, hm2, encMoon])⟩, h.sub ⟨rfl, rfl, rfl, rfl, rfl, trivial⟩⟩
  have hm2 : skyMoon e (d1 + k) true = false := hb4
  refine wp_skip ?_
  refine rg1 ?_
  refine wmv h rfl fun a h => ?_
  refine wvl h (add h rfl rfl (by omega)) fun a h => ?_
  refine wsn h rfl fun a h => ?_
  exact ⟨_, _, (by omega), ⟨k + 1, _, rfl, by omega, congrArg (fun z => [(8, Value.int .i64 z), (7, _)]) (by push_cast; omega : d1 + (k : Int) + 1 = d1 + ((k + 1 : Nat) : Int)), hp.pre 2 (by rw [daysN_snoc, List.flatMap_append]; simp [moonsOn, hm1, hm2, encMoon])⟩, h.sub ⟨rfl, rfl, rfl, rfl, rfl, trivial⟩⟩
 have hge := of_decide_eq_false hb1
 rw [days_end hge hk] at hp
 refine wp_exit ?_
 try simp only [xqs, ↓reduceIte, Nat.reduceEqDiff]
 refine rg ?_
 refine wmv h rfl fun a h => ?_
 refine wsn h rfl fun a h => ?_
 refine wp_ret ?_
 try simp only [xqs]
 refine rt_1 h rfl (rvT h rfl) ?_
 exact ⟨_, rfl, ⟨s1, rfl, hp.frB (i := 1) rfl rfl rfl (fun _ _ => rfl)⟩, hp.bel⟩
theorem Far_S (x : EV) (e : Eng) (t : Int) (w : World) (hS : RdS w x e) (hsk : isSky e = true) (ht : 0 ≤ t ∧ t ≤ 20000) : Ret Tryz.prog 167 #[.agg #[x.b.v, .int .i64 e.nnum, .int .i64 e.nden, .int .i64 e.nstart], .int .i64 t] w fun u w' => u = .int .i64 (skyFar e t) ∧ Below w.heap.size w w' := by
 obtain ⟨hbl, b0, b1, hB0, hB1, e0, e1, v0, v1⟩ := sky2 hS hsk
 have wb1 := way_bd v1 ht
 have ha := around_bd (way b1.1 t)
 have hn := around_bd (e.nstart - gone e.nnum e.nden t)
 have hn2 : nodeAt e t = around (e.nstart - gone e.nnum e.nden t) := rfl
 have ha2 := around_bd (around (way b1.1 t) - nodeAt e t)
 have hp : Hp c0 w w [] := Hp.start trivial
 refine enter Tryz.func167 rfl (N := 23) rfl rfl fun a h => ?_
 refine rg ?_
 refine wl (box (cs := #[_, _, _, _]) h hp rfl rfl fun a w1 g1 hg1 h hp => ?_)
 refine wsn h rfl fun a h => ?_
 refine rdh (n := 14) hp mixed rfl ?_
 have hp := hp.drew
 refine tkq 0 h rfl hp (fun W _ => fad h rfl fo28_0) fun a h => ?_
 refine tkq 1 h rfl hp (fun W hp => ldo h hp rfl 0 rfl rfl ag22) fun a h => ?_
 refine tkq 2 h rfl hp (fun W hp => iadR (1) h rfl rfl Tryz.underlying22 sz46 (hS.keep hp cl0).b (rfl) (by omega)) fun a h => ?_
 refine tkq 3 h rfl hp (fun W hp => ldE h (hS.keep hp cl0).b hB1 rfl ag46 sz46) fun a h => ?_
 refine tkm 4 h rfl hp rfl fun a h => ?_
 refine tkq 6 h rfl hp (fun W _ => fad h rfl fo28_1) fun a h => ?_
 refine tkq 7 h rfl hp (fun W hp => ldO (us := [_, _, _]) h hp rfl 0 rfl sz26 rfl ag26) fun a h => ?_
 refine tkm 8 h rfl hp rfl fun a h => ?_
 refine one 5 (by kernel_rfl) rfl (cal h rfl en189 (Place_S b1 t _ v1 ht ((hS.road b1 (List.mem_of_getElem? hB1)).keep (by decide) hp cl0)) fun u w2 ⟨e1, e2⟩ a h => ⟨hp.below e2, ?_⟩)
 subst e1
 have hp := hp.below e2
 refine one 9 (by kernel_rfl) rfl (cal h rfl en111 (Node_S e _ _ hsk (by omega)) fun u w3 ⟨e1, e2⟩ a h => ⟨hp.below e2, ?_⟩)
 subst e1
 have hp := hp.below e2
 refine tkq 10 h rfl hp (fun W _ => sub h rfl rfl (by omega)) fun a h => ?_
 refine one 11 (by kernel_rfl) rfl (cal h rfl en80 (Less_S _ _ (by omega)) fun u w4 ⟨e1, e2⟩ a h => ⟨hp.below e2, ?_⟩)
 subst e1
 have hp := hp.below e2
 refine tkq 12 h rfl hp (fun W _ => rem0 h rfl rfl (by omega) (by omega)) fun a h => ?_
 refine tka 13 h rfl hp rfl fun a h => ?_
 refine dn (by kernel_rfl) ?_
 refine rg ?_
 refine wm2 h rfl rfl rfl rfl fun a h => ?_
 refine wvl h (sub h rfl rfl (by omega)) fun a h => ?_
 refine wvl h (min_ h rfl rfl) fun a h => ?_
 refine wsn h rfl fun a h => ?_
 refine wp_ret ?_
 try simp only [xqs]
 refine rt_1 h rfl (rvT h rfl) ?_
 exact ⟨_, rfl, by rw [skyFar, e1, farOf, far_ref], hp.bel⟩
theorem Eclipses_S (x : EV) (e : Eng) (d1 d2 : Int) (w : World) (hS : RdS w x e) (hsk : isSky e = true) (hab : 1 ≤ d1 ∧ d2 ≤ 20000 ∧ d2 - d1 ≤ 800) : Ret Tryz.prog 136 #[.agg #[x.b.v, .int .i64 e.nnum, .int .i64 e.nden, .int .i64 e.nstart], .int .i64 e.new, .int .i64 e.full, .int .i64 d1, .int .i64 d2] w fun u w' => (∃ s : SV, u = s.v ∧ Fr w w' encM 3 s.v (skyAll e d1 d2)) ∧ Below w.heap.size w w' := by
 have hp : Hp c0 w w [] := Hp.start trivial
 refine enter Tryz.func136 rfl (N := 59) rfl rfl fun a h => ?_
 refine rg ?_
 refine wl (box (cs := #[_, _, _, _]) h hp rfl rfl fun a w1 g1 hg1 h hp => ?_)
 refine wsn h rfl fun a h => ?_
 refine rg ?_
 refine wsn h rfl fun a h => ?_
 refine rg ?_
 refine wvl h (ldO (us := [_, _, _, _]) h hp rfl 0 rfl sz28 rfl ag28) fun a h => ?_
 refine wm2 h rfl rfl rfl rfl fun a h => ?_
 refine wl (cal h rfl en166 (Moons_S x e _ _ _ (hS.keep hp cl0) hsk (by omega)) fun u w2 ⟨⟨s21, e1, hf⟩, e2⟩ a h => ?_)
 subst e1
 have hp := hp.got (hp.below e2) (by decide) hf
 refine wsn h rfl fun a h => ?_
 refine wp_seq ?_
 refine rg ?_
 refine wsn h rfl fun a h => ?_
 have hp := hp.nilB 59 3
 refine lp1 h [1, 2, 5, 10, 12] (fun n f w' => ∃ k : Nat, ∃ s1 : SV, k ≤ (moonsAll e d1 d2).length ∧ n = (moonsAll e d1 d2).length - k ∧ f = [(13, .int .i64 k), (11, s1.v)] ∧ Hp c0 w w' ([.blk g1 (.cells #[x.b.v, .int .i64 e.nnum, .int .i64 e.nden, .int .i64 e.nstart] 28 (0, 0)), rdE encMoon 2 s21.v (moonsAll e d1 d2), .buf 59 3 s1.v (((moonsAll e d1 d2).take k).flatMap (eclOf e)).length ((((moonsAll e d1 d2).take k).flatMap (eclOf e)).flatMap encM)]) ∧ True) ((moonsAll e d1 d2).length) [(13, .int .i64 ((0 : Nat) : Int)), (11, .slice none 0 0)] ⟨rfl, rfl, rfl, rfl, rfl, rfl, rfl, trivial⟩ ⟨0, ⟨none, 0, 0⟩, Nat.zero_le _, rfl, rfl, hp, trivial⟩ ?_
 rintro n f a w3 ⟨k, s1, hk, rfl, rfl, hp, _⟩ h
 have hfit := (hp.rdF (i := 1) rfl).fits
 refine wp_seq ?_
 refine rg ?_
 have hml := moons_len e (a := d1) (b := d2) (by omega)
 refine wm2 h rfl rfl rfl rfl fun a h => ?_
 refine wvl h (lenR h rfl Tryz.underlying115 (hp.rdF (i := 1) rfl)) fun a h => ?_
 refine wvl h (lss h rfl rfl) fun a h => ?_
 refine wn ?_
 refine cnd1 h rfl (fun hb1 => ?_) (fun hb1 => ?_)
 ·have hlt : k < (moonsAll e d1 d2).length := by have := of_decide_eq_true hb1; omega
  obtain ⟨y, hy⟩ : ∃ y, (moonsAll e d1 d2)[k]? = some y := ⟨_, List.getElem?_eq_getElem hlt⟩
  have hyb := moons_mem (List.mem_of_getElem? hy)
  have hel := ecl_take e (moonsAll e d1 d2) k
  have hfb := skyFar_bd e y.1
  refine skp ?_
  refine blk ?_
  refine rdh (n := 10) hp mixed rfl ?_
  have hp := hp.drew
  refine tkq 0 h rfl hp (fun W hp => ldO (us := [_, _, _, _]) h hp rfl 0 rfl sz28 rfl ag28) fun a h => ?_
  refine tkm 1 h rfl hp rfl fun a h => ?_
  refine tkm 2 h rfl hp rfl fun a h => ?_
  refine tkq 3 h rfl hp (fun W hp => iadR (k) h rfl rfl Tryz.underlying115 sz118 (hp.rdF (i := 1) rfl) (rfl) (hlt)) fun a h => ?_
  refine tkq 4 h rfl hp (fun W _ => fad h rfl fo118_0) fun a h => ?_
  refine tkq 5 h rfl hp (fun W hp => ldF 0 h (hp.rdF (i := 1) rfl) hy rfl ag3 rfl) fun a h => ?_
  refine tkm 7 h rfl hp rfl fun a h => ?_
  refine one 6 (by kernel_rfl) rfl (cal h rfl en167 (Far_S x e _ _ (hS.keep hp cl0) hsk (by omega)) fun u w4 ⟨e1, e2⟩ a h => ⟨hp.below e2, ?_⟩)
  subst e1
  have hp := hp.below e2
  refine tka 8 h rfl hp rfl fun a h => ?_
  refine tka 9 h rfl hp rfl fun a h => ?_
  refine dn (by kernel_rfl) ?_
  refine wp_seq ?_
  refine rg ?_
  refine wm2 h rfl rfl rfl rfl fun a h => ?_
  refine wvl h (iadR (k) h rfl rfl Tryz.underlying115 sz118 (hp.rdF (i := 1) rfl) (rfl) (hlt)) fun a h => ?_
  refine wvl h (fad h rfl fo118_1) fun a h => ?_
  refine wvl h (ldF 1 h (hp.rdF (i := 1) rfl) hy rfl ag4 rfl) fun a h => ?_
  refine wn ?_
  refine cnd1 h rfl (fun hb2 => ?_) (fun hb2 => ?_)
  ·have hfull : y.2 = true := hb2
   have hlim : skyLimit e y.2 = e.full := by rw [hfull]; rfl
   refine rg1 ?_
   refine wmv h rfl fun a h => ?_
   refine wsn h rfl fun a h => ?_
   refine rg ?_
   refine wm2 h rfl rfl rfl rfl fun a h => ?_
   refine wvl h (leq h rfl rfl) fun a h => ?_
   refine wn ?_
   refine cnd1 h rfl (fun hb3 => ?_) (fun hb3 => ?_)
   ·have hec : skyFar e y.1 ≤ skyLimit e y.2 := by rw [hlim]; exact of_decide_eq_true hb3
    refine rdh1 (n := 16) ((hp).pick [0, 1] (by decide) rfl) mixed rfl ?_
    have hp := hp.drew
    refine tkm 0 h rfl ((hp).pick [0, 1] (by decide) rfl) rfl fun a h => ?_
    refine tkm 1 h rfl ((hp).pick [0, 1] (by decide) rfl) rfl fun a h => ?_
    refine tkm 2 h rfl ((hp).pick [0, 1] (by decide) rfl) rfl fun a h => ?_
    refine tkq 3 h rfl ((hp).pick [0, 1] (by decide) rfl) (fun W hp => iadR (k) h rfl rfl Tryz.underlying115 sz118 (hp.rdF (i := 1) rfl) (rfl) (hlt)) fun a h => ?_
    refine tkq 4 h rfl ((hp).pick [0, 1] (by decide) rfl) (fun W _ => fad h rfl fo118_0) fun a h => ?_
    refine tkq 5 h rfl ((hp).pick [0, 1] (by decide) rfl) (fun W hp => ldF 0 h (hp.rdF (i := 1) rfl) hy rfl ag3 rfl) fun a h => ?_
    refine tkm 6 h rfl ((hp).pick [0, 1] (by decide) rfl) rfl fun a h => ?_
    refine tkm 7 h rfl ((hp).pick [0, 1] (by decide) rfl) rfl fun a h => ?_
    refine tkq 8 h rfl ((hp).pick [0, 1] (by decide) rfl) (fun W hp => iadR (k) h rfl rfl Tryz.underlying115 sz118 (hp.rdF (i := 1) rfl) (rfl) (hlt)) fun a h => ?_
    refine tkq 9 h rfl ((hp).pick [0, 1] (by decide) rfl) (fun W _ => fad h rfl fo118_1) fun a h => ?_
    refine tkq 10 h rfl ((hp).pick [0, 1] (by decide) rfl) (fun W hp => ldF 1 h (hp.rdF (i := 1) rfl) hy rfl ag4 rfl) fun a h => ?_
    refine tkm 11 h rfl ((hp).pick [0, 1] (by decide) rfl) rfl fun a h => ?_
    refine tkq 12 h rfl ((hp).pick [0, 1] (by decide) rfl) (fun W _ => bld h rfl (bl59_0_1_2 _ _ _ _)) fun a h => ?_
    refine one 13 (by kernel_rfl) rfl (bsl h hp rfl (bs50_1_0 _ _ _) fun a w5 g2 hg2 h hp => ⟨((hp).pick [0, 1] (by decide) rfl), ?_⟩)
    refine one 14 (by kernel_rfl) rfl (app1 2 h hp rfl rfl rfl ap50 3 rfl rfl rfl (by omega) (by omega) fun a w6 v h hp => ⟨((hp).pick [0, 1] (by decide) rfl), ?_⟩)
    refine tka 15 h rfl ((hp).pick [0, 1] (by decide) rfl) rfl fun a h => ?_
    refine dn (by kernel_rfl) ?_
    try simp only [xqs, ↓reduceIte, Nat.reduceEqDiff]
    refine rg1 ?_
    refine wmv h rfl fun a h => ?_
    refine wvl h (add h rfl rfl (by omega)) fun a h => ?_
    refine wsn h rfl fun a h => ?_
    exact ⟨_, _, (by omega), ⟨k + 1, _, by omega, rfl, rfl, hp.pre 3 (by rw [take_flat hy]; simp [eclOf, hec, encM]), trivial⟩, h.sub ⟨rfl, rfl, rfl, rfl, rfl, rfl, rfl, trivial⟩⟩
   have hec : ¬ skyFar e y.1 ≤ skyLimit e y.2 := by rw [hlim]; exact of_decide_eq_false hb3
   refine wp_skip ?_
   refine rg1 ?_
   refine wmv h rfl fun a h => ?_
   refine wvl h (add h rfl rfl (by omega)) fun a h => ?_
   refine wsn h rfl fun a h => ?_
   exact ⟨_, _, (by omega), ⟨k + 1, _, by omega, rfl, rfl, hp.pre 3 (by rw [take_flat hy]; simp [eclOf, hec, encM]), trivial⟩, h.sub ⟨rfl, rfl, rfl, rfl, rfl, rfl, rfl, trivial⟩⟩
  have hfull : y.2 = false := hb2
  have hlim : skyLimit e y.2 = e.new := by rw [hfull]; rfl
  refine skp ?_
  refine rg ?_
  refine wm2 h rfl rfl rfl rfl fun a h => ?_
  refine wvl h (leq h rfl rfl) fun a h => ?_
  refine wn ?_
  refine cnd1 h rfl (fun hb4 => ?_) (fun hb4 => ?_)
  ·have hec : skyFar e y.1 ≤ skyLimit e y.2 := by rw [hlim]; exact of_decide_eq_true hb4
   refine rdh1 (n := 16) ((hp).pick [0, 1] (by decide) rfl) mixed rfl ?_
   have hp := hp.drew
   refine tkm 0 h rfl ((hp).pick [0, 1] (by decide) rfl) rfl fun a h => ?_
   refine tkm 1 h rfl ((hp).pick [0, 1] (by decide) rfl) rfl fun a h => ?_
   refine tkm 2 h rfl ((hp).pick [0, 1] (by decide) rfl) rfl fun a h => ?_
   refine tkq 3 h rfl ((hp).pick [0, 1] (by decide) rfl) (fun W hp => iadR (k) h rfl rfl Tryz.underlying115 sz118 (hp.rdF (i := 1) rfl) (rfl) (hlt)) fun a h => ?_
   refine tkq 4 h rfl ((hp).pick [0, 1] (by decide) rfl) (fun W _ => fad h rfl fo118_0) fun a h => ?_
   refine tkq 5 h rfl ((hp).pick [0, 1] (by decide) rfl) (fun W hp => ldF 0 h (hp.rdF (i := 1) rfl) hy rfl ag3 rfl) fun a h => ?_
   refine tkm 6 h rfl ((hp).pick [0, 1] (by decide) rfl) rfl fun a h => ?_
   refine tkm 7 h rfl ((hp).pick [0, 1] (by decide) rfl) rfl fun a h => ?_
   refine tkq 8 h rfl ((hp).pick [0, 1] (by decide) rfl) (fun W hp => iadR (k) h rfl rfl Tryz.underlying115 sz118 (hp.rdF (i := 1) rfl) (rfl) (hlt)) fun a h => ?_
   refine tkq 9 h rfl ((hp).pick [0, 1] (by decide) rfl) (fun W _ => fad h rfl fo118_1) fun a h => ?_
   refine tkq 10 h rfl ((hp).pick [0, 1] (by decide) rfl) (fun W hp => ldF 1 h (hp.rdF (i := 1) rfl) hy rfl ag4 rfl) fun a h => ?_
   refine tkm 11 h rfl ((hp).pick [0, 1] (by decide) rfl) rfl fun a h => ?_
   refine tkq 12 h rfl ((hp).pick [0, 1] (by decide) rfl) (fun W _ => bld h rfl (bl59_0_1_2 _ _ _ _)) fun a h => ?_
   refine one 13 (by kernel_rfl) rfl (bsl h hp rfl (bs50_1_0 _ _ _) fun a w7 g3 hg3 h hp => ⟨((hp).pick [0, 1] (by decide) rfl), ?_⟩)
   refine one 14 (by kernel_rfl) rfl (app1 2 h hp rfl rfl rfl ap50 3 rfl rfl rfl (by omega) (by omega) fun a w8 v h hp => ⟨((hp).pick [0, 1] (by decide) rfl), ?_⟩)
   refine tka 15 h rfl ((hp).pick [0, 1] (by decide) rfl) rfl fun a h => ?_
   refine dn (by kernel_rfl) ?_
   try simp only [xqs, ↓reduceIte, Nat.reduceEqDiff]
   refine rg1 ?_
   refine wmv h rfl fun a h => ?_
   refine wvl h (add h rfl rfl (by omega)) fun a h => ?_
   refine wsn h rfl fun a h => ?_
   exact ⟨_, _, (by omega), ⟨k + 1, _, by omega, rfl, rfl, hp.pre 3 (by rw [take_flat hy]; simp [eclOf, hec, encM]), trivial⟩, h.sub ⟨rfl, rfl, rfl, rfl, rfl, rfl, rfl, trivial⟩⟩
  have hec : ¬ skyFar e y.1 ≤ skyLimit e y.2 := by rw [hlim]; exact of_decide_eq_false hb4
  refine wp_skip ?_
  refine rg1 ?_
  refine wmv h rfl fun a h => ?_
  refine wvl h (add h rfl rfl (by omega)) fun a h => ?_
  refine wsn h rfl fun a h => ?_
  exact ⟨_, _, (by omega), ⟨k + 1, _, by omega, rfl, rfl, hp.pre 3 (by rw [take_flat hy]; simp [eclOf, hec, encM]), trivial⟩, h.sub ⟨rfl, rfl, rfl, rfl, rfl, rfl, rfl, trivial⟩⟩
 have hend : k = (moonsAll e d1 d2).length := by have := of_decide_eq_false hb1; omega
 subst hend
 rw [List.take_length, ← skyAll_moons] at hp
 refine wp_exit ?_
 try simp only [xqs, ↓reduceIte, Nat.reduceEqDiff]
 refine rg ?_
 refine wmv h rfl fun a h => ?_
 refine wsn h rfl fun a h => ?_
 refine wp_ret ?_
 try simp only [xqs]
 refine rt_1 h rfl (rvT h rfl) ?_
 exact ⟨_, rfl, ⟨s1, rfl, hp.frB (i := 2) rfl rfl rfl (fun _ _ => rfl)⟩, hp.bel⟩
theorem gcd_S (x y : Int) (w : World) (hx : 0 < x ∧ x ≤ 4611686018427387904) (hy : 0 ≤ y ∧ y ≤ 4611686018427387904) : Ret Tryz.prog 114 #[.int .i64 x, .int .i64 y] w fun u w' => u = .int .i64 (Int.gcd x y : Int) ∧ Below w.heap.size w w' := by
 have hp : Hp c0 w w [] := Hp.start trivial
 refine enter Tryz.func114 rfl (N := 12) rfl rfl fun a h => ?_
 refine rg ?_
 refine wsn h rfl fun a h => ?_
 refine lp h [] (fun n f w' => ∃ p r : Int, n = r.toNat ∧ f = [(0, .int .i64 p), (1, .int .i64 r)] ∧ Hp c0 w w' [] ∧ Int.gcd p r = Int.gcd x y ∧ 0 < p ∧ p ≤ 4611686018427387904 ∧ 0 ≤ r ∧ r ≤ 4611686018427387904) (y.toNat) [(0, .int .i64 x), (1, .int .i64 y)] ⟨rfl, rfl, trivial⟩ ⟨x, y, rfl, rfl, hp, rfl, hx.1, hx.2, hy.1, hy.2⟩ ?_
 rintro n f a w1 ⟨p, r, rfl, rfl, hp, hg, h1, h2, h3, h4⟩ h
 refine wp_seq ?_
 refine rg ?_
 refine wmv h rfl fun a h => ?_
 refine wvl h (gtr h rfl rfl) fun a h => ?_
 refine wn ?_
 refine cnd1 h rfl (fun hb1 => ?_) (fun hb1 => ?_)
 ·have hr := of_decide_eq_true hb1
  have m1 := Int.emod_nonneg p (by omega : r ≠ 0)
  have m2 := Int.emod_lt_of_pos p hr
  refine skp ?_
  refine blk1 ?_
  refine rdh1 (n := 6) hp mixed rfl ?_
  have hp := hp.drew
  refine tkm 0 h rfl hp rfl fun a h => ?_
  refine tkm 1 h rfl hp rfl fun a h => ?_
  refine tkm 2 h rfl hp rfl fun a h => ?_
  refine tkq 3 h rfl hp (fun W _ => rem0 h rfl rfl (by omega) (by omega)) fun a h => ?_
  refine tka 4 h rfl hp rfl fun a h => ?_
  refine tka 5 h rfl hp rfl fun a h => ?_
  refine dn (by kernel_rfl) ?_
  try simp only [xqs, ↓reduceIte, Nat.reduceEqDiff]
  exact ⟨_, _, (by omega), ⟨r, p % r, rfl, rfl, hp, by rw [← hg]; exact gcd_step _ _ h3, by omega, by omega, by omega, by omega⟩, h.sub ⟨rfl, rfl, trivial⟩⟩
 have hr := of_decide_eq_false hb1
 obtain rfl : r = 0 := by omega
 refine wp_exit ?_
 try simp only [xqs, ↓reduceIte, Nat.reduceEqDiff]
 refine rg ?_
 refine wmv h rfl fun a h => ?_
 refine wsn h rfl fun a h => ?_
 refine wp_ret ?_
 try simp only [xqs]
 refine rt_1 h rfl (rvT h rfl) ?_
 rw [Int.gcd_zero_right] at hg
 exact ⟨_, rfl, by rw [← hg]; congr 1; omega, hp.bel⟩
theorem Month_S (x : EV) (e : Eng) (w : World) (hS : RdS w x e) (hsk : isSky e = true) : Ret Tryz.prog 59 #[.agg #[x.b.v, .int .i64 e.nnum, .int .i64 e.nden, .int .i64 e.nstart]] w fun u w' => (∃ p q : Int, u = .tuple #[.int .i64 p, .int .i64 q, .bool (decide (0 < slow e))]) ∧ Below w.heap.size w w' := by
 obtain ⟨hbl, b0, b1, hB0, hB1, e0, e1, v0, v1⟩ := sky2 hS hsk
 obtain ⟨c1, c2, -⟩ := body_bd v0
 obtain ⟨c3, c4, -⟩ := body_bd v1
 have m1 := mul_bd (a := b1.1.num) (b := b0.1.num) (A := 10000) (B := 10000) (by omega) (by omega) (by omega) (by omega)
 have m2 := mul_bd (a := b1.1.den) (b := b0.1.num) (A := 10000) (B := 10000) (by omega) (by omega) (by omega) (by omega)
 have m3 := mul_bd (a := b0.1.den) (b := b1.1.num) (A := 10000) (B := 10000) (by omega) (by omega) (by omega) (by omega)
 have m4 : 0 < b1.1.num * b0.1.num := Int.mul_pos (by omega) (by omega)
 have hsl : slow e = b1.1.den * b0.1.num - b0.1.den * b1.1.num := by rw [slow, e0, e1]
 have hp : Hp c0 w w [] := Hp.start trivial
 refine enter Tryz.func59 rfl (N := 47) rfl rfl fun a h => ?_
 refine rg ?_
 refine wl (box (cs := #[_, _, _, _]) h hp rfl rfl fun a w1 g1 hg1 h hp => ?_)
 refine wsg h rfl fun a h => ?_
 refine ws2 h rfl rfl rfl rfl fun a h => ?_
 refine rdh (n := 14) hp mixed rfl ?_
 have hp := hp.drew
 refine tkq 0 h rfl hp (fun W _ => fad h rfl fo28_0) fun a h => ?_
 refine tkq 1 h rfl hp (fun W hp => ldo h hp rfl 0 rfl rfl ag22) fun a h => ?_
 refine tkq 2 h rfl hp (fun W hp => iadR (0) h rfl rfl Tryz.underlying22 sz46 (hS.keep hp cl0).b (rfl) (by omega)) fun a h => ?_
 refine tkq 3 h rfl hp (fun W _ => fad h rfl fo46_0) fun a h => ?_
 refine tkq 4 h rfl hp (fun W hp => ldFn 0 [_, _] h (hS.keep hp cl0).b hB0 rfl ag24 sz24 rfl) fun a h => ?_
 refine tkq 5 h rfl hp (fun W _ => fad h rfl fo28_0) fun a h => ?_
 refine tkq 6 h rfl hp (fun W hp => ldo h hp rfl 0 rfl rfl ag22) fun a h => ?_
 refine tkq 7 h rfl hp (fun W hp => iadR (1) h rfl rfl Tryz.underlying22 sz46 (hS.keep hp cl0).b (rfl) (by omega)) fun a h => ?_
 refine tkq 8 h rfl hp (fun W _ => fad h rfl fo46_0) fun a h => ?_
 refine tkq 9 h rfl hp (fun W hp => ldFn 0 [_, _] h (hS.keep hp cl0).b hB1 rfl ag24 sz24 rfl) fun a h => ?_
 refine two 10 11 (by kernel_rfl) rfl rfl ?_ ?_
 ·refine (all h hp zc24 fun a w2 g2 hg2 h hp => ⟨((hp).pre 1 rfl), ?_⟩)
  refine one 11 (by kernel_rfl) rfl (all h hp zc24 fun a w3 g3 hg3 h hp => ⟨((hp).pre 1 rfl), ?_⟩)
  refine one 12 (by kernel_rfl) rfl (sta h hp rfl rfl 1 rfl sz24 rfl rfl fun w4 hp => ⟨((hp).pre 1 rfl), ?_⟩)
  refine one 13 (by kernel_rfl) rfl (sta h hp rfl rfl 2 rfl sz24 rfl rfl fun w5 hp => ⟨((hp).pre 1 rfl), ?_⟩)
  refine dn (by kernel_rfl) ?_
  refine rdh (n := 18) hp mixed rfl ?_
  have hp := hp.drew
  refine tkq 0 h rfl hp (fun W _ => fad h rfl fo24_0) fun a h => ?_
  refine tkq 1 h rfl hp (fun W hp => ldo h hp rfl 2 rfl rfl ag3) fun a h => ?_
  refine tkq 2 h rfl hp (fun W _ => fad h rfl fo24_0) fun a h => ?_
  refine tkq 3 h rfl hp (fun W hp => ldo h hp rfl 1 rfl rfl ag3) fun a h => ?_
  refine tkq 4 h rfl hp (fun W _ => mul h rfl rfl (by omega)) fun a h => ?_
  refine tkq 5 h rfl hp (fun W _ => fad h rfl fo24_1) fun a h => ?_
  refine tkq 6 h rfl hp (fun W hp => ldo h hp rfl 2 rfl rfl ag3) fun a h => ?_
  refine tkq 7 h rfl hp (fun W _ => fad h rfl fo24_0) fun a h => ?_
  refine tkq 8 h rfl hp (fun W hp => ldo h hp rfl 1 rfl rfl ag3) fun a h => ?_
  refine tkq 9 h rfl hp (fun W _ => mul h rfl rfl (by omega)) fun a h => ?_
  refine tkq 10 h rfl hp (fun W _ => fad h rfl fo24_1) fun a h => ?_
  refine tkq 11 h rfl hp (fun W hp => ldo h hp rfl 1 rfl rfl ag3) fun a h => ?_
  refine tkq 12 h rfl hp (fun W _ => fad h rfl fo24_0) fun a h => ?_
  refine tkq 13 h rfl hp (fun W hp => ldo h hp rfl 2 rfl rfl ag3) fun a h => ?_
  refine tkq 14 h rfl hp (fun W _ => mul h rfl rfl (by omega)) fun a h => ?_
  refine tkq 15 h rfl hp (fun W _ => sub h rfl rfl (by omega)) fun a h => ?_
  refine tka 16 h rfl hp rfl fun a h => ?_
  refine tka 17 h rfl hp rfl fun a h => ?_
  refine dn (by kernel_rfl) ?_
  refine wp_seq ?_
  refine rg ?_
  refine wmv h rfl fun a h => ?_
  refine wvl h (leq h rfl rfl) fun a h => ?_
  refine wn ?_
  refine cnd1 h rfl (fun hb1 => ?_) (fun hb1 => ?_)
  ·have hs0 := of_decide_eq_true hb1
   refine rg ?_
   refine wsg h rfl fun a h => ?_
   refine ws2 h rfl rfl rfl rfl fun a h => ?_
   refine wp_ret ?_
   try simp only [xqs]
   refine rt_3 h rfl (rvT h rfl) (rvT h rfl) (rvT h rfl) ?_
   exact ⟨_, rfl, ⟨_, _, by rw [show decide (0 < slow e) = false from by rw [hsl]; exact decide_eq_false (by omega)]⟩, hp.bel⟩
  have hs0 := of_decide_eq_false hb1
  refine skp ?_
  refine rg ?_
  refine wm2 h rfl rfl rfl rfl fun a h => ?_
  refine wl (cal h rfl en114 (gcd_S _ _ _ (by omega) (by omega)) fun u w6 ⟨e1_, e2⟩ a h => ?_)
  subst e1_
  have hp := hp.below e2
  have hgp : 0 < (Int.gcd (b1.1.num * b0.1.num) (b1.1.den * b0.1.num - b0.1.den * b1.1.num) : Int) := by have := Int.gcd_pos_of_ne_zero_left (b1.1.den * b0.1.num - b0.1.den * b1.1.num) (by omega : b1.1.num * b0.1.num ≠ 0); omega
  refine wsn h rfl fun a h => ?_
  refine rdh (n := 9) hp mixed rfl ?_
  have hp := hp.drew
  refine tkm 0 h rfl hp rfl fun a h => ?_
  refine tkm 1 h rfl hp rfl fun a h => ?_
  refine tkq 2 h rfl hp (fun W _ => quo0 h rfl rfl (by omega) (by omega)) fun a h => ?_
  refine tkm 3 h rfl hp rfl fun a h => ?_
  refine tkm 4 h rfl hp rfl fun a h => ?_
  refine tkq 5 h rfl hp (fun W _ => quo0 h rfl rfl (by omega) (by omega)) fun a h => ?_
  refine tka 6 h rfl hp rfl fun a h => ?_
  refine tka 7 h rfl hp rfl fun a h => ?_
  refine tka 8 h rfl hp rfl fun a h => ?_
  refine dn (by kernel_rfl) ?_
  refine wp_ret ?_
  try simp only [xqs]
  refine rt_3 h rfl (rvT h rfl) (rvT h rfl) (rvT h rfl) ?_
  exact ⟨_, rfl, ⟨_, _, by rw [show decide (0 < slow e) = true from by rw [hsl]; exact decide_eq_true (by omega)]⟩, hp.bel⟩
 refine (all h hp zc24 fun a w7 g4 hg4 h hp => ⟨((hp).pre 1 rfl), ?_⟩)
 refine one 10 (by kernel_rfl) rfl (all h hp zc24 fun a w8 g5 hg5 h hp => ⟨((hp).pre 1 rfl), ?_⟩)
 refine one 12 (by kernel_rfl) rfl (sta h hp rfl rfl 2 rfl sz24 rfl rfl fun w9 hp => ⟨((hp).pre 1 rfl), ?_⟩)
 refine one 13 (by kernel_rfl) rfl (sta h hp rfl rfl 1 rfl sz24 rfl rfl fun w10 hp => ⟨((hp).pre 1 rfl), ?_⟩)
 refine dn (by kernel_rfl) ?_
 refine rdh (n := 18) hp mixed rfl ?_
 have hp := hp.drew
 refine tkq 0 h rfl hp (fun W _ => fad h rfl fo24_0) fun a h => ?_
 refine tkq 1 h rfl hp (fun W hp => ldo h hp rfl 1 rfl rfl ag3) fun a h => ?_
 refine tkq 2 h rfl hp (fun W _ => fad h rfl fo24_0) fun a h => ?_
 refine tkq 3 h rfl hp (fun W hp => ldo h hp rfl 2 rfl rfl ag3) fun a h => ?_
 refine tkq 4 h rfl hp (fun W _ => mul h rfl rfl (by omega)) fun a h => ?_
 refine tkq 5 h rfl hp (fun W _ => fad h rfl fo24_1) fun a h => ?_
 refine tkq 6 h rfl hp (fun W hp => ldo h hp rfl 1 rfl rfl ag3) fun a h => ?_
 refine tkq 7 h rfl hp (fun W _ => fad h rfl fo24_0) fun a h => ?_
 refine tkq 8 h rfl hp (fun W hp => ldo h hp rfl 2 rfl rfl ag3) fun a h => ?_
 refine tkq 9 h rfl hp (fun W _ => mul h rfl rfl (by omega)) fun a h => ?_
 refine tkq 10 h rfl hp (fun W _ => fad h rfl fo24_1) fun a h => ?_
 refine tkq 11 h rfl hp (fun W hp => ldo h hp rfl 2 rfl rfl ag3) fun a h => ?_
 refine tkq 12 h rfl hp (fun W _ => fad h rfl fo24_0) fun a h => ?_
 refine tkq 13 h rfl hp (fun W hp => ldo h hp rfl 1 rfl rfl ag3) fun a h => ?_
 refine tkq 14 h rfl hp (fun W _ => mul h rfl rfl (by omega)) fun a h => ?_
 refine tkq 15 h rfl hp (fun W _ => sub h rfl rfl (by omega)) fun a h => ?_
 refine tka 16 h rfl hp rfl fun a h => ?_
 refine tka 17 h rfl hp rfl fun a h => ?_
 refine dn (by kernel_rfl) ?_
 refine wp_seq ?_
 refine rg ?_
 refine wmv h rfl fun a h => ?_
 refine wvl h (leq h rfl rfl) fun a h => ?_
 refine wn ?_
 refine cnd1 h rfl (fun hb2 => ?_) (fun hb2 => ?_)
 ·have hs0 := of_decide_eq_true hb2
  refine rg ?_
  refine wsg h rfl fun a h => ?_
  refine ws2 h rfl rfl rfl rfl fun a h => ?_
  refine wp_ret ?_
  try simp only [xqs]
  refine rt_3 h rfl (rvT h rfl) (rvT h rfl) (rvT h rfl) ?_
  exact ⟨_, rfl, ⟨_, _, by rw [show decide (0 < slow e) = false from by rw [hsl]; exact decide_eq_false (by omega)]⟩, hp.bel⟩
 have hs0 := of_decide_eq_false hb2
 refine skp ?_
 refine rg ?_
 refine wm2 h rfl rfl rfl rfl fun a h => ?_
 refine wl (cal h rfl en114 (gcd_S _ _ _ (by omega) (by omega)) fun u w11 ⟨e1_, e2⟩ a h => ?_)
 subst e1_
 have hp := hp.below e2
 have hgp : 0 < (Int.gcd (b1.1.num * b0.1.num) (b1.1.den * b0.1.num - b0.1.den * b1.1.num) : Int) := by have := Int.gcd_pos_of_ne_zero_left (b1.1.den * b0.1.num - b0.1.den * b1.1.num) (by omega : b1.1.num * b0.1.num ≠ 0); omega
 refine wsn h rfl fun a h => ?_
 refine rdh (n := 9) hp mixed rfl ?_
 have hp := hp.drew
 refine tkm 0 h rfl hp rfl fun a h => ?_
 refine tkm 1 h rfl hp rfl fun a h => ?_
 refine tkq 2 h rfl hp (fun W _ => quo0 h rfl rfl (by omega) (by omega)) fun a h => ?_
 refine tkm 3 h rfl hp rfl fun a h => ?_
 refine tkm 4 h rfl hp rfl fun a h => ?_
 refine tkq 5 h rfl hp (fun W _ => quo0 h rfl rfl (by omega) (by omega)) fun a h => ?_
 refine tka 6 h rfl hp rfl fun a h => ?_
 refine tka 7 h rfl hp rfl fun a h => ?_
 refine tka 8 h rfl hp rfl fun a h => ?_
 refine dn (by kernel_rfl) ?_
 refine wp_ret ?_
 try simp only [xqs]
 refine rt_3 h rfl (rvT h rfl) (rvT h rfl) (rvT h rfl) ?_
 exact ⟨_, rfl, ⟨_, _, by rw [show decide (0 < slow e) = true from by rw [hsl]; exact decide_eq_true (by omega)]⟩, hp.bel⟩
end Go.Proofs.Ec
