import Derived.Test.YtepjdckdhddfbaaGreatDoorProg
import Derived.Test.YtepjdckdhddfbaaGreatDoorPFa
import Derived.Test.YtepjdckdhddfbaaGreatDoorPQb
import Derived.Test.YtepjdckdhddfbaaGreatDoorPW10
import Derived.Test.YtepjdckdhddfbaaGreatDoorPQa
import Derived.Test.YtepjdckdhddfbaaGreatDoorPW23
import Derived.Test.YtepjdckdhddfbaaGreatDoorPQc
set_option linter.unusedVariables false
set_option linter.unusedSimpArgs false
set_option maxRecDepth 4000
namespace Go.Proofs.Ec
open Go.RowKit Go.Proofs.Sx
open Ecl
theorem Same_S (s1 s2 : SV) (d1 d2 : List Int) (w : World) (hR : Rd w encI 1 s1.v d1) (hS : Rd w encI 1 s2.v d2) : Ret Tryz.prog 43 #[s1.v, s2.v] w fun u w' => u = .bool (decide (d1 = d2)) ∧ Below w.heap.size w w' := by
 have hfit1 := hR.fits
 have hfit2 := hS.fits
 have hp : Hp c0 w w [] := Hp.start trivial
 refine enter Tryz.func43 rfl (N := 26) rfl rfl fun a h => ?_
 refine rg ?_
 refine wsn h rfl fun a h => ?_
 refine wp_seq ?_
 refine rg ?_
 refine wmv h rfl fun a h => ?_
 refine wvl h (lenR h rfl Tryz.underlying74 (hR.keep (by decide) hp cl0)) fun a h => ?_
 refine wmv h rfl fun a h => ?_
 refine wvl h (lenR h rfl Tryz.underlying74 (hS.keep (by decide) hp cl0)) fun a h => ?_
 refine wvl h (nei h rfl rfl) fun a h => ?_
 refine wn ?_
 refine cnd1 h rfl (fun hb1 => ?_) (fun hb1 => ?_)
 ·have hln : ¬ d1.length = d2.length := by have hq := hb1; simp at hq; omega
  refine rg ?_
  refine wsn h rfl fun a h => ?_
  refine wp_ret ?_
  try simp only [xqs]
  refine rt_1 h rfl (rvT h rfl) ?_
  exact ⟨_, rfl, by rw [same_len hln], hp.bel⟩
 have hln : d1.length = d2.length := by have hq := hb1; simp at hq; omega
 refine skp ?_
 refine wp_seq ?_
 refine rg ?_
 refine wsn h rfl fun a h => ?_
 refine lp1 h [0, 1, 10] (fun n f w' => ∃ k : Nat, k ≤ d1.length ∧ n = d1.length - k ∧ f = [(5, .int .i64 k)] ∧ Hp c0 w w' ([]) ∧ d1.take k = d2.take k) (d1.length) [(5, .int .i64 ((0 : Nat) : Int))] ⟨rfl, rfl, rfl, rfl, trivial⟩ ⟨0, Nat.zero_le _, rfl, rfl, hp, rfl⟩ ?_
 rintro n f a w1 ⟨k, hk, rfl, rfl, hp, hI⟩ h
 have hfit := hR.fits
 refine wp_seq ?_
 refine rg ?_
 refine wm2 h rfl rfl rfl rfl fun a h => ?_
 refine wvl h (lenR h rfl Tryz.underlying74 (hR.keep (by decide) hp cl0)) fun a h => ?_
 refine wvl h (lss h rfl rfl) fun a h => ?_
 refine wn ?_
 refine cnd1 h rfl (fun hb2 => ?_) (fun hb2 => ?_)
 ·have hlt : k < d1.length := by have := of_decide_eq_true hb2; omega
  obtain ⟨y, hy⟩ : ∃ y, d1[k]? = some y := ⟨_, List.getElem?_eq_getElem hlt⟩
  obtain ⟨z, hz⟩ : ∃ z, d2[k]? = some z := ⟨_, List.getElem?_eq_getElem (by omega)⟩
  refine skp ?_
  refine blk ?_
  refine rdh (n := 9) hp mixed rfl ?_
  have hp := hp.drew
  refine tkm 0 h rfl hp rfl fun a h => ?_
  refine tkm 1 h rfl hp rfl fun a h => ?_
  refine tkq 2 h rfl hp (fun W hp => iadR (k) h rfl rfl Tryz.underlying74 sz3 (hR.keep (by decide) hp cl0) (rfl) (hlt)) fun a h => ?_
  refine tkq 3 h rfl hp (fun W hp => ld0 h (hR.keep (by decide) hp cl0) hy rfl ag3 rfl) fun a h => ?_
  refine tkm 4 h rfl hp rfl fun a h => ?_
  refine tkm 5 h rfl hp rfl fun a h => ?_
  refine tkq 6 h rfl hp (fun W hp => iadR (k) h rfl rfl Tryz.underlying74 sz3 (hS.keep (by decide) hp cl0) (rfl) (by omega)) fun a h => ?_
  refine tkq 7 h rfl hp (fun W hp => ld0 h (hS.keep (by decide) hp cl0) hz rfl ag3 rfl) fun a h => ?_
  refine tkq 8 h rfl hp (fun W _ => nei h rfl rfl) fun a h => ?_
  refine dn (by kernel_rfl) ?_
  refine cnd1 h rfl (fun hb3 => ?_) (fun hb3 => ?_)
  ·have hne : ¬ y = z := by simpa using hb3
   refine rg ?_
   refine wsn h rfl fun a h => ?_
   refine wp_ret ?_
   try simp only [xqs]
   refine rt_1 h rfl (rvT h rfl) ?_
   exact ⟨_, rfl, by rw [same_no hy hz hne], hp.bel⟩
  have hne : y = z := by simpa using hb3
  refine wp_skip ?_
  refine rg1 ?_
  refine wmv h rfl fun a h => ?_
  refine wvl h (add h rfl rfl (by omega)) fun a h => ?_
  refine wsn h rfl fun a h => ?_
  exact ⟨_, _, (by omega), ⟨k + 1, by omega, rfl, rfl, hp, same_go hy hz hne hI⟩, h.sub ⟨rfl, rfl, rfl, rfl, trivial⟩⟩
 have hend : k = d1.length := by have := of_decide_eq_false hb2; omega
 subst hend
 refine wp_exit ?_
 try simp only [xqs, ↓reduceIte, Nat.reduceEqDiff]
 refine rg ?_
 refine wsn h rfl fun a h => ?_
 refine wp_ret ?_
 try simp only [xqs]
 refine rt_1 h rfl (rvT h rfl) ?_
 exact ⟨_, rfl, by rw [same_yes hln hI], hp.bel⟩
theorem SameWords_R (s1 s2 : SV) (d1 d2 : List Int) (w : World) (hR : Rd w encI 1 s1.v d1) (hS : Rd w encI 1 s2.v d2) : Ret Tryz.prog 21 #[s1.v, s2.v] w fun u w' => u = .bool (decide (d1 = d2)) ∧ Below w.heap.size w w' := by
 have hfit1 := hR.fits
 have hfit2 := hS.fits
 have hp : Hp c0 w w [] := Hp.start trivial
 refine enter Tryz.func21 rfl (N := 26) rfl rfl fun a h => ?_
 refine rg ?_
 refine wsn h rfl fun a h => ?_
 refine wp_seq ?_
 refine rg ?_
 refine wmv h rfl fun a h => ?_
 refine wvl h (lenR h rfl Tryz.underlying42 (hR.keep (by decide) hp cl0)) fun a h => ?_
 refine wmv h rfl fun a h => ?_
 refine wvl h (lenR h rfl Tryz.underlying42 (hS.keep (by decide) hp cl0)) fun a h => ?_
 refine wvl h (nei h rfl rfl) fun a h => ?_
 refine wn ?_
 refine cnd1 h rfl (fun hb1 => ?_) (fun hb1 => ?_)
 ·have hln : ¬ d1.length = d2.length := by have hq := hb1; simp at hq; omega
  refine rg ?_
  refine wsn h rfl fun a h => ?_
  refine wp_ret ?_
  try simp only [xqs]
  refine rt_1 h rfl (rvT h rfl) ?_
  exact ⟨_, rfl, by rw [same_len hln], hp.bel⟩
 have hln : d1.length = d2.length := by have hq := hb1; simp at hq; omega
 refine skp ?_
 refine wp_seq ?_
 refine rg ?_
 refine wsn h rfl fun a h => ?_
 refine lp1 h [0, 1, 10] (fun n f w' => ∃ k : Nat, k ≤ d1.length ∧ n = d1.length - k ∧ f = [(5, .int .i64 k)] ∧ Hp c0 w w' ([]) ∧ d1.take k = d2.take k) (d1.length) [(5, .int .i64 ((0 : Nat) : Int))] ⟨rfl, rfl, rfl, rfl, trivial⟩ ⟨0, Nat.zero_le _, rfl, rfl, hp, rfl⟩ ?_
 rintro n f a w1 ⟨k, hk, rfl, rfl, hp, hI⟩ h
 have hfit := hR.fits
 refine wp_seq ?_
 refine rg ?_
 refine wm2 h rfl rfl rfl rfl fun a h => ?_
 refine wvl h (lenR h rfl Tryz.underlying42 (hR.keep (by decide) hp cl0)) fun a h => ?_
 refine wvl h (lss h rfl rfl) fun a h => ?_
 refine wn ?_
 refine cnd1 h rfl (fun hb2 => ?_) (fun hb2 => ?_)
 ·have hlt : k < d1.length := by have := of_decide_eq_true hb2; omega
  obtain ⟨y, hy⟩ : ∃ y, d1[k]? = some y := ⟨_, List.getElem?_eq_getElem hlt⟩
  obtain ⟨z, hz⟩ : ∃ z, d2[k]? = some z := ⟨_, List.getElem?_eq_getElem (by omega)⟩
  refine skp ?_
  refine blk ?_
  refine rdh (n := 9) hp mixed rfl ?_
  have hp := hp.drew
  refine tkm 0 h rfl hp rfl fun a h => ?_
  refine tkm 1 h rfl hp rfl fun a h => ?_
  refine tkq 2 h rfl hp (fun W hp => iadR (k) h rfl rfl Tryz.underlying42 sz39 (hR.keep (by decide) hp cl0) (rfl) (hlt)) fun a h => ?_
  refine tkq 3 h rfl hp (fun W hp => ld0 h (hR.keep (by decide) hp cl0) hy rfl ag39 rfl) fun a h => ?_
  refine tkm 4 h rfl hp rfl fun a h => ?_
  refine tkm 5 h rfl hp rfl fun a h => ?_
  refine tkq 6 h rfl hp (fun W hp => iadR (k) h rfl rfl Tryz.underlying42 sz39 (hS.keep (by decide) hp cl0) (rfl) (by omega)) fun a h => ?_
  refine tkq 7 h rfl hp (fun W hp => ld0 h (hS.keep (by decide) hp cl0) hz rfl ag39 rfl) fun a h => ?_
  refine tkq 8 h rfl hp (fun W _ => nei h rfl rfl) fun a h => ?_
  refine dn (by kernel_rfl) ?_
  refine cnd1 h rfl (fun hb3 => ?_) (fun hb3 => ?_)
  ·have hne : ¬ y = z := by simpa using hb3
   refine rg ?_
   refine wsn h rfl fun a h => ?_
   refine wp_ret ?_
   try simp only [xqs]
   refine rt_1 h rfl (rvT h rfl) ?_
   exact ⟨_, rfl, by rw [same_no hy hz hne], hp.bel⟩
  have hne : y = z := by simpa using hb3
  refine wp_skip ?_
  refine rg1 ?_
  refine wmv h rfl fun a h => ?_
  refine wvl h (add h rfl rfl (by omega)) fun a h => ?_
  refine wsn h rfl fun a h => ?_
  exact ⟨_, _, (by omega), ⟨k + 1, by omega, rfl, rfl, hp, same_go hy hz hne hI⟩, h.sub ⟨rfl, rfl, rfl, rfl, trivial⟩⟩
 have hend : k = d1.length := by have := of_decide_eq_false hb2; omega
 subst hend
 refine wp_exit ?_
 try simp only [xqs, ↓reduceIte, Nat.reduceEqDiff]
 refine rg ?_
 refine wsn h rfl fun a h => ?_
 refine wp_ret ?_
 try simp only [xqs]
 refine rt_1 h rfl (rvT h rfl) ?_
 exact ⟨_, rfl, by rw [same_yes hln hI], hp.bel⟩
theorem SameEclipses_S (s1 s2 : SV) (d1 d2 : List Ecl.Mark) (w : World) (hR : Rd w encM 3 s1.v d1) (hS : Rd w encM 3 s2.v d2) : Ret Tryz.prog 15 #[s1.v, s2.v] w fun u w' => u = .bool (decide (d1 = d2)) ∧ Below w.heap.size w w' := by
 have hfit1 := hR.fits
 have hfit2 := hS.fits
 have hp : Hp c0 w w [] := Hp.start trivial
 refine enter Tryz.func15 rfl (N := 26) rfl rfl fun a h => ?_
 refine rg ?_
 refine wsn h rfl fun a h => ?_
 refine wp_seq ?_
 refine rg ?_
 refine wmv h rfl fun a h => ?_
 refine wvl h (lenR h rfl Tryz.underlying22 (hR.keep (by decide) hp cl0)) fun a h => ?_
 refine wmv h rfl fun a h => ?_
 refine wvl h (lenR h rfl Tryz.underlying22 (hS.keep (by decide) hp cl0)) fun a h => ?_
 refine wvl h (nei h rfl rfl) fun a h => ?_
 refine wn ?_
 refine cnd1 h rfl (fun hb1 => ?_) (fun hb1 => ?_)
 ·have hln : ¬ d1.length = d2.length := by have hq := hb1; simp at hq; omega
  refine rg ?_
  refine wsn h rfl fun a h => ?_
  refine wp_ret ?_
  try simp only [xqs]
  refine rt_1 h rfl (rvT h rfl) ?_
  exact ⟨_, rfl, by rw [same_len hln], hp.bel⟩
 have hln : d1.length = d2.length := by have hq := hb1; simp at hq; omega
 refine skp ?_
 refine wp_seq ?_
 refine rg ?_
 refine wsn h rfl fun a h => ?_
 refine lp1 h [0, 1, 10] (fun n f w' => ∃ k : Nat, k ≤ d1.length ∧ n = d1.length - k ∧ f = [(5, .int .i64 k)] ∧ Hp c0 w w' ([]) ∧ d1.take k = d2.take k) (d1.length) [(5, .int .i64 ((0 : Nat) : Int))] ⟨rfl, rfl, rfl, rfl, trivial⟩ ⟨0, Nat.zero_le _, rfl, rfl, hp, rfl⟩ ?_
 rintro n f a w1 ⟨k, hk, rfl, rfl, hp, hI⟩ h
 have hfit := hR.fits
 refine wp_seq ?_
 refine rg ?_
 refine wm2 h rfl rfl rfl rfl fun a h => ?_
 refine wvl h (lenR h rfl Tryz.underlying22 (hR.keep (by decide) hp cl0)) fun a h => ?_
 refine wvl h (lss h rfl rfl) fun a h => ?_
 refine wn ?_
 refine cnd1 h rfl (fun hb2 => ?_) (fun hb2 => ?_)
 ·have hlt : k < d1.length := by have := of_decide_eq_true hb2; omega
  obtain ⟨y, hy⟩ : ∃ y, d1[k]? = some y := ⟨_, List.getElem?_eq_getElem hlt⟩
  obtain ⟨z, hz⟩ : ∃ z, d2[k]? = some z := ⟨_, List.getElem?_eq_getElem (by omega)⟩
  refine skp ?_
  refine blk ?_
  refine rdh (n := 9) hp mixed rfl ?_
  have hp := hp.drew
  refine tkm 0 h rfl hp rfl fun a h => ?_
  refine tkm 1 h rfl hp rfl fun a h => ?_
  refine tkq 2 h rfl hp (fun W hp => iadR (k) h rfl rfl Tryz.underlying22 sz87 (hR.keep (by decide) hp cl0) (rfl) (hlt)) fun a h => ?_
  refine tkq 3 h rfl hp (fun W hp => ldE h (hR.keep (by decide) hp cl0) hy rfl ag87 sz87) fun a h => ?_
  refine tkm 4 h rfl hp rfl fun a h => ?_
  refine tkm 5 h rfl hp rfl fun a h => ?_
  refine tkq 6 h rfl hp (fun W hp => iadR (k) h rfl rfl Tryz.underlying22 sz87 (hS.keep (by decide) hp cl0) (rfl) (by omega)) fun a h => ?_
  refine tkq 7 h rfl hp (fun W hp => ldE h (hS.keep (by decide) hp cl0) hz rfl ag87 sz87) fun a h => ?_
  refine tkq 8 h rfl hp (fun W _ => neS h rfl rfl (by kernel_rfl) (eqs87 _ _ _ _ _ _)) fun a h => ?_
  refine dn (by kernel_rfl) ?_
  refine cnd1 h rfl (fun hb3 => ?_) (fun hb3 => ?_)
  ·have hne : ¬ y = z := by have hq := hb3; rw [mark_eq] at hq; simpa using hq
   refine rg ?_
   refine wsn h rfl fun a h => ?_
   refine wp_ret ?_
   try simp only [xqs]
   refine rt_1 h rfl (rvT h rfl) ?_
   exact ⟨_, rfl, by rw [same_no hy hz hne], hp.bel⟩
  have hne : y = z := by have hq := hb3; rw [mark_eq] at hq; simpa using hq
  refine wp_skip ?_
  refine rg1 ?_
  refine wmv h rfl fun a h => ?_
  refine wvl h (add h rfl rfl (by omega)) fun a h => ?_
  refine wsn h rfl fun a h => ?_
  exact ⟨_, _, (by omega), ⟨k + 1, by omega, rfl, rfl, hp, same_go hy hz hne hI⟩, h.sub ⟨rfl, rfl, rfl, rfl, trivial⟩⟩
 have hend : k = d1.length := by have := of_decide_eq_false hb2; omega
 subst hend
 refine wp_exit ?_
 try simp only [xqs, ↓reduceIte, Nat.reduceEqDiff]
 refine rg ?_
 refine wsn h rfl fun a h => ?_
 refine wp_ret ?_
 try simp only [xqs]
 refine rt_1 h rfl (rvT h rfl) ?_
 exact ⟨_, rfl, by rw [same_yes hln hI], hp.bel⟩
end Go.Proofs.Ec
