import Derived.Test.YtobofnkmbpfoiaaGreatDoorProg
import Derived.Test.YtobofnkmbpfoiaaGreatDoorPFa
import Derived.Test.YtobofnkmbpfoiaaGreatDoorPQb
import Derived.Test.YtobofnkmbpfoiaaGreatDoorPW26
import Derived.Test.YtobofnkmbpfoiaaGreatDoorPW24
import Derived.Test.YtobofnkmbpfoiaaGreatDoorPQc
set_option linter.unusedVariables false
set_option linter.unusedSimpArgs false
set_option maxRecDepth 4000
namespace Go.Proofs.Ec
open Go.RowKit Go.Proofs.Sx
open Ecl
theorem short_L (x : EV) (e : Eng) (s2 : SV) (st : List Int) (w : World) (hG : RdG w x e) (hS2 : Rd w encI 1 s2.v st) : Ret Tryz.prog 15 #[.agg #[x.b.v, .int .i64 e.nnum, .int .i64 e.nden, .int .i64 e.nstart, x.s.v, x.m.v, x.n.v, x.f.v, .int .i64 e.new, .int .i64 e.full, .int .i64 e.wide], s2.v] w fun u w' => (∃ b : Bool, u = .bool b) ∧ Below w.heap.size w w' := by
 have hp : Hp c0 w w [] := Hp.start trivial
 refine enter Tryz.func15 rfl (N := 61) rfl rfl fun a h => ?_
 refine rg ?_
 refine wl (box (cs := #[_, _, _, _, _, _, _, _, _, _, _]) h hp rfl rfl fun a w1 g1 hg1 h hp => ?_)
 refine wsn h rfl fun a h => ?_
 refine wp_seq ?_
 refine rg ?_
 refine wsn h rfl fun a h => ?_
 refine lp1 h [1, 2] (fun n f w' => ∃ k : Nat, k ≤ x.bs.length ∧ n = x.bs.length - k ∧ f = [(5, .int .i64 k)] ∧ Hp c0 w w' ([.blk g1 (.cells #[x.b.v, .int .i64 e.nnum, .int .i64 e.nden, .int .i64 e.nstart, x.s.v, x.m.v, x.n.v, x.f.v, .int .i64 e.new, .int .i64 e.full, .int .i64 e.wide] 32 (0, 0))]) ∧ True) (x.bs.length) [(5, .int .i64 ((0 : Nat) : Int))] ⟨rfl, rfl, rfl, trivial⟩ ⟨0, Nat.zero_le _, rfl, rfl, hp, trivial⟩ ?_
 rintro n f a w2 ⟨k, hk, rfl, rfl, hp, _⟩ h
 have hfit := hG.sky.b.fits
 refine wp_seq ?_
 refine rg ?_
 refine wmv h rfl fun a h => ?_
 refine wvl h (fad h rfl fo32_0) fun a h => ?_
 refine wvl h (fad h rfl fo28_0) fun a h => ?_
 refine wvl h (ldo h hp rfl 0 rfl rfl ag22) fun a h => ?_
 refine wvl h (lenR h rfl Tryz.underlying22 (hG.keep hp cl0).sky.b) fun a h => ?_
 refine wvl h (lss h rfl rfl) fun a h => ?_
 refine wmv h rfl fun a h => ?_
 refine split (t := 12) h rfl (fun hb1 => ?_) (fun hb1 => ?_)
 ·have hlt : k < x.bs.length := by have := of_decide_eq_true hb1; omega
  obtain ⟨y, hy⟩ : ∃ y, x.bs[k]? = some y := ⟨_, List.getElem?_eq_getElem hlt⟩
  refine wl (stp_on h rfl rfl rfl hb1 (vl h (mov h rfl) fun a h => ?_))
  refine wl (stp_on h rfl rfl rfl hb1 (vl h (lss h rfl rfl) fun a h => ?_))
  refine wvl h (pckT h rfl hb1 rfl) fun a h => ?_
  refine wn ?_
  refine cnd1 h rfl (fun hb2 => ?_) (fun hb2 => ?_)
  ·refine skp ?_
   refine blk ?_
   refine rg ?_
   refine wvl h (fad h rfl fo32_0) fun a h => ?_
   refine wvl h (fad h rfl fo28_0) fun a h => ?_
   refine wvl h (ldo h hp rfl 0 rfl rfl ag22) fun a h => ?_
   refine wmv h rfl fun a h => ?_
   refine wvl h (iadR (k) h rfl rfl Tryz.underlying22 sz46 (hG.keep hp cl0).sky.b (rfl) (hlt)) fun a h => ?_
   refine wvl h (fad h rfl fo46_2) fun a h => ?_
   refine wvl h (ldF 3 h (hG.keep hp cl0).sky.b hy rfl ag30 rfl) fun a h => ?_
   refine wvl h (lenR h rfl Tryz.underlying30 ((hG.sky.road y (List.mem_of_getElem? hy)).keep (by decide) hp cl0)) fun a h => ?_
   refine wvl h (gtr h rfl rfl) fun a h => ?_
   refine wn ?_
   refine cnd1 h rfl (fun hb3 => ?_) (fun hb3 => ?_)
   ·refine rg ?_
    refine wsn h rfl fun a h => ?_
    refine wp_ret ?_
    try simp only [xqs]
    refine rt_1 h rfl (rvT h rfl) ?_
    exact ⟨_, rfl, ⟨_, rfl⟩, hp.bel⟩
   refine wp_skip ?_
   refine rg1 ?_
   refine wmv h rfl fun a h => ?_
   refine wvl h (add h rfl rfl (by omega)) fun a h => ?_
   refine wsn h rfl fun a h => ?_
   exact ⟨_, _, (by omega), ⟨k + 1, by omega, rfl, rfl, hp.pre 1 rfl, trivial⟩, h.sub ⟨rfl, rfl, rfl, trivial⟩⟩
  refine wp_exit ?_
  try simp only [xqs, ↓reduceIte, Nat.reduceEqDiff]
  refine rg ?_
  refine wvl h (fad h rfl fo32_0) fun a h => ?_
  refine wvl h (fad h rfl fo28_0) fun a h => ?_
  refine wvl h (ldo h hp rfl 0 rfl rfl ag22) fun a h => ?_
  refine wvl h (lenR h rfl Tryz.underlying22 (hG.keep hp cl0).sky.b) fun a h => ?_
  refine wvl h (leq h rfl rfl) fun a h => ?_
  refine wmv h rfl fun a h => ?_
  refine split (t := 32) h rfl (fun hb4 => ?_) (fun hb4 => ?_)
  ·refine wl (stp_on h rfl rfl rfl hb4 (vl h (fad h rfl fo32_1) fun a h => ?_))
   refine wl (stp_on h rfl rfl rfl hb4 (vl h (ldo h hp rfl 0 rfl rfl ag29) fun a h => ?_))
   refine wl (stp_on h rfl rfl rfl hb4 (vl h (lenR h rfl Tryz.underlying29 (hG.keep hp cl0).s) fun a h => ?_))
   refine wl (stp_on h rfl rfl rfl hb4 (vl h (leq h rfl rfl) fun a h => ?_))
   refine wvl h (pckT h rfl hb4 rfl) fun a h => ?_
   refine wmv h rfl fun a h => ?_
   refine split (t := 38) h rfl (fun hb5 => ?_) (fun hb5 => ?_)
   ·refine wl (stp_on h rfl rfl rfl hb5 (vl h (fad h rfl fo32_2) fun a h => ?_))
    refine wl (stp_on h rfl rfl rfl hb5 (vl h (ldo h hp rfl 0 rfl rfl ag29) fun a h => ?_))
    refine wl (stp_on h rfl rfl rfl hb5 (vl h (lenR h rfl Tryz.underlying29 (hG.keep hp cl0).m) fun a h => ?_))
    refine wl (stp_on h rfl rfl rfl hb5 (vl h (leq h rfl rfl) fun a h => ?_))
    refine wvl h (pckT h rfl hb5 rfl) fun a h => ?_
    refine wmv h rfl fun a h => ?_
    refine split (t := 44) h rfl (fun hb6 => ?_) (fun hb6 => ?_)
    ·refine wl (stp_on h rfl rfl rfl hb6 (vl h (fad h rfl fo32_3) fun a h => ?_))
     refine wl (stp_on h rfl rfl rfl hb6 (vl h (ldo h hp rfl 0 rfl rfl ag29) fun a h => ?_))
     refine wl (stp_on h rfl rfl rfl hb6 (vl h (lenR h rfl Tryz.underlying29 (hG.keep hp cl0).n) fun a h => ?_))
     refine wl (stp_on h rfl rfl rfl hb6 (vl h (leq h rfl rfl) fun a h => ?_))
     refine wvl h (pckT h rfl hb6 rfl) fun a h => ?_
     refine wmv h rfl fun a h => ?_
     refine split (t := 50) h rfl (fun hb7 => ?_) (fun hb7 => ?_)
     ·refine wl (stp_on h rfl rfl rfl hb7 (vl h (fad h rfl fo32_4) fun a h => ?_))
      refine wl (stp_on h rfl rfl rfl hb7 (vl h (ldo h hp rfl 0 rfl rfl ag30) fun a h => ?_))
      refine wl (stp_on h rfl rfl rfl hb7 (vl h (lenR h rfl Tryz.underlying30 (hG.keep hp cl0).f) fun a h => ?_))
      refine wl (stp_on h rfl rfl rfl hb7 (vl h (leq h rfl rfl) fun a h => ?_))
      refine wvl h (pckT h rfl hb7 rfl) fun a h => ?_
      refine wmv h rfl fun a h => ?_
      refine split (t := 56) h rfl (fun hb8 => ?_) (fun hb8 => ?_)
      ·refine wl (stp_on h rfl rfl rfl hb8 (vl h (mov h rfl) fun a h => ?_))
       refine wl (stp_on h rfl rfl rfl hb8 (vl h (lenR h rfl Tryz.underlying30 (hS2.keep (by decide) hp cl0)) fun a h => ?_))
       refine wl (stp_on h rfl rfl rfl hb8 (vl h (leq h rfl rfl) fun a h => ?_))
       refine wvl h (pckT h rfl hb8 rfl) fun a h => ?_
       refine wsn h rfl fun a h => ?_
       refine wp_ret ?_
       try simp only [xqs]
       refine rt_1 h rfl (rvT h rfl) ?_
       exact ⟨_, rfl, ⟨_, rfl⟩, hp.bel⟩
      refine wl (stp_off h rfl rfl rfl rfl rfl hb8 fun a h => ?_)
      refine wl (stp_off h rfl rfl rfl rfl rfl hb8 fun a h => ?_)
      refine wl (stp_off h rfl rfl rfl rfl rfl hb8 fun a h => ?_)
      refine wvl h (pckF h rfl hb8 rfl) fun a h => ?_
      refine wsn h rfl fun a h => ?_
      refine wp_ret ?_
      try simp only [xqs]
      refine rt_1 h rfl (rvT h rfl) ?_
      exact ⟨_, rfl, ⟨_, rfl⟩, hp.bel⟩
     refine wl (stp_off h rfl rfl rfl rfl rfl hb7 fun a h => ?_)
     refine wl (stp_off h rfl rfl rfl rfl rfl hb7 fun a h => ?_)
     refine wl (stp_off h rfl rfl rfl rfl rfl hb7 fun a h => ?_)
     refine wl (stp_off h rfl rfl rfl rfl rfl hb7 fun a h => ?_)
     refine wvl h (pckF h rfl hb7 rfl) fun a h => ?_
     refine wmv h rfl fun a h => ?_
     refine wl (stp_off h rfl rfl rfl rfl rfl rfl fun a h => ?_)
     refine wl (stp_off h rfl rfl rfl rfl rfl rfl fun a h => ?_)
     refine wl (stp_off h rfl rfl rfl rfl rfl rfl fun a h => ?_)
     refine wvl h (pckF h rfl rfl rfl) fun a h => ?_
     refine wsn h rfl fun a h => ?_
     refine wp_ret ?_
     try simp only [xqs]
     refine rt_1 h rfl (rvT h rfl) ?_
     exact ⟨_, rfl, ⟨_, rfl⟩, hp.bel⟩
    refine wl (stp_off h rfl rfl rfl rfl rfl hb6 fun a h => ?_)
    refine wl (stp_off h rfl rfl rfl rfl rfl hb6 fun a h => ?_)
    refine wl (stp_off h rfl rfl rfl rfl rfl hb6 fun a h => ?_)
    refine wl (stp_off h rfl rfl rfl rfl rfl hb6 fun a h => ?_)
    refine wvl h (pckF h rfl hb6 rfl) fun a h => ?_
    refine wmv h rfl fun a h => ?_
    refine wl (stp_off h rfl rfl rfl rfl rfl rfl fun a h => ?_)
    refine wl (stp_off h rfl rfl rfl rfl rfl rfl fun a h => ?_)
    refine wl (stp_off h rfl rfl rfl rfl rfl rfl fun a h => ?_)
    refine wl (stp_off h rfl rfl rfl rfl rfl rfl fun a h => ?_)
    refine wvl h (pckF h rfl rfl rfl) fun a h => ?_
    refine wmv h rfl fun a h => ?_
    refine wl (stp_off h rfl rfl rfl rfl rfl rfl fun a h => ?_)
    refine wl (stp_off h rfl rfl rfl rfl rfl rfl fun a h => ?_)
    refine wl (stp_off h rfl rfl rfl rfl rfl rfl fun a h => ?_)
    refine wvl h (pckF h rfl rfl rfl) fun a h => ?_
    refine wsn h rfl fun a h => ?_
    refine wp_ret ?_
    try simp only [xqs]
    refine rt_1 h rfl (rvT h rfl) ?_
    exact ⟨_, rfl, ⟨_, rfl⟩, hp.bel⟩
   refine wl (stp_off h rfl rfl rfl rfl rfl hb5 fun a h => ?_)
   refine wl (stp_off h rfl rfl rfl rfl rfl hb5 fun a h => ?_)
   refine wl (stp_off h rfl rfl rfl rfl rfl hb5 fun a h => ?_)
   refine wl (stp_off h rfl rfl rfl rfl rfl hb5 fun a h => ?_)
   refine wvl h (pckF h rfl hb5 rfl) fun a h => ?_
   refine wmv h rfl fun a h => ?_
   refine wl (stp_off h rfl rfl rfl rfl rfl rfl fun a h => ?_)
   refine wl (stp_off h rfl rfl rfl rfl rfl rfl fun a h => ?_)
   refine wl (stp_off h rfl rfl rfl rfl rfl rfl fun a h => ?_)
   refine wl (stp_off h rfl rfl rfl rfl rfl rfl fun a h => ?_)
   refine wvl h (pckF h rfl rfl rfl) fun a h => ?_
   refine wmv h rfl fun a h => ?_
   refine wl (stp_off h rfl rfl rfl rfl rfl rfl fun a h => ?_)
   refine wl (stp_off h rfl rfl rfl rfl rfl rfl fun a h => ?_)
   refine wl (stp_off h rfl rfl rfl rfl rfl rfl fun a h => ?_)
   refine wl (stp_off h rfl rfl rfl rfl rfl rfl fun a h => ?_)
   refine wvl h (pckF h rfl rfl rfl) fun a h => ?_
   refine wmv h rfl fun a h => ?_
   refine wl (stp_off h rfl rfl rfl rfl rfl rfl fun a h => ?_)
   refine wl (stp_off h rfl rfl rfl rfl rfl rfl fun a h => ?_)
   refine wl (stp_off h rfl rfl rfl rfl rfl rfl fun a h => ?_)
   refine wvl h (pckF h rfl rfl rfl) fun a h => ?_
   refine wsn h rfl fun a h => ?_
   refine wp_ret ?_
   try simp only [xqs]
   refine rt_1 h rfl (rvT h rfl) ?_
   exact ⟨_, rfl, ⟨_, rfl⟩, hp.bel⟩
  refine wl (stp_off h rfl rfl rfl rfl rfl hb4 fun a h => ?_)
  refine wl (stp_off h rfl rfl rfl rfl rfl hb4 fun a h => ?_)
  refine wl (stp_off h rfl rfl rfl rfl rfl hb4 fun a h => ?_)
  refine wl (stp_off h rfl rfl rfl rfl rfl hb4 fun a h => ?_)
  refine wvl h (pckF h rfl hb4 rfl) fun a h => ?_
  refine wmv h rfl fun a h => ?_
  refine wl (stp_off h rfl rfl rfl rfl rfl rfl fun a h => ?_)
  refine wl (stp_off h rfl rfl rfl rfl rfl rfl fun a h => ?_)
  refine wl (stp_off h rfl rfl rfl rfl rfl rfl fun a h => ?_)
  refine wl (stp_off h rfl rfl rfl rfl rfl rfl fun a h => ?_)
  refine wvl h (pckF h rfl rfl rfl) fun a h => ?_
  refine wmv h rfl fun a h => ?_
  refine wl (stp_off h rfl rfl rfl rfl rfl rfl fun a h => ?_)
  refine wl (stp_off h rfl rfl rfl rfl rfl rfl fun a h => ?_)
  refine wl (stp_off h rfl rfl rfl rfl rfl rfl fun a h => ?_)
  refine wl (stp_off h rfl rfl rfl rfl rfl rfl fun a h => ?_)
  refine wvl h (pckF h rfl rfl rfl) fun a h => ?_
  refine wmv h rfl fun a h => ?_
  refine wl (stp_off h rfl rfl rfl rfl rfl rfl fun a h => ?_)
  refine wl (stp_off h rfl rfl rfl rfl rfl rfl fun a h => ?_)
  refine wl (stp_off h rfl rfl rfl rfl rfl rfl fun a h => ?_)
  refine wl (stp_off h rfl rfl rfl rfl rfl rfl fun a h => ?_)
  refine wvl h (pckF h rfl rfl rfl) fun a h => ?_
  refine wmv h rfl fun a h => ?_
  refine wl (stp_off h rfl rfl rfl rfl rfl rfl fun a h => ?_)
  refine wl (stp_off h rfl rfl rfl rfl rfl rfl fun a h => ?_)
  refine wl (stp_off h rfl rfl rfl rfl rfl rfl fun a h => ?_)
  refine wvl h (pckF h rfl rfl rfl) fun a h => ?_
  refine wsn h rfl fun a h => ?_
  refine wp_ret ?_
  try simp only [xqs]
  refine rt_1 h rfl (rvT h rfl) ?_
  exact ⟨_, rfl, ⟨_, rfl⟩, hp.bel⟩
 refine wl (stp_off h rfl rfl rfl rfl rfl hb1 fun a h => ?_)
 refine wl (stp_off h rfl rfl rfl rfl rfl hb1 fun a h => ?_)
 refine wvl h (pckF h rfl hb1 rfl) fun a h => ?_
 refine wn ?_
 refine cnd1 h rfl (fun e => nomatch e) (fun _ => ?_)
 refine wp_exit ?_
 try simp only [xqs, ↓reduceIte, Nat.reduceEqDiff]
 refine rg ?_
 refine wvl h (fad h rfl fo32_0) fun a h => ?_
 refine wvl h (fad h rfl fo28_0) fun a h => ?_
 refine wvl h (ldo h hp rfl 0 rfl rfl ag22) fun a h => ?_
 refine wvl h (lenR h rfl Tryz.underlying22 (hG.keep hp cl0).sky.b) fun a h => ?_
 refine wvl h (leq h rfl rfl) fun a h => ?_
 refine wmv h rfl fun a h => ?_
 refine split (t := 32) h rfl (fun hb9 => ?_) (fun hb9 => ?_)
 ·refine wl (stp_on h rfl rfl rfl hb9 (vl h (fad h rfl fo32_1) fun a h => ?_))
  refine wl (stp_on h rfl rfl rfl hb9 (vl h (ldo h hp rfl 0 rfl rfl ag29) fun a h => ?_))
  refine wl (stp_on h rfl rfl rfl hb9 (vl h (lenR h rfl Tryz.underlying29 (hG.keep hp cl0).s) fun a h => ?_))
  refine wl (stp_on h rfl rfl rfl hb9 (vl h (leq h rfl rfl) fun a h => ?_))
  refine wvl h (pckT h rfl hb9 rfl) fun a h => ?_
  refine wmv h rfl fun a h => ?_
  refine split (t := 38) h rfl (fun hb10 => ?_) (fun hb10 => ?_)
  ·refine wl (stp_on h rfl rfl rfl hb10 (vl h (fad h rfl fo32_2) fun a h => ?_))
   refine wl (stp_on h rfl rfl rfl hb10 (vl h (ldo h hp rfl 0 rfl rfl ag29) fun a h => ?_))
   refine wl (stp_on h rfl rfl rfl hb10 (vl h (lenR h rfl Tryz.underlying29 (hG.keep hp cl0).m) fun a h => ?_))
   refine wl (stp_on h rfl rfl rfl hb10 (vl h (leq h rfl rfl) fun a h => ?_))
   refine wvl h (pckT h rfl hb10 rfl) fun a h => ?_
   refine wmv h rfl fun a h => ?_
   refine split (t := 44) h rfl (fun hb11 => ?_) (fun hb11 => ?_)
   ·refine wl (stp_on h rfl rfl rfl hb11 (vl h (fad h rfl fo32_3) fun a h => ?_))
    refine wl (stp_on h rfl rfl rfl hb11 (vl h (ldo h hp rfl 0 rfl rfl ag29) fun a h => ?_))
    refine wl (stp_on h rfl rfl rfl hb11 (vl h (lenR h rfl Tryz.underlying29 (hG.keep hp cl0).n) fun a h => ?_))
    refine wl (stp_on h rfl rfl rfl hb11 (vl h (leq h rfl rfl) fun a h => ?_))
    refine wvl h (pckT h rfl hb11 rfl) fun a h => ?_
    refine wmv h rfl fun a h => ?_
    refine split (t := 50) h rfl (fun hb12 => ?_) (fun hb12 => ?_)
    ·refine wl (stp_on h rfl rfl rfl hb12 (vl h (fad h rfl fo32_4) fun a h => ?_))
     refine wl (stp_on h rfl rfl rfl hb12 (vl h (ldo h hp rfl 0 rfl rfl ag30) fun a h => ?_))
     refine wl (stp_on h rfl rfl rfl hb12 (vl h (lenR h rfl Tryz.underlying30 (hG.keep hp cl0).f) fun a h => ?_))
     refine wl (stp_on h rfl rfl rfl hb12 (vl h (leq h rfl rfl) fun a h => ?_))
     refine wvl h (pckT h rfl hb12 rfl) fun a h => ?_
     refine wmv h rfl fun a h => ?_
     refine split (t := 56) h rfl (fun hb13 => ?_) (fun hb13 => ?_)
     ·refine wl (stp_on h rfl rfl rfl hb13 (vl h (mov h rfl) fun a h => ?_))
      refine wl (stp_on h rfl rfl rfl hb13 (vl h (lenR h rfl Tryz.underlying30 (hS2.keep (by decide) hp cl0)) fun a h => ?_))
      refine wl (stp_on h rfl rfl rfl hb13 (vl h (leq h rfl rfl) fun a h => ?_))
      refine wvl h (pckT h rfl hb13 rfl) fun a h => ?_
      refine wsn h rfl fun a h => ?_
      refine wp_ret ?_
      try simp only [xqs]
      refine rt_1 h rfl (rvT h rfl) ?_
      exact ⟨_, rfl, ⟨_, rfl⟩, hp.bel⟩
     refine wl (stp_off h rfl rfl rfl rfl rfl hb13 fun a h => ?_)
     refine wl (stp_off h rfl rfl rfl rfl rfl hb13 fun a h => ?_)
     refine wl (stp_off h rfl rfl rfl rfl rfl hb13 fun a h => ?_)
     refine wvl h (pckF h rfl hb13 rfl) fun a h => ?_
     refine wsn h rfl fun a h => ?_
     refine wp_ret ?_
     try simp only [xqs]
     refine rt_1 h rfl (rvT h rfl) ?_
     exact ⟨_, rfl, ⟨_, rfl⟩, hp.bel⟩
    refine wl (stp_off h rfl rfl rfl rfl rfl hb12 fun a h => ?_)
    refine wl (stp_off h rfl rfl rfl rfl rfl hb12 fun a h => ?_)
    refine wl (stp_off h rfl rfl rfl rfl rfl hb12 fun a h => ?_)
    refine wl (stp_off h rfl rfl rfl rfl rfl hb12 fun a h => ?_)
    refine wvl h (pckF h rfl hb12 rfl) fun a h => ?_
    refine wmv h rfl fun a h => ?_
    refine wl (stp_off h rfl rfl rfl rfl rfl rfl fun a h => ?_)
    refine wl (stp_off h rfl rfl rfl rfl rfl rfl fun a h => ?_)
    refine wl (stp_off h rfl rfl rfl rfl rfl rfl fun a h => ?_)
    refine wvl h (pckF h rfl rfl rfl) fun a h => ?_
    refine wsn h rfl fun a h => ?_
    refine wp_ret ?_
    try simp only [xqs]
    refine rt_1 h rfl (rvT h rfl) ?_
    exact ⟨_, rfl, ⟨_, rfl⟩, hp.bel⟩
   refine wl (stp_off h rfl rfl rfl rfl rfl hb11 fun a h => ?_)
   refine wl (stp_off h rfl rfl rfl rfl rfl hb11 fun a h => ?_)
   refine wl (stp_off h rfl rfl rfl rfl rfl hb11 fun a h => ?_)
   refine wl (stp_off h rfl rfl rfl rfl rfl hb11 fun a h => ?_)
   refine wvl h (pckF h rfl hb11 rfl) fun a h => ?_
   refine wmv h rfl fun a h => ?_
   refine wl (stp_off h rfl rfl rfl rfl rfl rfl fun a h => ?_)
   refine wl (stp_off h rfl rfl rfl rfl rfl rfl fun a h => ?_)
   refine wl (stp_off h rfl rfl rfl rfl rfl rfl fun a h => ?_)
   refine wl (stp_off h rfl rfl rfl rfl rfl rfl fun a h => ?_)
   refine wvl h (pckF h rfl rfl rfl) fun a h => ?_
   refine wmv h rfl fun a h => ?_
   refine wl (stp_off h rfl rfl rfl rfl rfl rfl fun a h => ?_)
   refine wl (stp_off h rfl rfl rfl rfl rfl rfl fun a h => ?_)
   refine wl (stp_off h rfl rfl rfl rfl rfl rfl fun a h => ?_)
   refine wvl h (pckF h rfl rfl rfl) fun a h => ?_
   refine wsn h rfl fun a h => ?_
   refine wp_ret ?_
   try simp only [xqs]
   refine rt_1 h rfl (rvT h rfl) ?_
   exact ⟨_, rfl, ⟨_, rfl⟩, hp.bel⟩
  refine wl (stp_off h rfl rfl rfl rfl rfl hb10 fun a h => ?_)
  refine wl (stp_off h rfl rfl rfl rfl rfl hb10 fun a h => ?_)
  refine wl (stp_off h rfl rfl rfl rfl rfl hb10 fun a h => ?_)
  refine wl (stp_off h rfl rfl rfl rfl rfl hb10 fun a h => ?_)
  refine wvl h (pckF h rfl hb10 rfl) fun a h => ?_
  refine wmv h rfl fun a h => ?_
  refine wl (stp_off h rfl rfl rfl rfl rfl rfl fun a h => ?_)
  refine wl (stp_off h rfl rfl rfl rfl rfl rfl fun a h => ?_)
  refine wl (stp_off h rfl rfl rfl rfl rfl rfl fun a h => ?_)
  refine wl (stp_off h rfl rfl rfl rfl rfl rfl fun a h => ?_)
  refine wvl h (pckF h rfl rfl rfl) fun a h => ?_
  refine wmv h rfl fun a h => ?_
  refine wl (stp_off h rfl rfl rfl rfl rfl rfl fun a h => ?_)
  refine wl (stp_off h rfl rfl rfl rfl rfl rfl fun a h => ?_)
  refine wl (stp_off h rfl rfl rfl rfl rfl rfl fun a h => ?_)
  refine wl (stp_off h rfl rfl rfl rfl rfl rfl fun a h => ?_)
  refine wvl h (pckF h rfl rfl rfl) fun a h => ?_
  refine wmv h rfl fun a h => ?_
  refine wl (stp_off h rfl rfl rfl rfl rfl rfl fun a h => ?_)
  refine wl (stp_off h rfl rfl rfl rfl rfl rfl fun a h => ?_)
  refine wl (stp_off h rfl rfl rfl rfl rfl rfl fun a h => ?_)
  refine wvl h (pckF h rfl rfl rfl) fun a h => ?_
  refine wsn h rfl fun a h => ?_
  refine wp_ret ?_
  try simp only [xqs]
  refine rt_1 h rfl (rvT h rfl) ?_
  exact ⟨_, rfl, ⟨_, rfl⟩, hp.bel⟩
 refine wl (stp_off h rfl rfl rfl rfl rfl hb9 fun a h => ?_)
 refine wl (stp_off h rfl rfl rfl rfl rfl hb9 fun a h => ?_)
 refine wl (stp_off h rfl rfl rfl rfl rfl hb9 fun a h => ?_)
 refine wl (stp_off h rfl rfl rfl rfl rfl hb9 fun a h => ?_)
 refine wvl h (pckF h rfl hb9 rfl) fun a h => ?_
 refine wmv h rfl fun a h => ?_
 refine wl (stp_off h rfl rfl rfl rfl rfl rfl fun a h => ?_)
 refine wl (stp_off h rfl rfl rfl rfl rfl rfl fun a h => ?_)
 refine wl (stp_off h rfl rfl rfl rfl rfl rfl fun a h => ?_)
 refine wl (stp_off h rfl rfl rfl rfl rfl rfl fun a h => ?_)
 refine wvl h (pckF h rfl rfl rfl) fun a h => ?_
 refine wmv h rfl fun a h => ?_
 refine wl (stp_off h rfl rfl rfl rfl rfl rfl fun a h => ?_)
 refine wl (stp_off h rfl rfl rfl rfl rfl rfl fun a h => ?_)
 refine wl (stp_off h rfl rfl rfl rfl rfl rfl fun a h => ?_)
 refine wl (stp_off h rfl rfl rfl rfl rfl rfl fun a h => ?_)
 refine wvl h (pckF h rfl rfl rfl) fun a h => ?_
 refine wmv h rfl fun a h => ?_
 refine wl (stp_off h rfl rfl rfl rfl rfl rfl fun a h => ?_)
 refine wl (stp_off h rfl rfl rfl rfl rfl rfl fun a h => ?_)
 refine wl (stp_off h rfl rfl rfl rfl rfl rfl fun a h => ?_)
 refine wl (stp_off h rfl rfl rfl rfl rfl rfl fun a h => ?_)
 refine wvl h (pckF h rfl rfl rfl) fun a h => ?_
 refine wmv h rfl fun a h => ?_
 refine wl (stp_off h rfl rfl rfl rfl rfl rfl fun a h => ?_)
 refine wl (stp_off h rfl rfl rfl rfl rfl rfl fun a h => ?_)
 refine wl (stp_off h rfl rfl rfl rfl rfl rfl fun a h => ?_)
 refine wvl h (pckF h rfl rfl rfl) fun a h => ?_
 refine wsn h rfl fun a h => ?_
 refine wp_ret ?_
 try simp only [xqs]
 refine rt_1 h rfl (rvT h rfl) ?_
 exact ⟨_, rfl, ⟨_, rfl⟩, hp.bel⟩
theorem train_L (s : SV) (l : List Int) (w : World) (hR : Rd w encI 1 s.v l) (hln : l.length ≤ 100) : Ret Tryz.prog 115 #[s.v] w fun u w' => (∃ s' : SV, u = s'.v ∧ Fr w w' encP 2 s'.v ((List.range (l.length / 2)).map (prT l))) ∧ Below w.heap.size w w' := by
 have hp : Hp c0 w w [] := Hp.start trivial
 refine enter Tryz.func115 rfl (N := 26) rfl rfl fun a h => ?_
 refine rg ?_
 refine wsn h rfl fun a h => ?_
 refine rg ?_
 refine wsn h rfl fun a h => ?_
 refine wp_seq ?_
 refine rg ?_
 refine wsn h rfl fun a h => ?_
 have hp := hp.nilB 140 2
 refine lp1 h [0, 2] (fun n f w' => ∃ (j : Nat) (s1 : SV), j ≤ l.length / 2 ∧ n = l.length / 2 - j ∧ f = [(4, .int .i64 ((2 * j : Nat) : Int)), (3, s1.v)] ∧ Hp c0 w w' [.buf 140 2 s1.v j (((List.range j).map (prT l)).flatMap encP)]) (l.length / 2) [(4, .int .i64 ((2 * 0 : Nat) : Int)), (3, .slice none 0 0)] ⟨rfl, rfl, rfl, rfl, trivial⟩ ⟨0, ⟨none, 0, 0⟩, Nat.zero_le _, rfl, rfl, hp⟩ ?_
 rintro n f a w1 ⟨j, s1, hj, rfl, rfl, hp⟩ h
 have hfit := hR.fits
 refine wp_seq ?_
 refine rg ?_
 refine wmv h rfl fun a h => ?_
 refine wvl h (add h rfl rfl (by omega)) fun a h => ?_
 refine wmv h rfl fun a h => ?_
 refine wvl h (lenR h rfl Tryz.underlying30 (hR.keep (by decide) hp cl0)) fun a h => ?_
 refine wvl h (lss h rfl rfl) fun a h => ?_
 refine wn ?_
 refine cnd1 h rfl (fun hb1 => ?_) (fun hb1 => ?_)
 ·have hlt : j < l.length / 2 := by have := of_decide_eq_true hb1; omega
  obtain ⟨y, hy⟩ : ∃ y, l[2 * j]? = some y := ⟨_, List.getElem?_eq_getElem (by omega)⟩
  obtain ⟨z, hz⟩ : ∃ z, l[2 * j + 1]? = some z := ⟨_, List.getElem?_eq_getElem (by omega)⟩
  refine skp ?_
  refine blk ?_
  refine rdh1 (n := 14) ((hp).pick [] (by decide) rfl) mixed rfl ?_
  have hp := hp.drew
  refine tkm 0 h rfl ((hp).pick [] (by decide) rfl) rfl fun a h => ?_
  refine tkm 1 h rfl ((hp).pick [] (by decide) rfl) rfl fun a h => ?_
  refine tkm 2 h rfl ((hp).pick [] (by decide) rfl) rfl fun a h => ?_
  refine tkq 3 h rfl ((hp).pick [] (by decide) rfl) (fun W hp => iadR (2 * j) h rfl rfl Tryz.underlying30 sz3 (hR.keep (by decide) hp cl0) (rfl) (by omega)) fun a h => ?_
  refine tkq 4 h rfl ((hp).pick [] (by decide) rfl) (fun W hp => ld0 h (hR.keep (by decide) hp cl0) hy rfl ag3 rfl) fun a h => ?_
  refine tkm 5 h rfl ((hp).pick [] (by decide) rfl) rfl fun a h => ?_
  refine tkm 6 h rfl ((hp).pick [] (by decide) rfl) rfl fun a h => ?_
  refine tkq 7 h rfl ((hp).pick [] (by decide) rfl) (fun W _ => add h rfl rfl (by omega)) fun a h => ?_
  refine tkq 8 h rfl ((hp).pick [] (by decide) rfl) (fun W hp => iadR (2 * j + 1) h rfl rfl Tryz.underlying30 sz3 (hR.keep (by decide) hp cl0) (by push_cast; omega) (by omega)) fun a h => ?_
  refine tkq 9 h rfl ((hp).pick [] (by decide) rfl) (fun W hp => ld0 h (hR.keep (by decide) hp cl0) hz rfl ag3 rfl) fun a h => ?_
  refine tkq 10 h rfl ((hp).pick [] (by decide) rfl) (fun W _ => bld h rfl (bl140_0_1 _ _ _)) fun a h => ?_
  refine one 11 (by kernel_rfl) rfl (bsl h hp rfl (bs29_1_0 _ _) fun a w2 g1 hg1 h hp => ⟨((hp).pick [] (by decide) rfl), ?_⟩)
  refine one 12 (by kernel_rfl) rfl (app1 0 h hp rfl rfl rfl ap29 1 rfl rfl rfl (by omega) (by omega) fun a w3 v h hp => ⟨((hp).pick [] (by decide) rfl), ?_⟩)
  refine tka 13 h rfl ((hp).pick [] (by decide) rfl) rfl fun a h => ?_
  refine dn (by kernel_rfl) ?_
  try simp only [xqs, ↓reduceIte, Nat.reduceEqDiff]
  refine rg1 ?_
  refine wmv h rfl fun a h => ?_
  refine wvl h (add h rfl rfl (by omega)) fun a h => ?_
  refine wsn h rfl fun a h => ?_
  exact ⟨_, _, (by omega), ⟨j + 1, _, by omega, rfl, congrArg (fun z => [(4, Value.int .i64 z), (3, _)]) (by push_cast; omega : ((2 * j : Nat) : Int) + 2 = ((2 * (j + 1) : Nat) : Int)), hp.pre 1 (by rw [List.range_succ, List.map_append, List.map_cons, List.map_nil, prT_eq hy hz]; simp [encP])⟩, h.sub ⟨rfl, rfl, rfl, rfl, trivial⟩⟩
 have hend : j = l.length / 2 := by have := of_decide_eq_false hb1; omega
 subst hend
 refine wp_exit ?_
 try simp only [xqs, ↓reduceIte, Nat.reduceEqDiff]
 refine rg ?_
 refine wmv h rfl fun a h => ?_
 refine wsn h rfl fun a h => ?_
 refine wp_ret ?_
 try simp only [xqs]
 refine rt_1 h rfl (rvT h rfl) ?_
 exact ⟨_, rfl, ⟨s1, rfl, hp.frB (i := 0) rfl rfl (by simp) (fun _ _ => rfl)⟩, hp.bel⟩
theorem B_L  (w : World) : Ret Tryz.prog 65 #[] w fun u w' => (∃ s' : SV, u = s'.v ∧ Fr w w' encL 3 s'.v ([⟨10, 0, 3⟩, ⟨20, 0, 4⟩, ⟨20, 8, 3⟩] : List Ball)) ∧ Below w.heap.size w w' := by
 have hp : Hp c0 w w [] := Hp.start trivial
 refine enter Tryz.func65 rfl (N := 5) rfl rfl fun a h => ?_
 refine rg ?_
 refine wsn h rfl fun a h => ?_
 refine rg ?_
 refine wvl h (bld h rfl (bl145_0_2 _ _ _)) fun a h => ?_
 refine wvl h (bld h rfl (bl145_0_2 _ _ _)) fun a h => ?_
 refine wvl h (bld h rfl (bl145_0_1_2 _ _ _ _)) fun a h => ?_
 refine wl (bsl h hp rfl (bs92_3_0_1_2 _ _ _ _ _ _ _ _ _) fun a w1 g1 hg1 h hp => ?_)
 refine wsn h rfl fun a h => ?_
 refine wp_ret ?_
 try simp only [xqs]
 refine rt_1 h rfl (rvT h rfl) ?_
 exact ⟨_, rfl, ⟨⟨some ⟨g1, 0, none⟩, 3, 3⟩, rfl, ⟨hp.rdA (i := 0) ([⟨10, 0, 3⟩, ⟨20, 0, 4⟩, ⟨20, 8, 3⟩] : List Ball) rfl rfl rfl (Nat.le_refl _) (show 3 ≤ 9223372036854775807 by decide) (fun _ _ => rfl), fun _ => (hp.bnd (i := 0) rfl).1⟩⟩, hp.bel⟩
end Go.Proofs.Ec
