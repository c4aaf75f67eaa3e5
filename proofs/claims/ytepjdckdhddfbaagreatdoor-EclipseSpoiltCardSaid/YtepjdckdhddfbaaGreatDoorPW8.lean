import Derived.Test.YtepjdckdhddfbaaGreatDoorProg
import Derived.Test.YtepjdckdhddfbaaGreatDoorPFa
import Derived.Test.YtepjdckdhddfbaaGreatDoorPQb
import Derived.Test.YtepjdckdhddfbaaGreatDoorPW7
import Derived.Test.YtepjdckdhddfbaaGreatDoorPQc
set_option linter.unusedVariables false
set_option linter.unusedSimpArgs false
set_option maxRecDepth 4000
namespace Go.Proofs.Ec
open Go.RowKit Go.Proofs.Sx
open Ecl
abbrev kqF (x : EV) (e : Eng) (s2 : SV) (b : Nat) (lo hi : Int) (ga gb gs : Nat) (W : World) : Prop := W.heap[ga]? = some (.cells #[.int .i64 lo] 3 (0, 0)) ∧ W.heap[gb]? = some (.cells #[.int .i64 hi] 3 (0, 0)) ∧ W.heap[gs]? = some (.cells #[x.b.v, .int .i64 e.nnum, .int .i64 e.nden, .int .i64 e.nstart, x.s.v, x.m.v, x.n.v, x.f.v, .int .i64 e.new, .int .i64 e.full, .int .i64 e.wide, s2.v, .map (some b)] 105 (0, 0))
abbrev kqE (x : EV) (e : Eng) (s2 : SV) (b : Nat) (lo hi : Int) (ga gb gs : Nat) : En := .fct (fun k => k = ga ∨ k = gb ∨ k = gs) (kqF x e s2 b lo hi ga gb gs)
abbrev encMk (m : Ecl.Mark) : Array Value := #[.agg #[.int .i64 m.day, .bool m.full, .int .i64 m.far]]
theorem foretold_s (x : EV) (e : Eng) (s2 : SV) (st : List Int) (b : Nat) (lo hi : Int) (w : World) : Ret Tryz.prog 70 #[.agg #[x.b.v, .int .i64 e.nnum, .int .i64 e.nden, .int .i64 e.nstart, x.s.v, x.m.v, x.n.v, x.f.v, .int .i64 e.new, .int .i64 e.full, .int .i64 e.wide, s2.v, .map (some b)], .int .i64 lo, .int .i64 hi] w fun u w' => (∃ ga gb gs, u = .func (.func 106) #[] #[.pointer (some ⟨ga, 0, none⟩), .pointer (some ⟨gb, 0, none⟩), .pointer (some ⟨gs, 0, none⟩)] ∧ kqF x e s2 b lo hi ga gb gs w' ∧ ∀ k, (kqE x e s2 b lo hi ga gb gs).D k → w.heap.size ≤ k ∧ k < w'.heap.size) ∧ Below w.heap.size w w' := by
 have hp : Hp c0 w w [] := Hp.start trivial
 refine enter Tryz.func70 rfl (N := 8) rfl rfl fun a h => ?_
 refine rg ?_
 refine wl (box (cs := #[_, _, _, _, _, _, _, _, _, _, _, _, _]) h hp rfl rfl fun a w1 g1 hg1 h hp => ?_)
 refine wl (box (cs := #[_]) h hp rfl rfl fun a w2 g2 hg2 h hp => ?_)
 refine wl (box (cs := #[_]) h hp rfl rfl fun a w3 g3 hg3 h hp => ?_)
 refine wsn h rfl fun a h => ?_
 refine rg ?_
 refine wvl h (mkf h rfl rfl) fun a h => ?_
 refine wsn h rfl fun a h => ?_
 refine wp_ret ?_
 try simp only [xqs]
 refine rt_1 h rfl (rvT h rfl) ?_
 exact ⟨_, rfl, ⟨g2, g3, g1, rfl, ⟨hp.fact (i := 1) rfl, hp.fact (i := 2) rfl, hp.fact (i := 0) rfl⟩, by rintro k (rfl | rfl | rfl) <;> first | exact hp.bnd (i := 1) rfl | exact hp.bnd (i := 2) rfl | exact hp.bnd (i := 0) rfl⟩, hp.bel⟩
set_option maxHeartbeats 2000000 in
theorem foretold_q {w0 : World} (x : EV) (e : Eng) (s2 : SV) (st : List Int) (b : Nat) (lo hi : Int) (ga gb gs : Nat) (hE0 : RdE w0 x e s2 st) (hcl : Cl (cM (hE e st) b) w0) (hlo : -1000000 ≤ lo) (hhi : hi ≤ 10000) : Seq Tryz.prog 106 #[.pointer (some ⟨ga, 0, none⟩), .pointer (some ⟨gb, 0, none⟩), .pointer (some ⟨gs, 0, none⟩)] encMk (tellAll e st (max 1 lo) hi) (cM (hE e st) b) w0 (kqE x e s2 b lo hi ga gb gs) := by
 intro lr JJ JX hl w hJ hp hy
 have ok := eng_ok hE0.ok
 have hlim := lim_bd ok
 refine enterI Tryz.func106 rfl (N := 52) rfl rfl fun a h => ?_
 refine rgI ?_
 refine wlI (stI (vl h (ldk h ((Hp.lastF hp).1) rfl rfl ag3) fun a h => ?_))
 refine wlI (stI (vl h (max_ h rfl rfl) fun a h => ?_))
 refine wlI (stI (vl h (asg h rfl) fun a h => ?_))
 refine wnI ?_
 refine lp1I h [0, 2, 3] (fun n f w' => ∃ (k : Nat) (hl' : HL), n = (hi + 1 - (max 1 lo + k)).toNat ∧ (max 1 lo + k ≤ hi + 1 ∨ k = 0) ∧ f = [(5, .int .i64 (max 1 lo + k))] ∧ JJ (part e st (max 1 lo) k 0) hl' ∧ Hp (cM (hE e st) b) w0 w' (hl' ++ [kqE x e s2 b lo hi ga gb gs])) ((hi + 1 - max 1 lo).toNat) [(5, .int .i64 (max 1 lo))] ⟨rfl, rfl, rfl, rfl, trivial⟩ ⟨0, hl, by simp, .inr rfl, by simp, by rw [part_0]; exact hJ, hp⟩ ?_
 rintro n f a w1 ⟨k, hl1, rfl, hk, rfl, hJ, hp⟩ h
 refine sqI ?_
 refine rgI ?_
 refine wlI (stI (vl h (mov h rfl) fun a h => ?_))
 refine wlI (stI (vl h (ldk h ((Hp.lastF hp).2.1) rfl rfl ag3) fun a h => ?_))
 refine wlI (stI (vl h (leq h rfl rfl) fun a h => ?_))
 refine wnI ?_
 refine cnd1I h rfl (fun hb1 => ?_) (fun hb1 => ?_)
 ·have hlt := of_decide_eq_true hb1
  refine skpI ?_
  refine blkI ?_
  refine rgI ?_
  refine wlI (stI (vl h (bld h rfl (bl151_ _)) fun a h => ?_))
  refine wlI (stI (vl h (mki h rfl (by kernel_rfl)) fun a h => ?_))
  refine wlI (stI (vl h (bld h rfl (bl152_ _)) fun a h => ?_))
  refine wlI (stI (vl h (mki h rfl (by kernel_rfl)) fun a h => ?_))
  refine wlI (stI (vl h (bld h rfl (bi153_151_152 _)) fun a h => ?_))
  refine wlI (stI (vl h (mov h rfl) fun a h => ?_))
  refine wnI ?_
  refine lp1I h [0, 2, 3, 5, 11, 12, 13, 16, 17, 18, 19, 20] (fun n f w' => ∃ (j : Nat) (hl' : HL), j ≤ 2 ∧ n = 2 - j ∧ f = [(21, .int .i64 j)] ∧ JJ (part e st (max 1 lo) k j) hl' ∧ Hp (cM (hE e st) b) w0 w' (hl' ++ [kqE x e s2 b lo hi ga gb gs])) (2) [(21, .int .i64 ((0 : Nat) : Int))] ⟨rfl, rfl, rfl, rfl, rfl, rfl, rfl, rfl, rfl, rfl, rfl, rfl, rfl, trivial⟩ ⟨0, hl1, by omega, rfl, rfl, hJ, hp⟩ ?_
  rintro n f a w2 ⟨j, hl2, hj, rfl, rfl, hJ, hp⟩ h
  refine rgI ?_
  refine wlI (stI (vl h (lss h rfl rfl) fun a h => ?_))
  refine wnI ?_
  refine cndI h rfl (fun hb2 => ?_) (fun hb2 => ?_)
  ·have hlt2 : j < 2 := by have := of_decide_eq_true hb2; omega
   refine skpI ?_
   refine blkI ?_
   refine rgI ?_
   rcases (by omega : j = 0 ∨ j = 1) with rfl | rfl
   ·refine wlI (stI (vl h (ixv h rfl rfl (ix153_151_152_0 _)) fun a h => ?_))
    refine wlI (stI (vl h (asg h rfl) fun a h => ?_))
    refine wnI ?_
    refine sqI ?_
    refine rgI ?_
    refine wlI (stI (vl h (ldK (us := [_, _, _, _, _, _, _, _, _, _, _, _, _]) h ((Hp.lastF hp).2.2) rfl sz105 rfl ag105) fun a h => ?_))
    refine wlI (stI (vl h (mov h rfl) fun a h => ?_))
    refine wlI (stI (vl h (mov h rfl) fun a h => ?_))
    refine wlI (stI (cal h rfl en75 (has_false_e x e s2 st b _ _ (by first | exact hE0.keep hp hcl | exact (hE0.keep hp hcl)) hp.inv (by omega)) fun u w3 ⟨e1, e2, e3⟩ a h => ?_))
    subst e1
    have hp := hp.grow e2 e3
    refine wlI (stI (vl h (not_ h rfl) fun a h => ?_))
    refine wnI ?_
    refine cnd1I h rfl (fun hb3 => ?_) (fun hb3 => ?_)
    ·have htl := tell_no1 (e := e) (st := st) (full := false) (t := max 1 lo + k) (by simpa using hb3)
     have hJ2 : JJ (part e st (max 1 lo) k 1) hl2 := by rw [part_s0 htl, List.append_nil]; exact hJ
     refine wpIn_exit ?_
     try simp only [xqs, ↓reduceIte, Nat.reduceEqDiff]
     refine rg1I ?_
     refine wlI (stI (vl h (add h rfl rfl (by omega)) fun a h => ?_))
     refine wlI (stI (vl h (mov h rfl) fun a h => ?_))
     refine wnI ?_
     exact ⟨_, _, (by omega), ⟨_, _, by omega, rfl, rfl, hJ2, hp⟩, h.sub ⟨rfl, rfl, rfl, rfl, rfl, rfl, rfl, rfl, rfl, rfl, rfl, rfl, rfl, trivial⟩⟩
    have hhas : crossed (hands e st (max 1 lo + k - 1)) (hands e st (max 1 lo + k)) false = true := by simpa using hb3
    refine skpI ?_
    refine rgI ?_
    refine wlI (stI (vl h (ldK (us := [_, _, _, _, _, _, _, _, _, _, _, _, _]) h ((Hp.lastF hp).2.2) rfl sz105 rfl ag105) fun a h => ?_))
    refine wlI (stI (vl h (mov h rfl) fun a h => ?_))
    refine wlI (stI (cal h rfl en76 (far_e x e s2 st b _ _ (by first | exact hE0.keep hp hcl | exact (hE0.keep hp hcl)) hp.inv (by omega)) fun u w4 ⟨e1, e2, e3⟩ a h => ?_))
    subst e1
    have hp := hp.grow e2 e3
    refine wlI (stI (vl h (asg h rfl) fun a h => ?_))
    refine wnI ?_
    refine rdS (n := 19) (fun W => kqF x e s2 b lo hi ga gb gs W) mixed rfl ?_
    have hp := hp.drew
    refine tkI 0 h rfl (by kernel_rfl) (fun _ _ _ q => q) (Hp.lastF (hp)) rfl rfl rfl (fun W _ => mov h rfl) fun a h => ?_
    refine tkI 1 h rfl (by kernel_rfl) (fun _ _ _ q => q) (Hp.lastF (hp)) rfl rfl rfl (fun W hp => ldK (us := [_, _, _, _, _, _, _, _, _, _, _, _, _]) h (hp.2.2) rfl sz105 rfl ag105) fun a h => ?_
    refine tkI 2 h rfl (by kernel_rfl) (fun _ _ _ q => q) (Hp.lastF (hp)) rfl rfl rfl (fun W _ => mov h rfl) fun a h => ?_
    refine tkI 4 h rfl (by kernel_rfl) (fun _ _ _ q => q) (Hp.lastF (hp)) rfl rfl rfl (fun W _ => fad h rfl fo105_0) fun a h => ?_
    refine tkI 5 h rfl (by kernel_rfl) (fun _ _ _ q => q) (Hp.lastF (hp)) rfl rfl rfl (fun W _ => fad h rfl fo76_7) fun a h => ?_
    refine tkI 6 h rfl (by kernel_rfl) (fun _ _ _ q => q) (Hp.lastF (hp)) rfl rfl rfl (fun W hp => ldk h (hp.2.2) rfl rfl ag3) fun a h => ?_
    refine oneI 3 (by kernel_rfl) rfl (stI (cal h rfl en77 (limit_false_e x e s2 st b _) fun u w5 ⟨e1, e2⟩ a h => ⟨(Hp.lastF (hp.below e2)), ?_⟩))
    subst e1
    have hp := hp.below e2
    refine tkI 7 h rfl (by kernel_rfl) (fun _ _ _ q => q) (Hp.lastF (hp)) rfl rfl rfl (fun W _ => add h rfl rfl (by omega)) fun a h => ?_
    refine tkI 8 h rfl (by kernel_rfl) (fun _ _ _ q => q) (Hp.lastF (hp)) rfl rfl rfl (fun W _ => leq h rfl rfl) fun a h => ?_
    refine tkI 9 h rfl (by kernel_rfl) (fun _ _ _ q => q) (Hp.lastF (hp)) rfl rfl rfl (fun W _ => mov h rfl) fun a h => ?_
    refine split (t := 41) h rfl (fun hb4 => ?_) (fun hb4 => ?_)
    ·have hnear := of_decide_eq_true hb4
     have htl := tell_yes (e := e) (st := st) (full := false) (t := max 1 lo + k) hhas hnear
     refine tkI_on 10 h rfl (by kernel_rfl) (fun _ _ _ q => q) (Hp.lastF (hp)) rfl rfl rfl rfl rfl hb4 (fun W _ => mov h rfl) fun a h => ?_
     refine tkI_on 11 h rfl (by kernel_rfl) (fun _ _ _ q => q) (Hp.lastF (hp)) rfl rfl rfl rfl rfl hb4 (fun W _ => mov h rfl) fun a h => ?_
     refine tkI_on 12 h rfl (by kernel_rfl) (fun _ _ _ q => q) (Hp.lastF (hp)) rfl rfl rfl rfl rfl hb4 (fun W _ => mov h rfl) fun a h => ?_
     refine tkI_on 14 h rfl (by kernel_rfl) (fun _ _ _ q => q) (Hp.lastF (hp)) rfl rfl rfl rfl rfl hb4 (fun W _ => mov h rfl) fun a h => ?_
     refine oneI 13 (by kernel_rfl) rfl (stI (stp_on h rfl rfl rfl hb4 (ivk h rfl cm151_211 (full_newMoon_e _) fun u w6 ⟨e1, e2⟩ a h => ⟨(Hp.lastF (hp.below e2)), ?_⟩)))
     subst e1
     have hp := hp.below e2
     refine tkI_on 15 h rfl (by kernel_rfl) (fun _ _ _ q => q) (Hp.lastF (hp)) rfl rfl rfl rfl rfl hb4 (fun W _ => bld h rfl (bl87_0_1_2 _ _ _ _)) fun a h => ?_
     refine oneI 16 (by kernel_rfl) rfl (stI_on h rfl rfl rfl hb4 (yld h rfl rfl (hy _ ⟨max 1 lo + k, false, handFar (hands e st (max 1 lo + k))⟩ hl2 _ _ (part_pre0 hlt htl) hJ hp) fun bq w7 hq a h => ⟨(by obtain ⟨_, _, hp⟩ := hq; exact Hp.lastF hp), ?_⟩))
     obtain ⟨hl3, hj2, hp⟩ := hq
     refine tkI_on 17 h rfl (by kernel_rfl) (fun _ _ _ q => q) (Hp.lastF (hp)) rfl rfl rfl rfl rfl hb4 (fun W _ => not_ h rfl) fun a h => ?_
     refine tkI 18 h rfl (by kernel_rfl) (fun _ _ _ q => q) (Hp.lastF (hp)) rfl rfl rfl (fun W _ => pckT h rfl hb4 rfl) fun a h => ?_
     refine dnI (by kernel_rfl) ?_
     refine cnd1I h rfl (fun hb5 => ?_) (fun hb5 => ?_)
     ·have hb9 : bq = false := by simpa using hb5
      subst hb9
      refine wpIn_ret ?_
      try simp only [xqs, ↓reduceIte, Nat.reduceEqDiff]
      refine rt0' h rfl ?_
      exact ⟨⟨_, rfl⟩, hl3, .inr ⟨_, part_pre0 hlt htl, hj2⟩, hp.ini⟩
     have hb9 : bq = true := by simpa using hb5
     subst hb9
     have hJ2 : JJ (part e st (max 1 lo) k 1) hl3 := by rw [part_s0 htl]; exact hj2
     refine wpIn_skip ?_
     refine rg1I ?_
     refine wlI (stI (vl h (add h rfl rfl (by omega)) fun a h => ?_))
     refine wlI (stI (vl h (mov h rfl) fun a h => ?_))
     refine wnI ?_
     exact ⟨_, _, (by omega), ⟨_, _, by omega, rfl, rfl, hJ2, hp⟩, h.sub ⟨rfl, rfl, rfl, rfl, rfl, rfl, rfl, rfl, rfl, rfl, rfl, rfl, rfl, trivial⟩⟩
    have hnear := of_decide_eq_false hb4
    have htl := tell_no2 (e := e) (st := st) (full := false) (t := max 1 lo + k) hnear
    have hJ2 : JJ (part e st (max 1 lo) k 1) hl2 := by rw [part_s0 htl, List.append_nil]; exact hJ
    refine tkI_off 10 h rfl (by kernel_rfl) (fun _ _ _ q => q) (Hp.lastF (hp)) rfl rfl rfl rfl rfl hb4 fun a h => ?_
    refine tkI_off 11 h rfl (by kernel_rfl) (fun _ _ _ q => q) (Hp.lastF (hp)) rfl rfl rfl rfl rfl hb4 fun a h => ?_
    refine tkI_off 12 h rfl (by kernel_rfl) (fun _ _ _ q => q) (Hp.lastF (hp)) rfl rfl rfl rfl rfl hb4 fun a h => ?_
    refine tkI_off 13 h rfl (by kernel_rfl) (fun _ _ _ q => q) (Hp.lastF (hp)) rfl rfl rfl rfl rfl hb4 fun a h => ?_
    refine tkI_off 14 h rfl (by kernel_rfl) (fun _ _ _ q => q) (Hp.lastF (hp)) rfl rfl rfl rfl rfl hb4 fun a h => ?_
    refine tkI_off 15 h rfl (by kernel_rfl) (fun _ _ _ q => q) (Hp.lastF (hp)) rfl rfl rfl rfl rfl hb4 fun a h => ?_
    refine tkI_off 16 h rfl (by kernel_rfl) (fun _ _ _ q => q) (Hp.lastF (hp)) rfl rfl rfl rfl rfl hb4 fun a h => ?_
    refine tkI_off 17 h rfl (by kernel_rfl) (fun _ _ _ q => q) (Hp.lastF (hp)) rfl rfl rfl rfl rfl hb4 fun a h => ?_
    refine tkI 18 h rfl (by kernel_rfl) (fun _ _ _ q => q) (Hp.lastF (hp)) rfl rfl rfl (fun W _ => pckF h rfl hb4 rfl) fun a h => ?_
    refine dnI (by kernel_rfl) ?_
    refine cnd1I h rfl (fun e => nomatch e) (fun _ => ?_)
    refine wpIn_skip ?_
    refine rg1I ?_
    refine wlI (stI (vl h (add h rfl rfl (by omega)) fun a h => ?_))
    refine wlI (stI (vl h (mov h rfl) fun a h => ?_))
    refine wnI ?_
    exact ⟨_, _, (by omega), ⟨_, _, by omega, rfl, rfl, hJ2, hp⟩, h.sub ⟨rfl, rfl, rfl, rfl, rfl, rfl, rfl, rfl, rfl, rfl, rfl, rfl, rfl, trivial⟩⟩
   refine wlI (stI (vl h (ixv h rfl rfl (ix153_151_152_1 _)) fun a h => ?_))
   refine wlI (stI (vl h (asg h rfl) fun a h => ?_))
   refine wnI ?_
   refine sqI ?_
   refine rgI ?_
   refine wlI (stI (vl h (ldK (us := [_, _, _, _, _, _, _, _, _, _, _, _, _]) h ((Hp.lastF hp).2.2) rfl sz105 rfl ag105) fun a h => ?_))
   refine wlI (stI (vl h (mov h rfl) fun a h => ?_))
   refine wlI (stI (vl h (mov h rfl) fun a h => ?_))
   refine wlI (stI (cal h rfl en75 (has_true_e x e s2 st b _ _ (by first | exact hE0.keep hp hcl | exact (hE0.keep hp hcl)) hp.inv (by omega)) fun u w8 ⟨e1, e2, e3⟩ a h => ?_))
   subst e1
   have hp := hp.grow e2 e3
   refine wlI (stI (vl h (not_ h rfl) fun a h => ?_))
   refine wnI ?_
   refine cnd1I h rfl (fun hb6 => ?_) (fun hb6 => ?_)
   ·have htl := tell_no1 (e := e) (st := st) (full := true) (t := max 1 lo + k) (by simpa using hb6)
    have hJ2 : JJ (part e st (max 1 lo) k 2) hl2 := by rw [part_s1 htl, List.append_nil]; exact hJ
    refine wpIn_exit ?_
    try simp only [xqs, ↓reduceIte, Nat.reduceEqDiff]
    refine rg1I ?_
    refine wlI (stI (vl h (add h rfl rfl (by omega)) fun a h => ?_))
    refine wlI (stI (vl h (mov h rfl) fun a h => ?_))
    refine wnI ?_
    exact ⟨_, _, (by omega), ⟨_, _, by omega, rfl, rfl, hJ2, hp⟩, h.sub ⟨rfl, rfl, rfl, rfl, rfl, rfl, rfl, rfl, rfl, rfl, rfl, rfl, rfl, trivial⟩⟩
   have hhas : crossed (hands e st (max 1 lo + k - 1)) (hands e st (max 1 lo + k)) true = true := by simpa using hb6
   refine skpI ?_
   refine rgI ?_
   refine wlI (stI (vl h (ldK (us := [_, _, _, _, _, _, _, _, _, _, _, _, _]) h ((Hp.lastF hp).2.2) rfl sz105 rfl ag105) fun a h => ?_))
   refine wlI (stI (vl h (mov h rfl) fun a h => ?_))
   refine wlI (stI (cal h rfl en76 (far_e x e s2 st b _ _ (by first | exact hE0.keep hp hcl | exact (hE0.keep hp hcl)) hp.inv (by omega)) fun u w9 ⟨e1, e2, e3⟩ a h => ?_))
   subst e1
   have hp := hp.grow e2 e3
   refine wlI (stI (vl h (asg h rfl) fun a h => ?_))
   refine wnI ?_
   refine rdS (n := 19) (fun W => kqF x e s2 b lo hi ga gb gs W) mixed rfl ?_
   have hp := hp.drew
   refine tkI 0 h rfl (by kernel_rfl) (fun _ _ _ q => q) (Hp.lastF (hp)) rfl rfl rfl (fun W _ => mov h rfl) fun a h => ?_
   refine tkI 1 h rfl (by kernel_rfl) (fun _ _ _ q => q) (Hp.lastF (hp)) rfl rfl rfl (fun W hp => ldK (us := [_, _, _, _, _, _, _, _, _, _, _, _, _]) h (hp.2.2) rfl sz105 rfl ag105) fun a h => ?_
   refine tkI 2 h rfl (by kernel_rfl) (fun _ _ _ q => q) (Hp.lastF (hp)) rfl rfl rfl (fun W _ => mov h rfl) fun a h => ?_
   refine tkI 4 h rfl (by kernel_rfl) (fun _ _ _ q => q) (Hp.lastF (hp)) rfl rfl rfl (fun W _ => fad h rfl fo105_0) fun a h => ?_
   refine tkI 5 h rfl (by kernel_rfl) (fun _ _ _ q => q) (Hp.lastF (hp)) rfl rfl rfl (fun W _ => fad h rfl fo76_7) fun a h => ?_
   refine tkI 6 h rfl (by kernel_rfl) (fun _ _ _ q => q) (Hp.lastF (hp)) rfl rfl rfl (fun W hp => ldk h (hp.2.2) rfl rfl ag3) fun a h => ?_
   refine oneI 3 (by kernel_rfl) rfl (stI (cal h rfl en77 (limit_true_e x e s2 st b _) fun u w10 ⟨e1, e2⟩ a h => ⟨(Hp.lastF (hp.below e2)), ?_⟩))
   subst e1
   have hp := hp.below e2
   refine tkI 7 h rfl (by kernel_rfl) (fun _ _ _ q => q) (Hp.lastF (hp)) rfl rfl rfl (fun W _ => add h rfl rfl (by omega)) fun a h => ?_
   refine tkI 8 h rfl (by kernel_rfl) (fun _ _ _ q => q) (Hp.lastF (hp)) rfl rfl rfl (fun W _ => leq h rfl rfl) fun a h => ?_
   refine tkI 9 h rfl (by kernel_rfl) (fun _ _ _ q => q) (Hp.lastF (hp)) rfl rfl rfl (fun W _ => mov h rfl) fun a h => ?_
   refine split (t := 41) h rfl (fun hb7 => ?_) (fun hb7 => ?_)
   ·have hnear := of_decide_eq_true hb7
    have htl := tell_yes (e := e) (st := st) (full := true) (t := max 1 lo + k) hhas hnear
    refine tkI_on 10 h rfl (by kernel_rfl) (fun _ _ _ q => q) (Hp.lastF (hp)) rfl rfl rfl rfl rfl hb7 (fun W _ => mov h rfl) fun a h => ?_
    refine tkI_on 11 h rfl (by kernel_rfl) (fun _ _ _ q => q) (Hp.lastF (hp)) rfl rfl rfl rfl rfl hb7 (fun W _ => mov h rfl) fun a h => ?_
    refine tkI_on 12 h rfl (by kernel_rfl) (fun _ _ _ q => q) (Hp.lastF (hp)) rfl rfl rfl rfl rfl hb7 (fun W _ => mov h rfl) fun a h => ?_
    refine tkI_on 14 h rfl (by kernel_rfl) (fun _ _ _ q => q) (Hp.lastF (hp)) rfl rfl rfl rfl rfl hb7 (fun W _ => mov h rfl) fun a h => ?_
    refine oneI 13 (by kernel_rfl) rfl (stI (stp_on h rfl rfl rfl hb7 (ivk h rfl cm152_212 (full_fullMoon_e _) fun u w11 ⟨e1, e2⟩ a h => ⟨(Hp.lastF (hp.below e2)), ?_⟩)))
    subst e1
    have hp := hp.below e2
    refine tkI_on 15 h rfl (by kernel_rfl) (fun _ _ _ q => q) (Hp.lastF (hp)) rfl rfl rfl rfl rfl hb7 (fun W _ => bld h rfl (bl87_0_1_2 _ _ _ _)) fun a h => ?_
    refine oneI 16 (by kernel_rfl) rfl (stI_on h rfl rfl rfl hb7 (yld h rfl rfl (hy _ ⟨max 1 lo + k, true, handFar (hands e st (max 1 lo + k))⟩ hl2 _ _ (part_pre1 hlt htl) hJ hp) fun bq w12 hq a h => ⟨(by obtain ⟨_, _, hp⟩ := hq; exact Hp.lastF hp), ?_⟩))
    obtain ⟨hl3, hj2, hp⟩ := hq
    refine tkI_on 17 h rfl (by kernel_rfl) (fun _ _ _ q => q) (Hp.lastF (hp)) rfl rfl rfl rfl rfl hb7 (fun W _ => not_ h rfl) fun a h => ?_
    refine tkI 18 h rfl (by kernel_rfl) (fun _ _ _ q => q) (Hp.lastF (hp)) rfl rfl rfl (fun W _ => pckT h rfl hb7 rfl) fun a h => ?_
    refine dnI (by kernel_rfl) ?_
    refine cnd1I h rfl (fun hb8 => ?_) (fun hb8 => ?_)
    ·have hb9 : bq = false := by simpa using hb8
     subst hb9
     refine wpIn_ret ?_
     try simp only [xqs, ↓reduceIte, Nat.reduceEqDiff]
     refine rt0' h rfl ?_
     exact ⟨⟨_, rfl⟩, hl3, .inr ⟨_, part_pre1 hlt htl, hj2⟩, hp.ini⟩
    have hb9 : bq = true := by simpa using hb8
    subst hb9
    have hJ2 : JJ (part e st (max 1 lo) k 2) hl3 := by rw [part_s1 htl]; exact hj2
    refine wpIn_skip ?_
    refine rg1I ?_
    refine wlI (stI (vl h (add h rfl rfl (by omega)) fun a h => ?_))
    refine wlI (stI (vl h (mov h rfl) fun a h => ?_))
    refine wnI ?_
    exact ⟨_, _, (by omega), ⟨_, _, by omega, rfl, rfl, hJ2, hp⟩, h.sub ⟨rfl, rfl, rfl, rfl, rfl, rfl, rfl, rfl, rfl, rfl, rfl, rfl, rfl, trivial⟩⟩
   have hnear := of_decide_eq_false hb7
   have htl := tell_no2 (e := e) (st := st) (full := true) (t := max 1 lo + k) hnear
   have hJ2 : JJ (part e st (max 1 lo) k 2) hl2 := by rw [part_s1 htl, List.append_nil]; exact hJ
   refine tkI_off 10 h rfl (by kernel_rfl) (fun _ _ _ q => q) (Hp.lastF (hp)) rfl rfl rfl rfl rfl hb7 fun a h => ?_
   refine tkI_off 11 h rfl (by kernel_rfl) (fun _ _ _ q => q) (Hp.lastF (hp)) rfl rfl rfl rfl rfl hb7 fun a h => ?_
   refine tkI_off 12 h rfl (by kernel_rfl) (fun _ _ _ q => q) (Hp.lastF (hp)) rfl rfl rfl rfl rfl hb7 fun a h => ?_
   refine tkI_off 13 h rfl (by kernel_rfl) (fun _ _ _ q => q) (Hp.lastF (hp)) rfl rfl rfl rfl rfl hb7 fun a h => ?_
   refine tkI_off 14 h rfl (by kernel_rfl) (fun _ _ _ q => q) (Hp.lastF (hp)) rfl rfl rfl rfl rfl hb7 fun a h => ?_
   refine tkI_off 15 h rfl (by kernel_rfl) (fun _ _ _ q => q) (Hp.lastF (hp)) rfl rfl rfl rfl rfl hb7 fun a h => ?_
   refine tkI_off 16 h rfl (by kernel_rfl) (fun _ _ _ q => q) (Hp.lastF (hp)) rfl rfl rfl rfl rfl hb7 fun a h => ?_
   refine tkI_off 17 h rfl (by kernel_rfl) (fun _ _ _ q => q) (Hp.lastF (hp)) rfl rfl rfl rfl rfl hb7 fun a h => ?_
   refine tkI 18 h rfl (by kernel_rfl) (fun _ _ _ q => q) (Hp.lastF (hp)) rfl rfl rfl (fun W _ => pckF h rfl hb7 rfl) fun a h => ?_
   refine dnI (by kernel_rfl) ?_
   refine cnd1I h rfl (fun e => nomatch e) (fun _ => ?_)
   refine wpIn_skip ?_
   refine rg1I ?_
   refine wlI (stI (vl h (add h rfl rfl (by omega)) fun a h => ?_))
   refine wlI (stI (vl h (mov h rfl) fun a h => ?_))
   refine wnI ?_
   exact ⟨_, _, (by omega), ⟨_, _, by omega, rfl, rfl, hJ2, hp⟩, h.sub ⟨rfl, rfl, rfl, rfl, rfl, rfl, rfl, rfl, rfl, rfl, rfl, rfl, rfl, trivial⟩⟩
  have hend : j = 2 := by have := of_decide_eq_false hb2; omega
  subst hend
  refine wpIn_exit ?_
  try simp only [xqs, ↓reduceIte, Nat.reduceEqDiff]
  refine rg1I ?_
  refine wlI (stI (vl h (mov h rfl) fun a h => ?_))
  refine wlI (stI (vl h (add h rfl rfl (by omega)) fun a h => ?_))
  refine wlI (stI (vl h (asg h rfl) fun a h => ?_))
  refine wnI ?_
  exact ⟨_, _, (by omega), ⟨k + 1, hl2, rfl, by omega, congrArg (fun z => [(5, Value.int .i64 z)]) (by push_cast; omega : max 1 lo + (k : Int) + 1 = max 1 lo + ((k + 1 : Nat) : Int)), by rw [part_0, ← part_2]; exact hJ, hp⟩, h.sub ⟨rfl, rfl, rfl, rfl, trivial⟩⟩
 have hge := of_decide_eq_false hb1
 refine wpIn_exit ?_
 try simp only [xqs, ↓reduceIte, Nat.reduceEqDiff]
 refine rt0 h rfl ?_
 exact ⟨⟨_, rfl⟩, hl1, .inl (by rw [← part_end hge hk]; exact hJ), hp.ini⟩
theorem told_e (x : EV) (e : Eng) (s2 : SV) (st : List Int) (b : Nat) (m : Ecl.Mark) (late : Int) (w : World) (hE0 : RdE w x e s2 st) (hM : mapAt (hE e st) b w) (hd : 1 ≤ m.day ∧ m.day ≤ 9100) (hl0 : 0 ≤ late ∧ late ≤ 100) : Ret Tryz.prog 107 #[.agg #[x.b.v, .int .i64 e.nnum, .int .i64 e.nden, .int .i64 e.nstart, x.s.v, x.m.v, x.n.v, x.f.v, .int .i64 e.new, .int .i64 e.full, .int .i64 e.wide, s2.v, .map (some b)], .agg #[.int .i64 m.day, .bool m.full, .int .i64 m.far], .int .i64 late] w fun u w' => u = .bool (told e st m late) ∧ Ext (fun k => k = b) w w' ∧ mapAt (hE e st) b w' := by
 have hp : Hp (cM (hE e st) b) w w [] := Hp.start hM
 have hcl := clM hM
 have ok := eng_ok hE0.ok
 refine enterM Tryz.func107 rfl (N := 24) rfl rfl fun a h => ?_
 refine rg ?_
 refine wl (box (cs := #[_, _, _, _, _, _, _, _, _, _, _, _, _]) h hp rfl rfl fun a w1 g1 hg1 h hp => ?_)
 refine wl (box (cs := #[_, _, _]) h hp rfl rfl fun a w2 g2 hg2 h hp => ?_)
 refine wl (all h hp zc4 fun a w3 g3 hg3 h hp => ?_)
 refine wn ?_
 refine wp_seq ?_
 refine rg ?_
 refine wvl h (ldO (us := [_, _, _, _, _, _, _, _, _, _, _, _, _]) h hp rfl 0 rfl sz105 rfl ag105) fun a h => ?_
 refine wvl h (fad h rfl fo87_0) fun a h => ?_
 refine wvl h (ldo h hp rfl 1 rfl rfl ag3) fun a h => ?_
 refine wmv h rfl fun a h => ?_
 refine wvl h (sub h rfl rfl (by omega)) fun a h => ?_
 refine wvl h (fad h rfl fo87_0) fun a h => ?_
 refine wvl h (ldo h hp rfl 1 rfl rfl ag3) fun a h => ?_
 refine wmv h rfl fun a h => ?_
 refine wvl h (add h rfl rfl (by omega)) fun a h => ?_
 refine wl (cal h rfl en70 (foretold_s x e s2 st b (m.day - late) (m.day + late) _) fun u w4 ⟨⟨gka, gkb, gks, e1, hF, hD⟩, e2⟩ a h => ?_)
 subst e1
 have hp := hp.keepF (hp.below e2) (F := kqF x e s2 b (m.day - late) (m.day + late) gka gkb gks) (fun w1 w2 hs ⟨f1, f2, f3⟩ => ⟨(hs _ (.inl rfl)).trans f1, (hs _ (.inr (.inl rfl))).trans f2, (hs _ (.inr (.inr rfl))).trans f3⟩) hF hD
 refine wn ?_
 refine blk1 ?_
 refine rngF h (hl := [.blk g1 (.cells #[x.b.v, .int .i64 e.nnum, .int .i64 e.nden, .int .i64 e.nstart, x.s.v, x.m.v, x.n.v, x.f.v, .int .i64 e.new, .int .i64 e.full, .int .i64 e.wide, s2.v, .map (some b)] 105 (0, 0)), .blk g2 (.cells #[.int .i64 m.day, .bool m.full, .int .i64 m.far] 87 (0, 0)), .blk g3 (.cells #[.bool false] 4 (0, 0))]) hp rfl en106 (foretold_q x e s2 st b _ _ gka gkb gks hE0 hcl (by omega) (by omega)) (JJ := fun pre hl => hl = [.blk g1 (.cells #[x.b.v, .int .i64 e.nnum, .int .i64 e.nden, .int .i64 e.nstart, x.s.v, x.m.v, x.n.v, x.f.v, .int .i64 e.new, .int .i64 e.full, .int .i64 e.wide, s2.v, .map (some b)] 105 (0, 0)), .blk g2 (.cells #[.int .i64 m.day, .bool m.full, .int .i64 m.far] 87 (0, 0)), .blk g3 (.cells #[.bool false] 4 (0, 0))] ∧ (pre.any fun y => y.full == m.full) = false) (JX := fun cd pre hl => cd = .ret ∧ hl = [.blk g1 (.cells #[x.b.v, .int .i64 e.nnum, .int .i64 e.nden, .int .i64 e.nstart, x.s.v, x.m.v, x.n.v, x.f.v, .int .i64 e.new, .int .i64 e.full, .int .i64 e.wide, s2.v, .map (some b)] 105 (0, 0)), .blk g2 (.cells #[.int .i64 m.day, .bool m.full, .int .i64 m.far] 87 (0, 0)), .blk g3 (.cells #[.bool true] 4 (0, 0))] ∧ (pre.any fun y => y.full == m.full) = true) (⟨rfl, rfl⟩) (fun _ => rfl) (by decide) (by decide) ?_ ?_ ?_
 ·intro lr pre y hl qr qb w5 a hpre hJ hp h
  obtain ⟨rfl, hany⟩ := hJ
  refine rg1I ?_
  refine wlI (stI (all h hp zc87 fun a w6 g4 hg4 h hp => ?_))
  refine wlI (stI (sta h hp rfl rfl 4 rfl sz87 rfl rfl fun w7 hp => ?_))
  refine wnI ?_
  refine ⟨⟨_, hp⟩, fun w8 hpp => ?_⟩
  have hp := hpp _ hp
  refine blk1I ?_
  refine rgI ?_
  refine wlI (stI (vl h (fad h rfl fo87_1) fun a h => ?_))
  refine wlI (stI (vl h (ldo h hp rfl 4 rfl rfl ag4) fun a h => ?_))
  refine wlI (stI (vl h (fad h rfl fo87_1) fun a h => ?_))
  refine wlI (stI (vl h (ldo h hp rfl 1 rfl rfl ag4) fun a h => ?_))
  refine wlI (stI (vl h (eqb h rfl rfl Tryz.underlying4) fun a h => ?_))
  refine wnI ?_
  refine cnd1I h rfl (fun hb1 => ?_) (fun hb1 => ?_)
  ·have hb1 : (y.full == m.full) = true := hb1
   refine rgI ?_
   refine wlI (stI (st1 h hp rfl rfl 2 rfl rfl sz4 rfl fun w9 hp => ?_))
   refine wnI ?_
   refine wpIn_ret ?_
   try simp only [xqs, ↓reduceIte, Nat.reduceEqDiff]
   exact ⟨_, ⟨by first | rfl | trivial, rfl, by rw [List.any_append]; simp [hb1]⟩, hp.pick [0, 1, 2, 3] (by decide) rfl⟩
  have hb1 : (y.full == m.full) = false := hb1
  refine wpIn_skip ?_
  exact ⟨_, ⟨rfl, by rw [List.any_append, hany]; simpa using hb1⟩, hp.pick [0, 1, 2, 3] (by decide) rfl⟩
 ·intro D hl w10 a hJ hp h
  obtain ⟨rfl, hany⟩ := hJ
  try simp only [xqs, ↓reduceIte, Nat.reduceEqDiff]
  refine rg ?_
  refine wl (st1 h hp rfl rfl 2 rfl rfl sz4 rfl fun w11 hp => ?_)
  refine wn ?_
  refine wp_ret ?_
  try simp only [xqs]
  refine rm1_1 (i := 3) h hp rfl rfl fun w9 hp => ⟨(rv1 h hp rfl 2 rfl rfl ag4), ?_⟩
  exact ⟨_, rfl, by rw [told, hany], hp.ext, hp.inv⟩
 intro D cd pre hl w12 a hpre hJ hp h
 obtain ⟨rfl, rfl, hany⟩ := hJ
 refine wp_ret ?_
 try simp only [xqs]
 refine rm1_1 (i := 3) h hp rfl rfl fun w9 hp => ⟨(rv1 h hp rfl 2 rfl rfl ag4), ?_⟩
 exact ⟨_, rfl, by rw [told, any_pre hpre hany], hp.ext, hp.inv⟩
theorem real_e (x : EV) (e : Eng) (s2 : SV) (st : List Int) (b : Nat) (lo hi : Int) (w : World) (hE0 : RdE w x e s2 st) (hab : lo ≤ hi ∧ 1 ≤ hi ∧ hi ≤ 10000 ∧ hi - lo ≤ 700) : Ret Tryz.prog 73 #[.agg #[x.b.v, .int .i64 e.nnum, .int .i64 e.nden, .int .i64 e.nstart, x.s.v, x.m.v, x.n.v, x.f.v, .int .i64 e.new, .int .i64 e.full, .int .i64 e.wide, s2.v, .map (some b)], .int .i64 lo, .int .i64 hi] w fun u w' => (∃ s : SV, u = s.v ∧ Fr w w' encM 3 s.v (skyAll e (max 1 lo) hi)) ∧ Below w.heap.size w w' := by
 have hp : Hp c0 w w [] := Hp.start trivial
 have hcl : Cl c0 w := cl0
 have ok := eng_ok hE0.ok
 have hnew := ok.new
 have hful := ok.full
 refine enter Tryz.func73 rfl (N := 26) rfl rfl fun a h => ?_
 refine rg ?_
 refine wl (box (cs := #[_, _, _, _, _, _, _, _, _, _, _, _, _]) h hp rfl rfl fun a w1 g1 hg1 h hp => ?_)
 refine wsn h rfl fun a h => ?_
 refine rg ?_
 refine wvl h (fad h rfl fo105_0) fun a h => ?_
 refine wvl h (fad h rfl fo76_0) fun a h => ?_
 refine wvl h (ldO (us := [_, _, _, _]) h hp rfl 0 rfl sz72 rfl ag72) fun a h => ?_
 refine wvl h (fad h rfl fo105_0) fun a h => ?_
 refine wvl h (fad h rfl fo76_5) fun a h => ?_
 refine wvl h (ldo h hp rfl 0 rfl rfl ag3) fun a h => ?_
 refine wvl h (fad h rfl fo105_0) fun a h => ?_
 refine wvl h (fad h rfl fo76_6) fun a h => ?_
 refine wvl h (ldo h hp rfl 0 rfl rfl ag3) fun a h => ?_
 refine wmv h rfl fun a h => ?_
 refine wvl h (max_ h rfl rfl) fun a h => ?_
 refine wmv h rfl fun a h => ?_
 refine wl (cal h rfl en108 (Eclipses_s x e (max 1 lo) hi _ (hE0.keep hp hcl).g.sky ok.sky (by omega) (by omega) (by omega)) fun u w2 ⟨⟨s21, e1, hf⟩, e2⟩ a h => ?_)
 subst e1
 have hp := hp.got (hp.below e2) (by decide) hf
 refine wmv h rfl fun a h => ?_
 refine wvl h (ext h rfl rfl) fun a h => ?_
 refine wvl h (ext h rfl rfl) fun a h => ?_
 refine ws2 h rfl rfl rfl rfl fun a h => ?_
 refine rg ?_
 refine wmv h rfl fun a h => ?_
 refine wsn h rfl fun a h => ?_
 refine wp_ret ?_
 try simp only [xqs]
 refine rt_1 h rfl (rvT h rfl) ?_
 exact ⟨_, rfl, ⟨_, rfl, hp.frR (i := 1) rfl⟩, hp.bel⟩
end Go.Proofs.Ec
