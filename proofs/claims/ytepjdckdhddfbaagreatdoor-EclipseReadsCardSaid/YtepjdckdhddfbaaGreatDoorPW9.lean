import Derived.Test.YtepjdckdhddfbaaGreatDoorProg
import Derived.Test.YtepjdckdhddfbaaGreatDoorPFa
import Derived.Test.YtepjdckdhddfbaaGreatDoorPQb
import Derived.Test.YtepjdckdhddfbaaGreatDoorPW8
set_option linter.unusedVariables false
set_option linter.unusedSimpArgs false
set_option maxRecDepth 4000
namespace Go.Proofs.Ec
open Go.RowKit Go.Proofs.Sx
open Ecl
theorem rising_e (s : SV) (l : List Int) (lo hi : Int) (w : World) (hR : Rd w encI 1 s.v l) : Ret Tryz.prog 95 #[s.v, .int .i64 lo, .int .i64 hi] w fun u w' => u = .bool (rising lo hi l) ∧ Below w.heap.size w w' := by
 have hp : Hp c0 w w [] := Hp.start trivial
 refine enter Tryz.func95 rfl (N := 35) rfl rfl fun a h => ?_
 refine rg ?_
 refine wsn h rfl fun a h => ?_
 refine wp_seq ?_
 refine rg ?_
 refine wmv h rfl fun a h => ?_
 refine wvl h (lenR h rfl Tryz.underlying74 (hR.keep (by decide) hp cl0)) fun a h => ?_
 refine wmv h rfl fun a h => ?_
 refine wn ?_
 refine lp1 h [0, 1, 2, 9, 10] (fun n f w' => ∃ k : Nat, k ≤ l.length ∧ n = l.length - k ∧ f = [(11, .int .i64 k)] ∧ Hp c0 w w' ([]) ∧ rising lo hi (l.take k) = true) (l.length) [(11, .int .i64 ((0 : Nat) : Int))] ⟨rfl, rfl, rfl, rfl, rfl, rfl, trivial⟩ ⟨0, Nat.zero_le _, rfl, rfl, hp, rfl⟩ ?_
 rintro n f a w1 ⟨k, hk, rfl, rfl, hp, hI⟩ h
 have hfit := hR.fits
 refine rg ?_
 refine wvl h (lss h rfl rfl) fun a h => ?_
 refine wn ?_
 refine cnd h rfl (fun hb1 => ?_) (fun hb1 => ?_)
 ·have hlt : k < l.length := by have := of_decide_eq_true hb1; omega
  obtain ⟨y, hy⟩ : ∃ y, l[k]? = some y := ⟨_, List.getElem?_eq_getElem hlt⟩
  refine skp ?_
  refine blk ?_
  refine rg ?_
  refine wmv h rfl fun a h => ?_
  refine wvl h (iadR (k) h rfl rfl Tryz.underlying74 sz3 (hR.keep (by decide) hp cl0) (rfl) (hlt)) fun a h => ?_
  refine wvl h (ld0 h (hR.keep (by decide) hp cl0) hy rfl ag3 rfl) fun a h => ?_
  refine ws2 h rfl rfl rfl rfl fun a h => ?_
  refine rg ?_
  refine wm3 h rfl rfl rfl rfl rfl rfl fun a h => ?_
  refine wl (cal h rfl en61 (in_e _ _ _ _) fun u w2 ⟨e1, e2⟩ a h => ?_)
  subst e1
  subst e2
  refine wvl h (not_ h rfl) fun a h => ?_
  refine wmv h rfl fun a h => ?_
  refine split (t := 21) h rfl (fun hb2 => ?_) (fun hb2 => ?_)
  ·have hin : inR y lo hi = false := by simpa using hb2
   refine wl (stp_off h rfl rfl rfl rfl rfl hb2 fun a h => ?_)
   refine wl (stp_off h rfl rfl rfl rfl rfl hb2 fun a h => ?_)
   refine wl (stp_off h rfl rfl rfl rfl rfl hb2 fun a h => ?_)
   refine wl (stp_un h rfl rfl rfl rfl rfl fun a h => ?_)
   refine wl (stp_un h rfl rfl rfl rfl rfl fun a h => ?_)
   refine wl (stp_un h rfl rfl rfl rfl rfl fun a h => ?_)
   refine wl (stp_un h rfl rfl rfl rfl rfl fun a h => ?_)
   refine wl (stp_un h rfl rfl rfl rfl rfl fun a h => ?_)
   refine wl (stp_un h rfl rfl rfl rfl rfl fun a h => ?_)
   refine wl (stp_un h rfl rfl rfl rfl rfl fun a h => ?_)
   refine wl (stp_off h rfl rfl rfl rfl rfl hb2 fun a h => ?_)
   refine wvl h (pckT h rfl hb2 rfl) fun a h => ?_
   refine wn ?_
   refine cnd1 h rfl (fun _ => ?_) (fun e => nomatch e)
   refine rg ?_
   refine wsn h rfl fun a h => ?_
   refine wp_ret ?_
   try simp only [xqs]
   refine rt_1 h rfl (rvT h rfl) ?_
   exact ⟨_, rfl, by rw [rise_bad1 hy hin], hp.bel⟩
  have hin : inR y lo hi = true := by simpa using hb2
  refine wl (stp_on h rfl rfl rfl hb2 (vl h (mov h rfl) fun a h => ?_))
  refine wl (stp_on h rfl rfl rfl hb2 (vl h (gtr h rfl rfl) fun a h => ?_))
  refine wl (stp_on h rfl rfl rfl hb2 (vl h (mov h rfl) fun a h => ?_))
  refine split (t := 24) h rfl (fun hb3 => ?_) (fun hb3 => ?_)
  ·have hk0 : 0 < k := by have := of_decide_eq_true hb3; omega
   obtain ⟨y1, hy1⟩ : ∃ z, l[k - 1]? = some z := ⟨_, List.getElem?_eq_getElem (by omega)⟩
   refine wl (stp_on h rfl rfl rfl hb3 (vl h (mov h rfl) fun a h => ?_))
   refine wl (stp_on h rfl rfl rfl hb3 (vl h (mov h rfl) fun a h => ?_))
   refine wl (stp_on h rfl rfl rfl hb3 (vl h (mov h rfl) fun a h => ?_))
   refine wl (stp_on h rfl rfl rfl hb3 (vl h (sub h rfl rfl (by omega)) fun a h => ?_))
   refine wl (stp_on h rfl rfl rfl hb3 (vl h (iadR (k - 1) h rfl rfl Tryz.underlying74 sz3 (hR.keep (by decide) hp cl0) (by omega) (by omega)) fun a h => ?_))
   refine wl (stp_on h rfl rfl rfl hb3 (vl h (ld0 h (hR.keep (by decide) hp cl0) hy1 rfl ag3 rfl) fun a h => ?_))
   refine wl (stp_on h rfl rfl rfl hb3 (vl h (leq h rfl rfl) fun a h => ?_))
   refine wl (stp_on h rfl rfl rfl hb2 (vl h (pckT h rfl hb3 rfl) fun a h => ?_))
   refine wvl h (pckF h rfl hb2 rfl) fun a h => ?_
   refine wn ?_
   refine cnd1 h rfl (fun hb4 => ?_) (fun hb4 => ?_)
   ·have hn := of_decide_eq_true hb4
    refine rg ?_
    refine wsn h rfl fun a h => ?_
    refine wp_ret ?_
    try simp only [xqs]
    refine rt_1 h rfl (rvT h rfl) ?_
    exact ⟨_, rfl, by rw [rise_bad2 hk0 hy1 hy hn], hp.bel⟩
   have hn := of_decide_eq_false hb4
   refine wp_skip ?_
   refine rg1 ?_
   refine wvl h (add h rfl rfl (by omega)) fun a h => ?_
   refine wmv h rfl fun a h => ?_
   refine wn ?_
   exact ⟨_, _, (by omega), ⟨k + 1, by omega, rfl, rfl, hp, (by first | exact rise_go1 hk0 hI hy1 hy hin hn | exact rise_go0 hk0 hy hin)⟩, h.sub ⟨rfl, rfl, rfl, rfl, rfl, rfl, trivial⟩⟩
  have hk0 : ¬ 0 < k := by have := of_decide_eq_false hb3; omega
  refine wl (stp_off h rfl rfl rfl rfl rfl hb3 fun a h => ?_)
  refine wl (stp_off h rfl rfl rfl rfl rfl hb3 fun a h => ?_)
  refine wl (stp_off h rfl rfl rfl rfl rfl hb3 fun a h => ?_)
  refine wl (stp_off h rfl rfl rfl rfl rfl hb3 fun a h => ?_)
  refine wl (stp_off h rfl rfl rfl rfl rfl hb3 fun a h => ?_)
  refine wl (stp_off h rfl rfl rfl rfl rfl hb3 fun a h => ?_)
  refine wl (stp_off h rfl rfl rfl rfl rfl hb3 fun a h => ?_)
  refine wl (stp_on h rfl rfl rfl hb2 (vl h (pckF h rfl hb3 rfl) fun a h => ?_))
  refine wvl h (pckF h rfl hb2 rfl) fun a h => ?_
  refine wn ?_
  refine cnd1 h rfl (fun e => nomatch e) (fun _ => ?_)
  refine wp_skip ?_
  refine rg1 ?_
  refine wvl h (add h rfl rfl (by omega)) fun a h => ?_
  refine wmv h rfl fun a h => ?_
  refine wn ?_
  exact ⟨_, _, (by omega), ⟨k + 1, by omega, rfl, rfl, hp, (by first | exact rise_go1 hk0 hI hy1 hy hin hn | exact rise_go0 hk0 hy hin)⟩, h.sub ⟨rfl, rfl, rfl, rfl, rfl, rfl, trivial⟩⟩
 have hend : k = l.length := by have := of_decide_eq_false hb1; omega
 subst hend
 rw [List.take_length] at hI
 refine wp_exit ?_
 try simp only [xqs, ↓reduceIte, Nat.reduceEqDiff]
 refine rg ?_
 refine wsn h rfl fun a h => ?_
 refine wp_ret ?_
 try simp only [xqs]
 refine rt_1 h rfl (rvT h rfl) ?_
 exact ⟨_, rfl, by rw [hI], hp.bel⟩
theorem isEngine_e (x : EV) (e : Eng) (w : World) (hG : RdG w x e) : Ret Tryz.prog 94 #[.agg #[x.b.v, .int .i64 e.nnum, .int .i64 e.nden, .int .i64 e.nstart, x.s.v, x.m.v, x.n.v, x.f.v, .int .i64 e.new, .int .i64 e.full, .int .i64 e.wide]] w fun u w' => u = .bool (isEngine e) ∧ Below w.heap.size w w' := by
 have hp : Hp c0 w w [] := Hp.start trivial
 refine enter Tryz.func94 rfl (N := 67) rfl rfl fun a h => ?_
 refine rg ?_
 refine wl (box (cs := #[_, _, _, _, _, _, _, _, _, _, _]) h hp rfl rfl fun a w1 g1 hg1 h hp => ?_)
 refine wsn h rfl fun a h => ?_
 refine wp_seq ?_
 refine rg ?_
 refine wvl h (fad h rfl fo76_1) fun a h => ?_
 refine wvl h (ldo h hp rfl 0 rfl rfl ag73) fun a h => ?_
 refine wvl h (fad h rfl fo76_2) fun a h => ?_
 refine wvl h (ldo h hp rfl 0 rfl rfl ag73) fun a h => ?_
 refine wvl h (fad h rfl fo76_3) fun a h => ?_
 refine wvl h (ldo h hp rfl 0 rfl rfl ag73) fun a h => ?_
 refine wl (bsl h hp rfl (bs168_3_0_1_2 _ _ _ _ _ _ _ _ _) fun a w2 g2 hg2 h hp => ?_)
 refine wvl h (len_ h rfl Tryz.underlying168) fun a h => ?_
 refine wmv h rfl fun a h => ?_
 refine wn ?_
 refine lp1 h [1, 17, 18] (fun n f w' => ∃ k : Nat, k ≤ 3 ∧ n = 3 - k ∧ f = [(19, .int .i64 k)] ∧ Hp c0 w w' [.blk g1 (.cells #[x.b.v, .int .i64 e.nnum, .int .i64 e.nden, .int .i64 e.nstart, x.s.v, x.m.v, x.n.v, x.f.v, .int .i64 e.new, .int .i64 e.full, .int .i64 e.wide] 76 (0, 0)), .blk g2 (.cells #[x.s.v, x.m.v, x.n.v] 73 (0, 0))] ∧ (1 ≤ k → isTrain e.sun = true) ∧ (2 ≤ k → isTrain e.moon = true) ∧ (3 ≤ k → isTrain e.node = true)) (3) [(19, .int .i64 ((0 : Nat) : Int))] ⟨rfl, rfl, rfl, rfl, trivial⟩ ⟨0, by omega, rfl, rfl, hp, by omega, by omega, by omega⟩ ?_
 rintro n f a w3 ⟨k, hk, rfl, rfl, hp, h1, h2, h3⟩ h
 refine rg ?_
 refine wvl h (lss h rfl rfl) fun a h => ?_
 refine wn ?_
 refine cnd h rfl (fun hb1 => ?_) (fun hb1 => ?_)
 ·have hlt : k < 3 := by have := of_decide_eq_true hb1; omega
  refine skp ?_
  refine blk ?_
  refine rg ?_
  rcases (by omega : k = 0 ∨ k = 1 ∨ k = 2) with rfl | rfl | rfl
  ·refine wvl h (iad h rfl rfl Tryz.underlying168 sz73 (by omega) (by omega)) fun a h => ?_
   refine wvl h (ldo h hp rfl 1 rfl rfl ag73) fun a h => ?_
   refine wsn h rfl fun a h => ?_
   refine rg ?_
   refine wmv h rfl fun a h => ?_
   refine wl (cal h rfl en117 (Turns_t _ _ _ (hG.keep hp cl0).s) fun u w4 ⟨⟨p9, q9, b9, e1⟩, e2⟩ a h => ?_)
   subst e1
   have hp := hp.below e2
   refine wmv h rfl fun a h => ?_
   refine wvl h (ext h rfl rfl) fun a h => ?_
   refine wvl h (ext h rfl rfl) fun a h => ?_
   refine wvl h (ext h rfl rfl) fun a h => ?_
   refine wl (all h hp zc169 fun a w5 g3 hg3 h hp => ?_)
   refine wl (sta h hp rfl rfl 2 rfl sz169 rfl rfl fun w6 hp => ?_)
   refine ws2 h rfl rfl rfl rfl fun a h => ?_
   refine rg ?_
   refine wmv h rfl fun a h => ?_
   refine wvl h (nei h rfl rfl) fun a h => ?_
   refine wn ?_
   refine cnd1 h rfl (fun hb2 => ?_) (fun hb2 => ?_)
   ·have hT : isTrain e.sun = false := by cases hq : isTrain e.sun with | false => rfl | true => rw [hq] at hb2; exact absurd hb2 (by decide)
    refine rg ?_
    refine wsn h rfl fun a h => ?_
    refine wp_ret ?_
    try simp only [xqs]
    refine rt_1 h rfl (rvT h rfl) ?_
    exact ⟨_, rfl, by simp [isEngine, hT], hp.bel⟩
   have hT : isTrain e.sun = true := by cases hq : isTrain e.sun with | true => rfl | false => rw [hq] at hb2; exact absurd hb2 (by decide)
   refine wp_skip ?_
   refine rg1 ?_
   refine wvl h (add h rfl rfl (by omega)) fun a h => ?_
   refine wmv h rfl fun a h => ?_
   refine wn ?_
   exact ⟨_, _, (by omega), ⟨1, by omega, rfl, rfl, hp.pre 2 rfl, by first | exact fun _ => hT | exact fun _ => h1 (by omega) | omega, by first | exact fun _ => hT | exact fun _ => h2 (by omega) | omega, by first | exact fun _ => hT | exact fun _ => h3 (by omega) | omega⟩, h.sub ⟨rfl, rfl, rfl, rfl, trivial⟩⟩
  ·refine wvl h (iad h rfl rfl Tryz.underlying168 sz73 (by omega) (by omega)) fun a h => ?_
   refine wvl h (ldo h hp rfl 1 rfl rfl ag73) fun a h => ?_
   refine wsn h rfl fun a h => ?_
   refine rg ?_
   refine wmv h rfl fun a h => ?_
   refine wl (cal h rfl en117 (Turns_t _ _ _ (hG.keep hp cl0).m) fun u w7 ⟨⟨p9, q9, b9, e1⟩, e2⟩ a h => ?_)
   subst e1
   have hp := hp.below e2
   refine wmv h rfl fun a h => ?_
   refine wvl h (ext h rfl rfl) fun a h => ?_
   refine wvl h (ext h rfl rfl) fun a h => ?_
   refine wvl h (ext h rfl rfl) fun a h => ?_
   refine wl (all h hp zc169 fun a w8 g4 hg4 h hp => ?_)
   refine wl (sta h hp rfl rfl 2 rfl sz169 rfl rfl fun w9 hp => ?_)
   refine ws2 h rfl rfl rfl rfl fun a h => ?_
   refine rg ?_
   refine wmv h rfl fun a h => ?_
   refine wvl h (nei h rfl rfl) fun a h => ?_
   refine wn ?_
   refine cnd1 h rfl (fun hb3 => ?_) (fun hb3 => ?_)
   ·have hT : isTrain e.moon = false := by cases hq : isTrain e.moon with | false => rfl | true => rw [hq] at hb3; exact absurd hb3 (by decide)
    refine rg ?_
    refine wsn h rfl fun a h => ?_
    refine wp_ret ?_
    try simp only [xqs]
    refine rt_1 h rfl (rvT h rfl) ?_
    exact ⟨_, rfl, by simp [isEngine, hT], hp.bel⟩
   have hT : isTrain e.moon = true := by cases hq : isTrain e.moon with | true => rfl | false => rw [hq] at hb3; exact absurd hb3 (by decide)
   refine wp_skip ?_
   refine rg1 ?_
   refine wvl h (add h rfl rfl (by omega)) fun a h => ?_
   refine wmv h rfl fun a h => ?_
   refine wn ?_
   exact ⟨_, _, (by omega), ⟨2, by omega, rfl, rfl, hp.pre 2 rfl, by first | exact fun _ => hT | exact fun _ => h1 (by omega) | omega, by first | exact fun _ => hT | exact fun _ => h2 (by omega) | omega, by first | exact fun _ => hT | exact fun _ => h3 (by omega) | omega⟩, h.sub ⟨rfl, rfl, rfl, rfl, trivial⟩⟩
  refine wvl h (iad h rfl rfl Tryz.underlying168 sz73 (by omega) (by omega)) fun a h => ?_
  refine wvl h (ldo h hp rfl 1 rfl rfl ag73) fun a h => ?_
  refine wsn h rfl fun a h => ?_
  refine rg ?_
  refine wmv h rfl fun a h => ?_
  refine wl (cal h rfl en117 (Turns_t _ _ _ (hG.keep hp cl0).n) fun u w10 ⟨⟨p9, q9, b9, e1⟩, e2⟩ a h => ?_)
  subst e1
  have hp := hp.below e2
  refine wmv h rfl fun a h => ?_
  refine wvl h (ext h rfl rfl) fun a h => ?_
  refine wvl h (ext h rfl rfl) fun a h => ?_
  refine wvl h (ext h rfl rfl) fun a h => ?_
  refine wl (all h hp zc169 fun a w11 g5 hg5 h hp => ?_)
  refine wl (sta h hp rfl rfl 2 rfl sz169 rfl rfl fun w12 hp => ?_)
  refine ws2 h rfl rfl rfl rfl fun a h => ?_
  refine rg ?_
  refine wmv h rfl fun a h => ?_
  refine wvl h (nei h rfl rfl) fun a h => ?_
  refine wn ?_
  refine cnd1 h rfl (fun hb4 => ?_) (fun hb4 => ?_)
  ·have hT : isTrain e.node = false := by cases hq : isTrain e.node with | false => rfl | true => rw [hq] at hb4; exact absurd hb4 (by decide)
   refine rg ?_
   refine wsn h rfl fun a h => ?_
   refine wp_ret ?_
   try simp only [xqs]
   refine rt_1 h rfl (rvT h rfl) ?_
   exact ⟨_, rfl, by simp [isEngine, hT], hp.bel⟩
  have hT : isTrain e.node = true := by cases hq : isTrain e.node with | true => rfl | false => rw [hq] at hb4; exact absurd hb4 (by decide)
  refine wp_skip ?_
  refine rg1 ?_
  refine wvl h (add h rfl rfl (by omega)) fun a h => ?_
  refine wmv h rfl fun a h => ?_
  refine wn ?_
  exact ⟨_, _, (by omega), ⟨3, by omega, rfl, rfl, hp.pre 2 rfl, by first | exact fun _ => hT | exact fun _ => h1 (by omega) | omega, by first | exact fun _ => hT | exact fun _ => h2 (by omega) | omega, by first | exact fun _ => hT | exact fun _ => h3 (by omega) | omega⟩, h.sub ⟨rfl, rfl, rfl, rfl, trivial⟩⟩
 have hend : k = 3 := by have := of_decide_eq_false hb1; omega
 subst hend
 have h1 := h1 (by omega)
 have h2 := h2 (by omega)
 have h3 := h3 (by omega)
 refine wp_exit ?_
 try simp only [xqs, ↓reduceIte, Nat.reduceEqDiff]
 refine rg ?_
 refine wvl h (fad h rfl fo76_0) fun a h => ?_
 refine wvl h (ldO (us := [_, _, _, _]) h hp rfl 0 rfl sz72 rfl ag72) fun a h => ?_
 refine wl (cal h rfl en118 (Month_s x e _ (hG.keep hp cl0).sky) fun u w13 ⟨⟨p9, q9, e1⟩, e2⟩ a h => ?_)
 subst e1
 have hp := hp.below e2
 refine wmv h rfl fun a h => ?_
 refine wvl h (ext h rfl rfl) fun a h => ?_
 refine wvl h (ext h rfl rfl) fun a h => ?_
 refine wvl h (ext h rfl rfl) fun a h => ?_
 refine wsg h rfl fun a h => ?_
 refine ws2 h rfl rfl rfl rfl fun a h => ?_
 refine rg ?_
 refine wmv h rfl fun a h => ?_
 refine wvl h (eqi h rfl rfl) fun a h => ?_
 refine wmv h rfl fun a h => ?_
 refine split (t := 41) h rfl (fun hb5 => ?_) (fun hb5 => ?_)
 ·have hq9 := hb5
  rw [month_ok, Bool.and_eq_true] at hq9
  obtain ⟨hsk, hsl⟩ := hq9
  refine wl (stp_on h rfl rfl rfl hb5 (vl h (fad h rfl fo76_4) fun a h => ?_))
  refine wl (stp_on h rfl rfl rfl hb5 (vl h (ldo h hp rfl 0 rfl rfl ag74) fun a h => ?_))
  refine wl (stp_on h rfl rfl rfl hb5 (vl h (lenR h rfl Tryz.underlying74 (hG.keep hp cl0).f) fun a h => ?_))
  refine wl (stp_on h rfl rfl rfl hb5 (vl h (leq h rfl rfl) fun a h => ?_))
  refine wvl h (pckT h rfl hb5 rfl) fun a h => ?_
  refine wmv h rfl fun a h => ?_
  refine split (t := 47) h rfl (fun hb6 => ?_) (fun hb6 => ?_)
  ·have hfl : decide (e.feasts.length ≤ 8) = true := by rw [← hb6]; exact decide_eq_decide.2 (by omega)
   refine wl (stp_on h rfl rfl rfl hb6 (vl h (fad h rfl fo76_4) fun a h => ?_))
   refine wl (stp_on h rfl rfl rfl hb6 (vl h (ldo h hp rfl 0 rfl rfl ag74) fun a h => ?_))
   refine wl (stp_on h rfl rfl rfl hb6 (cal h rfl en95 (rising_e _ _ _ _ _ (hG.keep hp cl0).f) fun u w14 ⟨e1, e2⟩ a h => ?_))
   subst e1
   have hp := hp.below e2
   refine wvl h (pckT h rfl hb6 rfl) fun a h => ?_
   refine wmv h rfl fun a h => ?_
   refine split (t := 52) h rfl (fun hb7 => ?_) (fun hb7 => ?_)
   ·have hri : rising 1 10000 e.feasts = true := hb7
    refine wl (stp_on h rfl rfl rfl hb7 (vl h (fad h rfl fo76_5) fun a h => ?_))
    refine wl (stp_on h rfl rfl rfl hb7 (vl h (ldo h hp rfl 0 rfl rfl ag3) fun a h => ?_))
    refine wl (stp_on h rfl rfl rfl hb7 (cal h rfl en78 (isLimit_e _ _) fun u w15 ⟨e1, e2⟩ a h => ?_))
    subst e1
    subst e2
    refine wvl h (pckT h rfl hb7 rfl) fun a h => ?_
    refine wmv h rfl fun a h => ?_
    refine split (t := 57) h rfl (fun hb8 => ?_) (fun hb8 => ?_)
    ·have hln : isLimit e.new = true := hb8
     refine wl (stp_on h rfl rfl rfl hb8 (vl h (fad h rfl fo76_6) fun a h => ?_))
     refine wl (stp_on h rfl rfl rfl hb8 (vl h (ldo h hp rfl 0 rfl rfl ag3) fun a h => ?_))
     refine wl (stp_on h rfl rfl rfl hb8 (cal h rfl en78 (isLimit_e _ _) fun u w16 ⟨e1, e2⟩ a h => ?_))
     subst e1
     subst e2
     refine wvl h (pckT h rfl hb8 rfl) fun a h => ?_
     refine wmv h rfl fun a h => ?_
     refine split (t := 62) h rfl (fun hb9 => ?_) (fun hb9 => ?_)
     ·have hlf : isLimit e.full = true := hb9
      refine wl (stp_on h rfl rfl rfl hb9 (vl h (fad h rfl fo76_7) fun a h => ?_))
      refine wl (stp_on h rfl rfl rfl hb9 (vl h (ldo h hp rfl 0 rfl rfl ag3) fun a h => ?_))
      refine wl (stp_on h rfl rfl rfl hb9 (cal h rfl en78 (isLimit_e _ _) fun u w17 ⟨e1, e2⟩ a h => ?_))
      subst e1
      subst e2
      refine wvl h (pckT h rfl hb9 rfl) fun a h => ?_
      refine wsn h rfl fun a h => ?_
      refine wp_ret ?_
      try simp only [xqs]
      refine rt_1 h rfl (rvT h rfl) ?_
      exact ⟨_, rfl, by simp only [isEngine, h1, h2, h3, hsk, hsl, hfl, hri, hln, hlf, Bool.true_and, Bool.and_true, Bool.and_false, Bool.false_and], hp.bel⟩
     have hlf : isLimit e.full = false := hb9
     refine wl (stp_off h rfl rfl rfl rfl rfl hb9 fun a h => ?_)
     refine wl (stp_off h rfl rfl rfl rfl rfl hb9 fun a h => ?_)
     refine wl (stp_off h rfl rfl rfl rfl rfl hb9 fun a h => ?_)
     refine wvl h (pckF h rfl hb9 rfl) fun a h => ?_
     refine wsn h rfl fun a h => ?_
     refine wp_ret ?_
     try simp only [xqs]
     refine rt_1 h rfl (rvT h rfl) ?_
     exact ⟨_, rfl, by simp only [isEngine, h1, h2, h3, hsk, hsl, hfl, hri, hln, hlf, Bool.true_and, Bool.and_true, Bool.and_false, Bool.false_and], hp.bel⟩
    have hln : isLimit e.new = false := hb8
    refine wl (stp_off h rfl rfl rfl rfl rfl hb8 fun a h => ?_)
    refine wl (stp_off h rfl rfl rfl rfl rfl hb8 fun a h => ?_)
    refine wl (stp_off h rfl rfl rfl rfl rfl hb8 fun a h => ?_)
    refine wvl h (pckF h rfl hb8 rfl) fun a h => ?_
    refine wmv h rfl fun a h => ?_
    refine wl (stp_off h rfl rfl rfl rfl rfl rfl fun a h => ?_)
    refine wl (stp_off h rfl rfl rfl rfl rfl rfl fun a h => ?_)
    refine wl (stp_off h rfl rfl rfl rfl rfl rfl fun a h => ?_)
    refine wvl h (pckF h rfl rfl rfl) fun a h => ?_
    refine wsn h rfl fun a h => ?_
    refine wp_ret ?_
    try simp only [xqs]
    refine rt_1 h rfl (rvT h rfl) ?_
    exact ⟨_, rfl, by simp only [isEngine, h1, h2, h3, hsk, hsl, hfl, hri, hln, Bool.true_and, Bool.and_true, Bool.and_false, Bool.false_and], hp.bel⟩
   have hri : rising 1 10000 e.feasts = false := hb7
   refine wl (stp_off h rfl rfl rfl rfl rfl hb7 fun a h => ?_)
   refine wl (stp_off h rfl rfl rfl rfl rfl hb7 fun a h => ?_)
   refine wl (stp_off h rfl rfl rfl rfl rfl hb7 fun a h => ?_)
   refine wvl h (pckF h rfl hb7 rfl) fun a h => ?_
   refine wmv h rfl fun a h => ?_
   refine wl (stp_off h rfl rfl rfl rfl rfl rfl fun a h => ?_)
   refine wl (stp_off h rfl rfl rfl rfl rfl rfl fun a h => ?_)
   refine wl (stp_off h rfl rfl rfl rfl rfl rfl fun a h => ?_)
   refine wvl h (pckF h rfl rfl rfl) fun a h => ?_
   refine wmv h rfl fun a h => ?_
   refine wl (stp_off h rfl rfl rfl rfl rfl rfl fun a h => ?_)
   refine wl (stp_off h rfl rfl rfl rfl rfl rfl fun a h => ?_)
   refine wl (stp_off h rfl rfl rfl rfl rfl rfl fun a h => ?_)
   refine wvl h (pckF h rfl rfl rfl) fun a h => ?_
   refine wsn h rfl fun a h => ?_
   refine wp_ret ?_
   try simp only [xqs]
   refine rt_1 h rfl (rvT h rfl) ?_
   exact ⟨_, rfl, by simp only [isEngine, h1, h2, h3, hsk, hsl, hfl, hri, Bool.true_and, Bool.and_true, Bool.and_false, Bool.false_and], hp.bel⟩
  have hfl : decide (e.feasts.length ≤ 8) = false := by rw [← hb6]; exact decide_eq_decide.2 (by omega)
  refine wl (stp_off h rfl rfl rfl rfl rfl hb6 fun a h => ?_)
  refine wl (stp_off h rfl rfl rfl rfl rfl hb6 fun a h => ?_)
  refine wl (stp_off h rfl rfl rfl rfl rfl hb6 fun a h => ?_)
  refine wvl h (pckF h rfl hb6 rfl) fun a h => ?_
  refine wmv h rfl fun a h => ?_
  refine wl (stp_off h rfl rfl rfl rfl rfl rfl fun a h => ?_)
  refine wl (stp_off h rfl rfl rfl rfl rfl rfl fun a h => ?_)
  refine wl (stp_off h rfl rfl rfl rfl rfl rfl fun a h => ?_)
  refine wvl h (pckF h rfl rfl rfl) fun a h => ?_
  refine wmv h rfl fun a h => ?_
  refine wl (stp_off h rfl rfl rfl rfl rfl rfl fun a h => ?_)
  refine wl (stp_off h rfl rfl rfl rfl rfl rfl fun a h => ?_)
  refine wl (stp_off h rfl rfl rfl rfl rfl rfl fun a h => ?_)
  refine wvl h (pckF h rfl rfl rfl) fun a h => ?_
  refine wmv h rfl fun a h => ?_
  refine wl (stp_off h rfl rfl rfl rfl rfl rfl fun a h => ?_)
  refine wl (stp_off h rfl rfl rfl rfl rfl rfl fun a h => ?_)
  refine wl (stp_off h rfl rfl rfl rfl rfl rfl fun a h => ?_)
  refine wvl h (pckF h rfl rfl rfl) fun a h => ?_
  refine wsn h rfl fun a h => ?_
  refine wp_ret ?_
  try simp only [xqs]
  refine rt_1 h rfl (rvT h rfl) ?_
  exact ⟨_, rfl, by simp only [isEngine, h1, h2, h3, hsk, hsl, hfl, Bool.true_and, Bool.and_true, Bool.and_false, Bool.false_and], hp.bel⟩
 have hss : (isSky e && decide (0 < slow e)) = false := by rw [← hb5, month_ok]
 refine wl (stp_off h rfl rfl rfl rfl rfl hb5 fun a h => ?_)
 refine wl (stp_off h rfl rfl rfl rfl rfl hb5 fun a h => ?_)
 refine wl (stp_off h rfl rfl rfl rfl rfl hb5 fun a h => ?_)
 refine wl (stp_off h rfl rfl rfl rfl rfl hb5 fun a h => ?_)
 refine wvl h (pckF h rfl hb5 rfl) fun a h => ?_
 refine wmv h rfl fun a h => ?_
 refine wl (stp_off h rfl rfl rfl rfl rfl rfl fun a h => ?_)
 refine wl (stp_off h rfl rfl rfl rfl rfl rfl fun a h => ?_)
 refine wl (stp_off h rfl rfl rfl rfl rfl rfl fun a h => ?_)
 refine wvl h (pckF h rfl rfl rfl) fun a h => ?_
 refine wmv h rfl fun a h => ?_
 refine wl (stp_off h rfl rfl rfl rfl rfl rfl fun a h => ?_)
 refine wl (stp_off h rfl rfl rfl rfl rfl rfl fun a h => ?_)
 refine wl (stp_off h rfl rfl rfl rfl rfl rfl fun a h => ?_)
 refine wvl h (pckF h rfl rfl rfl) fun a h => ?_
 refine wmv h rfl fun a h => ?_
 refine wl (stp_off h rfl rfl rfl rfl rfl rfl fun a h => ?_)
 refine wl (stp_off h rfl rfl rfl rfl rfl rfl fun a h => ?_)
 refine wl (stp_off h rfl rfl rfl rfl rfl rfl fun a h => ?_)
 refine wvl h (pckF h rfl rfl rfl) fun a h => ?_
 refine wmv h rfl fun a h => ?_
 refine wl (stp_off h rfl rfl rfl rfl rfl rfl fun a h => ?_)
 refine wl (stp_off h rfl rfl rfl rfl rfl rfl fun a h => ?_)
 refine wl (stp_off h rfl rfl rfl rfl rfl rfl fun a h => ?_)
 refine wvl h (pckF h rfl rfl rfl) fun a h => ?_
 refine wsn h rfl fun a h => ?_
 refine wp_ret ?_
 try simp only [xqs]
 refine rt_1 h rfl (rvT h rfl) ?_
 exact ⟨_, rfl, by rw [isEngine, h1, h2, h3]; simp only [Bool.true_and, hss, Bool.false_and], hp.bel⟩
theorem asked_s (x : EV) (e : Eng) (s2 : SV) (st : List Int) (f : Bool) (w : World) (hE0 : RdE w x e s2 st) (hf : f = true) : Ret Tryz.prog 62 #[.agg #[x.b.v, .int .i64 e.nnum, .int .i64 e.nden, .int .i64 e.nstart, x.s.v, x.m.v, x.n.v, x.f.v, .int .i64 e.new, .int .i64 e.full, .int .i64 e.wide], s2.v, .bool f] w fun u w' => (∃ b : Nat, u = .tuple #[.agg #[x.b.v, .int .i64 e.nnum, .int .i64 e.nden, .int .i64 e.nstart, x.s.v, x.m.v, x.n.v, x.f.v, .int .i64 e.new, .int .i64 e.full, .int .i64 e.wide, s2.v, .map (some b)], .int .i64 0] ∧ w.heap.size ≤ b ∧ mapAt (hE e st) b w') ∧ Below w.heap.size w w' := by
 subst hf
 have hset := isSet_rise hE0.set
 have hp : Hp c0 w w [] := Hp.start trivial
 refine enter Tryz.func62 rfl (N := 29) rfl rfl fun a h => ?_
 refine rg ?_
 refine wl (box (cs := #[_, _, _, _, _, _, _, _, _, _, _]) h hp rfl rfl fun a w1 g1 hg1 h hp => ?_)
 refine wl (all h hp zc105 fun a w2 g2 hg2 h hp => ?_)
 refine wsn h rfl fun a h => ?_
 refine wp_seq ?_
 refine rg ?_
 refine wvl h (ldO (us := [_, _, _, _, _, _, _, _, _, _, _]) h hp rfl 0 rfl sz76 rfl ag76) fun a h => ?_
 refine wl (cal h rfl en94 (isEngine_e x e _ (by first | exact hG.keep hp cl0 | exact (hE0.keep hp cl0).g)) fun u w3 ⟨e1, e2⟩ a h => ?_)
 subst e1
 have hp := hp.below e2
 refine wvl h (not_ h rfl) fun a h => ?_
 refine wmv h rfl fun a h => ?_
 refine split (t := 11) h rfl (fun hb1 => ?_) (fun hb1 => ?_)
 ·exact absurd hb1 (by simp [hE0.ok])
 refine wl (stp_on h rfl rfl rfl hb1 (vl h (mov h rfl) fun a h => ?_))
 refine wl (stp_on h rfl rfl rfl hb1 (vl h (fad h rfl fo76_4) fun a h => ?_))
 refine wl (stp_on h rfl rfl rfl hb1 (vl h (ldo h hp rfl 0 rfl rfl ag74) fun a h => ?_))
 refine wl (stp_on h rfl rfl rfl hb1 (vl h (lenR h rfl Tryz.underlying74 (hE0.keep hp cl0).g.f) fun a h => ?_))
 have hfit := hE0.g.f.fits
 refine wl (stp_on h rfl rfl rfl hb1 (vl h (sub h rfl rfl (by omega)) fun a h => ?_))
 refine wl (stp_on h rfl rfl rfl hb1 (cal h rfl en95 (rising_e _ _ _ _ _ (hE0.keep hp cl0).s) fun u w4 ⟨e1, e2⟩ a h => ?_))
 subst e1
 have hp := hp.below e2
 refine wl (stp_on h rfl rfl rfl hb1 (vl h (not_ h rfl) fun a h => ?_))
 refine wvl h (pckF h rfl hb1 rfl) fun a h => ?_
 refine wmv h rfl fun a h => ?_
 refine split (t := 20) h rfl (fun hb2 => ?_) (fun hb2 => ?_)
 ·exact absurd hb2 (by simp [hset])
 refine wl (stp_on h rfl rfl rfl hb2 (vl h (mov h rfl) fun a h => ?_))
 refine wl (stp_on h rfl rfl rfl hb2 (vl h (not_ h rfl) fun a h => ?_))
 refine wvl h (pckF h rfl hb2 rfl) fun a h => ?_
 refine wn ?_
 refine cnd1 h rfl (fun hb3 => ?_) (fun hb3 => ?_)
 ·exact absurd hb3 (by decide)
 refine skp ?_
 refine rg ?_
 refine wvl h (ldO (us := [_, _, _, _, _, _, _, _, _, _, _]) h hp rfl 0 rfl sz76 rfl ag76) fun a h => ?_
 refine wmv h rfl fun a h => ?_
 refine wl (mpm h fun a h => ?_)
 have hp := hp.alloc (.map #[] 0)
 refine wvl h (bld h rfl (bl105_0_1_2 _ _ _ _ _ _ _ _ _ _ _ _ _ _ _ _ _ _ _ _ _ _ _ _ _ _)) fun a h => ?_
 refine wl (sta h hp rfl rfl 1 rfl sz105 rfl rfl fun w5 hp => ?_)
 refine wsn h rfl fun a h => ?_
 refine wp_ret ?_
 try simp only [xqs]
 refine rt_2 h rfl (rvA h hp rfl 1 rfl ag105 sz105) (rvT h rfl) ?_
 exact ⟨_, rfl, ⟨_, rfl, (hp.bnd (i := 2) rfl).1, #[], 0, hp.fact (i := 2) rfl, by simp [goodL]⟩, hp.bel⟩
end Go.Proofs.Ec
