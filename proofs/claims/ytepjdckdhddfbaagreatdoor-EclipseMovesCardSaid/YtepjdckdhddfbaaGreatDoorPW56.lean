import Derived.Test.YtepjdckdhddfbaaGreatDoorProg
import Derived.Test.YtepjdckdhddfbaaGreatDoorPFa
import Derived.Test.YtepjdckdhddfbaaGreatDoorPQb
import Derived.Test.YtepjdckdhddfbaaGreatDoorPW55
set_option linter.unusedVariables false
set_option linter.unusedSimpArgs false
set_option maxRecDepth 4000
namespace Go.Proofs.Ec
open Go.RowKit Go.Proofs.Sx
open Ecl
theorem en28_W56 : EnT Tryz.prog 28 := ento Tryz.func28
theorem en20_W56 : EnT Tryz.prog 20 := ento Tryz.func20
theorem en46_W56 : EnT Tryz.prog 46 := ento Tryz.func46
theorem en60_W56 : EnT Tryz.prog 60 := ento Tryz.func60
theorem en55_W56 : EnT Tryz.prog 55 := ento Tryz.func55
theorem ap37_W56 : apT Tryz.prog 37 = some (51, 3, 24) := by kernel_rfl
theorem en10_W56 : EnT Tryz.prog 10 := ento Tryz.func10
theorem en29_W56 : EnT Tryz.prog 29 := ento Tryz.func29
theorem en23_W56 : EnT Tryz.prog 23 := ento Tryz.func23
theorem en30_W56 : EnT Tryz.prog 30 := ento Tryz.func30
theorem en31_W56 : EnT Tryz.prog 31 := ento Tryz.func31
def spotsOk (l : List Ball) (q : Nat) (ys : List Ball) : Bool := ys.all fun b => isBalls (l.set q b)
def moveds (l : List Ball) (q : Nat) (ys : List Ball) : List Int := ys.map fun b => darkest (l.set q b) q
theorem spots_go {l ys : List Ball} {q k : Nat} {y : Ball} (h : ys[k]? = some y) (h1 : spotsOk l q (ys.take k) = true) (h2 : isBalls (l.set q y) = true) : spotsOk l q (ys.take (k + 1)) = true := all_snoc (p := fun b => isBalls (l.set q b)) h h1 h2
theorem spots_no {l ys : List Ball} {q k : Nat} {y : Ball} (h : ys[k]? = some y) (h2 : isBalls (l.set q y) = false) : spotsOk l q ys = false := all_bad (p := fun b => isBalls (l.set q b)) h h2
theorem spots_at {l ys : List Ball} {q k : Nat} {y : Ball} (h : spotsOk l q ys = true) (hy : ys[k]? = some y) : isBalls (l.set q y) = true := List.all_eq_true.1 h y (List.mem_of_getElem? hy)
theorem moveds_snoc {l ys : List Ball} {q k : Nat} {y : Ball} (h : ys[k]? = some y) : moveds l q (ys.take (k + 1)) = moveds l q (ys.take k) ++ [darkest (l.set q y) q] := by
 rw [moveds, take_snoc h, List.map_append]
 rfl
theorem Put_N {s : SV} {l : List Ball} {q : Nat} {w : World} (y : Ball) (hR : Rd w encL 3 s.v l) (hn : q < l.length) (hl : l.length ≤ 8) : Ret Tryz.prog 28 #[s.v, .int .i64 (q : Int), .agg #[.int .i64 y.x, .int .i64 y.y, .int .i64 y.r]] w fun u w' => (∃ s' : SV, u = s'.v ∧ Fr w w' encL 3 s'.v (l.set q y)) ∧ Below w.heap.size w w' := by
 have := Put_R s l (q : Int) y w hR (by omega) (by rw [Int.toNat_natCast]; exact hn) hl
 rwa [Int.toNat_natCast] at this
theorem putN {l : List Ball} {d : Ball} {q : Nat} (h1 : q < l.length) : putL ([] ++ l.flatMap encL) (0 + (q : Int).toNat * 3) (encL d) = (l.set q d).flatMap encL := by
 have := putB (d := d) (q := (q : Int)) (by rw [Int.toNat_natCast]; exact h1)
 rwa [Int.toNat_natCast] at this ⊢
theorem Spots_R (s s2 : SV) (l ys : List Ball) (q : Nat) (w : World) (hR : Rd w encL 3 s.v l) (hS : Rd w encL 3 s2.v ys) (hn : q < l.length) (hl : l.length ≤ 8) : Ret Tryz.prog 30 #[s.v, .int .i64 (q : Int), s2.v] w fun u w' => u = .bool (spotsOk l q ys && inR ys.length 1 12) ∧ Below w.heap.size w w' := by
 have hfit0 := hS.fits
 have hp : Hp c0 w w [] := Hp.start trivial
 refine enter Tryz.func30 rfl (N := 26) rfl rfl fun a h => ?_
 refine rg ?_
 refine wsn h rfl fun a h => ?_
 refine wp_seq ?_
 refine rg ?_
 refine wsn h rfl fun a h => ?_
 refine lp1 h [0, 1, 2] (fun n f w' => ∃ k : Nat, k ≤ ys.length ∧ n = ys.length - k ∧ f = [(7, .int .i64 k)] ∧ Hp c0 w w' ([]) ∧ spotsOk l q (ys.take k) = true) (ys.length) [(7, .int .i64 ((0 : Nat) : Int))] ⟨rfl, rfl, rfl, rfl, trivial⟩ ⟨0, Nat.zero_le _, rfl, rfl, hp, rfl⟩ ?_
 rintro n f a w1 ⟨k, hk, rfl, rfl, hp, hI⟩ h
 have hfit := hS.fits
 refine wp_seq ?_
 refine rg ?_
 refine wm2 h rfl rfl rfl rfl fun a h => ?_
 refine wvl h (lenR h rfl Tryz.underlying37 (hS.keep (by decide) hp cl0)) fun a h => ?_
 refine wvl h (lss h rfl rfl) fun a h => ?_
 refine wn ?_
 refine cnd1 h rfl (fun hb1 => ?_) (fun hb1 => ?_)
 ·have hlt : k < ys.length := by have := of_decide_eq_true hb1; omega
  obtain ⟨y, hy⟩ : ∃ y, ys[k]? = some y := ⟨_, List.getElem?_eq_getElem hlt⟩
  refine skp ?_
  refine blk ?_
  refine rg ?_
  refine wm3 h rfl rfl rfl rfl rfl rfl fun a h => ?_
  refine wmv h rfl fun a h => ?_
  refine wvl h (iadR (k) h rfl rfl Tryz.underlying37 sz51 (hS.keep (by decide) hp cl0) (rfl) (hlt)) fun a h => ?_
  refine wvl h (ldE h (hS.keep (by decide) hp cl0) hy rfl ag51 sz51) fun a h => ?_
  refine wl (cal h rfl en28_W56 (Put_N y (hR.keep (by decide) hp cl0) hn (by omega)) fun u w2 ⟨⟨s20, e1, hf⟩, e2⟩ a h => ?_)
  subst e1
  have hp := hp.got (hp.below e2) (by decide) hf
  refine wl (cal h rfl en20_W56 (Balls_R _ _ _ (hp.rdF (i := 0) rfl)) fun u w3 ⟨e1, e2⟩ a h => ?_)
  subst e1
  have hp := hp.below e2
  refine wvl h (not_ h rfl) fun a h => ?_
  refine wn ?_
  refine cnd1 h rfl (fun hb2 => ?_) (fun hb2 => ?_)
  ·have hok : isBalls (l.set q y) = false := by simpa using hb2
   refine rg ?_
   refine wsn h rfl fun a h => ?_
   refine wp_ret ?_
   try simp only [xqs]
   refine rt_1 h rfl (rvT h rfl) ?_
   exact ⟨_, rfl, by rw [spots_no hy hok]; rfl, hp.bel⟩
  have hok : isBalls (l.set q y) = true := by simpa using hb2
  refine wp_skip ?_
  refine rg1 ?_
  refine wmv h rfl fun a h => ?_
  refine wvl h (add h rfl rfl (by omega)) fun a h => ?_
  refine wsn h rfl fun a h => ?_
  exact ⟨_, _, (by omega), ⟨k + 1, by omega, rfl, rfl, hp.pre 0 rfl, spots_go hy hI hok⟩, h.sub ⟨rfl, rfl, rfl, rfl, trivial⟩⟩
 have hend : k = ys.length := by have := of_decide_eq_false hb1; omega
 subst hend
 rw [List.take_length] at hI
 refine wp_exit ?_
 try simp only [xqs, ↓reduceIte, Nat.reduceEqDiff]
 refine rg ?_
 refine wmv h rfl fun a h => ?_
 refine wvl h (lenR h rfl Tryz.underlying37 (hS.keep (by decide) hp cl0)) fun a h => ?_
 refine wl (cal h rfl en46_W56 (in_R _ _ _ _) fun u w4 ⟨e1, e2⟩ a h => ?_)
 subst e1
 subst e2
 refine wsn h rfl fun a h => ?_
 refine wp_ret ?_
 try simp only [xqs]
 refine rt_1 h rfl (rvT h rfl) ?_
 exact ⟨_, rfl, by rw [hI, Bool.true_and], hp.bel⟩
theorem Moves_R (s s2 : SV) (l ys : List Ball) (q : Nat) (w : World) (hR : Rd w encL 3 s.v l) (hS : Rd w encL 3 s2.v ys) (hn : q < l.length) (hl : l.length ≤ 8) (hs : spotsOk l q ys = true) (hm : inR ys.length 1 12 = true) : Ret Tryz.prog 31 #[s.v, .int .i64 (q : Int), s2.v] w fun u w' => (∃ s' : SV, u = s'.v ∧ Fr w w' encI 1 s'.v (moveds l q ys)) ∧ Below w.heap.size w w' := by
 have hfit0 := hS.fits
 have hm2 := hm
 simp only [inR, Bool.and_eq_true, decide_eq_true_eq] at hm2
 have hp : Hp c0 w w [] := Hp.start trivial
 refine enter Tryz.func31 rfl (N := 28) rfl rfl fun a h => ?_
 refine rg ?_
 refine wsn h rfl fun a h => ?_
 refine rg ?_
 refine wsn h rfl fun a h => ?_
 refine wp_seq ?_
 refine rg ?_
 refine wsn h rfl fun a h => ?_
 have hp := hp.nilB 39 1
 refine lp1 h [0, 1, 2, 6] (fun n f w' => ∃ k : Nat, ∃ s1 : SV, k ≤ ys.length ∧ n = ys.length - k ∧ f = [(8, .int .i64 k), (7, s1.v)] ∧ Hp c0 w w' ([.buf 39 1 s1.v k ((moveds l q (ys.take k)).flatMap encI)]) ∧ True) (ys.length) [(8, .int .i64 ((0 : Nat) : Int)), (7, .slice none 0 0)] ⟨rfl, rfl, rfl, rfl, rfl, rfl, trivial⟩ ⟨0, ⟨none, 0, 0⟩, Nat.zero_le _, rfl, rfl, hp, trivial⟩ ?_
 rintro n f a w1 ⟨k, s1, hk, rfl, rfl, hp, _⟩ h
 have hfit := hS.fits
 refine wp_seq ?_
 refine rg ?_
 refine wm2 h rfl rfl rfl rfl fun a h => ?_
 refine wvl h (lenR h rfl Tryz.underlying37 (hS.keep (by decide) hp cl0)) fun a h => ?_
 refine wvl h (lss h rfl rfl) fun a h => ?_
 refine wn ?_
 refine cnd1 h rfl (fun hb1 => ?_) (fun hb1 => ?_)
 ·have hlt : k < ys.length := by have := of_decide_eq_true hb1; omega
  obtain ⟨y, hy⟩ : ∃ y, ys[k]? = some y := ⟨_, List.getElem?_eq_getElem hlt⟩
  have hok := spots_at hs hy
  refine skp ?_
  refine blk ?_
  refine rg1 ?_
  refine wm3 h rfl rfl rfl rfl rfl rfl fun a h => ?_
  refine wm2 h rfl rfl rfl rfl fun a h => ?_
  refine wvl h (iadR (k) h rfl rfl Tryz.underlying37 sz51 (hS.keep (by decide) hp cl0) (rfl) (hlt)) fun a h => ?_
  refine wvl h (ldE h (hS.keep (by decide) hp cl0) hy rfl ag51 sz51) fun a h => ?_
  refine wl (cal h rfl en28_W56 (Put_N y (hR.keep (by decide) hp cl0) hn (by omega)) fun u w2 ⟨⟨s21, e1, hf⟩, e2⟩ a h => ?_)
  subst e1
  have hp := hp.got (hp.below e2) (by decide) hf
  refine wmv h rfl fun a h => ?_
  refine wl (cal h rfl en60_W56 (darkest_R _ _ _ _ (hp.rdF (i := 1) rfl) (balls_bd hok) (by rw [List.length_set]; exact hn)) fun u w3 ⟨e1, e2⟩ a h => ?_)
  subst e1
  have hp := hp.below e2
  refine wl (bsl h hp rfl (bs42_1_0 _) fun a w4 g1 hg1 h hp => ?_)
  refine wl (app1 0 h hp rfl rfl rfl ap42 2 rfl rfl rfl (by omega) (by omega) fun a w5 v h hp => ?_)
  refine wsg h rfl fun a h => ?_
  refine wn' ?_
  try simp only [xqs, ↓reduceIte, Nat.reduceEqDiff]
  refine rg1 ?_
  refine wmv h rfl fun a h => ?_
  refine wvl h (add h rfl rfl (by omega)) fun a h => ?_
  refine wsn h rfl fun a h => ?_
  exact ⟨_, _, (by omega), ⟨k + 1, _, by omega, rfl, rfl, hp.pre 1 (by rw [moveds_snoc hy, List.flatMap_append]; rfl), trivial⟩, h.sub ⟨rfl, rfl, rfl, rfl, rfl, rfl, trivial⟩⟩
 have hend : k = ys.length := by have := of_decide_eq_false hb1; omega
 subst hend
 rw [List.take_length] at hp
 refine wp_exit ?_
 try simp only [xqs, ↓reduceIte, Nat.reduceEqDiff]
 refine rg ?_
 refine wmv h rfl fun a h => ?_
 refine wsn h rfl fun a h => ?_
 refine wp_ret ?_
 try simp only [xqs]
 refine rt_1 h rfl (rvT h rfl) ?_
 exact ⟨_, rfl, ⟨_, rfl, hp.frB (i := 0) rfl rfl (by simp [moveds]) (fun _ _ => rfl)⟩, hp.bel⟩
theorem bad2 {a b : Bool} (h1 : (!a) = false) (h2 : (!b) = false) : ¬ ((a && b) = false) := by
 cases a <;> cases b <;> simp_all
theorem bad3m {a b c : Bool} (h1 : (!decide ((if a = true then (0 : Int) else 2) = 0)) = false) (h2 : (!b) = false) (h3 : (!c) = false) : ¬ ((a && b && c) = false) := by
 cases a <;> cases b <;> cases c <;> simp_all
theorem dark_at {l : List Ball} {q : Nat} (h : q < l.length) : (dark l)[q]? = some (darkest l q) := by
 rw [dark, List.getElem?_map, List.getElem?_range h]
 rfl
set_option maxHeartbeats 2000000 in
theorem Moves_s (s s2 : SV) (l ys : List Ball) (q : Nat) (w : World) (hR : Rd w encL 3 s.v l) (hS : Rd w encL 3 s2.v ys) (hb : isBalls l = true) (hn : q < l.length) (hm : inR ys.length 1 12 = true) : Ret Tryz.prog 29 #[s.v, .int .i64 (q : Int), s2.v] w fun u w' => ((spotsOk l q ys = true ∧ ∃ s' : SV, u = .tuple #[s'.v, .int .i64 0] ∧ Fr w w' encI 1 s'.v (moveds l q ys)) ∨ (spotsOk l q ys = false ∧ u = .tuple #[.slice none 0 0, .int .i64 2])) ∧ Below w.heap.size w w' := by
 have hfit0 := hS.fits
 have hfit1 := hR.fits
 have hln := balls_len hb
 obtain ⟨cp, hcp⟩ := hR.slice hn
 have hm2 := hm
 simp only [inR, Bool.and_eq_true, decide_eq_true_eq] at hm2
 have hp : Hp c0 w w [] := Hp.start trivial
 refine enter Tryz.func29 rfl (N := 50) rfl rfl fun a h => ?_
 refine rg ?_
 refine ws2 h rfl rfl rfl rfl fun a h => ?_
 refine wp_seq ?_
 refine rg ?_
 refine wmv h rfl fun a h => ?_
 refine wl (cal h rfl en17 (Balls_e _ _ _ (hR.keep (by decide) hp cl0)) fun u w1 ⟨e1, e2⟩ a h => ?_)
 subst e1
 have hp := hp.below e2
 refine wvl h (nei h rfl rfl) fun a h => ?_
 refine wmv h rfl fun a h => ?_
 refine split (t := 15) h rfl (fun hb1 => ?_) (fun hb1 => ?_)
 ·exact absurd hb1 (by rw [if_pos hb]; decide)
 refine wl (stp_on h rfl rfl rfl hb1 (vl h (mov h rfl) fun a h => ?_))
 refine wl (stp_on h rfl rfl rfl hb1 (vl h (mov h rfl) fun a h => ?_))
 refine wl (stp_on h rfl rfl rfl hb1 (cal h rfl en55_W56 (isBall_e _ _ _ _ (hR.keep (by decide) hp cl0)) fun u w2 ⟨e1, e2⟩ a h => ?_))
 subst e1
 have hp := hp.below e2
 refine wl (stp_on h rfl rfl rfl hb1 (vl h (not_ h rfl) fun a h => ?_))
 refine wvl h (pckF h rfl hb1 rfl) fun a h => ?_
 refine wmv h rfl fun a h => ?_
 refine split (t := 21) h rfl (fun hb2 => ?_) (fun hb2 => ?_)
 ·exact absurd hb2 (by rw [show inR (q : Int) 0 ((l.length : Int) - 1) = true by simp only [inR, Bool.and_eq_true, decide_eq_true_eq]; omega]; decide)
 refine wl (stp_on h rfl rfl rfl hb2 (vl h (mov h rfl) fun a h => ?_))
 refine wl (stp_on h rfl rfl rfl hb2 (vl h (lenR h rfl Tryz.underlying37 (hS.keep (by decide) hp cl0)) fun a h => ?_))
 refine wl (stp_on h rfl rfl rfl hb2 (cal h rfl en61 (in_e _ _ _ _) fun u w3 ⟨e1, e2⟩ a h => ?_))
 subst e1
 subst e2
 refine wl (stp_on h rfl rfl rfl hb2 (vl h (not_ h rfl) fun a h => ?_))
 refine wvl h (pckF h rfl hb2 rfl) fun a h => ?_
 refine wn ?_
 refine cnd1 h rfl (fun hb3 => ?_) (fun hb3 => ?_)
 ·exact absurd hb3 (by rw [hm]; decide)
 refine skp ?_
 refine rg ?_
 refine wsn h rfl fun a h => ?_
 refine wp_seq ?_
 refine rg ?_
 refine wmv h rfl fun a h => ?_
 refine wvl h (lenR h rfl Tryz.underlying37 (hS.keep (by decide) hp cl0)) fun a h => ?_
 refine wmv h rfl fun a h => ?_
 refine wn ?_
 have hp := hp.nilB 39 1
 refine lp1 h [0, 1, 26, 27, 28] (fun n f w' => ∃ k : Nat, ∃ s1 : SV, k ≤ ys.length ∧ n = ys.length - k ∧ f = [(29, .int .i64 k), (8, s1.v)] ∧ Hp c0 w w' ([.buf 39 1 s1.v k ((moveds l q (ys.take k)).flatMap encI)]) ∧ spotsOk l q (ys.take k) = true) (ys.length) [(29, .int .i64 ((0 : Nat) : Int)), (8, .slice none 0 0)] ⟨rfl, rfl, rfl, rfl, rfl, rfl, rfl, trivial⟩ ⟨0, ⟨none, 0, 0⟩, Nat.zero_le _, rfl, rfl, hp, rfl⟩ ?_
 rintro n f a w4 ⟨k, s1, hk, rfl, rfl, hp, hI⟩ h
 have hfit := hS.fits
 refine rg ?_
 refine wvl h (lss h rfl rfl) fun a h => ?_
 refine wn ?_
 refine cnd h rfl (fun hb4 => ?_) (fun hb4 => ?_)
 ·have hlt : k < ys.length := by have := of_decide_eq_true hb4; omega
  obtain ⟨y, hy⟩ : ∃ y, ys[k]? = some y := ⟨_, List.getElem?_eq_getElem hlt⟩
  refine skp ?_
  refine blk ?_
  refine rg ?_
  refine wvl h (iadR (k) h rfl rfl Tryz.underlying37 sz51 (hS.keep (by decide) hp cl0) (rfl) (hlt)) fun a h => ?_
  refine wvl h (ldE h (hS.keep (by decide) hp cl0) hy rfl ag51 sz51) fun a h => ?_
  refine wl (all h hp zc51 fun a w5 g1 hg1 h hp => ?_)
  refine wl (sta h hp rfl rfl 1 rfl sz51 rfl rfl fun w6 hp => ?_)
  refine wn ?_
  refine rg ?_
  refine wmv h rfl fun a h => ?_
  have hp := hp.nilB 51 3
  refine wl (appR 2 h hp rfl rfl rfl ap37_W56 (hR.keep (by decide) hp cl0) hcp one_encL (by omega) (by omega) fun a w91 r9 h hp => ?_)
  obtain ⟨g9, cap9, hv9⟩ := hp.bufAt (i := 2) rfl (by omega)
  rw [hv9] at h hp
  refine wsn h rfl fun a h => ?_
  refine rg ?_
  refine wm2 h rfl rfl rfl rfl fun a h => ?_
  refine wvl h (ldO (us := [_, _, _]) h hp rfl 1 rfl sz51 rfl ag51) fun a h => ?_
  refine wvl h (iad h rfl rfl Tryz.underlying37 sz51 (by omega) (by omega)) fun a h => ?_
  refine wl (stB h hp rfl rfl 2 rfl sz51 (by show 0 + (q : Int).toNat * 3 + 3 ≤ (0 + l.length) * 3; omega) rfl fun w92 hp => ?_)
  rw [← hv9] at h hp
  refine wn ?_
  refine wp_seq ?_
  refine rg ?_
  refine wmv h rfl fun a h => ?_
  refine wl (cal h rfl en17 (Balls_e r9 _ _ (hp.rdB (enc := encL) (ys := l.set q y) (i := 2) rfl (putN hn) (by rw [List.length_set, Nat.zero_add]) (fun _ _ => rfl))) fun u w7 ⟨e1, e2⟩ a h => ?_)
  subst e1
  have hp := hp.below e2
  refine wvl h (nei h rfl rfl) fun a h => ?_
  refine wn ?_
  refine cnd1 h rfl (fun hb5 => ?_) (fun hb5 => ?_)
  ·have hok : isBalls (l.set q y) = false := by cases hq : isBalls (l.set q y) with | false => rfl | true => rw [hq] at hb5; exact absurd hb5 (by decide)
   refine rg ?_
   refine ws2 h rfl rfl rfl rfl fun a h => ?_
   refine wp_ret ?_
   try simp only [xqs]
   refine rt_2 h rfl (rvT h rfl) (rvT h rfl) ?_
   exact ⟨_, rfl, .inr ⟨spots_no hy hok, rfl⟩, hp.bel⟩
  have hok : isBalls (l.set q y) = true := by cases hq : isBalls (l.set q y) with | true => rfl | false => rw [hq] at hb5; exact absurd hb5 (by decide)
  refine skp ?_
  refine rg1 ?_
  refine wm3 h rfl rfl rfl rfl rfl rfl fun a h => ?_
  refine wl (cal h rfl en57 (darkest_e r9 _ _ _ (hp.rdB (enc := encL) (ys := l.set q y) (i := 2) rfl (putN hn) (by rw [List.length_set, Nat.zero_add]) (fun _ _ => rfl)) (balls_bd hok) (by rw [List.length_set]; exact hn)) fun u w8 ⟨e1, e2⟩ a h => ?_)
  subst e1
  have hp := hp.below e2
  refine wl (bsl h hp rfl (bs42_1_0 _) fun a w9 g2 hg2 h hp => ?_)
  refine wl (app1 0 h hp rfl rfl rfl ap42 3 rfl rfl rfl (by omega) (by omega) fun a w10 v h hp => ?_)
  refine wsg h rfl fun a h => ?_
  refine wn' ?_
  try simp only [xqs, ↓reduceIte, Nat.reduceEqDiff]
  refine rg1 ?_
  refine wvl h (add h rfl rfl (by omega)) fun a h => ?_
  refine wmv h rfl fun a h => ?_
  refine wn ?_
  exact ⟨_, _, (by omega), ⟨k + 1, _, by omega, rfl, rfl, hp.pre 1 (by rw [moveds_snoc hy, List.flatMap_append]; rfl), spots_go hy hI hok⟩, h.sub ⟨rfl, rfl, rfl, rfl, rfl, rfl, rfl, trivial⟩⟩
 have hend : k = ys.length := by have := of_decide_eq_false hb4; omega
 subst hend
 rw [List.take_length] at hp hI
 refine wp_exit ?_
 try simp only [xqs, ↓reduceIte, Nat.reduceEqDiff]
 refine rg ?_
 refine wmv h rfl fun a h => ?_
 refine ws2 h rfl rfl rfl rfl fun a h => ?_
 refine wp_ret ?_
 try simp only [xqs]
 refine rt_2 h rfl (rvT h rfl) (rvT h rfl) ?_
 exact ⟨_, rfl, .inl ⟨hI, _, rfl, hp.frB (i := 0) rfl rfl (by simp [moveds]) (fun _ _ => rfl)⟩, hp.bel⟩
theorem Moves_x (s s2 : SV) (l ys : List Ball) (n1 : Int) (w : World) (hR : Rd w encL 3 s.v l) (hS : Rd w encL 3 s2.v ys) (hbad : (isBalls l && inR n1 0 ((l.length : Int) - 1) && inR ys.length 1 12) = false) : Ret Tryz.prog 29 #[s.v, .int .i64 n1, s2.v] w fun u w' => u = .tuple #[.slice none 0 0, .int .i64 2] ∧ Below w.heap.size w w' := by
 have hp : Hp c0 w w [] := Hp.start trivial
 refine enter Tryz.func29 rfl (N := 50) rfl rfl fun a h => ?_
 refine rg ?_
 refine ws2 h rfl rfl rfl rfl fun a h => ?_
 refine wp_seq ?_
 refine rg ?_
 refine wmv h rfl fun a h => ?_
 refine wl (cal h rfl en17 (Balls_e _ _ _ (hR.keep (by decide) hp cl0)) fun u w1 ⟨e1, e2⟩ a h => ?_)
 subst e1
 have hp := hp.below e2
 refine wvl h (nei h rfl rfl) fun a h => ?_
 refine wmv h rfl fun a h => ?_
 refine split (t := 15) h rfl (fun hb1 => ?_) (fun hb1 => ?_)
 ·refine wl (stp_off h rfl rfl rfl rfl rfl hb1 fun a h => ?_)
  refine wl (stp_off h rfl rfl rfl rfl rfl hb1 fun a h => ?_)
  refine wl (stp_off h rfl rfl rfl rfl rfl hb1 fun a h => ?_)
  refine wl (stp_off h rfl rfl rfl rfl rfl hb1 fun a h => ?_)
  refine wvl h (pckT h rfl hb1 rfl) fun a h => ?_
  refine wmv h rfl fun a h => ?_
  refine wl (stp_off h rfl rfl rfl rfl rfl rfl fun a h => ?_)
  refine wl (stp_off h rfl rfl rfl rfl rfl rfl fun a h => ?_)
  refine wl (stp_off h rfl rfl rfl rfl rfl rfl fun a h => ?_)
  refine wl (stp_off h rfl rfl rfl rfl rfl rfl fun a h => ?_)
  refine wvl h (pckT h rfl rfl rfl) fun a h => ?_
  refine wn ?_
  refine cnd1 h rfl (fun _ => ?_) (fun e => nomatch e)
  refine rg ?_
  refine ws2 h rfl rfl rfl rfl fun a h => ?_
  refine wp_ret ?_
  try simp only [xqs]
  refine rt_2 h rfl (rvT h rfl) (rvT h rfl) ?_
  exact ⟨_, rfl, rfl, hp.bel⟩
 have hn1 := hb1
 refine wl (stp_on h rfl rfl rfl hb1 (vl h (mov h rfl) fun a h => ?_))
 refine wl (stp_on h rfl rfl rfl hb1 (vl h (mov h rfl) fun a h => ?_))
 refine wl (stp_on h rfl rfl rfl hb1 (cal h rfl en55_W56 (isBall_e _ _ _ _ (hR.keep (by decide) hp cl0)) fun u w2 ⟨e1, e2⟩ a h => ?_))
 subst e1
 have hp := hp.below e2
 refine wl (stp_on h rfl rfl rfl hb1 (vl h (not_ h rfl) fun a h => ?_))
 refine wvl h (pckF h rfl hb1 rfl) fun a h => ?_
 refine wmv h rfl fun a h => ?_
 refine split (t := 21) h rfl (fun hb2 => ?_) (fun hb2 => ?_)
 ·refine wl (stp_off h rfl rfl rfl rfl rfl hb2 fun a h => ?_)
  refine wl (stp_off h rfl rfl rfl rfl rfl hb2 fun a h => ?_)
  refine wl (stp_off h rfl rfl rfl rfl rfl hb2 fun a h => ?_)
  refine wl (stp_off h rfl rfl rfl rfl rfl hb2 fun a h => ?_)
  refine wvl h (pckT h rfl hb2 rfl) fun a h => ?_
  refine wn ?_
  refine cnd1 h rfl (fun _ => ?_) (fun e => nomatch e)
  refine rg ?_
  refine ws2 h rfl rfl rfl rfl fun a h => ?_
  refine wp_ret ?_
  try simp only [xqs]
  refine rt_2 h rfl (rvT h rfl) (rvT h rfl) ?_
  exact ⟨_, rfl, rfl, hp.bel⟩
 have hn2 := hb2
 refine wl (stp_on h rfl rfl rfl hb2 (vl h (mov h rfl) fun a h => ?_))
 refine wl (stp_on h rfl rfl rfl hb2 (vl h (lenR h rfl Tryz.underlying37 (hS.keep (by decide) hp cl0)) fun a h => ?_))
 refine wl (stp_on h rfl rfl rfl hb2 (cal h rfl en61 (in_e _ _ _ _) fun u w3 ⟨e1, e2⟩ a h => ?_))
 subst e1
 subst e2
 refine wl (stp_on h rfl rfl rfl hb2 (vl h (not_ h rfl) fun a h => ?_))
 refine wvl h (pckF h rfl hb2 rfl) fun a h => ?_
 refine wn ?_
 refine cnd1 h rfl (fun hb3 => ?_) (fun hb3 => ?_)
 ·refine rg ?_
  refine ws2 h rfl rfl rfl rfl fun a h => ?_
  refine wp_ret ?_
  try simp only [xqs]
  refine rt_2 h rfl (rvT h rfl) (rvT h rfl) ?_
  exact ⟨_, rfl, rfl, hp.bel⟩
 exact absurd hbad (bad3m hn1 hn2 hb3)
theorem Moves_ok {s s2 : SV} {l ys : List Ball} {q : Nat} {w : World} (hR : Rd w encL 3 s.v l) (hS : Rd w encL 3 s2.v ys) (hb : isBalls l = true) (hn : q < l.length) (hm : inR ys.length 1 12 = true) (hs : spotsOk l q ys = true) : Ret Tryz.prog 29 #[s.v, .int .i64 (q : Int), s2.v] w fun u w' => (∃ s' : SV, u = .tuple #[s'.v, .int .i64 0] ∧ Fr w w' encI 1 s'.v (moveds l q ys)) ∧ Below w.heap.size w w' := by
 refine (Moves_s s s2 l ys q w hR hS hb hn hm).mono ?_
 rintro e w' ⟨u, he, h | h, hB⟩
 ·exact ⟨u, he, h.2, hB⟩
 rw [hs] at h
 exact absurd h.1 (by decide)
theorem Moves_no {s s2 : SV} {l ys : List Ball} {q : Nat} {w : World} (hR : Rd w encL 3 s.v l) (hS : Rd w encL 3 s2.v ys) (hb : isBalls l = true) (hn : q < l.length) (hs : (spotsOk l q ys && inR ys.length 1 12) = false) : Ret Tryz.prog 29 #[s.v, .int .i64 (q : Int), s2.v] w fun u w' => u = .tuple #[.slice none 0 0, .int .i64 2] ∧ Below w.heap.size w w' := by
 cases hm : inR ys.length 1 12 with
 | false => exact Moves_x s s2 l ys q w hR hS (by rw [hm, Bool.and_false])
 | true =>
  rw [hm, Bool.and_true] at hs
  refine (Moves_s s s2 l ys q w hR hS hb hn hm).mono ?_
  rintro e w' ⟨u, he, h | h, hB⟩
  ·rw [hs] at h
   exact absurd h.1 (by decide)
  ·exact ⟨u, he, h.2, hB⟩
theorem EclipseMoves_a (s s2 : SV) (l ys : List Ball) (n1 : Int) (w : World) (hR : Rd w encL 3 s.v l) (hS : Rd w encL 3 s2.v ys) (hGl : Glb w) (hbad : (isBalls l && inR n1 0 ((l.length : Int) - 1)) = false) : Ret Tryz.prog 9 #[s.v, .int .i64 n1, s2.v] w fun u w' => u = .bool true ∧ Below w.heap.size w w' := by
 have hfit := hR.fits
 have hfit2 := hS.fits
 have hp : Hp c0 w w [] := Hp.start trivial
 refine enter Tryz.func9 rfl (N := 103) rfl rfl fun a h => ?_
 refine rg ?_
 refine wsn h rfl fun a h => ?_
 refine wp_seq ?_
 refine rg ?_
 refine wmv h rfl fun a h => ?_
 refine wvl h (lenR h rfl Tryz.underlying37 (hR.keep (by decide) hp cl0)) fun a h => ?_
 refine wvl h (gtr h rfl rfl) fun a h => ?_
 refine wmv h rfl fun a h => ?_
 refine split (t := 15) h rfl (fun hb1 => ?_) (fun hb1 => ?_)
 ·refine wl (stp_off h rfl rfl rfl rfl rfl hb1 fun a h => ?_)
  refine wl (stp_off h rfl rfl rfl rfl rfl hb1 fun a h => ?_)
  refine wl (stp_off h rfl rfl rfl rfl rfl hb1 fun a h => ?_)
  refine wvl h (pckT h rfl hb1 rfl) fun a h => ?_
  refine wn ?_
  refine cnd1 h rfl (fun _ => ?_) (fun e => nomatch e)
  refine rg ?_
  refine wl (cal h rfl en10_W56 (known_L _ (hGl.keep hp)) fun u w1 ⟨e1, e2⟩ a h => ?_)
  subst e1
  have hp := hp.below e2
  refine wsn h rfl fun a h => ?_
  refine wp_ret ?_
  try simp only [xqs]
  refine rt_1 h rfl (rvT h rfl) ?_
  exact ⟨_, rfl, rfl, hp.bel⟩
 refine wl (stp_on h rfl rfl rfl hb1 (vl h (mov h rfl) fun a h => ?_))
 refine wl (stp_on h rfl rfl rfl hb1 (vl h (lenR h rfl Tryz.underlying37 (hS.keep (by decide) hp cl0)) fun a h => ?_))
 refine wl (stp_on h rfl rfl rfl hb1 (vl h (gtr h rfl rfl) fun a h => ?_))
 refine wvl h (pckF h rfl hb1 rfl) fun a h => ?_
 refine wn ?_
 refine cnd1 h rfl (fun hb2 => ?_) (fun hb2 => ?_)
 ·refine rg ?_
  refine wl (cal h rfl en10_W56 (known_L _ (hGl.keep hp)) fun u w2 ⟨e1, e2⟩ a h => ?_)
  subst e1
  have hp := hp.below e2
  refine wsn h rfl fun a h => ?_
  refine wp_ret ?_
  try simp only [xqs]
  refine rt_1 h rfl (rvT h rfl) ?_
  exact ⟨_, rfl, rfl, hp.bel⟩
 refine skp ?_
 refine rg ?_
 refine wm3 h rfl rfl rfl rfl rfl rfl fun a h => ?_
 refine wl (cal h rfl en29_W56 (Moves_x _ _ _ _ _ _ (hR.keep (by decide) hp cl0) (hS.keep (by decide) hp cl0) (by rw [hbad, Bool.false_and])) fun u w3 ⟨e1, e2⟩ a h => ?_)
 subst e1
 have hp := hp.below e2
 refine wmv h rfl fun a h => ?_
 refine wvl h (ext h rfl rfl) fun a h => ?_
 refine wvl h (ext h rfl rfl) fun a h => ?_
 refine ws2 h rfl rfl rfl rfl fun a h => ?_
 refine wp_seq ?_
 refine rg ?_
 refine wmv h rfl fun a h => ?_
 refine wl (cal h rfl en20_W56 (Balls_R _ _ _ (hR.keep (by decide) hp cl0)) fun u w4 ⟨e1, e2⟩ a h => ?_)
 subst e1
 have hp := hp.below e2
 refine wvl h (not_ h rfl) fun a h => ?_
 refine wmv h rfl fun a h => ?_
 refine split (t := 31) h rfl (fun hb3 => ?_) (fun hb3 => ?_)
 ·refine wl (stp_off h rfl rfl rfl rfl rfl hb3 fun a h => ?_)
  refine wl (stp_off h rfl rfl rfl rfl rfl hb3 fun a h => ?_)
  refine wl (stp_off h rfl rfl rfl rfl rfl hb3 fun a h => ?_)
  refine wl (stp_off h rfl rfl rfl rfl rfl hb3 fun a h => ?_)
  refine wvl h (pckT h rfl hb3 rfl) fun a h => ?_
  refine wmv h rfl fun a h => ?_
  refine wl (stp_off h rfl rfl rfl rfl rfl rfl fun a h => ?_)
  refine wl (stp_off h rfl rfl rfl rfl rfl rfl fun a h => ?_)
  refine wl (stp_off h rfl rfl rfl rfl rfl rfl fun a h => ?_)
  refine wl (stp_off h rfl rfl rfl rfl rfl rfl fun a h => ?_)
  refine wl (stp_off h rfl rfl rfl rfl rfl rfl fun a h => ?_)
  refine wvl h (pckT h rfl rfl rfl) fun a h => ?_
  refine wn ?_
  refine cnd1 h rfl (fun _ => ?_) (fun e => nomatch e)
  refine rg ?_
  refine wmv h rfl fun a h => ?_
  refine wvl h (eqi h rfl rfl) fun a h => ?_
  refine wmv h rfl fun a h => ?_
  refine split (t := 46) h rfl (fun hb4 => ?_) (fun hb4 => ?_)
  ·refine wl (stp_on h rfl rfl rfl hb4 (vl h (mov h rfl) fun a h => ?_))
   refine wl (stp_on h rfl rfl rfl hb4 (vl h (len_ h rfl Tryz.underlying42) fun a h => ?_))
   refine wl (stp_on h rfl rfl rfl hb4 (vl h (eqi h rfl rfl) fun a h => ?_))
   refine wvl h (pckT h rfl hb4 rfl) fun a h => ?_
   refine wmv h rfl fun a h => ?_
   refine split (t := 51) h rfl (fun hb5 => ?_) (fun hb5 => ?_)
   ·refine wl (stp_on h rfl rfl rfl hb5 (cal h rfl en10_W56 (known_L _ (hGl.keep hp)) fun u w5 ⟨e1, e2⟩ a h => ?_))
    subst e1
    have hp := hp.below e2
    refine wvl h (pckT h rfl hb5 rfl) fun a h => ?_
    refine wsn h rfl fun a h => ?_
    refine wp_ret ?_
    try simp only [xqs]
    refine rt_1 h rfl (rvT h rfl) ?_
    exact ⟨_, rfl, rfl, hp.bel⟩
   exact absurd hb5 (by first | decide | (simp only [Bool.not_eq_true', Bool.not_eq_false', Bool.not_eq_true, Bool.not_eq_false, decide_eq_true_eq, decide_eq_false_iff_not, gt_iff_lt, ge_iff_le]; omega) | (simp; done))
  exact absurd hb4 (by first | decide | (simp only [Bool.not_eq_true', Bool.not_eq_false', Bool.not_eq_true, Bool.not_eq_false, decide_eq_true_eq, decide_eq_false_iff_not, gt_iff_lt, ge_iff_le]; omega) | (simp; done))
 have hn1 := hb3
 refine wl (stp_on h rfl rfl rfl hb3 (vl h (mov h rfl) fun a h => ?_))
 refine wl (stp_on h rfl rfl rfl hb3 (vl h (mov h rfl) fun a h => ?_))
 refine wl (stp_on h rfl rfl rfl hb3 (cal h rfl en23_W56 (Ball_R _ _ _ _ (hR.keep (by decide) hp cl0)) fun u w6 ⟨e1, e2⟩ a h => ?_))
 subst e1
 have hp := hp.below e2
 refine wl (stp_on h rfl rfl rfl hb3 (vl h (not_ h rfl) fun a h => ?_))
 refine wvl h (pckF h rfl hb3 rfl) fun a h => ?_
 refine wmv h rfl fun a h => ?_
 refine split (t := 37) h rfl (fun hb6 => ?_) (fun hb6 => ?_)
 ·refine wl (stp_off h rfl rfl rfl rfl rfl hb6 fun a h => ?_)
  refine wl (stp_off h rfl rfl rfl rfl rfl hb6 fun a h => ?_)
  refine wl (stp_off h rfl rfl rfl rfl rfl hb6 fun a h => ?_)
  refine wl (stp_off h rfl rfl rfl rfl rfl hb6 fun a h => ?_)
  refine wl (stp_off h rfl rfl rfl rfl rfl hb6 fun a h => ?_)
  refine wvl h (pckT h rfl hb6 rfl) fun a h => ?_
  refine wn ?_
  refine cnd1 h rfl (fun _ => ?_) (fun e => nomatch e)
  refine rg ?_
  refine wmv h rfl fun a h => ?_
  refine wvl h (eqi h rfl rfl) fun a h => ?_
  refine wmv h rfl fun a h => ?_
  refine split (t := 46) h rfl (fun hb7 => ?_) (fun hb7 => ?_)
  ·refine wl (stp_on h rfl rfl rfl hb7 (vl h (mov h rfl) fun a h => ?_))
   refine wl (stp_on h rfl rfl rfl hb7 (vl h (len_ h rfl Tryz.underlying42) fun a h => ?_))
   refine wl (stp_on h rfl rfl rfl hb7 (vl h (eqi h rfl rfl) fun a h => ?_))
   refine wvl h (pckT h rfl hb7 rfl) fun a h => ?_
   refine wmv h rfl fun a h => ?_
   refine split (t := 51) h rfl (fun hb8 => ?_) (fun hb8 => ?_)
   ·refine wl (stp_on h rfl rfl rfl hb8 (cal h rfl en10_W56 (known_L _ (hGl.keep hp)) fun u w7 ⟨e1, e2⟩ a h => ?_))
    subst e1
    have hp := hp.below e2
    refine wvl h (pckT h rfl hb8 rfl) fun a h => ?_
    refine wsn h rfl fun a h => ?_
    refine wp_ret ?_
    try simp only [xqs]
    refine rt_1 h rfl (rvT h rfl) ?_
    exact ⟨_, rfl, rfl, hp.bel⟩
   exact absurd hb8 (by first | decide | (simp only [Bool.not_eq_true', Bool.not_eq_false', Bool.not_eq_true, Bool.not_eq_false, decide_eq_true_eq, decide_eq_false_iff_not, gt_iff_lt, ge_iff_le]; omega) | (simp; done))
  exact absurd hb7 (by first | decide | (simp only [Bool.not_eq_true', Bool.not_eq_false', Bool.not_eq_true, Bool.not_eq_false, decide_eq_true_eq, decide_eq_false_iff_not, gt_iff_lt, ge_iff_le]; omega) | (simp; done))
 exact absurd hbad (bad2 hn1 hb6)
theorem EclipseMoves_b (s s2 : SV) (l ys : List Ball) (q : Nat) (w : World) (hR : Rd w encL 3 s.v l) (hS : Rd w encL 3 s2.v ys) (hn : q < l.length) (hGl : Glb w) (hb : isBalls l = true) (hs : (spotsOk l q ys && inR ys.length 1 12) = false) : Ret Tryz.prog 9 #[s.v, .int .i64 (q : Int), s2.v] w fun u w' => u = .bool true ∧ Below w.heap.size w w' := by
 have hfit := hR.fits
 have hfit2 := hS.fits
 have hln := balls_len hb
 have hiq : inR (q : Int) 0 ((l.length : Int) - 1) = true := by simp only [inR, Bool.and_eq_true, decide_eq_true_eq]; omega
 have hp : Hp c0 w w [] := Hp.start trivial
 refine enter Tryz.func9 rfl (N := 103) rfl rfl fun a h => ?_
 refine rg ?_
 refine wsn h rfl fun a h => ?_
 refine wp_seq ?_
 refine rg ?_
 refine wmv h rfl fun a h => ?_
 refine wvl h (lenR h rfl Tryz.underlying37 (hR.keep (by decide) hp cl0)) fun a h => ?_
 refine wvl h (gtr h rfl rfl) fun a h => ?_
 refine wmv h rfl fun a h => ?_
 refine split (t := 15) h rfl (fun hb1 => ?_) (fun hb1 => ?_)
 ·refine wl (stp_off h rfl rfl rfl rfl rfl hb1 fun a h => ?_)
  refine wl (stp_off h rfl rfl rfl rfl rfl hb1 fun a h => ?_)
  refine wl (stp_off h rfl rfl rfl rfl rfl hb1 fun a h => ?_)
  refine wvl h (pckT h rfl hb1 rfl) fun a h => ?_
  refine wn ?_
  refine cnd1 h rfl (fun _ => ?_) (fun e => nomatch e)
  refine rg ?_
  refine wl (cal h rfl en10_W56 (known_L _ (hGl.keep hp)) fun u w1 ⟨e1, e2⟩ a h => ?_)
  subst e1
  have hp := hp.below e2
  refine wsn h rfl fun a h => ?_
  refine wp_ret ?_
  try simp only [xqs]
  refine rt_1 h rfl (rvT h rfl) ?_
  exact ⟨_, rfl, rfl, hp.bel⟩
 refine wl (stp_on h rfl rfl rfl hb1 (vl h (mov h rfl) fun a h => ?_))
 refine wl (stp_on h rfl rfl rfl hb1 (vl h (lenR h rfl Tryz.underlying37 (hS.keep (by decide) hp cl0)) fun a h => ?_))
 refine wl (stp_on h rfl rfl rfl hb1 (vl h (gtr h rfl rfl) fun a h => ?_))
 refine wvl h (pckF h rfl hb1 rfl) fun a h => ?_
 refine wn ?_
 refine cnd1 h rfl (fun hb2 => ?_) (fun hb2 => ?_)
 ·refine rg ?_
  refine wl (cal h rfl en10_W56 (known_L _ (hGl.keep hp)) fun u w2 ⟨e1, e2⟩ a h => ?_)
  subst e1
  have hp := hp.below e2
  refine wsn h rfl fun a h => ?_
  refine wp_ret ?_
  try simp only [xqs]
  refine rt_1 h rfl (rvT h rfl) ?_
  exact ⟨_, rfl, rfl, hp.bel⟩
 refine skp ?_
 refine rg ?_
 refine wm3 h rfl rfl rfl rfl rfl rfl fun a h => ?_
 refine wl (cal h rfl en29_W56 (Moves_no (hR.keep (by decide) hp cl0) (hS.keep (by decide) hp cl0) hb hn hs) fun u w3 ⟨e1, e2⟩ a h => ?_)
 subst e1
 have hp := hp.below e2
 refine wmv h rfl fun a h => ?_
 refine wvl h (ext h rfl rfl) fun a h => ?_
 refine wvl h (ext h rfl rfl) fun a h => ?_
 refine ws2 h rfl rfl rfl rfl fun a h => ?_
 refine wp_seq ?_
 refine rg ?_
 refine wmv h rfl fun a h => ?_
 refine wl (cal h rfl en20_W56 (Balls_R _ _ _ (hR.keep (by decide) hp cl0)) fun u w4 ⟨e1, e2⟩ a h => ?_)
 subst e1
 have hp := hp.below e2
 refine wvl h (not_ h rfl) fun a h => ?_
 refine wmv h rfl fun a h => ?_
 refine split (t := 31) h rfl (fun hb3 => ?_) (fun hb3 => ?_)
 ·exact absurd hb3 (by rw [hb]; decide)
 refine wl (stp_on h rfl rfl rfl hb3 (vl h (mov h rfl) fun a h => ?_))
 refine wl (stp_on h rfl rfl rfl hb3 (vl h (mov h rfl) fun a h => ?_))
 refine wl (stp_on h rfl rfl rfl hb3 (cal h rfl en23_W56 (Ball_R _ _ _ _ (hR.keep (by decide) hp cl0)) fun u w5 ⟨e1, e2⟩ a h => ?_))
 subst e1
 have hp := hp.below e2
 refine wl (stp_on h rfl rfl rfl hb3 (vl h (not_ h rfl) fun a h => ?_))
 refine wvl h (pckF h rfl hb3 rfl) fun a h => ?_
 refine wmv h rfl fun a h => ?_
 refine split (t := 37) h rfl (fun hb4 => ?_) (fun hb4 => ?_)
 ·exact absurd hb4 (by rw [hiq]; decide)
 refine wl (stp_on h rfl rfl rfl hb4 (vl h (mov h rfl) fun a h => ?_))
 refine wl (stp_on h rfl rfl rfl hb4 (vl h (mov h rfl) fun a h => ?_))
 refine wl (stp_on h rfl rfl rfl hb4 (vl h (mov h rfl) fun a h => ?_))
 refine wl (stp_on h rfl rfl rfl hb4 (cal h rfl en30_W56 (Spots_R _ _ _ _ _ _ (hR.keep (by decide) hp cl0) (hS.keep (by decide) hp cl0) hn (by omega)) fun u w6 ⟨e1, e2⟩ a h => ?_))
 subst e1
 have hp := hp.below e2
 refine wl (stp_on h rfl rfl rfl hb4 (vl h (not_ h rfl) fun a h => ?_))
 refine wvl h (pckF h rfl hb4 rfl) fun a h => ?_
 refine wn ?_
 refine cnd1 h rfl (fun hb5 => ?_) (fun hb5 => ?_)
 ·refine rg ?_
  refine wmv h rfl fun a h => ?_
  refine wvl h (eqi h rfl rfl) fun a h => ?_
  refine wmv h rfl fun a h => ?_
  refine split (t := 46) h rfl (fun hb6 => ?_) (fun hb6 => ?_)
  ·refine wl (stp_on h rfl rfl rfl hb6 (vl h (mov h rfl) fun a h => ?_))
   refine wl (stp_on h rfl rfl rfl hb6 (vl h (len_ h rfl Tryz.underlying42) fun a h => ?_))
   refine wl (stp_on h rfl rfl rfl hb6 (vl h (eqi h rfl rfl) fun a h => ?_))
   refine wvl h (pckT h rfl hb6 rfl) fun a h => ?_
   refine wmv h rfl fun a h => ?_
   refine split (t := 51) h rfl (fun hb7 => ?_) (fun hb7 => ?_)
   ·refine wl (stp_on h rfl rfl rfl hb7 (cal h rfl en10_W56 (known_L _ (hGl.keep hp)) fun u w7 ⟨e1, e2⟩ a h => ?_))
    subst e1
    have hp := hp.below e2
    refine wvl h (pckT h rfl hb7 rfl) fun a h => ?_
    refine wsn h rfl fun a h => ?_
    refine wp_ret ?_
    try simp only [xqs]
    refine rt_1 h rfl (rvT h rfl) ?_
    exact ⟨_, rfl, rfl, hp.bel⟩
   exact absurd hb7 (by first | decide | (simp only [Bool.not_eq_true', Bool.not_eq_false', Bool.not_eq_true, Bool.not_eq_false, decide_eq_true_eq, decide_eq_false_iff_not, gt_iff_lt, ge_iff_le]; omega) | (simp; done))
  exact absurd hb6 (by first | decide | (simp only [Bool.not_eq_true', Bool.not_eq_false', Bool.not_eq_true, Bool.not_eq_false, decide_eq_true_eq, decide_eq_false_iff_not, gt_iff_lt, ge_iff_le]; omega) | (simp; done))
 exact absurd hb5 (by rw [hs]; decide)
set_option maxHeartbeats 2000000 in
theorem EclipseMoves_c (s s2 : SV) (l ys : List Ball) (q : Nat) (w : World) (hR : Rd w encL 3 s.v l) (hS : Rd w encL 3 s2.v ys) (hn : q < l.length) (hGl : Glb w) (hb : isBalls l = true) (hs : spotsOk l q ys = true) (hm : inR ys.length 1 12 = true) : Ret Tryz.prog 9 #[s.v, .int .i64 (q : Int), s2.v] w fun u w' => u = .bool true ∧ Below w.heap.size w w' := by
 have hfit := hR.fits
 have hfit2 := hS.fits
 have hln := balls_len hb
 have hiq : inR (q : Int) 0 ((l.length : Int) - 1) = true := by simp only [inR, Bool.and_eq_true, decide_eq_true_eq]; omega
 have hp : Hp c0 w w [] := Hp.start trivial
 refine enter Tryz.func9 rfl (N := 103) rfl rfl fun a h => ?_
 refine rg ?_
 refine wsn h rfl fun a h => ?_
 refine wp_seq ?_
 refine rg ?_
 refine wmv h rfl fun a h => ?_
 refine wvl h (lenR h rfl Tryz.underlying37 (hR.keep (by decide) hp cl0)) fun a h => ?_
 refine wvl h (gtr h rfl rfl) fun a h => ?_
 refine wmv h rfl fun a h => ?_
 refine split (t := 15) h rfl (fun hb1 => ?_) (fun hb1 => ?_)
 ·refine wl (stp_off h rfl rfl rfl rfl rfl hb1 fun a h => ?_)
  refine wl (stp_off h rfl rfl rfl rfl rfl hb1 fun a h => ?_)
  refine wl (stp_off h rfl rfl rfl rfl rfl hb1 fun a h => ?_)
  refine wvl h (pckT h rfl hb1 rfl) fun a h => ?_
  refine wn ?_
  refine cnd1 h rfl (fun _ => ?_) (fun e => nomatch e)
  refine rg ?_
  refine wl (cal h rfl en10_W56 (known_L _ (hGl.keep hp)) fun u w1 ⟨e1, e2⟩ a h => ?_)
  subst e1
  have hp := hp.below e2
  refine wsn h rfl fun a h => ?_
  refine wp_ret ?_
  try simp only [xqs]
  refine rt_1 h rfl (rvT h rfl) ?_
  exact ⟨_, rfl, rfl, hp.bel⟩
 refine wl (stp_on h rfl rfl rfl hb1 (vl h (mov h rfl) fun a h => ?_))
 refine wl (stp_on h rfl rfl rfl hb1 (vl h (lenR h rfl Tryz.underlying37 (hS.keep (by decide) hp cl0)) fun a h => ?_))
 refine wl (stp_on h rfl rfl rfl hb1 (vl h (gtr h rfl rfl) fun a h => ?_))
 refine wvl h (pckF h rfl hb1 rfl) fun a h => ?_
 refine wn ?_
 refine cnd1 h rfl (fun hb2 => ?_) (fun hb2 => ?_)
 ·refine rg ?_
  refine wl (cal h rfl en10_W56 (known_L _ (hGl.keep hp)) fun u w2 ⟨e1, e2⟩ a h => ?_)
  subst e1
  have hp := hp.below e2
  refine wsn h rfl fun a h => ?_
  refine wp_ret ?_
  try simp only [xqs]
  refine rt_1 h rfl (rvT h rfl) ?_
  exact ⟨_, rfl, rfl, hp.bel⟩
 refine skp ?_
 refine rg ?_
 refine wm3 h rfl rfl rfl rfl rfl rfl fun a h => ?_
 refine wl (cal h rfl en29_W56 (Moves_ok (hR.keep (by decide) hp cl0) (hS.keep (by decide) hp cl0) hb hn hm hs) fun u w3 ⟨⟨s20, e1, hf⟩, e2⟩ a h => ?_)
 subst e1
 have hp := hp.got (hp.below e2) (by decide) hf
 refine wmv h rfl fun a h => ?_
 refine wvl h (ext h rfl rfl) fun a h => ?_
 refine wvl h (ext h rfl rfl) fun a h => ?_
 refine ws2 h rfl rfl rfl rfl fun a h => ?_
 refine wp_seq ?_
 refine rg ?_
 refine wmv h rfl fun a h => ?_
 refine wl (cal h rfl en20_W56 (Balls_R _ _ _ (hR.keep (by decide) hp cl0)) fun u w4 ⟨e1, e2⟩ a h => ?_)
 subst e1
 have hp := hp.below e2
 refine wvl h (not_ h rfl) fun a h => ?_
 refine wmv h rfl fun a h => ?_
 refine split (t := 31) h rfl (fun hb3 => ?_) (fun hb3 => ?_)
 ·exact absurd hb3 (by rw [hb]; decide)
 refine wl (stp_on h rfl rfl rfl hb3 (vl h (mov h rfl) fun a h => ?_))
 refine wl (stp_on h rfl rfl rfl hb3 (vl h (mov h rfl) fun a h => ?_))
 refine wl (stp_on h rfl rfl rfl hb3 (cal h rfl en23_W56 (Ball_R _ _ _ _ (hR.keep (by decide) hp cl0)) fun u w5 ⟨e1, e2⟩ a h => ?_))
 subst e1
 have hp := hp.below e2
 refine wl (stp_on h rfl rfl rfl hb3 (vl h (not_ h rfl) fun a h => ?_))
 refine wvl h (pckF h rfl hb3 rfl) fun a h => ?_
 refine wmv h rfl fun a h => ?_
 refine split (t := 37) h rfl (fun hb4 => ?_) (fun hb4 => ?_)
 ·exact absurd hb4 (by rw [hiq]; decide)
 refine wl (stp_on h rfl rfl rfl hb4 (vl h (mov h rfl) fun a h => ?_))
 refine wl (stp_on h rfl rfl rfl hb4 (vl h (mov h rfl) fun a h => ?_))
 refine wl (stp_on h rfl rfl rfl hb4 (vl h (mov h rfl) fun a h => ?_))
 refine wl (stp_on h rfl rfl rfl hb4 (cal h rfl en30_W56 (Spots_R _ _ _ _ _ _ (hR.keep (by decide) hp cl0) (hS.keep (by decide) hp cl0) hn (by omega)) fun u w6 ⟨e1, e2⟩ a h => ?_))
 subst e1
 have hp := hp.below e2
 refine wl (stp_on h rfl rfl rfl hb4 (vl h (not_ h rfl) fun a h => ?_))
 refine wvl h (pckF h rfl hb4 rfl) fun a h => ?_
 refine wn ?_
 refine cnd1 h rfl (fun hb5 => ?_) (fun hb5 => ?_)
 ·exact absurd hb5 (by rw [hs, hm]; decide)
 refine skp ?_
 refine wp_seq ?_
 refine rg ?_
 refine wmv h rfl fun a h => ?_
 refine wvl h (nei h rfl rfl) fun a h => ?_
 refine wmv h rfl fun a h => ?_
 refine split (t := 56) h rfl (fun hb6 => ?_) (fun hb6 => ?_)
 ·exact absurd hb6 (by decide)
 refine wl (stp_on h rfl rfl rfl hb6 (vl h (mov h rfl) fun a h => ?_))
 refine wl (stp_on h rfl rfl rfl hb6 (vl h (mov h rfl) fun a h => ?_))
 refine wl (stp_on h rfl rfl rfl hb6 (vl h (mov h rfl) fun a h => ?_))
 refine wl (stp_on h rfl rfl rfl hb6 (vl h (mov h rfl) fun a h => ?_))
 refine wl (stp_on h rfl rfl rfl hb6 (cal h rfl en31_W56 (Moves_R _ _ _ _ _ _ (hR.keep (by decide) hp cl0) (hS.keep (by decide) hp cl0) hn (by omega) hs hm) fun u w7 ⟨⟨s21, e1, hf⟩, e2⟩ a h => ?_))
 subst e1
 have hp := hp.got (hp.below e2) (by decide) hf
 refine wl (stp_on h rfl rfl rfl hb6 (cal h rfl en21 (SameWords_R _ _ _ _ _ (hp.rdF (i := 0) rfl) (hp.rdF (i := 1) rfl)) fun u w8 ⟨e1, e2⟩ a h => ?_))
 subst e1
 have hp := hp.below e2
 refine wl (stp_on h rfl rfl rfl hb6 (vl h (not_ h rfl) fun a h => ?_))
 refine wvl h (pckF h rfl hb6 rfl) fun a h => ?_
 refine wn ?_
 refine cnd1 h rfl (fun hb7 => ?_) (fun hb7 => ?_)
 ·exact absurd hb7 (by simp)
 refine skp ?_
 refine wp_seq ?_
 refine rg ?_
 refine wsn h rfl fun a h => ?_
 refine lp1 h [0, 1, 2, 7, 19, 43, 64] (fun n f w' => ∃ k : Nat, k ≤ ys.length ∧ n = ys.length - k ∧ f = [(9, .int .i64 k)] ∧ Hp c0 w w' ([rdE encI 1 s20.v (moveds l q ys), rdE encI 1 s21.v (moveds l q ys)]) ∧ True) (ys.length) [(9, .int .i64 ((0 : Nat) : Int))] ⟨rfl, rfl, rfl, rfl, rfl, rfl, rfl, rfl, trivial⟩ ⟨0, Nat.zero_le _, rfl, rfl, hp, trivial⟩ ?_
 rintro n f a w9 ⟨k, hk, rfl, rfl, hp, _⟩ h
 have hfit := hS.fits
 refine wp_seq ?_
 refine rg ?_
 refine wm2 h rfl rfl rfl rfl fun a h => ?_
 refine wvl h (lenR h rfl Tryz.underlying37 (hS.keep (by decide) hp cl0)) fun a h => ?_
 refine wvl h (lss h rfl rfl) fun a h => ?_
 refine wn ?_
 refine cnd1 h rfl (fun hb8 => ?_) (fun hb8 => ?_)
 ·have hlt : k < ys.length := by have := of_decide_eq_true hb8; omega
  obtain ⟨y, hy⟩ : ∃ y, ys[k]? = some y := ⟨_, List.getElem?_eq_getElem hlt⟩
  have hok := spots_at hs hy
  have hd1 : (dark (l.set q y))[q]? = some (darkest (l.set q y) q) := dark_at (by rw [List.length_set]; exact hn)
  have hd2 : (moveds l q ys)[k]? = some (darkest (l.set q y) q) := by rw [moveds, List.getElem?_map, hy]; rfl
  refine skp ?_
  refine blk ?_
  refine rg ?_
  refine wm3 h rfl rfl rfl rfl rfl rfl fun a h => ?_
  refine wmv h rfl fun a h => ?_
  refine wvl h (iadR (k) h rfl rfl Tryz.underlying37 sz51 (hS.keep (by decide) hp cl0) (rfl) (hlt)) fun a h => ?_
  refine wvl h (ldE h (hS.keep (by decide) hp cl0) hy rfl ag51 sz51) fun a h => ?_
  refine wl (cal h rfl en28_W56 (Put_N y (hR.keep (by decide) hp cl0) hn (by omega)) fun u w10 ⟨⟨s22, e1, hf⟩, e2⟩ a h => ?_)
  subst e1
  have hp := hp.got (hp.below e2) (by decide) hf
  refine wl (cal h rfl en19 (Dark_ok (hp.rdF (i := 2) rfl) hok) fun u w11 ⟨⟨s23, e1, hf⟩, e2⟩ a h => ?_)
  subst e1
  have hp := hp.got (hp.below e2) (by decide) hf
  refine wmv h rfl fun a h => ?_
  refine wvl h (ext h rfl rfl) fun a h => ?_
  refine wvl h (ext h rfl rfl) fun a h => ?_
  refine ws2 h rfl rfl rfl rfl fun a h => ?_
  refine rdh (n := 20) hp mixed rfl ?_
  have hp := hp.drew
  refine tkm 0 h rfl hp rfl fun a h => ?_
  refine tkq 1 h rfl hp (fun W _ => nei h rfl rfl) fun a h => ?_
  refine tkm 2 h rfl hp rfl fun a h => ?_
  refine split (t := 84) h rfl (fun hb9 => ?_) (fun hb9 => ?_)
  ·exact absurd hb9 (by decide)
  refine tk_on 3 h rfl (by kernel_rfl) (fun _ _ _ q => q) hp rfl rfl rfl rfl rfl hb9 (fun W _ => mov h rfl) fun a h => ?_
  refine tk_on 4 h rfl (by kernel_rfl) (fun _ _ _ q => q) hp rfl rfl rfl rfl rfl hb9 (fun W hp => lenR h rfl Tryz.underlying42 (hp.rdF (i := 3) rfl)) fun a h => ?_
  refine tk_on 5 h rfl (by kernel_rfl) (fun _ _ _ q => q) hp rfl rfl rfl rfl rfl hb9 (fun W _ => mov h rfl) fun a h => ?_
  refine tk_on 6 h rfl (by kernel_rfl) (fun _ _ _ q => q) hp rfl rfl rfl rfl rfl hb9 (fun W hp => lenR h rfl Tryz.underlying37 (hR.keep (by decide) hp cl0)) fun a h => ?_
  refine tk_on 7 h rfl (by kernel_rfl) (fun _ _ _ q => q) hp rfl rfl rfl rfl rfl hb9 (fun W _ => nei h rfl rfl) fun a h => ?_
  refine tkq 8 h rfl hp (fun W _ => pckF h rfl hb9 rfl) fun a h => ?_
  refine tkm 9 h rfl hp rfl fun a h => ?_
  refine split (t := 91) h rfl (fun hb10 => ?_) (fun hb10 => ?_)
  ·exact absurd hb10 (by simp [dark])
  refine tk_on 10 h rfl (by kernel_rfl) (fun _ _ _ q => q) hp rfl rfl rfl rfl rfl hb10 (fun W _ => mov h rfl) fun a h => ?_
  refine tk_on 11 h rfl (by kernel_rfl) (fun _ _ _ q => q) hp rfl rfl rfl rfl rfl hb10 (fun W _ => mov h rfl) fun a h => ?_
  refine tk_on 12 h rfl (by kernel_rfl) (fun _ _ _ q => q) hp rfl rfl rfl rfl rfl hb10 (fun W hp => iadR (q) h rfl rfl Tryz.underlying42 sz39 (hp.rdF (i := 3) rfl) (rfl) (by rw [dark, List.length_map, List.length_range, List.length_set]; exact hn)) fun a h => ?_
  refine tk_on 13 h rfl (by kernel_rfl) (fun _ _ _ q => q) hp rfl rfl rfl rfl rfl hb10 (fun W hp => ld0 h (hp.rdF (i := 3) rfl) hd1 rfl ag39 rfl) fun a h => ?_
  refine tk_on 14 h rfl (by kernel_rfl) (fun _ _ _ q => q) hp rfl rfl rfl rfl rfl hb10 (fun W _ => mov h rfl) fun a h => ?_
  refine tk_on 15 h rfl (by kernel_rfl) (fun _ _ _ q => q) hp rfl rfl rfl rfl rfl hb10 (fun W _ => mov h rfl) fun a h => ?_
  refine tk_on 16 h rfl (by kernel_rfl) (fun _ _ _ q => q) hp rfl rfl rfl rfl rfl hb10 (fun W hp => iadR (k) h rfl rfl Tryz.underlying42 sz39 (hp.rdF (i := 0) rfl) (rfl) (by rw [moveds, List.length_map]; exact hlt)) fun a h => ?_
  refine tk_on 17 h rfl (by kernel_rfl) (fun _ _ _ q => q) hp rfl rfl rfl rfl rfl hb10 (fun W hp => ld0 h (hp.rdF (i := 0) rfl) hd2 rfl ag39 rfl) fun a h => ?_
  refine tk_on 18 h rfl (by kernel_rfl) (fun _ _ _ q => q) hp rfl rfl rfl rfl rfl hb10 (fun W _ => nei h rfl rfl) fun a h => ?_
  refine tkq 19 h rfl hp (fun W _ => pckF h rfl hb10 rfl) fun a h => ?_
  refine dn (by kernel_rfl) ?_
  refine cnd1 h rfl (fun hb11 => ?_) (fun hb11 => ?_)
  ·exact absurd hb11 (by simp)
  refine wp_skip ?_
  refine rg1 ?_
  refine wmv h rfl fun a h => ?_
  refine wvl h (add h rfl rfl (by omega)) fun a h => ?_
  refine wsn h rfl fun a h => ?_
  exact ⟨_, _, (by omega), ⟨k + 1, by omega, rfl, rfl, hp.pre 2 rfl, trivial⟩, h.sub ⟨rfl, rfl, rfl, rfl, rfl, rfl, rfl, rfl, trivial⟩⟩
 have hend : k = ys.length := by have := of_decide_eq_false hb8; omega
 subst hend
 refine wp_exit ?_
 try simp only [xqs, ↓reduceIte, Nat.reduceEqDiff]
 refine rg ?_
 refine wl (cal h rfl en10_W56 (known_L _ (hGl.keep hp)) fun u w12 ⟨e1, e2⟩ a h => ?_)
 subst e1
 have hp := hp.below e2
 refine wsn h rfl fun a h => ?_
 refine wp_ret ?_
 try simp only [xqs]
 refine rt_1 h rfl (rvT h rfl) ?_
 exact ⟨_, rfl, rfl, hp.bel⟩
theorem EclipseMoves_L (s : SV) (l : List Ball) (n1 : Int) (s2 : SV) (ys : List Ball) (w : World) (hR : Rd w encL 3 s.v l) (hS : Rd w encL 3 s2.v ys) (hGl : Glb w) : Ret Tryz.prog 9 #[s.v, .int .i64 n1, s2.v] w fun u w' => u = .bool true ∧ Below w.heap.size w w' := by
 cases hbad : (isBalls l && inR n1 0 ((l.length : Int) - 1)) with
 | false => exact EclipseMoves_a s s2 l ys n1 w hR hS hGl hbad
 | true =>
  simp only [Bool.and_eq_true] at hbad
  obtain ⟨hb, h1⟩ := hbad
  simp only [inR, Bool.and_eq_true, decide_eq_true_eq] at h1
  obtain ⟨q, rfl⟩ : ∃ q : Nat, n1 = (q : Int) := ⟨n1.toNat, by omega⟩
  cases hs : (spotsOk l q ys && inR ys.length 1 12) with
  | false => exact EclipseMoves_b s s2 l ys q w hR hS (by omega) hGl hb hs
  | true =>
   rw [Bool.and_eq_true] at hs
   exact EclipseMoves_c s s2 l ys q w hR hS (by omega) hGl hb hs.1 hs.2
end Go.Proofs.Ec
