import Derived.Test.YtepjdckdhddfbaaGreatDoorProg
import Derived.Test.YtepjdckdhddfbaaGreatDoorPFa
import Derived.Test.YtepjdckdhddfbaaGreatDoorPQb
import Derived.Test.YtepjdckdhddfbaaGreatDoorPW16
set_option linter.unusedVariables false
set_option linter.unusedSimpArgs false
set_option maxRecDepth 4000
namespace Go.Proofs.Ec
open Go.RowKit Go.Proofs.Sx
open Ecl
theorem balls1_ret {c : Cx} {w0 : World} {hl : HL} (g : Nat) (v n : Int) (w : World) (hp : Hp c w0 w (.blk g (.cells #[.int .i64 v] 24 (0, 0)) :: hl)) : CallsD Tryz.prog 53 #[.pointer (some ⟨g, 0, none⟩)] .returning w fun e u' w' => (∃ v, e = .returned v) ∧ settle u' = .returning ∧ Hp c w0 w' (.blk g (.cells #[.int .i64 v] 24 (0, 0)) :: hl) := by
 refine enterR (N := 10) (G := fun w' => Hp c w0 w' (.blk g (.cells #[.int .i64 v] 24 (0, 0)) :: hl)) (none) Tryz.func53 rfl rfl rfl rfl rfl fun a h => ?_
 refine blk1 ?_
 refine rg ?_
 refine wvl h (eqN0 h rfl rfl Tryz.underlying20) fun a h => ?_
 refine wn ?_
 refine cnd1 h rfl (fun _ => ?_) (fun e => nomatch e)
 refine rg1 ?_
 refine wsg h rfl fun a h => ?_
 refine wn' ?_
 try simp only [xqs, ↓reduceIte, Nat.reduceEqDiff]
 exact ⟨by simp, h.defs, hp⟩
theorem balls1_pan {c : Cx} {w0 : World} {hl : HL} (g : Nat) (v n : Int) (w : World) (hp : Hp c w0 w (.blk g (.cells #[.int .i64 v] 24 (0, 0)) :: hl)) : CallsD Tryz.prog 53 #[.pointer (some ⟨g, 0, none⟩)] (.panicking [{ v := (.iface 99 (.agg #[.int .i64 n])), recovered := false }]) w fun e u' w' => (∃ v, e = .returned v) ∧ settle u' = .returning ∧ Hp c w0 w' (.blk g (.cells #[.int .i64 2] 24 (0, 0)) :: hl) := by
 refine enterR (N := 10) (G := fun w' => Hp c w0 w' (.blk g (.cells #[.int .i64 2] 24 (0, 0)) :: hl)) (some ((.iface 99 (.agg #[.int .i64 n])))) Tryz.func53 rfl rfl rfl rfl rfl fun a h => ?_
 refine blk1 ?_
 refine rg ?_
 refine wvl h (eqN1 h rfl rfl Tryz.underlying20) fun a h => ?_
 refine wn ?_
 refine cnd1 h rfl (fun e => nomatch e) (fun _ => ?_)
 refine rg ?_
 refine wvl h (tya h rfl (tv99_20 _ _)) fun a h => ?_
 refine wvl h (ext h rfl rfl) fun a h => ?_
 refine wvl h (ext h rfl rfl) fun a h => ?_
 refine wn ?_
 refine cnd1 h rfl (fun _ => ?_) (fun e => nomatch e)
 refine rg ?_
 refine wl (all h hp zc99 fun a w1 g1 hg1 h hp => ?_)
 have hp := hp.front
 refine wl (sta h hp rfl rfl 0 rfl sz99 rfl rfl fun w2 hp => ?_)
 refine wn ?_
 refine rg1 ?_
 refine wl (st1 h hp rfl rfl 1 rfl rfl sz24 rfl fun w3 hp => ?_)
 refine wn' ?_
 try simp only [xqs, ↓reduceIte, Nat.reduceEqDiff]
 exact ⟨by simp, h.defs, hp.tail⟩
theorem Balls_e (s : SV) (l : List Ball) (w : World) (hR : Rd w encL 3 s.v l) : Ret Tryz.prog 17 #[s.v] w fun u w' => u = .int .i64 (if isBalls l = true then 0 else 2) ∧ Below w.heap.size w w' := by
 have hp : Hp c0 w w [] := Hp.start trivial
 refine enterD Tryz.func17 rfl (N := 6) rfl rfl fun a h => ?_
 refine rg ?_
 refine wl (all h hp zc24 fun a w1 g1 hg1 h hp => ?_)
 refine wn ?_
 refine rg ?_
 refine wvl h (mkf h rfl rfl) fun a h => ?_
 refine wl (dfr h rfl fun a h => ?_)
 refine wn ?_
 refine rg ?_
 refine wmv h rfl fun a h => ?_
 refine wl (calP h rfl en54 (apart_e s l _ (hR.keep (by decide) hp cl0)) (fun u w2 ⟨⟨e1, hok⟩, e2⟩ a h => ?_) (fun v w9 ⟨⟨⟨n9, e8⟩, hno⟩, e9⟩ => by subst e8; have hp := hp.below e9; exact door h (by simp) en53 (balls1_pan g1 0 n9 _ hp) fun w9 hp => ⟨_, res1 rfl (rv1 h hp rfl 0 rfl rfl ag24), ⟨_, rfl, by rw [hno]; rfl, hp.bel⟩⟩))
 have hp := hp.below e2
 refine wn ?_
 refine rg ?_
 refine wl (st1 h hp rfl rfl 0 rfl rfl sz24 rfl fun w3 hp => ?_)
 refine wn ?_
 refine wp_ret ?_
 try simp only [xqs]
 exact door h (by simp) en53 (balls1_ret g1 0 0 _ hp) fun w9 hp => ⟨_, res1 rfl (rv1 h hp rfl 0 rfl rfl ag24), ⟨_, rfl, by rw [hok]; rfl, hp.bel⟩⟩
theorem darkest_e (s : SV) (l : List Ball) (q : Nat) (w : World) (hR : Rd w encL 3 s.v l) (hb : ∀ b ∈ l, BallBd b) (hn : q < l.length) : Ret Tryz.prog 57 #[s.v, .int .i64 (q : Int)] w fun u w' => u = .int .i64 (darkest l q) ∧ Below w.heap.size w w' := by
 obtain ⟨z, hz⟩ : ∃ z, l[q]? = some z := ⟨_, List.getElem?_eq_getElem hn⟩
 have hzB := hb z (List.mem_of_getElem? hz)
 have hzd : l.getD q noBall = z := by rw [List.getD_eq_getElem?_getD, hz]; rfl
 have hp : Hp c0 w w [] := Hp.start trivial
 refine enter Tryz.func57 rfl (N := 28) rfl rfl fun a h => ?_
 refine rg ?_
 refine wsn h rfl fun a h => ?_
 refine rg ?_
 refine wsn h rfl fun a h => ?_
 refine wp_seq ?_
 refine rg ?_
 refine wmv h rfl fun a h => ?_
 refine wvl h (lenR h rfl Tryz.underlying37 (hR.keep (by decide) hp cl0)) fun a h => ?_
 refine wmv h rfl fun a h => ?_
 refine wn ?_
 refine lp1 h [0, 1, 4, 8, 9] (fun n f w' => ∃ k : Nat, ∃ m : Int, k ≤ l.length ∧ n = l.length - k ∧ f = [(10, .int .i64 k), (5, .int .i64 m)] ∧ Hp c0 w w' ([]) ∧ m = darkGo z q 0 (l.take k) 1) (l.length) [(10, .int .i64 ((0 : Nat) : Int)), (5, .int .i64 1)] ⟨rfl, rfl, rfl, rfl, rfl, rfl, rfl, trivial⟩ ⟨0, 1, Nat.zero_le _, rfl, rfl, hp, rfl⟩ ?_
 rintro n f a w1 ⟨k, m, hk, rfl, rfl, hp, hm⟩ h
 have hfit := hR.fits
 refine rg ?_
 refine wvl h (lss h rfl rfl) fun a h => ?_
 refine wn ?_
 refine cnd h rfl (fun hb1 => ?_) (fun hb1 => ?_)
 ·have hlt : k < l.length := by have := of_decide_eq_true hb1; omega
  obtain ⟨y, hy⟩ : ∃ y, l[k]? = some y := ⟨_, List.getElem?_eq_getElem hlt⟩
  have hyB := hb y (List.mem_of_getElem? hy)
  refine skp ?_
  refine blk ?_
  refine rg ?_
  refine wmv h rfl fun a h => ?_
  refine wvl h (iadR (k) h rfl rfl Tryz.underlying37 sz51 (hR.keep (by decide) hp cl0) (rfl) (hlt)) fun a h => ?_
  refine wvl h (ldE h (hR.keep (by decide) hp cl0) hy rfl ag51 sz51) fun a h => ?_
  refine wl (all h hp zc51 fun a w2 g1 hg1 h hp => ?_)
  refine wsg h rfl fun a h => ?_
  refine wl (sta h hp rfl rfl 0 rfl sz51 rfl rfl fun w3 hp => ?_)
  refine wn ?_
  refine rg ?_
  refine wm2 h rfl rfl rfl rfl fun a h => ?_
  refine wvl h (nei h rfl rfl) fun a h => ?_
  refine wn ?_
  refine cnd1 h rfl (fun hb2 => ?_) (fun hb2 => ?_)
  ·have hkn : ¬ k = q := by have hq := hb2; simp at hq; omega
   refine rdh1 (n := 9) hp mixed rfl ?_
   have hp := hp.drew
   refine tkm 0 h rfl hp rfl fun a h => ?_
   refine tkq 1 h rfl hp (fun W hp => ldO (us := [_, _, _]) h hp rfl 0 rfl sz51 rfl ag51) fun a h => ?_
   refine tkm 2 h rfl hp rfl fun a h => ?_
   refine tkm 3 h rfl hp rfl fun a h => ?_
   refine tkq 4 h rfl hp (fun W hp => iadR (q) h rfl rfl Tryz.underlying37 sz51 (hR.keep (by decide) hp cl0) (rfl) (hn)) fun a h => ?_
   refine tkq 5 h rfl hp (fun W hp => ldE h (hR.keep (by decide) hp cl0) hz rfl ag51 sz51) fun a h => ?_
   refine one 6 (by kernel_rfl) rfl (cal h rfl en56 (shades_e y z _ hyB hzB) fun u w4 ⟨e1, e2⟩ a h => ⟨hp.below e2, ?_⟩)
   subst e1
   have hp := hp.below e2
   refine tkq 7 h rfl hp (fun W _ => max_ h rfl rfl) fun a h => ?_
   refine tka 8 h rfl hp rfl fun a h => ?_
   refine dn (by kernel_rfl) ?_
   try simp only [xqs, ↓reduceIte, Nat.reduceEqDiff]
   refine rg1 ?_
   refine wvl h (add h rfl rfl (by omega)) fun a h => ?_
   refine wmv h rfl fun a h => ?_
   refine wn ?_
   exact ⟨_, _, (by omega), ⟨k + 1, _, by omega, rfl, rfl, hp.pre 0 rfl, by rw [dark_take hy, if_neg hkn, ← hm]⟩, h.sub ⟨rfl, rfl, rfl, rfl, rfl, rfl, rfl, trivial⟩⟩
  have hkn : k = q := by have hq := hb2; simp at hq; omega
  refine wp_skip ?_
  refine rg1 ?_
  refine wvl h (add h rfl rfl (by omega)) fun a h => ?_
  refine wmv h rfl fun a h => ?_
  refine wn ?_
  exact ⟨_, _, (by omega), ⟨k + 1, _, by omega, rfl, rfl, hp.pre 0 rfl, by rw [dark_take hy, if_pos hkn, ← hm]⟩, h.sub ⟨rfl, rfl, rfl, rfl, rfl, rfl, rfl, trivial⟩⟩
 have hend : k = l.length := by have := of_decide_eq_false hb1; omega
 subst hend
 rw [List.take_length] at hm
 refine wp_exit ?_
 try simp only [xqs, ↓reduceIte, Nat.reduceEqDiff]
 refine rg ?_
 refine wmv h rfl fun a h => ?_
 refine wsn h rfl fun a h => ?_
 refine wp_ret ?_
 try simp only [xqs]
 refine rt_1 h rfl (rvT h rfl) ?_
 exact ⟨_, rfl, by rw [darkest, hzd, hm], hp.bel⟩
theorem Dark_e (s : SV) (l : List Ball) (w : World) (hR : Rd w encL 3 s.v l) : Ret Tryz.prog 19 #[s.v] w fun u w' => ((isBalls l = true ∧ ∃ s' : SV, u = .tuple #[s'.v, .int .i64 0] ∧ Fr w w' encI 1 s'.v (dark l)) ∨ (isBalls l = false ∧ u = .tuple #[.slice none 0 0, .int .i64 2])) ∧ Below w.heap.size w w' := by
 have hp : Hp c0 w w [] := Hp.start trivial
 refine enter Tryz.func19 rfl (N := 22) rfl rfl fun a h => ?_
 refine rg ?_
 refine ws2 h rfl rfl rfl rfl fun a h => ?_
 refine wp_seq ?_
 refine rg ?_
 refine wmv h rfl fun a h => ?_
 refine wl (cal h rfl en17 (Balls_e _ _ _ (hR.keep (by decide) hp cl0)) fun u w1 ⟨e1, e2⟩ a h => ?_)
 subst e1
 have hp := hp.below e2
 refine wvl h (nei h rfl rfl) fun a h => ?_
 refine wn ?_
 refine cnd1 h rfl (fun hb1 => ?_) (fun hb1 => ?_)
 ·have hok : isBalls l = false := by cases hq : isBalls l with | false => rfl | true => rw [hq] at hb1; exact absurd hb1 (by decide)
  refine rg ?_
  refine ws2 h rfl rfl rfl rfl fun a h => ?_
  refine wp_ret ?_
  try simp only [xqs]
  refine rt_2 h rfl (rvT h rfl) (rvT h rfl) ?_
  exact ⟨_, rfl, .inr ⟨hok, rfl⟩, hp.bel⟩
 have hok : isBalls l = true := by cases hq : isBalls l with | true => rfl | false => rw [hq] at hb1; exact absurd hb1 (by decide)
 have hbd := balls_bd hok
 have hln := balls_len hok
 refine skp ?_
 refine rg ?_
 refine wsn h rfl fun a h => ?_
 refine wp_seq ?_
 refine rg ?_
 refine wmv h rfl fun a h => ?_
 refine wvl h (lenR h rfl Tryz.underlying37 (hR.keep (by decide) hp cl0)) fun a h => ?_
 refine wmv h rfl fun a h => ?_
 refine wn ?_
 have hp := hp.nilB 39 1
 refine lp1 h [0, 2, 3, 8, 10] (fun n f w' => ∃ k : Nat, ∃ s1 : SV, k ≤ l.length ∧ n = l.length - k ∧ f = [(11, .int .i64 k), (4, s1.v)] ∧ Hp c0 w w' ([.buf 39 1 s1.v k (((List.range k).map (darkest l)).flatMap encI)]) ∧ True) (l.length) [(11, .int .i64 ((0 : Nat) : Int)), (4, .slice none 0 0)] ⟨rfl, rfl, rfl, rfl, rfl, rfl, rfl, trivial⟩ ⟨0, ⟨none, 0, 0⟩, Nat.zero_le _, rfl, rfl, hp, trivial⟩ ?_
 rintro n f a w2 ⟨k, s1, hk, rfl, rfl, hp, _⟩ h
 have hfit := hR.fits
 refine rg ?_
 refine wvl h (lss h rfl rfl) fun a h => ?_
 refine wn ?_
 refine cnd h rfl (fun hb2 => ?_) (fun hb2 => ?_)
 ·have hlt : k < l.length := by have := of_decide_eq_true hb2; omega
  obtain ⟨y, hy⟩ : ∃ y, l[k]? = some y := ⟨_, List.getElem?_eq_getElem hlt⟩
  refine skp ?_
  refine blk ?_
  refine rg ?_
  refine wmv h rfl fun a h => ?_
  refine wsn h rfl fun a h => ?_
  refine rg1 ?_
  refine wm3 h rfl rfl rfl rfl rfl rfl fun a h => ?_
  refine wl (cal h rfl en57 (darkest_e _ _ _ _ (hR.keep (by decide) hp cl0) hbd (by omega)) fun u w3 ⟨e1, e2⟩ a h => ?_)
  subst e1
  have hp := hp.below e2
  refine wl (bsl h hp rfl (bs42_1_0 _) fun a w4 g1 hg1 h hp => ?_)
  refine wl (app1 0 h hp rfl rfl rfl ap42 1 rfl rfl rfl (by omega) (by omega) fun a w5 v h hp => ?_)
  refine wsg h rfl fun a h => ?_
  refine wn' ?_
  try simp only [xqs, ↓reduceIte, Nat.reduceEqDiff]
  refine rg1 ?_
  refine wvl h (add h rfl rfl (by omega)) fun a h => ?_
  refine wmv h rfl fun a h => ?_
  refine wn ?_
  exact ⟨_, _, (by omega), ⟨k + 1, _, by omega, rfl, rfl, hp.pre 1 (by simp [List.range_succ, encI]), trivial⟩, h.sub ⟨rfl, rfl, rfl, rfl, rfl, rfl, rfl, trivial⟩⟩
 have hend : k = l.length := by have := of_decide_eq_false hb2; omega
 subst hend
 refine wp_exit ?_
 try simp only [xqs, ↓reduceIte, Nat.reduceEqDiff]
 refine rg ?_
 refine wmv h rfl fun a h => ?_
 refine ws2 h rfl rfl rfl rfl fun a h => ?_
 refine wp_ret ?_
 try simp only [xqs]
 refine rt_2 h rfl (rvT h rfl) (rvT h rfl) ?_
 exact ⟨_, rfl, .inl ⟨hok, _, rfl, hp.frB (i := 0) rfl rfl (by simp [dark]) (fun _ _ => rfl)⟩, hp.bel⟩
end Go.Proofs.Ec
