import Derived.Test.YtobofnkmbpfoiaaGreatDoorProg
import Derived.Test.YtobofnkmbpfoiaaGreatDoorPFa
import Derived.Test.YtobofnkmbpfoiaaGreatDoorPQb
import Derived.Test.YtobofnkmbpfoiaaGreatDoorPW24
import Derived.Test.YtobofnkmbpfoiaaGreatDoorPQc
set_option linter.unusedVariables false
set_option linter.unusedSimpArgs false
set_option maxRecDepth 4000
namespace Go.Proofs.Ec
open Go.RowKit Go.Proofs.Sx
open Ecl
theorem Beside_R (s : SV) (l : List Ecl.Mark) (m : Ecl.Mark) (lt : Int) (w : World) (hR : Rd w encM 3 s.v l) (hb : (∀ y ∈ l, -20000 ≤ y.day ∧ y.day ≤ 20000)) (hm : -20000 ≤ m.day ∧ m.day ≤ 20000) : Ret Tryz.prog 105 #[s.v, .agg #[.int .i64 m.day, .bool m.full, .int .i64 m.far], .int .i64 lt] w fun u w' => u = .bool (beside l m lt) ∧ Below w.heap.size w w' := by
 have hp : Hp c0 w w [] := Hp.start trivial
 refine enter Tryz.func105 rfl (N := 43) rfl rfl fun a h => ?_
 refine rg ?_
 refine wl (box (cs := #[_, _, _]) h hp rfl rfl fun a w1 g1 hg1 h hp => ?_)
 refine wsn h rfl fun a h => ?_
 refine wp_seq ?_
 refine rg ?_
 refine wsn h rfl fun a h => ?_
 refine lp1 h [0, 2, 4] (fun n f w' => ∃ k : Nat, k ≤ l.length ∧ n = l.length - k ∧ f = [(7, .int .i64 k)] ∧ Hp c0 w w' ([.blk g1 (.cells #[.int .i64 m.day, .bool m.full, .int .i64 m.far] 59 (0, 0))]) ∧ (l.take k).any (bsM m lt) = false) (l.length) [(7, .int .i64 ((0 : Nat) : Int))] ⟨rfl, rfl, rfl, rfl, trivial⟩ ⟨0, Nat.zero_le _, rfl, rfl, hp, rfl⟩ ?_
 rintro n f a w2 ⟨k, hk, rfl, rfl, hp, hI⟩ h
 have hfit := hR.fits
 refine wp_seq ?_
 refine rg ?_
 refine wm2 h rfl rfl rfl rfl fun a h => ?_
 refine wvl h (lenR h rfl Tryz.underlying50 (hR.keep (by decide) hp cl0)) fun a h => ?_
 refine wvl h (lss h rfl rfl) fun a h => ?_
 refine wn ?_
 refine cnd1 h rfl (fun hb1 => ?_) (fun hb1 => ?_)
 ·have hlt : k < l.length := by have := of_decide_eq_true hb1; omega
  obtain ⟨y, hy⟩ : ∃ y, l[k]? = some y := ⟨_, List.getElem?_eq_getElem hlt⟩
  have hyb := hb y (List.mem_of_getElem? hy)
  refine skp ?_
  refine blk ?_
  refine rdh (n := 29) hp mixed rfl ?_
  have hp := hp.drew
  refine tkm 0 h rfl hp rfl fun a h => ?_
  refine tkm 1 h rfl hp rfl fun a h => ?_
  refine tkq 2 h rfl hp (fun W hp => iadR (k) h rfl rfl Tryz.underlying50 sz59 (hR.keep (by decide) hp cl0) (rfl) (hlt)) fun a h => ?_
  refine tkq 3 h rfl hp (fun W _ => fad h rfl fo59_1) fun a h => ?_
  refine tkq 4 h rfl hp (fun W hp => ldF 1 h (hR.keep (by decide) hp cl0) hy rfl ag4 rfl) fun a h => ?_
  refine tkq 5 h rfl hp (fun W _ => fad h rfl fo59_1) fun a h => ?_
  refine tkq 6 h rfl hp (fun W hp => ldo h hp rfl 0 rfl rfl ag4) fun a h => ?_
  refine tkq 7 h rfl hp (fun W _ => eqb h rfl rfl Tryz.underlying4) fun a h => ?_
  refine tkm 8 h rfl hp rfl fun a h => ?_
  refine split (t := 22) h rfl (fun hb2 => ?_) (fun hb2 => ?_)
  ·have hkd : (y.full == m.full) = true := hb2
   refine tk_on 9 h rfl (by kernel_rfl) (fun _ _ _ q => q) hp rfl rfl rfl rfl rfl hb2 (fun W _ => mov h rfl) fun a h => ?_
   refine tk_on 10 h rfl (by kernel_rfl) (fun _ _ _ q => q) hp rfl rfl rfl rfl rfl hb2 (fun W _ => mov h rfl) fun a h => ?_
   refine tk_on 11 h rfl (by kernel_rfl) (fun _ _ _ q => q) hp rfl rfl rfl rfl rfl hb2 (fun W hp => iadR (k) h rfl rfl Tryz.underlying50 sz59 (hR.keep (by decide) hp cl0) (rfl) (hlt)) fun a h => ?_
   refine tk_on 12 h rfl (by kernel_rfl) (fun _ _ _ q => q) hp rfl rfl rfl rfl rfl hb2 (fun W _ => fad h rfl fo59_0) fun a h => ?_
   refine tk_on 13 h rfl (by kernel_rfl) (fun _ _ _ q => q) hp rfl rfl rfl rfl rfl hb2 (fun W hp => ldF 0 h (hR.keep (by decide) hp cl0) hy rfl ag3 rfl) fun a h => ?_
   refine tk_on 14 h rfl (by kernel_rfl) (fun _ _ _ q => q) hp rfl rfl rfl rfl rfl hb2 (fun W _ => fad h rfl fo59_0) fun a h => ?_
   refine tk_on 15 h rfl (by kernel_rfl) (fun _ _ _ q => q) hp rfl rfl rfl rfl rfl hb2 (fun W hp => ldo h hp rfl 0 rfl rfl ag3) fun a h => ?_
   refine tk_on 16 h rfl (by kernel_rfl) (fun _ _ _ q => q) hp rfl rfl rfl rfl rfl hb2 (fun W _ => sub h rfl rfl (by omega)) fun a h => ?_
   refine tk_on 17 h rfl (by kernel_rfl) (fun _ _ _ q => q) hp rfl rfl rfl rfl rfl hb2 (fun W _ => fad h rfl fo59_0) fun a h => ?_
   refine tk_on 18 h rfl (by kernel_rfl) (fun _ _ _ q => q) hp rfl rfl rfl rfl rfl hb2 (fun W hp => ldo h hp rfl 0 rfl rfl ag3) fun a h => ?_
   refine tk_on 19 h rfl (by kernel_rfl) (fun _ _ _ q => q) hp rfl rfl rfl rfl rfl hb2 (fun W _ => mov h rfl) fun a h => ?_
   refine tk_on 20 h rfl (by kernel_rfl) (fun _ _ _ q => q) hp rfl rfl rfl rfl rfl hb2 (fun W _ => mov h rfl) fun a h => ?_
   refine tk_on 21 h rfl (by kernel_rfl) (fun _ _ _ q => q) hp rfl rfl rfl rfl rfl hb2 (fun W hp => iadR (k) h rfl rfl Tryz.underlying50 sz59 (hR.keep (by decide) hp cl0) (rfl) (hlt)) fun a h => ?_
   refine tk_on 22 h rfl (by kernel_rfl) (fun _ _ _ q => q) hp rfl rfl rfl rfl rfl hb2 (fun W _ => fad h rfl fo59_0) fun a h => ?_
   refine tk_on 23 h rfl (by kernel_rfl) (fun _ _ _ q => q) hp rfl rfl rfl rfl rfl hb2 (fun W hp => ldF 0 h (hR.keep (by decide) hp cl0) hy rfl ag3 rfl) fun a h => ?_
   refine tk_on 24 h rfl (by kernel_rfl) (fun _ _ _ q => q) hp rfl rfl rfl rfl rfl hb2 (fun W _ => sub h rfl rfl (by omega)) fun a h => ?_
   refine tk_on 25 h rfl (by kernel_rfl) (fun _ _ _ q => q) hp rfl rfl rfl rfl rfl hb2 (fun W _ => max_ h rfl rfl) fun a h => ?_
   refine tk_on 26 h rfl (by kernel_rfl) (fun _ _ _ q => q) hp rfl rfl rfl rfl rfl hb2 (fun W _ => mov h rfl) fun a h => ?_
   refine tk_on 27 h rfl (by kernel_rfl) (fun _ _ _ q => q) hp rfl rfl rfl rfl rfl hb2 (fun W _ => leq h rfl rfl) fun a h => ?_
   refine tkq 28 h rfl hp (fun W _ => pckT h rfl hb2 rfl) fun a h => ?_
   refine dn (by kernel_rfl) ?_
   refine cnd1 h rfl (fun hb3 => ?_) (fun hb3 => ?_)
   ·have hno : bsM m lt y = true := by rw [bsM, hkd, Bool.true_and]; exact hb3
    refine rg ?_
    refine wsn h rfl fun a h => ?_
    refine wp_ret ?_
    try simp only [xqs]
    refine rt_1 h rfl (rvT h rfl) ?_
    exact ⟨_, rfl, by rw [← beside_ref, any_at hy hno], hp.bel⟩
   have hno : bsM m lt y = false := by rw [bsM, hkd, Bool.true_and]; exact hb3
   refine wp_skip ?_
   refine rg1 ?_
   refine wmv h rfl fun a h => ?_
   refine wvl h (add h rfl rfl (by omega)) fun a h => ?_
   refine wsn h rfl fun a h => ?_
   exact ⟨_, _, (by omega), ⟨k + 1, by omega, rfl, rfl, hp, by rw [take_snoc hy, List.any_append, hI, Bool.false_or]; simpa using hno⟩, h.sub ⟨rfl, rfl, rfl, rfl, trivial⟩⟩
  have hkd : (y.full == m.full) = false := hb2
  have hno : bsM m lt y = false := by rw [bsM, hkd]; rfl
  refine tkG 9 h rfl hp rfl rfl rfl hb2 fun a h => ?_
  refine tkG 10 h rfl hp rfl rfl rfl hb2 fun a h => ?_
  refine tkG 11 h rfl hp rfl rfl rfl hb2 fun a h => ?_
  refine tkG 12 h rfl hp rfl rfl rfl hb2 fun a h => ?_
  refine tkG 13 h rfl hp rfl rfl rfl hb2 fun a h => ?_
  refine tkG 14 h rfl hp rfl rfl rfl hb2 fun a h => ?_
  refine tkG 15 h rfl hp rfl rfl rfl hb2 fun a h => ?_
  refine tkG 16 h rfl hp rfl rfl rfl hb2 fun a h => ?_
  refine tkG 17 h rfl hp rfl rfl rfl hb2 fun a h => ?_
  refine tkG 18 h rfl hp rfl rfl rfl hb2 fun a h => ?_
  refine tkG 19 h rfl hp rfl rfl rfl hb2 fun a h => ?_
  refine tkG 20 h rfl hp rfl rfl rfl hb2 fun a h => ?_
  refine tkG 21 h rfl hp rfl rfl rfl hb2 fun a h => ?_
  refine tkG 22 h rfl hp rfl rfl rfl hb2 fun a h => ?_
  refine tkG 23 h rfl hp rfl rfl rfl hb2 fun a h => ?_
  refine tkG 24 h rfl hp rfl rfl rfl hb2 fun a h => ?_
  refine tkG 25 h rfl hp rfl rfl rfl hb2 fun a h => ?_
  refine tkG 26 h rfl hp rfl rfl rfl hb2 fun a h => ?_
  refine tkG 27 h rfl hp rfl rfl rfl hb2 fun a h => ?_
  refine tkq 28 h rfl hp (fun W _ => pckF h rfl hb2 rfl) fun a h => ?_
  refine dn (by kernel_rfl) ?_
  refine cnd1 h rfl (fun e => nomatch e) (fun _ => ?_)
  refine wp_skip ?_
  refine rg1 ?_
  refine wmv h rfl fun a h => ?_
  refine wvl h (add h rfl rfl (by omega)) fun a h => ?_
  refine wsn h rfl fun a h => ?_
  exact ⟨_, _, (by omega), ⟨k + 1, by omega, rfl, rfl, hp, by rw [take_snoc hy, List.any_append, hI, Bool.false_or]; simpa using hno⟩, h.sub ⟨rfl, rfl, rfl, rfl, trivial⟩⟩
 have hend : k = l.length := by have := of_decide_eq_false hb1; omega
 subst hend
 rw [List.take_length] at hI
 refine wp_exit ?_
 try simp only [xqs, ↓reduceIte, Nat.reduceEqDiff]
 refine rg ?_
 refine wsn h rfl fun a h => ?_
 refine wp_ret ?_
 try simp only [xqs]
 refine rt_1 h rfl (rvT h rfl) ?_
 exact ⟨_, rfl, by rw [← beside_ref]; exact congrArg Value.bool hI.symm, hp.bel⟩
theorem without_R (s so : SV) (l o : List Ecl.Mark) (lt : Int) (w : World) (hR : Rd w encM 3 s.v l) (hO : Rd w encM 3 so.v o) (hb : (∀ y ∈ l, -20000 ≤ y.day ∧ y.day ≤ 20000)) (hbo : (∀ y ∈ o, -20000 ≤ y.day ∧ y.day ≤ 20000)) (hln : l.length ≤ 5000) : Ret Tryz.prog 85 #[s.v, so.v, .int .i64 lt] w fun u w' => (∃ s' : SV, u = s'.v ∧ Fr w w' encM 3 s'.v (l.filter (fun x => !beside o x lt))) ∧ Below w.heap.size w w' := by
 have hp : Hp c0 w w [] := Hp.start trivial
 refine enter Tryz.func85 rfl (N := 31) rfl rfl fun a h => ?_
 refine rg ?_
 refine wsn h rfl fun a h => ?_
 refine rg ?_
 refine wsn h rfl fun a h => ?_
 refine wp_seq ?_
 refine rg ?_
 refine wsn h rfl fun a h => ?_
 have hp := hp.nilB 59 3
 refine lp1 h [0, 1, 2, 6] (fun n f w' => ∃ k : Nat, ∃ s1 : SV, k ≤ l.length ∧ n = l.length - k ∧ f = [(8, .int .i64 k), (7, s1.v)] ∧ Hp c0 w w' ([.buf 59 3 s1.v ((l.take k).filter (fun x => !beside o x lt)).length (((l.take k).filter (fun x => !beside o x lt)).flatMap encM)]) ∧ True) (l.length) [(8, .int .i64 ((0 : Nat) : Int)), (7, .slice none 0 0)] ⟨rfl, rfl, rfl, rfl, rfl, rfl, trivial⟩ ⟨0, ⟨none, 0, 0⟩, Nat.zero_le _, rfl, rfl, hp, trivial⟩ ?_
 rintro n f a w1 ⟨k, s1, hk, rfl, rfl, hp, _⟩ h
 have hfit := hR.fits
 refine wp_seq ?_
 refine rg ?_
 refine wm2 h rfl rfl rfl rfl fun a h => ?_
 refine wvl h (lenR h rfl Tryz.underlying50 (hR.keep (by decide) hp cl0)) fun a h => ?_
 refine wvl h (lss h rfl rfl) fun a h => ?_
 refine wn ?_
 refine cnd1 h rfl (fun hb1 => ?_) (fun hb1 => ?_)
 ·have hlt : k < l.length := by have := of_decide_eq_true hb1; omega
  obtain ⟨y, hy⟩ : ∃ y, l[k]? = some y := ⟨_, List.getElem?_eq_getElem hlt⟩
  have hyb := hb y (List.mem_of_getElem? hy)
  have hfl := filter_take_len (p := (fun x => !beside o x lt)) l k
  refine skp ?_
  refine blk ?_
  refine rg ?_
  refine wm3 h rfl rfl rfl rfl rfl rfl fun a h => ?_
  refine wvl h (iadR (k) h rfl rfl Tryz.underlying50 sz59 (hR.keep (by decide) hp cl0) (rfl) (hlt)) fun a h => ?_
  refine wvl h (ldE h (hR.keep (by decide) hp cl0) hy rfl ag59 sz59) fun a h => ?_
  refine wmv h rfl fun a h => ?_
  refine wl (cal h rfl en105 (Beside_R so o y lt _ (hO.keep (by decide) hp cl0) hbo hyb) fun u w2 ⟨e1, e2⟩ a h => ?_)
  subst e1
  have hp := hp.below e2
  refine wvl h (not_ h rfl) fun a h => ?_
  refine wn ?_
  refine cnd1 h rfl (fun hb2 => ?_) (fun hb2 => ?_)
  ·have hbs : beside o y lt = false := by simpa using hb2
   refine rg1 ?_
   refine wm3 h rfl rfl rfl rfl rfl rfl fun a h => ?_
   refine wvl h (iadR (k) h rfl rfl Tryz.underlying50 sz59 (hR.keep (by decide) hp cl0) (rfl) (hlt)) fun a h => ?_
   refine wvl h (ldE h (hR.keep (by decide) hp cl0) hy rfl ag59 sz59) fun a h => ?_
   refine wl (bsl h hp rfl (bs50_1_0 _ _ _) fun a w3 g1 hg1 h hp => ?_)
   refine wl (app1 0 h hp rfl rfl rfl ap50 1 rfl rfl rfl (by omega) (by omega) fun a w4 v h hp => ?_)
   refine wsg h rfl fun a h => ?_
   refine wn' ?_
   try simp only [xqs, ↓reduceIte, Nat.reduceEqDiff]
   refine rg1 ?_
   refine wmv h rfl fun a h => ?_
   refine wvl h (add h rfl rfl (by omega)) fun a h => ?_
   refine wsn h rfl fun a h => ?_
   exact ⟨_, _, (by omega), ⟨k + 1, _, by omega, rfl, rfl, hp.pre 1 (by simp [filter_snoc hy, hbs, encM]), trivial⟩, h.sub ⟨rfl, rfl, rfl, rfl, rfl, rfl, trivial⟩⟩
  have hbs : beside o y lt = true := by simpa using hb2
  refine wp_skip ?_
  refine rg1 ?_
  refine wmv h rfl fun a h => ?_
  refine wvl h (add h rfl rfl (by omega)) fun a h => ?_
  refine wsn h rfl fun a h => ?_
  exact ⟨_, _, (by omega), ⟨k + 1, _, by omega, rfl, rfl, hp.pre 1 (by simp [filter_snoc hy, hbs, encM]), trivial⟩, h.sub ⟨rfl, rfl, rfl, rfl, rfl, rfl, trivial⟩⟩
 have hend : k = l.length := by have := of_decide_eq_false hb1; omega
 subst hend
 rw [List.take_length] at hp
 refine wp_exit ?_
 try simp only [xqs, ↓reduceIte, Nat.reduceEqDiff]
 refine rg ?_
 refine wmv h rfl fun a h => ?_
 refine wsn h rfl fun a h => ?_
 refine wp_ret ?_
 try simp only [xqs]
 refine rt_1 h rfl (rvT h rfl) ?_
 exact ⟨_, rfl, ⟨s1, rfl, hp.frB (i := 0) rfl rfl rfl (fun _ _ => rfl)⟩, hp.bel⟩
theorem Missed_R (x : EV) (e : Eng) (s2 : SV) (st : List Int) (d1 d2 lt : Int) (w : World) (hE0 : RdE w x e s2 st) (hab : 1 ≤ d1 ∧ d2 ≤ 9000 ∧ d2 - d1 ≤ 400 ∧ d1 ≤ d2) (hl : 0 ≤ lt ∧ lt ≤ 30) : Ret Tryz.prog 41 #[.agg #[x.b.v, .int .i64 e.nnum, .int .i64 e.nden, .int .i64 e.nstart, x.s.v, x.m.v, x.n.v, x.f.v, .int .i64 e.new, .int .i64 e.full, .int .i64 e.wide], s2.v, .int .i64 d1, .int .i64 d2, .int .i64 lt] w fun u w' => (∃ s : SV, u = s.v ∧ Fr w w' encM 3 s.v (missed e st d1 d2 lt)) ∧ Below w.heap.size w w' := by
 have ok := eng_ok hE0.ok
 have hsl := sky_len e (a := d1) (b := d2) (n := 400) (by omega)
 have hp : Hp c0 w w [] := Hp.start trivial
 refine enter Tryz.func41 rfl (N := 27) rfl rfl fun a h => ?_
 refine rg ?_
 refine wl (box (cs := #[_, _, _, _, _, _, _, _, _, _, _]) h hp rfl rfl fun a w1 g1 hg1 h hp => ?_)
 refine wsn h rfl fun a h => ?_
 refine rdh (n := 17) hp mixed rfl ?_
 have hp := hp.drew
 refine tkq 0 h rfl hp (fun W hp => ldO (us := [_, _, _, _, _, _, _, _, _, _, _]) h hp rfl 0 rfl sz32 rfl ag32) fun a h => ?_
 refine tkm 1 h rfl hp rfl fun a h => ?_
 refine tkm 2 h rfl hp rfl fun a h => ?_
 refine tkq 4 h rfl hp (fun W hp => ldO (us := [_, _, _, _, _, _, _, _, _, _, _]) h hp rfl 0 rfl sz32 rfl ag32) fun a h => ?_
 refine tkm 5 h rfl hp rfl fun a h => ?_
 refine tkm 6 h rfl hp rfl fun a h => ?_
 refine tkm 7 h rfl hp rfl fun a h => ?_
 refine tkq 8 h rfl hp (fun W _ => sub h rfl rfl (by omega)) fun a h => ?_
 refine tkq 9 h rfl hp (fun W _ => max_ h rfl rfl) fun a h => ?_
 refine tkm 10 h rfl hp rfl fun a h => ?_
 refine tkm 11 h rfl hp rfl fun a h => ?_
 refine tkq 12 h rfl hp (fun W _ => add h rfl rfl (by omega)) fun a h => ?_
 refine tkm 14 h rfl hp rfl fun a h => ?_
 refine one 3 (by kernel_rfl) rfl (cal h rfl en84 (Sky_R x e _ _ _ (hE0.keep hp cl0).g ok.sky (by omega)) fun u w2 ⟨⟨s21, e1, hf⟩, e2⟩ a h => ⟨((hp.below e2).pre 1 rfl), ?_⟩)
 subst e1
 have hp := hp.got (hp.below e2) (by decide) hf
 refine one 13 (by kernel_rfl) rfl (cal h rfl en28 (Foretells_R x e s2 st _ _ _ (hE0.keep hp cl0) (by omega)) fun u w3 ⟨⟨s22, e1, hf⟩, e2⟩ a h => ⟨((hp.below e2).pre 1 rfl), ?_⟩)
 subst e1
 have hp := hp.got (hp.below e2) (by decide) hf
 refine one 15 (by kernel_rfl) rfl (cal h rfl en85 (without_R _ _ (skyAll e d1 d2) (tellAll e st (max 1 (d1 - lt)) (d2 + lt)) lt _ (hp.rdF (i := 1) rfl) (hp.rdF (i := 2) rfl) (fun y hy => by have := skyAll_mem hy; omega) (fun y hy => by have := tellAll_mem hy; omega) (by omega)) fun u w4 ⟨⟨s23, e1, hf⟩, e2⟩ a h => ⟨((hp.below e2).pre 1 rfl), ?_⟩)
 subst e1
 have hp := hp.got (hp.below e2) (by decide) hf
 refine tka 16 h rfl ((hp).pre 1 rfl) rfl fun a h => ?_
 refine dn (by kernel_rfl) ?_
 refine wp_ret ?_
 try simp only [xqs]
 refine rt_1 h rfl (rvT h rfl) ?_
 exact ⟨_, rfl, ⟨_, rfl, missed_ref ▸ hp.frR (i := 3) rfl⟩, hp.bel⟩
theorem Empty_R (x : EV) (e : Eng) (s2 : SV) (st : List Int) (d1 d2 lt : Int) (w : World) (hE0 : RdE w x e s2 st) (hab : 1 ≤ d1 ∧ d2 ≤ 9000 ∧ d2 - d1 ≤ 400 ∧ d1 ≤ d2) (hl : 0 ≤ lt ∧ lt ≤ 30) : Ret Tryz.prog 42 #[.agg #[x.b.v, .int .i64 e.nnum, .int .i64 e.nden, .int .i64 e.nstart, x.s.v, x.m.v, x.n.v, x.f.v, .int .i64 e.new, .int .i64 e.full, .int .i64 e.wide], s2.v, .int .i64 d1, .int .i64 d2, .int .i64 lt] w fun u w' => (∃ s : SV, u = s.v ∧ Fr w w' encM 3 s.v (empties e st d1 d2 lt)) ∧ Below w.heap.size w w' := by
 have ok := eng_ok hE0.ok
 have htl := tell_len e st (a := d1) (b := d2) (n := 400) (by omega)
 have hp : Hp c0 w w [] := Hp.start trivial
 refine enter Tryz.func42 rfl (N := 27) rfl rfl fun a h => ?_
 refine rg ?_
 refine wl (box (cs := #[_, _, _, _, _, _, _, _, _, _, _]) h hp rfl rfl fun a w1 g1 hg1 h hp => ?_)
 refine wsn h rfl fun a h => ?_
 refine rdh (n := 17) hp mixed rfl ?_
 have hp := hp.drew
 refine tkq 0 h rfl hp (fun W hp => ldO (us := [_, _, _, _, _, _, _, _, _, _, _]) h hp rfl 0 rfl sz32 rfl ag32) fun a h => ?_
 refine tkm 1 h rfl hp rfl fun a h => ?_
 refine tkm 2 h rfl hp rfl fun a h => ?_
 refine tkm 3 h rfl hp rfl fun a h => ?_
 refine tkq 5 h rfl hp (fun W hp => ldO (us := [_, _, _, _, _, _, _, _, _, _, _]) h hp rfl 0 rfl sz32 rfl ag32) fun a h => ?_
 refine tkm 6 h rfl hp rfl fun a h => ?_
 refine tkm 7 h rfl hp rfl fun a h => ?_
 refine tkq 8 h rfl hp (fun W _ => sub h rfl rfl (by omega)) fun a h => ?_
 refine tkq 9 h rfl hp (fun W _ => max_ h rfl rfl) fun a h => ?_
 refine tkm 10 h rfl hp rfl fun a h => ?_
 refine tkm 11 h rfl hp rfl fun a h => ?_
 refine tkq 12 h rfl hp (fun W _ => add h rfl rfl (by omega)) fun a h => ?_
 refine tkm 14 h rfl hp rfl fun a h => ?_
 refine one 4 (by kernel_rfl) rfl (cal h rfl en28 (Foretells_R x e s2 st _ _ _ (hE0.keep hp cl0) (by omega)) fun u w2 ⟨⟨s21, e1, hf⟩, e2⟩ a h => ⟨((hp.below e2).pre 1 rfl), ?_⟩)
 subst e1
 have hp := hp.got (hp.below e2) (by decide) hf
 refine one 13 (by kernel_rfl) rfl (cal h rfl en84 (Sky_R x e _ _ _ (hE0.keep hp cl0).g ok.sky (by omega)) fun u w3 ⟨⟨s22, e1, hf⟩, e2⟩ a h => ⟨((hp.below e2).pre 1 rfl), ?_⟩)
 subst e1
 have hp := hp.got (hp.below e2) (by decide) hf
 refine one 15 (by kernel_rfl) rfl (cal h rfl en85 (without_R _ _ (tellAll e st d1 d2) (skyAll e (max 1 (d1 - lt)) (d2 + lt)) lt _ (hp.rdF (i := 1) rfl) (hp.rdF (i := 2) rfl) (fun y hy => by have := tellAll_mem hy; omega) (fun y hy => by have := skyAll_mem hy; omega) (by omega)) fun u w4 ⟨⟨s23, e1, hf⟩, e2⟩ a h => ⟨((hp.below e2).pre 1 rfl), ?_⟩)
 subst e1
 have hp := hp.got (hp.below e2) (by decide) hf
 refine tka 16 h rfl ((hp).pre 1 rfl) rfl fun a h => ?_
 refine dn (by kernel_rfl) ?_
 refine wp_ret ?_
 try simp only [xqs]
 refine rt_1 h rfl (rvT h rfl) ?_
 exact ⟨_, rfl, ⟨_, rfl, hp.frR (i := 3) rfl⟩, hp.bel⟩
end Go.Proofs.Ec
