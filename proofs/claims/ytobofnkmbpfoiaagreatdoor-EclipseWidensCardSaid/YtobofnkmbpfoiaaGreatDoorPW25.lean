import Derived.Test.YtobofnkmbpfoiaaGreatDoorProg
import Derived.Test.YtobofnkmbpfoiaaGreatDoorPFa
import Derived.Test.YtobofnkmbpfoiaaGreatDoorPQb
import Derived.Test.YtobofnkmbpfoiaaGreatDoorPW24
import Derived.Test.YtobofnkmbpfoiaaGreatDoorPQc
set_option linter.unusedVariables false
set_option linter.unusedSimpArgs false
set_option maxRecDepth 4000
namespace Go.Proofs.Ec
open Go.RowKit Go.Proofs.Sx
open Ecl
theorem Beside_R (s : SV) (l : List Ecl.Mark) (m : Ecl.Mark) (lt : Int) (w : World) (hR : Rd w encM 3 s.v l) (hb : (∀ y ∈ l, -20000 ≤ y.day ∧ y.day ≤ 20000)) (hm : -20000 ≤ m.day ∧ m.day ≤ 20000) : Ret Tryz.prog 105 #[s.v, .agg #[.int .i64 m.day, .bool m.full, .int .i64 m.far], .int .i64 lt] w fun u w' => u = .bool (beside l m lt) ∧ Below w.heap.size w w' := by
 have hp : Hp c0 w w [] := Hp.start trivial
 refine enter Tryz.func105 rfl (N := 43) rfl rfl fun a h => ?_
 refine rg ?_
 refine wl (box (cs := #[_, _, _]) h hp rfl rfl fun a w1 g1 hg1 h hp => ?_)
 refine wsn h rfl fun a h => ?_
 refine wp_seq ?_
 refine rg ?_
 refine wsn h rfl fun a h => ?_
 refine lp1 h [0, 2, 4] (fun n f w' => ∃ k : Nat, k ≤ l.length ∧ n = l.length - k ∧ f = [(7, .int .i64 k)] ∧ Hp c0 w w' ([.blk g1 (.cells #[.int .i64 m.day, .bool m.full, .int .i64 m.far] 59 (0, 0))]) ∧ (l.take k).any (bsM m lt) = false) (l.length) [(7, .int .i64 ((0 : Nat) : Int))] ⟨rfl, rfl, rfl, rfl, trivial⟩ ⟨0, Nat.zero_le _, rfl, rfl, hp, rfl⟩ ?_
 rintro n f a w2 ⟨k, hk, rfl, rfl, hp, hI⟩ h
 have hfit := hR.fits
 refine wp_seq ?_
 refine rg ?_
 refine wm2 h rfl rfl rfl rfl fun a h => ?_
 refine wvl h (lenR h rfl Tryz.underlying50 (hR.keep (by decide) hp cl0)) fun a h => ?_
 refine wvl h (lss h rfl rfl) fun a h => ?_
 refine wn ?_
 refine cnd1 h rfl (fun hb1 => ?_) (fun hb1 => ?_)
 ·have hlt : k < l.length := by have := of_decide_eq_true hb1; omega
  obtain ⟨y, hy⟩ : ∃ y, l[k]? = some y := ⟨_, List.getElem?_eq_getElem hlt⟩
  have hyb := hb y (List.mem_of_getElem? hy)
  refine skp ?_
  refine blk ?_
  refine rdh (n := 29) hp mixed rfl ?_
  have hp := hp.drew
  refine tkm 0 h rfl hp rfl fun a h => ?_
  refine tkm 1 h rfl hp rfl fun a h => ?_
  refine tkq 2 h rfl hp (fun W hp => iadR (k) h rfl rfl Tryz.underlying50 sz59 (hR.keep (by decide) hp cl0) (rfl) (hlt)) fun a h => ?_
  refine tkq 3 h rfl hp (fun W _ => fad h rfl fo59_1) fun a h => ?_
  refine tkq 4 h rfl hp (fun W hp => ldF 1 h (hR.keep (by decide) hp cl0) hy rfl ag4 rfl) fun a h => ?_
  refine tkq 5 h rfl hp (fun W _ => fad h rfl fo59_1) fun a h => ?_
  refine tkq 6 h rfl hp (fun W hp => ldo h hp rfl 0 rfl rfl ag4) fun a h => ?_
  refine tkq 7 h rfl hp (fun W _ => eqb h rfl rfl Tryz.underlying4) fun a h => ?_
  refine tkm 8 h rfl hp rfl fun a h => ?_
  refine split (t := 22) h rfl (fun hb2 => ?_) (fun hb2 => ?_)
  ·have hkd : (y.full == m.full) = true := hb2
   refine tk_on 9 h rfl (by kernel_rfl) (fun _ _ _ q => q) hp rfl rfl rfl rfl rfl hb2 (fun W _ => mov h rfl) fun a h => ?_
   refine tk_on 10 h rfl (by kernel_rfl) (fun _ _ _ q => q) hp rfl rfl rfl rfl rfl hb2 (fun W _ => mov h rfl) fun a h => ?_
   refine tk_on 11 h rfl (by kernel_rfl) (fun _ _ _ q => q) hp rfl rfl rfl rfl rfl hb2 (fun W hp => iadR (k) h rfl rfl Tryz.underlying50 sz59 (hR.keep (by decide) hp cl0) (rfl) (hlt)) fun a h => ?_
   refine tk_on 12 h rfl (by kernel_rfl) (fun _ _ _ q => q) hp rfl rfl rfl rfl rfl hb2 (fun W _ => fad h rfl fo59_0) fun a h => ?_
   refine tk_on 13 h rfl (by kernel_rfl) (fun _ _ _ q => q) hp rfl rfl rfl rfl rfl hb2 (fun W hp => ldF 0 h (hR.keep (by decide) hp cl0) hy rfl ag3 rfl) fun a h => ?_
   refine tk_on 14 h rfl (by kernel_rfl) (fun _ _ _ q => q) hp rfl rfl rfl rfl rfl hb2 (fun W _ => fad h rfl fo59_0) fun a h => ?_
   refine tk_on 15 h rfl (by kernel_rfl) (fun _ _ _ q => q) hp rfl rfl rfl rfl rfl hb2 (fun W hp => ldo h hp rfl 0 rfl rfl ag3) fun a h => ?_
   refine tk_on 16 h rfl (by kernel_rfl) (fun _ _ _ q => q) hp rfl rfl rfl rfl rfl hb2 (fun W _ => sub h rfl rfl (by omega)) fun a h => ?_
   refine tk_on 17 h rfl (by kernel_rfl) (fun _ _ _ q => q) hp rfl rfl rfl rfl rfl hb2 (fun W _ => fad h rfl fo59_0) fun a h => ?_
   refine tk_on 18 h rfl (by kernel_rfl) (fun _ _ _ q => q) hp rfl rfl rfl rfl rfl hb2 (fun W hp => ldo h hp rfl 0 rfl rfl ag3) fun a h => ?_
   refine tk_on 19 h rfl (by kernel_rfl) (fun _ _ _ q => q) hp rfl rfl rfl rfl rfl hb2 (fun W _ => mov h rfl) fun a h => ?_
   refine tk_on 20 h rfl (by kernel_rfl) (fun _ _ _ q => q) hp rfl rfl rfl rfl rfl hb2 (fun W _ => mov h rfl) fun a h => ?_
   refine tk_on 21 h rfl (by kernel_rfl) (fun _ _ _ q => q) hp rfl rfl rfl rfl rfl hb2 (fun W hp => iadR (k) h rfl rfl Tryz.underlying50 sz59 (hR.keep (by decide) hp cl0) (rfl) (hlt)) fun a h => ?_
   refine tk_on 22 h rfl (by kernel_rfl) (fun _ _ _ q => q) hp rfl rfl rfl rfl rfl hb2 (fun W _ => fad h rfl fo59_0) fun a h => ?_
   refine tk_on 23 h rfl (by kernel_rfl) (fun _ _ _ q => q) hp rfl rfl rfl rfl rfl hb2 (fun W hp => ldF 0 h (hR.keep (by decide) hp cl0) hy rfl ag3 rfl) fun a h => ?_
   refine tk_on 24 h rfl (by kernel_rfl) (fun _ _ _ q => q) hp rfl rfl rfl rfl rfl hb2 (fun W _ => sub h rfl rfl (by omega)) fun a h => ?_
   refine tk_on 25 h rfl (by kernel_rfl) (fun _ _ _ q => q) hp rfl rfl rfl rfl rfl hb2 (fun W _ => max_ h rfl rfl) fun a h => ?_
   refine tk_on 26 h rfl (by kernel_rfl) (fun _ _ _ q => q) hp rfl rfl rfl rfl rfl hb2 (fun W _ => mov h rfl) fun a h => ?_
   refine tk_on 27 h rfl (by kernel_rfl) (fun _ _ _ q => q) hp rfl rfl rfl rfl rfl hb2 (fun W _ => leq h rfl rfl) fun a h => ?_
   refine tkq 28 h rfl hp (fun W _ => pckT h rfl hb2 rfl) fun a h => ?_
   refine dn (by kernel_rfl) ?_
   refine cnd1 h rfl (fun hb3 => ?_) (fun hb3 => ?_)
   ·have hno : bsM m lt y = true := by rw [bsM, hkd, Bool.true_and]; exact hb3
    refine rg ?_
    refine wsn h rfl fun a h => ?_
    refine wp_ret ?_
    try simp only [xqs]
    refine rt_1 h rfl (rvT h rfl) ?_
    exact ⟨_, rfl, by rw [← beside_ref, any_at hy hno], hp.bel⟩
   have hno : bsM m lt y = false := by rw [bsM, hkd, Bool.true_and]; exact hb3
   refine wp_skip ?_
   refine rg1 ?_
   refine wmv h rfl fun a h => ?_
   refine wvl h (add h rfl rfl (by omega)) fun a h => ?_
   refine wsn h rfl fun a h => ?_
   exact ⟨_, _, (by omega), ⟨k + 1, by omega, rfl, rfl, hp, by rw [take_snoc hy, List.any_append, hI, Bool.false_or]; simpa using hno⟩, h.sub ⟨rfl, rfl, rfl, rfl, trivial⟩⟩
  have hkd : (y.full == m.full) = false := hb2
  have hno : bsM m lt y = false := by rw [bsM, hkd]; rfl
  refine tkG 9 h rfl hp rfl rfl rfl hb2 fun a h => ?_
  refine tkG 10 h rfl hp rfl rfl rfl hb2 fun a h => ?_
  refine tkG 11 h rfl hp rfl rfl rfl hb2 fun a h => ?_
  refine tkG 12 h rfl hp rfl rfl rfl hb2 fun a h => ?_
  refine tkG 13 h rfl hp rfl rfl rfl hb2 fun a h => ?_
  refine tkG 14 h rfl hp rfl rfl rfl hb2 fun a h => ?_
  refine tkG 15 h rfl hp rfl rfl rfl hb2 fun a h => ?_
  refine tkG 16 h rfl hp rfl rfl rfl hb2 fun a h => ?_
  refine tkG 17 h rfl hp rfl rfl rfl hb2 fun a h => ?_
  refine tkG 18 h rfl hp rfl rfl rfl hb2 fun a h => ?_
  refine tkG 19 h rfl hp rfl rfl rfl hb2 fun a h => ?_
  refine tkG 20 h rfl hp rfl rfl rfl hb2 fun a h => ?_
  refine tkG 21 h rfl hp rfl rfl rfl hb2 fun a h => ?_
  refine tkG 22 h rfl hp rfl rfl rfl hb2 fun a h => ?_
  refine tkG 23 h rfl hp rfl rfl rfl hb2 fun a h => ?_
  refine tkG 24 h rfl hp rfl rfl rfl hb2 fun a h => ?_
  refine tkG 25 h rfl hp rfl rfl rfl hb2 fun a h => ?_
  refine tkG 26 h rfl hp rfl rfl rfl hb2 fun a h => ?_
  refine tkG 27 h rfl hp rfl rfl rfl hb2 fun a h => ?_
  refine tkq 28 h rfl hp (fun W _ => pckF h rfl hb2 rfl) fun a h => ?_
  refine dn (by kernel_rfl) ?_
  refine cnd1 h rfl (fun e => nomatch e) (fun _ => ?_)
  refine wp_skip ?_
  refine rg1 ?_
  refine wmv h rfl fun a h => ?_
  refine wvl h (add h rfl rfl (by omega)) fun a h => ?_
  refine wsn h rfl fun a h => ?_
  exact ⟨_, _, (by omega), ⟨k + 1, by omega, rfl, rfl, hp, by rw [take_snoc hy, List.any_append, hI, Bool.false_or]; simpa using hno⟩, h.sub ⟨rfl, rfl, rfl, rfl, trivial⟩⟩
 have hend : k = l.length := by have := of_decide_eq_false hb1; omega
 subst hend
 rw [List.take_length] at hI
 refine wp_exit ?_
 try simp only [xqs, ↓reduceIte, Nat.reduceEqDiff]
 refine rg ?_
 refine wsn h rfl fun a h => ?_
 refine wp_ret ?_
 try simp only [xqs]
 refine rt_1 h rfl (rvT h rfl) ?_
 exact ⟨_, rfl, by rw [← beside_ref]; exact congrArg Value.bool hI.symm, hp.bel⟩
theorem without_R (s so : SV) (l o : List Ecl.Mark) (lt : Int) (w : World) (hR : Rd w encM 3 s.v l) (hO : Rd w encM 3 so.v o) (hb : (∀ y ∈ l, -20000 ≤ y.day ∧ y.day ≤ 20000)) (hbo : (∀ y ∈ o, -20000 ≤ y.day ∧ y.day ≤ 20000)) (hln : l.length ≤ 5000) : Ret Tryz.prog 85 #[s.v, so.v, .int .i64 lt] w fun u w' => (∃ s' : SV, u = s'.v ∧ Fr w w' encM 3 s'.v (l.filter (fun x => !beside o x lt))) ∧ Below w.heap.size w w' := by
 have hp : Hp c0 w w [] := Hp.start trivial
 refine enter Tryz.func85 rfl (N := 31) rfl rfl fun a h => ?_
 refine rg ?_
 refine wsn h rfl fun a h => ?_
 refine rg ?_
 refine wsn h rfl fun a h => ?_
 refine wp_seq ?_
 refine rg ?_
 refine wsn h rfl fun a h => ?_
 have hp := hp.nilB 59 3
 refine lp1 h [0, 1, 2, 6] (fun n f w' => ∃ k : Nat, ∃ s1 : SV, k ≤ l.length ∧ n = l.length - k ∧ f = [(8, .int .i64 k), (7, s1.v)] ∧ Hp c0 w w' ([.buf 59 3 s1.v ((l.take k).filter (fun x => !beside o x lt)).length (((l.take k).filter (fun x => !beside o x lt)).flatMap encM)]) ∧ True) (l.length) [(8, .int .i64 ((0 : Nat) : Int)), (7, .slice none 0 0)] ⟨rfl, rfl, rfl, rfl, rfl, rfl, trivial⟩ ⟨0, ⟨none, 0, 0⟩, Nat.zero_le _, rfl, rfl, hp, trivial⟩ ?_
 rintro n f a w1 ⟨k, s1, hk, rfl, rfl, hp, _⟩ h
 have hfit := hR.fits
 refine wp_seq ?_
 refine rg ?_
 refine wm2 h rfl rfl rfl rfl fun a h => ?_
 refine wvl h (lenR h rfl Tryz.underlying50 (hR.keep (by decide) hp cl0)) fun a h => ?_
 refine wvl h (lss h rfl rfl) fun a h => ?_
 refine wn ?_
 refine cnd1 h rfl (fun hb1 => ?_) (fun hb1 => ?_)
 ·have hlt : k < l.length := by have := of_decide_eq_true hb1; omega
  obtain ⟨y, hy⟩ : ∃ y, l[k]? = some y := ⟨_, List.getElem?_eq_getElem hlt⟩
  have hyb := hb y (List.mem_of_getElem? hy)
  have hfl := filter_take_len (p := (fun x => !beside o x lt)) l k
  refine skp ?_
  refine blk ?_
  refine rg ?_
  refine wm3 h rfl rfl rfl rfl rfl rfl fun a h => ?_
  refine wvl h (iadR (k) h rfl rfl Tryz.underlying50 sz59 (hR.keep (by decide) hp cl0) (rfl) (hlt)) fun a h => ?_
  refine wvl h (ldE h (hR.keep (by decide) hp cl0) hy rfl ag59 sz59) fun a h => ?_
  refine wmv h rfl fun a h => ?_
  refine wl (cal h rfl en105 (Beside_R so o y lt _ (hO.keep (by decide) hp cl0) hbo hyb) fun u w2 ⟨e1, e2⟩ a h => ?_)
  subst e1
  have hp := hp.below e2
  refine wvl h (not_ h rfl) fun a h => ?_
  refine wn ?_
  refine cnd1 h rfl (fun hb2 => ?_) (fun hb2 => ?_)
  ·have hbs : beside o y lt = false := by simpa using hb2
   refine rg1 ?_
   refine wm3 h rfl rfl rfl rfl rfl rfl fun a h => ?_
   refine wvl h (iadR (k) h rfl rfl Tryz.underlying50 sz59 (hR.keep (by decide) hp cl0) (rfl) (hlt)) fun a h => ?_
   refine wvl h (ldE h (hR.keep (by decide) hp cl0) hy rfl ag59 sz59) fun a h => ?_
   refine wl (bsl h hp rfl (bs50_1_0 _ _ _) fun a w3 g1 hg1 h hp => ?_)
   refine wl (app1 0 h hp rfl rfl rfl ap50 1 rfl rfl rfl (by omega) (by omega) fun a w4 v h hp => ?_)
   refine wsg h rfl fun a h => ?_
   refine wn' ?_
   try simp only [xqs, ↓reduceIte, Nat.reduceEqDiff]
   refine rg1 ?_
   refine wmv h rfl fun a h => ?_
   refine wvl h (add h rfl rfl (by omega)) fun a h => ?_
   refine wsn h rfl fun a h => ?_
   exact ⟨_, _, (by omega), ⟨k + 1, _, by omega, rfl, rfl, hp.pre 1 (by simp [filter_snoc hy, hbs, encM]), trivial⟩, h.sub ⟨rfl, rfl, rfl, rfl, rfl, rfl, trivial⟩⟩
  have hbs : beside o y lt = true := by simpa using hb2
  refine wp_skip ?_
  refine rg1 ?_
  refine wmv h rfl fun a h => ?_
  refine wvl h (add h rfl rfl (by omega)) fun a h => ?_
  refine wsn h rfl fun a h => ?_
  exact ⟨_, _, (by omega), ⟨k + 1, _, by omega, rfl, rfl, hp.pre 1 (by simp [filter_snoc hy, hbs, encM]), trivial⟩, h.sub ⟨rfl, rfl, rfl, rfl, rfl, rfl, trivial⟩⟩
 have hend : k = l.length := by have := of_decide_eq_false hb1; omega
 subst hend
 rw [List.take_length] at hp
 refine wp_exit ?_
 try simp only [xqs, ↓reduceIte, Nat.reduceEqDiff]
 refine rg ?_
 refine wmv h rfl fun a h => ?_
 refine wsn h rfl fun a h => ?_
 refine wp_ret ?_
 try simp only [xqs]
 refine rt_1 h rfl (rvT h rfl) ?_
 exact ⟨_, rfl, ⟨s1, rfl, hp.frB (i := 0) rfl rfl rfl (fun _ _ => rfl)⟩, hp.bel⟩
theorem Missed_R (x : EV) (e : Eng) (s2 : SV) (st : List Int) (d1 d2 lt : Int) (w : World) (hE0 : RdE w x e s2 st) (hab : 1 ≤ d1 ∧ d2 ≤ 9000 ∧ d2 - d1 ≤ 400 ∧ d1 ≤ d2) (hl : 0 ≤ lt ∧ lt ≤ 30) : Ret Tryz.prog 41 #[.agg #[x.b.v, .int .i64 e.nnum, .int .i64 e.nden, .int .i64 e.nstart, x.s.v, x.m.v, x.n.v, x.f.v, .int .i64 e.new, .int .i64 e.full, .int .i64 e.wide], s2.v, .int .i64 d1, .int .i64 d2, .int .i64 lt] w fun u w' => (∃ s : SV, u = s.v ∧ Fr w w' encM 3 s.v (missed e st d1 d2 lt)) ∧ Below w.heap.size w w' := by
 have ok := eng_ok hE0.ok
 have hsl := sky_len e (a := d1) (b := d2) (n := 400) (by omega)
 have hp : Hp c0 w w [] := Hp.start trivial
 refine enter Tryz.func41 rfl (N := 27) rfl rfl fun a h => ?_
 refine rg ?_
 refine wl (box (cs := #[_, _, _, _, _, _, _, _, _, _, _]) h hp rfl rfl fun a w1 g1 hg1 h hp => ?_)
 refine wsn h rfl fun a h => ?_
 refine rdh (n := 17) hp mixed rfl ?_
 have hp := hp.drew
 refine tkq 0 h rfl hp (fun W hp => ldO (us := [_, _, _, _, _, _, _, _, _, _, _]) h hp rfl 0 rfl sz32 rfl ag32) fun a h => ?_
 refine tkm 1 h rfl hp rfl fun a h => ?_
 refine tkm 2 h rfl hp rfl fun a h => ?_
 refine tkq 4 h rfl hp (fun W hp => ldO (us := [_, _, _, _, _, _, _, _, _, _, _]) h hp rfl 0 rfl sz32 rfl ag32) fun a h => ?_
 refine tkm 5 h rfl hp rfl fun a h => ?_
 refine tkm 6 h rfl hp rfl fun a h => ?_
 refine tkm 7 h rfl hp rfl fun a h => ?_
 refine tkq 8 h rfl hp (fun W _ => sub h rfl rfl (by omega)) fun a h => ?_
 refine tkq 9 h rfl hp (fun W _ => max_ h rfl rfl) fun a h => ?_
 refine tkm 10 h rfl hp rfl fun a h => ?_
 refine tkm 11 h rfl hp rfl fun a h => ?_
 refine tkq 12 h rfl hp (fun W _ => add h rfl rfl (by omega)) fun a h => ?_
 refine tkm 14 h rfl hp rfl fun a h => ?_
 refine one 3 (by kernel_rfl) rfl (cal h rfl en84 (Sky_R x e _ _ _ (hE0.keep hp cl0).g ok.sky (by omega)) fun u w2 ⟨⟨s21, e1, hf⟩, e2⟩ a h => ⟨((hp.below e2).pre 1 rfl), ?_⟩)
 subst e1
 have hp := hp.got (hp.below e2) (by decide) hf
 refine one 13 (by kernel_rfl) rfl (cal h rfl en28 (Foretells_R x e s2 st _ _ _ (hE0.keep hp cl0) (by omega)) fun u w3 ⟨⟨s22, e1, hf⟩, e2⟩ a h => ⟨((hp.below e2).pre 1 rfl), ?_⟩)
 subst e1
 have hp := hp.got (hp.below e2) (by decide) hf
 refine one 15 (by kernel_rfl) rfl (cal h rfl en85 (without_R _ _ (skyAll e d1 d2) (tellAll e st (max 1 (d1 - lt)) (d2 + lt)) lt _ (hp.rdF (i := 1) rfl) (hp.rdF (i := 2) rfl) (fun y hy => by have := skyAll_mem hy; omega) (fun y hy => by have := tellAll_mem hy; omega) (by omega)) fun u w4 ⟨⟨s23, e1, hf⟩, e2⟩ a h => ⟨((hp.below e2).pre 1 rfl), ?_⟩)
 subst e1
 have hp := hp.got (hp.below e2) (by decide) hf
 refine tka 16 h rfl ((hp).pre 1 rfl) rfl fun a h => ?_
 refine dn (by kernel_rfl) ?_
 refine wp_ret ?_
 try simp only [xqs]
 refine rt_1 h rfl (rvT h rfl) ?_
 exact ⟨_, rfl, ⟨_, rfl, missed_ref ▸ hp.frR (i := 3) rfl⟩, hp.bel⟩
theorem Widened_R (x : EV) (e : Eng) (wd : Int) (w : World) : Ret Tryz.prog 51 #[.agg #[x.b.v, .int .i64 e.nnum, .int .i64 e.nden, .int .i64 e.nstart, x.s.v, x.m.v, x.n.v, x.f.v, .int .i64 e.new, .int .i64 e.full, .int .i64 e.wide], .int .i64 wd] w fun u w' => u = .agg #[x.b.v, .int .i64 e.nnum, .int .i64 e.nden, .int .i64 e.nstart, x.s.v, x.m.v, x.n.v, x.f.v, .int .i64 e.new, .int .i64 e.full, .int .i64 wd] ∧ Below w.heap.size w w' := by
 have hp : Hp c0 w w [] := Hp.start trivial
 refine enter Tryz.func51 rfl (N := 10) rfl rfl fun a h => ?_
 refine rg ?_
 refine wl (box (cs := #[_, _, _, _, _, _, _, _, _, _, _]) h hp rfl rfl fun a w1 g1 hg1 h hp => ?_)
 refine wl (all h hp zc32 fun a w2 g2 hg2 h hp => ?_)
 refine wn ?_
 refine rg ?_
 refine wvl h (ldO (us := [_, _, _, _, _, _, _, _, _, _, _]) h hp rfl 0 rfl sz32 rfl ag32) fun a h => ?_
 refine wl (all h hp zc32 fun a w3 g3 hg3 h hp => ?_)
 refine wl (sta h hp rfl rfl 2 rfl sz32 rfl rfl fun w4 hp => ?_)
 refine wn ?_
 refine rg ?_
 refine wmv h rfl fun a h => ?_
 refine wvl h (fad h rfl fo32_7) fun a h => ?_
 refine wl (st1 h hp rfl rfl 2 rfl rfl sz3 rfl fun w5 hp => ?_)
 refine wn ?_
 refine rg ?_
 refine wvl h (ldO (us := [_, _, _, _, _, _, _, _, _, _, _]) h hp rfl 2 rfl sz32 rfl ag32) fun a h => ?_
 refine wl (sta h hp rfl rfl 1 rfl sz32 rfl rfl fun w6 hp => ?_)
 refine wn ?_
 refine wp_ret ?_
 try simp only [xqs]
 refine rt_1 h rfl (rvA h hp rfl 1 rfl ag32 sz32) ?_
 exact ⟨_, rfl, rfl, hp.ext.below⟩
theorem limit0_R (x : EV) (e : Eng) (full : Bool) (w : World) (h1 : 0 ≤ e.new ∧ e.new ≤ 5400) (h2 : 0 ≤ e.full ∧ e.full ≤ 5400) : Ret Tryz.prog 78 #[.agg #[x.b.v, .int .i64 e.nnum, .int .i64 e.nden, .int .i64 e.nstart, x.s.v, x.m.v, x.n.v, x.f.v, .int .i64 e.new, .int .i64 e.full, .int .i64 0], .bool full] w fun u w' => u = .int .i64 (skyLimit e full) ∧ Below w.heap.size w w' := by
 have := limit_R x { e with wide := 0 } full w h1 h2 ⟨Int.le_refl 0, (by decide : (0 : Int) ≤ 5400)⟩
 rwa [show skyLimit { e with wide := 0 } full + ({ e with wide := 0 } : Eng).wide = skyLimit e full from Int.add_zero _] at this
set_option maxHeartbeats 2000000 in
theorem Widens_R (x : EV) (e : Eng) (s2 : SV) (st : List Int) (d1 d2 lt : Int) (w : World) (hE0 : RdE w x e s2 st) (hab : 1 ≤ d1 ∧ d2 ≤ 9000 ∧ d2 - d1 ≤ 400 ∧ d1 ≤ d2) (hl : 0 ≤ lt ∧ lt ≤ 30) : Ret Tryz.prog 47 #[.agg #[x.b.v, .int .i64 e.nnum, .int .i64 e.nden, .int .i64 e.nstart, x.s.v, x.m.v, x.n.v, x.f.v, .int .i64 e.new, .int .i64 e.full, .int .i64 e.wide], s2.v, .int .i64 d1, .int .i64 d2, .int .i64 lt] w fun u w' => u = .int .i64 (if widens e st d1 d2 lt ≤ 5400 then widens e st d1 d2 lt else -1) ∧ Below w.heap.size w w' := by
 have ok := eng_ok hE0.ok
 have hEW := hE0.wide (n := 5400) (by decide)
 have hsl := sky_len e (a := d1) (b := d2) (n := 400) (by omega)
 have hp : Hp c0 w w [] := Hp.start trivial
 refine enter Tryz.func47 rfl (N := 88) rfl rfl fun a h => ?_
 refine rg ?_
 refine wl (box (cs := #[_, _, _, _, _, _, _, _, _, _, _]) h hp rfl rfl fun a w1 g1 hg1 h hp => ?_)
 refine wsn h rfl fun a h => ?_
 refine rg ?_
 refine wvl h (ldO (us := [_, _, _, _, _, _, _, _, _, _, _]) h hp rfl 0 rfl sz32 rfl ag32) fun a h => ?_
 refine wm2 h rfl rfl rfl rfl fun a h => ?_
 refine wl (cal h rfl en84 (Sky_R x e _ _ _ (hE0.keep hp cl0).g ok.sky (by omega)) fun u w2 ⟨⟨s21, e1, hf⟩, e2⟩ a h => ?_)
 subst e1
 have hp := hp.got (hp.below e2) (by decide) hf
 refine wsn h rfl fun a h => ?_
 refine rg ?_
 refine wvl h (ldO (us := [_, _, _, _, _, _, _, _, _, _, _]) h hp rfl 0 rfl sz32 rfl ag32) fun a h => ?_
 refine wl (cal h rfl en51 (Widened_R x e _ _) fun u w3 ⟨e1, e2⟩ a h => ?_)
 subst e1
 have hp := hp.below e2
 refine wm3 h rfl rfl rfl rfl rfl rfl fun a h => ?_
 refine wvl h (sub h rfl rfl (by omega)) fun a h => ?_
 refine wvl h (max_ h rfl rfl) fun a h => ?_
 refine wm2 h rfl rfl rfl rfl fun a h => ?_
 refine wvl h (add h rfl rfl (by omega)) fun a h => ?_
 refine wl (cal h rfl en28 (Foretells_R x { e with wide := 5400 } s2 st _ _ _ (hEW.keep hp cl0) (by omega)) fun u w4 ⟨⟨s22, e1, hf⟩, e2⟩ a h => ?_)
 subst e1
 have hp := hp.got (hp.below e2) (by decide) hf
 refine wsn h rfl fun a h => ?_
 refine rg ?_
 refine wsn h rfl fun a h => ?_
 refine wp_seq ?_
 refine rg ?_
 refine wsn h rfl fun a h => ?_
 refine lp1 h [4, 5, 11, 12] (fun n f w' => ∃ k : Nat, ∃ z : Int, k ≤ (skyAll e d1 d2).length ∧ n = (skyAll e d1 d2).length - k ∧ f = [(14, .int .i64 k), (13, .int .i64 z)] ∧ Hp c0 w w' ([.blk g1 (.cells #[x.b.v, .int .i64 e.nnum, .int .i64 e.nden, .int .i64 e.nstart, x.s.v, x.m.v, x.n.v, x.f.v, .int .i64 e.new, .int .i64 e.full, .int .i64 e.wide] 32 (0, 0)), rdE encM 3 s21.v (skyAll e d1 d2), rdE encM 3 s22.v (tellAll { e with wide := 5400 } st (max 1 (d1 - lt)) (d2 + lt))]) ∧ z = ((skyAll e d1 d2).take k).foldl (fun z y => max z (leastWide e st lt y)) 0 ∧ 0 ≤ z ∧ z ≤ 5400) ((skyAll e d1 d2).length) [(14, .int .i64 ((0 : Nat) : Int)), (13, .int .i64 0)] ⟨rfl, rfl, rfl, rfl, rfl, rfl, trivial⟩ ⟨0, 0, Nat.zero_le _, rfl, rfl, hp, rfl, by omega, by omega⟩ ?_
 rintro n f a w5 ⟨k, z, hk, rfl, rfl, hp, hz, hz0, hz1⟩ h
 have hfit := (hp.rdF (i := 1) rfl).fits
 refine wp_seq ?_
 refine rg ?_
 refine wm2 h rfl rfl rfl rfl fun a h => ?_
 refine wvl h (lenR h rfl Tryz.underlying50 (hp.rdF (i := 1) rfl)) fun a h => ?_
 refine wvl h (lss h rfl rfl) fun a h => ?_
 refine wn ?_
 refine cnd1 h rfl (fun hb1 => ?_) (fun hb1 => ?_)
 ·have hlt : k < (skyAll e d1 d2).length := by have := of_decide_eq_true hb1; omega
  obtain ⟨y, hy⟩ : ∃ y, (skyAll e d1 d2)[k]? = some y := ⟨_, List.getElem?_eq_getElem hlt⟩
  have hyb := skyAll_mem (List.mem_of_getElem? hy)
  refine skp ?_
  refine blk ?_
  refine rg ?_
  refine wsn h rfl fun a h => ?_
  refine wp_seq ?_
  refine rg ?_
  refine wsn h rfl fun a h => ?_
  refine lp1 h [4, 5, 11, 12, 13, 14, 32, 33, 34, 35] (fun n f w' => ∃ (j : Nat) (z2 : Int), j ≤ (tellAll { e with wide := 5400 } st (max 1 (d1 - lt)) (d2 + lt)).length ∧ n = (tellAll { e with wide := 5400 } st (max 1 (d1 - lt)) (d2 + lt)).length - j ∧ f = [(16, .int .i64 j), (15, .int .i64 z2)] ∧ Hp c0 w w' [.blk g1 (.cells #[x.b.v, .int .i64 e.nnum, .int .i64 e.nden, .int .i64 e.nstart, x.s.v, x.m.v, x.n.v, x.f.v, .int .i64 e.new, .int .i64 e.full, .int .i64 e.wide] 32 (0, 0)), rdE encM 3 s21.v (skyAll e d1 d2), rdE encM 3 s22.v (tellAll { e with wide := 5400 } st (max 1 (d1 - lt)) (d2 + lt))] ∧ z2 = mn ((tellAll { e with wide := 5400 } st (max 1 (d1 - lt)) (d2 + lt)).take j) y lt) ((tellAll { e with wide := 5400 } st (max 1 (d1 - lt)) (d2 + lt)).length) [(16, .int .i64 ((0 : Nat) : Int)), (15, .int .i64 (-1))] ⟨rfl, rfl, rfl, rfl, rfl, rfl, rfl, rfl, rfl, rfl, rfl, rfl, trivial⟩ ⟨0, -1, Nat.zero_le _, rfl, rfl, hp, rfl⟩ ?_
  rintro n f a w6 ⟨j, z2, hj, rfl, rfl, hp, hz2⟩ h
  have hfit2 := (show Rd _ encM 3 _ (tellAll { e with wide := 5400 } st (max 1 (d1 - lt)) (d2 + lt)) from hp.rdF (i := 2) rfl).fits
  refine wp_seq ?_
  refine rg ?_
  refine wm2 h rfl rfl rfl rfl fun a h => ?_
  refine wvl h (lenR h rfl Tryz.underlying50 (hp.rdF (i := 2) rfl)) fun a h => ?_
  refine wvl h (lss h rfl rfl) fun a h => ?_
  refine wn ?_
  refine cnd1 h rfl (fun hb2 => ?_) (fun hb2 => ?_)
  ·have hlt2 : j < (tellAll { e with wide := 5400 } st (max 1 (d1 - lt)) (d2 + lt)).length := by have := of_decide_eq_true hb2; omega
   obtain ⟨m, hm⟩ : ∃ m, (tellAll { e with wide := 5400 } st (max 1 (d1 - lt)) (d2 + lt))[j]? = some m := ⟨_, List.getElem?_eq_getElem hlt2⟩
   have hmb := tellAll_mem (List.mem_of_getElem? hm)
   have hcut := take1 hm
   refine skp ?_
   refine blk ?_
   refine rdh (n := 24) hp mixed rfl ?_
   have hp := hp.drew
   refine tkm 0 h rfl hp rfl fun a h => ?_
   refine tkm 1 h rfl hp rfl fun a h => ?_
   refine tkm 2 h rfl hp rfl fun a h => ?_
   refine tkq 3 h rfl hp (fun W _ => add h rfl rfl (by omega)) fun a h => ?_
   refine tkq 4 h rfl hp (fun W hp => slcLH (j) (j + 1) h rfl rfl rfl Tryz.underlying50 sz59 (hp.rdF (i := 2) rfl) (rfl) (rfl) (by omega) (by omega)) fun a h => ?_
   refine tkm 5 h rfl hp rfl fun a h => ?_
   refine tkm 6 h rfl hp rfl fun a h => ?_
   refine tkq 7 h rfl hp (fun W hp => iadR (k) h rfl rfl Tryz.underlying50 sz59 (hp.rdF (i := 1) rfl) (rfl) (hlt)) fun a h => ?_
   refine tkq 8 h rfl hp (fun W hp => ldE h (hp.rdF (i := 1) rfl) hy rfl ag59 sz59) fun a h => ?_
   refine tkm 9 h rfl hp rfl fun a h => ?_
   refine one 10 (by kernel_rfl) rfl (cal h rfl en105 (Beside_R _ [m] y lt _ (hcut ▸ ((show Rd _ encM 3 _ (tellAll { e with wide := 5400 } st (max 1 (d1 - lt)) (d2 + lt)) from hp.rdF (i := 2) rfl).cut (i := j) (j := j + 1) (by omega) (by omega))) (fun y hy => by rw [List.mem_singleton] at hy; subst hy; omega) (by omega)) fun u w7 ⟨e1, e2⟩ a h => ⟨hp.below e2, ?_⟩)
   subst e1
   have hp := hp.below e2
   refine tkm 11 h rfl hp rfl fun a h => ?_
   refine split (t := 55) h rfl (fun hb3 => ?_) (fun hb3 => ?_)
   ·have hbe : beside [m] y lt = true := hb3
    refine tk_on 12 h rfl (by kernel_rfl) (fun _ _ _ q => q) hp rfl rfl rfl rfl rfl hb3 (fun W _ => mov h rfl) fun a h => ?_
    refine tk_on 13 h rfl (by kernel_rfl) (fun _ _ _ q => q) hp rfl rfl rfl rfl rfl hb3 (fun W _ => lss h rfl rfl) fun a h => ?_
    refine tk_on 14 h rfl (by kernel_rfl) (fun _ _ _ q => q) hp rfl rfl rfl rfl rfl hb3 (fun W _ => mov h rfl) fun a h => ?_
    refine split (t := 58) h rfl (fun hb4 => ?_) (fun hb4 => ?_)
    ·have hneg : decide (z2 < 0) = true := hb4
     refine tkG 15 h rfl hp rfl rfl rfl hb4 fun a h => ?_
     refine tkG 16 h rfl hp rfl rfl rfl hb4 fun a h => ?_
     refine tkG 17 h rfl hp rfl rfl rfl hb4 fun a h => ?_
     refine tkG 18 h rfl hp rfl rfl rfl hb4 fun a h => ?_
     refine tkG 19 h rfl hp rfl rfl rfl hb4 fun a h => ?_
     refine tkG 20 h rfl hp rfl rfl rfl hb4 fun a h => ?_
     refine tkG 21 h rfl hp rfl rfl rfl hb4 fun a h => ?_
     refine tk_on 22 h rfl (by kernel_rfl) (fun _ _ _ q => q) hp rfl rfl rfl rfl rfl hb3 (fun W _ => pckT h rfl hb4 rfl) fun a h => ?_
     refine tkq 23 h rfl hp (fun W _ => pckT h rfl hb3 rfl) fun a h => ?_
     refine dn (by kernel_rfl) ?_
     refine cnd1 h rfl (fun _ => ?_) (fun e => nomatch e)
     refine rg1 ?_
     refine wm2 h rfl rfl rfl rfl fun a h => ?_
     refine wvl h (iadR (j) h rfl rfl Tryz.underlying50 sz59 (hp.rdF (i := 2) rfl) (rfl) (hlt2)) fun a h => ?_
     refine wvl h (fad h rfl fo59_2) fun a h => ?_
     refine wvl h (ldF 2 h (hp.rdF (i := 2) rfl) hm rfl ag3 rfl) fun a h => ?_
     refine wsg h rfl fun a h => ?_
     refine wn' ?_
     try simp only [xqs, ↓reduceIte, Nat.reduceEqDiff]
     refine rg1 ?_
     refine wmv h rfl fun a h => ?_
     refine wvl h (add h rfl rfl (by omega)) fun a h => ?_
     refine wsn h rfl fun a h => ?_
     exact ⟨_, _, (by omega), ⟨j + 1, _, by omega, rfl, rfl, hp.pre 3 rfl, by rw [mn_snoc hm, ← hz2, mnF]; rw [if_pos (by rw [hbe, hneg]; rfl)]⟩, h.sub ⟨rfl, rfl, rfl, rfl, rfl, rfl, rfl, rfl, rfl, rfl, rfl, rfl, trivial⟩⟩
    have hneg : decide (z2 < 0) = false := hb4
    refine tk_on 15 h rfl (by kernel_rfl) (fun _ _ _ q => q) hp rfl rfl rfl rfl rfl hb4 (fun W _ => mov h rfl) fun a h => ?_
    refine tk_on 16 h rfl (by kernel_rfl) (fun _ _ _ q => q) hp rfl rfl rfl rfl rfl hb4 (fun W _ => mov h rfl) fun a h => ?_
    refine tk_on 17 h rfl (by kernel_rfl) (fun _ _ _ q => q) hp rfl rfl rfl rfl rfl hb4 (fun W hp => iadR (j) h rfl rfl Tryz.underlying50 sz59 (hp.rdF (i := 2) rfl) (rfl) (hlt2)) fun a h => ?_
    refine tk_on 18 h rfl (by kernel_rfl) (fun _ _ _ q => q) hp rfl rfl rfl rfl rfl hb4 (fun W _ => fad h rfl fo59_2) fun a h => ?_
    refine tk_on 19 h rfl (by kernel_rfl) (fun _ _ _ q => q) hp rfl rfl rfl rfl rfl hb4 (fun W hp => ldF 2 h (hp.rdF (i := 2) rfl) hm rfl ag3 rfl) fun a h => ?_
    refine tk_on 20 h rfl (by kernel_rfl) (fun _ _ _ q => q) hp rfl rfl rfl rfl rfl hb4 (fun W _ => mov h rfl) fun a h => ?_
    refine tk_on 21 h rfl (by kernel_rfl) (fun _ _ _ q => q) hp rfl rfl rfl rfl rfl hb4 (fun W _ => lss h rfl rfl) fun a h => ?_
    refine tk_on 22 h rfl (by kernel_rfl) (fun _ _ _ q => q) hp rfl rfl rfl rfl rfl hb3 (fun W _ => pckF h rfl hb4 rfl) fun a h => ?_
    refine tkq 23 h rfl hp (fun W _ => pckT h rfl hb3 rfl) fun a h => ?_
    refine dn (by kernel_rfl) ?_
    refine cnd1 h rfl (fun hb5 => ?_) (fun hb5 => ?_)
    ·have hles : decide (m.far < z2) = true := hb5
     refine rg1 ?_
     refine wm2 h rfl rfl rfl rfl fun a h => ?_
     refine wvl h (iadR (j) h rfl rfl Tryz.underlying50 sz59 (hp.rdF (i := 2) rfl) (rfl) (hlt2)) fun a h => ?_
     refine wvl h (fad h rfl fo59_2) fun a h => ?_
     refine wvl h (ldF 2 h (hp.rdF (i := 2) rfl) hm rfl ag3 rfl) fun a h => ?_
     refine wsg h rfl fun a h => ?_
     refine wn' ?_
     try simp only [xqs, ↓reduceIte, Nat.reduceEqDiff]
     refine rg1 ?_
     refine wmv h rfl fun a h => ?_
     refine wvl h (add h rfl rfl (by omega)) fun a h => ?_
     refine wsn h rfl fun a h => ?_
     exact ⟨_, _, (by omega), ⟨j + 1, _, by omega, rfl, rfl, hp.pre 3 rfl, by rw [mn_snoc hm, ← hz2, mnF]; rw [if_pos (by rw [hbe, hneg, hles]; rfl)]⟩, h.sub ⟨rfl, rfl, rfl, rfl, rfl, rfl, rfl, rfl, rfl, rfl, rfl, rfl, trivial⟩⟩
    have hles : decide (m.far < z2) = false := hb5
    refine wp_skip ?_
    refine rg1 ?_
    refine wmv h rfl fun a h => ?_
    refine wvl h (add h rfl rfl (by omega)) fun a h => ?_
    refine wsn h rfl fun a h => ?_
    exact ⟨_, _, (by omega), ⟨j + 1, _, by omega, rfl, rfl, hp.pre 3 rfl, by rw [mn_snoc hm, ← hz2, mnF]; rw [if_neg (by rw [hbe, hneg, hles]; simp)]⟩, h.sub ⟨rfl, rfl, rfl, rfl, rfl, rfl, rfl, rfl, rfl, rfl, rfl, rfl, trivial⟩⟩
   have hbe : beside [m] y lt = false := hb3
   refine tkG 12 h rfl hp rfl rfl rfl hb3 fun a h => ?_
   refine tkG 13 h rfl hp rfl rfl rfl hb3 fun a h => ?_
   refine tkG 14 h rfl hp rfl rfl rfl hb3 fun a h => ?_
   refine tk_un 15 h rfl (by kernel_rfl) (fun _ _ _ q => q) hp rfl rfl rfl rfl rfl fun a h => ?_
   refine tk_un 16 h rfl (by kernel_rfl) (fun _ _ _ q => q) hp rfl rfl rfl rfl rfl fun a h => ?_
   refine tk_un 17 h rfl (by kernel_rfl) (fun _ _ _ q => q) hp rfl rfl rfl rfl rfl fun a h => ?_
   refine tk_un 18 h rfl (by kernel_rfl) (fun _ _ _ q => q) hp rfl rfl rfl rfl rfl fun a h => ?_
   refine tk_un 19 h rfl (by kernel_rfl) (fun _ _ _ q => q) hp rfl rfl rfl rfl rfl fun a h => ?_
   refine tk_un 20 h rfl (by kernel_rfl) (fun _ _ _ q => q) hp rfl rfl rfl rfl rfl fun a h => ?_
   refine tk_un 21 h rfl (by kernel_rfl) (fun _ _ _ q => q) hp rfl rfl rfl rfl rfl fun a h => ?_
   refine tkG 22 h rfl hp rfl rfl rfl hb3 fun a h => ?_
   refine tkq 23 h rfl hp (fun W _ => pckF h rfl hb3 rfl) fun a h => ?_
   refine dn (by kernel_rfl) ?_
   refine cnd1 h rfl (fun e => nomatch e) (fun _ => ?_)
   refine wp_skip ?_
   refine rg1 ?_
   refine wmv h rfl fun a h => ?_
   refine wvl h (add h rfl rfl (by omega)) fun a h => ?_
   refine wsn h rfl fun a h => ?_
   exact ⟨_, _, (by omega), ⟨j + 1, _, by omega, rfl, rfl, hp.pre 3 rfl, by rw [mn_snoc hm, ← hz2, mnF]; rw [if_neg (by rw [hbe, Bool.false_and]; simp)]⟩, h.sub ⟨rfl, rfl, rfl, rfl, rfl, rfl, rfl, rfl, rfl, rfl, rfl, rfl, trivial⟩⟩
  have hend2 : j = (tellAll { e with wide := 5400 } st (max 1 (d1 - lt)) (d2 + lt)).length := by have := of_decide_eq_false hb2; omega
  subst hend2
  rw [List.take_length] at hz2
  have hmw := mn_wide (e := e) (st := st) (lt := lt) (y := y) (A := d1) (B := d2) hE0.ok (by omega) (by omega)
  refine wp_exit ?_
  try simp only [xqs, ↓reduceIte, Nat.reduceEqDiff]
  refine wp_seq ?_
  refine rg ?_
  refine wmv h rfl fun a h => ?_
  refine wvl h (lss h rfl rfl) fun a h => ?_
  refine wn ?_
  refine cnd1 h rfl (fun hb6 => ?_) (fun hb6 => ?_)
  ·have hno : mn (tellAll { e with wide := 5400 } st (max 1 (d1 - lt)) (d2 + lt)) y lt < 0 := by rw [← hz2]; exact of_decide_eq_true hb6
   have hlw : leastWide e st lt y = 10800 := by rcases hmw with h | h <;> omega
   have hgt := (wide_mono st lt (leastWide e st lt) (skyAll e d1 d2) 0).2 y (List.mem_of_getElem? hy)
   have hgt : leastWide e st lt y ≤ widens e st d1 d2 lt := hgt
   refine rg ?_
   refine wsn h rfl fun a h => ?_
   refine wp_ret ?_
   try simp only [xqs]
   refine rt_1 h rfl (rvT h rfl) ?_
   exact ⟨_, rfl, by rw [if_neg (by omega)], hp.bel⟩
  have hno : ¬ mn (tellAll { e with wide := 5400 } st (max 1 (d1 - lt)) (d2 + lt)) y lt < 0 := by rw [← hz2]; exact of_decide_eq_false hb6
  have hlw : leastWide e st lt y = max 0 (z2 - skyLimit e y.full) := by rw [hz2]; rcases hmw with h | h <;> omega
  have hz5 : 0 ≤ z2 ∧ z2 ≤ 5400 := by rw [hz2]; rcases hmw with h | h <;> omega
  have hlim0 : 0 ≤ skyLimit e y.full ∧ skyLimit e y.full ≤ 5400 := by have := lim_bd ok; cases y.full <;> omega
  refine skp ?_
  refine rdh1 (n := 13) hp mixed rfl ?_
  have hp := hp.drew
  refine tkm 0 h rfl hp rfl fun a h => ?_
  refine tkm 1 h rfl hp rfl fun a h => ?_
  refine tkq 2 h rfl hp (fun W hp => ldO (us := [_, _, _, _, _, _, _, _, _, _, _]) h hp rfl 0 rfl sz32 rfl ag32) fun a h => ?_
  refine tkm 4 h rfl hp rfl fun a h => ?_
  refine tkm 5 h rfl hp rfl fun a h => ?_
  refine tkq 6 h rfl hp (fun W hp => iadR (k) h rfl rfl Tryz.underlying50 sz59 (hp.rdF (i := 1) rfl) (rfl) (hlt)) fun a h => ?_
  refine tkq 7 h rfl hp (fun W _ => fad h rfl fo59_1) fun a h => ?_
  refine tkq 8 h rfl hp (fun W hp => ldF 1 h (hp.rdF (i := 1) rfl) hy rfl ag4 rfl) fun a h => ?_
  refine one 3 (by kernel_rfl) rfl (cal h rfl en51 (Widened_R x e _ _) fun u w8 ⟨e1, e2⟩ a h => ⟨hp.below e2, ?_⟩)
  subst e1
  have hp := hp.below e2
  refine one 9 (by kernel_rfl) rfl (cal h rfl en78 (limit0_R x e y.full _ ok.new ok.full) fun u w9 ⟨e1, e2⟩ a h => ⟨hp.below e2, ?_⟩)
  subst e1
  have hp := hp.below e2
  refine tkq 10 h rfl hp (fun W _ => sub h rfl rfl (by omega)) fun a h => ?_
  refine tkq 11 h rfl hp (fun W _ => max_ h rfl rfl) fun a h => ?_
  refine tka 12 h rfl hp rfl fun a h => ?_
  refine dn (by kernel_rfl) ?_
  try simp only [xqs, ↓reduceIte, Nat.reduceEqDiff]
  refine rg1 ?_
  refine wmv h rfl fun a h => ?_
  refine wvl h (add h rfl rfl (by omega)) fun a h => ?_
  refine wsn h rfl fun a h => ?_
  exact ⟨_, _, (by omega), ⟨k + 1, _, by omega, rfl, rfl, hp.pre 3 rfl, by rw [wd_snoc hy, hlw, ← hz]; omega, by omega, by omega⟩, h.sub ⟨rfl, rfl, rfl, rfl, rfl, rfl, trivial⟩⟩
 have hend : k = (skyAll e d1 d2).length := by have := of_decide_eq_false hb1; omega
 subst hend
 rw [List.take_length] at hz
 have hz : z = widens e st d1 d2 lt := hz
 refine wp_exit ?_
 try simp only [xqs, ↓reduceIte, Nat.reduceEqDiff]
 refine rg ?_
 refine wmv h rfl fun a h => ?_
 refine wsn h rfl fun a h => ?_
 refine wp_ret ?_
 try simp only [xqs]
 refine rt_1 h rfl (rvT h rfl) ?_
 exact ⟨_, rfl, by rw [if_pos (by omega), hz], hp.bel⟩
end Go.Proofs.Ec
