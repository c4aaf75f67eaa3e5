import Derived.Test.YtobofnkmbpfoiaaGreatDoorProg
import Derived.Test.YtobofnkmbpfoiaaGreatDoorPFa
import Derived.Test.YtobofnkmbpfoiaaGreatDoorPQb
import Derived.Test.YtobofnkmbpfoiaaGreatDoorPW25
import Derived.Test.YtobofnkmbpfoiaaGreatDoorPQc
set_option linter.unusedVariables false
set_option linter.unusedSimpArgs false
set_option maxRecDepth 4000
namespace Go.Proofs.Ec
open Go.RowKit Go.Proofs.Sx
open Ecl
def LiS (m : Nat) : Prop := ∀ (q d1 d2 : Int) (w : World), q = m → 0 ≤ d1 → d1 ≤ 9 → d2 ≤ 8 → Ret Tryz.prog 106 #[.int .i64 d1, .int .i64 d2, .int .i64 q] w fun u w' => (∃ (s : SV) (qs : PL), u = s.v ∧ rlF s qs w' ∧ qs.map (·.2) = lists m d1 d2 ∧ ∀ k, (rlE s qs).D k → w.heap.size ≤ k ∧ k < w'.heap.size) ∧ Below w.heap.size w w'
theorem lists_0 (q d1 d2 : Int) (w : World) (hq : q = 0) : Ret Tryz.prog 106 #[.int .i64 d1, .int .i64 d2, .int .i64 q] w fun u w' => (∃ (s : SV) (qs : PL), u = s.v ∧ rlF s qs w' ∧ qs.map (·.2) = lists 0 d1 d2 ∧ ∀ k, (rlE s qs).D k → w.heap.size ≤ k ∧ k < w'.heap.size) ∧ Below w.heap.size w w' := by
 have hp : Hp c0 w w [] := Hp.start trivial
 refine enter Tryz.func106 rfl (N := 43) rfl rfl fun a h => ?_
 refine rg ?_
 refine wsn h rfl fun a h => ?_
 refine wp_seq ?_
 refine rg ?_
 refine wmv h rfl fun a h => ?_
 refine wvl h (eqi h rfl rfl) fun a h => ?_
 refine wn ?_
 refine cnd1 h rfl (fun hb1 => ?_) (fun hb1 => ?_)
 ·refine rg ?_
  refine wl (bsl h hp rfl (bs127_1_0 _ _ _) fun a w1 g1 hg1 h hp => ?_)
  refine wsn h rfl fun a h => ?_
  refine wp_ret ?_
  try simp only [xqs]
  refine rt_1 h rfl (rvT h rfl) ?_
  refine ⟨_, rfl, ⟨⟨some ⟨g1, 0, none⟩, 1, 1⟩, [((⟨none, 0, 0⟩ : SV), [])], rfl, ⟨hp.rdA (i := 0) [((⟨none, 0, 0⟩ : SV), ([] : List Int))] rfl rfl rfl (Nat.le_refl _) (show 1 ≤ 9223372036854775807 by decide) (fun _ _ => rfl), fun p hpm => ?_⟩, rfl, fun k hk => ?_⟩, hp.bel⟩
  ·rw [List.mem_singleton] at hpm; subst hpm; exact Rd.nil
  rcases hk with ⟨-, rfl⟩ | ⟨p, hpm, hl, -⟩
  ·exact hp.bnd (i := 0) rfl
  rw [List.mem_singleton] at hpm; subst hpm; simp at hl
 exact absurd hq (of_decide_eq_false hb1)
set_option maxHeartbeats 2000000 in
theorem lists_go (m : Nat) (d1 d2 : Int) (w : World) (ih : LiS m) (hm : m ≤ 8) (hd0 : 0 ≤ d1) (hd1 : d1 ≤ 9) (hd2 : d2 ≤ 8) : Ret Tryz.prog 106 #[.int .i64 d1, .int .i64 d2, .int .i64 ((m : Int) + 1)] w fun u w' => (∃ (s : SV) (qs : PL), u = s.v ∧ rlF s qs w' ∧ qs.map (·.2) = lists (m + 1) d1 d2 ∧ ∀ k, (rlE s qs).D k → w.heap.size ≤ k ∧ k < w'.heap.size) ∧ Below w.heap.size w w' := by
 have hp9 : 9 ^ m ≤ 9 ^ 8 := Nat.pow_le_pow_right (by decide) hm
 have hp : Hp c0 w w [] := Hp.start trivial
 refine enter Tryz.func106 rfl (N := 43) rfl rfl fun a h => ?_
 refine rg ?_
 refine wsn h rfl fun a h => ?_
 refine wp_seq ?_
 refine rg ?_
 refine wmv h rfl fun a h => ?_
 refine wvl h (eqi h rfl rfl) fun a h => ?_
 refine wn ?_
 refine cnd1 h rfl (fun hb1 => ?_) (fun hb1 => ?_)
 ·exact absurd (of_decide_eq_true hb1) (by omega)
 refine skp ?_
 refine rg ?_
 refine wsn h rfl fun a h => ?_
 refine wp_seq ?_
 refine rg ?_
 refine wmv h rfl fun a h => ?_
 refine wsn h rfl fun a h => ?_
 have hp := Hp.rds (hp.nilB 30 1)
 refine lp1 h [1, 2, 6, 12] (fun n f w' => ∃ (k : Nat) (out : SV) (ps pool : PL), n = (d2 - (d1 + k)).toNat ∧ (d1 + k ≤ d2 ∨ k = 0) ∧ f = [(8, .int .i64 (d1 + k)), (7, out.v)] ∧ Hp c0 w w' [rdsE pool, .buf 30 1 out.v ps.length (ps.flatMap encS)] ∧ ps.map (·.2) = ((daysN k d1).flatMap (fun n => (lists m (n + 1) d2).map (n :: ·))) ∧ (∀ p ∈ ps, p ∈ pool)) ((d2 - d1).toNat) [(8, .int .i64 d1), (7, .slice none 0 0)] ⟨rfl, rfl, rfl, rfl, rfl, rfl, trivial⟩ ⟨0, (⟨none, 0, 0⟩ : SV), [], [], by simp, .inr rfl, by simp; rfl, hp, rfl, by simp⟩ ?_
 rintro n f a w1 ⟨k, out, ps, pool, rfl, hk, rfl, hp, hI, hpl⟩ h
 refine wp_seq ?_
 refine rg ?_
 refine wm2 h rfl rfl rfl rfl fun a h => ?_
 refine wvl h (lss h rfl rfl) fun a h => ?_
 refine wn ?_
 refine cnd1 h rfl (fun hb2 => ?_) (fun hb2 => ?_)
 ·have hlt := of_decide_eq_true hb2
  have hpn := lists_part (m := m) (b := d2) hd0 hd2 k
  have hll := lists_len m (d1 + k + 1) d2 (by omega) hd2
  have hkb : 9 ^ m * k ≤ 9 ^ m * 9 := Nat.mul_le_mul_left _ (by omega)
  refine skp ?_
  refine blk ?_
  refine rg ?_
  refine wmv h rfl fun a h => ?_
  refine wvl h (add h rfl rfl (by omega)) fun a h => ?_
  refine wm2 h rfl rfl rfl rfl fun a h => ?_
  refine wvl h (sub h rfl rfl (by omega)) fun a h => ?_
  refine wl (cal h rfl en106 (ih ((m : Int) + 1 - 1) (d1 + k + 1) d2 _ (by omega) (by omega) (by omega) hd2) fun u w2 ⟨⟨s5, qs, e1, hF, hqs, hD⟩, e2⟩ a h => ?_)
  subst e1
  have hp := hp.keepF (hp.below e2) (F := rlF s5 qs) (D := (rlE s5 qs).D) rl_ok hF hD
  refine wsn h rfl fun a h => ?_
  refine rg ?_
  refine wsn h rfl fun a h => ?_
  refine lp1 h [1, 2, 6, 8, 9, 12, 15, 16, 17, 20, 21, 22, 23, 24, 25] (fun n f w' => ∃ (j : Nat) (out2 : SV) (ps2 pool2 : PL), j ≤ qs.length ∧ n = qs.length - j ∧ f = [(10, .int .i64 j), (7, out2.v)] ∧ Hp c0 w w' [rdsE pool2, .buf 30 1 out2.v ps2.length (ps2.flatMap encS), rlE s5 qs] ∧ ps2.map (·.2) = ((daysN k d1).flatMap (fun n => (lists m (n + 1) d2).map (n :: ·))) ++ ((qs.take j).map (·.2)).map ((d1 + (k : Int)) :: ·) ∧ (∀ p ∈ ps2, p ∈ pool2)) (qs.length) [(10, .int .i64 ((0 : Nat) : Int)), (7, out.v)] ⟨rfl, rfl, rfl, rfl, rfl, rfl, rfl, rfl, rfl, rfl, rfl, rfl, rfl, rfl, rfl, rfl, rfl, trivial⟩ ⟨0, out, ps, pool, Nat.zero_le _, rfl, rfl, hp, by rw [hI]; simp, hpl⟩ ?_
  rintro n f a w3 ⟨j, out2, ps2, pool2, hj, rfl, rfl, hp, hJ, hpl2⟩ h
  have hfit2 := (hp.fact (i := 2) rfl : rlF s5 qs _).1.fits
  refine wp_seq ?_
  refine rg ?_
  refine wm2 h rfl rfl rfl rfl fun a h => ?_
  refine wvl h (lenR h rfl Tryz.underlying127 (hp.fact (i := 2) rfl : rlF s5 qs _).1) fun a h => ?_
  refine wvl h (lss h rfl rfl) fun a h => ?_
  refine wn ?_
  refine cnd1 h rfl (fun hb3 => ?_) (fun hb3 => ?_)
  ·have hlt2 : j < qs.length := by have := of_decide_eq_true hb3; omega
   obtain ⟨p, hp0⟩ : ∃ p, qs[j]? = some p := ⟨_, List.getElem?_eq_getElem hlt2⟩
   have hpm : p ∈ qs := List.mem_of_getElem? hp0
   have hp2 : p.2 ∈ lists m (d1 + k + 1) d2 := by rw [← hqs]; exact List.mem_map_of_mem hpm
   have hpl9 := (mem_lists.1 hp2).1
   have hj2 := congrArg List.length hJ
   rw [List.length_append, List.length_map, List.length_map, List.length_map, List.length_take] at hj2
   have hql := congrArg List.length hqs
   rw [List.length_map] at hql
   refine skp ?_
   refine blk ?_
   refine rg1 ?_
   refine wm2 h rfl rfl rfl rfl fun a h => ?_
   refine wl (bsl h hp rfl (bs30_1_0 _) fun a w4 g1 hg1 h hp => ?_)
   refine wm2 h rfl rfl rfl rfl fun a h => ?_
   refine wvl h (iadR (j) h rfl rfl Tryz.underlying127 sz30 (hp.fact (i := 2) rfl : rlF s5 qs _).1 (rfl) (hlt2)) fun a h => ?_
   refine wvl h (ld0 h (hp.fact (i := 2) rfl : rlF s5 qs _).1 hp0 rfl ag30 rfl) fun a h => ?_
   have hp := Hp.a2i (hp.pick [3, 0, 1, 2] (by decide) rfl)
   refine wl (appL 0 h hp rfl rfl rfl ap30 ((hp.fact (i := 3) rfl : rlF s5 qs _).2 p hpm) (by intro y u hu; simp [encI] at hu; subst hu; rfl) (by omega) (by omega) (by omega) fun a w5 v1 h hp => ?_)
   refine wl (bsl h hp rfl (bs127_1_0 _ _ _) fun a w6 g2 hg2 h hp => ?_)
   refine wl (app1 2 h hp rfl rfl rfl ap127 4 rfl rfl rfl (by omega) (by omega) fun a w7 v h hp => ?_)
   refine wsg h rfl fun a h => ?_
   refine wn' ?_
   try simp only [xqs, ↓reduceIte, Nat.reduceEqDiff]
   refine rg1 ?_
   refine wmv h rfl fun a h => ?_
   refine wvl h (add h rfl rfl (by omega)) fun a h => ?_
   refine wsn h rfl fun a h => ?_
   exact ⟨_, _, (by omega), ⟨j + 1, _, ps2 ++ [(v1, (d1 + (k : Int)) :: p.2)], (v1, (d1 + (k : Int)) :: p.2) :: pool2, by omega, rfl, rfl, (Hp.intoPool (ys := (d1 + (k : Int)) :: p.2) (hp.pick [0, 1, 2, 3] (by decide) rfl) rfl (by simp; omega)).pick [0, 1, 2] (by decide) (by simp [encS, nth]; rfl), by rw [List.map_append, hJ, take_snoc hp0]; simp, fun r hr => (List.mem_append.1 hr).elim (fun h => List.mem_cons_of_mem _ (hpl2 r h)) (fun h => by rw [List.mem_singleton.1 h]; exact List.mem_cons_self)⟩, h.sub ⟨rfl, rfl, rfl, rfl, rfl, rfl, rfl, rfl, rfl, rfl, rfl, rfl, rfl, rfl, rfl, rfl, rfl, trivial⟩⟩
  have hend2 : j = qs.length := by have := of_decide_eq_false hb3; omega
  subst hend2
  rw [List.take_length] at hJ
  refine wp_exit ?_
  try simp only [xqs, ↓reduceIte, Nat.reduceEqDiff]
  refine rg1 ?_
  refine wmv h rfl fun a h => ?_
  refine wvl h (add h rfl rfl (by omega)) fun a h => ?_
  refine wsn h rfl fun a h => ?_
  exact ⟨_, _, (by omega), ⟨k + 1, _, ps2, pool2, rfl, by omega, congrArg (fun z => [(8, Value.int .i64 z), (7, _)]) (by push_cast; omega : d1 + (k : Int) + 1 = d1 + ((k + 1 : Nat) : Int)), hp.pre 2 rfl, by rw [hJ, lists_snoc, hqs], hpl2⟩, h.sub ⟨rfl, rfl, rfl, rfl, rfl, rfl, trivial⟩⟩
 have hge := of_decide_eq_false hb2
 have hde : daysN k d1 = days d1 (d2 - 1) := days_end (by omega) (by omega)
 rw [hde] at hI
 have hI : ps.map (·.2) = lists (m + 1) d1 d2 := hI
 refine wp_exit ?_
 try simp only [xqs, ↓reduceIte, Nat.reduceEqDiff]
 refine rg ?_
 refine wmv h rfl fun a h => ?_
 refine wsn h rfl fun a h => ?_
 refine wp_ret ?_
 try simp only [xqs]
 refine rt_1 h rfl (rvT h rfl) ?_
 exact ⟨_, rfl, ⟨out, ps, rfl, (rl_of hp rfl rfl hpl).1, hI, (rl_of hp rfl rfl hpl).2⟩, hp.bel⟩
theorem lists_R : ∀ m : Nat, m ≤ 9 → LiS m
 | 0, _ => fun q d1 d2 w hq _ _ _ => lists_0 q d1 d2 w hq
 | m + 1, h => fun q d1 d2 w hq h0 h1 h2 => by
  obtain rfl : q = (m : Int) + 1 := hq
  exact lists_go m d1 d2 w (lists_R m (by omega)) (by omega) h0 h1 h2
set_option maxHeartbeats 2000000 in
theorem Settings_R (x : EV) (e : Eng) (d1 d2 lt : Int) (w : World) (hG : RdG w x e) (hok : isEngine e = true) (hab : 1 ≤ d1 ∧ d2 ≤ 9000 ∧ d2 - d1 ≤ 400 ∧ d1 ≤ d2) (hl : 0 ≤ lt ∧ lt ≤ 30) : Ret Tryz.prog 48 #[.agg #[x.b.v, .int .i64 e.nnum, .int .i64 e.nden, .int .i64 e.nstart, x.s.v, x.m.v, x.n.v, x.f.v, .int .i64 e.new, .int .i64 e.full, .int .i64 e.wide], .int .i64 d1, .int .i64 d2, .int .i64 lt] w fun u w' => (match settings e d1 d2 lt with | some l => ∃ s : SV, u = .tuple #[s.v, .bool true] ∧ Fr w w' encI 1 s.v l | none => u = .tuple #[.slice none 0 0, .bool false]) ∧ Below w.heap.size w w' := by
 have ok := eng_ok hok
 have hf8 : e.feasts.length ≤ 8 := by have := ok.feasts; simp only [Bool.and_eq_true, decide_eq_true_eq] at this; exact this.2
 have hp : Hp c0 w w [] := Hp.start trivial
 refine enter Tryz.func48 rfl (N := 46) rfl rfl fun a h => ?_
 refine rg ?_
 refine wl (box (cs := #[_, _, _, _, _, _, _, _, _, _, _]) h hp rfl rfl fun a w1 g1 hg1 h hp => ?_)
 refine ws2 h rfl rfl rfl rfl fun a h => ?_
 refine wp_seq ?_
 refine rg ?_
 refine wsn h rfl fun a h => ?_
 refine lp1 h [1, 2, 3, 4] (fun n f w' => ∃ k : Nat, k ≤ e.feasts.length + 1 ∧ n = e.feasts.length + 1 - k ∧ f = [(10, .int .i64 k)] ∧ Hp c0 w w' [.blk g1 (.cells #[x.b.v, .int .i64 e.nnum, .int .i64 e.nden, .int .i64 e.nstart, x.s.v, x.m.v, x.n.v, x.f.v, .int .i64 e.new, .int .i64 e.full, .int .i64 e.wide] 32 (0, 0))] ∧ ((List.range k).flatMap (fun n => lists n 0 e.feasts.length)).find? (fun s => (missed e s d1 d2 lt).isEmpty) = none) (e.feasts.length + 1) [(10, .int .i64 ((0 : Nat) : Int))] ⟨rfl, rfl, rfl, rfl, rfl, trivial⟩ ⟨0, Nat.zero_le _, rfl, rfl, hp, rfl⟩ ?_
 rintro n f a w2 ⟨k, hk, rfl, rfl, hp, hI⟩ h
 have hfit := hG.f.fits
 refine wp_seq ?_
 refine rg ?_
 refine wmv h rfl fun a h => ?_
 refine wvl h (fad h rfl fo32_4) fun a h => ?_
 refine wvl h (ldo h hp rfl 0 rfl rfl ag30) fun a h => ?_
 refine wvl h (lenR h rfl Tryz.underlying30 (hG.keep hp cl0).f) fun a h => ?_
 refine wvl h (leq h rfl rfl) fun a h => ?_
 refine wn ?_
 refine cnd1 h rfl (fun hb1 => ?_) (fun hb1 => ?_)
 ·have hlt : k ≤ e.feasts.length := by have := of_decide_eq_true hb1; omega
  refine skp ?_
  refine blk ?_
  refine rg ?_
  refine wvl h (fad h rfl fo32_4) fun a h => ?_
  refine wvl h (ldo h hp rfl 0 rfl rfl ag30) fun a h => ?_
  refine wvl h (lenR h rfl Tryz.underlying30 (hG.keep hp cl0).f) fun a h => ?_
  refine wmv h rfl fun a h => ?_
  refine wl (cal h rfl en106 (lists_R k (by omega) k 0 e.feasts.length _ rfl (by omega) (by omega) (by omega)) fun u w3 ⟨⟨s5, qs, e1, hF, hqs, hD⟩, e2⟩ a h => ?_)
  subst e1
  have hp := hp.keepF (hp.below e2) (F := rlF s5 qs) (D := (rlE s5 qs).D) rl_ok hF hD
  refine wsn h rfl fun a h => ?_
  refine rg ?_
  refine wsn h rfl fun a h => ?_
  refine lp1 h [1, 2, 3, 4, 10, 11, 13, 14, 15, 16, 17, 20, 21, 22, 23, 24] (fun n f w' => ∃ j : Nat, j ≤ qs.length ∧ n = qs.length - j ∧ f = [(12, .int .i64 j)] ∧ Hp c0 w w' [.blk g1 (.cells #[x.b.v, .int .i64 e.nnum, .int .i64 e.nden, .int .i64 e.nstart, x.s.v, x.m.v, x.n.v, x.f.v, .int .i64 e.new, .int .i64 e.full, .int .i64 e.wide] 32 (0, 0)), rlE s5 qs] ∧ ((lists k 0 e.feasts.length).take j).find? (fun s => (missed e s d1 d2 lt).isEmpty) = none) (qs.length) [(12, .int .i64 ((0 : Nat) : Int))] ⟨rfl, rfl, rfl, rfl, rfl, rfl, rfl, rfl, rfl, rfl, rfl, rfl, rfl, rfl, rfl, rfl, rfl, trivial⟩ ⟨0, Nat.zero_le _, rfl, rfl, hp, rfl⟩ ?_
  rintro n f a w4 ⟨j, hj, rfl, rfl, hp, hJ⟩ h
  have hfit2 := (hp.fact (i := 1) rfl : rlF s5 qs _).1.fits
  refine wp_seq ?_
  refine rg ?_
  refine wm2 h rfl rfl rfl rfl fun a h => ?_
  refine wvl h (lenR h rfl Tryz.underlying127 (hp.fact (i := 1) rfl : rlF s5 qs _).1) fun a h => ?_
  refine wvl h (lss h rfl rfl) fun a h => ?_
  refine wn ?_
  refine cnd1 h rfl (fun hb2 => ?_) (fun hb2 => ?_)
  ·have hlt2 : j < qs.length := by have := of_decide_eq_true hb2; omega
   obtain ⟨p, hp0⟩ : ∃ p, qs[j]? = some p := ⟨_, List.getElem?_eq_getElem hlt2⟩
   have hpm : p ∈ qs := List.mem_of_getElem? hp0
   have hp3 : (lists k 0 e.feasts.length)[j]? = some p.2 := by rw [← hqs, List.getElem?_map, hp0]; rfl
   have hset : isSet e p.2 = true := (isSet_iff e p.2).2 (by have := (mem_lists.1 (List.mem_of_getElem? hp3)).2; rwa [Int.sub_zero] at this)
   refine skp ?_
   refine blk ?_
   refine rdh (n := 11) hp mixed rfl ?_
   have hp := hp.drew
   refine tkq 0 h rfl hp (fun W hp => ldO (us := [_, _, _, _, _, _, _, _, _, _, _]) h hp rfl 0 rfl sz32 rfl ag32) fun a h => ?_
   refine tkm 1 h rfl hp rfl fun a h => ?_
   refine tkm 2 h rfl hp rfl fun a h => ?_
   refine tkq 3 h rfl hp (fun W hp => iadR (j) h rfl rfl Tryz.underlying127 sz30 (hp.fact (i := 1) rfl : rlF s5 qs _).1 (rfl) (hlt2)) fun a h => ?_
   refine tkq 4 h rfl hp (fun W hp => ld0 h (hp.fact (i := 1) rfl : rlF s5 qs _).1 hp0 rfl ag30 rfl) fun a h => ?_
   refine tkm 5 h rfl hp rfl fun a h => ?_
   refine tkm 6 h rfl hp rfl fun a h => ?_
   refine tkm 7 h rfl hp rfl fun a h => ?_
   refine one 8 (by kernel_rfl) rfl (cal h rfl en41 (Missed_R x e p.1 p.2 _ _ _ _ ⟨hG.keep hp cl0, (hp.fact (i := 1) rfl : rlF s5 qs _).2 p hpm, hok, hset⟩ (by omega) (by omega)) fun u w5 ⟨⟨s22, e1, hf⟩, e2⟩ a h => ⟨((hp.below e2).pre 2 rfl), ?_⟩)
   subst e1
   have hp := hp.got (hp.below e2) (by decide) hf
   refine one 9 (by kernel_rfl) rfl (vl h (lenR h rfl Tryz.underlying50 (hp.rdF (i := 2) rfl)) fun a h => ⟨((hp).pre 2 rfl), ?_⟩)
   refine tkq 10 h rfl ((hp).pre 2 rfl) (fun W _ => eqi h rfl rfl) fun a h => ?_
   refine dn (by kernel_rfl) ?_
   refine cnd1 h rfl (fun hb3 => ?_) (fun hb3 => ?_)
   ·have hz : (fun s => (missed e s d1 d2 lt).isEmpty) p.2 = true := by show (missed e p.2 d1 d2 lt).isEmpty = _; rw [← len0]; exact hb3
    have hst : settings e d1 d2 lt = some p.2 := by
     obtain ⟨post, hpo⟩ := range_split (fun n => lists n 0 e.feasts.length) (show k < e.feasts.length + 1 by omega)
     rw [← settings_eq, refSettings, hpo]
     exact find_hit hI hJ hp3 hz
    refine rg ?_
    refine wm2 h rfl rfl rfl rfl fun a h => ?_
    refine wvl h (iadR (j) h rfl rfl Tryz.underlying127 sz30 (hp.fact (i := 1) rfl : rlF s5 qs _).1 (rfl) (hlt2)) fun a h => ?_
    refine wvl h (ld0 h (hp.fact (i := 1) rfl : rlF s5 qs _).1 hp0 rfl ag30 rfl) fun a h => ?_
    refine ws2 h rfl rfl rfl rfl fun a h => ?_
    refine wp_ret ?_
    try simp only [xqs]
    refine rt_2 h rfl (rvT h rfl) (rvT h rfl) ?_
    refine ⟨_, rfl, ?_, hp.bel⟩
    rw [hst]
    exact ⟨p.1, rfl, ⟨(hp.fact (i := 1) rfl : rlF s5 qs _).2 p hpm, fun hl => ((hp.at' (p := rlE s5 qs) (by simp)).2.2 _ (.inr ⟨p, hpm, hl, rfl⟩)).1⟩⟩
   have hz : (fun s => (missed e s d1 d2 lt).isEmpty) p.2 = false := by show (missed e p.2 d1 d2 lt).isEmpty = _; rw [← len0]; exact hb3
   refine wp_skip ?_
   refine rg1 ?_
   refine wmv h rfl fun a h => ?_
   refine wvl h (add h rfl rfl (by omega)) fun a h => ?_
   refine wsn h rfl fun a h => ?_
   exact ⟨_, _, (by omega), ⟨j + 1, by omega, rfl, rfl, hp.pre 2 rfl, find_snoc hJ hp3 hz⟩, h.sub ⟨rfl, rfl, rfl, rfl, rfl, rfl, rfl, rfl, rfl, rfl, rfl, rfl, rfl, rfl, rfl, rfl, rfl, trivial⟩⟩
  have hend2 : j = qs.length := by have := of_decide_eq_false hb2; omega
  have hJ : (lists k 0 e.feasts.length).find? (fun s => (missed e s d1 d2 lt).isEmpty) = none := by rw [List.take_of_length_le (by rw [hend2, ← hqs, List.length_map]; exact Nat.le_refl _)] at hJ; exact hJ
  refine wp_exit ?_
  try simp only [xqs, ↓reduceIte, Nat.reduceEqDiff]
  refine rg1 ?_
  refine wmv h rfl fun a h => ?_
  refine wvl h (add h rfl rfl (by omega)) fun a h => ?_
  refine wsn h rfl fun a h => ?_
  exact ⟨_, _, (by omega), ⟨k + 1, by omega, rfl, rfl, hp.pre 1 rfl, by rw [range_snoc (fun n => lists n 0 e.feasts.length) k, List.find?_append, hI, Option.none_or, hJ]⟩, h.sub ⟨rfl, rfl, rfl, rfl, rfl, trivial⟩⟩
 have hend : k = e.feasts.length + 1 := by have := of_decide_eq_false hb1; omega
 subst hend
 have hst : settings e d1 d2 lt = none := by rw [← settings_eq]; exact hI
 refine wp_exit ?_
 try simp only [xqs, ↓reduceIte, Nat.reduceEqDiff]
 refine rg ?_
 refine ws2 h rfl rfl rfl rfl fun a h => ?_
 refine wp_ret ?_
 try simp only [xqs]
 refine rt_2 h rfl (rvT h rfl) (rvT h rfl) ?_
 refine ⟨_, rfl, ?_, hp.bel⟩
 rw [hst]
end Go.Proofs.Ec
