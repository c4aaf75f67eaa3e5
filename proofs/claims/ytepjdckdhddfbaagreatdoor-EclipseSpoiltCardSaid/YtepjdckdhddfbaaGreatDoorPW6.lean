import Derived.Test.YtepjdckdhddfbaaGreatDoorProg
import Derived.Test.YtepjdckdhddfbaaGreatDoorPFa
import Derived.Test.YtepjdckdhddfbaaGreatDoorPQb
import Derived.Test.YtepjdckdhddfbaaGreatDoorPQc
import Derived.Test.YtepjdckdhddfbaaGreatDoorPW5
set_option linter.unusedVariables false
set_option linter.unusedSimpArgs false
set_option maxRecDepth 4000
namespace Go.Proofs.Ec
open Go.RowKit Go.Proofs.Sx
open Ecl
abbrev kqD (x : EV) (e : Eng) (a b : Int) (ga gb gs : Nat) : En := .fct (fun k => k = ga ∨ k = gb ∨ k = gs) (fun W => W.heap[ga]? = some (.cells #[.int .i64 a] 3 (0, 0)) ∧ W.heap[gb]? = some (.cells #[.int .i64 b] 3 (0, 0)) ∧ W.heap[gs]? = some (.cells (skyC x e) 72 (0, 0)))
abbrev encDay (x : EV) (e : Eng) (t : Int) : Array Value := #[.agg #[x.b.v, .int .i64 e.nnum, .int .i64 e.nden, .int .i64 e.nstart, .int .i64 t]]
theorem days_s (x : EV) (e : Eng) (d1 d2 : Int) (w : World) : Ret Tryz.prog 149 #[.agg #[x.b.v, .int .i64 e.nnum, .int .i64 e.nden, .int .i64 e.nstart], .int .i64 d1, .int .i64 d2] w fun u w' => (∃ ga gb gs, u = .func (.func 174) #[] #[.pointer (some ⟨ga, 0, none⟩), .pointer (some ⟨gb, 0, none⟩), .pointer (some ⟨gs, 0, none⟩)] ∧ (kqD x e d1 d2 ga gb gs).F 0 w' ∧ ∀ k, (kqD x e d1 d2 ga gb gs).D k → w.heap.size ≤ k ∧ k < w'.heap.size) ∧ Below w.heap.size w w' := by
 have hp : Hp c0 w w [] := Hp.start trivial
 refine enter Tryz.func149 rfl (N := 8) rfl rfl fun a h => ?_
 refine rg ?_
 refine wl (box (cs := #[_, _, _, _]) h hp rfl rfl fun a w1 g1 hg1 h hp => ?_)
 refine wl (box (cs := #[_]) h hp rfl rfl fun a w2 g2 hg2 h hp => ?_)
 refine wl (box (cs := #[_]) h hp rfl rfl fun a w3 g3 hg3 h hp => ?_)
 refine wsn h rfl fun a h => ?_
 refine rg ?_
 refine wvl h (mkf h rfl rfl) fun a h => ?_
 refine wsn h rfl fun a h => ?_
 refine wp_ret ?_
 try simp only [xqs]
 refine rt_1 h rfl (rvT h rfl) ?_
 exact ⟨_, rfl, ⟨g2, g3, g1, rfl, ⟨hp.fact (i := 1) rfl, hp.fact (i := 2) rfl, hp.fact (i := 0) rfl⟩, by rintro k (rfl | rfl | rfl) <;> first | exact hp.bnd (i := 1) rfl | exact hp.bnd (i := 2) rfl | exact hp.bnd (i := 0) rfl⟩, hp.bel⟩
theorem days_q {c : Cx} {w0 : World} (x : EV) (e : Eng) (d1 d2 : Int) (ga gb gs : Nat) (ha : -1000000 ≤ d1 ∧ d1 ≤ 1000000) (hb : -1000000 ≤ d2 ∧ d2 ≤ 1000000) : Seq Tryz.prog 174 #[.pointer (some ⟨ga, 0, none⟩), .pointer (some ⟨gb, 0, none⟩), .pointer (some ⟨gs, 0, none⟩)] (encDay x e) (days d1 d2) c w0 (kqD x e d1 d2 ga gb gs) := by
 intro lr JJ JX hl w hJ hp hy
 refine enterI Tryz.func174 rfl (N := 18) rfl rfl fun a h => ?_
 refine rgI ?_
 refine wlI (stI (vl h (ldk h ((Hp.lastF hp).1) rfl rfl ag3) fun a h => ?_))
 refine wlI (stI (vl h (asg h rfl) fun a h => ?_))
 refine wnI ?_
 refine lp1I h [0, 2, 3] (fun n f w' => ∃ (k : Nat) (hl' : HL), n = (d2 + 1 - (d1 + k)).toNat ∧ (d1 + k ≤ d2 + 1 ∨ k = 0) ∧ f = [(5, .int .i64 (d1 + k))] ∧ JJ (daysN k d1) hl' ∧ Hp c w0 w' (hl' ++ [kqD x e d1 d2 ga gb gs])) ((d2 + 1 - d1).toNat) [(5, .int .i64 d1)] ⟨rfl, rfl, rfl, rfl, trivial⟩ ⟨0, hl, by simp, .inr rfl, by simp, hJ, hp⟩ ?_
 rintro n f a w1 ⟨k, hl1, rfl, hk, rfl, hJ, hp⟩ h
 refine sqI ?_
 refine rgI ?_
 refine wlI (stI (vl h (mov h rfl) fun a h => ?_))
 refine wlI (stI (vl h (ldk h ((Hp.lastF hp).2.1) rfl rfl ag3) fun a h => ?_))
 refine wlI (stI (vl h (leq h rfl rfl) fun a h => ?_))
 refine wnI ?_
 refine cnd1I h rfl (fun hb1 => ?_) (fun hb1 => ?_)
 ·have hlt := of_decide_eq_true hb1
  refine skpI ?_
  refine blkI ?_
  refine rgI ?_
  refine wlI (stI (vl h (mov h rfl) fun a h => ?_))
  refine wlI (stI (vl h (ldK (us := [_, _, _, _]) h ((Hp.lastF hp).2.2) rfl sz72 rfl ag72) fun a h => ?_))
  refine wlI (stI (vl h (mov h rfl) fun a h => ?_))
  refine wlI (stI (vl h (bld h rfl (bl147_0_1 _ _ _ _ _ _ _ _)) fun a h => ?_))
  refine wlI (yld h rfl rfl (hy _ (d1 + k) hl1 _ _ (days_pre hlt) hJ hp) fun bq w2 hq a h => ?_)
  obtain ⟨hl2, hj2, hp⟩ := hq
  refine wlI (stI (vl h (not_ h rfl) fun a h => ?_))
  refine wnI ?_
  refine cnd1I h rfl (fun hb2 => ?_) (fun hb2 => ?_)
  ·have hb2 : bq = false := by simpa using hb2
   subst hb2
   refine wpIn_ret ?_
   try simp only [xqs, ↓reduceIte, Nat.reduceEqDiff]
   refine rt0' h rfl ?_
   exact ⟨⟨_, rfl⟩, hl2, .inr ⟨_, days_pre hlt, hj2⟩, hp.ini⟩
  have hb2 : bq = true := by simpa using hb2
  subst hb2
  refine wpIn_skip ?_
  refine rg1I ?_
  refine wlI (stI (vl h (mov h rfl) fun a h => ?_))
  refine wlI (stI (vl h (add h rfl rfl (by omega)) fun a h => ?_))
  refine wlI (stI (vl h (asg h rfl) fun a h => ?_))
  refine wnI ?_
  exact ⟨_, _, (by omega), ⟨k + 1, hl2, rfl, by omega, congrArg (fun z => [(5, Value.int .i64 z)]) (by push_cast; omega : d1 + (k : Int) + 1 = d1 + ((k + 1 : Nat) : Int)), by rw [daysN_snoc]; exact hj2, hp⟩, h.sub ⟨rfl, rfl, rfl, rfl, trivial⟩⟩
 have hge := of_decide_eq_false hb1
 refine wpIn_exit ?_
 try simp only [xqs, ↓reduceIte, Nat.reduceEqDiff]
 refine rt0 h rfl ?_
 exact ⟨⟨_, rfl⟩, hl1, .inl (by rw [← days_end hge hk]; exact hJ), hp.ini⟩
theorem moons1_new_s {c : Cx} {w0 : World} {hl : HL} (x : EV) (e : Eng) (t : Int) (gx go : Nat) (s : SV) (ms : List (Int × Bool)) (w : World) (hp : Hp c w0 w (.blk gx (.cells #[x.b.v, .int .i64 e.nnum, .int .i64 e.nden, .int .i64 e.nstart, .int .i64 t] 147 (0, 0)) :: .blk go (.cells #[s.v] 182 (0, 0)) :: .buf 185 2 s.v ms.length (ms.flatMap encMoon) :: hl)) (hS : RdS w0 x e) (hcl : Cl c w0) (hsk : isSky e = true) (ht : 1 ≤ t ∧ t ≤ 20000) (hn : ms.length ≤ 2000) : Ret Tryz.prog 150 #[.iface 203 (.agg #[]), .pointer (some ⟨gx, 0, none⟩), .pointer (some ⟨go, 0, none⟩)] w fun u w' => u = .tuple #[] ∧ ∃ s' : SV, Hp c w0 w' (.blk gx (.cells #[x.b.v, .int .i64 e.nnum, .int .i64 e.nden, .int .i64 e.nstart, .int .i64 t] 147 (0, 0)) :: .blk go (.cells #[s'.v] 182 (0, 0)) :: .buf 185 2 s'.v (ms ++ (if skyMoon e t false then [(t, false)] else [])).length ((ms ++ (if skyMoon e t false then [(t, false)] else [])).flatMap encMoon) :: hl) := by
 refine enter Tryz.func150 rfl (N := 15) rfl rfl fun a h => ?_
 refine rg ?_
 refine wvl h (ldK (us := [_, _, _, _, _]) h ((hp.at' (p := .blk gx (.cells #[x.b.v, .int .i64 e.nnum, .int .i64 e.nden, .int .i64 e.nstart, .int .i64 t] 147 (0, 0))) (by simp)).2.1) rfl sz147 rfl ag147) fun a h => ?_
 refine wmv h rfl fun a h => ?_
 refine wl (cal h rfl en151 (has_new_s x e t _ (hS.keep hp hcl) hsk ht) fun u w1 ⟨e1, e2⟩ a h => ?_)
 subst e1
 have hp := hp.below e2
 refine wn ?_
 refine cnd1 h rfl (fun hb1 => ?_) (fun hb1 => ?_)
 ·refine rdr1 (n := 9) (fun W => W.heap[gx]? = some (.cells #[x.b.v, .int .i64 e.nnum, .int .i64 e.nden, .int .i64 e.nstart, .int .i64 t] 147 (0, 0))) mixed rfl ?_
  have hp := hp.drew
  refine tkq 1 h rfl (((hp).at' (p := .blk gx (.cells #[x.b.v, .int .i64 e.nnum, .int .i64 e.nden, .int .i64 e.nstart, .int .i64 t] 147 (0, 0))) (by simp)).2.1) (fun W _ => fad h rfl fo147_1) fun a h => ?_
  refine tkq 2 h rfl (((hp).at' (p := .blk gx (.cells #[x.b.v, .int .i64 e.nnum, .int .i64 e.nden, .int .i64 e.nstart, .int .i64 t] 147 (0, 0))) (by simp)).2.1) (fun W hp => ldk h (hp) rfl rfl ag3) fun a h => ?_
  refine tkm 3 h rfl (((hp).at' (p := .blk gx (.cells #[x.b.v, .int .i64 e.nnum, .int .i64 e.nden, .int .i64 e.nstart, .int .i64 t] 147 (0, 0))) (by simp)).2.1) rfl fun a h => ?_
  refine two 0 4 (by kernel_rfl) rfl rfl ?_ ?_
  ·refine (vl h (ldo h hp rfl 1 rfl rfl ag182) fun a h => ⟨(((hp).at' (p := .blk gx (.cells #[x.b.v, .int .i64 e.nnum, .int .i64 e.nden, .int .i64 e.nstart, .int .i64 t] 147 (0, 0))) (by simp)).2.1), ?_⟩)
   refine one 4 (by kernel_rfl) rfl (ivk h rfl cm203_214 (full_new_s _) fun u w2 ⟨e1, e2⟩ a h => ⟨(((hp.below e2).at' (p := .blk gx (.cells #[x.b.v, .int .i64 e.nnum, .int .i64 e.nden, .int .i64 e.nstart, .int .i64 t] 147 (0, 0))) (by simp)).2.1), ?_⟩)
   subst e1
   have hp := hp.below e2
   refine tkq 5 h rfl (((hp).at' (p := .blk gx (.cells #[x.b.v, .int .i64 e.nnum, .int .i64 e.nden, .int .i64 e.nstart, .int .i64 t] 147 (0, 0))) (by simp)).2.1) (fun W _ => bld h rfl (bl185_0_1 _ _ _)) fun a h => ?_
   refine one 6 (by kernel_rfl) rfl (bsl h hp rfl (bs182_1_0 _ _) fun a w3 g1 hg1 h hp => ⟨(((hp).at' (p := .blk gx (.cells #[x.b.v, .int .i64 e.nnum, .int .i64 e.nden, .int .i64 e.nstart, .int .i64 t] 147 (0, 0))) (by simp)).2.1), ?_⟩)
   have hp := hp.front
   refine one 7 (by kernel_rfl) rfl (app1 3 h hp rfl rfl rfl ap182 0 rfl rfl rfl (by omega) (by omega) fun a w4 v h hp => ⟨(((hp).at' (p := .blk gx (.cells #[x.b.v, .int .i64 e.nnum, .int .i64 e.nden, .int .i64 e.nstart, .int .i64 t] 147 (0, 0))) (by simp)).2.1), ?_⟩)
   refine one 8 (by kernel_rfl) rfl (st1 h hp rfl rfl 2 rfl rfl sz182 rfl fun w5 hp => ⟨(((hp).at' (p := .blk gx (.cells #[x.b.v, .int .i64 e.nnum, .int .i64 e.nden, .int .i64 e.nstart, .int .i64 t] 147 (0, 0))) (by simp)).2.1), ?_⟩)
   refine dn (by kernel_rfl) ?_
   try simp only [xqs, ↓reduceIte, Nat.reduceEqDiff]
   refine rt0 h rfl ?_
   first | (refine ⟨_, rfl, rfl, s, ?_⟩; rw [hb1]; simpa using hp) | (refine ⟨_, rfl, rfl, v, ?_⟩; rw [hb1]; simpa [encMoon] using hp.tail)
  refine (ivk h rfl cm203_214 (full_new_s _) fun u w6 ⟨e1, e2⟩ a h => ⟨(((hp.below e2).at' (p := .blk gx (.cells #[x.b.v, .int .i64 e.nnum, .int .i64 e.nden, .int .i64 e.nstart, .int .i64 t] 147 (0, 0))) (by simp)).2.1), ?_⟩)
  subst e1
  have hp := hp.below e2
  refine tkq 5 h rfl (((hp).at' (p := .blk gx (.cells #[x.b.v, .int .i64 e.nnum, .int .i64 e.nden, .int .i64 e.nstart, .int .i64 t] 147 (0, 0))) (by simp)).2.1) (fun W _ => bld h rfl (bl185_0_1 _ _ _)) fun a h => ?_
  refine two 0 6 (by kernel_rfl) rfl rfl ?_ ?_
  ·refine (vl h (ldo h hp rfl 1 rfl rfl ag182) fun a h => ⟨(((hp).at' (p := .blk gx (.cells #[x.b.v, .int .i64 e.nnum, .int .i64 e.nden, .int .i64 e.nstart, .int .i64 t] 147 (0, 0))) (by simp)).2.1), ?_⟩)
   refine one 6 (by kernel_rfl) rfl (bsl h hp rfl (bs182_1_0 _ _) fun a w7 g2 hg2 h hp => ⟨(((hp).at' (p := .blk gx (.cells #[x.b.v, .int .i64 e.nnum, .int .i64 e.nden, .int .i64 e.nstart, .int .i64 t] 147 (0, 0))) (by simp)).2.1), ?_⟩)
   have hp := hp.front
   refine one 7 (by kernel_rfl) rfl (app1 3 h hp rfl rfl rfl ap182 0 rfl rfl rfl (by omega) (by omega) fun a w8 v h hp => ⟨(((hp).at' (p := .blk gx (.cells #[x.b.v, .int .i64 e.nnum, .int .i64 e.nden, .int .i64 e.nstart, .int .i64 t] 147 (0, 0))) (by simp)).2.1), ?_⟩)
   refine one 8 (by kernel_rfl) rfl (st1 h hp rfl rfl 2 rfl rfl sz182 rfl fun w9 hp => ⟨(((hp).at' (p := .blk gx (.cells #[x.b.v, .int .i64 e.nnum, .int .i64 e.nden, .int .i64 e.nstart, .int .i64 t] 147 (0, 0))) (by simp)).2.1), ?_⟩)
   refine dn (by kernel_rfl) ?_
   try simp only [xqs, ↓reduceIte, Nat.reduceEqDiff]
   refine rt0 h rfl ?_
   first | (refine ⟨_, rfl, rfl, s, ?_⟩; rw [hb1]; simpa using hp) | (refine ⟨_, rfl, rfl, v, ?_⟩; rw [hb1]; simpa [encMoon] using hp.tail)
  refine (bsl h hp rfl (bs182_1_0 _ _) fun a w10 g3 hg3 h hp => ⟨(((hp).at' (p := .blk gx (.cells #[x.b.v, .int .i64 e.nnum, .int .i64 e.nden, .int .i64 e.nstart, .int .i64 t] 147 (0, 0))) (by simp)).2.1), ?_⟩)
  have hp := hp.front
  refine one 0 (by kernel_rfl) rfl (vl h (ldo h hp rfl 2 rfl rfl ag182) fun a h => ⟨(((hp).at' (p := .blk gx (.cells #[x.b.v, .int .i64 e.nnum, .int .i64 e.nden, .int .i64 e.nstart, .int .i64 t] 147 (0, 0))) (by simp)).2.1), ?_⟩)
  refine one 7 (by kernel_rfl) rfl (app1 3 h hp rfl rfl rfl ap182 0 rfl rfl rfl (by omega) (by omega) fun a w11 v h hp => ⟨(((hp).at' (p := .blk gx (.cells #[x.b.v, .int .i64 e.nnum, .int .i64 e.nden, .int .i64 e.nstart, .int .i64 t] 147 (0, 0))) (by simp)).2.1), ?_⟩)
  refine one 8 (by kernel_rfl) rfl (st1 h hp rfl rfl 2 rfl rfl sz182 rfl fun w12 hp => ⟨(((hp).at' (p := .blk gx (.cells #[x.b.v, .int .i64 e.nnum, .int .i64 e.nden, .int .i64 e.nstart, .int .i64 t] 147 (0, 0))) (by simp)).2.1), ?_⟩)
  refine dn (by kernel_rfl) ?_
  try simp only [xqs, ↓reduceIte, Nat.reduceEqDiff]
  refine rt0 h rfl ?_
  first | (refine ⟨_, rfl, rfl, s, ?_⟩; rw [hb1]; simpa using hp) | (refine ⟨_, rfl, rfl, v, ?_⟩; rw [hb1]; simpa [encMoon] using hp.tail)
 refine wp_skip ?_
 refine rt0 h rfl ?_
 first | (refine ⟨_, rfl, rfl, s, ?_⟩; rw [hb1]; simpa using hp) | (refine ⟨_, rfl, rfl, v, ?_⟩; rw [hb1]; simpa [encMoon] using hp.tail)
theorem moons1_full_s {c : Cx} {w0 : World} {hl : HL} (x : EV) (e : Eng) (t : Int) (gx go : Nat) (s : SV) (ms : List (Int × Bool)) (w : World) (hp : Hp c w0 w (.blk gx (.cells #[x.b.v, .int .i64 e.nnum, .int .i64 e.nden, .int .i64 e.nstart, .int .i64 t] 147 (0, 0)) :: .blk go (.cells #[s.v] 182 (0, 0)) :: .buf 185 2 s.v ms.length (ms.flatMap encMoon) :: hl)) (hS : RdS w0 x e) (hcl : Cl c w0) (hsk : isSky e = true) (ht : 1 ≤ t ∧ t ≤ 20000) (hn : ms.length ≤ 2000) : Ret Tryz.prog 150 #[.iface 204 (.agg #[]), .pointer (some ⟨gx, 0, none⟩), .pointer (some ⟨go, 0, none⟩)] w fun u w' => u = .tuple #[] ∧ ∃ s' : SV, Hp c w0 w' (.blk gx (.cells #[x.b.v, .int .i64 e.nnum, .int .i64 e.nden, .int .i64 e.nstart, .int .i64 t] 147 (0, 0)) :: .blk go (.cells #[s'.v] 182 (0, 0)) :: .buf 185 2 s'.v (ms ++ (if skyMoon e t true then [(t, true)] else [])).length ((ms ++ (if skyMoon e t true then [(t, true)] else [])).flatMap encMoon) :: hl) := by
 refine enter Tryz.func150 rfl (N := 15) rfl rfl fun a h => ?_
 refine rg ?_
 refine wvl h (ldK (us := [_, _, _, _, _]) h ((hp.at' (p := .blk gx (.cells #[x.b.v, .int .i64 e.nnum, .int .i64 e.nden, .int .i64 e.nstart, .int .i64 t] 147 (0, 0))) (by simp)).2.1) rfl sz147 rfl ag147) fun a h => ?_
 refine wmv h rfl fun a h => ?_
 refine wl (cal h rfl en151 (has_full_s x e t _ (hS.keep hp hcl) hsk ht) fun u w1 ⟨e1, e2⟩ a h => ?_)
 subst e1
 have hp := hp.below e2
 refine wn ?_
 refine cnd1 h rfl (fun hb1 => ?_) (fun hb1 => ?_)
 ·refine rdr1 (n := 9) (fun W => W.heap[gx]? = some (.cells #[x.b.v, .int .i64 e.nnum, .int .i64 e.nden, .int .i64 e.nstart, .int .i64 t] 147 (0, 0))) mixed rfl ?_
  have hp := hp.drew
  refine tkq 1 h rfl (((hp).at' (p := .blk gx (.cells #[x.b.v, .int .i64 e.nnum, .int .i64 e.nden, .int .i64 e.nstart, .int .i64 t] 147 (0, 0))) (by simp)).2.1) (fun W _ => fad h rfl fo147_1) fun a h => ?_
  refine tkq 2 h rfl (((hp).at' (p := .blk gx (.cells #[x.b.v, .int .i64 e.nnum, .int .i64 e.nden, .int .i64 e.nstart, .int .i64 t] 147 (0, 0))) (by simp)).2.1) (fun W hp => ldk h (hp) rfl rfl ag3) fun a h => ?_
  refine tkm 3 h rfl (((hp).at' (p := .blk gx (.cells #[x.b.v, .int .i64 e.nnum, .int .i64 e.nden, .int .i64 e.nstart, .int .i64 t] 147 (0, 0))) (by simp)).2.1) rfl fun a h => ?_
  refine two 0 4 (by kernel_rfl) rfl rfl ?_ ?_
  ·refine (vl h (ldo h hp rfl 1 rfl rfl ag182) fun a h => ⟨(((hp).at' (p := .blk gx (.cells #[x.b.v, .int .i64 e.nnum, .int .i64 e.nden, .int .i64 e.nstart, .int .i64 t] 147 (0, 0))) (by simp)).2.1), ?_⟩)
   refine one 4 (by kernel_rfl) rfl (ivk h rfl cm204_215 (full_full_s _) fun u w2 ⟨e1, e2⟩ a h => ⟨(((hp.below e2).at' (p := .blk gx (.cells #[x.b.v, .int .i64 e.nnum, .int .i64 e.nden, .int .i64 e.nstart, .int .i64 t] 147 (0, 0))) (by simp)).2.1), ?_⟩)
   subst e1
   have hp := hp.below e2
   refine tkq 5 h rfl (((hp).at' (p := .blk gx (.cells #[x.b.v, .int .i64 e.nnum, .int .i64 e.nden, .int .i64 e.nstart, .int .i64 t] 147 (0, 0))) (by simp)).2.1) (fun W _ => bld h rfl (bl185_0_1 _ _ _)) fun a h => ?_
   refine one 6 (by kernel_rfl) rfl (bsl h hp rfl (bs182_1_0 _ _) fun a w3 g1 hg1 h hp => ⟨(((hp).at' (p := .blk gx (.cells #[x.b.v, .int .i64 e.nnum, .int .i64 e.nden, .int .i64 e.nstart, .int .i64 t] 147 (0, 0))) (by simp)).2.1), ?_⟩)
   have hp := hp.front
   refine one 7 (by kernel_rfl) rfl (app1 3 h hp rfl rfl rfl ap182 0 rfl rfl rfl (by omega) (by omega) fun a w4 v h hp => ⟨(((hp).at' (p := .blk gx (.cells #[x.b.v, .int .i64 e.nnum, .int .i64 e.nden, .int .i64 e.nstart, .int .i64 t] 147 (0, 0))) (by simp)).2.1), ?_⟩)
   refine one 8 (by kernel_rfl) rfl (st1 h hp rfl rfl 2 rfl rfl sz182 rfl fun w5 hp => ⟨(((hp).at' (p := .blk gx (.cells #[x.b.v, .int .i64 e.nnum, .int .i64 e.nden, .int .i64 e.nstart, .int .i64 t] 147 (0, 0))) (by simp)).2.1), ?_⟩)
   refine dn (by kernel_rfl) ?_
   try simp only [xqs, ↓reduceIte, Nat.reduceEqDiff]
   refine rt0 h rfl ?_
   first | (refine ⟨_, rfl, rfl, s, ?_⟩; rw [hb1]; simpa using hp) | (refine ⟨_, rfl, rfl, v, ?_⟩; rw [hb1]; simpa [encMoon] using hp.tail)
  refine (ivk h rfl cm204_215 (full_full_s _) fun u w6 ⟨e1, e2⟩ a h => ⟨(((hp.below e2).at' (p := .blk gx (.cells #[x.b.v, .int .i64 e.nnum, .int .i64 e.nden, .int .i64 e.nstart, .int .i64 t] 147 (0, 0))) (by simp)).2.1), ?_⟩)
  subst e1
  have hp := hp.below e2
  refine tkq 5 h rfl (((hp).at' (p := .blk gx (.cells #[x.b.v, .int .i64 e.nnum, .int .i64 e.nden, .int .i64 e.nstart, .int .i64 t] 147 (0, 0))) (by simp)).2.1) (fun W _ => bld h rfl (bl185_0_1 _ _ _)) fun a h => ?_
  refine two 0 6 (by kernel_rfl) rfl rfl ?_ ?_
  ·refine (vl h (ldo h hp rfl 1 rfl rfl ag182) fun a h => ⟨(((hp).at' (p := .blk gx (.cells #[x.b.v, .int .i64 e.nnum, .int .i64 e.nden, .int .i64 e.nstart, .int .i64 t] 147 (0, 0))) (by simp)).2.1), ?_⟩)
   refine one 6 (by kernel_rfl) rfl (bsl h hp rfl (bs182_1_0 _ _) fun a w7 g2 hg2 h hp => ⟨(((hp).at' (p := .blk gx (.cells #[x.b.v, .int .i64 e.nnum, .int .i64 e.nden, .int .i64 e.nstart, .int .i64 t] 147 (0, 0))) (by simp)).2.1), ?_⟩)
   have hp := hp.front
   refine one 7 (by kernel_rfl) rfl (app1 3 h hp rfl rfl rfl ap182 0 rfl rfl rfl (by omega) (by omega) fun a w8 v h hp => ⟨(((hp).at' (p := .blk gx (.cells #[x.b.v, .int .i64 e.nnum, .int .i64 e.nden, .int .i64 e.nstart, .int .i64 t] 147 (0, 0))) (by simp)).2.1), ?_⟩)
   refine one 8 (by kernel_rfl) rfl (st1 h hp rfl rfl 2 rfl rfl sz182 rfl fun w9 hp => ⟨(((hp).at' (p := .blk gx (.cells #[x.b.v, .int .i64 e.nnum, .int .i64 e.nden, .int .i64 e.nstart, .int .i64 t] 147 (0, 0))) (by simp)).2.1), ?_⟩)
   refine dn (by kernel_rfl) ?_
   try simp only [xqs, ↓reduceIte, Nat.reduceEqDiff]
   refine rt0 h rfl ?_
   first | (refine ⟨_, rfl, rfl, s, ?_⟩; rw [hb1]; simpa using hp) | (refine ⟨_, rfl, rfl, v, ?_⟩; rw [hb1]; simpa [encMoon] using hp.tail)
  refine (bsl h hp rfl (bs182_1_0 _ _) fun a w10 g3 hg3 h hp => ⟨(((hp).at' (p := .blk gx (.cells #[x.b.v, .int .i64 e.nnum, .int .i64 e.nden, .int .i64 e.nstart, .int .i64 t] 147 (0, 0))) (by simp)).2.1), ?_⟩)
  have hp := hp.front
  refine one 0 (by kernel_rfl) rfl (vl h (ldo h hp rfl 2 rfl rfl ag182) fun a h => ⟨(((hp).at' (p := .blk gx (.cells #[x.b.v, .int .i64 e.nnum, .int .i64 e.nden, .int .i64 e.nstart, .int .i64 t] 147 (0, 0))) (by simp)).2.1), ?_⟩)
  refine one 7 (by kernel_rfl) rfl (app1 3 h hp rfl rfl rfl ap182 0 rfl rfl rfl (by omega) (by omega) fun a w11 v h hp => ⟨(((hp).at' (p := .blk gx (.cells #[x.b.v, .int .i64 e.nnum, .int .i64 e.nden, .int .i64 e.nstart, .int .i64 t] 147 (0, 0))) (by simp)).2.1), ?_⟩)
  refine one 8 (by kernel_rfl) rfl (st1 h hp rfl rfl 2 rfl rfl sz182 rfl fun w12 hp => ⟨(((hp).at' (p := .blk gx (.cells #[x.b.v, .int .i64 e.nnum, .int .i64 e.nden, .int .i64 e.nstart, .int .i64 t] 147 (0, 0))) (by simp)).2.1), ?_⟩)
  refine dn (by kernel_rfl) ?_
  try simp only [xqs, ↓reduceIte, Nat.reduceEqDiff]
  refine rt0 h rfl ?_
  first | (refine ⟨_, rfl, rfl, s, ?_⟩; rw [hb1]; simpa using hp) | (refine ⟨_, rfl, rfl, v, ?_⟩; rw [hb1]; simpa [encMoon] using hp.tail)
 refine wp_skip ?_
 refine rt0 h rfl ?_
 first | (refine ⟨_, rfl, rfl, s, ?_⟩; rw [hb1]; simpa using hp) | (refine ⟨_, rfl, rfl, v, ?_⟩; rw [hb1]; simpa [encMoon] using hp.tail)
theorem moons_s (x : EV) (e : Eng) (d1 d2 : Int) (w : World) (hS : RdS w x e) (hsk : isSky e = true) (hab : (1 ≤ d1 ∧ d1 ≤ 20000) ∧ (d1 ≤ d2 ∧ d2 ≤ 20000) ∧ d2 - d1 ≤ 800) : Ret Tryz.prog 132 #[.agg #[x.b.v, .int .i64 e.nnum, .int .i64 e.nden, .int .i64 e.nstart], .int .i64 d1, .int .i64 d2] w fun u w' => (∃ s : SV, u = s.v ∧ Fr w w' encMoon 2 s.v (moonsAll e d1 d2)) ∧ Below w.heap.size w w' := by
 have hp : Hp c0 w w [] := Hp.start trivial
 refine enterM Tryz.func132 rfl (N := 25) rfl rfl fun a h => ?_
 refine rg ?_
 refine wl (box (cs := #[_, _, _, _]) h hp rfl rfl fun a w1 g1 hg1 h hp => ?_)
 refine wsn h rfl fun a h => ?_
 refine rg ?_
 refine wl (all h hp zc182 fun a w2 g2 hg2 h hp => ?_)
 refine wn ?_
 refine wp_seq ?_
 refine rg ?_
 refine wvl h (ldO (us := [_, _, _, _]) h hp rfl 0 rfl sz72 rfl ag72) fun a h => ?_
 refine wm2 h rfl rfl rfl rfl fun a h => ?_
 refine wl (cal h rfl en149 (days_s x e d1 d2 _) fun u w3 ⟨⟨g6, g7, g8, e1, hF, hD⟩, e2⟩ a h => ?_)
 subst e1
 have hp : Hp c0 w w3 ([.blk g1 (.cells #[x.b.v, .int .i64 e.nnum, .int .i64 e.nden, .int .i64 e.nstart] 72 (0, 0)), .blk g2 (.cells #[.slice none 0 0] 182 (0, 0))] ++ [kqD x e d1 d2 g6 g7 g8]) := hp.keepF (hp.below e2) (fun w1 w2 hs ⟨f1, f2, f3⟩ => ⟨(hs _ (.inl rfl)).trans f1, (hs _ (.inr (.inl rfl))).trans f2, (hs _ (.inr (.inr rfl))).trans f3⟩) hF hD
 refine wn ?_
 refine blk1 ?_
 have hp := hp.nilB 185 2
 refine rngF h (hl := [.blk g1 (.cells #[x.b.v, .int .i64 e.nnum, .int .i64 e.nden, .int .i64 e.nstart] 72 (0, 0)), .blk g2 (.cells #[.slice none 0 0] 182 (0, 0)), .buf 185 2 (.slice none 0 0) 0 []]) (hp.pick [0, 1, 3, 2] (by decide) rfl) rfl en174 (days_q x e d1 d2 g6 g7 g8 (by omega) (by omega)) (JJ := fun pre hl => ∃ s : SV, hl = [.blk g1 (.cells #[x.b.v, .int .i64 e.nnum, .int .i64 e.nden, .int .i64 e.nstart] 72 (0, 0)), .blk g2 (.cells #[s.v] 182 (0, 0)), .buf 185 2 s.v (pre.flatMap (moonsOn e)).length ((pre.flatMap (moonsOn e)).flatMap encMoon)]) (JX := fun _ _ _ => False) (⟨⟨none, 0, 0⟩, rfl⟩) (fun _ => rfl) (by decide) (by decide) ?_ ?_ ?_
 ·intro lr pre y hl qr qb w4 a hpre hJ hp h
  obtain ⟨s5, rfl⟩ := hJ
  have hyb := mem_pre (k := 0) hpre
  have hlen := pre_len (moonsOn e) (moonsOn_length e) ((List.prefix_append pre [y]).trans hpre)
  rw [days_len] at hlen
  refine rg1I ?_
  refine wlI (stI (all h hp zc147 fun a w5 g3 hg3 h hp => ?_))
  refine wlI (stI (sta h hp rfl rfl 4 rfl sz147 rfl rfl fun w6 hp => ?_))
  refine wnI ?_
  refine ⟨⟨_, hp⟩, fun w7 hpp => ?_⟩
  have hp := hpp _ hp
  refine blk1I ?_
  refine rgI ?_
  refine wlI (stI (vl h (mkf h rfl rfl) fun a h => ?_))
  refine wlI (stI (vl h (asg h rfl) fun a h => ?_))
  refine wnI ?_
  refine rgI ?_
  refine wlI (stI (vl h (mov h rfl) fun a h => ?_))
  refine wlI (stI (vl h (bld h rfl (bl203_ _)) fun a h => ?_))
  refine wlI (stI (vl h (mki h rfl (by kernel_rfl)) fun a h => ?_))
  refine wlI (stI (calv h rfl rfl en150 (moons1_new_s x e y _ _ _ _ _ (hp.pick [4, 1, 2, 0, 3] (by decide) rfl) hS cl0 hsk (by omega) (by omega)) fun u w8 ⟨e1, s6, hp⟩ a h => ?_))
  refine wnI ?_
  refine rg1I ?_
  refine wlI (stI (vl h (mov h rfl) fun a h => ?_))
  refine wlI (stI (vl h (bld h rfl (bl204_ _)) fun a h => ?_))
  refine wlI (stI (vl h (mki h rfl (by kernel_rfl)) fun a h => ?_))
  refine wlI (stI (calv h rfl rfl en150 (moons1_full_s x e y _ _ _ _ _ hp hS cl0 hsk (by omega) (by have h8 := moon_ite (skyMoon e y false = true) (y, false); simp only [List.length_append]; omega)) fun u w9 ⟨e1, s7, hp⟩ a h => ?_))
  refine wnI' ?_
  try simp only [xqs, ↓reduceIte, Nat.reduceEqDiff]
  have e9 : ((pre.flatMap (moonsOn e) ++ (if skyMoon e y false = true then [(y, false)] else [])) ++ (if skyMoon e y true = true then [(y, true)] else [])) = (pre ++ [y]).flatMap (moonsOn e) := by simp [moonsOn]
  rw [e9] at hp
  exact ⟨_, ⟨s7, rfl⟩, hp.pick [3, 1, 2, 4] (by decide) rfl⟩
 ·intro D hl w10 a hJ hp h
  obtain ⟨s5, rfl⟩ := hJ
  try simp only [xqs, ↓reduceIte, Nat.reduceEqDiff]
  refine rg ?_
  refine wvl h (ldo h hp rfl 1 rfl rfl ag182) fun a h => ?_
  refine wsn h rfl fun a h => ?_
  refine wp_ret ?_
  try simp only [xqs]
  refine rm1_1 (i := 3) h hp rfl rfl fun w9 hp => ⟨(rvT h rfl), ?_⟩
  exact ⟨_, rfl, ⟨s5, rfl, (hp.pick [0, 1, 2] (by decide) rfl).frB (i := 2) rfl rfl rfl (fun _ _ => rfl)⟩, hp.bel⟩
 intro D cd pre hl w11 a hpre hJ hp h
 exact hJ.elim
theorem Eclipses_s (x : EV) (e : Eng) (d1 d2 : Int) (w : World) (hS : RdS w x e) (hsk : isSky e = true) (hn : 0 ≤ e.new ∧ e.new ≤ 5400) (hf : 0 ≤ e.full ∧ e.full ≤ 5400) (hab : (1 ≤ d1 ∧ d1 ≤ 20000) ∧ (d1 ≤ d2 ∧ d2 ≤ 20000) ∧ d2 - d1 ≤ 800) : Ret Tryz.prog 108 #[.agg #[x.b.v, .int .i64 e.nnum, .int .i64 e.nden, .int .i64 e.nstart], .int .i64 e.new, .int .i64 e.full, .int .i64 d1, .int .i64 d2] w fun u w' => (∃ s : SV, u = .tuple #[s.v, .int .i64 0] ∧ Fr w w' encM 3 s.v (skyAll e d1 d2)) ∧ Below w.heap.size w w' := by
 have hl1 := isLimit_of hn
 have hl2 := isLimit_of hf
 have hsp := span_of hab
 have hp : Hp c0 w w [] := Hp.start trivial
 refine enter Tryz.func108 rfl (N := 68) rfl rfl fun a h => ?_
 refine rg ?_
 refine wl (box (cs := #[_, _, _, _]) h hp rfl rfl fun a w1 g1 hg1 h hp => ?_)
 refine ws2 h rfl rfl rfl rfl fun a h => ?_
 refine wp_seq ?_
 refine rg ?_
 refine wvl h (ldO (us := [_, _, _, _]) h hp rfl 0 rfl sz72 rfl ag72) fun a h => ?_
 refine wl (cal h rfl en99 (isSky_s _ _ _ (by first | exact (hS.keep hp cl0) | exact hS.keep hp (by assumption))) fun u w2 ⟨e1, e2⟩ a h => ?_)
 subst e1
 have hp := hp.below e2
 refine wvl h (not_ h rfl) fun a h => ?_
 refine wmv h rfl fun a h => ?_
 refine split (t := 20) h rfl (fun hb1 => ?_) (fun hb1 => ?_)
 ·exact absurd hb1 (by simp [hsk])
 refine wl (stp_on h rfl rfl rfl hb1 (vl h (mov h rfl) fun a h => ?_))
 refine wl (stp_on h rfl rfl rfl hb1 (cal h rfl en130 (isLimit_s _ _) fun u w3 ⟨e1, e2⟩ a h => ?_))
 subst e1
 subst e2
 refine wl (stp_on h rfl rfl rfl hb1 (vl h (not_ h rfl) fun a h => ?_))
 refine wvl h (pckF h rfl hb1 rfl) fun a h => ?_
 refine wmv h rfl fun a h => ?_
 refine split (t := 25) h rfl (fun hb2 => ?_) (fun hb2 => ?_)
 ·exact absurd hb2 (by simp [hl1])
 refine wl (stp_on h rfl rfl rfl hb2 (vl h (mov h rfl) fun a h => ?_))
 refine wl (stp_on h rfl rfl rfl hb2 (cal h rfl en130 (isLimit_s _ _) fun u w4 ⟨e1, e2⟩ a h => ?_))
 subst e1
 subst e2
 refine wl (stp_on h rfl rfl rfl hb2 (vl h (not_ h rfl) fun a h => ?_))
 refine wvl h (pckF h rfl hb2 rfl) fun a h => ?_
 refine wmv h rfl fun a h => ?_
 refine split (t := 30) h rfl (fun hb3 => ?_) (fun hb3 => ?_)
 ·exact absurd hb3 (by simp [hl2])
 refine wl (stp_on h rfl rfl rfl hb3 (vl h (mov h rfl) fun a h => ?_))
 refine wl (stp_on h rfl rfl rfl hb3 (vl h (mov h rfl) fun a h => ?_))
 refine wl (stp_on h rfl rfl rfl hb3 (cal h rfl en131 (isSpan_s _ _ _) fun u w5 ⟨e1, e2⟩ a h => ?_))
 subst e1
 subst e2
 refine wl (stp_on h rfl rfl rfl hb3 (vl h (not_ h rfl) fun a h => ?_))
 refine wvl h (pckF h rfl hb3 rfl) fun a h => ?_
 refine wn ?_
 refine cnd1 h rfl (fun hb4 => ?_) (fun hb4 => ?_)
 ·exact absurd hb4 (by simp [hsp])
 refine skp ?_
 refine rg ?_
 refine wsn h rfl fun a h => ?_
 refine wp_seq ?_
 refine rg ?_
 refine wvl h (ldO (us := [_, _, _, _]) h hp rfl 0 rfl sz72 rfl ag72) fun a h => ?_
 refine wm2 h rfl rfl rfl rfl fun a h => ?_
 refine wl (cal h rfl en132 (moons_s x e _ _ _ (hS.keep hp cl0) hsk (by omega)) fun u w6 ⟨⟨s21, e1, hf⟩, e2⟩ a h => ?_)
 subst e1
 have hp := hp.got (hp.below e2) (by decide) hf
 refine wvl h (lenR h rfl Tryz.underlying182 (hp.rdF (i := 1) rfl)) fun a h => ?_
 refine wmv h rfl fun a h => ?_
 refine wn ?_
 have hp := hp.nilB 87 3
 have hlen2 := moons_len e (a := d1) (b := d2) (by omega)
 refine lp1 h [1, 2, 5, 10, 11, 35, 39, 40] (fun n f w' => ∃ k : Nat, ∃ s1 : SV, k ≤ (moonsAll e d1 d2).length ∧ n = (moonsAll e d1 d2).length - k ∧ f = [(41, .int .i64 k), (12, s1.v)] ∧ Hp c0 w w' ([.blk g1 (.cells #[x.b.v, .int .i64 e.nnum, .int .i64 e.nden, .int .i64 e.nstart] 72 (0, 0)), rdE encMoon 2 s21.v (moonsAll e d1 d2), .buf 87 3 s1.v (((moonsAll e d1 d2).take k).flatMap (eclOf e)).length ((((moonsAll e d1 d2).take k).flatMap (eclOf e)).flatMap encM)]) ∧ True) ((moonsAll e d1 d2).length) [(41, .int .i64 ((0 : Nat) : Int)), (12, .slice none 0 0)] ⟨rfl, rfl, rfl, rfl, rfl, rfl, rfl, rfl, rfl, rfl, trivial⟩ ⟨0, ⟨none, 0, 0⟩, Nat.zero_le _, rfl, rfl, hp, trivial⟩ ?_
 rintro n f a w7 ⟨k, s1, hk, rfl, rfl, hp, _⟩ h
 have hfit := (hp.rdF (i := 1) rfl).fits
 refine rg ?_
 refine wvl h (lss h rfl rfl) fun a h => ?_
 refine wn ?_
 refine cnd h rfl (fun hb5 => ?_) (fun hb5 => ?_)
 ·have hlt : k < (moonsAll e d1 d2).length := by have := of_decide_eq_true hb5; omega
  obtain ⟨y, hy⟩ : ∃ y, (moonsAll e d1 d2)[k]? = some y := ⟨_, List.getElem?_eq_getElem hlt⟩
  have hyb := moons_mem (List.mem_of_getElem? hy)
  have hlen1 := ecl_take e (moonsAll e d1 d2) k
  refine skp ?_
  refine blk ?_
  refine rg ?_
  refine wvl h (iadR (k) h rfl rfl Tryz.underlying182 sz185 (hp.rdF (i := 1) rfl) (rfl) (hlt)) fun a h => ?_
  refine wvl h (ldE h (hp.rdF (i := 1) rfl) hy rfl ag185 sz185) fun a h => ?_
  refine wl (all h hp zc185 fun a w8 g2 hg2 h hp => ?_)
  refine wl (sta h hp rfl rfl 3 rfl sz185 rfl rfl fun w9 hp => ?_)
  refine wn ?_
  refine rg ?_
  refine wmv h rfl fun a h => ?_
  refine wsn h rfl fun a h => ?_
  refine wp_seq ?_
  refine rg ?_
  refine wvl h (fad h rfl fo185_1) fun a h => ?_
  refine wvl h (ldo h hp rfl 3 rfl rfl ag4) fun a h => ?_
  refine wn ?_
  refine cnd1 h rfl (fun hb6 => ?_) (fun hb6 => ?_)
  ·have hy2 : y.2 = true := hb6
   refine rg1 ?_
   refine wmv h rfl fun a h => ?_
   refine wsn h rfl fun a h => ?_
   refine rg ?_
   refine wvl h (ldO (us := [_, _, _, _]) h hp rfl 0 rfl sz72 rfl ag72) fun a h => ?_
   refine wvl h (fad h rfl fo185_0) fun a h => ?_
   refine wvl h (ldo h hp rfl 3 rfl rfl ag3) fun a h => ?_
   refine wvl h (bld h rfl (bl147_0_1 _ _ _ _ _ _ _ _)) fun a h => ?_
   refine wl (cal h rfl en133 (far_s x e _ _ (hS.keep hp cl0) hsk (by omega)) fun u w10 ⟨e1, e2⟩ a h => ?_)
   subst e1
   have hp := hp.below e2
   refine wsn h rfl fun a h => ?_
   refine rg ?_
   refine wm2 h rfl rfl rfl rfl fun a h => ?_
   refine wvl h (leq h rfl rfl) fun a h => ?_
   refine wn ?_
   refine cnd1 h rfl (fun hb7 => ?_) (fun hb7 => ?_)
   ·have hfar : skyFar e y.1 ≤ skyLimit e y.2 := by rw [hy2]; exact of_decide_eq_true hb7
    refine rg1 ?_
    refine wmv h rfl fun a h => ?_
    refine wvl h (fad h rfl fo185_0) fun a h => ?_
    refine wvl h (ldo h hp rfl 3 rfl rfl ag3) fun a h => ?_
    refine wvl h (fad h rfl fo185_1) fun a h => ?_
    refine wvl h (ldo h hp rfl 3 rfl rfl ag4) fun a h => ?_
    refine wmv h rfl fun a h => ?_
    refine wvl h (bld h rfl (bl87_0_1_2 _ _ _ _)) fun a h => ?_
    refine wl (bsl h hp rfl (bs22_1_0 _ _ _) fun a w11 g3 hg3 h hp => ?_)
    refine wl (app1 2 h hp rfl rfl rfl ap22 4 rfl rfl rfl (by omega) (by omega) fun a w12 v h hp => ?_)
    refine wsg h rfl fun a h => ?_
    refine wn' ?_
    try simp only [xqs, ↓reduceIte, Nat.reduceEqDiff]
    refine rg1 ?_
    refine wvl h (add h rfl rfl (by omega)) fun a h => ?_
    refine wmv h rfl fun a h => ?_
    refine wn ?_
    exact ⟨_, _, (by omega), ⟨k + 1, _, by omega, rfl, rfl, hp.pre 3 (by simp [take_flat hy, eclOf, hfar, encM]), trivial⟩, h.sub ⟨rfl, rfl, rfl, rfl, rfl, rfl, rfl, rfl, rfl, rfl, trivial⟩⟩
   have hfar : ¬ skyFar e y.1 ≤ skyLimit e y.2 := by rw [hy2]; exact of_decide_eq_false hb7
   refine wp_skip ?_
   refine rg1 ?_
   refine wvl h (add h rfl rfl (by omega)) fun a h => ?_
   refine wmv h rfl fun a h => ?_
   refine wn ?_
   exact ⟨_, _, (by omega), ⟨k + 1, _, by omega, rfl, rfl, hp.pre 3 (by simp [take_flat hy, eclOf, hfar, encM]), trivial⟩, h.sub ⟨rfl, rfl, rfl, rfl, rfl, rfl, rfl, rfl, rfl, rfl, trivial⟩⟩
  have hy2 : y.2 = false := hb6
  refine skp ?_
  refine rg ?_
  refine wvl h (ldO (us := [_, _, _, _]) h hp rfl 0 rfl sz72 rfl ag72) fun a h => ?_
  refine wvl h (fad h rfl fo185_0) fun a h => ?_
  refine wvl h (ldo h hp rfl 3 rfl rfl ag3) fun a h => ?_
  refine wvl h (bld h rfl (bl147_0_1 _ _ _ _ _ _ _ _)) fun a h => ?_
  refine wl (cal h rfl en133 (far_s x e _ _ (hS.keep hp cl0) hsk (by omega)) fun u w13 ⟨e1, e2⟩ a h => ?_)
  subst e1
  have hp := hp.below e2
  refine wsn h rfl fun a h => ?_
  refine rg ?_
  refine wm2 h rfl rfl rfl rfl fun a h => ?_
  refine wvl h (leq h rfl rfl) fun a h => ?_
  refine wn ?_
  refine cnd1 h rfl (fun hb8 => ?_) (fun hb8 => ?_)
  ·have hfar : skyFar e y.1 ≤ skyLimit e y.2 := by rw [hy2]; exact of_decide_eq_true hb8
   refine rg1 ?_
   refine wmv h rfl fun a h => ?_
   refine wvl h (fad h rfl fo185_0) fun a h => ?_
   refine wvl h (ldo h hp rfl 3 rfl rfl ag3) fun a h => ?_
   refine wvl h (fad h rfl fo185_1) fun a h => ?_
   refine wvl h (ldo h hp rfl 3 rfl rfl ag4) fun a h => ?_
   refine wmv h rfl fun a h => ?_
   refine wvl h (bld h rfl (bl87_0_1_2 _ _ _ _)) fun a h => ?_
   refine wl (bsl h hp rfl (bs22_1_0 _ _ _) fun a w14 g4 hg4 h hp => ?_)
   refine wl (app1 2 h hp rfl rfl rfl ap22 4 rfl rfl rfl (by omega) (by omega) fun a w15 v h hp => ?_)
   refine wsg h rfl fun a h => ?_
   refine wn' ?_
   try simp only [xqs, ↓reduceIte, Nat.reduceEqDiff]
   refine rg1 ?_
   refine wvl h (add h rfl rfl (by omega)) fun a h => ?_
   refine wmv h rfl fun a h => ?_
   refine wn ?_
   exact ⟨_, _, (by omega), ⟨k + 1, _, by omega, rfl, rfl, hp.pre 3 (by simp [take_flat hy, eclOf, hfar, encM]), trivial⟩, h.sub ⟨rfl, rfl, rfl, rfl, rfl, rfl, rfl, rfl, rfl, rfl, trivial⟩⟩
  have hfar : ¬ skyFar e y.1 ≤ skyLimit e y.2 := by rw [hy2]; exact of_decide_eq_false hb8
  refine wp_skip ?_
  refine rg1 ?_
  refine wvl h (add h rfl rfl (by omega)) fun a h => ?_
  refine wmv h rfl fun a h => ?_
  refine wn ?_
  exact ⟨_, _, (by omega), ⟨k + 1, _, by omega, rfl, rfl, hp.pre 3 (by simp [take_flat hy, eclOf, hfar, encM]), trivial⟩, h.sub ⟨rfl, rfl, rfl, rfl, rfl, rfl, rfl, rfl, rfl, rfl, trivial⟩⟩
 have hend : k = (moonsAll e d1 d2).length := by have := of_decide_eq_false hb5; omega
 subst hend
 rw [List.take_length, ← skyAll_moons] at hp
 refine wp_exit ?_
 try simp only [xqs, ↓reduceIte, Nat.reduceEqDiff]
 refine rg ?_
 refine wmv h rfl fun a h => ?_
 refine ws2 h rfl rfl rfl rfl fun a h => ?_
 refine wp_ret ?_
 try simp only [xqs]
 refine rt_2 h rfl (rvT h rfl) (rvT h rfl) ?_
 exact ⟨_, rfl, ⟨s1, rfl, hp.frB (i := 2) rfl rfl rfl (fun _ _ => rfl)⟩, hp.bel⟩
theorem month_s (x : EV) (e : Eng) (w : World) (hS : RdS w x e) (hsk : isSky e = true) : RetP Tryz.prog 144 #[.agg #[x.b.v, .int .i64 e.nnum, .int .i64 e.nden, .int .i64 e.nstart]] w (fun u w' => (u = .tuple #[.int .i64 (e.b1.num * e.b0.num), .int .i64 (slow e)] ∧ 0 < slow e) ∧ Below w.heap.size w w') (fun v w' => (v = .iface 221 (.agg #[.int .i64 7]) ∧ ¬ 0 < slow e) ∧ Below w.heap.size w w') := by
 obtain ⟨hbl, b0, b1, hb0, hb1, e0, e1, v0, v1⟩ := sky2 hS hsk
 obtain ⟨p1, p2, p3, -⟩ := body_bd v0
 obtain ⟨q1, q2, q3, -⟩ := body_bd v1
 have m1 := mul_bd (a := b1.1.num) (b := b0.1.num) (A := 10000) (B := 10000) (by omega) (by omega) (by omega) (by omega)
 have m2 := mul_bd (a := b1.1.den) (b := b0.1.num) (A := 10000) (B := 10000) (by omega) (by omega) (by omega) (by omega)
 have m3 := mul_bd (a := b0.1.den) (b := b1.1.num) (A := 10000) (B := 10000) (by omega) (by omega) (by omega) (by omega)
 have hsl : slow e = b1.1.den * b0.1.num - b0.1.den * b1.1.num := by rw [slow, e0, e1]
 have hp : Hp c0 w w [] := Hp.start trivial
 refine enter Tryz.func144 rfl (N := 40) rfl rfl fun a h => ?_
 refine rg ?_
 refine wl (box (cs := #[_, _, _, _]) h hp rfl rfl fun a w1 g1 hg1 h hp => ?_)
 refine ws2 h rfl rfl rfl rfl fun a h => ?_
 refine rdh (n := 14) hp mixed rfl ?_
 have hp := hp.drew
 refine tkq 0 h rfl hp (fun W _ => fad h rfl fo72_0) fun a h => ?_
 refine tkq 1 h rfl hp (fun W hp => ldo h hp rfl 0 rfl rfl ag66) fun a h => ?_
 refine tkq 2 h rfl hp (fun W hp => iadR (0) h rfl rfl Tryz.underlying66 sz110 (hS.keep hp cl0).b (rfl) (by omega)) fun a h => ?_
 refine tkq 3 h rfl hp (fun W _ => fad h rfl fo110_0) fun a h => ?_
 refine tkq 4 h rfl hp (fun W hp => ldFn 0 [_, _] h (hS.keep hp cl0).b hb0 rfl ag68 sz68 rfl) fun a h => ?_
 refine tkq 5 h rfl hp (fun W _ => fad h rfl fo72_0) fun a h => ?_
 refine tkq 6 h rfl hp (fun W hp => ldo h hp rfl 0 rfl rfl ag66) fun a h => ?_
 refine tkq 7 h rfl hp (fun W hp => iadR (1) h rfl rfl Tryz.underlying66 sz110 (hS.keep hp cl0).b (rfl) (by omega)) fun a h => ?_
 refine tkq 8 h rfl hp (fun W _ => fad h rfl fo110_0) fun a h => ?_
 refine tkq 9 h rfl hp (fun W hp => ldFn 0 [_, _] h (hS.keep hp cl0).b hb1 rfl ag68 sz68 rfl) fun a h => ?_
 refine two 10 11 (by kernel_rfl) rfl rfl ?_ ?_
 ·refine (all h hp zc68 fun a w2 g2 hg2 h hp => ⟨((hp).pre 1 rfl), ?_⟩)
  refine one 11 (by kernel_rfl) rfl (all h hp zc68 fun a w3 g3 hg3 h hp => ⟨((hp).pre 1 rfl), ?_⟩)
  refine one 12 (by kernel_rfl) rfl (sta h hp rfl rfl 1 rfl sz68 rfl rfl fun w4 hp => ⟨((hp).pre 1 rfl), ?_⟩)
  refine one 13 (by kernel_rfl) rfl (sta h hp rfl rfl 2 rfl sz68 rfl rfl fun w5 hp => ⟨((hp).pre 1 rfl), ?_⟩)
  refine dn (by kernel_rfl) ?_
  refine rdh (n := 18) hp mixed rfl ?_
  have hp := hp.drew
  refine tkq 0 h rfl hp (fun W _ => fad h rfl fo68_0) fun a h => ?_
  refine tkq 1 h rfl hp (fun W hp => ldo h hp rfl 2 rfl rfl ag3) fun a h => ?_
  refine tkq 2 h rfl hp (fun W _ => fad h rfl fo68_0) fun a h => ?_
  refine tkq 3 h rfl hp (fun W hp => ldo h hp rfl 1 rfl rfl ag3) fun a h => ?_
  refine tkq 4 h rfl hp (fun W _ => mul h rfl rfl (by omega)) fun a h => ?_
  refine tkq 5 h rfl hp (fun W _ => fad h rfl fo68_1) fun a h => ?_
  refine tkq 6 h rfl hp (fun W hp => ldo h hp rfl 2 rfl rfl ag3) fun a h => ?_
  refine tkq 7 h rfl hp (fun W _ => fad h rfl fo68_0) fun a h => ?_
  refine tkq 8 h rfl hp (fun W hp => ldo h hp rfl 1 rfl rfl ag3) fun a h => ?_
  refine tkq 9 h rfl hp (fun W _ => mul h rfl rfl (by omega)) fun a h => ?_
  refine tkq 10 h rfl hp (fun W _ => fad h rfl fo68_1) fun a h => ?_
  refine tkq 11 h rfl hp (fun W hp => ldo h hp rfl 1 rfl rfl ag3) fun a h => ?_
  refine tkq 12 h rfl hp (fun W _ => fad h rfl fo68_0) fun a h => ?_
  refine tkq 13 h rfl hp (fun W hp => ldo h hp rfl 2 rfl rfl ag3) fun a h => ?_
  refine tkq 14 h rfl hp (fun W _ => mul h rfl rfl (by omega)) fun a h => ?_
  refine tkq 15 h rfl hp (fun W _ => sub h rfl rfl (by omega)) fun a h => ?_
  refine tka 16 h rfl hp rfl fun a h => ?_
  refine tka 17 h rfl hp rfl fun a h => ?_
  refine dn (by kernel_rfl) ?_
  refine wp_seq ?_
  refine rg ?_
  refine wmv h rfl fun a h => ?_
  refine wvl h (leq h rfl rfl) fun a h => ?_
  refine wn ?_
  refine cnd1 h rfl (fun hb1 => ?_) (fun hb1 => ?_)
  ·have hs0 := of_decide_eq_true hb1
   refine rg1 ?_
   refine wvl h (bld h rfl (bl221_0 _ _)) fun a h => ?_
   refine wvl h (mki h rfl (by kernel_rfl)) fun a h => ?_
   refine wl (pan h rfl ?_)
   exact ⟨h.defs, .inr ⟨_, rfl, ⟨rfl, by omega⟩, hp.bel⟩⟩
  have hs0 := of_decide_eq_false hb1
  refine skp ?_
  refine rg ?_
  refine wm2 h rfl rfl rfl rfl fun a h => ?_
  refine ws2 h rfl rfl rfl rfl fun a h => ?_
  refine wp_ret ?_
  try simp only [xqs]
  refine rt_2 h rfl (rvT h rfl) (rvT h rfl) ?_
  exact .inl ⟨_, rfl, ⟨by rw [e0, e1, hsl], by omega⟩, hp.bel⟩
 refine (all h hp zc68 fun a w6 g4 hg4 h hp => ⟨((hp).pre 1 rfl), ?_⟩)
 refine one 10 (by kernel_rfl) rfl (all h hp zc68 fun a w7 g5 hg5 h hp => ⟨((hp).pre 1 rfl), ?_⟩)
 refine one 12 (by kernel_rfl) rfl (sta h hp rfl rfl 2 rfl sz68 rfl rfl fun w8 hp => ⟨((hp).pre 1 rfl), ?_⟩)
 refine one 13 (by kernel_rfl) rfl (sta h hp rfl rfl 1 rfl sz68 rfl rfl fun w9 hp => ⟨((hp).pre 1 rfl), ?_⟩)
 refine dn (by kernel_rfl) ?_
 refine rdh (n := 18) hp mixed rfl ?_
 have hp := hp.drew
 refine tkq 0 h rfl hp (fun W _ => fad h rfl fo68_0) fun a h => ?_
 refine tkq 1 h rfl hp (fun W hp => ldo h hp rfl 1 rfl rfl ag3) fun a h => ?_
 refine tkq 2 h rfl hp (fun W _ => fad h rfl fo68_0) fun a h => ?_
 refine tkq 3 h rfl hp (fun W hp => ldo h hp rfl 2 rfl rfl ag3) fun a h => ?_
 refine tkq 4 h rfl hp (fun W _ => mul h rfl rfl (by omega)) fun a h => ?_
 refine tkq 5 h rfl hp (fun W _ => fad h rfl fo68_1) fun a h => ?_
 refine tkq 6 h rfl hp (fun W hp => ldo h hp rfl 1 rfl rfl ag3) fun a h => ?_
 refine tkq 7 h rfl hp (fun W _ => fad h rfl fo68_0) fun a h => ?_
 refine tkq 8 h rfl hp (fun W hp => ldo h hp rfl 2 rfl rfl ag3) fun a h => ?_
 refine tkq 9 h rfl hp (fun W _ => mul h rfl rfl (by omega)) fun a h => ?_
 refine tkq 10 h rfl hp (fun W _ => fad h rfl fo68_1) fun a h => ?_
 refine tkq 11 h rfl hp (fun W hp => ldo h hp rfl 2 rfl rfl ag3) fun a h => ?_
 refine tkq 12 h rfl hp (fun W _ => fad h rfl fo68_0) fun a h => ?_
 refine tkq 13 h rfl hp (fun W hp => ldo h hp rfl 1 rfl rfl ag3) fun a h => ?_
 refine tkq 14 h rfl hp (fun W _ => mul h rfl rfl (by omega)) fun a h => ?_
 refine tkq 15 h rfl hp (fun W _ => sub h rfl rfl (by omega)) fun a h => ?_
 refine tka 16 h rfl hp rfl fun a h => ?_
 refine tka 17 h rfl hp rfl fun a h => ?_
 refine dn (by kernel_rfl) ?_
 refine wp_seq ?_
 refine rg ?_
 refine wmv h rfl fun a h => ?_
 refine wvl h (leq h rfl rfl) fun a h => ?_
 refine wn ?_
 refine cnd1 h rfl (fun hb2 => ?_) (fun hb2 => ?_)
 ·have hs0 := of_decide_eq_true hb2
  refine rg1 ?_
  refine wvl h (bld h rfl (bl221_0 _ _)) fun a h => ?_
  refine wvl h (mki h rfl (by kernel_rfl)) fun a h => ?_
  refine wl (pan h rfl ?_)
  exact ⟨h.defs, .inr ⟨_, rfl, ⟨rfl, by omega⟩, hp.bel⟩⟩
 have hs0 := of_decide_eq_false hb2
 refine skp ?_
 refine rg ?_
 refine wm2 h rfl rfl rfl rfl fun a h => ?_
 refine ws2 h rfl rfl rfl rfl fun a h => ?_
 refine wp_ret ?_
 try simp only [xqs]
 refine rt_2 h rfl (rvT h rfl) (rvT h rfl) ?_
 exact .inl ⟨_, rfl, ⟨by rw [e0, e1, hsl], by omega⟩, hp.bel⟩
theorem Month1_s {c : Cx} {w0 : World} {hl : HL} (x : EV) (e : Eng) (gs gn gd : Nat) (n0 d0 : Int) (w : World) (hp : Hp c w0 w (.blk gs (.cells #[x.b.v, .int .i64 e.nnum, .int .i64 e.nden, .int .i64 e.nstart] 72 (0, 0)) :: .blk gn (.cells #[.int .i64 n0] 3 (0, 0)) :: .blk gd (.cells #[.int .i64 d0] 3 (0, 0)) :: hl)) (hS : RdS w0 x e) (hcl : Cl c w0) (hsk : isSky e = true) : RetP Tryz.prog 143 #[.pointer (some ⟨gs, 0, none⟩), .pointer (some ⟨gn, 0, none⟩), .pointer (some ⟨gd, 0, none⟩)] w (fun u w' => (u = .tuple #[] ∧ 0 < slow e) ∧ Hp c w0 w' (.blk gs (.cells #[x.b.v, .int .i64 e.nnum, .int .i64 e.nden, .int .i64 e.nstart] 72 (0, 0)) :: .blk gn (.cells #[.int .i64 (e.b1.num * e.b0.num)] 3 (0, 0)) :: .blk gd (.cells #[.int .i64 (slow e)] 3 (0, 0)) :: hl)) (fun v w' => (v = .iface 221 (.agg #[.int .i64 7]) ∧ ¬ 0 < slow e) ∧ Hp c w0 w' (.blk gs (.cells #[x.b.v, .int .i64 e.nnum, .int .i64 e.nden, .int .i64 e.nstart] 72 (0, 0)) :: .blk gn (.cells #[.int .i64 n0] 3 (0, 0)) :: .blk gd (.cells #[.int .i64 d0] 3 (0, 0)) :: hl)) := by
 refine enter Tryz.func143 rfl (N := 8) rfl rfl fun a h => ?_
 refine rg1 ?_
 refine wvl h (ldO (us := [_, _, _, _]) h hp rfl 0 rfl sz72 rfl ag72) fun a h => ?_
 refine wl (calP h rfl en144 (month_s x e _ (hS.keep hp hcl) hsk) (fun u w1 ⟨⟨e1, hs0⟩, e2⟩ a h => ?_) (fun v w9 ⟨e8, e9⟩ => ⟨h.defs, .inr ⟨_, rfl, e8, hp.below e9⟩⟩))
 subst e1
 have hp := hp.below e2
 refine wmv h rfl fun a h => ?_
 refine wvl h (ext h rfl rfl) fun a h => ?_
 refine wvl h (ext h rfl rfl) fun a h => ?_
 refine wl (st1 h hp rfl rfl 1 rfl rfl sz3 rfl fun w2 hp => ?_)
 refine wl (st1 h hp rfl rfl 2 rfl rfl sz3 rfl fun w3 hp => ?_)
 refine wn' ?_
 try simp only [xqs, ↓reduceIte, Nat.reduceEqDiff]
 refine rt0 h rfl ?_
 exact .inl ⟨_, rfl, ⟨rfl, hs0⟩, hp⟩
theorem gcd_s (x y : Int) (w : World) (hx : 0 < x ∧ x ≤ 4611686018427387904) (hy : 0 ≤ y ∧ y ≤ 4611686018427387904) : Ret Tryz.prog 145 #[.int .i64 x, .int .i64 y] w fun u w' => u = .int .i64 (Int.gcd x y : Int) ∧ Below w.heap.size w w' := by
 have hp : Hp c0 w w [] := Hp.start trivial
 refine enter Tryz.func145 rfl (N := 12) rfl rfl fun a h => ?_
 refine rg ?_
 refine wsn h rfl fun a h => ?_
 refine lp h [] (fun n f w' => ∃ p r : Int, n = r.toNat ∧ f = [(0, .int .i64 p), (1, .int .i64 r)] ∧ Hp c0 w w' [] ∧ Int.gcd p r = Int.gcd x y ∧ 0 < p ∧ p ≤ 4611686018427387904 ∧ 0 ≤ r ∧ r ≤ 4611686018427387904) (y.toNat) [(0, .int .i64 x), (1, .int .i64 y)] ⟨rfl, rfl, trivial⟩ ⟨x, y, rfl, rfl, hp, rfl, hx.1, hx.2, hy.1, hy.2⟩ ?_
 rintro n f a w1 ⟨p, r, rfl, rfl, hp, hg, h1, h2, h3, h4⟩ h
 refine wp_seq ?_
 refine rg ?_
 refine wmv h rfl fun a h => ?_
 refine wvl h (gtr h rfl rfl) fun a h => ?_
 refine wn ?_
 refine cnd1 h rfl (fun hb1 => ?_) (fun hb1 => ?_)
 ·have hr := of_decide_eq_true hb1
  have m1 := Int.emod_nonneg p (by omega : r ≠ 0)
  have m2 := Int.emod_lt_of_pos p hr
  refine skp ?_
  refine blk1 ?_
  refine rdh1 (n := 6) hp mixed rfl ?_
  have hp := hp.drew
  refine tkm 0 h rfl hp rfl fun a h => ?_
  refine tkm 1 h rfl hp rfl fun a h => ?_
  refine tkm 2 h rfl hp rfl fun a h => ?_
  refine tkq 3 h rfl hp (fun W _ => rem0 h rfl rfl (by omega) (by omega)) fun a h => ?_
  refine tka 4 h rfl hp rfl fun a h => ?_
  refine tka 5 h rfl hp rfl fun a h => ?_
  refine dn (by kernel_rfl) ?_
  try simp only [xqs, ↓reduceIte, Nat.reduceEqDiff]
  exact ⟨_, _, (by omega), ⟨r, p % r, rfl, rfl, hp, by rw [← hg]; exact gcd_step _ _ h3, by omega, by omega, by omega, by omega⟩, h.sub ⟨rfl, rfl, trivial⟩⟩
 have hr := of_decide_eq_false hb1
 obtain rfl : r = 0 := by omega
 refine wp_exit ?_
 try simp only [xqs, ↓reduceIte, Nat.reduceEqDiff]
 refine rg ?_
 refine wmv h rfl fun a h => ?_
 refine wsn h rfl fun a h => ?_
 refine wp_ret ?_
 try simp only [xqs]
 refine rt_1 h rfl (rvT h rfl) ?_
 rw [Int.gcd_zero_right] at hg
 exact ⟨_, rfl, by rw [← hg]; congr 1; omega, hp.bel⟩
theorem try1_ret {c : Cx} {w0 : World} {hl : HL} (g : Nat) (v n : Int) (w : World) (hp : Hp c w0 w (.blk g (.cells #[.int .i64 v] 24 (0, 0)) :: hl)) : CallsD Tryz.prog 169 #[.pointer (some ⟨g, 0, none⟩)] .returning w fun e u' w' => (∃ v, e = .returned v) ∧ settle u' = .returning ∧ Hp c w0 w' (.blk g (.cells #[.int .i64 v] 24 (0, 0)) :: hl) := by
 refine enterR (N := 12) (G := fun w' => Hp c w0 w' (.blk g (.cells #[.int .i64 v] 24 (0, 0)) :: hl)) (none) Tryz.func169 rfl rfl rfl rfl rfl fun a h => ?_
 refine blk1 ?_
 refine rg ?_
 refine wvl h (eqN0 h rfl rfl Tryz.underlying20) fun a h => ?_
 refine wn ?_
 refine cnd1 h rfl (fun _ => ?_) (fun e => nomatch e)
 refine rg1 ?_
 refine wsg h rfl fun a h => ?_
 refine wn' ?_
 try simp only [xqs, ↓reduceIte, Nat.reduceEqDiff]
 exact ⟨by simp, h.defs, hp⟩
theorem try1_pan {c : Cx} {w0 : World} {hl : HL} (g : Nat) (v n : Int) (w : World) (hp : Hp c w0 w (.blk g (.cells #[.int .i64 v] 24 (0, 0)) :: hl)) : CallsD Tryz.prog 169 #[.pointer (some ⟨g, 0, none⟩)] (.panicking [{ v := .iface 221 (.agg #[.int .i64 n]), recovered := false }]) w fun e u' w' => (∃ v, e = .returned v) ∧ settle u' = .returning ∧ Hp c w0 w' (.blk g (.cells #[.int .i64 n] 24 (0, 0)) :: hl) := by
 refine enterR (N := 12) (G := fun w' => Hp c w0 w' (.blk g (.cells #[.int .i64 n] 24 (0, 0)) :: hl)) (some (.iface 221 (.agg #[.int .i64 n]))) Tryz.func169 rfl rfl rfl rfl rfl fun a h => ?_
 refine blk1 ?_
 refine rg ?_
 refine wvl h (eqN1 h rfl rfl Tryz.underlying20) fun a h => ?_
 refine wn ?_
 refine cnd1 h rfl (fun e => nomatch e) (fun _ => ?_)
 refine rg ?_
 refine wvl h (tya h rfl (tv221_20 _ _)) fun a h => ?_
 refine wvl h (ext h rfl rfl) fun a h => ?_
 refine wvl h (ext h rfl rfl) fun a h => ?_
 refine wn ?_
 refine cnd1 h rfl (fun _ => ?_) (fun e => nomatch e)
 refine rg ?_
 refine wl (all h hp zc221 fun a w1 g1 hg1 h hp => ?_)
 have hp := hp.front
 refine wl (sta h hp rfl rfl 0 rfl sz221 rfl rfl fun w2 hp => ?_)
 refine wn ?_
 refine rg1 ?_
 refine wvl h (fad h rfl fo221_0) fun a h => ?_
 refine wvl h (ldo h hp rfl 0 rfl rfl ag24) fun a h => ?_
 refine wl (st1 h hp rfl rfl 1 rfl rfl sz24 rfl fun w3 hp => ?_)
 refine wn' ?_
 try simp only [xqs, ↓reduceIte, Nat.reduceEqDiff]
 exact ⟨by simp, h.defs, hp.tail⟩
theorem try_s {c : Cx} {w0 : World} {hl : HL} (x : EV) (e : Eng) (gs gn gd : Nat) (n0 d0 : Int) (w : World) (hp : Hp c w0 w (.blk gs (.cells #[x.b.v, .int .i64 e.nnum, .int .i64 e.nden, .int .i64 e.nstart] 72 (0, 0)) :: .blk gn (.cells #[.int .i64 n0] 3 (0, 0)) :: .blk gd (.cells #[.int .i64 d0] 3 (0, 0)) :: hl)) (hS : RdS w0 x e) (hcl : Cl c w0) (hsk : isSky e = true) : Ret Tryz.prog 142 #[.func (.func 143) #[] #[.pointer (some ⟨gs, 0, none⟩), .pointer (some ⟨gn, 0, none⟩), .pointer (some ⟨gd, 0, none⟩)]] w fun u w' => u = .int .i64 (if 0 < slow e then 0 else 7) ∧ Hp c w0 w' (.blk gs (.cells #[x.b.v, .int .i64 e.nnum, .int .i64 e.nden, .int .i64 e.nstart] 72 (0, 0)) :: .blk gn (.cells #[.int .i64 (if 0 < slow e then e.b1.num * e.b0.num else n0)] 3 (0, 0)) :: .blk gd (.cells #[.int .i64 (if 0 < slow e then slow e else d0)] 3 (0, 0)) :: hl) := by
 refine enterD Tryz.func142 rfl (N := 6) rfl rfl fun a h => ?_
 refine rg ?_
 refine wl (all h hp zc24 fun a w1 g1 hg1 h hp => ?_)
 have hp := hp.front
 refine wn ?_
 refine rg ?_
 refine wvl h (mkf h rfl rfl) fun a h => ?_
 refine wl (dfr h rfl fun a h => ?_)
 refine wn ?_
 refine rg ?_
 refine wmv h rfl fun a h => ?_
 refine wl (calvP h rfl rfl en143 (Month1_s x e gs gn gd n0 d0 _ hp.rot3 hS hcl hsk) (fun u w2 ⟨⟨e1, hs0⟩, hp⟩ a h => ?_) (fun v w9 ⟨⟨e8, hs0⟩, hp⟩ => by subst e8; exact door h (by simp) en169 (try1_pan g1 0 7 _ hp.unrot3) fun w9 hp => ⟨_, res1 rfl (rv1 h hp rfl 0 rfl rfl ag24), ⟨_, rfl, by rw [if_neg hs0], by rw [if_neg hs0, if_neg hs0]; exact hp.tail⟩⟩))
 have hp := hp.unrot3
 refine wn ?_
 refine rg ?_
 refine wl (st1 h hp rfl rfl 0 rfl rfl sz24 rfl fun w3 hp => ?_)
 refine wn ?_
 refine wp_ret ?_
 try simp only [xqs]
 exact door h (by simp) en169 (try1_ret g1 0 0 _ hp) fun w9 hp => ⟨_, res1 rfl (rv1 h hp rfl 0 rfl rfl ag24), ⟨_, rfl, by rw [if_pos hs0], by rw [if_pos hs0, if_pos hs0]; exact hp.tail⟩⟩
theorem Month_s (x : EV) (e : Eng) (w : World) (hS : RdS w x e) : Ret Tryz.prog 118 #[.agg #[x.b.v, .int .i64 e.nnum, .int .i64 e.nden, .int .i64 e.nstart]] w fun u w' => (∃ p q : Int, u = .tuple #[.int .i64 p, .int .i64 q, .int .i64 (if isSky e = true then if 0 < slow e then 0 else 7 else 2)]) ∧ Below w.heap.size w w' := by
 have hp : Hp c0 w w [] := Hp.start trivial
 refine enter Tryz.func118 rfl (N := 26) rfl rfl fun a h => ?_
 refine rg ?_
 refine wl (box (cs := #[_, _, _, _]) h hp rfl rfl fun a w1 g1 hg1 h hp => ?_)
 refine wsg h rfl fun a h => ?_
 refine ws2 h rfl rfl rfl rfl fun a h => ?_
 refine wp_seq ?_
 refine rg ?_
 refine wvl h (ldO (us := [_, _, _, _]) h hp rfl 0 rfl sz72 rfl ag72) fun a h => ?_
 refine wl (cal h rfl en99 (isSky_s _ _ _ (by first | exact (hS.keep hp cl0) | exact hS.keep hp (by assumption))) fun u w2 ⟨e1, e2⟩ a h => ?_)
 subst e1
 have hp := hp.below e2
 refine wvl h (not_ h rfl) fun a h => ?_
 refine wn ?_
 refine cnd1 h rfl (fun hb1 => ?_) (fun hb1 => ?_)
 ·have hsk : isSky e = false := by simpa using hb1
  refine rg ?_
  refine wsg h rfl fun a h => ?_
  refine ws2 h rfl rfl rfl rfl fun a h => ?_
  refine wp_ret ?_
  try simp only [xqs]
  refine rt_3 h rfl (rvT h rfl) (rvT h rfl) (rvT h rfl) ?_
  exact ⟨_, rfl, ⟨0, 0, by rw [hsk]; rfl⟩, hp.bel⟩
 have hsk : isSky e = true := by simpa using hb1
 obtain ⟨hbl, b0, b1, hb0, hb1, e0, e1, v0, v1⟩ := sky2 hS hsk
 obtain ⟨p1, p2, p3, -⟩ := body_bd v0
 obtain ⟨q1, q2, q3, -⟩ := body_bd v1
 have m1 := mul_bd (a := b1.1.num) (b := b0.1.num) (A := 10000) (B := 10000) (by omega) (by omega) (by omega) (by omega)
 have m2 := mul_bd (a := b1.1.den) (b := b0.1.num) (A := 10000) (B := 10000) (by omega) (by omega) (by omega) (by omega)
 have m3 := mul_bd (a := b0.1.den) (b := b1.1.num) (A := 10000) (B := 10000) (by omega) (by omega) (by omega) (by omega)
 have hsl : slow e = b1.1.den * b0.1.num - b0.1.den * b1.1.num := by rw [slow, e0, e1]
 refine skp ?_
 refine rg ?_
 refine wl (all h hp zc3 fun a w3 g2 hg2 h hp => ?_)
 refine wl (all h hp zc3 fun a w4 g3 hg3 h hp => ?_)
 refine wl (st1 h hp rfl rfl 1 rfl rfl sz3 rfl fun w5 hp => ?_)
 refine wl (st1 h hp rfl rfl 2 rfl rfl sz3 rfl fun w6 hp => ?_)
 refine wn ?_
 refine wp_seq ?_
 refine rg ?_
 refine wvl h (mkf h rfl rfl) fun a h => ?_
 refine wl (cal h rfl en142 (try_s x e g1 g2 g3 0 1 _ hp hS cl0 hsk) fun u w7 ⟨e1, hp⟩ a h => ?_)
 subst e1
 refine wsn h rfl fun a h => ?_
 refine rg ?_
 refine wmv h rfl fun a h => ?_
 refine wvl h (nei h rfl rfl) fun a h => ?_
 refine wn ?_
 refine cnd1 h rfl (fun hb2 => ?_) (fun hb2 => ?_)
 ·have hs0 : ¬ 0 < slow e := fun h0 => by rw [if_pos h0] at hb2; exact absurd hb2 (by decide)
  refine rg ?_
  refine wmv h rfl fun a h => ?_
  refine wsg h rfl fun a h => ?_
  refine ws2 h rfl rfl rfl rfl fun a h => ?_
  refine wp_ret ?_
  try simp only [xqs]
  refine rt_3 h rfl (rvT h rfl) (rvT h rfl) (rvT h rfl) ?_
  exact ⟨_, rfl, ⟨0, 0, by rw [if_pos hsk, if_neg hs0]⟩, hp.bel⟩
 have hs0 : 0 < slow e := Classical.byContradiction fun h0 => by rw [if_neg h0] at hb2; exact absurd hb2 (by decide)
 rw [if_pos hs0, if_pos hs0] at hp
 have hgp : 0 < (Int.gcd (e.b1.num * e.b0.num) (slow e) : Int) := by have := Int.gcd_pos_of_ne_zero_right (e.b1.num * e.b0.num) (by omega : slow e ≠ 0); omega
 have m4 : 0 < e.b1.num * e.b0.num ∧ e.b1.num * e.b0.num ≤ 100000000 := by rw [e0, e1]; exact ⟨Int.mul_pos (by omega) (by omega), by omega⟩
 refine skp ?_
 refine rg ?_
 refine wvl h (ldo h hp rfl 1 rfl rfl ag3) fun a h => ?_
 refine wvl h (ldo h hp rfl 2 rfl rfl ag3) fun a h => ?_
 refine wl (cal h rfl en145 (gcd_s _ _ _ (by omega) (by omega)) fun u w8 ⟨e1, e2⟩ a h => ?_)
 subst e1
 have hp := hp.below e2
 refine wsn h rfl fun a h => ?_
 refine rdh (n := 9) hp mixed rfl ?_
 have hp := hp.drew
 refine tkq 0 h rfl hp (fun W hp => ldo h hp rfl 1 rfl rfl ag3) fun a h => ?_
 refine tkm 1 h rfl hp rfl fun a h => ?_
 refine tkq 2 h rfl hp (fun W _ => quo0 h rfl rfl (by omega) (by omega)) fun a h => ?_
 refine tkq 3 h rfl hp (fun W hp => ldo h hp rfl 2 rfl rfl ag3) fun a h => ?_
 refine tkm 4 h rfl hp rfl fun a h => ?_
 refine tkq 5 h rfl hp (fun W _ => quo0 h rfl rfl (by omega) (by omega)) fun a h => ?_
 refine tka 6 h rfl hp rfl fun a h => ?_
 refine tka 7 h rfl hp rfl fun a h => ?_
 refine tka 8 h rfl hp rfl fun a h => ?_
 refine dn (by kernel_rfl) ?_
 refine wp_ret ?_
 try simp only [xqs]
 refine rt_3 h rfl (rvT h rfl) (rvT h rfl) (rvT h rfl) ?_
 exact ⟨_, rfl, ⟨_, _, by rw [if_pos hsk, if_pos hs0]⟩, hp.bel⟩
end Go.Proofs.Ec
