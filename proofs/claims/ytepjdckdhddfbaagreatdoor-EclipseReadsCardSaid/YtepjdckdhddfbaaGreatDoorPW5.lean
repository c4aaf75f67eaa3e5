import Derived.Test.YtepjdckdhddfbaaGreatDoorProg
import Derived.Test.YtepjdckdhddfbaaGreatDoorPFa
import Derived.Test.YtepjdckdhddfbaaGreatDoorPQb
import Derived.Test.YtepjdckdhddfbaaGreatDoorPW4
set_option linter.unusedVariables false
set_option linter.unusedSimpArgs false
set_option maxRecDepth 4000
namespace Go.Proofs.Ec
open Go.RowKit Go.Proofs.Sx
open Ecl
theorem way_s (x : EV) (e : Eng) (t : Int) (j : Nat) (b : BV) (w : World) (hS : RdS w x e) (hsk : isSky e = true) (ht : 0 ≤ t ∧ t ≤ 20000) (hb : x.bs[j]? = some b) : Ret Tryz.prog 178 #[.agg #[x.b.v, .int .i64 e.nnum, .int .i64 e.nden, .int .i64 e.nstart, .int .i64 t], .int .i64 j] w fun u w' => u = .int .i64 (way b.1 t) ∧ Below w.heap.size w w' := by
 have hbv := hS.body hsk hb
 obtain ⟨h1, h2, h3, h4, h5, h6⟩ := body_bd hbv
 have hmb := mean_bd hbv ht
 obtain ⟨i0, hi, hl0, hc, hl1⟩ := road_at hbv (mean b.1 t)
 obtain ⟨z, hz⟩ : ∃ z, b.1.road[i0]? = some z := ⟨_, List.getElem?_eq_getElem hl0⟩
 obtain ⟨y, hy⟩ : ∃ y, b.1.road[(i0 + 1) % b.1.road.length]? = some y := ⟨_, List.getElem?_eq_getElem hl1⟩
 have hz6 := h6 z (List.mem_of_getElem? hz)
 have hy6 := h6 y (List.mem_of_getElem? hy)
 have ha := around_bd (mean b.1 t)
 have m := mul_bd (a := around (mean b.1 t)) (b := (b.1.road.length : Int)) (A := 21599) (B := 8) (by omega) (by omega) (by omega) (by omega)
 have m2 := mul_bd2 (a := y - z) (b := around (mean b.1 t) * (b.1.road.length : Int) % 21600) (A := 1200) (B := 21600) (by omega) (by omega) (by omega) (by omega)
 have hp : Hp c0 w w [] := Hp.start trivial
 refine enter Tryz.func178 rfl (N := 59) rfl rfl fun a h => ?_
 refine rg ?_
 refine wl (box (cs := #[_, _, _, _, _]) h hp rfl rfl fun a w1 g1 hg1 h hp => ?_)
 refine wsn h rfl fun a h => ?_
 refine rg ?_
 refine wvl h (fad h rfl fo147_0) fun a h => ?_
 refine wvl h (fad h rfl fo72_0) fun a h => ?_
 refine wvl h (ldo h hp rfl 0 rfl rfl ag66) fun a h => ?_
 refine wmv h rfl fun a h => ?_
 refine wvl h (iadR (j) h rfl rfl Tryz.underlying66 sz110 (hS.keep hp cl0).b (rfl) ((List.getElem?_eq_some_iff.1 hb).1)) fun a h => ?_
 refine wvl h (fad h rfl fo110_2) fun a h => ?_
 refine wvl h (ldF 3 h (hS.keep hp cl0).b hb rfl ag74 rfl) fun a h => ?_
 refine wsn h rfl fun a h => ?_
 refine rg ?_
 refine wvl h (ldO (us := [_, _, _, _, _]) h hp rfl 0 rfl sz147 rfl ag147) fun a h => ?_
 refine wmv h rfl fun a h => ?_
 refine wl (cal h rfl en103 (mean_s x e t j b _ (hS.keep hp cl0) hsk ht hb) fun u w2 ⟨e1, e2⟩ a h => ?_)
 subst e1
 have hp := hp.below e2
 refine wsn h rfl fun a h => ?_
 refine rg ?_
 refine wmv h rfl fun a h => ?_
 refine wl (cal h rfl en102 (around_s _ _ (by omega)) fun u w3 ⟨e1, e2⟩ a h => ?_)
 subst e1
 have hp := hp.below e2
 refine wmv h rfl fun a h => ?_
 refine wvl h (lenR h rfl Tryz.underlying74 ((hS.road b (List.mem_of_getElem? hb)).keep (by decide) hp cl0)) fun a h => ?_
 refine wvl h (mul h rfl rfl (by omega)) fun a h => ?_
 refine wl (cal h rfl en127 (floor_s _ _ _ (by omega) (by omega)) fun u w4 ⟨e1, e2⟩ a h => ?_)
 subst e1
 have hp := hp.below e2
 refine wmv h rfl fun a h => ?_
 refine wvl h (ext h rfl rfl) fun a h => ?_
 refine wvl h (ext h rfl rfl) fun a h => ?_
 refine ws2 h rfl rfl rfl rfl fun a h => ?_
 refine rg ?_
 refine wm2 h rfl rfl rfl rfl fun a h => ?_
 refine wvl h (add h rfl rfl (by omega)) fun a h => ?_
 refine wmv h rfl fun a h => ?_
 refine wvl h (lenR h rfl Tryz.underlying74 ((hS.road b (List.mem_of_getElem? hb)).keep (by decide) hp cl0)) fun a h => ?_
 refine wvl h (rem0 h rfl rfl (by omega) (by omega)) fun a h => ?_
 refine wvl h (iadR ((i0 + 1) % b.1.road.length) h rfl rfl Tryz.underlying74 sz3 ((hS.road b (List.mem_of_getElem? hb)).keep (by decide) hp cl0) (by rw [hi, hc]) (hl1)) fun a h => ?_
 refine wvl h (ld0 h ((hS.road b (List.mem_of_getElem? hb)).keep (by decide) hp cl0) hy rfl ag3 rfl) fun a h => ?_
 refine wsn h rfl fun a h => ?_
 refine rg ?_
 refine wm3 h rfl rfl rfl rfl rfl rfl fun a h => ?_
 refine wvl h (iadR (i0) h rfl rfl Tryz.underlying74 sz3 ((hS.road b (List.mem_of_getElem? hb)).keep (by decide) hp cl0) (hi) (hl0)) fun a h => ?_
 refine wvl h (ld0 h ((hS.road b (List.mem_of_getElem? hb)).keep (by decide) hp cl0) hz rfl ag3 rfl) fun a h => ?_
 refine wvl h (sub h rfl rfl (by omega)) fun a h => ?_
 refine wmv h rfl fun a h => ?_
 refine wvl h (mul h rfl rfl (by omega)) fun a h => ?_
 refine wl (cal h rfl en127 (floor_s _ _ _ (by omega) (by omega)) fun u w5 ⟨e1, e2⟩ a h => ?_)
 subst e1
 have hp := hp.below e2
 refine wmv h rfl fun a h => ?_
 refine wvl h (ext h rfl rfl) fun a h => ?_
 refine wvl h (ext h rfl rfl) fun a h => ?_
 refine ws2 h rfl rfl rfl rfl fun a h => ?_
 refine rg ?_
 refine wm3 h rfl rfl rfl rfl rfl rfl fun a h => ?_
 refine wvl h (iadR (i0) h rfl rfl Tryz.underlying74 sz3 ((hS.road b (List.mem_of_getElem? hb)).keep (by decide) hp cl0) (hi) (hl0)) fun a h => ?_
 refine wvl h (ld0 h ((hS.road b (List.mem_of_getElem? hb)).keep (by decide) hp cl0) hz rfl ag3 rfl) fun a h => ?_
 refine wmv h rfl fun a h => ?_
 refine wl (bsl h hp rfl (bs74_3_0_1_2 _ _ _) fun a w6 g2 hg2 h hp => ?_)
 refine wl (cal h rfl en128 (sum_s ⟨_, _, _⟩ [mean b.1 t, z, (y - z) * (around (mean b.1 t) * (b.1.road.length : Int) % 21600) / 21600] _ (hp.rdA (i := 1) _ rfl rfl rfl (Nat.le_of_ble_eq_true rfl) (Nat.le_of_ble_eq_true rfl) (fun _ _ => rfl)) (by simp) (by simp; omega)) fun u w7 ⟨e1, e2⟩ a h => ?_)
 subst e1
 have hp := hp.below e2
 refine wsn h rfl fun a h => ?_
 refine wp_ret ?_
 try simp only [xqs]
 refine rt_1 h rfl (rvT h rfl) ?_
 exact ⟨_, rfl, by rw [way_eq hi hc hz hy]; simp, hp.bel⟩
theorem node_s (x : EV) (e : Eng) (t : Int) (w : World) (hsk : isSky e = true) (ht : 0 ≤ t ∧ t ≤ 20000) : Ret Tryz.prog 104 #[.agg #[x.b.v, .int .i64 e.nnum, .int .i64 e.nden, .int .i64 e.nstart, .int .i64 t]] w fun u w' => u = .int .i64 (nodeAt e t) ∧ Below w.heap.size w w' := by
 obtain ⟨k1, k2, k3, -⟩ := sky_bd hsk
 have hg := node_bd k1 k2 ht
 have hp : Hp c0 w w [] := Hp.start trivial
 refine enter Tryz.func104 rfl (N := 15) rfl rfl fun a h => ?_
 refine rg ?_
 refine wl (box (cs := #[_, _, _, _, _]) h hp rfl rfl fun a w1 g1 hg1 h hp => ?_)
 refine wsn h rfl fun a h => ?_
 refine rdh (n := 13) hp mixed rfl ?_
 have hp := hp.drew
 refine tkq 0 h rfl hp (fun W _ => fad h rfl fo147_0) fun a h => ?_
 refine tkq 1 h rfl hp (fun W _ => fad h rfl fo72_1) fun a h => ?_
 refine tkq 2 h rfl hp (fun W _ => fad h rfl fo70_1) fun a h => ?_
 refine tkq 3 h rfl hp (fun W hp => ldo h hp rfl 0 rfl rfl ag3) fun a h => ?_
 refine tkq 4 h rfl hp (fun W hp => ldO (us := [_, _, _, _, _]) h hp rfl 0 rfl sz147 rfl ag147) fun a h => ?_
 refine tkq 5 h rfl hp (fun W _ => fad h rfl fo147_0) fun a h => ?_
 refine tkq 6 h rfl hp (fun W _ => fad h rfl fo72_1) fun a h => ?_
 refine tkq 7 h rfl hp (fun W _ => fad h rfl fo70_0) fun a h => ?_
 refine tkq 8 h rfl hp (fun W hp => ldO (us := [_, _]) h hp rfl 0 rfl sz68 rfl ag68) fun a h => ?_
 refine one 9 (by kernel_rfl) rfl (cal h rfl en129 (gone_s _ _ _ _ _ _ _ _ (by omega) (by omega) (by omega)) fun u w2 ⟨e1, e2⟩ a h => ⟨hp.below e2, ?_⟩)
 subst e1
 have hp := hp.below e2
 refine tkq 10 h rfl hp (fun W _ => sub h rfl rfl (by omega)) fun a h => ?_
 refine one 11 (by kernel_rfl) rfl (cal h rfl en102 (around_s _ _ (by omega)) fun u w3 ⟨e1, e2⟩ a h => ⟨hp.below e2, ?_⟩)
 subst e1
 have hp := hp.below e2
 refine tka 12 h rfl hp rfl fun a h => ?_
 refine dn (by kernel_rfl) ?_
 refine wp_ret ?_
 try simp only [xqs]
 refine rt_1 h rfl (rvT h rfl) ?_
 exact ⟨_, rfl, rfl, hp.ext.below⟩
theorem sun_s (x : EV) (e : Eng) (t : Int) (w : World) (hS : RdS w x e) (hsk : isSky e = true) (ht : 0 ≤ t ∧ t ≤ 20000) : Ret Tryz.prog 191 #[.agg #[x.b.v, .int .i64 e.nnum, .int .i64 e.nden, .int .i64 e.nstart, .int .i64 t]] w fun u w' => u = .int .i64 (way e.b0 t) ∧ Below w.heap.size w w' := by
 obtain ⟨hbl, b0, b1, hb0, hb1, e0, e1, v0, v1⟩ := sky2 hS hsk
 have hp : Hp c0 w w [] := Hp.start trivial
 refine enter Tryz.func191 rfl (N := 5) rfl rfl fun a h => ?_
 refine rg ?_
 refine wl (box (cs := #[_, _, _, _, _]) h hp rfl rfl fun a w1 g1 hg1 h hp => ?_)
 refine wsn h rfl fun a h => ?_
 refine rg ?_
 refine wvl h (ldO (us := [_, _, _, _, _]) h hp rfl 0 rfl sz147 rfl ag147) fun a h => ?_
 refine wl (cal h rfl en178 (way_s x e t 0 b0 _ (hS.keep hp cl0) hsk ht hb0) fun u w2 ⟨e1, e2⟩ a h => ?_)
 subst e1
 have hp := hp.below e2
 refine wsn h rfl fun a h => ?_
 refine wp_ret ?_
 try simp only [xqs]
 refine rt_1 h rfl (rvT h rfl) ?_
 exact ⟨_, rfl, by rw [e0], hp.bel⟩
theorem moon_s (x : EV) (e : Eng) (t : Int) (w : World) (hS : RdS w x e) (hsk : isSky e = true) (ht : 0 ≤ t ∧ t ≤ 20000) : Ret Tryz.prog 152 #[.agg #[x.b.v, .int .i64 e.nnum, .int .i64 e.nden, .int .i64 e.nstart, .int .i64 t]] w fun u w' => u = .int .i64 (way e.b1 t) ∧ Below w.heap.size w w' := by
 obtain ⟨hbl, b0, b1, hb0, hb1, e0, e1, v0, v1⟩ := sky2 hS hsk
 have hp : Hp c0 w w [] := Hp.start trivial
 refine enter Tryz.func152 rfl (N := 5) rfl rfl fun a h => ?_
 refine rg ?_
 refine wl (box (cs := #[_, _, _, _, _]) h hp rfl rfl fun a w1 g1 hg1 h hp => ?_)
 refine wsn h rfl fun a h => ?_
 refine rg ?_
 refine wvl h (ldO (us := [_, _, _, _, _]) h hp rfl 0 rfl sz147 rfl ag147) fun a h => ?_
 refine wl (cal h rfl en178 (way_s x e t 1 b1 _ (hS.keep hp cl0) hsk ht hb1) fun u w2 ⟨e1, e2⟩ a h => ?_)
 subst e1
 have hp := hp.below e2
 refine wsn h rfl fun a h => ?_
 refine wp_ret ?_
 try simp only [xqs]
 refine rt_1 h rfl (rvT h rfl) ?_
 exact ⟨_, rfl, by rw [e1], hp.bel⟩
theorem lunar_s (x : EV) (e : Eng) (t : Int) (w : World) (hS : RdS w x e) (hsk : isSky e = true) (ht : 0 ≤ t ∧ t ≤ 20000) : Ret Tryz.prog 177 #[.agg #[x.b.v, .int .i64 e.nnum, .int .i64 e.nden, .int .i64 e.nstart, .int .i64 t]] w fun u w' => u = .int .i64 (lunar e t) ∧ Below w.heap.size w w' := by
 obtain ⟨hbl, b0, b1, hb0, hb1, e0, e1, v0, v1⟩ := sky2 hS hsk
 have wb0 := way_bd v0 ht
 have wb1 := way_bd v1 ht
 rw [← e0] at wb0
 rw [← e1] at wb1
 have hp : Hp c0 w w [] := Hp.start trivial
 refine enter Tryz.func177 rfl (N := 25) rfl rfl fun a h => ?_
 refine rg ?_
 refine wl (box (cs := #[_, _, _, _, _]) h hp rfl rfl fun a w1 g1 hg1 h hp => ?_)
 refine wsn h rfl fun a h => ?_
 refine rg ?_
 refine wl (all h hp zc234 fun a w2 g2 hg2 h hp => ?_)
 refine wn ?_
 refine wp_seq ?_
 refine rg ?_
 refine wvl h (ldO (us := [_, _, _, _, _]) h hp rfl 0 rfl sz147 rfl ag147) fun a h => ?_
 refine wvl h (mkf h rfl rfl) fun a h => ?_
 refine wvl h (ldO (us := [_, _, _, _, _]) h hp rfl 0 rfl sz147 rfl ag147) fun a h => ?_
 refine wvl h (mkf h rfl rfl) fun a h => ?_
 refine wvl h (bld h rfl (bl235_0_1 _ _ _ _ _ _ _)) fun a h => ?_
 refine wmv h rfl fun a h => ?_
 refine wn ?_
 refine lp1 h [2, 3, 10] (fun n f w' => ∃ k : Nat, k ≤ 2 ∧ n = 2 - k ∧ f = [(11, .int .i64 k)] ∧ Hp c0 w w' ([.blk g1 (.cells #[x.b.v, .int .i64 e.nnum, .int .i64 e.nden, .int .i64 e.nstart, .int .i64 t] 147 (0, 0)), .blk g2 (.cells #[.int .i64 (bif Nat.blt 0 k then way e.b0 t else 0), .int .i64 (bif Nat.blt 1 k then way e.b1 t else 0)] 234 (0, 0))])) (2) [(11, .int .i64 ((0 : Nat) : Int))] ⟨rfl, rfl, rfl, rfl, trivial⟩ ⟨0, by omega, rfl, rfl, hp⟩ ?_
 rintro n f a w3 ⟨k, hk, rfl, rfl, hp⟩ h
 refine rg ?_
 refine wvl h (lss h rfl rfl) fun a h => ?_
 refine wn ?_
 refine cnd h rfl (fun hb1 => ?_) (fun hb1 => ?_)
 ·have hlt : k < 2 := by have := of_decide_eq_true hb1; omega
  refine skp ?_
  refine blk ?_
  refine rg ?_
  rcases (by omega : k = 0 ∨ k = 1) with rfl | rfl
  ·refine wmv h rfl fun a h => ?_
   refine wvl h (ixv h rfl rfl (ix235_0 _ _ _ _ _ _ _)) fun a h => ?_
   refine ws2 h rfl rfl rfl rfl fun a h => ?_
   refine rg1 ?_
   refine wm2 h rfl rfl rfl rfl fun a h => ?_
   refine wl (calv h rfl rfl (en191) (sun_s x e t _ (hS.keep hp cl0) hsk ht) fun u w4 ⟨e1, e2⟩ a h => ?_)
   subst e1
   have hp := hp.below e2
   refine wvl h (iaa h rfl rfl Tryz.underlying234 sz3 (by omega) (by omega)) fun a h => ?_
   refine wl (st1 h hp rfl rfl 1 rfl rfl sz3 rfl fun w5 hp => ?_)
   refine wn' ?_
   try simp only [xqs, ↓reduceIte, Nat.reduceEqDiff]
   refine rg1 ?_
   refine wvl h (add h rfl rfl (by omega)) fun a h => ?_
   refine wmv h rfl fun a h => ?_
   refine wn ?_
   exact ⟨_, _, (by omega), ⟨1, by omega, rfl, rfl, hp⟩, h.sub ⟨rfl, rfl, rfl, rfl, trivial⟩⟩
  refine wmv h rfl fun a h => ?_
  refine wvl h (ixv h rfl rfl (ix235_1 _ _ _ _ _ _ _)) fun a h => ?_
  refine ws2 h rfl rfl rfl rfl fun a h => ?_
  refine rg1 ?_
  refine wm2 h rfl rfl rfl rfl fun a h => ?_
  refine wl (calv h rfl rfl (en152) (moon_s x e t _ (hS.keep hp cl0) hsk ht) fun u w6 ⟨e1, e2⟩ a h => ?_)
  subst e1
  have hp := hp.below e2
  refine wvl h (iaa h rfl rfl Tryz.underlying234 sz3 (by omega) (by omega)) fun a h => ?_
  refine wl (st1 h hp rfl rfl 1 rfl rfl sz3 rfl fun w7 hp => ?_)
  refine wn' ?_
  try simp only [xqs, ↓reduceIte, Nat.reduceEqDiff]
  refine rg1 ?_
  refine wvl h (add h rfl rfl (by omega)) fun a h => ?_
  refine wmv h rfl fun a h => ?_
  refine wn ?_
  exact ⟨_, _, (by omega), ⟨2, by omega, rfl, rfl, hp⟩, h.sub ⟨rfl, rfl, rfl, rfl, trivial⟩⟩
 have hend : k = 2 := by have := of_decide_eq_false hb1; omega
 subst hend
 have hp : Hp c0 w w3 [.blk g1 (.cells #[x.b.v, .int .i64 e.nnum, .int .i64 e.nden, .int .i64 e.nstart, .int .i64 t] 147 (0, 0)), .blk g2 (.cells #[.int .i64 (way e.b0 t), .int .i64 (way e.b1 t)] 234 (0, 0))] := hp
 refine wp_exit ?_
 try simp only [xqs, ↓reduceIte, Nat.reduceEqDiff]
 refine rg ?_
 refine wvl h (iaa h rfl rfl Tryz.underlying234 sz3 (by omega) (by omega)) fun a h => ?_
 refine wvl h (ldo h hp rfl 1 rfl rfl ag3) fun a h => ?_
 refine wvl h (iaa h rfl rfl Tryz.underlying234 sz3 (by omega) (by omega)) fun a h => ?_
 refine wvl h (ldo h hp rfl 1 rfl rfl ag3) fun a h => ?_
 refine wvl h (sub h rfl rfl (by omega)) fun a h => ?_
 refine wsn h rfl fun a h => ?_
 refine wp_ret ?_
 try simp only [xqs]
 refine rt_1 h rfl (rvT h rfl) ?_
 exact ⟨_, rfl, rfl, hp.ext.below⟩
theorem full_new_s  (w : World) : Ret Tryz.prog 214 #[.agg #[]] w fun u w' => u = .bool false ∧ Below w.heap.size w w' := by
 have hp : Hp c0 w w [] := Hp.start trivial
 refine enter Tryz.func214 rfl (N := 3) rfl rfl fun a h => ?_
 refine rg ?_
 refine wl (box (cs := #[]) h hp rfl rfl fun a w1 g1 hg1 h hp => ?_)
 refine wsn h rfl fun a h => ?_
 refine rg ?_
 refine wsn h rfl fun a h => ?_
 refine wp_ret ?_
 try simp only [xqs]
 refine rt_1 h rfl (rvT h rfl) ?_
 exact ⟨_, rfl, rfl, hp.ext.below⟩
theorem has_new_s (x : EV) (e : Eng) (t : Int) (w : World) (hS : RdS w x e) (hsk : isSky e = true) (ht : 1 ≤ t ∧ t ≤ 20000) : Ret Tryz.prog 151 #[.agg #[x.b.v, .int .i64 e.nnum, .int .i64 e.nden, .int .i64 e.nstart, .int .i64 t], .iface 203 (.agg #[])] w fun u w' => u = .bool (skyMoon e t false) ∧ Below w.heap.size w w' := by
 obtain ⟨hbl, b0, b1, hb0, hb1, e0, e1, v0, v1⟩ := sky2 hS hsk
 have wb0 := way_bd v0 (t := t) (by omega)
 have wb1 := way_bd v1 (t := t) (by omega)
 have wa0 := way_bd v0 (t := t - 1) (by omega)
 have wa1 := way_bd v1 (t := t - 1) (by omega)
 rw [← e0] at wb0 wa0
 rw [← e1] at wb1 wa1
 have hl0 : lunar e t = way e.b1 t - way e.b0 t := rfl
 have hl1 : lunar e (t - 1) = way e.b1 (t - 1) - way e.b0 (t - 1) := rfl
 have hp : Hp c0 w w [] := Hp.start trivial
 refine enter Tryz.func151 rfl (N := 57) rfl rfl fun a h => ?_
 refine rg ?_
 refine wl (box (cs := #[_, _, _, _, _]) h hp rfl rfl fun a w1 g1 hg1 h hp => ?_)
 refine wsn h rfl fun a h => ?_
 refine rg ?_
 refine wvl h (fad h rfl fo147_0) fun a h => ?_
 refine wvl h (ldO (us := [_, _, _, _]) h hp rfl 0 rfl sz72 rfl ag72) fun a h => ?_
 refine wvl h (fad h rfl fo147_1) fun a h => ?_
 refine wvl h (ldo h hp rfl 0 rfl rfl ag3) fun a h => ?_
 refine wvl h (sub h rfl rfl (by omega)) fun a h => ?_
 refine wvl h (bld h rfl (bl147_0_1 _ _ _ _ _ _ _ _)) fun a h => ?_
 refine wl (all h hp zc147 fun a w2 g2 hg2 h hp => ?_)
 refine wl (sta h hp rfl rfl 1 rfl sz147 rfl rfl fun w3 hp => ?_)
 refine wn ?_
 refine wp_seq ?_
 refine rg ?_
 refine wmv h rfl fun a h => ?_
 refine wn ?_
 refine blk1 ?_
 refine rg ?_
 refine wvl h (tya h rfl (ta203_200_226 _)) fun a h => ?_
 refine wvl h (ext h rfl rfl) fun a h => ?_
 refine wvl h (ext h rfl rfl) fun a h => ?_
 refine wn ?_
 refine cnd1 h rfl (fun e => nomatch e) (fun _ => ?_)
 refine rg ?_
 refine wvl h (tya h rfl (ta203_200_204 _)) fun a h => ?_
 refine wvl h (ext h rfl rfl) fun a h => ?_
 refine wvl h (ext h rfl rfl) fun a h => ?_
 refine wn ?_
 refine cnd1 h rfl (fun e => nomatch e) (fun _ => ?_)
 refine wp_skip ?_
 refine rdh (n := 6) hp mixed rfl ?_
 have hp := hp.drew
 refine tkq 0 h rfl hp (fun W hp => ldO (us := [_, _, _, _, _]) h hp rfl 1 rfl sz147 rfl ag147) fun a h => ?_
 refine tkq 2 h rfl hp (fun W hp => ldO (us := [_, _, _, _, _]) h hp rfl 0 rfl sz147 rfl ag147) fun a h => ?_
 refine one 1 (by kernel_rfl) rfl (cal h rfl en177 (lunar_s x e _ _ (hS.keep hp cl0) hsk (by omega)) fun u w4 ⟨e1, e2⟩ a h => ⟨hp.below e2, ?_⟩)
 subst e1
 have hp := hp.below e2
 refine one 3 (by kernel_rfl) rfl (cal h rfl en177 (lunar_s x e _ _ (hS.keep hp cl0) hsk (by omega)) fun u w5 ⟨e1, e2⟩ a h => ⟨hp.below e2, ?_⟩)
 subst e1
 have hp := hp.below e2
 refine one 4 (by kernel_rfl) rfl (cal h rfl en176 (passes_s _ _ _ (by omega) (by omega)) fun u w6 ⟨e1, e2⟩ a h => ⟨hp.below e2, ?_⟩)
 subst e1
 have hp := hp.below e2
 refine tka 5 h rfl hp rfl fun a h => ?_
 refine dn (by kernel_rfl) ?_
 refine wp_ret ?_
 try simp only [xqs]
 refine rt_1 h rfl (rvT h rfl) ?_
 exact ⟨_, rfl, by simp [skyMoon, halfIf], hp.bel⟩
theorem full_full_s  (w : World) : Ret Tryz.prog 215 #[.agg #[]] w fun u w' => u = .bool true ∧ Below w.heap.size w w' := by
 have hp : Hp c0 w w [] := Hp.start trivial
 refine enter Tryz.func215 rfl (N := 3) rfl rfl fun a h => ?_
 refine rg ?_
 refine wl (box (cs := #[]) h hp rfl rfl fun a w1 g1 hg1 h hp => ?_)
 refine wsn h rfl fun a h => ?_
 refine rg ?_
 refine wsn h rfl fun a h => ?_
 refine wp_ret ?_
 try simp only [xqs]
 refine rt_1 h rfl (rvT h rfl) ?_
 exact ⟨_, rfl, rfl, hp.ext.below⟩
theorem has_full_s (x : EV) (e : Eng) (t : Int) (w : World) (hS : RdS w x e) (hsk : isSky e = true) (ht : 1 ≤ t ∧ t ≤ 20000) : Ret Tryz.prog 151 #[.agg #[x.b.v, .int .i64 e.nnum, .int .i64 e.nden, .int .i64 e.nstart, .int .i64 t], .iface 204 (.agg #[])] w fun u w' => u = .bool (skyMoon e t true) ∧ Below w.heap.size w w' := by
 obtain ⟨hbl, b0, b1, hb0, hb1, e0, e1, v0, v1⟩ := sky2 hS hsk
 have wb0 := way_bd v0 (t := t) (by omega)
 have wb1 := way_bd v1 (t := t) (by omega)
 have wa0 := way_bd v0 (t := t - 1) (by omega)
 have wa1 := way_bd v1 (t := t - 1) (by omega)
 rw [← e0] at wb0 wa0
 rw [← e1] at wb1 wa1
 have hl0 : lunar e t = way e.b1 t - way e.b0 t := rfl
 have hl1 : lunar e (t - 1) = way e.b1 (t - 1) - way e.b0 (t - 1) := rfl
 have hp : Hp c0 w w [] := Hp.start trivial
 refine enter Tryz.func151 rfl (N := 57) rfl rfl fun a h => ?_
 refine rg ?_
 refine wl (box (cs := #[_, _, _, _, _]) h hp rfl rfl fun a w1 g1 hg1 h hp => ?_)
 refine wsn h rfl fun a h => ?_
 refine rg ?_
 refine wvl h (fad h rfl fo147_0) fun a h => ?_
 refine wvl h (ldO (us := [_, _, _, _]) h hp rfl 0 rfl sz72 rfl ag72) fun a h => ?_
 refine wvl h (fad h rfl fo147_1) fun a h => ?_
 refine wvl h (ldo h hp rfl 0 rfl rfl ag3) fun a h => ?_
 refine wvl h (sub h rfl rfl (by omega)) fun a h => ?_
 refine wvl h (bld h rfl (bl147_0_1 _ _ _ _ _ _ _ _)) fun a h => ?_
 refine wl (all h hp zc147 fun a w2 g2 hg2 h hp => ?_)
 refine wl (sta h hp rfl rfl 1 rfl sz147 rfl rfl fun w3 hp => ?_)
 refine wn ?_
 refine wp_seq ?_
 refine rg ?_
 refine wmv h rfl fun a h => ?_
 refine wn ?_
 refine blk1 ?_
 refine rg ?_
 refine wvl h (tya h rfl (ta204_200_226 _)) fun a h => ?_
 refine wvl h (ext h rfl rfl) fun a h => ?_
 refine wvl h (ext h rfl rfl) fun a h => ?_
 refine wn ?_
 refine cnd1 h rfl (fun e => nomatch e) (fun _ => ?_)
 refine rg ?_
 refine wvl h (tya h rfl (ta204_200_204 _)) fun a h => ?_
 refine wvl h (ext h rfl rfl) fun a h => ?_
 refine wvl h (ext h rfl rfl) fun a h => ?_
 refine wn ?_
 refine cnd1 h rfl (fun _ => ?_) (fun e => nomatch e)
 refine rg ?_
 refine wl (all h hp zc204 fun a w4 g3 hg3 h hp => ?_)
 refine wl (sta h hp rfl rfl 2 rfl sz204 rfl rfl fun w5 hp => ?_)
 refine wn ?_
 refine rdh (n := 8) hp mixed rfl ?_
 have hp := hp.drew
 refine tkq 0 h rfl hp (fun W hp => ldO (us := [_, _, _, _, _]) h hp rfl 1 rfl sz147 rfl ag147) fun a h => ?_
 refine tkq 3 h rfl hp (fun W hp => ldO (us := [_, _, _, _, _]) h hp rfl 0 rfl sz147 rfl ag147) fun a h => ?_
 refine one 1 (by kernel_rfl) rfl (cal h rfl en177 (lunar_s x e _ _ (hS.keep hp cl0) hsk (by omega)) fun u w6 ⟨e1, e2⟩ a h => ⟨hp.below e2, ?_⟩)
 subst e1
 have hp := hp.below e2
 refine tkq 2 h rfl hp (fun W _ => sub h rfl rfl (by omega)) fun a h => ?_
 refine one 4 (by kernel_rfl) rfl (cal h rfl en177 (lunar_s x e _ _ (hS.keep hp cl0) hsk (by omega)) fun u w7 ⟨e1, e2⟩ a h => ⟨hp.below e2, ?_⟩)
 subst e1
 have hp := hp.below e2
 refine tkq 5 h rfl hp (fun W _ => sub h rfl rfl (by omega)) fun a h => ?_
 refine one 6 (by kernel_rfl) rfl (cal h rfl en176 (passes_s _ _ _ (by omega) (by omega)) fun u w8 ⟨e1, e2⟩ a h => ⟨hp.below e2, ?_⟩)
 subst e1
 have hp := hp.below e2
 refine tka 7 h rfl hp rfl fun a h => ?_
 refine dn (by kernel_rfl) ?_
 refine wp_ret ?_
 try simp only [xqs]
 refine rt_1 h rfl (rvT h rfl) ?_
 exact ⟨_, rfl, by simp [skyMoon, halfIf], hp.bel⟩
theorem far_s (x : EV) (e : Eng) (t : Int) (w : World) (hS : RdS w x e) (hsk : isSky e = true) (ht : 0 ≤ t ∧ t ≤ 20000) : Ret Tryz.prog 133 #[.agg #[x.b.v, .int .i64 e.nnum, .int .i64 e.nden, .int .i64 e.nstart, .int .i64 t]] w fun u w' => u = .int .i64 (skyFar e t) ∧ Below w.heap.size w w' := by
 obtain ⟨hbl, b0, b1, hb0, hb1, e0, e1, v0, v1⟩ := sky2 hS hsk
 have wb1 := way_bd v1 ht
 rw [← e1] at wb1
 have hn := around_bd (e.nstart - gone e.nnum e.nden t)
 have hn2 : nodeAt e t = around (e.nstart - gone e.nnum e.nden t) := rfl
 have hp : Hp c0 w w [] := Hp.start trivial
 refine enter Tryz.func133 rfl (N := 18) rfl rfl fun a h => ?_
 refine rg ?_
 refine wl (box (cs := #[_, _, _, _, _]) h hp rfl rfl fun a w1 g1 hg1 h hp => ?_)
 refine wsn h rfl fun a h => ?_
 refine rdh (n := 11) hp mixed rfl ?_
 have hp := hp.drew
 refine tkq 0 h rfl hp (fun W hp => ldO (us := [_, _, _, _, _]) h hp rfl 0 rfl sz147 rfl ag147) fun a h => ?_
 refine tkq 2 h rfl hp (fun W hp => ldO (us := [_, _, _, _, _]) h hp rfl 0 rfl sz147 rfl ag147) fun a h => ?_
 refine one 1 (by kernel_rfl) rfl (cal h rfl en152 (moon_s x e t _ (hS.keep hp cl0) hsk ht) fun u w2 ⟨e1, e2⟩ a h => ⟨hp.below e2, ?_⟩)
 subst e1
 have hp := hp.below e2
 refine one 3 (by kernel_rfl) rfl (cal h rfl en104 (node_s _ _ _ _ (by assumption) (by omega)) fun u w3 ⟨e1, e2⟩ a h => ⟨hp.below e2, ?_⟩)
 subst e1
 have hp := hp.below e2
 refine tkq 4 h rfl hp (fun W _ => sub h rfl rfl (by omega)) fun a h => ?_
 refine one 5 (by kernel_rfl) rfl (cal h rfl en127 (floor_s _ _ _ (by omega) (by omega)) fun u w4 ⟨e1, e2⟩ a h => ⟨hp.below e2, ?_⟩)
 subst e1
 have hp := hp.below e2
 refine tkm 6 h rfl hp rfl fun a h => ?_
 refine tkq 7 h rfl hp (fun W _ => ext h rfl rfl) fun a h => ?_
 refine tkq 8 h rfl hp (fun W _ => ext h rfl rfl) fun a h => ?_
 refine tka 9 h rfl hp rfl fun a h => ?_
 refine tka 10 h rfl hp rfl fun a h => ?_
 refine dn (by kernel_rfl) ?_
 refine rg ?_
 refine wm2 h rfl rfl rfl rfl fun a h => ?_
 refine wvl h (sub h rfl rfl (by omega)) fun a h => ?_
 refine wvl h (min_ h rfl rfl) fun a h => ?_
 refine wsn h rfl fun a h => ?_
 refine wp_ret ?_
 try simp only [xqs]
 refine rt_1 h rfl (rvT h rfl) ?_
 exact ⟨_, rfl, rfl, hp.ext.below⟩
theorem Mean_s (x : EV) (e : Eng) (i : Nat) (b : BV) (t : Int) (w : World) (hS : RdS w x e) (hsk : isSky e = true) (ht : 0 ≤ t ∧ t ≤ 20000) (hb : x.bs[i]? = some b) : Ret Tryz.prog 66 #[.agg #[x.b.v, .int .i64 e.nnum, .int .i64 e.nden, .int .i64 e.nstart], .int .i64 i, .int .i64 t] w fun u w' => u = .tuple #[.int .i64 (around (mean b.1 t)), .int .i64 0] ∧ Below w.heap.size w w' := by
 have hbi := (List.getElem?_eq_some_iff.1 hb).1
 have hin : inR (i : Int) 0 ((x.bs.length : Int) - 1) = true := by simp only [inR, Bool.and_eq_true, decide_eq_true_eq]; omega
 have hin2 : inR t 0 20000 = true := by simp only [inR, Bool.and_eq_true, decide_eq_true_eq]; omega
 have hmb := mean_bd (hS.body hsk hb) ht
 have hp : Hp c0 w w [] := Hp.start trivial
 refine enter Tryz.func66 rfl (N := 28) rfl rfl fun a h => ?_
 refine rg ?_
 refine wl (box (cs := #[_, _, _, _]) h hp rfl rfl fun a w1 g1 hg1 h hp => ?_)
 refine ws2 h rfl rfl rfl rfl fun a h => ?_
 refine wp_seq ?_
 refine rg ?_
 refine wvl h (ldO (us := [_, _, _, _]) h hp rfl 0 rfl sz72 rfl ag72) fun a h => ?_
 refine wl (cal h rfl en99 (isSky_s _ _ _ (by first | exact (hS.keep hp cl0) | exact hS.keep hp (by assumption))) fun u w2 ⟨e1, e2⟩ a h => ?_)
 subst e1
 have hp := hp.below e2
 refine wvl h (not_ h rfl) fun a h => ?_
 refine wmv h rfl fun a h => ?_
 refine split (t := 11) h rfl (fun hb1 => ?_) (fun hb1 => ?_)
 ·exact absurd hb1 (by simp [hsk])
 refine wl (stp_on h rfl rfl rfl hb1 (vl h (ldO (us := [_, _, _, _]) h hp rfl 0 rfl sz72 rfl ag72) fun a h => ?_))
 refine wl (stp_on h rfl rfl rfl hb1 (vl h (mov h rfl) fun a h => ?_))
 refine wl (stp_on h rfl rfl rfl hb1 (cal h rfl en100 (isBody_s _ _ _ _ (by first | exact (hS.keep hp cl0))) fun u w3 ⟨e1, e2⟩ a h => ?_))
 subst e1
 have hp := hp.below e2
 refine wl (stp_on h rfl rfl rfl hb1 (vl h (not_ h rfl) fun a h => ?_))
 refine wvl h (pckF h rfl hb1 rfl) fun a h => ?_
 refine wmv h rfl fun a h => ?_
 refine split (t := 17) h rfl (fun hb2 => ?_) (fun hb2 => ?_)
 ·exact absurd hb2 (by simp [hin])
 refine wl (stp_on h rfl rfl rfl hb2 (vl h (mov h rfl) fun a h => ?_))
 refine wl (stp_on h rfl rfl rfl hb2 (cal h rfl en101 (isDay_s _ _) fun u w4 ⟨e1, e2⟩ a h => ?_))
 subst e1
 subst e2
 refine wl (stp_on h rfl rfl rfl hb2 (vl h (not_ h rfl) fun a h => ?_))
 refine wvl h (pckF h rfl hb2 rfl) fun a h => ?_
 refine wn ?_
 refine cnd1 h rfl (fun hb3 => ?_) (fun hb3 => ?_)
 ·exact absurd hb3 (by simp [hin2])
 refine skp ?_
 refine rg ?_
 refine wvl h (ldO (us := [_, _, _, _]) h hp rfl 0 rfl sz72 rfl ag72) fun a h => ?_
 refine wmv h rfl fun a h => ?_
 refine wvl h (bld h rfl (bl147_0_1 _ _ _ _ _ _ _ _)) fun a h => ?_
 refine wmv h rfl fun a h => ?_
 refine wl (cal h rfl en103 (mean_s x e t i b _ (hS.keep hp cl0) hsk ht hb) fun u w5 ⟨e1, e2⟩ a h => ?_)
 subst e1
 have hp := hp.below e2
 refine wl (cal h rfl en102 (around_s _ _ (by omega)) fun u w6 ⟨e1, e2⟩ a h => ?_)
 subst e1
 have hp := hp.below e2
 refine ws2 h rfl rfl rfl rfl fun a h => ?_
 refine wp_ret ?_
 try simp only [xqs]
 refine rt_2 h rfl (rvT h rfl) (rvT h rfl) ?_
 exact ⟨_, rfl, rfl, hp.ext.below⟩
theorem Node_s (x : EV) (e : Eng) (t : Int) (w : World) (hS : RdS w x e) (hsk : isSky e = true) (ht : 0 ≤ t ∧ t ≤ 20000) : Ret Tryz.prog 67 #[.agg #[x.b.v, .int .i64 e.nnum, .int .i64 e.nden, .int .i64 e.nstart], .int .i64 t] w fun u w' => u = .tuple #[.int .i64 (nodeAt e t), .int .i64 0] ∧ Below w.heap.size w w' := by
 have hin2 : inR t 0 20000 = true := by simp only [inR, Bool.and_eq_true, decide_eq_true_eq]; omega
 have hp : Hp c0 w w [] := Hp.start trivial
 refine enter Tryz.func67 rfl (N := 18) rfl rfl fun a h => ?_
 refine rg ?_
 refine wl (box (cs := #[_, _, _, _]) h hp rfl rfl fun a w1 g1 hg1 h hp => ?_)
 refine ws2 h rfl rfl rfl rfl fun a h => ?_
 refine wp_seq ?_
 refine rg ?_
 refine wvl h (ldO (us := [_, _, _, _]) h hp rfl 0 rfl sz72 rfl ag72) fun a h => ?_
 refine wl (cal h rfl en99 (isSky_s _ _ _ (by first | exact (hS.keep hp cl0) | exact hS.keep hp (by assumption))) fun u w2 ⟨e1, e2⟩ a h => ?_)
 subst e1
 have hp := hp.below e2
 refine wvl h (not_ h rfl) fun a h => ?_
 refine wmv h rfl fun a h => ?_
 refine split (t := 9) h rfl (fun hb1 => ?_) (fun hb1 => ?_)
 ·exact absurd hb1 (by simp [hsk])
 refine wl (stp_on h rfl rfl rfl hb1 (vl h (mov h rfl) fun a h => ?_))
 refine wl (stp_on h rfl rfl rfl hb1 (cal h rfl en101 (isDay_s _ _) fun u w3 ⟨e1, e2⟩ a h => ?_))
 subst e1
 subst e2
 refine wl (stp_on h rfl rfl rfl hb1 (vl h (not_ h rfl) fun a h => ?_))
 refine wvl h (pckF h rfl hb1 rfl) fun a h => ?_
 refine wn ?_
 refine cnd1 h rfl (fun hb2 => ?_) (fun hb2 => ?_)
 ·exact absurd hb2 (by simp [hin2])
 refine skp ?_
 refine rg ?_
 refine wvl h (ldO (us := [_, _, _, _]) h hp rfl 0 rfl sz72 rfl ag72) fun a h => ?_
 refine wmv h rfl fun a h => ?_
 refine wvl h (bld h rfl (bl147_0_1 _ _ _ _ _ _ _ _)) fun a h => ?_
 refine wl (cal h rfl en104 (node_s x e t _ hsk ht) fun u w4 ⟨e1, e2⟩ a h => ?_)
 subst e1
 have hp := hp.below e2
 refine ws2 h rfl rfl rfl rfl fun a h => ?_
 refine wp_ret ?_
 try simp only [xqs]
 refine rt_2 h rfl (rvT h rfl) (rvT h rfl) ?_
 exact ⟨_, rfl, rfl, hp.ext.below⟩
end Go.Proofs.Ec
