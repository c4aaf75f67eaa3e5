import Derived.Test.YtobofnkmbpfoiaaGreatDoorProg
import Derived.Test.YtobofnkmbpfoiaaGreatDoorPFa
import Derived.Test.YtobofnkmbpfoiaaGreatDoorPQb
import Derived.Test.YtobofnkmbpfoiaaGreatDoorPW18
import Derived.Test.YtobofnkmbpfoiaaGreatDoorPQa
set_option linter.unusedVariables false
set_option linter.unusedSimpArgs false
set_option maxRecDepth 4000
namespace Go.Proofs.Ec
open Go.RowKit Go.Proofs.Sx
open Ecl
theorem Shown_T (s : SV) (l : List (Int × Int)) (fn fd : Int) (f9 s2 : SV) (fe st : List Int) (t : Int) (w : World) (hR : Rd w encP 2 s.v l) (hF : Rd w encI 1 f9.v fe) (hS : Rd w encI 1 s2.v st) (hfe : (rising 1 10000 fe && decide (fe.length ≤ 8)) = true) (hset : rising 0 ((fe.length : Int) - 1) st = true) (hT : isTrain l = true) (hfr : (inR fn 0 50000 && inR fd 1 50000) = true) (ht : 0 ≤ t ∧ t ≤ 10000) : Ret Tryz.prog 109 #[s.v, .agg #[.int .i64 fn, .int .i64 fd], f9.v, s2.v, .int .i64 t] w fun u w' => u = .int .i64 (shown l fn fd fe st t) ∧ Below w.heap.size w w' := by
 have hfr2 := hfr
 simp only [inR, Bool.and_eq_true, decide_eq_true_eq] at hfr2
 have hx := turns_bd hT
 have hfe3 := hfe
 rw [Bool.and_eq_true] at hfe3
 have hpw : (st.map (at0 fe)).Pairwise (· < ·) := pairwise_at ((rising_iff _ _ _).1 hfe3.1).1 ((rising_iff _ _ _).1 hset).1 (fun n hn => by have := ((rising_iff _ _ _).1 hset).2 n hn; omega)
 have hp : Hp c0 w w [] := Hp.start trivial
 refine enter Tryz.func109 rfl (N := 76) rfl rfl fun a h => ?_
 refine rg ?_
 refine wl (box (cs := #[_, _]) h hp rfl rfl fun a w1 g1 hg1 h hp => ?_)
 refine wsn h rfl fun a h => ?_
 refine rg ?_
 refine wsn h rfl fun a h => ?_
 refine wp_seq ?_
 refine rg ?_
 refine wsn h rfl fun a h => ?_
 refine lp1 h [0, 2, 3, 4, 6, 10] (fun n f w' => ∃ (k : Nat) (z : Int), k ≤ st.length ∧ n = st.length - k ∧ f = [(12, .int .i64 k), (11, .int .i64 z)] ∧ Hp c0 w w' [.blk g1 (.cells #[.int .i64 fn, .int .i64 fd] 43 (0, 0))] ∧ lastStop fe t st 0 = lastStop fe t (st.drop k) z ∧ 0 ≤ z ∧ z ≤ t) (st.length) [(12, .int .i64 ((0 : Nat) : Int)), (11, .int .i64 0)] ⟨rfl, rfl, rfl, rfl, rfl, rfl, rfl, rfl, trivial⟩ ⟨0, 0, Nat.zero_le _, rfl, rfl, hp, rfl, by omega, by omega⟩ ?_
 rintro n f a w2 ⟨k, z, hk, rfl, rfl, hp, hI, z0, z1⟩ h
 have hfit := hS.fits
 refine wp_seq ?_
 refine rg ?_
 refine wm2 h rfl rfl rfl rfl fun a h => ?_
 refine wvl h (lenR h rfl Tryz.underlying30 (hS.keep (by decide) hp cl0)) fun a h => ?_
 refine wvl h (lss h rfl rfl) fun a h => ?_
 refine wmv h rfl fun a h => ?_
 refine split (t := 20) h rfl (fun hb1 => ?_) (fun hb1 => ?_)
 ·have hlt : k < st.length := by have := of_decide_eq_true hb1; omega
  obtain ⟨y, hy⟩ : ∃ y, st[k]? = some y := ⟨_, List.getElem?_eq_getElem hlt⟩
  obtain ⟨hy0, hy1⟩ := set_bd hset (List.mem_of_getElem? hy)
  obtain ⟨g, hg⟩ : ∃ g, fe[y.toNat]? = some g := ⟨_, List.getElem?_eq_getElem (by omega)⟩
  have hg1 := feast_bd hfe (List.mem_of_getElem? hg)
  have hat := at0_eq hy0 hg
  refine wl (stp_on h rfl rfl rfl hb1 (vl h (mov h rfl) fun a h => ?_))
  refine wl (stp_on h rfl rfl rfl hb1 (vl h (mov h rfl) fun a h => ?_))
  refine wl (stp_on h rfl rfl rfl hb1 (vl h (mov h rfl) fun a h => ?_))
  refine wl (stp_on h rfl rfl rfl hb1 (vl h (iadR (k) h rfl rfl Tryz.underlying30 sz3 (hS.keep (by decide) hp cl0) (rfl) (hlt)) fun a h => ?_))
  refine wl (stp_on h rfl rfl rfl hb1 (vl h (ld0 h (hS.keep (by decide) hp cl0) hy rfl ag3 rfl) fun a h => ?_))
  refine wl (stp_on h rfl rfl rfl hb1 (vl h (iadR (y.toNat) h rfl rfl Tryz.underlying30 sz3 (hF.keep (by decide) hp cl0) (by omega) (by omega)) fun a h => ?_))
  refine wl (stp_on h rfl rfl rfl hb1 (vl h (ld0 h (hF.keep (by decide) hp cl0) hg rfl ag3 rfl) fun a h => ?_))
  refine wl (stp_on h rfl rfl rfl hb1 (vl h (mov h rfl) fun a h => ?_))
  refine wl (stp_on h rfl rfl rfl hb1 (vl h (leq h rfl rfl) fun a h => ?_))
  refine wvl h (pckT h rfl hb1 rfl) fun a h => ?_
  refine wn ?_
  refine cnd1 h rfl (fun hb2 => ?_) (fun hb2 => ?_)
  ·have hgt : g ≤ t := of_decide_eq_true hb2
   refine skp ?_
   refine blk ?_
   refine rg1 ?_
   refine wm3 h rfl rfl rfl rfl rfl rfl fun a h => ?_
   refine wvl h (iadR (k) h rfl rfl Tryz.underlying30 sz3 (hS.keep (by decide) hp cl0) (rfl) (hlt)) fun a h => ?_
   refine wvl h (ld0 h (hS.keep (by decide) hp cl0) hy rfl ag3 rfl) fun a h => ?_
   refine wvl h (iadR (y.toNat) h rfl rfl Tryz.underlying30 sz3 (hF.keep (by decide) hp cl0) (by omega) (by omega)) fun a h => ?_
   refine wvl h (ld0 h (hF.keep (by decide) hp cl0) hg rfl ag3 rfl) fun a h => ?_
   refine wsg h rfl fun a h => ?_
   refine wn' ?_
   try simp only [xqs, ↓reduceIte, Nat.reduceEqDiff]
   refine rg1 ?_
   refine wmv h rfl fun a h => ?_
   refine wvl h (add h rfl rfl (by omega)) fun a h => ?_
   refine wsn h rfl fun a h => ?_
   exact ⟨_, _, (by omega), ⟨k + 1, g, by omega, rfl, rfl, hp.pre 1 rfl, by rw [hI, drop_cons hy, lastStop, hat, if_pos hgt], by omega, by omega⟩, h.sub ⟨rfl, rfl, rfl, rfl, rfl, rfl, rfl, rfl, trivial⟩⟩
  have hgt := of_decide_eq_false hb2
  have hE : lastStop fe t (st.drop k) z = z := by rw [drop_cons hy, lastStop, hat, if_neg hgt]
  have hz : lastSet fe t st 0 = z := by rw [← lastStop_eq st 0 hpw, hI, hE]
  have m0 := mul_bd (a := fd) (b := (turns l).2) (A := 50000) (B := 216000) (by omega) (by omega) (by omega) (by omega)
  have m0p : 0 < fd * (turns l).2 := Int.mul_pos (by omega) (by omega)
  have m1 := mul_bd (a := fn) (b := z) (A := 50000) (B := 10000) (by omega) (by omega) (by omega) (by omega)
  have r1 := Int.emod_nonneg (fn * z) (by omega : fd ≠ 0)
  have r2 := Int.emod_lt_of_pos (fn * z) (by omega : 0 < fd)
  have m2 := mul_bd (a := fn * z % fd) (b := (turns l).2) (A := 50000) (B := 216000) (by omega) (by omega) (by omega) (by omega)
  have m3 := mul_bd (a := (turns l).1) (b := t - z) (A := 216000) (B := 10000) (by omega) (by omega) (by omega) (by omega)
  have r3 := Int.emod_nonneg ((turns l).1 * (t - z)) (by omega : (turns l).2 ≠ 0)
  have r4 := Int.emod_lt_of_pos ((turns l).1 * (t - z)) (by omega : 0 < (turns l).2)
  have m4 := mul_bd (a := (turns l).1 * (t - z) % (turns l).2) (b := fd) (A := 216000) (B := 50000) (by omega) (by omega) (by omega) (by omega)
  have r5 := Int.emod_nonneg (fn * z % fd * (turns l).2 + (turns l).1 * (t - z) % (turns l).2 * fd) (by omega : fd * (turns l).2 ≠ 0)
  have r6 := Int.emod_lt_of_pos (fn * z % fd * (turns l).2 + (turns l).1 * (t - z) % (turns l).2 * fd) m0p
  refine wp_exit ?_
  try simp only [xqs, ↓reduceIte, Nat.reduceEqDiff]
  refine rg ?_
  refine wmv h rfl fun a h => ?_
  refine wl (cal h rfl en153 (Turns_T _ _ _ (hR.keep (by decide) hp cl0) hT) fun u w3 ⟨e1, e2⟩ a h => ?_)
  subst e1
  have hp := hp.below e2
  refine wl (all h hp zc43 fun a w4 g2 hg2 h hp => ?_)
  refine wl (sta h hp rfl rfl 1 rfl sz43 rfl rfl fun w5 hp => ?_)
  refine wn ?_
  refine rdh (n := 24) hp mixed rfl ?_
  have hp := hp.drew
  refine tkq 0 h rfl hp (fun W _ => fad h rfl fo43_0) fun a h => ?_
  refine tkq 1 h rfl hp (fun W hp => ldo h hp rfl 0 rfl rfl ag3) fun a h => ?_
  refine tkm 2 h rfl hp rfl fun a h => ?_
  refine tkq 3 h rfl hp (fun W _ => mul h rfl rfl (by omega)) fun a h => ?_
  refine tkq 4 h rfl hp (fun W _ => fad h rfl fo43_1) fun a h => ?_
  refine tkq 5 h rfl hp (fun W hp => ldo h hp rfl 0 rfl rfl ag3) fun a h => ?_
  refine tkq 6 h rfl hp (fun W _ => rem0 h rfl rfl (by omega) (by omega)) fun a h => ?_
  refine tkq 7 h rfl hp (fun W _ => fad h rfl fo43_1) fun a h => ?_
  refine tkq 8 h rfl hp (fun W hp => ldo h hp rfl 1 rfl rfl ag3) fun a h => ?_
  refine tkq 9 h rfl hp (fun W _ => mul h rfl rfl (by omega)) fun a h => ?_
  refine tkq 10 h rfl hp (fun W _ => fad h rfl fo43_0) fun a h => ?_
  refine tkq 11 h rfl hp (fun W hp => ldo h hp rfl 1 rfl rfl ag3) fun a h => ?_
  refine tkm 12 h rfl hp rfl fun a h => ?_
  refine tkm 13 h rfl hp rfl fun a h => ?_
  refine tkq 14 h rfl hp (fun W _ => sub h rfl rfl (by omega)) fun a h => ?_
  refine tkq 15 h rfl hp (fun W _ => mul h rfl rfl (by omega)) fun a h => ?_
  refine tkq 16 h rfl hp (fun W _ => fad h rfl fo43_1) fun a h => ?_
  refine tkq 17 h rfl hp (fun W hp => ldo h hp rfl 1 rfl rfl ag3) fun a h => ?_
  refine tkq 18 h rfl hp (fun W _ => rem0 h rfl rfl (by omega) (by omega)) fun a h => ?_
  refine tkq 19 h rfl hp (fun W _ => fad h rfl fo43_1) fun a h => ?_
  refine tkq 20 h rfl hp (fun W hp => ldo h hp rfl 0 rfl rfl ag3) fun a h => ?_
  refine tkq 21 h rfl hp (fun W _ => mul h rfl rfl (by omega)) fun a h => ?_
  refine tkq 22 h rfl hp (fun W _ => add h rfl rfl (by omega)) fun a h => ?_
  refine tka 23 h rfl hp rfl fun a h => ?_
  refine dn (by kernel_rfl) ?_
  refine rg ?_
  refine wvl h (fad h rfl fo43_1) fun a h => ?_
  refine wvl h (ldo h hp rfl 0 rfl rfl ag3) fun a h => ?_
  refine wvl h (fad h rfl fo43_1) fun a h => ?_
  refine wvl h (ldo h hp rfl 1 rfl rfl ag3) fun a h => ?_
  refine wvl h (mul h rfl rfl (by omega)) fun a h => ?_
  refine wsn h rfl fun a h => ?_
  refine rg ?_
  refine wm2 h rfl rfl rfl rfl fun a h => ?_
  refine wvl h (rem0 h rfl rfl (by omega) (by omega)) fun a h => ?_
  refine wvl h (mul h rfl rfl (by omega)) fun a h => ?_
  refine wmv h rfl fun a h => ?_
  refine wvl h (quo0 h rfl rfl (by omega) (by omega)) fun a h => ?_
  refine wsn h rfl fun a h => ?_
  refine wp_ret ?_
  try simp only [xqs]
  refine rt_1 h rfl (rvT h rfl) ?_
  exact ⟨_, rfl, by rw [shown, hz, shown_ref (by omega) (by omega)], hp.bel⟩
 have hend : st.length ≤ k := by have := of_decide_eq_false hb1; omega
 have hE : lastStop fe t (st.drop k) z = z := by rw [List.drop_eq_nil_of_le hend]; rfl
 have hz : lastSet fe t st 0 = z := by rw [← lastStop_eq st 0 hpw, hI, hE]
 have m0 := mul_bd (a := fd) (b := (turns l).2) (A := 50000) (B := 216000) (by omega) (by omega) (by omega) (by omega)
 have m0p : 0 < fd * (turns l).2 := Int.mul_pos (by omega) (by omega)
 have m1 := mul_bd (a := fn) (b := z) (A := 50000) (B := 10000) (by omega) (by omega) (by omega) (by omega)
 have r1 := Int.emod_nonneg (fn * z) (by omega : fd ≠ 0)
 have r2 := Int.emod_lt_of_pos (fn * z) (by omega : 0 < fd)
 have m2 := mul_bd (a := fn * z % fd) (b := (turns l).2) (A := 50000) (B := 216000) (by omega) (by omega) (by omega) (by omega)
 have m3 := mul_bd (a := (turns l).1) (b := t - z) (A := 216000) (B := 10000) (by omega) (by omega) (by omega) (by omega)
 have r3 := Int.emod_nonneg ((turns l).1 * (t - z)) (by omega : (turns l).2 ≠ 0)
 have r4 := Int.emod_lt_of_pos ((turns l).1 * (t - z)) (by omega : 0 < (turns l).2)
 have m4 := mul_bd (a := (turns l).1 * (t - z) % (turns l).2) (b := fd) (A := 216000) (B := 50000) (by omega) (by omega) (by omega) (by omega)
 have r5 := Int.emod_nonneg (fn * z % fd * (turns l).2 + (turns l).1 * (t - z) % (turns l).2 * fd) (by omega : fd * (turns l).2 ≠ 0)
 have r6 := Int.emod_lt_of_pos (fn * z % fd * (turns l).2 + (turns l).1 * (t - z) % (turns l).2 * fd) m0p
 refine wl (stp_off h rfl rfl rfl rfl rfl hb1 fun a h => ?_)
 refine wl (stp_off h rfl rfl rfl rfl rfl hb1 fun a h => ?_)
 refine wl (stp_off h rfl rfl rfl rfl rfl hb1 fun a h => ?_)
 refine wl (stp_off h rfl rfl rfl rfl rfl hb1 fun a h => ?_)
 refine wl (stp_off h rfl rfl rfl rfl rfl hb1 fun a h => ?_)
 refine wl (stp_off h rfl rfl rfl rfl rfl hb1 fun a h => ?_)
 refine wl (stp_off h rfl rfl rfl rfl rfl hb1 fun a h => ?_)
 refine wl (stp_off h rfl rfl rfl rfl rfl hb1 fun a h => ?_)
 refine wl (stp_off h rfl rfl rfl rfl rfl hb1 fun a h => ?_)
 refine wvl h (pckF h rfl hb1 rfl) fun a h => ?_
 refine wn ?_
 refine cnd1 h rfl (fun e => nomatch e) (fun _ => ?_)
 refine wp_exit ?_
 try simp only [xqs, ↓reduceIte, Nat.reduceEqDiff]
 refine rg ?_
 refine wmv h rfl fun a h => ?_
 refine wl (cal h rfl en153 (Turns_T _ _ _ (hR.keep (by decide) hp cl0) hT) fun u w6 ⟨e1, e2⟩ a h => ?_)
 subst e1
 have hp := hp.below e2
 refine wl (all h hp zc43 fun a w7 g3 hg3 h hp => ?_)
 refine wl (sta h hp rfl rfl 1 rfl sz43 rfl rfl fun w8 hp => ?_)
 refine wn ?_
 refine rdh (n := 24) hp mixed rfl ?_
 have hp := hp.drew
 refine tkq 0 h rfl hp (fun W _ => fad h rfl fo43_0) fun a h => ?_
 refine tkq 1 h rfl hp (fun W hp => ldo h hp rfl 0 rfl rfl ag3) fun a h => ?_
 refine tkm 2 h rfl hp rfl fun a h => ?_
 refine tkq 3 h rfl hp (fun W _ => mul h rfl rfl (by omega)) fun a h => ?_
 refine tkq 4 h rfl hp (fun W _ => fad h rfl fo43_1) fun a h => ?_
 refine tkq 5 h rfl hp (fun W hp => ldo h hp rfl 0 rfl rfl ag3) fun a h => ?_
 refine tkq 6 h rfl hp (fun W _ => rem0 h rfl rfl (by omega) (by omega)) fun a h => ?_
 refine tkq 7 h rfl hp (fun W _ => fad h rfl fo43_1) fun a h => ?_
 refine tkq 8 h rfl hp (fun W hp => ldo h hp rfl 1 rfl rfl ag3) fun a h => ?_
 refine tkq 9 h rfl hp (fun W _ => mul h rfl rfl (by omega)) fun a h => ?_
 refine tkq 10 h rfl hp (fun W _ => fad h rfl fo43_0) fun a h => ?_
 refine tkq 11 h rfl hp (fun W hp => ldo h hp rfl 1 rfl rfl ag3) fun a h => ?_
 refine tkm 12 h rfl hp rfl fun a h => ?_
 refine tkm 13 h rfl hp rfl fun a h => ?_
 refine tkq 14 h rfl hp (fun W _ => sub h rfl rfl (by omega)) fun a h => ?_
 refine tkq 15 h rfl hp (fun W _ => mul h rfl rfl (by omega)) fun a h => ?_
 refine tkq 16 h rfl hp (fun W _ => fad h rfl fo43_1) fun a h => ?_
 refine tkq 17 h rfl hp (fun W hp => ldo h hp rfl 1 rfl rfl ag3) fun a h => ?_
 refine tkq 18 h rfl hp (fun W _ => rem0 h rfl rfl (by omega) (by omega)) fun a h => ?_
 refine tkq 19 h rfl hp (fun W _ => fad h rfl fo43_1) fun a h => ?_
 refine tkq 20 h rfl hp (fun W hp => ldo h hp rfl 0 rfl rfl ag3) fun a h => ?_
 refine tkq 21 h rfl hp (fun W _ => mul h rfl rfl (by omega)) fun a h => ?_
 refine tkq 22 h rfl hp (fun W _ => add h rfl rfl (by omega)) fun a h => ?_
 refine tka 23 h rfl hp rfl fun a h => ?_
 refine dn (by kernel_rfl) ?_
 refine rg ?_
 refine wvl h (fad h rfl fo43_1) fun a h => ?_
 refine wvl h (ldo h hp rfl 0 rfl rfl ag3) fun a h => ?_
 refine wvl h (fad h rfl fo43_1) fun a h => ?_
 refine wvl h (ldo h hp rfl 1 rfl rfl ag3) fun a h => ?_
 refine wvl h (mul h rfl rfl (by omega)) fun a h => ?_
 refine wsn h rfl fun a h => ?_
 refine rg ?_
 refine wm2 h rfl rfl rfl rfl fun a h => ?_
 refine wvl h (rem0 h rfl rfl (by omega) (by omega)) fun a h => ?_
 refine wvl h (mul h rfl rfl (by omega)) fun a h => ?_
 refine wmv h rfl fun a h => ?_
 refine wvl h (quo0 h rfl rfl (by omega) (by omega)) fun a h => ?_
 refine wsn h rfl fun a h => ?_
 refine wp_ret ?_
 try simp only [xqs]
 refine rt_1 h rfl (rvT h rfl) ?_
 exact ⟨_, rfl, by rw [shown, hz, shown_ref (by omega) (by omega)], hp.bel⟩
end Go.Proofs.Ec
