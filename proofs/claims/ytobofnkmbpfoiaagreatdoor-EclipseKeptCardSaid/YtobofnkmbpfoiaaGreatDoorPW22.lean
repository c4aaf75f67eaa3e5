import Derived.Test.YtobofnkmbpfoiaaGreatDoorProg
import Derived.Test.YtobofnkmbpfoiaaGreatDoorPFa
import Derived.Test.YtobofnkmbpfoiaaGreatDoorPQb
import Derived.Test.YtobofnkmbpfoiaaGreatDoorPW18
import Derived.Test.YtobofnkmbpfoiaaGreatDoorPQa
set_option linter.unusedVariables false
set_option linter.unusedSimpArgs false
set_option maxRecDepth 4000
namespace Go.Proofs.Ec
open Go.RowKit Go.Proofs.Sx
open Ecl
theorem Keeps_T (s : SV) (l : List (Int × Int)) (fn fd lim : Int) (f9 s2 : SV) (fe st : List Int) (t : Int) (w : World) (hR : Rd w encP 2 s.v l) (hF : Rd w encI 1 f9.v fe) (hS : Rd w encI 1 s2.v st) (hfe : (rising 1 10000 fe && decide (fe.length ≤ 8)) = true) (hset : rising 0 ((fe.length : Int) - 1) st = true) (hT : isTrain l = true) (hfr : (inR fn 0 50000 && inR fd 1 50000) = true) (hli : 0 ≤ lim ∧ lim ≤ 10800) (ht : 0 ≤ t ∧ t ≤ 10000) : Ret Tryz.prog 23 #[s.v, .agg #[.int .i64 fn, .int .i64 fd], .int .i64 lim, f9.v, s2.v, .int .i64 t] w fun u w' => u = .bool (keepsS (withinB (turns l) fn fd lim) fe t st 0) ∧ Below w.heap.size w w' := by
 have hfr2 := hfr
 simp only [inR, Bool.and_eq_true, decide_eq_true_eq] at hfr2
 have hx := turns_bd hT
 have hp : Hp c0 w w [] := Hp.start trivial
 refine enter Tryz.func23 rfl (N := 60) rfl rfl fun a h => ?_
 refine rg ?_
 refine wl (box (cs := #[_, _]) h hp rfl rfl fun a w1 g1 hg1 h hp => ?_)
 refine wsn h rfl fun a h => ?_
 refine rg ?_
 refine wsn h rfl fun a h => ?_
 refine wp_seq ?_
 refine rg ?_
 refine wsn h rfl fun a h => ?_
 refine lp1 h [0, 2, 3, 4, 5, 7] (fun n f w' => ∃ (k : Nat) (z : Int), k ≤ st.length ∧ n = st.length - k ∧ f = [(14, .int .i64 k), (13, .int .i64 z)] ∧ Hp c0 w w' [.blk g1 (.cells #[.int .i64 fn, .int .i64 fd] 43 (0, 0))] ∧ keepsS (withinB (turns l) fn fd lim) fe t st 0 = keepsS (withinB (turns l) fn fd lim) fe t (st.drop k) z ∧ 0 ≤ z ∧ z ≤ 10000) (st.length) [(14, .int .i64 ((0 : Nat) : Int)), (13, .int .i64 0)] ⟨rfl, rfl, rfl, rfl, rfl, rfl, rfl, rfl, trivial⟩ ⟨0, 0, Nat.zero_le _, rfl, rfl, hp, rfl, by omega, by omega⟩ ?_
 rintro n f a w2 ⟨k, z, hk, rfl, rfl, hp, hI, z0, z1⟩ h
 have hfit := hS.fits
 refine wp_seq ?_
 refine rg ?_
 refine wm2 h rfl rfl rfl rfl fun a h => ?_
 refine wvl h (lenR h rfl Tryz.underlying30 (hS.keep (by decide) hp cl0)) fun a h => ?_
 refine wvl h (lss h rfl rfl) fun a h => ?_
 refine wmv h rfl fun a h => ?_
 refine split (t := 19) h rfl (fun hb1 => ?_) (fun hb1 => ?_)
 ·have hlt : k < st.length := by have := of_decide_eq_true hb1; omega
  obtain ⟨y, hy⟩ : ∃ y, st[k]? = some y := ⟨_, List.getElem?_eq_getElem hlt⟩
  obtain ⟨hy0, hy1⟩ := set_bd hset (List.mem_of_getElem? hy)
  obtain ⟨g, hg⟩ : ∃ g, fe[y.toNat]? = some g := ⟨_, List.getElem?_eq_getElem (by omega)⟩
  have hg1 := feast_bd hfe (List.mem_of_getElem? hg)
  have hat := at0_eq hy0 hg
  refine wl (stp_on h rfl rfl rfl hb1 (vl h (mov h rfl) fun a h => ?_))
  refine wl (stp_on h rfl rfl rfl hb1 (vl h (mov h rfl) fun a h => ?_))
  refine wl (stp_on h rfl rfl rfl hb1 (vl h (mov h rfl) fun a h => ?_))
  refine wl (stp_on h rfl rfl rfl hb1 (vl h (iadR (k) h rfl rfl Tryz.underlying30 sz3 (hS.keep (by decide) hp cl0) (rfl) (hlt)) fun a h => ?_))
  refine wl (stp_on h rfl rfl rfl hb1 (vl h (ld0 h (hS.keep (by decide) hp cl0) hy rfl ag3 rfl) fun a h => ?_))
  refine wl (stp_on h rfl rfl rfl hb1 (vl h (iadR (y.toNat) h rfl rfl Tryz.underlying30 sz3 (hF.keep (by decide) hp cl0) (by omega) (by omega)) fun a h => ?_))
  refine wl (stp_on h rfl rfl rfl hb1 (vl h (ld0 h (hF.keep (by decide) hp cl0) hg rfl ag3 rfl) fun a h => ?_))
  refine wl (stp_on h rfl rfl rfl hb1 (vl h (mov h rfl) fun a h => ?_))
  refine wl (stp_on h rfl rfl rfl hb1 (vl h (lss h rfl rfl) fun a h => ?_))
  refine wvl h (pckT h rfl hb1 rfl) fun a h => ?_
  refine wn ?_
  refine cnd1 h rfl (fun hb2 => ?_) (fun hb2 => ?_)
  ·have hgt : g < t := of_decide_eq_true hb2
   refine skp ?_
   refine blk ?_
   refine wp_seq ?_
   refine rdh (n := 14) hp mixed rfl ?_
   have hp := hp.drew
   refine tkm 0 h rfl hp rfl fun a h => ?_
   refine tkq 1 h rfl hp (fun W hp => ldO (us := [_, _]) h hp rfl 0 rfl sz43 rfl ag43) fun a h => ?_
   refine tkm 2 h rfl hp rfl fun a h => ?_
   refine tkm 3 h rfl hp rfl fun a h => ?_
   refine tkm 4 h rfl hp rfl fun a h => ?_
   refine tkm 5 h rfl hp rfl fun a h => ?_
   refine tkq 6 h rfl hp (fun W hp => iadR (k) h rfl rfl Tryz.underlying30 sz3 (hS.keep (by decide) hp cl0) (rfl) (hlt)) fun a h => ?_
   refine tkq 7 h rfl hp (fun W hp => ld0 h (hS.keep (by decide) hp cl0) hy rfl ag3 rfl) fun a h => ?_
   refine tkq 8 h rfl hp (fun W hp => iadR (y.toNat) h rfl rfl Tryz.underlying30 sz3 (hF.keep (by decide) hp cl0) (by omega) (by omega)) fun a h => ?_
   refine tkq 9 h rfl hp (fun W hp => ld0 h (hF.keep (by decide) hp cl0) hg rfl ag3 rfl) fun a h => ?_
   refine tkm 10 h rfl hp rfl fun a h => ?_
   refine tkq 11 h rfl hp (fun W _ => sub h rfl rfl (by omega)) fun a h => ?_
   refine one 12 (by kernel_rfl) rfl (cal h rfl en75 (within_T _ _ _ _ _ _ _ (hR.keep (by decide) hp cl0) hT hfr (by omega) (by omega)) fun u w3 ⟨e1, e2⟩ a h => ⟨hp.below e2, ?_⟩)
   subst e1
   have hp := hp.below e2
   refine tkq 13 h rfl hp (fun W _ => not_ h rfl) fun a h => ?_
   refine dn (by kernel_rfl) ?_
   refine cnd1 h rfl (fun hb3 => ?_) (fun hb3 => ?_)
   ·have hw : (withinB (turns l) fn fd lim) (g - z) = false := by simpa using hb3
    refine rg ?_
    refine wsn h rfl fun a h => ?_
    refine wp_ret ?_
    try simp only [xqs]
    refine rt_1 h rfl (rvT h rfl) ?_
    exact ⟨_, rfl, by rw [hI, drop_cons hy, keepsS, hat, if_pos hgt, hw, Bool.false_and], hp.bel⟩
   have hw : (withinB (turns l) fn fd lim) (g - z) = true := by simpa using hb3
   refine skp ?_
   refine rg1 ?_
   refine wm3 h rfl rfl rfl rfl rfl rfl fun a h => ?_
   refine wvl h (iadR (k) h rfl rfl Tryz.underlying30 sz3 (hS.keep (by decide) hp cl0) (rfl) (hlt)) fun a h => ?_
   refine wvl h (ld0 h (hS.keep (by decide) hp cl0) hy rfl ag3 rfl) fun a h => ?_
   refine wvl h (iadR (y.toNat) h rfl rfl Tryz.underlying30 sz3 (hF.keep (by decide) hp cl0) (by omega) (by omega)) fun a h => ?_
   refine wvl h (ld0 h (hF.keep (by decide) hp cl0) hg rfl ag3 rfl) fun a h => ?_
   refine wsg h rfl fun a h => ?_
   refine wn' ?_
   try simp only [xqs, ↓reduceIte, Nat.reduceEqDiff]
   refine rg1 ?_
   refine wmv h rfl fun a h => ?_
   refine wvl h (add h rfl rfl (by omega)) fun a h => ?_
   refine wsn h rfl fun a h => ?_
   exact ⟨_, _, (by omega), ⟨k + 1, g, by omega, rfl, rfl, hp.pre 1 rfl, by rw [hI, drop_cons hy, keepsS, hat, if_pos hgt, hw, Bool.true_and], by omega, by omega⟩, h.sub ⟨rfl, rfl, rfl, rfl, rfl, rfl, rfl, rfl, trivial⟩⟩
  have hgt := of_decide_eq_false hb2
  have hE : keepsS (withinB (turns l) fn fd lim) fe t (st.drop k) z = (withinB (turns l) fn fd lim) (t - z) := by rw [drop_cons hy, keepsS, hat, if_neg hgt]
  refine wp_exit ?_
  try simp only [xqs, ↓reduceIte, Nat.reduceEqDiff]
  refine rg ?_
  refine wmv h rfl fun a h => ?_
  refine wvl h (ldO (us := [_, _]) h hp rfl 0 rfl sz43 rfl ag43) fun a h => ?_
  refine wm3 h rfl rfl rfl rfl rfl rfl fun a h => ?_
  refine wvl h (sub h rfl rfl (by omega)) fun a h => ?_
  refine wl (cal h rfl en75 (within_T _ _ _ _ _ _ _ (hR.keep (by decide) hp cl0) hT hfr (by omega) (by omega)) fun u w4 ⟨e1, e2⟩ a h => ?_)
  subst e1
  have hp := hp.below e2
  refine wsn h rfl fun a h => ?_
  refine wp_ret ?_
  try simp only [xqs]
  refine rt_1 h rfl (rvT h rfl) ?_
  exact ⟨_, rfl, by rw [hI, hE], hp.bel⟩
 have hend : st.length ≤ k := by have := of_decide_eq_false hb1; omega
 have hE : keepsS (withinB (turns l) fn fd lim) fe t (st.drop k) z = (withinB (turns l) fn fd lim) (t - z) := by rw [List.drop_eq_nil_of_le hend]; rfl
 refine wl (stp_off h rfl rfl rfl rfl rfl hb1 fun a h => ?_)
 refine wl (stp_off h rfl rfl rfl rfl rfl hb1 fun a h => ?_)
 refine wl (stp_off h rfl rfl rfl rfl rfl hb1 fun a h => ?_)
 refine wl (stp_off h rfl rfl rfl rfl rfl hb1 fun a h => ?_)
 refine wl (stp_off h rfl rfl rfl rfl rfl hb1 fun a h => ?_)
 refine wl (stp_off h rfl rfl rfl rfl rfl hb1 fun a h => ?_)
 refine wl (stp_off h rfl rfl rfl rfl rfl hb1 fun a h => ?_)
 refine wl (stp_off h rfl rfl rfl rfl rfl hb1 fun a h => ?_)
 refine wl (stp_off h rfl rfl rfl rfl rfl hb1 fun a h => ?_)
 refine wvl h (pckF h rfl hb1 rfl) fun a h => ?_
 refine wn ?_
 refine cnd1 h rfl (fun e => nomatch e) (fun _ => ?_)
 refine wp_exit ?_
 try simp only [xqs, ↓reduceIte, Nat.reduceEqDiff]
 refine rg ?_
 refine wmv h rfl fun a h => ?_
 refine wvl h (ldO (us := [_, _]) h hp rfl 0 rfl sz43 rfl ag43) fun a h => ?_
 refine wm3 h rfl rfl rfl rfl rfl rfl fun a h => ?_
 refine wvl h (sub h rfl rfl (by omega)) fun a h => ?_
 refine wl (cal h rfl en75 (within_T _ _ _ _ _ _ _ (hR.keep (by decide) hp cl0) hT hfr (by omega) (by omega)) fun u w5 ⟨e1, e2⟩ a h => ?_)
 subst e1
 have hp := hp.below e2
 refine wsn h rfl fun a h => ?_
 refine wp_ret ?_
 try simp only [xqs]
 refine rt_1 h rfl (rvT h rfl) ?_
 exact ⟨_, rfl, by rw [hI, hE], hp.bel⟩
end Go.Proofs.Ec
