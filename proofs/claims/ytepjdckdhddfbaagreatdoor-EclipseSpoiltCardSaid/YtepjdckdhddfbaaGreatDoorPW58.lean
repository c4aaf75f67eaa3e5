import Derived.Test.YtepjdckdhddfbaaGreatDoorProg
import Derived.Test.YtepjdckdhddfbaaGreatDoorPFa
import Derived.Test.YtepjdckdhddfbaaGreatDoorPQb
import Derived.Test.YtepjdckdhddfbaaGreatDoorPW57
import Derived.Test.YtepjdckdhddfbaaGreatDoorPTd
set_option linter.unusedVariables false
set_option linter.unusedSimpArgs false
set_option maxRecDepth 4000
namespace Go.Proofs.Ec
open Go.RowKit Go.Proofs.Sx
open Ecl
theorem en10_W58 : EnT Tryz.prog 10 := ento Tryz.func10
theorem en12_W58 : EnT Tryz.prog 12 := ento Tryz.func12
theorem en11_W58 : EnT Tryz.prog 11 := ento Tryz.func11
theorem sz5_W58 : szT Tryz.prog 5 = some 1 := by kernel_rfl
theorem bad_sp {a : Bool} {d : Int} (h1 : (!a) = false) (h2 : decide (d < 0) = false) (h3 : decide (9 < d) = false) : ¬ ((a && decide (0 ≤ d) && decide (d ≤ 9)) = false) := by
 cases a with
 | false => cases h1
 | true =>
  rw [decide_eq_true (by have := of_decide_eq_false h2; omega), decide_eq_true (by have := of_decide_eq_false h3; omega)]
  decide
theorem EclipseSpoilt_a (s : SV) (l : List Ecl.Mark) (p d : Int) (w : World) (hR : Rd w encM 3 s.v l) (hGl : Glb w) (hbad : (isList l && decide (0 ≤ d) && decide (d ≤ 9)) = false) : Ret Tryz.prog 5 #[s.v, .int .i64 p, .int .i64 d] w fun u w' => u = .bool true ∧ Below w.heap.size w w' := by
 have hfit := hR.fits
 have hp : Hp c0 w w [] := Hp.start trivial
 refine enter Tryz.func5 rfl (N := 90) rfl rfl fun a h => ?_
 refine rg ?_
 refine wsn h rfl fun a h => ?_
 refine wp_seq ?_
 refine rg ?_
 refine wmv h rfl fun a h => ?_
 refine wvl h (lenR h rfl Tryz.underlying22 (hR.keep (by decide) hp cl0)) fun a h => ?_
 refine wvl h (gtr h rfl rfl) fun a h => ?_
 refine wmv h rfl fun a h => ?_
 refine split (t := 15) h rfl (fun hb1 => ?_) (fun hb1 => ?_)
 ·refine wl (stp_off h rfl rfl rfl rfl rfl hb1 fun a h => ?_)
  refine wl (stp_off h rfl rfl rfl rfl rfl hb1 fun a h => ?_)
  refine wl (stp_off h rfl rfl rfl rfl rfl hb1 fun a h => ?_)
  refine wvl h (pckT h rfl hb1 rfl) fun a h => ?_
  refine wmv h rfl fun a h => ?_
  refine wl (stp_off h rfl rfl rfl rfl rfl rfl fun a h => ?_)
  refine wl (stp_off h rfl rfl rfl rfl rfl rfl fun a h => ?_)
  refine wvl h (pckT h rfl rfl rfl) fun a h => ?_
  refine wmv h rfl fun a h => ?_
  refine wl (stp_off h rfl rfl rfl rfl rfl rfl fun a h => ?_)
  refine wl (stp_off h rfl rfl rfl rfl rfl rfl fun a h => ?_)
  refine wvl h (pckT h rfl rfl rfl) fun a h => ?_
  refine wn ?_
  refine cnd1 h rfl (fun _ => ?_) (fun e => nomatch e)
  refine rg ?_
  refine wl (cal h rfl en10_W58 (known_L _ (hGl.keep hp)) fun u w1 ⟨e1, e2⟩ a h => ?_)
  subst e1
  have hp := hp.below e2
  refine wsn h rfl fun a h => ?_
  refine wp_ret ?_
  try simp only [xqs]
  refine rt_1 h rfl (rvT h rfl) ?_
  exact ⟨_, rfl, rfl, hp.bel⟩
 refine wl (stp_on h rfl rfl rfl hb1 (vl h (mov h rfl) fun a h => ?_))
 refine wl (stp_on h rfl rfl rfl hb1 (cal h rfl en12_W58 (List_R _ _ _ (hR.keep (by decide) hp cl0)) fun u w2 ⟨e1, e2⟩ a h => ?_))
 subst e1
 have hp := hp.below e2
 refine wl (stp_on h rfl rfl rfl hb1 (vl h (not_ h rfl) fun a h => ?_))
 refine wvl h (pckF h rfl hb1 rfl) fun a h => ?_
 refine wmv h rfl fun a h => ?_
 refine split (t := 20) h rfl (fun hb2 => ?_) (fun hb2 => ?_)
 ·refine wl (stp_off h rfl rfl rfl rfl rfl hb2 fun a h => ?_)
  refine wl (stp_off h rfl rfl rfl rfl rfl hb2 fun a h => ?_)
  refine wvl h (pckT h rfl hb2 rfl) fun a h => ?_
  refine wmv h rfl fun a h => ?_
  refine wl (stp_off h rfl rfl rfl rfl rfl rfl fun a h => ?_)
  refine wl (stp_off h rfl rfl rfl rfl rfl rfl fun a h => ?_)
  refine wvl h (pckT h rfl rfl rfl) fun a h => ?_
  refine wn ?_
  refine cnd1 h rfl (fun _ => ?_) (fun e => nomatch e)
  refine rg ?_
  refine wl (cal h rfl en10_W58 (known_L _ (hGl.keep hp)) fun u w3 ⟨e1, e2⟩ a h => ?_)
  subst e1
  have hp := hp.below e2
  refine wsn h rfl fun a h => ?_
  refine wp_ret ?_
  try simp only [xqs]
  refine rt_1 h rfl (rvT h rfl) ?_
  exact ⟨_, rfl, rfl, hp.bel⟩
 have hn1 := hb2
 refine wl (stp_on h rfl rfl rfl hb2 (vl h (mov h rfl) fun a h => ?_))
 refine wl (stp_on h rfl rfl rfl hb2 (vl h (lss h rfl rfl) fun a h => ?_))
 refine wvl h (pckF h rfl hb2 rfl) fun a h => ?_
 refine wmv h rfl fun a h => ?_
 refine split (t := 24) h rfl (fun hb3 => ?_) (fun hb3 => ?_)
 ·refine wl (stp_off h rfl rfl rfl rfl rfl hb3 fun a h => ?_)
  refine wl (stp_off h rfl rfl rfl rfl rfl hb3 fun a h => ?_)
  refine wvl h (pckT h rfl hb3 rfl) fun a h => ?_
  refine wn ?_
  refine cnd1 h rfl (fun _ => ?_) (fun e => nomatch e)
  refine rg ?_
  refine wl (cal h rfl en10_W58 (known_L _ (hGl.keep hp)) fun u w4 ⟨e1, e2⟩ a h => ?_)
  subst e1
  have hp := hp.below e2
  refine wsn h rfl fun a h => ?_
  refine wp_ret ?_
  try simp only [xqs]
  refine rt_1 h rfl (rvT h rfl) ?_
  exact ⟨_, rfl, rfl, hp.bel⟩
 have hn2 := hb3
 refine wl (stp_on h rfl rfl rfl hb3 (vl h (mov h rfl) fun a h => ?_))
 refine wl (stp_on h rfl rfl rfl hb3 (vl h (gtr h rfl rfl) fun a h => ?_))
 refine wvl h (pckF h rfl hb3 rfl) fun a h => ?_
 refine wn ?_
 refine cnd1 h rfl (fun hb4 => ?_) (fun hb4 => ?_)
 ·refine rg ?_
  refine wl (cal h rfl en10_W58 (known_L _ (hGl.keep hp)) fun u w5 ⟨e1, e2⟩ a h => ?_)
  subst e1
  have hp := hp.below e2
  refine wsn h rfl fun a h => ?_
  refine wp_ret ?_
  try simp only [xqs]
  refine rt_1 h rfl (rvT h rfl) ?_
  exact ⟨_, rfl, rfl, hp.bel⟩
 exact absurd hbad (bad_sp hn1 hn2 hb4)
theorem EclipseSpoilt_r (s : SV) (l : List Ecl.Mark) (p d : Int) (w : World) (hR : Rd w encM 3 s.v l) (hGl : Glb w) (hl : isList l = true) (d0 : 0 ≤ d) (d9 : d ≤ 9) (hr : ¬ (0 ≤ p ∧ p < (text l).length)) : Ret Tryz.prog 5 #[s.v, .int .i64 p, .int .i64 d] w fun u w' => u = .bool true ∧ Below w.heap.size w w' := by
 have hfit := hR.fits
 have hl20 := (list_marks hl).1
 have ht4 := (read_back hl).2
 have hp : Hp c0 w w [] := Hp.start trivial
 refine enter Tryz.func5 rfl (N := 90) rfl rfl fun a h => ?_
 refine rg ?_
 refine wsn h rfl fun a h => ?_
 refine wp_seq ?_
 refine rg ?_
 refine wmv h rfl fun a h => ?_
 refine wvl h (lenR h rfl Tryz.underlying22 (hR.keep (by decide) hp cl0)) fun a h => ?_
 refine wvl h (gtr h rfl rfl) fun a h => ?_
 refine wmv h rfl fun a h => ?_
 refine split (t := 15) h rfl (fun hb1 => ?_) (fun hb1 => ?_)
 ·exact absurd hb1 (by first | decide | (simp only [Bool.not_eq_true', Bool.not_eq_false', Bool.not_eq_true, Bool.not_eq_false, decide_eq_true_eq, decide_eq_false_iff_not, gt_iff_lt, ge_iff_le]; omega) | (simp; done))
 refine wl (stp_on h rfl rfl rfl hb1 (vl h (mov h rfl) fun a h => ?_))
 refine wl (stp_on h rfl rfl rfl hb1 (cal h rfl en12_W58 (List_R _ _ _ (hR.keep (by decide) hp cl0)) fun u w1 ⟨e1, e2⟩ a h => ?_))
 subst e1
 have hp := hp.below e2
 refine wl (stp_on h rfl rfl rfl hb1 (vl h (not_ h rfl) fun a h => ?_))
 refine wvl h (pckF h rfl hb1 rfl) fun a h => ?_
 refine wmv h rfl fun a h => ?_
 refine split (t := 20) h rfl (fun hb2 => ?_) (fun hb2 => ?_)
 ·exact absurd hb2 (by rw [hl]; decide)
 refine wl (stp_on h rfl rfl rfl hb2 (vl h (mov h rfl) fun a h => ?_))
 refine wl (stp_on h rfl rfl rfl hb2 (vl h (lss h rfl rfl) fun a h => ?_))
 refine wvl h (pckF h rfl hb2 rfl) fun a h => ?_
 refine wmv h rfl fun a h => ?_
 refine split (t := 24) h rfl (fun hb3 => ?_) (fun hb3 => ?_)
 ·exact absurd hb3 (by first | decide | (simp only [Bool.not_eq_true', Bool.not_eq_false', Bool.not_eq_true, Bool.not_eq_false, decide_eq_true_eq, decide_eq_false_iff_not, gt_iff_lt, ge_iff_le]; omega) | (simp; done))
 refine wl (stp_on h rfl rfl rfl hb3 (vl h (mov h rfl) fun a h => ?_))
 refine wl (stp_on h rfl rfl rfl hb3 (vl h (gtr h rfl rfl) fun a h => ?_))
 refine wvl h (pckF h rfl hb3 rfl) fun a h => ?_
 refine wn ?_
 refine cnd1 h rfl (fun hb4 => ?_) (fun hb4 => ?_)
 ·exact absurd hb4 (by first | decide | (simp only [Bool.not_eq_true', Bool.not_eq_false', Bool.not_eq_true, Bool.not_eq_false, decide_eq_true_eq, decide_eq_false_iff_not, gt_iff_lt, ge_iff_le]; omega) | (simp; done))
 refine skp ?_
 refine rg ?_
 refine wmv h rfl fun a h => ?_
 refine wl (cal h rfl en11_W58 (Print_s _ _ _ (hR.keep (by decide) hp cl0) (hGl.keep hp) hl) fun u w2 ⟨e1, e2⟩ a h => ?_)
 subst e1
 have hp := hp.below e2
 refine wmv h rfl fun a h => ?_
 refine wvl h (ext h rfl rfl) fun a h => ?_
 refine wvl h (ext h rfl rfl) fun a h => ?_
 refine ws2 h rfl rfl rfl rfl fun a h => ?_
 refine wp_seq ?_
 refine rg ?_
 refine wmv h rfl fun a h => ?_
 refine wvl h (nei h rfl rfl) fun a h => ?_
 refine wn ?_
 refine cnd1 h rfl (fun hb5 => ?_) (fun hb5 => ?_)
 ·exact absurd hb5 (by decide)
 refine skp ?_
 refine wp_seq ?_
 refine rg ?_
 refine wmv h rfl fun a h => ?_
 refine wvl h (lss h rfl rfl) fun a h => ?_
 refine wmv h rfl fun a h => ?_
 refine split (t := 38) h rfl (fun hb6 => ?_) (fun hb6 => ?_)
 ·refine wl (stp_off h rfl rfl rfl rfl rfl hb6 fun a h => ?_)
  refine wl (stp_off h rfl rfl rfl rfl rfl hb6 fun a h => ?_)
  refine wl (stp_off h rfl rfl rfl rfl rfl hb6 fun a h => ?_)
  refine wl (stp_off h rfl rfl rfl rfl rfl hb6 fun a h => ?_)
  refine wvl h (pckT h rfl hb6 rfl) fun a h => ?_
  refine wmv h rfl fun a h => ?_
  refine wl (stp_off h rfl rfl rfl rfl rfl rfl fun a h => ?_)
  refine wl (stp_off h rfl rfl rfl rfl rfl rfl fun a h => ?_)
  refine wl (stp_off h rfl rfl rfl rfl rfl rfl fun a h => ?_)
  refine wl (stp_off h rfl rfl rfl rfl rfl rfl fun a h => ?_)
  refine wvl h (pckT h rfl rfl rfl) fun a h => ?_
  refine wmv h rfl fun a h => ?_
  refine wl (stp_off h rfl rfl rfl rfl rfl rfl fun a h => ?_)
  refine wl (stp_off h rfl rfl rfl rfl rfl rfl fun a h => ?_)
  refine wl (stp_off h rfl rfl rfl rfl rfl rfl fun a h => ?_)
  refine wl (stp_off h rfl rfl rfl rfl rfl rfl fun a h => ?_)
  refine wvl h (pckT h rfl rfl rfl) fun a h => ?_
  refine wmv h rfl fun a h => ?_
  refine wl (stp_off h rfl rfl rfl rfl rfl rfl fun a h => ?_)
  refine wl (stp_off h rfl rfl rfl rfl rfl rfl fun a h => ?_)
  refine wl (stp_off h rfl rfl rfl rfl rfl rfl fun a h => ?_)
  refine wl (stp_off h rfl rfl rfl rfl rfl rfl fun a h => ?_)
  refine wl (stp_off h rfl rfl rfl rfl rfl rfl fun a h => ?_)
  refine wl (stp_off h rfl rfl rfl rfl rfl rfl fun a h => ?_)
  refine wl (stp_off h rfl rfl rfl rfl rfl rfl fun a h => ?_)
  refine wvl h (pckT h rfl rfl rfl) fun a h => ?_
  refine wn ?_
  refine cnd1 h rfl (fun _ => ?_) (fun e => nomatch e)
  refine rg ?_
  refine wl (cal h rfl en10_W58 (known_L _ (hGl.keep hp)) fun u w3 ⟨e1, e2⟩ a h => ?_)
  subst e1
  have hp := hp.below e2
  refine wsn h rfl fun a h => ?_
  refine wp_ret ?_
  try simp only [xqs]
  refine rt_1 h rfl (rvT h rfl) ?_
  exact ⟨_, rfl, rfl, hp.bel⟩
 have hp0 := hb6
 refine wl (stp_on h rfl rfl rfl hb6 (vl h (mov h rfl) fun a h => ?_))
 refine wl (stp_on h rfl rfl rfl hb6 (vl h (mov h rfl) fun a h => ?_))
 refine wl (stp_on h rfl rfl rfl hb6 (vl h (leB h rfl Tryz.underlying9) fun a h => ?_))
 refine wl (stp_on h rfl rfl rfl hb6 (vl h (geq h rfl rfl) fun a h => ?_))
 refine wvl h (pckF h rfl hb6 rfl) fun a h => ?_
 refine wmv h rfl fun a h => ?_
 refine split (t := 44) h rfl (fun hb7 => ?_) (fun hb7 => ?_)
 ·refine wl (stp_off h rfl rfl rfl rfl rfl hb7 fun a h => ?_)
  refine wl (stp_off h rfl rfl rfl rfl rfl hb7 fun a h => ?_)
  refine wl (stp_off h rfl rfl rfl rfl rfl hb7 fun a h => ?_)
  refine wl (stp_off h rfl rfl rfl rfl rfl hb7 fun a h => ?_)
  refine wvl h (pckT h rfl hb7 rfl) fun a h => ?_
  refine wmv h rfl fun a h => ?_
  refine wl (stp_off h rfl rfl rfl rfl rfl rfl fun a h => ?_)
  refine wl (stp_off h rfl rfl rfl rfl rfl rfl fun a h => ?_)
  refine wl (stp_off h rfl rfl rfl rfl rfl rfl fun a h => ?_)
  refine wl (stp_off h rfl rfl rfl rfl rfl rfl fun a h => ?_)
  refine wvl h (pckT h rfl rfl rfl) fun a h => ?_
  refine wmv h rfl fun a h => ?_
  refine wl (stp_off h rfl rfl rfl rfl rfl rfl fun a h => ?_)
  refine wl (stp_off h rfl rfl rfl rfl rfl rfl fun a h => ?_)
  refine wl (stp_off h rfl rfl rfl rfl rfl rfl fun a h => ?_)
  refine wl (stp_off h rfl rfl rfl rfl rfl rfl fun a h => ?_)
  refine wl (stp_off h rfl rfl rfl rfl rfl rfl fun a h => ?_)
  refine wl (stp_off h rfl rfl rfl rfl rfl rfl fun a h => ?_)
  refine wl (stp_off h rfl rfl rfl rfl rfl rfl fun a h => ?_)
  refine wvl h (pckT h rfl rfl rfl) fun a h => ?_
  refine wn ?_
  refine cnd1 h rfl (fun _ => ?_) (fun e => nomatch e)
  refine rg ?_
  refine wl (cal h rfl en10_W58 (known_L _ (hGl.keep hp)) fun u w4 ⟨e1, e2⟩ a h => ?_)
  subst e1
  have hp := hp.below e2
  refine wsn h rfl fun a h => ?_
  refine wp_ret ?_
  try simp only [xqs]
  refine rt_1 h rfl (rvT h rfl) ?_
  exact ⟨_, rfl, rfl, hp.bel⟩
 exact absurd (show 0 ≤ p ∧ p < ((text l).length : Int) from ⟨by have := of_decide_eq_false hp0; omega, by have := of_decide_eq_false hb7; omega⟩) hr
theorem EclipseSpoilt_q (s : SV) (l : List Ecl.Mark) (p d : Int) (b : UInt8) (w : World) (hR : Rd w encM 3 s.v l) (hGl : Glb w) (hl : isList l = true) (d0 : 0 ≤ d) (d9 : d ≤ 9) (h0 : 0 ≤ p) (h1 : p < (text l).length) (hb : (text l)[p.toNat]? = some b) (hq : ¬ ((48 ≤ b.toNat ∧ b.toNat ≤ 57) ∧ (b.toNat : Int) - 48 ≠ d)) : Ret Tryz.prog 5 #[s.v, .int .i64 p, .int .i64 d] w fun u w' => u = .bool true ∧ Below w.heap.size w w' := by
 have hfit := hR.fits
 have hl20 := (list_marks hl).1
 have ht4 := (read_back hl).2
 have hp : Hp c0 w w [] := Hp.start trivial
 refine enter Tryz.func5 rfl (N := 90) rfl rfl fun a h => ?_
 refine rg ?_
 refine wsn h rfl fun a h => ?_
 refine wp_seq ?_
 refine rg ?_
 refine wmv h rfl fun a h => ?_
 refine wvl h (lenR h rfl Tryz.underlying22 (hR.keep (by decide) hp cl0)) fun a h => ?_
 refine wvl h (gtr h rfl rfl) fun a h => ?_
 refine wmv h rfl fun a h => ?_
 refine split (t := 15) h rfl (fun hb1 => ?_) (fun hb1 => ?_)
 ·exact absurd hb1 (by first | decide | (simp only [Bool.not_eq_true', Bool.not_eq_false', Bool.not_eq_true, Bool.not_eq_false, decide_eq_true_eq, decide_eq_false_iff_not, gt_iff_lt, ge_iff_le]; omega) | (simp; done))
 refine wl (stp_on h rfl rfl rfl hb1 (vl h (mov h rfl) fun a h => ?_))
 refine wl (stp_on h rfl rfl rfl hb1 (cal h rfl en12_W58 (List_R _ _ _ (hR.keep (by decide) hp cl0)) fun u w1 ⟨e1, e2⟩ a h => ?_))
 subst e1
 have hp := hp.below e2
 refine wl (stp_on h rfl rfl rfl hb1 (vl h (not_ h rfl) fun a h => ?_))
 refine wvl h (pckF h rfl hb1 rfl) fun a h => ?_
 refine wmv h rfl fun a h => ?_
 refine split (t := 20) h rfl (fun hb2 => ?_) (fun hb2 => ?_)
 ·exact absurd hb2 (by rw [hl]; decide)
 refine wl (stp_on h rfl rfl rfl hb2 (vl h (mov h rfl) fun a h => ?_))
 refine wl (stp_on h rfl rfl rfl hb2 (vl h (lss h rfl rfl) fun a h => ?_))
 refine wvl h (pckF h rfl hb2 rfl) fun a h => ?_
 refine wmv h rfl fun a h => ?_
 refine split (t := 24) h rfl (fun hb3 => ?_) (fun hb3 => ?_)
 ·exact absurd hb3 (by first | decide | (simp only [Bool.not_eq_true', Bool.not_eq_false', Bool.not_eq_true, Bool.not_eq_false, decide_eq_true_eq, decide_eq_false_iff_not, gt_iff_lt, ge_iff_le]; omega) | (simp; done))
 refine wl (stp_on h rfl rfl rfl hb3 (vl h (mov h rfl) fun a h => ?_))
 refine wl (stp_on h rfl rfl rfl hb3 (vl h (gtr h rfl rfl) fun a h => ?_))
 refine wvl h (pckF h rfl hb3 rfl) fun a h => ?_
 refine wn ?_
 refine cnd1 h rfl (fun hb4 => ?_) (fun hb4 => ?_)
 ·exact absurd hb4 (by first | decide | (simp only [Bool.not_eq_true', Bool.not_eq_false', Bool.not_eq_true, Bool.not_eq_false, decide_eq_true_eq, decide_eq_false_iff_not, gt_iff_lt, ge_iff_le]; omega) | (simp; done))
 refine skp ?_
 refine rg ?_
 refine wmv h rfl fun a h => ?_
 refine wl (cal h rfl en11_W58 (Print_s _ _ _ (hR.keep (by decide) hp cl0) (hGl.keep hp) hl) fun u w2 ⟨e1, e2⟩ a h => ?_)
 subst e1
 have hp := hp.below e2
 refine wmv h rfl fun a h => ?_
 refine wvl h (ext h rfl rfl) fun a h => ?_
 refine wvl h (ext h rfl rfl) fun a h => ?_
 refine ws2 h rfl rfl rfl rfl fun a h => ?_
 refine wp_seq ?_
 refine rg ?_
 refine wmv h rfl fun a h => ?_
 refine wvl h (nei h rfl rfl) fun a h => ?_
 refine wn ?_
 refine cnd1 h rfl (fun hb5 => ?_) (fun hb5 => ?_)
 ·exact absurd hb5 (by decide)
 refine skp ?_
 refine wp_seq ?_
 refine rg ?_
 refine wmv h rfl fun a h => ?_
 refine wvl h (lss h rfl rfl) fun a h => ?_
 refine wmv h rfl fun a h => ?_
 refine split (t := 38) h rfl (fun hb6 => ?_) (fun hb6 => ?_)
 ·exact absurd hb6 (by first | decide | (simp only [Bool.not_eq_true', Bool.not_eq_false', Bool.not_eq_true, Bool.not_eq_false, decide_eq_true_eq, decide_eq_false_iff_not, gt_iff_lt, ge_iff_le]; omega) | (simp; done))
 refine wl (stp_on h rfl rfl rfl hb6 (vl h (mov h rfl) fun a h => ?_))
 refine wl (stp_on h rfl rfl rfl hb6 (vl h (mov h rfl) fun a h => ?_))
 refine wl (stp_on h rfl rfl rfl hb6 (vl h (leB h rfl Tryz.underlying9) fun a h => ?_))
 refine wl (stp_on h rfl rfl rfl hb6 (vl h (geq h rfl rfl) fun a h => ?_))
 refine wvl h (pckF h rfl hb6 rfl) fun a h => ?_
 refine wmv h rfl fun a h => ?_
 refine split (t := 44) h rfl (fun hb7 => ?_) (fun hb7 => ?_)
 ·exact absurd hb7 (by first | decide | (simp only [Bool.not_eq_true', Bool.not_eq_false', Bool.not_eq_true, Bool.not_eq_false, decide_eq_true_eq, decide_eq_false_iff_not, gt_iff_lt, ge_iff_le]; omega) | (simp; done))
 refine wl (stp_on h rfl rfl rfl hb7 (vl h (mov h rfl) fun a h => ?_))
 refine wl (stp_on h rfl rfl rfl hb7 (vl h (mov h rfl) fun a h => ?_))
 refine wl (stp_on h rfl rfl rfl hb7 (vl h (siB (p.toNat) h rfl rfl Tryz.underlying9 (by omega) hb) fun a h => ?_))
 refine wl (stp_on h rfl rfl rfl hb7 (vl h (lss h rfl rfl) fun a h => ?_))
 refine wvl h (pckF h rfl hb7 rfl) fun a h => ?_
 refine wmv h rfl fun a h => ?_
 refine split (t := 50) h rfl (fun hb8 => ?_) (fun hb8 => ?_)
 ·refine wl (stp_off h rfl rfl rfl rfl rfl hb8 fun a h => ?_)
  refine wl (stp_off h rfl rfl rfl rfl rfl hb8 fun a h => ?_)
  refine wl (stp_off h rfl rfl rfl rfl rfl hb8 fun a h => ?_)
  refine wl (stp_off h rfl rfl rfl rfl rfl hb8 fun a h => ?_)
  refine wvl h (pckT h rfl hb8 rfl) fun a h => ?_
  refine wmv h rfl fun a h => ?_
  refine wl (stp_off h rfl rfl rfl rfl rfl rfl fun a h => ?_)
  refine wl (stp_off h rfl rfl rfl rfl rfl rfl fun a h => ?_)
  refine wl (stp_off h rfl rfl rfl rfl rfl rfl fun a h => ?_)
  refine wl (stp_off h rfl rfl rfl rfl rfl rfl fun a h => ?_)
  refine wl (stp_off h rfl rfl rfl rfl rfl rfl fun a h => ?_)
  refine wl (stp_off h rfl rfl rfl rfl rfl rfl fun a h => ?_)
  refine wl (stp_off h rfl rfl rfl rfl rfl rfl fun a h => ?_)
  refine wvl h (pckT h rfl rfl rfl) fun a h => ?_
  refine wn ?_
  refine cnd1 h rfl (fun _ => ?_) (fun e => nomatch e)
  refine rg ?_
  refine wl (cal h rfl en10_W58 (known_L _ (hGl.keep hp)) fun u w3 ⟨e1, e2⟩ a h => ?_)
  subst e1
  have hp := hp.below e2
  refine wsn h rfl fun a h => ?_
  refine wp_ret ?_
  try simp only [xqs]
  refine rt_1 h rfl (rvT h rfl) ?_
  exact ⟨_, rfl, rfl, hp.bel⟩
 have e1 : 48 ≤ b.toNat := by have := of_decide_eq_false hb8; omega
 refine wl (stp_on h rfl rfl rfl hb8 (vl h (mov h rfl) fun a h => ?_))
 refine wl (stp_on h rfl rfl rfl hb8 (vl h (mov h rfl) fun a h => ?_))
 refine wl (stp_on h rfl rfl rfl hb8 (vl h (siB (p.toNat) h rfl rfl Tryz.underlying9 (by omega) hb) fun a h => ?_))
 refine wl (stp_on h rfl rfl rfl hb8 (vl h (gtr h rfl rfl) fun a h => ?_))
 refine wvl h (pckF h rfl hb8 rfl) fun a h => ?_
 refine wmv h rfl fun a h => ?_
 refine split (t := 56) h rfl (fun hb9 => ?_) (fun hb9 => ?_)
 ·refine wl (stp_off h rfl rfl rfl rfl rfl hb9 fun a h => ?_)
  refine wl (stp_off h rfl rfl rfl rfl rfl hb9 fun a h => ?_)
  refine wl (stp_off h rfl rfl rfl rfl rfl hb9 fun a h => ?_)
  refine wl (stp_off h rfl rfl rfl rfl rfl hb9 fun a h => ?_)
  refine wl (stp_off h rfl rfl rfl rfl rfl hb9 fun a h => ?_)
  refine wl (stp_off h rfl rfl rfl rfl rfl hb9 fun a h => ?_)
  refine wl (stp_off h rfl rfl rfl rfl rfl hb9 fun a h => ?_)
  refine wvl h (pckT h rfl hb9 rfl) fun a h => ?_
  refine wn ?_
  refine cnd1 h rfl (fun _ => ?_) (fun e => nomatch e)
  refine rg ?_
  refine wl (cal h rfl en10_W58 (known_L _ (hGl.keep hp)) fun u w4 ⟨e1, e2⟩ a h => ?_)
  subst e1
  have hp := hp.below e2
  refine wsn h rfl fun a h => ?_
  refine wp_ret ?_
  try simp only [xqs]
  refine rt_1 h rfl (rvT h rfl) ?_
  exact ⟨_, rfl, rfl, hp.bel⟩
 have e2 : b.toNat ≤ 57 := by have := of_decide_eq_false hb9; omega
 refine wl (stp_on h rfl rfl rfl hb9 (vl h (mov h rfl) fun a h => ?_))
 refine wl (stp_on h rfl rfl rfl hb9 (vl h (mov h rfl) fun a h => ?_))
 refine wl (stp_on h rfl rfl rfl hb9 (vl h (siB (p.toNat) h rfl rfl Tryz.underlying9 (by omega) hb) fun a h => ?_))
 refine wl (stp_on h rfl rfl rfl hb9 (vl h (sbk h rfl rfl (wr8 (by omega))) fun a h => ?_))
 refine wl (stp_on h rfl rfl rfl hb9 (vl h (cvW h rfl (by kernel_rfl) Tryz.underlying3 (wrap_in (by omega))) fun a h => ?_))
 refine wl (stp_on h rfl rfl rfl hb9 (vl h (mov h rfl) fun a h => ?_))
 refine wl (stp_on h rfl rfl rfl hb9 (vl h (eqi h rfl rfl) fun a h => ?_))
 refine wvl h (pckF h rfl hb9 rfl) fun a h => ?_
 refine wn ?_
 refine cnd1 h rfl (fun hb10 => ?_) (fun hb10 => ?_)
 ·refine rg ?_
  refine wl (cal h rfl en10_W58 (known_L _ (hGl.keep hp)) fun u w5 ⟨e1, e2⟩ a h => ?_)
  subst e1
  have hp := hp.below e2
  refine wsn h rfl fun a h => ?_
  refine wp_ret ?_
  try simp only [xqs]
  refine rt_1 h rfl (rvT h rfl) ?_
  exact ⟨_, rfl, rfl, hp.bel⟩
 exact absurd ⟨⟨e1, e2⟩, of_decide_eq_false hb10⟩ hq
theorem EclipseSpoilt_c (s : SV) (l : List Ecl.Mark) (p d : Int) (b b2 : UInt8) (w : World) (hR : Rd w encM 3 s.v l) (hGl : Glb w) (hl : isList l = true) (d0 : 0 ≤ d) (d9 : d ≤ 9) (h0 : 0 ≤ p) (h1 : p < (text l).length) (hb : (text l)[p.toNat]? = some b) (e1 : 48 ≤ b.toNat) (e2 : b.toNat ≤ 57) (hne : (b.toNat : Int) - 48 ≠ d) (h2 : (b2.toNat : Int) = 48 + d) (he : readErr ((text l).set p.toNat b2) = 4) (hv : readVal ((text l).set p.toNat b2) = []) : Ret Tryz.prog 5 #[s.v, .int .i64 p, .int .i64 d] w fun u w' => u = .bool true ∧ Below w.heap.size w w' := by
 have hfit := hR.fits
 have hl20 := (list_marks hl).1
 have ht4 := (read_back hl).2
 have hp : Hp c0 w w [] := Hp.start trivial
 refine enter Tryz.func5 rfl (N := 90) rfl rfl fun a h => ?_
 refine rg ?_
 refine wsn h rfl fun a h => ?_
 refine wp_seq ?_
 refine rg ?_
 refine wmv h rfl fun a h => ?_
 refine wvl h (lenR h rfl Tryz.underlying22 (hR.keep (by decide) hp cl0)) fun a h => ?_
 refine wvl h (gtr h rfl rfl) fun a h => ?_
 refine wmv h rfl fun a h => ?_
 refine split (t := 15) h rfl (fun hb1 => ?_) (fun hb1 => ?_)
 ·exact absurd hb1 (by first | decide | (simp only [Bool.not_eq_true', Bool.not_eq_false', Bool.not_eq_true, Bool.not_eq_false, decide_eq_true_eq, decide_eq_false_iff_not, gt_iff_lt, ge_iff_le]; omega) | (simp; done))
 refine wl (stp_on h rfl rfl rfl hb1 (vl h (mov h rfl) fun a h => ?_))
 refine wl (stp_on h rfl rfl rfl hb1 (cal h rfl en12_W58 (List_R _ _ _ (hR.keep (by decide) hp cl0)) fun u w1 ⟨e1, e2⟩ a h => ?_))
 subst e1
 have hp := hp.below e2
 refine wl (stp_on h rfl rfl rfl hb1 (vl h (not_ h rfl) fun a h => ?_))
 refine wvl h (pckF h rfl hb1 rfl) fun a h => ?_
 refine wmv h rfl fun a h => ?_
 refine split (t := 20) h rfl (fun hb2 => ?_) (fun hb2 => ?_)
 ·exact absurd hb2 (by rw [hl]; decide)
 refine wl (stp_on h rfl rfl rfl hb2 (vl h (mov h rfl) fun a h => ?_))
 refine wl (stp_on h rfl rfl rfl hb2 (vl h (lss h rfl rfl) fun a h => ?_))
 refine wvl h (pckF h rfl hb2 rfl) fun a h => ?_
 refine wmv h rfl fun a h => ?_
 refine split (t := 24) h rfl (fun hb3 => ?_) (fun hb3 => ?_)
 ·exact absurd hb3 (by first | decide | (simp only [Bool.not_eq_true', Bool.not_eq_false', Bool.not_eq_true, Bool.not_eq_false, decide_eq_true_eq, decide_eq_false_iff_not, gt_iff_lt, ge_iff_le]; omega) | (simp; done))
 refine wl (stp_on h rfl rfl rfl hb3 (vl h (mov h rfl) fun a h => ?_))
 refine wl (stp_on h rfl rfl rfl hb3 (vl h (gtr h rfl rfl) fun a h => ?_))
 refine wvl h (pckF h rfl hb3 rfl) fun a h => ?_
 refine wn ?_
 refine cnd1 h rfl (fun hb4 => ?_) (fun hb4 => ?_)
 ·exact absurd hb4 (by first | decide | (simp only [Bool.not_eq_true', Bool.not_eq_false', Bool.not_eq_true, Bool.not_eq_false, decide_eq_true_eq, decide_eq_false_iff_not, gt_iff_lt, ge_iff_le]; omega) | (simp; done))
 refine skp ?_
 refine rg ?_
 refine wmv h rfl fun a h => ?_
 refine wl (cal h rfl en11_W58 (Print_s _ _ _ (hR.keep (by decide) hp cl0) (hGl.keep hp) hl) fun u w2 ⟨e1, e2⟩ a h => ?_)
 subst e1
 have hp := hp.below e2
 refine wmv h rfl fun a h => ?_
 refine wvl h (ext h rfl rfl) fun a h => ?_
 refine wvl h (ext h rfl rfl) fun a h => ?_
 refine ws2 h rfl rfl rfl rfl fun a h => ?_
 refine wp_seq ?_
 refine rg ?_
 refine wmv h rfl fun a h => ?_
 refine wvl h (nei h rfl rfl) fun a h => ?_
 refine wn ?_
 refine cnd1 h rfl (fun hb5 => ?_) (fun hb5 => ?_)
 ·exact absurd hb5 (by decide)
 refine skp ?_
 refine wp_seq ?_
 refine rg ?_
 refine wmv h rfl fun a h => ?_
 refine wvl h (lss h rfl rfl) fun a h => ?_
 refine wmv h rfl fun a h => ?_
 refine split (t := 38) h rfl (fun hb6 => ?_) (fun hb6 => ?_)
 ·exact absurd hb6 (by first | decide | (simp only [Bool.not_eq_true', Bool.not_eq_false', Bool.not_eq_true, Bool.not_eq_false, decide_eq_true_eq, decide_eq_false_iff_not, gt_iff_lt, ge_iff_le]; omega) | (simp; done))
 refine wl (stp_on h rfl rfl rfl hb6 (vl h (mov h rfl) fun a h => ?_))
 refine wl (stp_on h rfl rfl rfl hb6 (vl h (mov h rfl) fun a h => ?_))
 refine wl (stp_on h rfl rfl rfl hb6 (vl h (leB h rfl Tryz.underlying9) fun a h => ?_))
 refine wl (stp_on h rfl rfl rfl hb6 (vl h (geq h rfl rfl) fun a h => ?_))
 refine wvl h (pckF h rfl hb6 rfl) fun a h => ?_
 refine wmv h rfl fun a h => ?_
 refine split (t := 44) h rfl (fun hb7 => ?_) (fun hb7 => ?_)
 ·exact absurd hb7 (by first | decide | (simp only [Bool.not_eq_true', Bool.not_eq_false', Bool.not_eq_true, Bool.not_eq_false, decide_eq_true_eq, decide_eq_false_iff_not, gt_iff_lt, ge_iff_le]; omega) | (simp; done))
 refine wl (stp_on h rfl rfl rfl hb7 (vl h (mov h rfl) fun a h => ?_))
 refine wl (stp_on h rfl rfl rfl hb7 (vl h (mov h rfl) fun a h => ?_))
 refine wl (stp_on h rfl rfl rfl hb7 (vl h (siB (p.toNat) h rfl rfl Tryz.underlying9 (by omega) hb) fun a h => ?_))
 refine wl (stp_on h rfl rfl rfl hb7 (vl h (lss h rfl rfl) fun a h => ?_))
 refine wvl h (pckF h rfl hb7 rfl) fun a h => ?_
 refine wmv h rfl fun a h => ?_
 refine split (t := 50) h rfl (fun hb8 => ?_) (fun hb8 => ?_)
 ·exact absurd hb8 (by first | decide | (simp only [Bool.not_eq_true', Bool.not_eq_false', Bool.not_eq_true, Bool.not_eq_false, decide_eq_true_eq, decide_eq_false_iff_not, gt_iff_lt, ge_iff_le]; omega) | (simp; done))
 refine wl (stp_on h rfl rfl rfl hb8 (vl h (mov h rfl) fun a h => ?_))
 refine wl (stp_on h rfl rfl rfl hb8 (vl h (mov h rfl) fun a h => ?_))
 refine wl (stp_on h rfl rfl rfl hb8 (vl h (siB (p.toNat) h rfl rfl Tryz.underlying9 (by omega) hb) fun a h => ?_))
 refine wl (stp_on h rfl rfl rfl hb8 (vl h (gtr h rfl rfl) fun a h => ?_))
 refine wvl h (pckF h rfl hb8 rfl) fun a h => ?_
 refine wmv h rfl fun a h => ?_
 refine split (t := 56) h rfl (fun hb9 => ?_) (fun hb9 => ?_)
 ·exact absurd hb9 (by first | decide | (simp only [Bool.not_eq_true', Bool.not_eq_false', Bool.not_eq_true, Bool.not_eq_false, decide_eq_true_eq, decide_eq_false_iff_not, gt_iff_lt, ge_iff_le]; omega) | (simp; done))
 refine wl (stp_on h rfl rfl rfl hb9 (vl h (mov h rfl) fun a h => ?_))
 refine wl (stp_on h rfl rfl rfl hb9 (vl h (mov h rfl) fun a h => ?_))
 refine wl (stp_on h rfl rfl rfl hb9 (vl h (siB (p.toNat) h rfl rfl Tryz.underlying9 (by omega) hb) fun a h => ?_))
 refine wl (stp_on h rfl rfl rfl hb9 (vl h (sbk h rfl rfl (wr8 (by omega))) fun a h => ?_))
 refine wl (stp_on h rfl rfl rfl hb9 (vl h (cvW h rfl (by kernel_rfl) Tryz.underlying3 (wrap_in (by omega))) fun a h => ?_))
 refine wl (stp_on h rfl rfl rfl hb9 (vl h (mov h rfl) fun a h => ?_))
 refine wl (stp_on h rfl rfl rfl hb9 (vl h (eqi h rfl rfl) fun a h => ?_))
 refine wvl h (pckF h rfl hb9 rfl) fun a h => ?_
 refine wn ?_
 refine cnd1 h rfl (fun hb10 => ?_) (fun hb10 => ?_)
 ·exact absurd hb10 (by first | decide | (simp only [Bool.not_eq_true', Bool.not_eq_false', Bool.not_eq_true, Bool.not_eq_false, decide_eq_true_eq, decide_eq_false_iff_not, gt_iff_lt, ge_iff_le]; omega) | (simp; done))
 refine skp ?_
 refine rg ?_
 refine wmv h rfl fun a h => ?_
 refine wl (cvs h hp rfl Tryz.underlying9 Tryz.underlying35 Tryz.underlying5 fun a w91 g9 cap9 h hp => ?_)
 refine wsn h rfl fun a h => ?_
 refine rg ?_
 refine wm3 h rfl rfl rfl rfl rfl rfl fun a h => ?_
 refine wvl h (add h rfl rfl (by omega)) fun a h => ?_
 refine wvl h (cvW h rfl (by kernel_rfl) Tryz.underlying5 (wr8 (by omega))) fun a h => ?_
 refine wvl h (iad h rfl rfl Tryz.underlying35 sz5_W58 (by omega) (by omega)) fun a h => ?_
 refine wl (stU b2 h hp rfl rfl 0 rfl sz5_W58 (by omega) h2.symm fun w92 hp => ?_)
 rw [Nat.zero_add, Nat.mul_one] at hp
 refine wn ?_
 refine rg ?_
 refine wmv h rfl fun a h => ?_
 refine wvl h (cvb h hp rfl 0 rfl (by rw [List.length_set]) Tryz.underlying35 Tryz.underlying5 Tryz.underlying9) fun a h => ?_
 refine wl (cal h rfl en13 (Read_c (hGl.keep hp) he hv) fun u w3 ⟨⟨s21, e1, hf⟩, e2⟩ a h => ?_)
 subst e1
 have hp := hp.got (hp.below e2) (by decide) hf
 refine wmv h rfl fun a h => ?_
 refine wvl h (ext h rfl rfl) fun a h => ?_
 refine wvl h (ext h rfl rfl) fun a h => ?_
 refine ws2 h rfl rfl rfl rfl fun a h => ?_
 refine rg ?_
 refine wmv h rfl fun a h => ?_
 refine wvl h (eqi h rfl rfl) fun a h => ?_
 refine wmv h rfl fun a h => ?_
 refine split (t := 82) h rfl (fun hb11 => ?_) (fun hb11 => ?_)
 ·refine wl (stp_on h rfl rfl rfl hb11 (vl h (mov h rfl) fun a h => ?_))
  refine wl (stp_on h rfl rfl rfl hb11 (vl h (lenR h rfl Tryz.underlying22 (hp.rdF (i := 1) rfl)) fun a h => ?_))
  refine wl (stp_on h rfl rfl rfl hb11 (vl h (eqi h rfl rfl) fun a h => ?_))
  refine wvl h (pckT h rfl hb11 rfl) fun a h => ?_
  refine wmv h rfl fun a h => ?_
  refine split (t := 87) h rfl (fun hb12 => ?_) (fun hb12 => ?_)
  ·refine wl (stp_on h rfl rfl rfl hb12 (cal h rfl en10_W58 (known_L _ (hGl.keep hp)) fun u w4 ⟨e1, e2⟩ a h => ?_))
   subst e1
   have hp := hp.below e2
   refine wvl h (pckT h rfl hb12 rfl) fun a h => ?_
   refine wsn h rfl fun a h => ?_
   refine wp_ret ?_
   try simp only [xqs]
   refine rt_1 h rfl (rvT h rfl) ?_
   exact ⟨_, rfl, rfl, hp.bel⟩
  exact absurd hb12 (by decide)
 exact absurd hb11 (by decide)
theorem EclipseSpoilt_L (s : SV) (l : List Ecl.Mark) (p d : Int) (w : World) (hR : Rd w encM 3 s.v l) (hGl : Glb w) : Ret Tryz.prog 5 #[s.v, .int .i64 p, .int .i64 d] w fun u w' => u = .bool true ∧ Below w.heap.size w w' := by
 cases hbad : (isList l && decide (0 ≤ d) && decide (d ≤ 9)) with
 | false => exact EclipseSpoilt_a s l p d w hR hGl hbad
 | true =>
  rw [Bool.and_eq_true, Bool.and_eq_true, decide_eq_true_eq, decide_eq_true_eq] at hbad
  obtain ⟨⟨hl, d0⟩, d9⟩ := hbad
  by_cases hr : 0 ≤ p ∧ p < (text l).length
  ·obtain ⟨b, hb⟩ : ∃ b, (text l)[p.toNat]? = some b := ⟨_, List.getElem?_eq_getElem (by omega)⟩
   by_cases hq : (48 ≤ b.toNat ∧ b.toNat ≤ 57) ∧ (b.toNat : Int) - 48 ≠ d
   ·have h2 : ((UInt8.ofNat (48 + d).toNat).toNat : Int) = 48 + d := by
     rw [UInt8.toNat_ofNat']
     omega
    have hd : digit b = true := by rw [digit, decide_eq_true hq.1.1, decide_eq_true hq.1.2]; rfl
    have hd2 : digit (UInt8.ofNat (48 + d).toNat) = true := by rw [digit, decide_eq_true (by omega), decide_eq_true (by omega)]; rfl
    have hne : UInt8.ofNat (48 + d).toNat ≠ b := fun e => hq.2 (by rw [e] at h2; omega)
    obtain ⟨he, hv⟩ := spoilt_read hl hb hd hd2 hne
    exact EclipseSpoilt_c s l p d b _ w hR hGl hl d0 d9 hr.1 hr.2 hb hq.1.1 hq.1.2 hq.2 h2 he hv
   ·exact EclipseSpoilt_q s l p d b w hR hGl hl d0 d9 hr.1 hr.2 hb hq
  ·exact EclipseSpoilt_r s l p d w hR hGl hl d0 d9 hr
end Go.Proofs.Ec
