import Derived.Test.YtobofnkmbpfoiabGreatDoorProg
import Derived.Test.YtobofnkmbpfoiabGreatDoorPFa
import Derived.Test.YtobofnkmbpfoiabGreatDoorPQb
import Derived.Test.YtobofnkmbpfoiabGreatDoorPW53
set_option linter.unusedVariables false
set_option linter.unusedSimpArgs false
set_option maxRecDepth 4000
namespace Go.Proofs.Ec
open Go.RowKit Go.Proofs.Sx
open Ecl
theorem bad5 {a b c d e : Bool} (h1 : (!a) = false) (h2 : (!b) = false) (h3 : (!c) = false) (h4 : (!d) = false) (h5 : e = false) : ¬ ((a && b && c && d && !e) = false) := by
 cases a <;> cases b <;> cases c <;> cases d <;> cases e <;> simp_all
theorem Shades_w {s : SV} {l : List Ball} {p r c : Int} {y z : Ball} {w : World} (hR : Rd w encL 3 s.v l) (hok : (isBalls l && inR p 0 ((l.length : Int) - 1) && inR r 0 ((l.length : Int) - 1) && !decide (p = r)) = true) (hy : l[p.toNat]? = some y) (hz : l[r.toNat]? = some z) (hw : shadesB y z = c) : Ret Tryz.prog 18 #[s.v, .int .i64 p, .int .i64 r] w fun u w' => u = .tuple #[.int .i64 c, .int .i64 0] ∧ Below w.heap.size w w' := by
 have := Shades_v hR hok hy hz
 rwa [hw] at this
theorem Shades_tw {s : SV} {l : List Ball} {p r c : Int} {y z : Ball} {w : World} (mi : Bool) (hR : Rd w encL 3 s.v (l.map (turnF mi))) (hok : (isBalls l && inR p 0 ((l.length : Int) - 1) && inR r 0 ((l.length : Int) - 1) && !decide (p = r)) = true) (hy : l[p.toNat]? = some y) (hz : l[r.toNat]? = some z) (hw : shadesB y z = c) : Ret Tryz.prog 18 #[s.v, .int .i64 p, .int .i64 r] w fun u w' => u = .tuple #[.int .i64 c, .int .i64 0] ∧ Below w.heap.size w w' := by
 have := Shades_t mi hR hok hy hz
 rwa [hw] at this
theorem EclipseLines_b (s : SV) (l : List Ball) (p r o px py : Int) (w : World) (hR : Rd w encL 3 s.v l) (hGl : Glb w) (hbad : (isBalls l && inR p 0 ((l.length : Int) - 1) && inR r 0 ((l.length : Int) - 1) && inR o 0 ((l.length : Int) - 1) && !decide (p = r)) = false) : Ret Tryz.prog 7 #[s.v, .int .i64 p, .int .i64 r, .int .i64 o, .int .i64 px, .int .i64 py] w fun u w' => u = .bool true ∧ Below w.heap.size w w' := by
 have hfit := hR.fits
 have hp : Hp c0 w w [] := Hp.start trivial
 refine enter Tryz.func7 rfl (N := 259) rfl rfl fun a h => ?_
 refine rg ?_
 refine wsn h rfl fun a h => ?_
 refine wp_seq ?_
 refine rg ?_
 refine wmv h rfl fun a h => ?_
 refine wvl h (lenR h rfl Tryz.underlying37 (hR.keep (by decide) hp cl0)) fun a h => ?_
 refine wvl h (gtr h rfl rfl) fun a h => ?_
 refine wmv h rfl fun a h => ?_
 refine split (t := 28) h rfl (fun hb1 => ?_) (fun hb1 => ?_)
 ·refine wl (stp_off h rfl rfl rfl rfl rfl hb1 fun a h => ?_)
  refine wl (stp_off h rfl rfl rfl rfl rfl hb1 fun a h => ?_)
  refine wl (stp_off h rfl rfl rfl rfl rfl hb1 fun a h => ?_)
  refine wvl h (pckT h rfl hb1 rfl) fun a h => ?_
  refine wmv h rfl fun a h => ?_
  refine wl (stp_off h rfl rfl rfl rfl rfl rfl fun a h => ?_)
  refine wl (stp_off h rfl rfl rfl rfl rfl rfl fun a h => ?_)
  refine wl (stp_off h rfl rfl rfl rfl rfl rfl fun a h => ?_)
  refine wl (stp_off h rfl rfl rfl rfl rfl rfl fun a h => ?_)
  refine wvl h (pckT h rfl rfl rfl) fun a h => ?_
  refine wmv h rfl fun a h => ?_
  refine wl (stp_off h rfl rfl rfl rfl rfl rfl fun a h => ?_)
  refine wl (stp_off h rfl rfl rfl rfl rfl rfl fun a h => ?_)
  refine wl (stp_off h rfl rfl rfl rfl rfl rfl fun a h => ?_)
  refine wl (stp_off h rfl rfl rfl rfl rfl rfl fun a h => ?_)
  refine wvl h (pckT h rfl rfl rfl) fun a h => ?_
  refine wmv h rfl fun a h => ?_
  refine wl (stp_off h rfl rfl rfl rfl rfl rfl fun a h => ?_)
  refine wl (stp_off h rfl rfl rfl rfl rfl rfl fun a h => ?_)
  refine wl (stp_off h rfl rfl rfl rfl rfl rfl fun a h => ?_)
  refine wl (stp_off h rfl rfl rfl rfl rfl rfl fun a h => ?_)
  refine wvl h (pckT h rfl rfl rfl) fun a h => ?_
  refine wmv h rfl fun a h => ?_
  refine wl (stp_off h rfl rfl rfl rfl rfl rfl fun a h => ?_)
  refine wl (stp_off h rfl rfl rfl rfl rfl rfl fun a h => ?_)
  refine wl (stp_off h rfl rfl rfl rfl rfl rfl fun a h => ?_)
  refine wvl h (pckT h rfl rfl rfl) fun a h => ?_
  refine wn ?_
  refine cnd1 h rfl (fun _ => ?_) (fun e => nomatch e)
  refine rg ?_
  refine wl (cal h rfl en10 (known_L _ (hGl.keep hp)) fun u w1 ⟨e1, e2⟩ a h => ?_)
  subst e1
  have hp := hp.below e2
  refine wsn h rfl fun a h => ?_
  refine wp_ret ?_
  try simp only [xqs]
  refine rt_1 h rfl (rvT h rfl) ?_
  exact ⟨_, rfl, rfl, hp.bel⟩
 refine wl (stp_on h rfl rfl rfl hb1 (vl h (mov h rfl) fun a h => ?_))
 refine wl (stp_on h rfl rfl rfl hb1 (cal h rfl en20 (Balls_R _ _ _ (hR.keep (by decide) hp cl0)) fun u w2 ⟨e1, e2⟩ a h => ?_))
 subst e1
 have hp := hp.below e2
 refine wl (stp_on h rfl rfl rfl hb1 (vl h (not_ h rfl) fun a h => ?_))
 refine wvl h (pckF h rfl hb1 rfl) fun a h => ?_
 refine wmv h rfl fun a h => ?_
 refine split (t := 33) h rfl (fun hb2 => ?_) (fun hb2 => ?_)
 ·refine wl (stp_off h rfl rfl rfl rfl rfl hb2 fun a h => ?_)
  refine wl (stp_off h rfl rfl rfl rfl rfl hb2 fun a h => ?_)
  refine wl (stp_off h rfl rfl rfl rfl rfl hb2 fun a h => ?_)
  refine wl (stp_off h rfl rfl rfl rfl rfl hb2 fun a h => ?_)
  refine wvl h (pckT h rfl hb2 rfl) fun a h => ?_
  refine wmv h rfl fun a h => ?_
  refine wl (stp_off h rfl rfl rfl rfl rfl rfl fun a h => ?_)
  refine wl (stp_off h rfl rfl rfl rfl rfl rfl fun a h => ?_)
  refine wl (stp_off h rfl rfl rfl rfl rfl rfl fun a h => ?_)
  refine wl (stp_off h rfl rfl rfl rfl rfl rfl fun a h => ?_)
  refine wvl h (pckT h rfl rfl rfl) fun a h => ?_
  refine wmv h rfl fun a h => ?_
  refine wl (stp_off h rfl rfl rfl rfl rfl rfl fun a h => ?_)
  refine wl (stp_off h rfl rfl rfl rfl rfl rfl fun a h => ?_)
  refine wl (stp_off h rfl rfl rfl rfl rfl rfl fun a h => ?_)
  refine wl (stp_off h rfl rfl rfl rfl rfl rfl fun a h => ?_)
  refine wvl h (pckT h rfl rfl rfl) fun a h => ?_
  refine wmv h rfl fun a h => ?_
  refine wl (stp_off h rfl rfl rfl rfl rfl rfl fun a h => ?_)
  refine wl (stp_off h rfl rfl rfl rfl rfl rfl fun a h => ?_)
  refine wl (stp_off h rfl rfl rfl rfl rfl rfl fun a h => ?_)
  refine wvl h (pckT h rfl rfl rfl) fun a h => ?_
  refine wn ?_
  refine cnd1 h rfl (fun _ => ?_) (fun e => nomatch e)
  refine rg ?_
  refine wl (cal h rfl en10 (known_L _ (hGl.keep hp)) fun u w3 ⟨e1, e2⟩ a h => ?_)
  subst e1
  have hp := hp.below e2
  refine wsn h rfl fun a h => ?_
  refine wp_ret ?_
  try simp only [xqs]
  refine rt_1 h rfl (rvT h rfl) ?_
  exact ⟨_, rfl, rfl, hp.bel⟩
 have hn1 := hb2
 refine wl (stp_on h rfl rfl rfl hb2 (vl h (mov h rfl) fun a h => ?_))
 refine wl (stp_on h rfl rfl rfl hb2 (vl h (mov h rfl) fun a h => ?_))
 refine wl (stp_on h rfl rfl rfl hb2 (cal h rfl en23 (Ball_R _ _ _ _ (hR.keep (by decide) hp cl0)) fun u w4 ⟨e1, e2⟩ a h => ?_))
 subst e1
 have hp := hp.below e2
 refine wl (stp_on h rfl rfl rfl hb2 (vl h (not_ h rfl) fun a h => ?_))
 refine wvl h (pckF h rfl hb2 rfl) fun a h => ?_
 refine wmv h rfl fun a h => ?_
 refine split (t := 39) h rfl (fun hb3 => ?_) (fun hb3 => ?_)
 ·refine wl (stp_off h rfl rfl rfl rfl rfl hb3 fun a h => ?_)
  refine wl (stp_off h rfl rfl rfl rfl rfl hb3 fun a h => ?_)
  refine wl (stp_off h rfl rfl rfl rfl rfl hb3 fun a h => ?_)
  refine wl (stp_off h rfl rfl rfl rfl rfl hb3 fun a h => ?_)
  refine wvl h (pckT h rfl hb3 rfl) fun a h => ?_
  refine wmv h rfl fun a h => ?_
  refine wl (stp_off h rfl rfl rfl rfl rfl rfl fun a h => ?_)
  refine wl (stp_off h rfl rfl rfl rfl rfl rfl fun a h => ?_)
  refine wl (stp_off h rfl rfl rfl rfl rfl rfl fun a h => ?_)
  refine wl (stp_off h rfl rfl rfl rfl rfl rfl fun a h => ?_)
  refine wvl h (pckT h rfl rfl rfl) fun a h => ?_
  refine wmv h rfl fun a h => ?_
  refine wl (stp_off h rfl rfl rfl rfl rfl rfl fun a h => ?_)
  refine wl (stp_off h rfl rfl rfl rfl rfl rfl fun a h => ?_)
  refine wl (stp_off h rfl rfl rfl rfl rfl rfl fun a h => ?_)
  refine wvl h (pckT h rfl rfl rfl) fun a h => ?_
  refine wn ?_
  refine cnd1 h rfl (fun _ => ?_) (fun e => nomatch e)
  refine rg ?_
  refine wl (cal h rfl en10 (known_L _ (hGl.keep hp)) fun u w5 ⟨e1, e2⟩ a h => ?_)
  subst e1
  have hp := hp.below e2
  refine wsn h rfl fun a h => ?_
  refine wp_ret ?_
  try simp only [xqs]
  refine rt_1 h rfl (rvT h rfl) ?_
  exact ⟨_, rfl, rfl, hp.bel⟩
 have hn2 := hb3
 refine wl (stp_on h rfl rfl rfl hb3 (vl h (mov h rfl) fun a h => ?_))
 refine wl (stp_on h rfl rfl rfl hb3 (vl h (mov h rfl) fun a h => ?_))
 refine wl (stp_on h rfl rfl rfl hb3 (cal h rfl en23 (Ball_R _ _ _ _ (hR.keep (by decide) hp cl0)) fun u w6 ⟨e1, e2⟩ a h => ?_))
 subst e1
 have hp := hp.below e2
 refine wl (stp_on h rfl rfl rfl hb3 (vl h (not_ h rfl) fun a h => ?_))
 refine wvl h (pckF h rfl hb3 rfl) fun a h => ?_
 refine wmv h rfl fun a h => ?_
 refine split (t := 45) h rfl (fun hb4 => ?_) (fun hb4 => ?_)
 ·refine wl (stp_off h rfl rfl rfl rfl rfl hb4 fun a h => ?_)
  refine wl (stp_off h rfl rfl rfl rfl rfl hb4 fun a h => ?_)
  refine wl (stp_off h rfl rfl rfl rfl rfl hb4 fun a h => ?_)
  refine wl (stp_off h rfl rfl rfl rfl rfl hb4 fun a h => ?_)
  refine wvl h (pckT h rfl hb4 rfl) fun a h => ?_
  refine wmv h rfl fun a h => ?_
  refine wl (stp_off h rfl rfl rfl rfl rfl rfl fun a h => ?_)
  refine wl (stp_off h rfl rfl rfl rfl rfl rfl fun a h => ?_)
  refine wl (stp_off h rfl rfl rfl rfl rfl rfl fun a h => ?_)
  refine wvl h (pckT h rfl rfl rfl) fun a h => ?_
  refine wn ?_
  refine cnd1 h rfl (fun _ => ?_) (fun e => nomatch e)
  refine rg ?_
  refine wl (cal h rfl en10 (known_L _ (hGl.keep hp)) fun u w7 ⟨e1, e2⟩ a h => ?_)
  subst e1
  have hp := hp.below e2
  refine wsn h rfl fun a h => ?_
  refine wp_ret ?_
  try simp only [xqs]
  refine rt_1 h rfl (rvT h rfl) ?_
  exact ⟨_, rfl, rfl, hp.bel⟩
 have hn3 := hb4
 refine wl (stp_on h rfl rfl rfl hb4 (vl h (mov h rfl) fun a h => ?_))
 refine wl (stp_on h rfl rfl rfl hb4 (vl h (mov h rfl) fun a h => ?_))
 refine wl (stp_on h rfl rfl rfl hb4 (cal h rfl en23 (Ball_R _ _ _ _ (hR.keep (by decide) hp cl0)) fun u w8 ⟨e1, e2⟩ a h => ?_))
 subst e1
 have hp := hp.below e2
 refine wl (stp_on h rfl rfl rfl hb4 (vl h (not_ h rfl) fun a h => ?_))
 refine wvl h (pckF h rfl hb4 rfl) fun a h => ?_
 refine wmv h rfl fun a h => ?_
 refine split (t := 51) h rfl (fun hb5 => ?_) (fun hb5 => ?_)
 ·refine wl (stp_off h rfl rfl rfl rfl rfl hb5 fun a h => ?_)
  refine wl (stp_off h rfl rfl rfl rfl rfl hb5 fun a h => ?_)
  refine wl (stp_off h rfl rfl rfl rfl rfl hb5 fun a h => ?_)
  refine wvl h (pckT h rfl hb5 rfl) fun a h => ?_
  refine wn ?_
  refine cnd1 h rfl (fun _ => ?_) (fun e => nomatch e)
  refine rg ?_
  refine wl (cal h rfl en10 (known_L _ (hGl.keep hp)) fun u w9 ⟨e1, e2⟩ a h => ?_)
  subst e1
  have hp := hp.below e2
  refine wsn h rfl fun a h => ?_
  refine wp_ret ?_
  try simp only [xqs]
  refine rt_1 h rfl (rvT h rfl) ?_
  exact ⟨_, rfl, rfl, hp.bel⟩
 have hn4 := hb5
 refine wl (stp_on h rfl rfl rfl hb5 (vl h (mov h rfl) fun a h => ?_))
 refine wl (stp_on h rfl rfl rfl hb5 (vl h (mov h rfl) fun a h => ?_))
 refine wl (stp_on h rfl rfl rfl hb5 (vl h (eqi h rfl rfl) fun a h => ?_))
 refine wvl h (pckF h rfl hb5 rfl) fun a h => ?_
 refine wn ?_
 refine cnd1 h rfl (fun hb6 => ?_) (fun hb6 => ?_)
 ·refine rg ?_
  refine wl (cal h rfl en10 (known_L _ (hGl.keep hp)) fun u w10 ⟨e1, e2⟩ a h => ?_)
  subst e1
  have hp := hp.below e2
  refine wsn h rfl fun a h => ?_
  refine wp_ret ?_
  try simp only [xqs]
  refine rt_1 h rfl (rvT h rfl) ?_
  exact ⟨_, rfl, rfl, hp.bel⟩
 exact absurd hbad (bad5 hn1 hn2 hn3 hn4 hb6)
set_option maxHeartbeats 8000000 in
theorem EclipseLines_1 (s : SV) (l : List Ball) (p r o px py : Int) (w : World) (hR : Rd w encL 3 s.v l) (hGl : Glb w) (hb : isBalls l = true) (h1 : inR p 0 ((l.length : Int) - 1) = true) (h2 : inR r 0 ((l.length : Int) - 1) = true) (h3 : inR o 0 ((l.length : Int) - 1) = true) (hpr : p ≠ r) (y z t : Ball) (hy : l[p.toNat]? = some y) (hz : l[r.toNat]? = some z) (ht : l[o.toNat]? = some t) (hw : shadesB y z = 1) : Ret Tryz.prog 7 #[s.v, .int .i64 p, .int .i64 r, .int .i64 o, .int .i64 px, .int .i64 py] w fun u w' => u = .bool true ∧ Below w.heap.size w w' := by
 have hfit := hR.fits
 have h1b := h1
 have h2b := h2
 have h3b := h3
 simp only [inR, Bool.and_eq_true, decide_eq_true_eq] at h1b h2b h3b
 have hln := balls_len hb
 have hyB := balls_bd hb y (List.mem_of_getElem? hy)
 have hzB := balls_bd hb z (List.mem_of_getElem? hz)
 have htB := balls_bd hb t (List.mem_of_getElem? ht)
 have hpq := nb_of hb h1 h2 hpr
 have hqp := nb_of hb h2 h1 (Ne.symm hpr)
 have hyx := hyB.x
 have hyy := hyB.y
 have hyr := hyB.r
 have hzx := hzB.x
 have hzy := hzB.y
 have hzr := hzB.r
 have hp : Hp c0 w w [] := Hp.start trivial
 refine enter Tryz.func7 rfl (N := 259) rfl rfl fun a h => ?_
 refine rg ?_
 refine wsn h rfl fun a h => ?_
 refine wp_seq ?_
 refine rg ?_
 refine wmv h rfl fun a h => ?_
 refine wvl h (lenR h rfl Tryz.underlying37 (hR.keep (by decide) hp cl0)) fun a h => ?_
 refine wvl h (gtr h rfl rfl) fun a h => ?_
 refine wmv h rfl fun a h => ?_
 refine split (t := 28) h rfl (fun hb1 => ?_) (fun hb1 => ?_)
 ·exact absurd hb1 (by first | decide | (simp only [Bool.not_eq_true', Bool.not_eq_false', Bool.not_eq_true, Bool.not_eq_false, decide_eq_true_eq, decide_eq_false_iff_not, gt_iff_lt, ge_iff_le]; omega) | (simp; done))
 refine wl (stp_on h rfl rfl rfl hb1 (vl h (mov h rfl) fun a h => ?_))
 refine wl (stp_on h rfl rfl rfl hb1 (cal h rfl en20 (Balls_R _ _ _ (hR.keep (by decide) hp cl0)) fun u w1 ⟨e1, e2⟩ a h => ?_))
 subst e1
 have hp := hp.below e2
 refine wl (stp_on h rfl rfl rfl hb1 (vl h (not_ h rfl) fun a h => ?_))
 refine wvl h (pckF h rfl hb1 rfl) fun a h => ?_
 refine wmv h rfl fun a h => ?_
 refine split (t := 33) h rfl (fun hb2 => ?_) (fun hb2 => ?_)
 ·exact absurd hb2 (by rw [hb]; decide)
 refine wl (stp_on h rfl rfl rfl hb2 (vl h (mov h rfl) fun a h => ?_))
 refine wl (stp_on h rfl rfl rfl hb2 (vl h (mov h rfl) fun a h => ?_))
 refine wl (stp_on h rfl rfl rfl hb2 (cal h rfl en23 (Ball_R _ _ _ _ (hR.keep (by decide) hp cl0)) fun u w2 ⟨e1, e2⟩ a h => ?_))
 subst e1
 have hp := hp.below e2
 refine wl (stp_on h rfl rfl rfl hb2 (vl h (not_ h rfl) fun a h => ?_))
 refine wvl h (pckF h rfl hb2 rfl) fun a h => ?_
 refine wmv h rfl fun a h => ?_
 refine split (t := 39) h rfl (fun hb3 => ?_) (fun hb3 => ?_)
 ·exact absurd hb3 (by rw [h1]; decide)
 refine wl (stp_on h rfl rfl rfl hb3 (vl h (mov h rfl) fun a h => ?_))
 refine wl (stp_on h rfl rfl rfl hb3 (vl h (mov h rfl) fun a h => ?_))
 refine wl (stp_on h rfl rfl rfl hb3 (cal h rfl en23 (Ball_R _ _ _ _ (hR.keep (by decide) hp cl0)) fun u w3 ⟨e1, e2⟩ a h => ?_))
 subst e1
 have hp := hp.below e2
 refine wl (stp_on h rfl rfl rfl hb3 (vl h (not_ h rfl) fun a h => ?_))
 refine wvl h (pckF h rfl hb3 rfl) fun a h => ?_
 refine wmv h rfl fun a h => ?_
 refine split (t := 45) h rfl (fun hb4 => ?_) (fun hb4 => ?_)
 ·exact absurd hb4 (by rw [h2]; decide)
 refine wl (stp_on h rfl rfl rfl hb4 (vl h (mov h rfl) fun a h => ?_))
 refine wl (stp_on h rfl rfl rfl hb4 (vl h (mov h rfl) fun a h => ?_))
 refine wl (stp_on h rfl rfl rfl hb4 (cal h rfl en23 (Ball_R _ _ _ _ (hR.keep (by decide) hp cl0)) fun u w4 ⟨e1, e2⟩ a h => ?_))
 subst e1
 have hp := hp.below e2
 refine wl (stp_on h rfl rfl rfl hb4 (vl h (not_ h rfl) fun a h => ?_))
 refine wvl h (pckF h rfl hb4 rfl) fun a h => ?_
 refine wmv h rfl fun a h => ?_
 refine split (t := 51) h rfl (fun hb5 => ?_) (fun hb5 => ?_)
 ·exact absurd hb5 (by rw [h3]; decide)
 refine wl (stp_on h rfl rfl rfl hb5 (vl h (mov h rfl) fun a h => ?_))
 refine wl (stp_on h rfl rfl rfl hb5 (vl h (mov h rfl) fun a h => ?_))
 refine wl (stp_on h rfl rfl rfl hb5 (vl h (eqi h rfl rfl) fun a h => ?_))
 refine wvl h (pckF h rfl hb5 rfl) fun a h => ?_
 refine wn ?_
 refine cnd1 h rfl (fun hb6 => ?_) (fun hb6 => ?_)
 ·exact absurd hb6 (by simpa using hpr)
 refine skp ?_
 refine rg ?_
 refine wm3 h rfl rfl rfl rfl rfl rfl fun a h => ?_
 refine wl (cal h rfl en18 (Shades_w (hR.keep (by decide) hp cl0) hpq hy hz hw) fun u w5 ⟨e1, e2⟩ a h => ?_)
 subst e1
 have hp := hp.below e2
 refine wmv h rfl fun a h => ?_
 refine wvl h (ext h rfl rfl) fun a h => ?_
 refine wvl h (ext h rfl rfl) fun a h => ?_
 refine ws2 h rfl rfl rfl rfl fun a h => ?_
 refine rg ?_
 refine wm3 h rfl rfl rfl rfl rfl rfl fun a h => ?_
 refine wl (cal h rfl en18 (Shades_v (hR.keep (by decide) hp cl0) hqp hz hy) fun u w6 ⟨e1, e2⟩ a h => ?_)
 subst e1
 have hp := hp.below e2
 refine wmv h rfl fun a h => ?_
 refine wvl h (ext h rfl rfl) fun a h => ?_
 refine wvl h (ext h rfl rfl) fun a h => ?_
 refine ws2 h rfl rfl rfl rfl fun a h => ?_
 refine rg ?_
 refine wmv h rfl fun a h => ?_
 refine wl (cal h rfl en25 (turned_L _ _ _ _ (hR.keep (by decide) hp cl0) hb) fun u w7 ⟨⟨s20, e1, hf⟩, e2⟩ a h => ?_)
 subst e1
 have hp := hp.got (hp.below e2) (by decide) hf
 refine wm2 h rfl rfl rfl rfl fun a h => ?_
 refine wl (cal h rfl en18 (Shades_tw false (hp.rdF (i := 0) rfl) hpq hy hz hw) fun u w8 ⟨e1, e2⟩ a h => ?_)
 subst e1
 have hp := hp.below e2
 refine wmv h rfl fun a h => ?_
 refine wvl h (ext h rfl rfl) fun a h => ?_
 refine wvl h (ext h rfl rfl) fun a h => ?_
 refine ws2 h rfl rfl rfl rfl fun a h => ?_
 refine rg ?_
 refine wmv h rfl fun a h => ?_
 refine wl (cal h rfl en25 (turned_L _ _ _ _ (hR.keep (by decide) hp cl0) hb) fun u w9 ⟨⟨s21, e1, hf⟩, e2⟩ a h => ?_)
 subst e1
 have hp := hp.got (hp.below e2) (by decide) hf
 refine wm2 h rfl rfl rfl rfl fun a h => ?_
 refine wl (cal h rfl en18 (Shades_tw true (hp.rdF (i := 1) rfl) hpq hy hz hw) fun u w10 ⟨e1, e2⟩ a h => ?_)
 subst e1
 have hp := hp.below e2
 refine wmv h rfl fun a h => ?_
 refine wvl h (ext h rfl rfl) fun a h => ?_
 refine wvl h (ext h rfl rfl) fun a h => ?_
 refine ws2 h rfl rfl rfl rfl fun a h => ?_
 refine wp_seq ?_
 refine rg ?_
 refine wmv h rfl fun a h => ?_
 refine wvl h (nei h rfl rfl) fun a h => ?_
 refine wmv h rfl fun a h => ?_
 refine split (t := 89) h rfl (fun hb7 => ?_) (fun hb7 => ?_)
 ·exact absurd hb7 (by decide)
 refine wl (stp_on h rfl rfl rfl hb7 (vl h (mov h rfl) fun a h => ?_))
 refine wl (stp_on h rfl rfl rfl hb7 (vl h (nei h rfl rfl) fun a h => ?_))
 refine wvl h (pckF h rfl hb7 rfl) fun a h => ?_
 refine wmv h rfl fun a h => ?_
 refine split (t := 93) h rfl (fun hb8 => ?_) (fun hb8 => ?_)
 ·exact absurd hb8 (by decide)
 refine wl (stp_on h rfl rfl rfl hb8 (vl h (mov h rfl) fun a h => ?_))
 refine wl (stp_on h rfl rfl rfl hb8 (vl h (nei h rfl rfl) fun a h => ?_))
 refine wvl h (pckF h rfl hb8 rfl) fun a h => ?_
 refine wmv h rfl fun a h => ?_
 refine split (t := 97) h rfl (fun hb9 => ?_) (fun hb9 => ?_)
 ·exact absurd hb9 (by decide)
 refine wl (stp_on h rfl rfl rfl hb9 (vl h (mov h rfl) fun a h => ?_))
 refine wl (stp_on h rfl rfl rfl hb9 (vl h (nei h rfl rfl) fun a h => ?_))
 refine wvl h (pckF h rfl hb9 rfl) fun a h => ?_
 refine wmv h rfl fun a h => ?_
 refine split (t := 101) h rfl (fun hb10 => ?_) (fun hb10 => ?_)
 ·exact absurd hb10 (by decide)
 refine wl (stp_on h rfl rfl rfl hb10 (vl h (mov h rfl) fun a h => ?_))
 refine wl (stp_on h rfl rfl rfl hb10 (vl h (mov h rfl) fun a h => ?_))
 refine wl (stp_on h rfl rfl rfl hb10 (vl h (nei h rfl rfl) fun a h => ?_))
 refine wvl h (pckF h rfl hb10 rfl) fun a h => ?_
 refine wmv h rfl fun a h => ?_
 refine split (t := 106) h rfl (fun hb11 => ?_) (fun hb11 => ?_)
 ·exact absurd hb11 (by decide)
 refine wl (stp_on h rfl rfl rfl hb11 (vl h (mov h rfl) fun a h => ?_))
 refine wl (stp_on h rfl rfl rfl hb11 (vl h (mov h rfl) fun a h => ?_))
 refine wl (stp_on h rfl rfl rfl hb11 (vl h (nei h rfl rfl) fun a h => ?_))
 refine wvl h (pckF h rfl hb11 rfl) fun a h => ?_
 refine wmv h rfl fun a h => ?_
 refine split (t := 111) h rfl (fun hb12 => ?_) (fun hb12 => ?_)
 ·exact absurd hb12 (by decide)
 refine wl (stp_on h rfl rfl rfl hb12 (vl h (mov h rfl) fun a h => ?_))
 refine wl (stp_on h rfl rfl rfl hb12 (vl h (nei h rfl rfl) fun a h => ?_))
 refine wl (stp_on h rfl rfl rfl hb12 (vl h (mov h rfl) fun a h => ?_))
 refine split (t := 114) h rfl (fun hb13 => ?_) (fun hb13 => ?_)
 ·exact absurd hb13 (by decide)
 refine wl (stp_off h rfl rfl rfl rfl rfl hb13 fun a h => ?_)
 refine wl (stp_off h rfl rfl rfl rfl rfl hb13 fun a h => ?_)
 refine wl (stp_on h rfl rfl rfl hb12 (vl h (pckF h rfl hb13 rfl) fun a h => ?_))
 refine wvl h (pckF h rfl hb12 rfl) fun a h => ?_
 refine wmv h rfl fun a h => ?_
 refine wl (stp_on h rfl rfl rfl rfl (vl h (mov h rfl) fun a h => ?_))
 refine wl (stp_on h rfl rfl rfl rfl (vl h (lss h rfl rfl) fun a h => ?_))
 refine wvl h (pckF h rfl rfl rfl) fun a h => ?_
 refine wmv h rfl fun a h => ?_
 refine split (t := 123) h rfl (fun hb14 => ?_) (fun hb14 => ?_)
 ·exact absurd hb14 (by decide)
 refine wl (stp_on h rfl rfl rfl hb14 (vl h (mov h rfl) fun a h => ?_))
 refine wl (stp_on h rfl rfl rfl hb14 (vl h (gtr h rfl rfl) fun a h => ?_))
 refine wvl h (pckF h rfl hb14 rfl) fun a h => ?_
 refine wn ?_
 refine cnd1 h rfl (fun hb15 => ?_) (fun hb15 => ?_)
 ·exact absurd hb15 (by decide)
 refine skp ?_
 refine wp_seq ?_
 refine rdh (n := 14) hp mixed rfl ?_
 have hp := hp.drew
 refine tkm 0 h rfl hp rfl fun a h => ?_
 refine tkq 1 h rfl hp (fun W _ => nei h rfl rfl) fun a h => ?_
 refine tkm 2 h rfl hp rfl fun a h => ?_
 refine split (t := 129) h rfl (fun hb16 => ?_) (fun hb16 => ?_)
 ·exact absurd hb16 (by decide)
 refine tkG 3 h rfl hp rfl rfl rfl hb16 fun a h => ?_
 refine tkG 4 h rfl hp rfl rfl rfl hb16 fun a h => ?_
 refine tkG 5 h rfl hp rfl rfl rfl hb16 fun a h => ?_
 refine tkG 6 h rfl hp rfl rfl rfl hb16 fun a h => ?_
 refine tkG 7 h rfl hp rfl rfl rfl hb16 fun a h => ?_
 refine tkG 8 h rfl hp rfl rfl rfl hb16 fun a h => ?_
 refine tkG 9 h rfl hp rfl rfl rfl hb16 fun a h => ?_
 refine tkG 10 h rfl hp rfl rfl rfl hb16 fun a h => ?_
 refine tkG 11 h rfl hp rfl rfl rfl hb16 fun a h => ?_
 refine tkG 12 h rfl hp rfl rfl rfl hb16 fun a h => ?_
 refine tkq 13 h rfl hp (fun W _ => pckF h rfl hb16 rfl) fun a h => ?_
 refine dn (by kernel_rfl) ?_
 refine cnd1 h rfl (fun e => nomatch e) (fun _ => ?_)
 refine skp ?_
 refine wp_seq ?_
 refine rg ?_
 refine wmv h rfl fun a h => ?_
 refine wvl h (geq h rfl rfl) fun a h => ?_
 refine wmv h rfl fun a h => ?_
 refine split (t := 143) h rfl (fun hb17 => ?_) (fun hb17 => ?_)
 ·have ha1 := hb17
  refine wl (stp_on h rfl rfl rfl hb17 (vl h (mov h rfl) fun a h => ?_))
  refine wl (stp_on h rfl rfl rfl hb17 (vl h (leq h rfl rfl) fun a h => ?_))
  refine wvl h (pckT h rfl hb17 rfl) fun a h => ?_
  refine wmv h rfl fun a h => ?_
  refine split (t := 147) h rfl (fun hb18 => ?_) (fun hb18 => ?_)
  ·have ha2 := hb18
   refine wl (stp_on h rfl rfl rfl hb18 (vl h (mov h rfl) fun a h => ?_))
   refine wl (stp_on h rfl rfl rfl hb18 (vl h (geq h rfl rfl) fun a h => ?_))
   refine wvl h (pckT h rfl hb18 rfl) fun a h => ?_
   refine wmv h rfl fun a h => ?_
   refine split (t := 151) h rfl (fun hb19 => ?_) (fun hb19 => ?_)
   ·have ha3 := hb19
    refine wl (stp_on h rfl rfl rfl hb19 (vl h (mov h rfl) fun a h => ?_))
    refine wl (stp_on h rfl rfl rfl hb19 (vl h (leq h rfl rfl) fun a h => ?_))
    refine wvl h (pckT h rfl hb19 rfl) fun a h => ?_
    refine wmv h rfl fun a h => ?_
    refine split (t := 155) h rfl (fun hb20 => ?_) (fun hb20 => ?_)
    ·have ha4 := hb20
     refine wl (stp_on h rfl rfl rfl hb20 (vl h (mov h rfl) fun a h => ?_))
     refine wl (stp_on h rfl rfl rfl hb20 (vl h (nei h rfl rfl) fun a h => ?_))
     refine wl (stp_on h rfl rfl rfl hb20 (vl h (mov h rfl) fun a h => ?_))
     refine split (t := 158) h rfl (fun hb21 => ?_) (fun hb21 => ?_)
     ·have ha5 := hb21
      have hpx : -1000 ≤ px ∧ px ≤ 1000 := ⟨of_decide_eq_true ha1, of_decide_eq_true ha2⟩
      have hpy : -1000 ≤ py ∧ py ≤ 1000 := ⟨of_decide_eq_true ha3, of_decide_eq_true ha4⟩
      have hQ : 0 < px * px + py * py := by have q1 := Geo.sq_nonneg px; have q2 := Geo.sq_nonneg py; have q3 := sq_pos (x := px) (by have hq8 := ha5; simpa using hq8); omega
      refine wl (stp_off h rfl rfl rfl rfl rfl hb21 fun a h => ?_)
      refine wl (stp_off h rfl rfl rfl rfl rfl hb21 fun a h => ?_)
      refine wl (stp_on h rfl rfl rfl hb20 (vl h (pckT h rfl hb21 rfl) fun a h => ?_))
      refine wvl h (pckT h rfl hb20 rfl) fun a h => ?_
      refine wn ?_
      refine cnd1 h rfl (fun _ => ?_) (fun e => nomatch e)
      refine wp_seq ?_
      refine rg ?_
      refine wmv h rfl fun a h => ?_
      refine wvl h (eqi h rfl rfl) fun a h => ?_
      refine wmv h rfl fun a h => ?_
      refine split (t := 165) h rfl (fun hb22 => ?_) (fun hb22 => ?_)
      ·exact absurd hb22 (by decide)
      refine wl (stp_off h rfl rfl rfl rfl rfl hb22 fun a h => ?_)
      refine wl (stp_off h rfl rfl rfl rfl rfl hb22 fun a h => ?_)
      refine wl (stp_off h rfl rfl rfl rfl rfl hb22 fun a h => ?_)
      refine wl (stp_off h rfl rfl rfl rfl rfl hb22 fun a h => ?_)
      refine wl (stp_off h rfl rfl rfl rfl rfl hb22 fun a h => ?_)
      refine wl (stp_off h rfl rfl rfl rfl rfl hb22 fun a h => ?_)
      refine wl (stp_off h rfl rfl rfl rfl rfl hb22 fun a h => ?_)
      refine wvl h (pckF h rfl hb22 rfl) fun a h => ?_
      refine wmv h rfl fun a h => ?_
      refine wl (stp_off h rfl rfl rfl rfl rfl rfl fun a h => ?_)
      refine wl (stp_off h rfl rfl rfl rfl rfl rfl fun a h => ?_)
      refine wl (stp_off h rfl rfl rfl rfl rfl rfl fun a h => ?_)
      refine wl (stp_off h rfl rfl rfl rfl rfl rfl fun a h => ?_)
      refine wl (stp_off h rfl rfl rfl rfl rfl rfl fun a h => ?_)
      refine wl (stp_off h rfl rfl rfl rfl rfl rfl fun a h => ?_)
      refine wl (stp_off h rfl rfl rfl rfl rfl rfl fun a h => ?_)
      refine wl (stp_off h rfl rfl rfl rfl rfl rfl fun a h => ?_)
      refine wvl h (pckF h rfl rfl rfl) fun a h => ?_
      refine wn ?_
      refine cnd1 h rfl (fun e => nomatch e) (fun _ => ?_)
      refine skp ?_
      refine rdh (n := 31) hp mixed rfl ?_
      have hp := hp.drew
      refine tkm 0 h rfl hp rfl fun a h => ?_
      refine tkq 1 h rfl hp (fun W _ => eqi h rfl rfl) fun a h => ?_
      refine tkm 2 h rfl hp rfl fun a h => ?_
      refine split (t := 186) h rfl (fun hb23 => ?_) (fun hb23 => ?_)
      ·refine tk_on 3 h rfl (by kernel_rfl) (fun _ _ _ q => q) hp rfl rfl rfl rfl rfl hb23 (fun W _ => mov h rfl) fun a h => ?_
       refine tk_on 4 h rfl (by kernel_rfl) (fun _ _ _ q => q) hp rfl rfl rfl rfl rfl hb23 (fun W _ => mov h rfl) fun a h => ?_
       refine tk_on 5 h rfl (by kernel_rfl) (fun _ _ _ q => q) hp rfl rfl rfl rfl rfl hb23 (fun W hp => iadR (p.toNat) h rfl rfl Tryz.underlying37 sz51 (hR.keep (by decide) hp cl0) (by omega) (by omega)) fun a h => ?_
       refine tk_on 6 h rfl (by kernel_rfl) (fun _ _ _ q => q) hp rfl rfl rfl rfl rfl hb23 (fun W hp => ldE h (hR.keep (by decide) hp cl0) hy rfl ag51 sz51) fun a h => ?_
       refine tk_on 7 h rfl (by kernel_rfl) (fun _ _ _ q => q) hp rfl rfl rfl rfl rfl hb23 (fun W _ => mov h rfl) fun a h => ?_
       refine tk_on 8 h rfl (by kernel_rfl) (fun _ _ _ q => q) hp rfl rfl rfl rfl rfl hb23 (fun W _ => mov h rfl) fun a h => ?_
       refine tk_on 9 h rfl (by kernel_rfl) (fun _ _ _ q => q) hp rfl rfl rfl rfl rfl hb23 (fun W hp => iadR (r.toNat) h rfl rfl Tryz.underlying37 sz51 (hR.keep (by decide) hp cl0) (by omega) (by omega)) fun a h => ?_
       refine tk_on 10 h rfl (by kernel_rfl) (fun _ _ _ q => q) hp rfl rfl rfl rfl rfl hb23 (fun W hp => ldE h (hR.keep (by decide) hp cl0) hz rfl ag51 sz51) fun a h => ?_
       refine one 11 (by kernel_rfl) rfl (stp_on h rfl rfl rfl hb23 (cal h rfl en26 (Before_R y z _ hyx hyy hyr hzx hzy hzr) fun u w11 ⟨e1, e2⟩ a h => ⟨hp.below e2, ?_⟩))
       subst e1
       have hp := hp.below e2
       refine tkq 12 h rfl hp (fun W _ => pckT h rfl hb23 rfl) fun a h => ?_
       refine tkm 13 h rfl hp rfl fun a h => ?_
       refine split (t := 197) h rfl (fun hb24 => ?_) (fun hb24 => ?_)
       ·have hlt2 : y.pow < z.pow := of_decide_eq_true hb24
        refine tk_on 14 h rfl (by kernel_rfl) (fun _ _ _ q => q) hp rfl rfl rfl rfl rfl hb24 (fun W _ => mov h rfl) fun a h => ?_
        refine tk_on 15 h rfl (by kernel_rfl) (fun _ _ _ q => q) hp rfl rfl rfl rfl rfl hb24 (fun W _ => mov h rfl) fun a h => ?_
        refine tk_on 16 h rfl (by kernel_rfl) (fun _ _ _ q => q) hp rfl rfl rfl rfl rfl hb24 (fun W hp => iadR (p.toNat) h rfl rfl Tryz.underlying37 sz51 (hR.keep (by decide) hp cl0) (by omega) (by omega)) fun a h => ?_
        refine tk_on 17 h rfl (by kernel_rfl) (fun _ _ _ q => q) hp rfl rfl rfl rfl rfl hb24 (fun W hp => ldE h (hR.keep (by decide) hp cl0) hy rfl ag51 sz51) fun a h => ?_
        refine tk_on 18 h rfl (by kernel_rfl) (fun _ _ _ q => q) hp rfl rfl rfl rfl rfl hb24 (fun W _ => mov h rfl) fun a h => ?_
        refine tk_on 19 h rfl (by kernel_rfl) (fun _ _ _ q => q) hp rfl rfl rfl rfl rfl hb24 (fun W _ => mov h rfl) fun a h => ?_
        refine one 20 (by kernel_rfl) rfl (stp_on h rfl rfl rfl hb24 (cal h rfl en27 (meets_L y px py true _ hyB hpx hpy) fun u w12 ⟨e1, e2⟩ a h => ⟨hp.below e2, ?_⟩))
        subst e1
        have hp := hp.below e2
        refine tkq 21 h rfl hp (fun W _ => pckT h rfl hb24 rfl) fun a h => ?_
        refine tkm 22 h rfl hp rfl fun a h => ?_
        refine split (t := 206) h rfl (fun hb25 => ?_) (fun hb25 => ?_)
        ·have hM1 := hb25
         refine tk_on 23 h rfl (by kernel_rfl) (fun _ _ _ q => q) hp rfl rfl rfl rfl rfl hb25 (fun W _ => mov h rfl) fun a h => ?_
         refine tk_on 24 h rfl (by kernel_rfl) (fun _ _ _ q => q) hp rfl rfl rfl rfl rfl hb25 (fun W _ => mov h rfl) fun a h => ?_
         refine tk_on 25 h rfl (by kernel_rfl) (fun _ _ _ q => q) hp rfl rfl rfl rfl rfl hb25 (fun W hp => iadR (r.toNat) h rfl rfl Tryz.underlying37 sz51 (hR.keep (by decide) hp cl0) (by omega) (by omega)) fun a h => ?_
         refine tk_on 26 h rfl (by kernel_rfl) (fun _ _ _ q => q) hp rfl rfl rfl rfl rfl hb25 (fun W hp => ldE h (hR.keep (by decide) hp cl0) hz rfl ag51 sz51) fun a h => ?_
         refine tk_on 27 h rfl (by kernel_rfl) (fun _ _ _ q => q) hp rfl rfl rfl rfl rfl hb25 (fun W _ => mov h rfl) fun a h => ?_
         refine tk_on 28 h rfl (by kernel_rfl) (fun _ _ _ q => q) hp rfl rfl rfl rfl rfl hb25 (fun W _ => mov h rfl) fun a h => ?_
         refine one 29 (by kernel_rfl) rfl (stp_on h rfl rfl rfl hb25 (cal h rfl en27 (meets_L z px py true _ hzB hpx hpy) fun u w13 ⟨e1, e2⟩ a h => ⟨hp.below e2, ?_⟩))
         subst e1
         have hp := hp.below e2
         refine tkq 30 h rfl hp (fun W _ => pckT h rfl hb25 rfl) fun a h => ?_
         refine dn (by kernel_rfl) ?_
         refine cnd1 h rfl (fun hb26 => ?_) (fun hb26 => ?_)
         ·exact absurd hb26 (by first | decide | exact fun q => meets_lit hyB hzB hw hlt2 hQ hM1 q)
         refine skp ?_
         refine wp_seq ?_
         refine rg ?_
         refine wm2 h rfl rfl rfl rfl fun a h => ?_
         refine wvl h (eqi h rfl rfl) fun a h => ?_
         refine wmv h rfl fun a h => ?_
         refine split (t := 218) h rfl (fun hb27 => ?_) (fun hb27 => ?_)
         ·refine wl (stp_off h rfl rfl rfl rfl rfl hb27 fun a h => ?_)
          refine wl (stp_off h rfl rfl rfl rfl rfl hb27 fun a h => ?_)
          refine wl (stp_off h rfl rfl rfl rfl rfl hb27 fun a h => ?_)
          refine wvl h (pckT h rfl hb27 rfl) fun a h => ?_
          refine wmv h rfl fun a h => ?_
          refine wl (stp_off h rfl rfl rfl rfl rfl rfl fun a h => ?_)
          refine wl (stp_off h rfl rfl rfl rfl rfl rfl fun a h => ?_)
          refine wvl h (pckT h rfl rfl rfl) fun a h => ?_
          refine wn ?_
          refine cnd1 h rfl (fun _ => ?_) (fun e => nomatch e)
          refine rg ?_
          refine wl (cal h rfl en10 (known_L _ (hGl.keep hp)) fun u w14 ⟨e1, e2⟩ a h => ?_)
          subst e1
          have hp := hp.below e2
          refine wsn h rfl fun a h => ?_
          refine wp_ret ?_
          try simp only [xqs]
          refine rt_1 h rfl (rvT h rfl) ?_
          exact ⟨_, rfl, rfl, hp.bel⟩
         have hopd := hb27
         refine wl (stp_on h rfl rfl rfl hb27 (vl h (mov h rfl) fun a h => ?_))
         refine wl (stp_on h rfl rfl rfl hb27 (vl h (mov h rfl) fun a h => ?_))
         refine wl (stp_on h rfl rfl rfl hb27 (vl h (eqi h rfl rfl) fun a h => ?_))
         refine wvl h (pckF h rfl hb27 rfl) fun a h => ?_
         refine wmv h rfl fun a h => ?_
         refine split (t := 223) h rfl (fun hb28 => ?_) (fun hb28 => ?_)
         ·refine wl (stp_off h rfl rfl rfl rfl rfl hb28 fun a h => ?_)
          refine wl (stp_off h rfl rfl rfl rfl rfl hb28 fun a h => ?_)
          refine wvl h (pckT h rfl hb28 rfl) fun a h => ?_
          refine wn ?_
          refine cnd1 h rfl (fun _ => ?_) (fun e => nomatch e)
          refine rg ?_
          refine wl (cal h rfl en10 (known_L _ (hGl.keep hp)) fun u w15 ⟨e1, e2⟩ a h => ?_)
          subst e1
          have hp := hp.below e2
          refine wsn h rfl fun a h => ?_
          refine wp_ret ?_
          try simp only [xqs]
          refine rt_1 h rfl (rvT h rfl) ?_
          exact ⟨_, rfl, rfl, hp.bel⟩
         have hor := hb28
         refine wl (stp_on h rfl rfl rfl hb28 (vl h (mov h rfl) fun a h => ?_))
         refine wl (stp_on h rfl rfl rfl hb28 (vl h (nei h rfl rfl) fun a h => ?_))
         refine wvl h (pckF h rfl hb28 rfl) fun a h => ?_
         refine wn ?_
         refine cnd1 h rfl (fun hb29 => ?_) (fun hb29 => ?_)
         ·refine rg ?_
          refine wl (cal h rfl en10 (known_L _ (hGl.keep hp)) fun u w16 ⟨e1, e2⟩ a h => ?_)
          subst e1
          have hp := hp.below e2
          refine wsn h rfl fun a h => ?_
          refine wp_ret ?_
          try simp only [xqs]
          refine rt_1 h rfl (rvT h rfl) ?_
          exact ⟨_, rfl, rfl, hp.bel⟩
         exact absurd hb29 (by decide)
        refine tkG 23 h rfl hp rfl rfl rfl hb25 fun a h => ?_
        refine tkG 24 h rfl hp rfl rfl rfl hb25 fun a h => ?_
        refine tkG 25 h rfl hp rfl rfl rfl hb25 fun a h => ?_
        refine tkG 26 h rfl hp rfl rfl rfl hb25 fun a h => ?_
        refine tkG 27 h rfl hp rfl rfl rfl hb25 fun a h => ?_
        refine tkG 28 h rfl hp rfl rfl rfl hb25 fun a h => ?_
        refine tkG 29 h rfl hp rfl rfl rfl hb25 fun a h => ?_
        refine tkq 30 h rfl hp (fun W _ => pckF h rfl hb25 rfl) fun a h => ?_
        refine dn (by kernel_rfl) ?_
        refine cnd1 h rfl (fun e => nomatch e) (fun _ => ?_)
        refine skp ?_
        refine wp_seq ?_
        refine rg ?_
        refine wm2 h rfl rfl rfl rfl fun a h => ?_
        refine wvl h (eqi h rfl rfl) fun a h => ?_
        refine wmv h rfl fun a h => ?_
        refine split (t := 218) h rfl (fun hb30 => ?_) (fun hb30 => ?_)
        ·refine wl (stp_off h rfl rfl rfl rfl rfl hb30 fun a h => ?_)
         refine wl (stp_off h rfl rfl rfl rfl rfl hb30 fun a h => ?_)
         refine wl (stp_off h rfl rfl rfl rfl rfl hb30 fun a h => ?_)
         refine wvl h (pckT h rfl hb30 rfl) fun a h => ?_
         refine wmv h rfl fun a h => ?_
         refine wl (stp_off h rfl rfl rfl rfl rfl rfl fun a h => ?_)
         refine wl (stp_off h rfl rfl rfl rfl rfl rfl fun a h => ?_)
         refine wvl h (pckT h rfl rfl rfl) fun a h => ?_
         refine wn ?_
         refine cnd1 h rfl (fun _ => ?_) (fun e => nomatch e)
         refine rg ?_
         refine wl (cal h rfl en10 (known_L _ (hGl.keep hp)) fun u w17 ⟨e1, e2⟩ a h => ?_)
         subst e1
         have hp := hp.below e2
         refine wsn h rfl fun a h => ?_
         refine wp_ret ?_
         try simp only [xqs]
         refine rt_1 h rfl (rvT h rfl) ?_
         exact ⟨_, rfl, rfl, hp.bel⟩
        have hopd := hb30
        refine wl (stp_on h rfl rfl rfl hb30 (vl h (mov h rfl) fun a h => ?_))
        refine wl (stp_on h rfl rfl rfl hb30 (vl h (mov h rfl) fun a h => ?_))
        refine wl (stp_on h rfl rfl rfl hb30 (vl h (eqi h rfl rfl) fun a h => ?_))
        refine wvl h (pckF h rfl hb30 rfl) fun a h => ?_
        refine wmv h rfl fun a h => ?_
        refine split (t := 223) h rfl (fun hb31 => ?_) (fun hb31 => ?_)
        ·refine wl (stp_off h rfl rfl rfl rfl rfl hb31 fun a h => ?_)
         refine wl (stp_off h rfl rfl rfl rfl rfl hb31 fun a h => ?_)
         refine wvl h (pckT h rfl hb31 rfl) fun a h => ?_
         refine wn ?_
         refine cnd1 h rfl (fun _ => ?_) (fun e => nomatch e)
         refine rg ?_
         refine wl (cal h rfl en10 (known_L _ (hGl.keep hp)) fun u w18 ⟨e1, e2⟩ a h => ?_)
         subst e1
         have hp := hp.below e2
         refine wsn h rfl fun a h => ?_
         refine wp_ret ?_
         try simp only [xqs]
         refine rt_1 h rfl (rvT h rfl) ?_
         exact ⟨_, rfl, rfl, hp.bel⟩
        have hor := hb31
        refine wl (stp_on h rfl rfl rfl hb31 (vl h (mov h rfl) fun a h => ?_))
        refine wl (stp_on h rfl rfl rfl hb31 (vl h (nei h rfl rfl) fun a h => ?_))
        refine wvl h (pckF h rfl hb31 rfl) fun a h => ?_
        refine wn ?_
        refine cnd1 h rfl (fun hb32 => ?_) (fun hb32 => ?_)
        ·refine rg ?_
         refine wl (cal h rfl en10 (known_L _ (hGl.keep hp)) fun u w19 ⟨e1, e2⟩ a h => ?_)
         subst e1
         have hp := hp.below e2
         refine wsn h rfl fun a h => ?_
         refine wp_ret ?_
         try simp only [xqs]
         refine rt_1 h rfl (rvT h rfl) ?_
         exact ⟨_, rfl, rfl, hp.bel⟩
        exact absurd hb32 (by decide)
       refine tkG 14 h rfl hp rfl rfl rfl hb24 fun a h => ?_
       refine tkG 15 h rfl hp rfl rfl rfl hb24 fun a h => ?_
       refine tkG 16 h rfl hp rfl rfl rfl hb24 fun a h => ?_
       refine tkG 17 h rfl hp rfl rfl rfl hb24 fun a h => ?_
       refine tkG 18 h rfl hp rfl rfl rfl hb24 fun a h => ?_
       refine tkG 19 h rfl hp rfl rfl rfl hb24 fun a h => ?_
       refine tkG 20 h rfl hp rfl rfl rfl hb24 fun a h => ?_
       refine tkq 21 h rfl hp (fun W _ => pckF h rfl hb24 rfl) fun a h => ?_
       refine tkm 22 h rfl hp rfl fun a h => ?_
       refine tkG 23 h rfl hp rfl rfl rfl rfl fun a h => ?_
       refine tkG 24 h rfl hp rfl rfl rfl rfl fun a h => ?_
       refine tkG 25 h rfl hp rfl rfl rfl rfl fun a h => ?_
       refine tkG 26 h rfl hp rfl rfl rfl rfl fun a h => ?_
       refine tkG 27 h rfl hp rfl rfl rfl rfl fun a h => ?_
       refine tkG 28 h rfl hp rfl rfl rfl rfl fun a h => ?_
       refine tkG 29 h rfl hp rfl rfl rfl rfl fun a h => ?_
       refine tkq 30 h rfl hp (fun W _ => pckF h rfl rfl rfl) fun a h => ?_
       refine dn (by kernel_rfl) ?_
       refine cnd1 h rfl (fun e => nomatch e) (fun _ => ?_)
       refine skp ?_
       refine wp_seq ?_
       refine rg ?_
       refine wm2 h rfl rfl rfl rfl fun a h => ?_
       refine wvl h (eqi h rfl rfl) fun a h => ?_
       refine wmv h rfl fun a h => ?_
       refine split (t := 218) h rfl (fun hb33 => ?_) (fun hb33 => ?_)
       ·refine wl (stp_off h rfl rfl rfl rfl rfl hb33 fun a h => ?_)
        refine wl (stp_off h rfl rfl rfl rfl rfl hb33 fun a h => ?_)
        refine wl (stp_off h rfl rfl rfl rfl rfl hb33 fun a h => ?_)
        refine wvl h (pckT h rfl hb33 rfl) fun a h => ?_
        refine wmv h rfl fun a h => ?_
        refine wl (stp_off h rfl rfl rfl rfl rfl rfl fun a h => ?_)
        refine wl (stp_off h rfl rfl rfl rfl rfl rfl fun a h => ?_)
        refine wvl h (pckT h rfl rfl rfl) fun a h => ?_
        refine wn ?_
        refine cnd1 h rfl (fun _ => ?_) (fun e => nomatch e)
        refine rg ?_
        refine wl (cal h rfl en10 (known_L _ (hGl.keep hp)) fun u w20 ⟨e1, e2⟩ a h => ?_)
        subst e1
        have hp := hp.below e2
        refine wsn h rfl fun a h => ?_
        refine wp_ret ?_
        try simp only [xqs]
        refine rt_1 h rfl (rvT h rfl) ?_
        exact ⟨_, rfl, rfl, hp.bel⟩
       have hopd := hb33
       refine wl (stp_on h rfl rfl rfl hb33 (vl h (mov h rfl) fun a h => ?_))
       refine wl (stp_on h rfl rfl rfl hb33 (vl h (mov h rfl) fun a h => ?_))
       refine wl (stp_on h rfl rfl rfl hb33 (vl h (eqi h rfl rfl) fun a h => ?_))
       refine wvl h (pckF h rfl hb33 rfl) fun a h => ?_
       refine wmv h rfl fun a h => ?_
       refine split (t := 223) h rfl (fun hb34 => ?_) (fun hb34 => ?_)
       ·refine wl (stp_off h rfl rfl rfl rfl rfl hb34 fun a h => ?_)
        refine wl (stp_off h rfl rfl rfl rfl rfl hb34 fun a h => ?_)
        refine wvl h (pckT h rfl hb34 rfl) fun a h => ?_
        refine wn ?_
        refine cnd1 h rfl (fun _ => ?_) (fun e => nomatch e)
        refine rg ?_
        refine wl (cal h rfl en10 (known_L _ (hGl.keep hp)) fun u w21 ⟨e1, e2⟩ a h => ?_)
        subst e1
        have hp := hp.below e2
        refine wsn h rfl fun a h => ?_
        refine wp_ret ?_
        try simp only [xqs]
        refine rt_1 h rfl (rvT h rfl) ?_
        exact ⟨_, rfl, rfl, hp.bel⟩
       have hor := hb34
       refine wl (stp_on h rfl rfl rfl hb34 (vl h (mov h rfl) fun a h => ?_))
       refine wl (stp_on h rfl rfl rfl hb34 (vl h (nei h rfl rfl) fun a h => ?_))
       refine wvl h (pckF h rfl hb34 rfl) fun a h => ?_
       refine wn ?_
       refine cnd1 h rfl (fun hb35 => ?_) (fun hb35 => ?_)
       ·refine rg ?_
        refine wl (cal h rfl en10 (known_L _ (hGl.keep hp)) fun u w22 ⟨e1, e2⟩ a h => ?_)
        subst e1
        have hp := hp.below e2
        refine wsn h rfl fun a h => ?_
        refine wp_ret ?_
        try simp only [xqs]
        refine rt_1 h rfl (rvT h rfl) ?_
        exact ⟨_, rfl, rfl, hp.bel⟩
       exact absurd hb35 (by decide)
      exact absurd hb23 (by decide)
     refine wl (stp_on h rfl rfl rfl hb21 (vl h (mov h rfl) fun a h => ?_))
     refine wl (stp_on h rfl rfl rfl hb21 (vl h (nei h rfl rfl) fun a h => ?_))
     refine wl (stp_on h rfl rfl rfl hb20 (vl h (pckF h rfl hb21 rfl) fun a h => ?_))
     refine wvl h (pckT h rfl hb20 rfl) fun a h => ?_
     refine wn ?_
     refine cnd1 h rfl (fun hb36 => ?_) (fun hb36 => ?_)
     ·have hpx : -1000 ≤ px ∧ px ≤ 1000 := ⟨of_decide_eq_true ha1, of_decide_eq_true ha2⟩
      have hpy : -1000 ≤ py ∧ py ≤ 1000 := ⟨of_decide_eq_true ha3, of_decide_eq_true ha4⟩
      have hQ : 0 < px * px + py * py := by have q1 := Geo.sq_nonneg px; have q2 := Geo.sq_nonneg py; have q3 := sq_pos (x := py) (by have hq8 := hb36; simpa using hq8); omega
      refine wp_seq ?_
      refine rg ?_
      refine wmv h rfl fun a h => ?_
      refine wvl h (eqi h rfl rfl) fun a h => ?_
      refine wmv h rfl fun a h => ?_
      refine split (t := 165) h rfl (fun hb37 => ?_) (fun hb37 => ?_)
      ·exact absurd hb37 (by decide)
      refine wl (stp_off h rfl rfl rfl rfl rfl hb37 fun a h => ?_)
      refine wl (stp_off h rfl rfl rfl rfl rfl hb37 fun a h => ?_)
      refine wl (stp_off h rfl rfl rfl rfl rfl hb37 fun a h => ?_)
      refine wl (stp_off h rfl rfl rfl rfl rfl hb37 fun a h => ?_)
      refine wl (stp_off h rfl rfl rfl rfl rfl hb37 fun a h => ?_)
      refine wl (stp_off h rfl rfl rfl rfl rfl hb37 fun a h => ?_)
      refine wl (stp_off h rfl rfl rfl rfl rfl hb37 fun a h => ?_)
      refine wvl h (pckF h rfl hb37 rfl) fun a h => ?_
      refine wmv h rfl fun a h => ?_
      refine wl (stp_off h rfl rfl rfl rfl rfl rfl fun a h => ?_)
      refine wl (stp_off h rfl rfl rfl rfl rfl rfl fun a h => ?_)
      refine wl (stp_off h rfl rfl rfl rfl rfl rfl fun a h => ?_)
      refine wl (stp_off h rfl rfl rfl rfl rfl rfl fun a h => ?_)
      refine wl (stp_off h rfl rfl rfl rfl rfl rfl fun a h => ?_)
      refine wl (stp_off h rfl rfl rfl rfl rfl rfl fun a h => ?_)
      refine wl (stp_off h rfl rfl rfl rfl rfl rfl fun a h => ?_)
      refine wl (stp_off h rfl rfl rfl rfl rfl rfl fun a h => ?_)
      refine wvl h (pckF h rfl rfl rfl) fun a h => ?_
      refine wn ?_
      refine cnd1 h rfl (fun e => nomatch e) (fun _ => ?_)
      refine skp ?_
      refine rdh (n := 31) hp mixed rfl ?_
      have hp := hp.drew
      refine tkm 0 h rfl hp rfl fun a h => ?_
      refine tkq 1 h rfl hp (fun W _ => eqi h rfl rfl) fun a h => ?_
      refine tkm 2 h rfl hp rfl fun a h => ?_
      refine split (t := 186) h rfl (fun hb38 => ?_) (fun hb38 => ?_)
      ·refine tk_on 3 h rfl (by kernel_rfl) (fun _ _ _ q => q) hp rfl rfl rfl rfl rfl hb38 (fun W _ => mov h rfl) fun a h => ?_
       refine tk_on 4 h rfl (by kernel_rfl) (fun _ _ _ q => q) hp rfl rfl rfl rfl rfl hb38 (fun W _ => mov h rfl) fun a h => ?_
       refine tk_on 5 h rfl (by kernel_rfl) (fun _ _ _ q => q) hp rfl rfl rfl rfl rfl hb38 (fun W hp => iadR (p.toNat) h rfl rfl Tryz.underlying37 sz51 (hR.keep (by decide) hp cl0) (by omega) (by omega)) fun a h => ?_
       refine tk_on 6 h rfl (by kernel_rfl) (fun _ _ _ q => q) hp rfl rfl rfl rfl rfl hb38 (fun W hp => ldE h (hR.keep (by decide) hp cl0) hy rfl ag51 sz51) fun a h => ?_
       refine tk_on 7 h rfl (by kernel_rfl) (fun _ _ _ q => q) hp rfl rfl rfl rfl rfl hb38 (fun W _ => mov h rfl) fun a h => ?_
       refine tk_on 8 h rfl (by kernel_rfl) (fun _ _ _ q => q) hp rfl rfl rfl rfl rfl hb38 (fun W _ => mov h rfl) fun a h => ?_
       refine tk_on 9 h rfl (by kernel_rfl) (fun _ _ _ q => q) hp rfl rfl rfl rfl rfl hb38 (fun W hp => iadR (r.toNat) h rfl rfl Tryz.underlying37 sz51 (hR.keep (by decide) hp cl0) (by omega) (by omega)) fun a h => ?_
       refine tk_on 10 h rfl (by kernel_rfl) (fun _ _ _ q => q) hp rfl rfl rfl rfl rfl hb38 (fun W hp => ldE h (hR.keep (by decide) hp cl0) hz rfl ag51 sz51) fun a h => ?_
       refine one 11 (by kernel_rfl) rfl (stp_on h rfl rfl rfl hb38 (cal h rfl en26 (Before_R y z _ hyx hyy hyr hzx hzy hzr) fun u w23 ⟨e1, e2⟩ a h => ⟨hp.below e2, ?_⟩))
       subst e1
       have hp := hp.below e2
       refine tkq 12 h rfl hp (fun W _ => pckT h rfl hb38 rfl) fun a h => ?_
       refine tkm 13 h rfl hp rfl fun a h => ?_
       refine split (t := 197) h rfl (fun hb39 => ?_) (fun hb39 => ?_)
       ·have hlt2 : y.pow < z.pow := of_decide_eq_true hb39
        refine tk_on 14 h rfl (by kernel_rfl) (fun _ _ _ q => q) hp rfl rfl rfl rfl rfl hb39 (fun W _ => mov h rfl) fun a h => ?_
        refine tk_on 15 h rfl (by kernel_rfl) (fun _ _ _ q => q) hp rfl rfl rfl rfl rfl hb39 (fun W _ => mov h rfl) fun a h => ?_
        refine tk_on 16 h rfl (by kernel_rfl) (fun _ _ _ q => q) hp rfl rfl rfl rfl rfl hb39 (fun W hp => iadR (p.toNat) h rfl rfl Tryz.underlying37 sz51 (hR.keep (by decide) hp cl0) (by omega) (by omega)) fun a h => ?_
        refine tk_on 17 h rfl (by kernel_rfl) (fun _ _ _ q => q) hp rfl rfl rfl rfl rfl hb39 (fun W hp => ldE h (hR.keep (by decide) hp cl0) hy rfl ag51 sz51) fun a h => ?_
        refine tk_on 18 h rfl (by kernel_rfl) (fun _ _ _ q => q) hp rfl rfl rfl rfl rfl hb39 (fun W _ => mov h rfl) fun a h => ?_
        refine tk_on 19 h rfl (by kernel_rfl) (fun _ _ _ q => q) hp rfl rfl rfl rfl rfl hb39 (fun W _ => mov h rfl) fun a h => ?_
        refine one 20 (by kernel_rfl) rfl (stp_on h rfl rfl rfl hb39 (cal h rfl en27 (meets_L y px py true _ hyB hpx hpy) fun u w24 ⟨e1, e2⟩ a h => ⟨hp.below e2, ?_⟩))
        subst e1
        have hp := hp.below e2
        refine tkq 21 h rfl hp (fun W _ => pckT h rfl hb39 rfl) fun a h => ?_
        refine tkm 22 h rfl hp rfl fun a h => ?_
        refine split (t := 206) h rfl (fun hb40 => ?_) (fun hb40 => ?_)
        ·have hM1 := hb40
         refine tk_on 23 h rfl (by kernel_rfl) (fun _ _ _ q => q) hp rfl rfl rfl rfl rfl hb40 (fun W _ => mov h rfl) fun a h => ?_
         refine tk_on 24 h rfl (by kernel_rfl) (fun _ _ _ q => q) hp rfl rfl rfl rfl rfl hb40 (fun W _ => mov h rfl) fun a h => ?_
         refine tk_on 25 h rfl (by kernel_rfl) (fun _ _ _ q => q) hp rfl rfl rfl rfl rfl hb40 (fun W hp => iadR (r.toNat) h rfl rfl Tryz.underlying37 sz51 (hR.keep (by decide) hp cl0) (by omega) (by omega)) fun a h => ?_
         refine tk_on 26 h rfl (by kernel_rfl) (fun _ _ _ q => q) hp rfl rfl rfl rfl rfl hb40 (fun W hp => ldE h (hR.keep (by decide) hp cl0) hz rfl ag51 sz51) fun a h => ?_
         refine tk_on 27 h rfl (by kernel_rfl) (fun _ _ _ q => q) hp rfl rfl rfl rfl rfl hb40 (fun W _ => mov h rfl) fun a h => ?_
         refine tk_on 28 h rfl (by kernel_rfl) (fun _ _ _ q => q) hp rfl rfl rfl rfl rfl hb40 (fun W _ => mov h rfl) fun a h => ?_
         refine one 29 (by kernel_rfl) rfl (stp_on h rfl rfl rfl hb40 (cal h rfl en27 (meets_L z px py true _ hzB hpx hpy) fun u w25 ⟨e1, e2⟩ a h => ⟨hp.below e2, ?_⟩))
         subst e1
         have hp := hp.below e2
         refine tkq 30 h rfl hp (fun W _ => pckT h rfl hb40 rfl) fun a h => ?_
         refine dn (by kernel_rfl) ?_
         refine cnd1 h rfl (fun hb41 => ?_) (fun hb41 => ?_)
         ·exact absurd hb41 (by first | decide | exact fun q => meets_lit hyB hzB hw hlt2 hQ hM1 q)
         refine skp ?_
         refine wp_seq ?_
         refine rg ?_
         refine wm2 h rfl rfl rfl rfl fun a h => ?_
         refine wvl h (eqi h rfl rfl) fun a h => ?_
         refine wmv h rfl fun a h => ?_
         refine split (t := 218) h rfl (fun hb42 => ?_) (fun hb42 => ?_)
         ·refine wl (stp_off h rfl rfl rfl rfl rfl hb42 fun a h => ?_)
          refine wl (stp_off h rfl rfl rfl rfl rfl hb42 fun a h => ?_)
          refine wl (stp_off h rfl rfl rfl rfl rfl hb42 fun a h => ?_)
          refine wvl h (pckT h rfl hb42 rfl) fun a h => ?_
          refine wmv h rfl fun a h => ?_
          refine wl (stp_off h rfl rfl rfl rfl rfl rfl fun a h => ?_)
          refine wl (stp_off h rfl rfl rfl rfl rfl rfl fun a h => ?_)
          refine wvl h (pckT h rfl rfl rfl) fun a h => ?_
          refine wn ?_
          refine cnd1 h rfl (fun _ => ?_) (fun e => nomatch e)
          refine rg ?_
          refine wl (cal h rfl en10 (known_L _ (hGl.keep hp)) fun u w26 ⟨e1, e2⟩ a h => ?_)
          subst e1
          have hp := hp.below e2
          refine wsn h rfl fun a h => ?_
          refine wp_ret ?_
          try simp only [xqs]
          refine rt_1 h rfl (rvT h rfl) ?_
          exact ⟨_, rfl, rfl, hp.bel⟩
         have hopd := hb42
         refine wl (stp_on h rfl rfl rfl hb42 (vl h (mov h rfl) fun a h => ?_))
         refine wl (stp_on h rfl rfl rfl hb42 (vl h (mov h rfl) fun a h => ?_))
         refine wl (stp_on h rfl rfl rfl hb42 (vl h (eqi h rfl rfl) fun a h => ?_))
         refine wvl h (pckF h rfl hb42 rfl) fun a h => ?_
         refine wmv h rfl fun a h => ?_
         refine split (t := 223) h rfl (fun hb43 => ?_) (fun hb43 => ?_)
         ·refine wl (stp_off h rfl rfl rfl rfl rfl hb43 fun a h => ?_)
          refine wl (stp_off h rfl rfl rfl rfl rfl hb43 fun a h => ?_)
          refine wvl h (pckT h rfl hb43 rfl) fun a h => ?_
          refine wn ?_
          refine cnd1 h rfl (fun _ => ?_) (fun e => nomatch e)
          refine rg ?_
          refine wl (cal h rfl en10 (known_L _ (hGl.keep hp)) fun u w27 ⟨e1, e2⟩ a h => ?_)
          subst e1
          have hp := hp.below e2
          refine wsn h rfl fun a h => ?_
          refine wp_ret ?_
          try simp only [xqs]
          refine rt_1 h rfl (rvT h rfl) ?_
          exact ⟨_, rfl, rfl, hp.bel⟩
         have hor := hb43
         refine wl (stp_on h rfl rfl rfl hb43 (vl h (mov h rfl) fun a h => ?_))
         refine wl (stp_on h rfl rfl rfl hb43 (vl h (nei h rfl rfl) fun a h => ?_))
         refine wvl h (pckF h rfl hb43 rfl) fun a h => ?_
         refine wn ?_
         refine cnd1 h rfl (fun hb44 => ?_) (fun hb44 => ?_)
         ·refine rg ?_
          refine wl (cal h rfl en10 (known_L _ (hGl.keep hp)) fun u w28 ⟨e1, e2⟩ a h => ?_)
          subst e1
          have hp := hp.below e2
          refine wsn h rfl fun a h => ?_
          refine wp_ret ?_
          try simp only [xqs]
          refine rt_1 h rfl (rvT h rfl) ?_
          exact ⟨_, rfl, rfl, hp.bel⟩
         exact absurd hb44 (by decide)
        refine tkG 23 h rfl hp rfl rfl rfl hb40 fun a h => ?_
        refine tkG 24 h rfl hp rfl rfl rfl hb40 fun a h => ?_
        refine tkG 25 h rfl hp rfl rfl rfl hb40 fun a h => ?_
        refine tkG 26 h rfl hp rfl rfl rfl hb40 fun a h => ?_
        refine tkG 27 h rfl hp rfl rfl rfl hb40 fun a h => ?_
        refine tkG 28 h rfl hp rfl rfl rfl hb40 fun a h => ?_
        refine tkG 29 h rfl hp rfl rfl rfl hb40 fun a h => ?_
        refine tkq 30 h rfl hp (fun W _ => pckF h rfl hb40 rfl) fun a h => ?_
        refine dn (by kernel_rfl) ?_
        refine cnd1 h rfl (fun e => nomatch e) (fun _ => ?_)
        refine skp ?_
        refine wp_seq ?_
        refine rg ?_
        refine wm2 h rfl rfl rfl rfl fun a h => ?_
        refine wvl h (eqi h rfl rfl) fun a h => ?_
        refine wmv h rfl fun a h => ?_
        refine split (t := 218) h rfl (fun hb45 => ?_) (fun hb45 => ?_)
        ·refine wl (stp_off h rfl rfl rfl rfl rfl hb45 fun a h => ?_)
         refine wl (stp_off h rfl rfl rfl rfl rfl hb45 fun a h => ?_)
         refine wl (stp_off h rfl rfl rfl rfl rfl hb45 fun a h => ?_)
         refine wvl h (pckT h rfl hb45 rfl) fun a h => ?_
         refine wmv h rfl fun a h => ?_
         refine wl (stp_off h rfl rfl rfl rfl rfl rfl fun a h => ?_)
         refine wl (stp_off h rfl rfl rfl rfl rfl rfl fun a h => ?_)
         refine wvl h (pckT h rfl rfl rfl) fun a h => ?_
         refine wn ?_
         refine cnd1 h rfl (fun _ => ?_) (fun e => nomatch e)
         refine rg ?_
         refine wl (cal h rfl en10 (known_L _ (hGl.keep hp)) fun u w29 ⟨e1, e2⟩ a h => ?_)
         subst e1
         have hp := hp.below e2
         refine wsn h rfl fun a h => ?_
         refine wp_ret ?_
         try simp only [xqs]
         refine rt_1 h rfl (rvT h rfl) ?_
         exact ⟨_, rfl, rfl, hp.bel⟩
        have hopd := hb45
        refine wl (stp_on h rfl rfl rfl hb45 (vl h (mov h rfl) fun a h => ?_))
        refine wl (stp_on h rfl rfl rfl hb45 (vl h (mov h rfl) fun a h => ?_))
        refine wl (stp_on h rfl rfl rfl hb45 (vl h (eqi h rfl rfl) fun a h => ?_))
        refine wvl h (pckF h rfl hb45 rfl) fun a h => ?_
        refine wmv h rfl fun a h => ?_
        refine split (t := 223) h rfl (fun hb46 => ?_) (fun hb46 => ?_)
        ·refine wl (stp_off h rfl rfl rfl rfl rfl hb46 fun a h => ?_)
         refine wl (stp_off h rfl rfl rfl rfl rfl hb46 fun a h => ?_)
         refine wvl h (pckT h rfl hb46 rfl) fun a h => ?_
         refine wn ?_
         refine cnd1 h rfl (fun _ => ?_) (fun e => nomatch e)
         refine rg ?_
         refine wl (cal h rfl en10 (known_L _ (hGl.keep hp)) fun u w30 ⟨e1, e2⟩ a h => ?_)
         subst e1
         have hp := hp.below e2
         refine wsn h rfl fun a h => ?_
         refine wp_ret ?_
         try simp only [xqs]
         refine rt_1 h rfl (rvT h rfl) ?_
         exact ⟨_, rfl, rfl, hp.bel⟩
        have hor := hb46
        refine wl (stp_on h rfl rfl rfl hb46 (vl h (mov h rfl) fun a h => ?_))
        refine wl (stp_on h rfl rfl rfl hb46 (vl h (nei h rfl rfl) fun a h => ?_))
        refine wvl h (pckF h rfl hb46 rfl) fun a h => ?_
        refine wn ?_
        refine cnd1 h rfl (fun hb47 => ?_) (fun hb47 => ?_)
        ·refine rg ?_
         refine wl (cal h rfl en10 (known_L _ (hGl.keep hp)) fun u w31 ⟨e1, e2⟩ a h => ?_)
         subst e1
         have hp := hp.below e2
         refine wsn h rfl fun a h => ?_
         refine wp_ret ?_
         try simp only [xqs]
         refine rt_1 h rfl (rvT h rfl) ?_
         exact ⟨_, rfl, rfl, hp.bel⟩
        exact absurd hb47 (by decide)
       refine tkG 14 h rfl hp rfl rfl rfl hb39 fun a h => ?_
       refine tkG 15 h rfl hp rfl rfl rfl hb39 fun a h => ?_
       refine tkG 16 h rfl hp rfl rfl rfl hb39 fun a h => ?_
       refine tkG 17 h rfl hp rfl rfl rfl hb39 fun a h => ?_
       refine tkG 18 h rfl hp rfl rfl rfl hb39 fun a h => ?_
       refine tkG 19 h rfl hp rfl rfl rfl hb39 fun a h => ?_
       refine tkG 20 h rfl hp rfl rfl rfl hb39 fun a h => ?_
       refine tkq 21 h rfl hp (fun W _ => pckF h rfl hb39 rfl) fun a h => ?_
       refine tkm 22 h rfl hp rfl fun a h => ?_
       refine tkG 23 h rfl hp rfl rfl rfl rfl fun a h => ?_
       refine tkG 24 h rfl hp rfl rfl rfl rfl fun a h => ?_
       refine tkG 25 h rfl hp rfl rfl rfl rfl fun a h => ?_
       refine tkG 26 h rfl hp rfl rfl rfl rfl fun a h => ?_
       refine tkG 27 h rfl hp rfl rfl rfl rfl fun a h => ?_
       refine tkG 28 h rfl hp rfl rfl rfl rfl fun a h => ?_
       refine tkG 29 h rfl hp rfl rfl rfl rfl fun a h => ?_
       refine tkq 30 h rfl hp (fun W _ => pckF h rfl rfl rfl) fun a h => ?_
       refine dn (by kernel_rfl) ?_
       refine cnd1 h rfl (fun e => nomatch e) (fun _ => ?_)
       refine skp ?_
       refine wp_seq ?_
       refine rg ?_
       refine wm2 h rfl rfl rfl rfl fun a h => ?_
       refine wvl h (eqi h rfl rfl) fun a h => ?_
       refine wmv h rfl fun a h => ?_
       refine split (t := 218) h rfl (fun hb48 => ?_) (fun hb48 => ?_)
       ·refine wl (stp_off h rfl rfl rfl rfl rfl hb48 fun a h => ?_)
        refine wl (stp_off h rfl rfl rfl rfl rfl hb48 fun a h => ?_)
        refine wl (stp_off h rfl rfl rfl rfl rfl hb48 fun a h => ?_)
        refine wvl h (pckT h rfl hb48 rfl) fun a h => ?_
        refine wmv h rfl fun a h => ?_
        refine wl (stp_off h rfl rfl rfl rfl rfl rfl fun a h => ?_)
        refine wl (stp_off h rfl rfl rfl rfl rfl rfl fun a h => ?_)
        refine wvl h (pckT h rfl rfl rfl) fun a h => ?_
        refine wn ?_
        refine cnd1 h rfl (fun _ => ?_) (fun e => nomatch e)
        refine rg ?_
        refine wl (cal h rfl en10 (known_L _ (hGl.keep hp)) fun u w32 ⟨e1, e2⟩ a h => ?_)
        subst e1
        have hp := hp.below e2
        refine wsn h rfl fun a h => ?_
        refine wp_ret ?_
        try simp only [xqs]
        refine rt_1 h rfl (rvT h rfl) ?_
        exact ⟨_, rfl, rfl, hp.bel⟩
       have hopd := hb48
       refine wl (stp_on h rfl rfl rfl hb48 (vl h (mov h rfl) fun a h => ?_))
       refine wl (stp_on h rfl rfl rfl hb48 (vl h (mov h rfl) fun a h => ?_))
       refine wl (stp_on h rfl rfl rfl hb48 (vl h (eqi h rfl rfl) fun a h => ?_))
       refine wvl h (pckF h rfl hb48 rfl) fun a h => ?_
       refine wmv h rfl fun a h => ?_
       refine split (t := 223) h rfl (fun hb49 => ?_) (fun hb49 => ?_)
       ·refine wl (stp_off h rfl rfl rfl rfl rfl hb49 fun a h => ?_)
        refine wl (stp_off h rfl rfl rfl rfl rfl hb49 fun a h => ?_)
        refine wvl h (pckT h rfl hb49 rfl) fun a h => ?_
        refine wn ?_
        refine cnd1 h rfl (fun _ => ?_) (fun e => nomatch e)
        refine rg ?_
        refine wl (cal h rfl en10 (known_L _ (hGl.keep hp)) fun u w33 ⟨e1, e2⟩ a h => ?_)
        subst e1
        have hp := hp.below e2
        refine wsn h rfl fun a h => ?_
        refine wp_ret ?_
        try simp only [xqs]
        refine rt_1 h rfl (rvT h rfl) ?_
        exact ⟨_, rfl, rfl, hp.bel⟩
       have hor := hb49
       refine wl (stp_on h rfl rfl rfl hb49 (vl h (mov h rfl) fun a h => ?_))
       refine wl (stp_on h rfl rfl rfl hb49 (vl h (nei h rfl rfl) fun a h => ?_))
       refine wvl h (pckF h rfl hb49 rfl) fun a h => ?_
       refine wn ?_
       refine cnd1 h rfl (fun hb50 => ?_) (fun hb50 => ?_)
       ·refine rg ?_
        refine wl (cal h rfl en10 (known_L _ (hGl.keep hp)) fun u w34 ⟨e1, e2⟩ a h => ?_)
        subst e1
        have hp := hp.below e2
        refine wsn h rfl fun a h => ?_
        refine wp_ret ?_
        try simp only [xqs]
        refine rt_1 h rfl (rvT h rfl) ?_
        exact ⟨_, rfl, rfl, hp.bel⟩
       exact absurd hb50 (by decide)
      exact absurd hb38 (by decide)
     refine skp ?_
     refine wp_seq ?_
     refine rg ?_
     refine wm2 h rfl rfl rfl rfl fun a h => ?_
     refine wvl h (eqi h rfl rfl) fun a h => ?_
     refine wmv h rfl fun a h => ?_
     refine split (t := 218) h rfl (fun hb51 => ?_) (fun hb51 => ?_)
     ·refine wl (stp_off h rfl rfl rfl rfl rfl hb51 fun a h => ?_)
      refine wl (stp_off h rfl rfl rfl rfl rfl hb51 fun a h => ?_)
      refine wl (stp_off h rfl rfl rfl rfl rfl hb51 fun a h => ?_)
      refine wvl h (pckT h rfl hb51 rfl) fun a h => ?_
      refine wmv h rfl fun a h => ?_
      refine wl (stp_off h rfl rfl rfl rfl rfl rfl fun a h => ?_)
      refine wl (stp_off h rfl rfl rfl rfl rfl rfl fun a h => ?_)
      refine wvl h (pckT h rfl rfl rfl) fun a h => ?_
      refine wn ?_
      refine cnd1 h rfl (fun _ => ?_) (fun e => nomatch e)
      refine rg ?_
      refine wl (cal h rfl en10 (known_L _ (hGl.keep hp)) fun u w35 ⟨e1, e2⟩ a h => ?_)
      subst e1
      have hp := hp.below e2
      refine wsn h rfl fun a h => ?_
      refine wp_ret ?_
      try simp only [xqs]
      refine rt_1 h rfl (rvT h rfl) ?_
      exact ⟨_, rfl, rfl, hp.bel⟩
     have hopd := hb51
     refine wl (stp_on h rfl rfl rfl hb51 (vl h (mov h rfl) fun a h => ?_))
     refine wl (stp_on h rfl rfl rfl hb51 (vl h (mov h rfl) fun a h => ?_))
     refine wl (stp_on h rfl rfl rfl hb51 (vl h (eqi h rfl rfl) fun a h => ?_))
     refine wvl h (pckF h rfl hb51 rfl) fun a h => ?_
     refine wmv h rfl fun a h => ?_
     refine split (t := 223) h rfl (fun hb52 => ?_) (fun hb52 => ?_)
     ·refine wl (stp_off h rfl rfl rfl rfl rfl hb52 fun a h => ?_)
      refine wl (stp_off h rfl rfl rfl rfl rfl hb52 fun a h => ?_)
      refine wvl h (pckT h rfl hb52 rfl) fun a h => ?_
      refine wn ?_
      refine cnd1 h rfl (fun _ => ?_) (fun e => nomatch e)
      refine rg ?_
      refine wl (cal h rfl en10 (known_L _ (hGl.keep hp)) fun u w36 ⟨e1, e2⟩ a h => ?_)
      subst e1
      have hp := hp.below e2
      refine wsn h rfl fun a h => ?_
      refine wp_ret ?_
      try simp only [xqs]
      refine rt_1 h rfl (rvT h rfl) ?_
      exact ⟨_, rfl, rfl, hp.bel⟩
     have hor := hb52
     refine wl (stp_on h rfl rfl rfl hb52 (vl h (mov h rfl) fun a h => ?_))
     refine wl (stp_on h rfl rfl rfl hb52 (vl h (nei h rfl rfl) fun a h => ?_))
     refine wvl h (pckF h rfl hb52 rfl) fun a h => ?_
     refine wn ?_
     refine cnd1 h rfl (fun hb53 => ?_) (fun hb53 => ?_)
     ·refine rg ?_
      refine wl (cal h rfl en10 (known_L _ (hGl.keep hp)) fun u w37 ⟨e1, e2⟩ a h => ?_)
      subst e1
      have hp := hp.below e2
      refine wsn h rfl fun a h => ?_
      refine wp_ret ?_
      try simp only [xqs]
      refine rt_1 h rfl (rvT h rfl) ?_
      exact ⟨_, rfl, rfl, hp.bel⟩
     exact absurd hb53 (by decide)
    refine wl (stp_off h rfl rfl rfl rfl rfl hb20 fun a h => ?_)
    refine wl (stp_off h rfl rfl rfl rfl rfl hb20 fun a h => ?_)
    refine wl (stp_off h rfl rfl rfl rfl rfl hb20 fun a h => ?_)
    refine wl (stp_un h rfl rfl rfl rfl rfl fun a h => ?_)
    refine wl (stp_un h rfl rfl rfl rfl rfl fun a h => ?_)
    refine wl (stp_off h rfl rfl rfl rfl rfl hb20 fun a h => ?_)
    refine wvl h (pckF h rfl hb20 rfl) fun a h => ?_
    refine wn ?_
    refine cnd1 h rfl (fun e => nomatch e) (fun _ => ?_)
    refine skp ?_
    refine wp_seq ?_
    refine rg ?_
    refine wm2 h rfl rfl rfl rfl fun a h => ?_
    refine wvl h (eqi h rfl rfl) fun a h => ?_
    refine wmv h rfl fun a h => ?_
    refine split (t := 218) h rfl (fun hb54 => ?_) (fun hb54 => ?_)
    ·refine wl (stp_off h rfl rfl rfl rfl rfl hb54 fun a h => ?_)
     refine wl (stp_off h rfl rfl rfl rfl rfl hb54 fun a h => ?_)
     refine wl (stp_off h rfl rfl rfl rfl rfl hb54 fun a h => ?_)
     refine wvl h (pckT h rfl hb54 rfl) fun a h => ?_
     refine wmv h rfl fun a h => ?_
     refine wl (stp_off h rfl rfl rfl rfl rfl rfl fun a h => ?_)
     refine wl (stp_off h rfl rfl rfl rfl rfl rfl fun a h => ?_)
     refine wvl h (pckT h rfl rfl rfl) fun a h => ?_
     refine wn ?_
     refine cnd1 h rfl (fun _ => ?_) (fun e => nomatch e)
     refine rg ?_
     refine wl (cal h rfl en10 (known_L _ (hGl.keep hp)) fun u w38 ⟨e1, e2⟩ a h => ?_)
     subst e1
     have hp := hp.below e2
     refine wsn h rfl fun a h => ?_
     refine wp_ret ?_
     try simp only [xqs]
     refine rt_1 h rfl (rvT h rfl) ?_
     exact ⟨_, rfl, rfl, hp.bel⟩
    have hopd := hb54
    refine wl (stp_on h rfl rfl rfl hb54 (vl h (mov h rfl) fun a h => ?_))
    refine wl (stp_on h rfl rfl rfl hb54 (vl h (mov h rfl) fun a h => ?_))
    refine wl (stp_on h rfl rfl rfl hb54 (vl h (eqi h rfl rfl) fun a h => ?_))
    refine wvl h (pckF h rfl hb54 rfl) fun a h => ?_
    refine wmv h rfl fun a h => ?_
    refine split (t := 223) h rfl (fun hb55 => ?_) (fun hb55 => ?_)
    ·refine wl (stp_off h rfl rfl rfl rfl rfl hb55 fun a h => ?_)
     refine wl (stp_off h rfl rfl rfl rfl rfl hb55 fun a h => ?_)
     refine wvl h (pckT h rfl hb55 rfl) fun a h => ?_
     refine wn ?_
     refine cnd1 h rfl (fun _ => ?_) (fun e => nomatch e)
     refine rg ?_
     refine wl (cal h rfl en10 (known_L _ (hGl.keep hp)) fun u w39 ⟨e1, e2⟩ a h => ?_)
     subst e1
     have hp := hp.below e2
     refine wsn h rfl fun a h => ?_
     refine wp_ret ?_
     try simp only [xqs]
     refine rt_1 h rfl (rvT h rfl) ?_
     exact ⟨_, rfl, rfl, hp.bel⟩
    have hor := hb55
    refine wl (stp_on h rfl rfl rfl hb55 (vl h (mov h rfl) fun a h => ?_))
    refine wl (stp_on h rfl rfl rfl hb55 (vl h (nei h rfl rfl) fun a h => ?_))
    refine wvl h (pckF h rfl hb55 rfl) fun a h => ?_
    refine wn ?_
    refine cnd1 h rfl (fun hb56 => ?_) (fun hb56 => ?_)
    ·refine rg ?_
     refine wl (cal h rfl en10 (known_L _ (hGl.keep hp)) fun u w40 ⟨e1, e2⟩ a h => ?_)
     subst e1
     have hp := hp.below e2
     refine wsn h rfl fun a h => ?_
     refine wp_ret ?_
     try simp only [xqs]
     refine rt_1 h rfl (rvT h rfl) ?_
     exact ⟨_, rfl, rfl, hp.bel⟩
    exact absurd hb56 (by decide)
   refine wl (stp_off h rfl rfl rfl rfl rfl hb19 fun a h => ?_)
   refine wl (stp_off h rfl rfl rfl rfl rfl hb19 fun a h => ?_)
   refine wvl h (pckF h rfl hb19 rfl) fun a h => ?_
   refine wmv h rfl fun a h => ?_
   refine wl (stp_off h rfl rfl rfl rfl rfl rfl fun a h => ?_)
   refine wl (stp_off h rfl rfl rfl rfl rfl rfl fun a h => ?_)
   refine wl (stp_off h rfl rfl rfl rfl rfl rfl fun a h => ?_)
   refine wl (stp_un h rfl rfl rfl rfl rfl fun a h => ?_)
   refine wl (stp_un h rfl rfl rfl rfl rfl fun a h => ?_)
   refine wl (stp_off h rfl rfl rfl rfl rfl rfl fun a h => ?_)
   refine wvl h (pckF h rfl rfl rfl) fun a h => ?_
   refine wn ?_
   refine cnd1 h rfl (fun e => nomatch e) (fun _ => ?_)
   refine skp ?_
   refine wp_seq ?_
   refine rg ?_
   refine wm2 h rfl rfl rfl rfl fun a h => ?_
   refine wvl h (eqi h rfl rfl) fun a h => ?_
   refine wmv h rfl fun a h => ?_
   refine split (t := 218) h rfl (fun hb57 => ?_) (fun hb57 => ?_)
   ·refine wl (stp_off h rfl rfl rfl rfl rfl hb57 fun a h => ?_)
    refine wl (stp_off h rfl rfl rfl rfl rfl hb57 fun a h => ?_)
    refine wl (stp_off h rfl rfl rfl rfl rfl hb57 fun a h => ?_)
    refine wvl h (pckT h rfl hb57 rfl) fun a h => ?_
    refine wmv h rfl fun a h => ?_
    refine wl (stp_off h rfl rfl rfl rfl rfl rfl fun a h => ?_)
    refine wl (stp_off h rfl rfl rfl rfl rfl rfl fun a h => ?_)
    refine wvl h (pckT h rfl rfl rfl) fun a h => ?_
    refine wn ?_
    refine cnd1 h rfl (fun _ => ?_) (fun e => nomatch e)
    refine rg ?_
    refine wl (cal h rfl en10 (known_L _ (hGl.keep hp)) fun u w41 ⟨e1, e2⟩ a h => ?_)
    subst e1
    have hp := hp.below e2
    refine wsn h rfl fun a h => ?_
    refine wp_ret ?_
    try simp only [xqs]
    refine rt_1 h rfl (rvT h rfl) ?_
    exact ⟨_, rfl, rfl, hp.bel⟩
   have hopd := hb57
   refine wl (stp_on h rfl rfl rfl hb57 (vl h (mov h rfl) fun a h => ?_))
   refine wl (stp_on h rfl rfl rfl hb57 (vl h (mov h rfl) fun a h => ?_))
   refine wl (stp_on h rfl rfl rfl hb57 (vl h (eqi h rfl rfl) fun a h => ?_))
   refine wvl h (pckF h rfl hb57 rfl) fun a h => ?_
   refine wmv h rfl fun a h => ?_
   refine split (t := 223) h rfl (fun hb58 => ?_) (fun hb58 => ?_)
   ·refine wl (stp_off h rfl rfl rfl rfl rfl hb58 fun a h => ?_)
    refine wl (stp_off h rfl rfl rfl rfl rfl hb58 fun a h => ?_)
    refine wvl h (pckT h rfl hb58 rfl) fun a h => ?_
    refine wn ?_
    refine cnd1 h rfl (fun _ => ?_) (fun e => nomatch e)
    refine rg ?_
    refine wl (cal h rfl en10 (known_L _ (hGl.keep hp)) fun u w42 ⟨e1, e2⟩ a h => ?_)
    subst e1
    have hp := hp.below e2
    refine wsn h rfl fun a h => ?_
    refine wp_ret ?_
    try simp only [xqs]
    refine rt_1 h rfl (rvT h rfl) ?_
    exact ⟨_, rfl, rfl, hp.bel⟩
   have hor := hb58
   refine wl (stp_on h rfl rfl rfl hb58 (vl h (mov h rfl) fun a h => ?_))
   refine wl (stp_on h rfl rfl rfl hb58 (vl h (nei h rfl rfl) fun a h => ?_))
   refine wvl h (pckF h rfl hb58 rfl) fun a h => ?_
   refine wn ?_
   refine cnd1 h rfl (fun hb59 => ?_) (fun hb59 => ?_)
   ·refine rg ?_
    refine wl (cal h rfl en10 (known_L _ (hGl.keep hp)) fun u w43 ⟨e1, e2⟩ a h => ?_)
    subst e1
    have hp := hp.below e2
    refine wsn h rfl fun a h => ?_
    refine wp_ret ?_
    try simp only [xqs]
    refine rt_1 h rfl (rvT h rfl) ?_
    exact ⟨_, rfl, rfl, hp.bel⟩
   exact absurd hb59 (by decide)
  refine wl (stp_off h rfl rfl rfl rfl rfl hb18 fun a h => ?_)
  refine wl (stp_off h rfl rfl rfl rfl rfl hb18 fun a h => ?_)
  refine wvl h (pckF h rfl hb18 rfl) fun a h => ?_
  refine wmv h rfl fun a h => ?_
  refine wl (stp_off h rfl rfl rfl rfl rfl rfl fun a h => ?_)
  refine wl (stp_off h rfl rfl rfl rfl rfl rfl fun a h => ?_)
  refine wvl h (pckF h rfl rfl rfl) fun a h => ?_
  refine wmv h rfl fun a h => ?_
  refine wl (stp_off h rfl rfl rfl rfl rfl rfl fun a h => ?_)
  refine wl (stp_off h rfl rfl rfl rfl rfl rfl fun a h => ?_)
  refine wl (stp_off h rfl rfl rfl rfl rfl rfl fun a h => ?_)
  refine wl (stp_un h rfl rfl rfl rfl rfl fun a h => ?_)
  refine wl (stp_un h rfl rfl rfl rfl rfl fun a h => ?_)
  refine wl (stp_off h rfl rfl rfl rfl rfl rfl fun a h => ?_)
  refine wvl h (pckF h rfl rfl rfl) fun a h => ?_
  refine wn ?_
  refine cnd1 h rfl (fun e => nomatch e) (fun _ => ?_)
  refine skp ?_
  refine wp_seq ?_
  refine rg ?_
  refine wm2 h rfl rfl rfl rfl fun a h => ?_
  refine wvl h (eqi h rfl rfl) fun a h => ?_
  refine wmv h rfl fun a h => ?_
  refine split (t := 218) h rfl (fun hb60 => ?_) (fun hb60 => ?_)
  ·refine wl (stp_off h rfl rfl rfl rfl rfl hb60 fun a h => ?_)
   refine wl (stp_off h rfl rfl rfl rfl rfl hb60 fun a h => ?_)
   refine wl (stp_off h rfl rfl rfl rfl rfl hb60 fun a h => ?_)
   refine wvl h (pckT h rfl hb60 rfl) fun a h => ?_
   refine wmv h rfl fun a h => ?_
   refine wl (stp_off h rfl rfl rfl rfl rfl rfl fun a h => ?_)
   refine wl (stp_off h rfl rfl rfl rfl rfl rfl fun a h => ?_)
   refine wvl h (pckT h rfl rfl rfl) fun a h => ?_
   refine wn ?_
   refine cnd1 h rfl (fun _ => ?_) (fun e => nomatch e)
   refine rg ?_
   refine wl (cal h rfl en10 (known_L _ (hGl.keep hp)) fun u w44 ⟨e1, e2⟩ a h => ?_)
   subst e1
   have hp := hp.below e2
   refine wsn h rfl fun a h => ?_
   refine wp_ret ?_
   try simp only [xqs]
   refine rt_1 h rfl (rvT h rfl) ?_
   exact ⟨_, rfl, rfl, hp.bel⟩
  have hopd := hb60
  refine wl (stp_on h rfl rfl rfl hb60 (vl h (mov h rfl) fun a h => ?_))
  refine wl (stp_on h rfl rfl rfl hb60 (vl h (mov h rfl) fun a h => ?_))
  refine wl (stp_on h rfl rfl rfl hb60 (vl h (eqi h rfl rfl) fun a h => ?_))
  refine wvl h (pckF h rfl hb60 rfl) fun a h => ?_
  refine wmv h rfl fun a h => ?_
  refine split (t := 223) h rfl (fun hb61 => ?_) (fun hb61 => ?_)
  ·refine wl (stp_off h rfl rfl rfl rfl rfl hb61 fun a h => ?_)
   refine wl (stp_off h rfl rfl rfl rfl rfl hb61 fun a h => ?_)
   refine wvl h (pckT h rfl hb61 rfl) fun a h => ?_
   refine wn ?_
   refine cnd1 h rfl (fun _ => ?_) (fun e => nomatch e)
   refine rg ?_
   refine wl (cal h rfl en10 (known_L _ (hGl.keep hp)) fun u w45 ⟨e1, e2⟩ a h => ?_)
   subst e1
   have hp := hp.below e2
   refine wsn h rfl fun a h => ?_
   refine wp_ret ?_
   try simp only [xqs]
   refine rt_1 h rfl (rvT h rfl) ?_
   exact ⟨_, rfl, rfl, hp.bel⟩
  have hor := hb61
  refine wl (stp_on h rfl rfl rfl hb61 (vl h (mov h rfl) fun a h => ?_))
  refine wl (stp_on h rfl rfl rfl hb61 (vl h (nei h rfl rfl) fun a h => ?_))
  refine wvl h (pckF h rfl hb61 rfl) fun a h => ?_
  refine wn ?_
  refine cnd1 h rfl (fun hb62 => ?_) (fun hb62 => ?_)
  ·refine rg ?_
   refine wl (cal h rfl en10 (known_L _ (hGl.keep hp)) fun u w46 ⟨e1, e2⟩ a h => ?_)
   subst e1
   have hp := hp.below e2
   refine wsn h rfl fun a h => ?_
   refine wp_ret ?_
   try simp only [xqs]
   refine rt_1 h rfl (rvT h rfl) ?_
   exact ⟨_, rfl, rfl, hp.bel⟩
  exact absurd hb62 (by decide)
 refine wl (stp_off h rfl rfl rfl rfl rfl hb17 fun a h => ?_)
 refine wl (stp_off h rfl rfl rfl rfl rfl hb17 fun a h => ?_)
 refine wvl h (pckF h rfl hb17 rfl) fun a h => ?_
 refine wmv h rfl fun a h => ?_
 refine wl (stp_off h rfl rfl rfl rfl rfl rfl fun a h => ?_)
 refine wl (stp_off h rfl rfl rfl rfl rfl rfl fun a h => ?_)
 refine wvl h (pckF h rfl rfl rfl) fun a h => ?_
 refine wmv h rfl fun a h => ?_
 refine wl (stp_off h rfl rfl rfl rfl rfl rfl fun a h => ?_)
 refine wl (stp_off h rfl rfl rfl rfl rfl rfl fun a h => ?_)
 refine wvl h (pckF h rfl rfl rfl) fun a h => ?_
 refine wmv h rfl fun a h => ?_
 refine wl (stp_off h rfl rfl rfl rfl rfl rfl fun a h => ?_)
 refine wl (stp_off h rfl rfl rfl rfl rfl rfl fun a h => ?_)
 refine wl (stp_off h rfl rfl rfl rfl rfl rfl fun a h => ?_)
 refine wl (stp_un h rfl rfl rfl rfl rfl fun a h => ?_)
 refine wl (stp_un h rfl rfl rfl rfl rfl fun a h => ?_)
 refine wl (stp_off h rfl rfl rfl rfl rfl rfl fun a h => ?_)
 refine wvl h (pckF h rfl rfl rfl) fun a h => ?_
 refine wn ?_
 refine cnd1 h rfl (fun e => nomatch e) (fun _ => ?_)
 refine skp ?_
 refine wp_seq ?_
 refine rg ?_
 refine wm2 h rfl rfl rfl rfl fun a h => ?_
 refine wvl h (eqi h rfl rfl) fun a h => ?_
 refine wmv h rfl fun a h => ?_
 refine split (t := 218) h rfl (fun hb63 => ?_) (fun hb63 => ?_)
 ·refine wl (stp_off h rfl rfl rfl rfl rfl hb63 fun a h => ?_)
  refine wl (stp_off h rfl rfl rfl rfl rfl hb63 fun a h => ?_)
  refine wl (stp_off h rfl rfl rfl rfl rfl hb63 fun a h => ?_)
  refine wvl h (pckT h rfl hb63 rfl) fun a h => ?_
  refine wmv h rfl fun a h => ?_
  refine wl (stp_off h rfl rfl rfl rfl rfl rfl fun a h => ?_)
  refine wl (stp_off h rfl rfl rfl rfl rfl rfl fun a h => ?_)
  refine wvl h (pckT h rfl rfl rfl) fun a h => ?_
  refine wn ?_
  refine cnd1 h rfl (fun _ => ?_) (fun e => nomatch e)
  refine rg ?_
  refine wl (cal h rfl en10 (known_L _ (hGl.keep hp)) fun u w47 ⟨e1, e2⟩ a h => ?_)
  subst e1
  have hp := hp.below e2
  refine wsn h rfl fun a h => ?_
  refine wp_ret ?_
  try simp only [xqs]
  refine rt_1 h rfl (rvT h rfl) ?_
  exact ⟨_, rfl, rfl, hp.bel⟩
 have hopd := hb63
 refine wl (stp_on h rfl rfl rfl hb63 (vl h (mov h rfl) fun a h => ?_))
 refine wl (stp_on h rfl rfl rfl hb63 (vl h (mov h rfl) fun a h => ?_))
 refine wl (stp_on h rfl rfl rfl hb63 (vl h (eqi h rfl rfl) fun a h => ?_))
 refine wvl h (pckF h rfl hb63 rfl) fun a h => ?_
 refine wmv h rfl fun a h => ?_
 refine split (t := 223) h rfl (fun hb64 => ?_) (fun hb64 => ?_)
 ·refine wl (stp_off h rfl rfl rfl rfl rfl hb64 fun a h => ?_)
  refine wl (stp_off h rfl rfl rfl rfl rfl hb64 fun a h => ?_)
  refine wvl h (pckT h rfl hb64 rfl) fun a h => ?_
  refine wn ?_
  refine cnd1 h rfl (fun _ => ?_) (fun e => nomatch e)
  refine rg ?_
  refine wl (cal h rfl en10 (known_L _ (hGl.keep hp)) fun u w48 ⟨e1, e2⟩ a h => ?_)
  subst e1
  have hp := hp.below e2
  refine wsn h rfl fun a h => ?_
  refine wp_ret ?_
  try simp only [xqs]
  refine rt_1 h rfl (rvT h rfl) ?_
  exact ⟨_, rfl, rfl, hp.bel⟩
 have hor := hb64
 refine wl (stp_on h rfl rfl rfl hb64 (vl h (mov h rfl) fun a h => ?_))
 refine wl (stp_on h rfl rfl rfl hb64 (vl h (nei h rfl rfl) fun a h => ?_))
 refine wvl h (pckF h rfl hb64 rfl) fun a h => ?_
 refine wn ?_
 refine cnd1 h rfl (fun hb65 => ?_) (fun hb65 => ?_)
 ·refine rg ?_
  refine wl (cal h rfl en10 (known_L _ (hGl.keep hp)) fun u w49 ⟨e1, e2⟩ a h => ?_)
  subst e1
  have hp := hp.below e2
  refine wsn h rfl fun a h => ?_
  refine wp_ret ?_
  try simp only [xqs]
  refine rt_1 h rfl (rvT h rfl) ?_
  exact ⟨_, rfl, rfl, hp.bel⟩
 exact absurd hb65 (by decide)
set_option maxHeartbeats 8000000 in
theorem EclipseLines_2 (s : SV) (l : List Ball) (p r o px py : Int) (w : World) (hR : Rd w encL 3 s.v l) (hGl : Glb w) (hb : isBalls l = true) (h1 : inR p 0 ((l.length : Int) - 1) = true) (h2 : inR r 0 ((l.length : Int) - 1) = true) (h3 : inR o 0 ((l.length : Int) - 1) = true) (hpr : p ≠ r) (y z t : Ball) (hy : l[p.toNat]? = some y) (hz : l[r.toNat]? = some z) (ht : l[o.toNat]? = some t) (hw : shadesB y z = 2) : Ret Tryz.prog 7 #[s.v, .int .i64 p, .int .i64 r, .int .i64 o, .int .i64 px, .int .i64 py] w fun u w' => u = .bool true ∧ Below w.heap.size w w' := by
 have hfit := hR.fits
 have h1b := h1
 have h2b := h2
 have h3b := h3
 simp only [inR, Bool.and_eq_true, decide_eq_true_eq] at h1b h2b h3b
 have hln := balls_len hb
 have hyB := balls_bd hb y (List.mem_of_getElem? hy)
 have hzB := balls_bd hb z (List.mem_of_getElem? hz)
 have htB := balls_bd hb t (List.mem_of_getElem? ht)
 have hpq := nb_of hb h1 h2 hpr
 have hqp := nb_of hb h2 h1 (Ne.symm hpr)
 have hyx := hyB.x
 have hyy := hyB.y
 have hyr := hyB.r
 have hzx := hzB.x
 have hzy := hzB.y
 have hzr := hzB.r
 have hw1 : shadesB y z ≠ 1 := by rw [hw]; decide
 have hlt := before_of hw1
 have hv : shadesB z y = 1 := shades_lit (Int.le_of_lt hlt)
 have hp : Hp c0 w w [] := Hp.start trivial
 refine enter Tryz.func7 rfl (N := 259) rfl rfl fun a h => ?_
 refine rg ?_
 refine wsn h rfl fun a h => ?_
 refine wp_seq ?_
 refine rg ?_
 refine wmv h rfl fun a h => ?_
 refine wvl h (lenR h rfl Tryz.underlying37 (hR.keep (by decide) hp cl0)) fun a h => ?_
 refine wvl h (gtr h rfl rfl) fun a h => ?_
 refine wmv h rfl fun a h => ?_
 refine split (t := 28) h rfl (fun hb1 => ?_) (fun hb1 => ?_)
 ·exact absurd hb1 (by first | decide | (simp only [Bool.not_eq_true', Bool.not_eq_false', Bool.not_eq_true, Bool.not_eq_false, decide_eq_true_eq, decide_eq_false_iff_not, gt_iff_lt, ge_iff_le]; omega) | (simp; done))
 refine wl (stp_on h rfl rfl rfl hb1 (vl h (mov h rfl) fun a h => ?_))
 refine wl (stp_on h rfl rfl rfl hb1 (cal h rfl en20 (Balls_R _ _ _ (hR.keep (by decide) hp cl0)) fun u w1 ⟨e1, e2⟩ a h => ?_))
 subst e1
 have hp := hp.below e2
 refine wl (stp_on h rfl rfl rfl hb1 (vl h (not_ h rfl) fun a h => ?_))
 refine wvl h (pckF h rfl hb1 rfl) fun a h => ?_
 refine wmv h rfl fun a h => ?_
 refine split (t := 33) h rfl (fun hb2 => ?_) (fun hb2 => ?_)
 ·exact absurd hb2 (by rw [hb]; decide)
 refine wl (stp_on h rfl rfl rfl hb2 (vl h (mov h rfl) fun a h => ?_))
 refine wl (stp_on h rfl rfl rfl hb2 (vl h (mov h rfl) fun a h => ?_))
 refine wl (stp_on h rfl rfl rfl hb2 (cal h rfl en23 (Ball_R _ _ _ _ (hR.keep (by decide) hp cl0)) fun u w2 ⟨e1, e2⟩ a h => ?_))
 subst e1
 have hp := hp.below e2
 refine wl (stp_on h rfl rfl rfl hb2 (vl h (not_ h rfl) fun a h => ?_))
 refine wvl h (pckF h rfl hb2 rfl) fun a h => ?_
 refine wmv h rfl fun a h => ?_
 refine split (t := 39) h rfl (fun hb3 => ?_) (fun hb3 => ?_)
 ·exact absurd hb3 (by rw [h1]; decide)
 refine wl (stp_on h rfl rfl rfl hb3 (vl h (mov h rfl) fun a h => ?_))
 refine wl (stp_on h rfl rfl rfl hb3 (vl h (mov h rfl) fun a h => ?_))
 refine wl (stp_on h rfl rfl rfl hb3 (cal h rfl en23 (Ball_R _ _ _ _ (hR.keep (by decide) hp cl0)) fun u w3 ⟨e1, e2⟩ a h => ?_))
 subst e1
 have hp := hp.below e2
 refine wl (stp_on h rfl rfl rfl hb3 (vl h (not_ h rfl) fun a h => ?_))
 refine wvl h (pckF h rfl hb3 rfl) fun a h => ?_
 refine wmv h rfl fun a h => ?_
 refine split (t := 45) h rfl (fun hb4 => ?_) (fun hb4 => ?_)
 ·exact absurd hb4 (by rw [h2]; decide)
 refine wl (stp_on h rfl rfl rfl hb4 (vl h (mov h rfl) fun a h => ?_))
 refine wl (stp_on h rfl rfl rfl hb4 (vl h (mov h rfl) fun a h => ?_))
 refine wl (stp_on h rfl rfl rfl hb4 (cal h rfl en23 (Ball_R _ _ _ _ (hR.keep (by decide) hp cl0)) fun u w4 ⟨e1, e2⟩ a h => ?_))
 subst e1
 have hp := hp.below e2
 refine wl (stp_on h rfl rfl rfl hb4 (vl h (not_ h rfl) fun a h => ?_))
 refine wvl h (pckF h rfl hb4 rfl) fun a h => ?_
 refine wmv h rfl fun a h => ?_
 refine split (t := 51) h rfl (fun hb5 => ?_) (fun hb5 => ?_)
 ·exact absurd hb5 (by rw [h3]; decide)
 refine wl (stp_on h rfl rfl rfl hb5 (vl h (mov h rfl) fun a h => ?_))
 refine wl (stp_on h rfl rfl rfl hb5 (vl h (mov h rfl) fun a h => ?_))
 refine wl (stp_on h rfl rfl rfl hb5 (vl h (eqi h rfl rfl) fun a h => ?_))
 refine wvl h (pckF h rfl hb5 rfl) fun a h => ?_
 refine wn ?_
 refine cnd1 h rfl (fun hb6 => ?_) (fun hb6 => ?_)
 ·exact absurd hb6 (by simpa using hpr)
 refine skp ?_
 refine rg ?_
 refine wm3 h rfl rfl rfl rfl rfl rfl fun a h => ?_
 refine wl (cal h rfl en18 (Shades_w (hR.keep (by decide) hp cl0) hpq hy hz hw) fun u w5 ⟨e1, e2⟩ a h => ?_)
 subst e1
 have hp := hp.below e2
 refine wmv h rfl fun a h => ?_
 refine wvl h (ext h rfl rfl) fun a h => ?_
 refine wvl h (ext h rfl rfl) fun a h => ?_
 refine ws2 h rfl rfl rfl rfl fun a h => ?_
 refine rg ?_
 refine wm3 h rfl rfl rfl rfl rfl rfl fun a h => ?_
 refine wl (cal h rfl en18 (Shades_w (hR.keep (by decide) hp cl0) hqp hz hy hv) fun u w6 ⟨e1, e2⟩ a h => ?_)
 subst e1
 have hp := hp.below e2
 refine wmv h rfl fun a h => ?_
 refine wvl h (ext h rfl rfl) fun a h => ?_
 refine wvl h (ext h rfl rfl) fun a h => ?_
 refine ws2 h rfl rfl rfl rfl fun a h => ?_
 refine rg ?_
 refine wmv h rfl fun a h => ?_
 refine wl (cal h rfl en25 (turned_L _ _ _ _ (hR.keep (by decide) hp cl0) hb) fun u w7 ⟨⟨s20, e1, hf⟩, e2⟩ a h => ?_)
 subst e1
 have hp := hp.got (hp.below e2) (by decide) hf
 refine wm2 h rfl rfl rfl rfl fun a h => ?_
 refine wl (cal h rfl en18 (Shades_tw false (hp.rdF (i := 0) rfl) hpq hy hz hw) fun u w8 ⟨e1, e2⟩ a h => ?_)
 subst e1
 have hp := hp.below e2
 refine wmv h rfl fun a h => ?_
 refine wvl h (ext h rfl rfl) fun a h => ?_
 refine wvl h (ext h rfl rfl) fun a h => ?_
 refine ws2 h rfl rfl rfl rfl fun a h => ?_
 refine rg ?_
 refine wmv h rfl fun a h => ?_
 refine wl (cal h rfl en25 (turned_L _ _ _ _ (hR.keep (by decide) hp cl0) hb) fun u w9 ⟨⟨s21, e1, hf⟩, e2⟩ a h => ?_)
 subst e1
 have hp := hp.got (hp.below e2) (by decide) hf
 refine wm2 h rfl rfl rfl rfl fun a h => ?_
 refine wl (cal h rfl en18 (Shades_tw true (hp.rdF (i := 1) rfl) hpq hy hz hw) fun u w10 ⟨e1, e2⟩ a h => ?_)
 subst e1
 have hp := hp.below e2
 refine wmv h rfl fun a h => ?_
 refine wvl h (ext h rfl rfl) fun a h => ?_
 refine wvl h (ext h rfl rfl) fun a h => ?_
 refine ws2 h rfl rfl rfl rfl fun a h => ?_
 refine wp_seq ?_
 refine rg ?_
 refine wmv h rfl fun a h => ?_
 refine wvl h (nei h rfl rfl) fun a h => ?_
 refine wmv h rfl fun a h => ?_
 refine split (t := 89) h rfl (fun hb7 => ?_) (fun hb7 => ?_)
 ·exact absurd hb7 (by decide)
 refine wl (stp_on h rfl rfl rfl hb7 (vl h (mov h rfl) fun a h => ?_))
 refine wl (stp_on h rfl rfl rfl hb7 (vl h (nei h rfl rfl) fun a h => ?_))
 refine wvl h (pckF h rfl hb7 rfl) fun a h => ?_
 refine wmv h rfl fun a h => ?_
 refine split (t := 93) h rfl (fun hb8 => ?_) (fun hb8 => ?_)
 ·exact absurd hb8 (by decide)
 refine wl (stp_on h rfl rfl rfl hb8 (vl h (mov h rfl) fun a h => ?_))
 refine wl (stp_on h rfl rfl rfl hb8 (vl h (nei h rfl rfl) fun a h => ?_))
 refine wvl h (pckF h rfl hb8 rfl) fun a h => ?_
 refine wmv h rfl fun a h => ?_
 refine split (t := 97) h rfl (fun hb9 => ?_) (fun hb9 => ?_)
 ·exact absurd hb9 (by decide)
 refine wl (stp_on h rfl rfl rfl hb9 (vl h (mov h rfl) fun a h => ?_))
 refine wl (stp_on h rfl rfl rfl hb9 (vl h (nei h rfl rfl) fun a h => ?_))
 refine wvl h (pckF h rfl hb9 rfl) fun a h => ?_
 refine wmv h rfl fun a h => ?_
 refine split (t := 101) h rfl (fun hb10 => ?_) (fun hb10 => ?_)
 ·exact absurd hb10 (by decide)
 refine wl (stp_on h rfl rfl rfl hb10 (vl h (mov h rfl) fun a h => ?_))
 refine wl (stp_on h rfl rfl rfl hb10 (vl h (mov h rfl) fun a h => ?_))
 refine wl (stp_on h rfl rfl rfl hb10 (vl h (nei h rfl rfl) fun a h => ?_))
 refine wvl h (pckF h rfl hb10 rfl) fun a h => ?_
 refine wmv h rfl fun a h => ?_
 refine split (t := 106) h rfl (fun hb11 => ?_) (fun hb11 => ?_)
 ·exact absurd hb11 (by decide)
 refine wl (stp_on h rfl rfl rfl hb11 (vl h (mov h rfl) fun a h => ?_))
 refine wl (stp_on h rfl rfl rfl hb11 (vl h (mov h rfl) fun a h => ?_))
 refine wl (stp_on h rfl rfl rfl hb11 (vl h (nei h rfl rfl) fun a h => ?_))
 refine wvl h (pckF h rfl hb11 rfl) fun a h => ?_
 refine wmv h rfl fun a h => ?_
 refine split (t := 111) h rfl (fun hb12 => ?_) (fun hb12 => ?_)
 ·exact absurd hb12 (by decide)
 refine wl (stp_on h rfl rfl rfl hb12 (vl h (mov h rfl) fun a h => ?_))
 refine wl (stp_on h rfl rfl rfl hb12 (vl h (nei h rfl rfl) fun a h => ?_))
 refine wl (stp_on h rfl rfl rfl hb12 (vl h (mov h rfl) fun a h => ?_))
 refine split (t := 114) h rfl (fun hb13 => ?_) (fun hb13 => ?_)
 ·refine wl (stp_on h rfl rfl rfl hb13 (vl h (mov h rfl) fun a h => ?_))
  refine wl (stp_on h rfl rfl rfl hb13 (vl h (nei h rfl rfl) fun a h => ?_))
  refine wl (stp_on h rfl rfl rfl hb12 (vl h (pckT h rfl hb13 rfl) fun a h => ?_))
  refine wvl h (pckF h rfl hb12 rfl) fun a h => ?_
  refine wmv h rfl fun a h => ?_
  refine split (t := 119) h rfl (fun hb14 => ?_) (fun hb14 => ?_)
  ·exact absurd hb14 (by decide)
  refine wl (stp_on h rfl rfl rfl hb14 (vl h (mov h rfl) fun a h => ?_))
  refine wl (stp_on h rfl rfl rfl hb14 (vl h (lss h rfl rfl) fun a h => ?_))
  refine wvl h (pckF h rfl hb14 rfl) fun a h => ?_
  refine wmv h rfl fun a h => ?_
  refine split (t := 123) h rfl (fun hb15 => ?_) (fun hb15 => ?_)
  ·exact absurd hb15 (by decide)
  refine wl (stp_on h rfl rfl rfl hb15 (vl h (mov h rfl) fun a h => ?_))
  refine wl (stp_on h rfl rfl rfl hb15 (vl h (gtr h rfl rfl) fun a h => ?_))
  refine wvl h (pckF h rfl hb15 rfl) fun a h => ?_
  refine wn ?_
  refine cnd1 h rfl (fun hb16 => ?_) (fun hb16 => ?_)
  ·exact absurd hb16 (by decide)
  refine skp ?_
  refine wp_seq ?_
  refine rdh (n := 14) hp mixed rfl ?_
  have hp := hp.drew
  refine tkm 0 h rfl hp rfl fun a h => ?_
  refine tkq 1 h rfl hp (fun W _ => nei h rfl rfl) fun a h => ?_
  refine tkm 2 h rfl hp rfl fun a h => ?_
  refine split (t := 129) h rfl (fun hb17 => ?_) (fun hb17 => ?_)
  ·refine tk_on 3 h rfl (by kernel_rfl) (fun _ _ _ q => q) hp rfl rfl rfl rfl rfl hb17 (fun W _ => mov h rfl) fun a h => ?_
   refine tk_on 4 h rfl (by kernel_rfl) (fun _ _ _ q => q) hp rfl rfl rfl rfl rfl hb17 (fun W _ => mov h rfl) fun a h => ?_
   refine tk_on 5 h rfl (by kernel_rfl) (fun _ _ _ q => q) hp rfl rfl rfl rfl rfl hb17 (fun W hp => iadR (p.toNat) h rfl rfl Tryz.underlying37 sz51 (hR.keep (by decide) hp cl0) (by omega) (by omega)) fun a h => ?_
   refine tk_on 6 h rfl (by kernel_rfl) (fun _ _ _ q => q) hp rfl rfl rfl rfl rfl hb17 (fun W hp => ldE h (hR.keep (by decide) hp cl0) hy rfl ag51 sz51) fun a h => ?_
   refine tk_on 7 h rfl (by kernel_rfl) (fun _ _ _ q => q) hp rfl rfl rfl rfl rfl hb17 (fun W _ => mov h rfl) fun a h => ?_
   refine tk_on 8 h rfl (by kernel_rfl) (fun _ _ _ q => q) hp rfl rfl rfl rfl rfl hb17 (fun W _ => mov h rfl) fun a h => ?_
   refine tk_on 9 h rfl (by kernel_rfl) (fun _ _ _ q => q) hp rfl rfl rfl rfl rfl hb17 (fun W hp => iadR (r.toNat) h rfl rfl Tryz.underlying37 sz51 (hR.keep (by decide) hp cl0) (by omega) (by omega)) fun a h => ?_
   refine tk_on 10 h rfl (by kernel_rfl) (fun _ _ _ q => q) hp rfl rfl rfl rfl rfl hb17 (fun W hp => ldE h (hR.keep (by decide) hp cl0) hz rfl ag51 sz51) fun a h => ?_
   refine one 11 (by kernel_rfl) rfl (stp_on h rfl rfl rfl hb17 (cal h rfl en26 (Before_R y z _ hyx hyy hyr hzx hzy hzr) fun u w11 ⟨e1, e2⟩ a h => ⟨hp.below e2, ?_⟩))
   subst e1
   have hp := hp.below e2
   refine tk_on 12 h rfl (by kernel_rfl) (fun _ _ _ q => q) hp rfl rfl rfl rfl rfl hb17 (fun W _ => not_ h rfl) fun a h => ?_
   refine tkq 13 h rfl hp (fun W _ => pckT h rfl hb17 rfl) fun a h => ?_
   refine dn (by kernel_rfl) ?_
   refine cnd1 h rfl (fun hb18 => ?_) (fun hb18 => ?_)
   ·exact absurd hb18 (by have hq9 := hlt; simp only [Ball.pow] at hq9; simp only [Bool.not_eq_true', Bool.not_eq_true, decide_eq_false_iff_not]; omega)
   refine skp ?_
   refine wp_seq ?_
   refine rg ?_
   refine wmv h rfl fun a h => ?_
   refine wvl h (geq h rfl rfl) fun a h => ?_
   refine wmv h rfl fun a h => ?_
   refine split (t := 143) h rfl (fun hb19 => ?_) (fun hb19 => ?_)
   ·have ha1 := hb19
    refine wl (stp_on h rfl rfl rfl hb19 (vl h (mov h rfl) fun a h => ?_))
    refine wl (stp_on h rfl rfl rfl hb19 (vl h (leq h rfl rfl) fun a h => ?_))
    refine wvl h (pckT h rfl hb19 rfl) fun a h => ?_
    refine wmv h rfl fun a h => ?_
    refine split (t := 147) h rfl (fun hb20 => ?_) (fun hb20 => ?_)
    ·have ha2 := hb20
     refine wl (stp_on h rfl rfl rfl hb20 (vl h (mov h rfl) fun a h => ?_))
     refine wl (stp_on h rfl rfl rfl hb20 (vl h (geq h rfl rfl) fun a h => ?_))
     refine wvl h (pckT h rfl hb20 rfl) fun a h => ?_
     refine wmv h rfl fun a h => ?_
     refine split (t := 151) h rfl (fun hb21 => ?_) (fun hb21 => ?_)
     ·have ha3 := hb21
      refine wl (stp_on h rfl rfl rfl hb21 (vl h (mov h rfl) fun a h => ?_))
      refine wl (stp_on h rfl rfl rfl hb21 (vl h (leq h rfl rfl) fun a h => ?_))
      refine wvl h (pckT h rfl hb21 rfl) fun a h => ?_
      refine wmv h rfl fun a h => ?_
      refine split (t := 155) h rfl (fun hb22 => ?_) (fun hb22 => ?_)
      ·have ha4 := hb22
       refine wl (stp_on h rfl rfl rfl hb22 (vl h (mov h rfl) fun a h => ?_))
       refine wl (stp_on h rfl rfl rfl hb22 (vl h (nei h rfl rfl) fun a h => ?_))
       refine wl (stp_on h rfl rfl rfl hb22 (vl h (mov h rfl) fun a h => ?_))
       refine split (t := 158) h rfl (fun hb23 => ?_) (fun hb23 => ?_)
       ·have ha5 := hb23
        have hpx : -1000 ≤ px ∧ px ≤ 1000 := ⟨of_decide_eq_true ha1, of_decide_eq_true ha2⟩
        have hpy : -1000 ≤ py ∧ py ≤ 1000 := ⟨of_decide_eq_true ha3, of_decide_eq_true ha4⟩
        have hQ : 0 < px * px + py * py := by have q1 := Geo.sq_nonneg px; have q2 := Geo.sq_nonneg py; have q3 := sq_pos (x := px) (by have hq8 := ha5; simpa using hq8); omega
        refine wl (stp_off h rfl rfl rfl rfl rfl hb23 fun a h => ?_)
        refine wl (stp_off h rfl rfl rfl rfl rfl hb23 fun a h => ?_)
        refine wl (stp_on h rfl rfl rfl hb22 (vl h (pckT h rfl hb23 rfl) fun a h => ?_))
        refine wvl h (pckT h rfl hb22 rfl) fun a h => ?_
        refine wn ?_
        refine cnd1 h rfl (fun _ => ?_) (fun e => nomatch e)
        refine wp_seq ?_
        refine rg ?_
        refine wmv h rfl fun a h => ?_
        refine wvl h (eqi h rfl rfl) fun a h => ?_
        refine wmv h rfl fun a h => ?_
        refine split (t := 165) h rfl (fun hb24 => ?_) (fun hb24 => ?_)
        ·exact absurd hb24 (by decide)
        refine wl (stp_off h rfl rfl rfl rfl rfl hb24 fun a h => ?_)
        refine wl (stp_off h rfl rfl rfl rfl rfl hb24 fun a h => ?_)
        refine wl (stp_off h rfl rfl rfl rfl rfl hb24 fun a h => ?_)
        refine wl (stp_off h rfl rfl rfl rfl rfl hb24 fun a h => ?_)
        refine wl (stp_off h rfl rfl rfl rfl rfl hb24 fun a h => ?_)
        refine wl (stp_off h rfl rfl rfl rfl rfl hb24 fun a h => ?_)
        refine wl (stp_off h rfl rfl rfl rfl rfl hb24 fun a h => ?_)
        refine wvl h (pckF h rfl hb24 rfl) fun a h => ?_
        refine wmv h rfl fun a h => ?_
        refine wl (stp_off h rfl rfl rfl rfl rfl rfl fun a h => ?_)
        refine wl (stp_off h rfl rfl rfl rfl rfl rfl fun a h => ?_)
        refine wl (stp_off h rfl rfl rfl rfl rfl rfl fun a h => ?_)
        refine wl (stp_off h rfl rfl rfl rfl rfl rfl fun a h => ?_)
        refine wl (stp_off h rfl rfl rfl rfl rfl rfl fun a h => ?_)
        refine wl (stp_off h rfl rfl rfl rfl rfl rfl fun a h => ?_)
        refine wl (stp_off h rfl rfl rfl rfl rfl rfl fun a h => ?_)
        refine wl (stp_off h rfl rfl rfl rfl rfl rfl fun a h => ?_)
        refine wvl h (pckF h rfl rfl rfl) fun a h => ?_
        refine wn ?_
        refine cnd1 h rfl (fun e => nomatch e) (fun _ => ?_)
        refine skp ?_
        refine rdh (n := 31) hp mixed rfl ?_
        have hp := hp.drew
        refine tkm 0 h rfl hp rfl fun a h => ?_
        refine tkq 1 h rfl hp (fun W _ => eqi h rfl rfl) fun a h => ?_
        refine tkm 2 h rfl hp rfl fun a h => ?_
        refine split (t := 186) h rfl (fun hb25 => ?_) (fun hb25 => ?_)
        ·exact absurd hb25 (by decide)
        refine tkG 3 h rfl hp rfl rfl rfl hb25 fun a h => ?_
        refine tkG 4 h rfl hp rfl rfl rfl hb25 fun a h => ?_
        refine tkG 5 h rfl hp rfl rfl rfl hb25 fun a h => ?_
        refine tkG 6 h rfl hp rfl rfl rfl hb25 fun a h => ?_
        refine tkG 7 h rfl hp rfl rfl rfl hb25 fun a h => ?_
        refine tkG 8 h rfl hp rfl rfl rfl hb25 fun a h => ?_
        refine tkG 9 h rfl hp rfl rfl rfl hb25 fun a h => ?_
        refine tkG 10 h rfl hp rfl rfl rfl hb25 fun a h => ?_
        refine tkG 11 h rfl hp rfl rfl rfl hb25 fun a h => ?_
        refine tkq 12 h rfl hp (fun W _ => pckF h rfl hb25 rfl) fun a h => ?_
        refine tkm 13 h rfl hp rfl fun a h => ?_
        refine tkG 14 h rfl hp rfl rfl rfl rfl fun a h => ?_
        refine tkG 15 h rfl hp rfl rfl rfl rfl fun a h => ?_
        refine tkG 16 h rfl hp rfl rfl rfl rfl fun a h => ?_
        refine tkG 17 h rfl hp rfl rfl rfl rfl fun a h => ?_
        refine tkG 18 h rfl hp rfl rfl rfl rfl fun a h => ?_
        refine tkG 19 h rfl hp rfl rfl rfl rfl fun a h => ?_
        refine tkG 20 h rfl hp rfl rfl rfl rfl fun a h => ?_
        refine tkq 21 h rfl hp (fun W _ => pckF h rfl rfl rfl) fun a h => ?_
        refine tkm 22 h rfl hp rfl fun a h => ?_
        refine tkG 23 h rfl hp rfl rfl rfl rfl fun a h => ?_
        refine tkG 24 h rfl hp rfl rfl rfl rfl fun a h => ?_
        refine tkG 25 h rfl hp rfl rfl rfl rfl fun a h => ?_
        refine tkG 26 h rfl hp rfl rfl rfl rfl fun a h => ?_
        refine tkG 27 h rfl hp rfl rfl rfl rfl fun a h => ?_
        refine tkG 28 h rfl hp rfl rfl rfl rfl fun a h => ?_
        refine tkG 29 h rfl hp rfl rfl rfl rfl fun a h => ?_
        refine tkq 30 h rfl hp (fun W _ => pckF h rfl rfl rfl) fun a h => ?_
        refine dn (by kernel_rfl) ?_
        refine cnd1 h rfl (fun e => nomatch e) (fun _ => ?_)
        refine skp ?_
        refine wp_seq ?_
        refine rg ?_
        refine wm2 h rfl rfl rfl rfl fun a h => ?_
        refine wvl h (eqi h rfl rfl) fun a h => ?_
        refine wmv h rfl fun a h => ?_
        refine split (t := 218) h rfl (fun hb26 => ?_) (fun hb26 => ?_)
        ·refine wl (stp_off h rfl rfl rfl rfl rfl hb26 fun a h => ?_)
         refine wl (stp_off h rfl rfl rfl rfl rfl hb26 fun a h => ?_)
         refine wl (stp_off h rfl rfl rfl rfl rfl hb26 fun a h => ?_)
         refine wvl h (pckT h rfl hb26 rfl) fun a h => ?_
         refine wmv h rfl fun a h => ?_
         refine wl (stp_off h rfl rfl rfl rfl rfl rfl fun a h => ?_)
         refine wl (stp_off h rfl rfl rfl rfl rfl rfl fun a h => ?_)
         refine wvl h (pckT h rfl rfl rfl) fun a h => ?_
         refine wn ?_
         refine cnd1 h rfl (fun _ => ?_) (fun e => nomatch e)
         refine rg ?_
         refine wl (cal h rfl en10 (known_L _ (hGl.keep hp)) fun u w12 ⟨e1, e2⟩ a h => ?_)
         subst e1
         have hp := hp.below e2
         refine wsn h rfl fun a h => ?_
         refine wp_ret ?_
         try simp only [xqs]
         refine rt_1 h rfl (rvT h rfl) ?_
         exact ⟨_, rfl, rfl, hp.bel⟩
        have hopd := hb26
        refine wl (stp_on h rfl rfl rfl hb26 (vl h (mov h rfl) fun a h => ?_))
        refine wl (stp_on h rfl rfl rfl hb26 (vl h (mov h rfl) fun a h => ?_))
        refine wl (stp_on h rfl rfl rfl hb26 (vl h (eqi h rfl rfl) fun a h => ?_))
        refine wvl h (pckF h rfl hb26 rfl) fun a h => ?_
        refine wmv h rfl fun a h => ?_
        refine split (t := 223) h rfl (fun hb27 => ?_) (fun hb27 => ?_)
        ·refine wl (stp_off h rfl rfl rfl rfl rfl hb27 fun a h => ?_)
         refine wl (stp_off h rfl rfl rfl rfl rfl hb27 fun a h => ?_)
         refine wvl h (pckT h rfl hb27 rfl) fun a h => ?_
         refine wn ?_
         refine cnd1 h rfl (fun _ => ?_) (fun e => nomatch e)
         refine rg ?_
         refine wl (cal h rfl en10 (known_L _ (hGl.keep hp)) fun u w13 ⟨e1, e2⟩ a h => ?_)
         subst e1
         have hp := hp.below e2
         refine wsn h rfl fun a h => ?_
         refine wp_ret ?_
         try simp only [xqs]
         refine rt_1 h rfl (rvT h rfl) ?_
         exact ⟨_, rfl, rfl, hp.bel⟩
        have hor := hb27
        refine wl (stp_on h rfl rfl rfl hb27 (vl h (mov h rfl) fun a h => ?_))
        refine wl (stp_on h rfl rfl rfl hb27 (vl h (nei h rfl rfl) fun a h => ?_))
        refine wvl h (pckF h rfl hb27 rfl) fun a h => ?_
        refine wn ?_
        refine cnd1 h rfl (fun hb28 => ?_) (fun hb28 => ?_)
        ·refine rg ?_
         refine wl (cal h rfl en10 (known_L _ (hGl.keep hp)) fun u w14 ⟨e1, e2⟩ a h => ?_)
         subst e1
         have hp := hp.below e2
         refine wsn h rfl fun a h => ?_
         refine wp_ret ?_
         try simp only [xqs]
         refine rt_1 h rfl (rvT h rfl) ?_
         exact ⟨_, rfl, rfl, hp.bel⟩
        exact absurd hb28 (by decide)
       refine wl (stp_on h rfl rfl rfl hb23 (vl h (mov h rfl) fun a h => ?_))
       refine wl (stp_on h rfl rfl rfl hb23 (vl h (nei h rfl rfl) fun a h => ?_))
       refine wl (stp_on h rfl rfl rfl hb22 (vl h (pckF h rfl hb23 rfl) fun a h => ?_))
       refine wvl h (pckT h rfl hb22 rfl) fun a h => ?_
       refine wn ?_
       refine cnd1 h rfl (fun hb29 => ?_) (fun hb29 => ?_)
       ·have hpx : -1000 ≤ px ∧ px ≤ 1000 := ⟨of_decide_eq_true ha1, of_decide_eq_true ha2⟩
        have hpy : -1000 ≤ py ∧ py ≤ 1000 := ⟨of_decide_eq_true ha3, of_decide_eq_true ha4⟩
        have hQ : 0 < px * px + py * py := by have q1 := Geo.sq_nonneg px; have q2 := Geo.sq_nonneg py; have q3 := sq_pos (x := py) (by have hq8 := hb29; simpa using hq8); omega
        refine wp_seq ?_
        refine rg ?_
        refine wmv h rfl fun a h => ?_
        refine wvl h (eqi h rfl rfl) fun a h => ?_
        refine wmv h rfl fun a h => ?_
        refine split (t := 165) h rfl (fun hb30 => ?_) (fun hb30 => ?_)
        ·exact absurd hb30 (by decide)
        refine wl (stp_off h rfl rfl rfl rfl rfl hb30 fun a h => ?_)
        refine wl (stp_off h rfl rfl rfl rfl rfl hb30 fun a h => ?_)
        refine wl (stp_off h rfl rfl rfl rfl rfl hb30 fun a h => ?_)
        refine wl (stp_off h rfl rfl rfl rfl rfl hb30 fun a h => ?_)
        refine wl (stp_off h rfl rfl rfl rfl rfl hb30 fun a h => ?_)
        refine wl (stp_off h rfl rfl rfl rfl rfl hb30 fun a h => ?_)
        refine wl (stp_off h rfl rfl rfl rfl rfl hb30 fun a h => ?_)
        refine wvl h (pckF h rfl hb30 rfl) fun a h => ?_
        refine wmv h rfl fun a h => ?_
        refine wl (stp_off h rfl rfl rfl rfl rfl rfl fun a h => ?_)
        refine wl (stp_off h rfl rfl rfl rfl rfl rfl fun a h => ?_)
        refine wl (stp_off h rfl rfl rfl rfl rfl rfl fun a h => ?_)
        refine wl (stp_off h rfl rfl rfl rfl rfl rfl fun a h => ?_)
        refine wl (stp_off h rfl rfl rfl rfl rfl rfl fun a h => ?_)
        refine wl (stp_off h rfl rfl rfl rfl rfl rfl fun a h => ?_)
        refine wl (stp_off h rfl rfl rfl rfl rfl rfl fun a h => ?_)
        refine wl (stp_off h rfl rfl rfl rfl rfl rfl fun a h => ?_)
        refine wvl h (pckF h rfl rfl rfl) fun a h => ?_
        refine wn ?_
        refine cnd1 h rfl (fun e => nomatch e) (fun _ => ?_)
        refine skp ?_
        refine rdh (n := 31) hp mixed rfl ?_
        have hp := hp.drew
        refine tkm 0 h rfl hp rfl fun a h => ?_
        refine tkq 1 h rfl hp (fun W _ => eqi h rfl rfl) fun a h => ?_
        refine tkm 2 h rfl hp rfl fun a h => ?_
        refine split (t := 186) h rfl (fun hb31 => ?_) (fun hb31 => ?_)
        ·exact absurd hb31 (by decide)
        refine tkG 3 h rfl hp rfl rfl rfl hb31 fun a h => ?_
        refine tkG 4 h rfl hp rfl rfl rfl hb31 fun a h => ?_
        refine tkG 5 h rfl hp rfl rfl rfl hb31 fun a h => ?_
        refine tkG 6 h rfl hp rfl rfl rfl hb31 fun a h => ?_
        refine tkG 7 h rfl hp rfl rfl rfl hb31 fun a h => ?_
        refine tkG 8 h rfl hp rfl rfl rfl hb31 fun a h => ?_
        refine tkG 9 h rfl hp rfl rfl rfl hb31 fun a h => ?_
        refine tkG 10 h rfl hp rfl rfl rfl hb31 fun a h => ?_
        refine tkG 11 h rfl hp rfl rfl rfl hb31 fun a h => ?_
        refine tkq 12 h rfl hp (fun W _ => pckF h rfl hb31 rfl) fun a h => ?_
        refine tkm 13 h rfl hp rfl fun a h => ?_
        refine tkG 14 h rfl hp rfl rfl rfl rfl fun a h => ?_
        refine tkG 15 h rfl hp rfl rfl rfl rfl fun a h => ?_
        refine tkG 16 h rfl hp rfl rfl rfl rfl fun a h => ?_
        refine tkG 17 h rfl hp rfl rfl rfl rfl fun a h => ?_
        refine tkG 18 h rfl hp rfl rfl rfl rfl fun a h => ?_
        refine tkG 19 h rfl hp rfl rfl rfl rfl fun a h => ?_
        refine tkG 20 h rfl hp rfl rfl rfl rfl fun a h => ?_
        refine tkq 21 h rfl hp (fun W _ => pckF h rfl rfl rfl) fun a h => ?_
        refine tkm 22 h rfl hp rfl fun a h => ?_
        refine tkG 23 h rfl hp rfl rfl rfl rfl fun a h => ?_
        refine tkG 24 h rfl hp rfl rfl rfl rfl fun a h => ?_
        refine tkG 25 h rfl hp rfl rfl rfl rfl fun a h => ?_
        refine tkG 26 h rfl hp rfl rfl rfl rfl fun a h => ?_
        refine tkG 27 h rfl hp rfl rfl rfl rfl fun a h => ?_
        refine tkG 28 h rfl hp rfl rfl rfl rfl fun a h => ?_
        refine tkG 29 h rfl hp rfl rfl rfl rfl fun a h => ?_
        refine tkq 30 h rfl hp (fun W _ => pckF h rfl rfl rfl) fun a h => ?_
        refine dn (by kernel_rfl) ?_
        refine cnd1 h rfl (fun e => nomatch e) (fun _ => ?_)
        refine skp ?_
        refine wp_seq ?_
        refine rg ?_
        refine wm2 h rfl rfl rfl rfl fun a h => ?_
        refine wvl h (eqi h rfl rfl) fun a h => ?_
        refine wmv h rfl fun a h => ?_
        refine split (t := 218) h rfl (fun hb32 => ?_) (fun hb32 => ?_)
        ·refine wl (stp_off h rfl rfl rfl rfl rfl hb32 fun a h => ?_)
         refine wl (stp_off h rfl rfl rfl rfl rfl hb32 fun a h => ?_)
         refine wl (stp_off h rfl rfl rfl rfl rfl hb32 fun a h => ?_)
         refine wvl h (pckT h rfl hb32 rfl) fun a h => ?_
         refine wmv h rfl fun a h => ?_
         refine wl (stp_off h rfl rfl rfl rfl rfl rfl fun a h => ?_)
         refine wl (stp_off h rfl rfl rfl rfl rfl rfl fun a h => ?_)
         refine wvl h (pckT h rfl rfl rfl) fun a h => ?_
         refine wn ?_
         refine cnd1 h rfl (fun _ => ?_) (fun e => nomatch e)
         refine rg ?_
         refine wl (cal h rfl en10 (known_L _ (hGl.keep hp)) fun u w15 ⟨e1, e2⟩ a h => ?_)
         subst e1
         have hp := hp.below e2
         refine wsn h rfl fun a h => ?_
         refine wp_ret ?_
         try simp only [xqs]
         refine rt_1 h rfl (rvT h rfl) ?_
         exact ⟨_, rfl, rfl, hp.bel⟩
        have hopd := hb32
        refine wl (stp_on h rfl rfl rfl hb32 (vl h (mov h rfl) fun a h => ?_))
        refine wl (stp_on h rfl rfl rfl hb32 (vl h (mov h rfl) fun a h => ?_))
        refine wl (stp_on h rfl rfl rfl hb32 (vl h (eqi h rfl rfl) fun a h => ?_))
        refine wvl h (pckF h rfl hb32 rfl) fun a h => ?_
        refine wmv h rfl fun a h => ?_
        refine split (t := 223) h rfl (fun hb33 => ?_) (fun hb33 => ?_)
        ·refine wl (stp_off h rfl rfl rfl rfl rfl hb33 fun a h => ?_)
         refine wl (stp_off h rfl rfl rfl rfl rfl hb33 fun a h => ?_)
         refine wvl h (pckT h rfl hb33 rfl) fun a h => ?_
         refine wn ?_
         refine cnd1 h rfl (fun _ => ?_) (fun e => nomatch e)
         refine rg ?_
         refine wl (cal h rfl en10 (known_L _ (hGl.keep hp)) fun u w16 ⟨e1, e2⟩ a h => ?_)
         subst e1
         have hp := hp.below e2
         refine wsn h rfl fun a h => ?_
         refine wp_ret ?_
         try simp only [xqs]
         refine rt_1 h rfl (rvT h rfl) ?_
         exact ⟨_, rfl, rfl, hp.bel⟩
        have hor := hb33
        refine wl (stp_on h rfl rfl rfl hb33 (vl h (mov h rfl) fun a h => ?_))
        refine wl (stp_on h rfl rfl rfl hb33 (vl h (nei h rfl rfl) fun a h => ?_))
        refine wvl h (pckF h rfl hb33 rfl) fun a h => ?_
        refine wn ?_
        refine cnd1 h rfl (fun hb34 => ?_) (fun hb34 => ?_)
        ·refine rg ?_
         refine wl (cal h rfl en10 (known_L _ (hGl.keep hp)) fun u w17 ⟨e1, e2⟩ a h => ?_)
         subst e1
         have hp := hp.below e2
         refine wsn h rfl fun a h => ?_
         refine wp_ret ?_
         try simp only [xqs]
         refine rt_1 h rfl (rvT h rfl) ?_
         exact ⟨_, rfl, rfl, hp.bel⟩
        exact absurd hb34 (by decide)
       refine skp ?_
       refine wp_seq ?_
       refine rg ?_
       refine wm2 h rfl rfl rfl rfl fun a h => ?_
       refine wvl h (eqi h rfl rfl) fun a h => ?_
       refine wmv h rfl fun a h => ?_
       refine split (t := 218) h rfl (fun hb35 => ?_) (fun hb35 => ?_)
       ·refine wl (stp_off h rfl rfl rfl rfl rfl hb35 fun a h => ?_)
        refine wl (stp_off h rfl rfl rfl rfl rfl hb35 fun a h => ?_)
        refine wl (stp_off h rfl rfl rfl rfl rfl hb35 fun a h => ?_)
        refine wvl h (pckT h rfl hb35 rfl) fun a h => ?_
        refine wmv h rfl fun a h => ?_
        refine wl (stp_off h rfl rfl rfl rfl rfl rfl fun a h => ?_)
        refine wl (stp_off h rfl rfl rfl rfl rfl rfl fun a h => ?_)
        refine wvl h (pckT h rfl rfl rfl) fun a h => ?_
        refine wn ?_
        refine cnd1 h rfl (fun _ => ?_) (fun e => nomatch e)
        refine rg ?_
        refine wl (cal h rfl en10 (known_L _ (hGl.keep hp)) fun u w18 ⟨e1, e2⟩ a h => ?_)
        subst e1
        have hp := hp.below e2
        refine wsn h rfl fun a h => ?_
        refine wp_ret ?_
        try simp only [xqs]
        refine rt_1 h rfl (rvT h rfl) ?_
        exact ⟨_, rfl, rfl, hp.bel⟩
       have hopd := hb35
       refine wl (stp_on h rfl rfl rfl hb35 (vl h (mov h rfl) fun a h => ?_))
       refine wl (stp_on h rfl rfl rfl hb35 (vl h (mov h rfl) fun a h => ?_))
       refine wl (stp_on h rfl rfl rfl hb35 (vl h (eqi h rfl rfl) fun a h => ?_))
       refine wvl h (pckF h rfl hb35 rfl) fun a h => ?_
       refine wmv h rfl fun a h => ?_
       refine split (t := 223) h rfl (fun hb36 => ?_) (fun hb36 => ?_)
       ·refine wl (stp_off h rfl rfl rfl rfl rfl hb36 fun a h => ?_)
        refine wl (stp_off h rfl rfl rfl rfl rfl hb36 fun a h => ?_)
        refine wvl h (pckT h rfl hb36 rfl) fun a h => ?_
        refine wn ?_
        refine cnd1 h rfl (fun _ => ?_) (fun e => nomatch e)
        refine rg ?_
        refine wl (cal h rfl en10 (known_L _ (hGl.keep hp)) fun u w19 ⟨e1, e2⟩ a h => ?_)
        subst e1
        have hp := hp.below e2
        refine wsn h rfl fun a h => ?_
        refine wp_ret ?_
        try simp only [xqs]
        refine rt_1 h rfl (rvT h rfl) ?_
        exact ⟨_, rfl, rfl, hp.bel⟩
       have hor := hb36
       refine wl (stp_on h rfl rfl rfl hb36 (vl h (mov h rfl) fun a h => ?_))
       refine wl (stp_on h rfl rfl rfl hb36 (vl h (nei h rfl rfl) fun a h => ?_))
       refine wvl h (pckF h rfl hb36 rfl) fun a h => ?_
       refine wn ?_
       refine cnd1 h rfl (fun hb37 => ?_) (fun hb37 => ?_)
       ·refine rg ?_
        refine wl (cal h rfl en10 (known_L _ (hGl.keep hp)) fun u w20 ⟨e1, e2⟩ a h => ?_)
        subst e1
        have hp := hp.below e2
        refine wsn h rfl fun a h => ?_
        refine wp_ret ?_
        try simp only [xqs]
        refine rt_1 h rfl (rvT h rfl) ?_
        exact ⟨_, rfl, rfl, hp.bel⟩
       exact absurd hb37 (by decide)
      refine wl (stp_off h rfl rfl rfl rfl rfl hb22 fun a h => ?_)
      refine wl (stp_off h rfl rfl rfl rfl rfl hb22 fun a h => ?_)
      refine wl (stp_off h rfl rfl rfl rfl rfl hb22 fun a h => ?_)
      refine wl (stp_un h rfl rfl rfl rfl rfl fun a h => ?_)
      refine wl (stp_un h rfl rfl rfl rfl rfl fun a h => ?_)
      refine wl (stp_off h rfl rfl rfl rfl rfl hb22 fun a h => ?_)
      refine wvl h (pckF h rfl hb22 rfl) fun a h => ?_
      refine wn ?_
      refine cnd1 h rfl (fun e => nomatch e) (fun _ => ?_)
      refine skp ?_
      refine wp_seq ?_
      refine rg ?_
      refine wm2 h rfl rfl rfl rfl fun a h => ?_
      refine wvl h (eqi h rfl rfl) fun a h => ?_
      refine wmv h rfl fun a h => ?_
      refine split (t := 218) h rfl (fun hb38 => ?_) (fun hb38 => ?_)
      ·refine wl (stp_off h rfl rfl rfl rfl rfl hb38 fun a h => ?_)
       refine wl (stp_off h rfl rfl rfl rfl rfl hb38 fun a h => ?_)
       refine wl (stp_off h rfl rfl rfl rfl rfl hb38 fun a h => ?_)
       refine wvl h (pckT h rfl hb38 rfl) fun a h => ?_
       refine wmv h rfl fun a h => ?_
       refine wl (stp_off h rfl rfl rfl rfl rfl rfl fun a h => ?_)
       refine wl (stp_off h rfl rfl rfl rfl rfl rfl fun a h => ?_)
       refine wvl h (pckT h rfl rfl rfl) fun a h => ?_
       refine wn ?_
       refine cnd1 h rfl (fun _ => ?_) (fun e => nomatch e)
       refine rg ?_
       refine wl (cal h rfl en10 (known_L _ (hGl.keep hp)) fun u w21 ⟨e1, e2⟩ a h => ?_)
       subst e1
       have hp := hp.below e2
       refine wsn h rfl fun a h => ?_
       refine wp_ret ?_
       try simp only [xqs]
       refine rt_1 h rfl (rvT h rfl) ?_
       exact ⟨_, rfl, rfl, hp.bel⟩
      have hopd := hb38
      refine wl (stp_on h rfl rfl rfl hb38 (vl h (mov h rfl) fun a h => ?_))
      refine wl (stp_on h rfl rfl rfl hb38 (vl h (mov h rfl) fun a h => ?_))
      refine wl (stp_on h rfl rfl rfl hb38 (vl h (eqi h rfl rfl) fun a h => ?_))
      refine wvl h (pckF h rfl hb38 rfl) fun a h => ?_
      refine wmv h rfl fun a h => ?_
      refine split (t := 223) h rfl (fun hb39 => ?_) (fun hb39 => ?_)
      ·refine wl (stp_off h rfl rfl rfl rfl rfl hb39 fun a h => ?_)
       refine wl (stp_off h rfl rfl rfl rfl rfl hb39 fun a h => ?_)
       refine wvl h (pckT h rfl hb39 rfl) fun a h => ?_
       refine wn ?_
       refine cnd1 h rfl (fun _ => ?_) (fun e => nomatch e)
       refine rg ?_
       refine wl (cal h rfl en10 (known_L _ (hGl.keep hp)) fun u w22 ⟨e1, e2⟩ a h => ?_)
       subst e1
       have hp := hp.below e2
       refine wsn h rfl fun a h => ?_
       refine wp_ret ?_
       try simp only [xqs]
       refine rt_1 h rfl (rvT h rfl) ?_
       exact ⟨_, rfl, rfl, hp.bel⟩
      have hor := hb39
      refine wl (stp_on h rfl rfl rfl hb39 (vl h (mov h rfl) fun a h => ?_))
      refine wl (stp_on h rfl rfl rfl hb39 (vl h (nei h rfl rfl) fun a h => ?_))
      refine wvl h (pckF h rfl hb39 rfl) fun a h => ?_
      refine wn ?_
      refine cnd1 h rfl (fun hb40 => ?_) (fun hb40 => ?_)
      ·refine rg ?_
       refine wl (cal h rfl en10 (known_L _ (hGl.keep hp)) fun u w23 ⟨e1, e2⟩ a h => ?_)
       subst e1
       have hp := hp.below e2
       refine wsn h rfl fun a h => ?_
       refine wp_ret ?_
       try simp only [xqs]
       refine rt_1 h rfl (rvT h rfl) ?_
       exact ⟨_, rfl, rfl, hp.bel⟩
      exact absurd hb40 (by decide)
     refine wl (stp_off h rfl rfl rfl rfl rfl hb21 fun a h => ?_)
     refine wl (stp_off h rfl rfl rfl rfl rfl hb21 fun a h => ?_)
     refine wvl h (pckF h rfl hb21 rfl) fun a h => ?_
     refine wmv h rfl fun a h => ?_
     refine wl (stp_off h rfl rfl rfl rfl rfl rfl fun a h => ?_)
     refine wl (stp_off h rfl rfl rfl rfl rfl rfl fun a h => ?_)
     refine wl (stp_off h rfl rfl rfl rfl rfl rfl fun a h => ?_)
     refine wl (stp_un h rfl rfl rfl rfl rfl fun a h => ?_)
     refine wl (stp_un h rfl rfl rfl rfl rfl fun a h => ?_)
     refine wl (stp_off h rfl rfl rfl rfl rfl rfl fun a h => ?_)
     refine wvl h (pckF h rfl rfl rfl) fun a h => ?_
     refine wn ?_
     refine cnd1 h rfl (fun e => nomatch e) (fun _ => ?_)
     refine skp ?_
     refine wp_seq ?_
     refine rg ?_
     refine wm2 h rfl rfl rfl rfl fun a h => ?_
     refine wvl h (eqi h rfl rfl) fun a h => ?_
     refine wmv h rfl fun a h => ?_
     refine split (t := 218) h rfl (fun hb41 => ?_) (fun hb41 => ?_)
     ·refine wl (stp_off h rfl rfl rfl rfl rfl hb41 fun a h => ?_)
      refine wl (stp_off h rfl rfl rfl rfl rfl hb41 fun a h => ?_)
      refine wl (stp_off h rfl rfl rfl rfl rfl hb41 fun a h => ?_)
      refine wvl h (pckT h rfl hb41 rfl) fun a h => ?_
      refine wmv h rfl fun a h => ?_
      refine wl (stp_off h rfl rfl rfl rfl rfl rfl fun a h => ?_)
      refine wl (stp_off h rfl rfl rfl rfl rfl rfl fun a h => ?_)
      refine wvl h (pckT h rfl rfl rfl) fun a h => ?_
      refine wn ?_
      refine cnd1 h rfl (fun _ => ?_) (fun e => nomatch e)
      refine rg ?_
      refine wl (cal h rfl en10 (known_L _ (hGl.keep hp)) fun u w24 ⟨e1, e2⟩ a h => ?_)
      subst e1
      have hp := hp.below e2
      refine wsn h rfl fun a h => ?_
      refine wp_ret ?_
      try simp only [xqs]
      refine rt_1 h rfl (rvT h rfl) ?_
      exact ⟨_, rfl, rfl, hp.bel⟩
     have hopd := hb41
     refine wl (stp_on h rfl rfl rfl hb41 (vl h (mov h rfl) fun a h => ?_))
     refine wl (stp_on h rfl rfl rfl hb41 (vl h (mov h rfl) fun a h => ?_))
     refine wl (stp_on h rfl rfl rfl hb41 (vl h (eqi h rfl rfl) fun a h => ?_))
     refine wvl h (pckF h rfl hb41 rfl) fun a h => ?_
     refine wmv h rfl fun a h => ?_
     refine split (t := 223) h rfl (fun hb42 => ?_) (fun hb42 => ?_)
     ·refine wl (stp_off h rfl rfl rfl rfl rfl hb42 fun a h => ?_)
      refine wl (stp_off h rfl rfl rfl rfl rfl hb42 fun a h => ?_)
      refine wvl h (pckT h rfl hb42 rfl) fun a h => ?_
      refine wn ?_
      refine cnd1 h rfl (fun _ => ?_) (fun e => nomatch e)
      refine rg ?_
      refine wl (cal h rfl en10 (known_L _ (hGl.keep hp)) fun u w25 ⟨e1, e2⟩ a h => ?_)
      subst e1
      have hp := hp.below e2
      refine wsn h rfl fun a h => ?_
      refine wp_ret ?_
      try simp only [xqs]
      refine rt_1 h rfl (rvT h rfl) ?_
      exact ⟨_, rfl, rfl, hp.bel⟩
     have hor := hb42
     refine wl (stp_on h rfl rfl rfl hb42 (vl h (mov h rfl) fun a h => ?_))
     refine wl (stp_on h rfl rfl rfl hb42 (vl h (nei h rfl rfl) fun a h => ?_))
     refine wvl h (pckF h rfl hb42 rfl) fun a h => ?_
     refine wn ?_
     refine cnd1 h rfl (fun hb43 => ?_) (fun hb43 => ?_)
     ·refine rg ?_
      refine wl (cal h rfl en10 (known_L _ (hGl.keep hp)) fun u w26 ⟨e1, e2⟩ a h => ?_)
      subst e1
      have hp := hp.below e2
      refine wsn h rfl fun a h => ?_
      refine wp_ret ?_
      try simp only [xqs]
      refine rt_1 h rfl (rvT h rfl) ?_
      exact ⟨_, rfl, rfl, hp.bel⟩
     exact absurd hb43 (by decide)
    refine wl (stp_off h rfl rfl rfl rfl rfl hb20 fun a h => ?_)
    refine wl (stp_off h rfl rfl rfl rfl rfl hb20 fun a h => ?_)
    refine wvl h (pckF h rfl hb20 rfl) fun a h => ?_
    refine wmv h rfl fun a h => ?_
    refine wl (stp_off h rfl rfl rfl rfl rfl rfl fun a h => ?_)
    refine wl (stp_off h rfl rfl rfl rfl rfl rfl fun a h => ?_)
    refine wvl h (pckF h rfl rfl rfl) fun a h => ?_
    refine wmv h rfl fun a h => ?_
    refine wl (stp_off h rfl rfl rfl rfl rfl rfl fun a h => ?_)
    refine wl (stp_off h rfl rfl rfl rfl rfl rfl fun a h => ?_)
    refine wl (stp_off h rfl rfl rfl rfl rfl rfl fun a h => ?_)
    refine wl (stp_un h rfl rfl rfl rfl rfl fun a h => ?_)
    refine wl (stp_un h rfl rfl rfl rfl rfl fun a h => ?_)
    refine wl (stp_off h rfl rfl rfl rfl rfl rfl fun a h => ?_)
    refine wvl h (pckF h rfl rfl rfl) fun a h => ?_
    refine wn ?_
    refine cnd1 h rfl (fun e => nomatch e) (fun _ => ?_)
    refine skp ?_
    refine wp_seq ?_
    refine rg ?_
    refine wm2 h rfl rfl rfl rfl fun a h => ?_
    refine wvl h (eqi h rfl rfl) fun a h => ?_
    refine wmv h rfl fun a h => ?_
    refine split (t := 218) h rfl (fun hb44 => ?_) (fun hb44 => ?_)
    ·refine wl (stp_off h rfl rfl rfl rfl rfl hb44 fun a h => ?_)
     refine wl (stp_off h rfl rfl rfl rfl rfl hb44 fun a h => ?_)
     refine wl (stp_off h rfl rfl rfl rfl rfl hb44 fun a h => ?_)
     refine wvl h (pckT h rfl hb44 rfl) fun a h => ?_
     refine wmv h rfl fun a h => ?_
     refine wl (stp_off h rfl rfl rfl rfl rfl rfl fun a h => ?_)
     refine wl (stp_off h rfl rfl rfl rfl rfl rfl fun a h => ?_)
     refine wvl h (pckT h rfl rfl rfl) fun a h => ?_
     refine wn ?_
     refine cnd1 h rfl (fun _ => ?_) (fun e => nomatch e)
     refine rg ?_
     refine wl (cal h rfl en10 (known_L _ (hGl.keep hp)) fun u w27 ⟨e1, e2⟩ a h => ?_)
     subst e1
     have hp := hp.below e2
     refine wsn h rfl fun a h => ?_
     refine wp_ret ?_
     try simp only [xqs]
     refine rt_1 h rfl (rvT h rfl) ?_
     exact ⟨_, rfl, rfl, hp.bel⟩
    have hopd := hb44
    refine wl (stp_on h rfl rfl rfl hb44 (vl h (mov h rfl) fun a h => ?_))
    refine wl (stp_on h rfl rfl rfl hb44 (vl h (mov h rfl) fun a h => ?_))
    refine wl (stp_on h rfl rfl rfl hb44 (vl h (eqi h rfl rfl) fun a h => ?_))
    refine wvl h (pckF h rfl hb44 rfl) fun a h => ?_
    refine wmv h rfl fun a h => ?_
    refine split (t := 223) h rfl (fun hb45 => ?_) (fun hb45 => ?_)
    ·refine wl (stp_off h rfl rfl rfl rfl rfl hb45 fun a h => ?_)
     refine wl (stp_off h rfl rfl rfl rfl rfl hb45 fun a h => ?_)
     refine wvl h (pckT h rfl hb45 rfl) fun a h => ?_
     refine wn ?_
     refine cnd1 h rfl (fun _ => ?_) (fun e => nomatch e)
     refine rg ?_
     refine wl (cal h rfl en10 (known_L _ (hGl.keep hp)) fun u w28 ⟨e1, e2⟩ a h => ?_)
     subst e1
     have hp := hp.below e2
     refine wsn h rfl fun a h => ?_
     refine wp_ret ?_
     try simp only [xqs]
     refine rt_1 h rfl (rvT h rfl) ?_
     exact ⟨_, rfl, rfl, hp.bel⟩
    have hor := hb45
    refine wl (stp_on h rfl rfl rfl hb45 (vl h (mov h rfl) fun a h => ?_))
    refine wl (stp_on h rfl rfl rfl hb45 (vl h (nei h rfl rfl) fun a h => ?_))
    refine wvl h (pckF h rfl hb45 rfl) fun a h => ?_
    refine wn ?_
    refine cnd1 h rfl (fun hb46 => ?_) (fun hb46 => ?_)
    ·refine rg ?_
     refine wl (cal h rfl en10 (known_L _ (hGl.keep hp)) fun u w29 ⟨e1, e2⟩ a h => ?_)
     subst e1
     have hp := hp.below e2
     refine wsn h rfl fun a h => ?_
     refine wp_ret ?_
     try simp only [xqs]
     refine rt_1 h rfl (rvT h rfl) ?_
     exact ⟨_, rfl, rfl, hp.bel⟩
    exact absurd hb46 (by decide)
   refine wl (stp_off h rfl rfl rfl rfl rfl hb19 fun a h => ?_)
   refine wl (stp_off h rfl rfl rfl rfl rfl hb19 fun a h => ?_)
   refine wvl h (pckF h rfl hb19 rfl) fun a h => ?_
   refine wmv h rfl fun a h => ?_
   refine wl (stp_off h rfl rfl rfl rfl rfl rfl fun a h => ?_)
   refine wl (stp_off h rfl rfl rfl rfl rfl rfl fun a h => ?_)
   refine wvl h (pckF h rfl rfl rfl) fun a h => ?_
   refine wmv h rfl fun a h => ?_
   refine wl (stp_off h rfl rfl rfl rfl rfl rfl fun a h => ?_)
   refine wl (stp_off h rfl rfl rfl rfl rfl rfl fun a h => ?_)
   refine wvl h (pckF h rfl rfl rfl) fun a h => ?_
   refine wmv h rfl fun a h => ?_
   refine wl (stp_off h rfl rfl rfl rfl rfl rfl fun a h => ?_)
   refine wl (stp_off h rfl rfl rfl rfl rfl rfl fun a h => ?_)
   refine wl (stp_off h rfl rfl rfl rfl rfl rfl fun a h => ?_)
   refine wl (stp_un h rfl rfl rfl rfl rfl fun a h => ?_)
   refine wl (stp_un h rfl rfl rfl rfl rfl fun a h => ?_)
   refine wl (stp_off h rfl rfl rfl rfl rfl rfl fun a h => ?_)
   refine wvl h (pckF h rfl rfl rfl) fun a h => ?_
   refine wn ?_
   refine cnd1 h rfl (fun e => nomatch e) (fun _ => ?_)
   refine skp ?_
   refine wp_seq ?_
   refine rg ?_
   refine wm2 h rfl rfl rfl rfl fun a h => ?_
   refine wvl h (eqi h rfl rfl) fun a h => ?_
   refine wmv h rfl fun a h => ?_
   refine split (t := 218) h rfl (fun hb47 => ?_) (fun hb47 => ?_)
   ·refine wl (stp_off h rfl rfl rfl rfl rfl hb47 fun a h => ?_)
    refine wl (stp_off h rfl rfl rfl rfl rfl hb47 fun a h => ?_)
    refine wl (stp_off h rfl rfl rfl rfl rfl hb47 fun a h => ?_)
    refine wvl h (pckT h rfl hb47 rfl) fun a h => ?_
    refine wmv h rfl fun a h => ?_
    refine wl (stp_off h rfl rfl rfl rfl rfl rfl fun a h => ?_)
    refine wl (stp_off h rfl rfl rfl rfl rfl rfl fun a h => ?_)
    refine wvl h (pckT h rfl rfl rfl) fun a h => ?_
    refine wn ?_
    refine cnd1 h rfl (fun _ => ?_) (fun e => nomatch e)
    refine rg ?_
    refine wl (cal h rfl en10 (known_L _ (hGl.keep hp)) fun u w30 ⟨e1, e2⟩ a h => ?_)
    subst e1
    have hp := hp.below e2
    refine wsn h rfl fun a h => ?_
    refine wp_ret ?_
    try simp only [xqs]
    refine rt_1 h rfl (rvT h rfl) ?_
    exact ⟨_, rfl, rfl, hp.bel⟩
   have hopd := hb47
   refine wl (stp_on h rfl rfl rfl hb47 (vl h (mov h rfl) fun a h => ?_))
   refine wl (stp_on h rfl rfl rfl hb47 (vl h (mov h rfl) fun a h => ?_))
   refine wl (stp_on h rfl rfl rfl hb47 (vl h (eqi h rfl rfl) fun a h => ?_))
   refine wvl h (pckF h rfl hb47 rfl) fun a h => ?_
   refine wmv h rfl fun a h => ?_
   refine split (t := 223) h rfl (fun hb48 => ?_) (fun hb48 => ?_)
   ·refine wl (stp_off h rfl rfl rfl rfl rfl hb48 fun a h => ?_)
    refine wl (stp_off h rfl rfl rfl rfl rfl hb48 fun a h => ?_)
    refine wvl h (pckT h rfl hb48 rfl) fun a h => ?_
    refine wn ?_
    refine cnd1 h rfl (fun _ => ?_) (fun e => nomatch e)
    refine rg ?_
    refine wl (cal h rfl en10 (known_L _ (hGl.keep hp)) fun u w31 ⟨e1, e2⟩ a h => ?_)
    subst e1
    have hp := hp.below e2
    refine wsn h rfl fun a h => ?_
    refine wp_ret ?_
    try simp only [xqs]
    refine rt_1 h rfl (rvT h rfl) ?_
    exact ⟨_, rfl, rfl, hp.bel⟩
   have hor := hb48
   refine wl (stp_on h rfl rfl rfl hb48 (vl h (mov h rfl) fun a h => ?_))
   refine wl (stp_on h rfl rfl rfl hb48 (vl h (nei h rfl rfl) fun a h => ?_))
   refine wvl h (pckF h rfl hb48 rfl) fun a h => ?_
   refine wn ?_
   refine cnd1 h rfl (fun hb49 => ?_) (fun hb49 => ?_)
   ·refine rg ?_
    refine wl (cal h rfl en10 (known_L _ (hGl.keep hp)) fun u w32 ⟨e1, e2⟩ a h => ?_)
    subst e1
    have hp := hp.below e2
    refine wsn h rfl fun a h => ?_
    refine wp_ret ?_
    try simp only [xqs]
    refine rt_1 h rfl (rvT h rfl) ?_
    exact ⟨_, rfl, rfl, hp.bel⟩
   exact absurd hb49 (by decide)
  exact absurd hb17 (by decide)
 exact absurd hb13 (by decide)
set_option maxHeartbeats 8000000 in
theorem EclipseLines_3 (s : SV) (l : List Ball) (p r o px py : Int) (w : World) (hR : Rd w encL 3 s.v l) (hGl : Glb w) (hb : isBalls l = true) (h1 : inR p 0 ((l.length : Int) - 1) = true) (h2 : inR r 0 ((l.length : Int) - 1) = true) (h3 : inR o 0 ((l.length : Int) - 1) = true) (hpr : p ≠ r) (y z t : Ball) (hy : l[p.toNat]? = some y) (hz : l[r.toNat]? = some z) (ht : l[o.toNat]? = some t) (hw : shadesB y z = 3) : Ret Tryz.prog 7 #[s.v, .int .i64 p, .int .i64 r, .int .i64 o, .int .i64 px, .int .i64 py] w fun u w' => u = .bool true ∧ Below w.heap.size w w' := by
 have hfit := hR.fits
 have h1b := h1
 have h2b := h2
 have h3b := h3
 simp only [inR, Bool.and_eq_true, decide_eq_true_eq] at h1b h2b h3b
 have hln := balls_len hb
 have hyB := balls_bd hb y (List.mem_of_getElem? hy)
 have hzB := balls_bd hb z (List.mem_of_getElem? hz)
 have htB := balls_bd hb t (List.mem_of_getElem? ht)
 have hpq := nb_of hb h1 h2 hpr
 have hqp := nb_of hb h2 h1 (Ne.symm hpr)
 have hyx := hyB.x
 have hyy := hyB.y
 have hyr := hyB.r
 have hzx := hzB.x
 have hzy := hzB.y
 have hzr := hzB.r
 have hw1 : shadesB y z ≠ 1 := by rw [hw]; decide
 have hlt := before_of hw1
 have hv : shadesB z y = 1 := shades_lit (Int.le_of_lt hlt)
 have hp : Hp c0 w w [] := Hp.start trivial
 refine enter Tryz.func7 rfl (N := 259) rfl rfl fun a h => ?_
 refine rg ?_
 refine wsn h rfl fun a h => ?_
 refine wp_seq ?_
 refine rg ?_
 refine wmv h rfl fun a h => ?_
 refine wvl h (lenR h rfl Tryz.underlying37 (hR.keep (by decide) hp cl0)) fun a h => ?_
 refine wvl h (gtr h rfl rfl) fun a h => ?_
 refine wmv h rfl fun a h => ?_
 refine split (t := 28) h rfl (fun hb1 => ?_) (fun hb1 => ?_)
 ·exact absurd hb1 (by first | decide | (simp only [Bool.not_eq_true', Bool.not_eq_false', Bool.not_eq_true, Bool.not_eq_false, decide_eq_true_eq, decide_eq_false_iff_not, gt_iff_lt, ge_iff_le]; omega) | (simp; done))
 refine wl (stp_on h rfl rfl rfl hb1 (vl h (mov h rfl) fun a h => ?_))
 refine wl (stp_on h rfl rfl rfl hb1 (cal h rfl en20 (Balls_R _ _ _ (hR.keep (by decide) hp cl0)) fun u w1 ⟨e1, e2⟩ a h => ?_))
 subst e1
 have hp := hp.below e2
 refine wl (stp_on h rfl rfl rfl hb1 (vl h (not_ h rfl) fun a h => ?_))
 refine wvl h (pckF h rfl hb1 rfl) fun a h => ?_
 refine wmv h rfl fun a h => ?_
 refine split (t := 33) h rfl (fun hb2 => ?_) (fun hb2 => ?_)
 ·exact absurd hb2 (by rw [hb]; decide)
 refine wl (stp_on h rfl rfl rfl hb2 (vl h (mov h rfl) fun a h => ?_))
 refine wl (stp_on h rfl rfl rfl hb2 (vl h (mov h rfl) fun a h => ?_))
 refine wl (stp_on h rfl rfl rfl hb2 (cal h rfl en23 (Ball_R _ _ _ _ (hR.keep (by decide) hp cl0)) fun u w2 ⟨e1, e2⟩ a h => ?_))
 subst e1
 have hp := hp.below e2
 refine wl (stp_on h rfl rfl rfl hb2 (vl h (not_ h rfl) fun a h => ?_))
 refine wvl h (pckF h rfl hb2 rfl) fun a h => ?_
 refine wmv h rfl fun a h => ?_
 refine split (t := 39) h rfl (fun hb3 => ?_) (fun hb3 => ?_)
 ·exact absurd hb3 (by rw [h1]; decide)
 refine wl (stp_on h rfl rfl rfl hb3 (vl h (mov h rfl) fun a h => ?_))
 refine wl (stp_on h rfl rfl rfl hb3 (vl h (mov h rfl) fun a h => ?_))
 refine wl (stp_on h rfl rfl rfl hb3 (cal h rfl en23 (Ball_R _ _ _ _ (hR.keep (by decide) hp cl0)) fun u w3 ⟨e1, e2⟩ a h => ?_))
 subst e1
 have hp := hp.below e2
 refine wl (stp_on h rfl rfl rfl hb3 (vl h (not_ h rfl) fun a h => ?_))
 refine wvl h (pckF h rfl hb3 rfl) fun a h => ?_
 refine wmv h rfl fun a h => ?_
 refine split (t := 45) h rfl (fun hb4 => ?_) (fun hb4 => ?_)
 ·exact absurd hb4 (by rw [h2]; decide)
 refine wl (stp_on h rfl rfl rfl hb4 (vl h (mov h rfl) fun a h => ?_))
 refine wl (stp_on h rfl rfl rfl hb4 (vl h (mov h rfl) fun a h => ?_))
 refine wl (stp_on h rfl rfl rfl hb4 (cal h rfl en23 (Ball_R _ _ _ _ (hR.keep (by decide) hp cl0)) fun u w4 ⟨e1, e2⟩ a h => ?_))
 subst e1
 have hp := hp.below e2
 refine wl (stp_on h rfl rfl rfl hb4 (vl h (not_ h rfl) fun a h => ?_))
 refine wvl h (pckF h rfl hb4 rfl) fun a h => ?_
 refine wmv h rfl fun a h => ?_
 refine split (t := 51) h rfl (fun hb5 => ?_) (fun hb5 => ?_)
 ·exact absurd hb5 (by rw [h3]; decide)
 refine wl (stp_on h rfl rfl rfl hb5 (vl h (mov h rfl) fun a h => ?_))
 refine wl (stp_on h rfl rfl rfl hb5 (vl h (mov h rfl) fun a h => ?_))
 refine wl (stp_on h rfl rfl rfl hb5 (vl h (eqi h rfl rfl) fun a h => ?_))
 refine wvl h (pckF h rfl hb5 rfl) fun a h => ?_
 refine wn ?_
 refine cnd1 h rfl (fun hb6 => ?_) (fun hb6 => ?_)
 ·exact absurd hb6 (by simpa using hpr)
 refine skp ?_
 refine rg ?_
 refine wm3 h rfl rfl rfl rfl rfl rfl fun a h => ?_
 refine wl (cal h rfl en18 (Shades_w (hR.keep (by decide) hp cl0) hpq hy hz hw) fun u w5 ⟨e1, e2⟩ a h => ?_)
 subst e1
 have hp := hp.below e2
 refine wmv h rfl fun a h => ?_
 refine wvl h (ext h rfl rfl) fun a h => ?_
 refine wvl h (ext h rfl rfl) fun a h => ?_
 refine ws2 h rfl rfl rfl rfl fun a h => ?_
 refine rg ?_
 refine wm3 h rfl rfl rfl rfl rfl rfl fun a h => ?_
 refine wl (cal h rfl en18 (Shades_w (hR.keep (by decide) hp cl0) hqp hz hy hv) fun u w6 ⟨e1, e2⟩ a h => ?_)
 subst e1
 have hp := hp.below e2
 refine wmv h rfl fun a h => ?_
 refine wvl h (ext h rfl rfl) fun a h => ?_
 refine wvl h (ext h rfl rfl) fun a h => ?_
 refine ws2 h rfl rfl rfl rfl fun a h => ?_
 refine rg ?_
 refine wmv h rfl fun a h => ?_
 refine wl (cal h rfl en25 (turned_L _ _ _ _ (hR.keep (by decide) hp cl0) hb) fun u w7 ⟨⟨s20, e1, hf⟩, e2⟩ a h => ?_)
 subst e1
 have hp := hp.got (hp.below e2) (by decide) hf
 refine wm2 h rfl rfl rfl rfl fun a h => ?_
 refine wl (cal h rfl en18 (Shades_tw false (hp.rdF (i := 0) rfl) hpq hy hz hw) fun u w8 ⟨e1, e2⟩ a h => ?_)
 subst e1
 have hp := hp.below e2
 refine wmv h rfl fun a h => ?_
 refine wvl h (ext h rfl rfl) fun a h => ?_
 refine wvl h (ext h rfl rfl) fun a h => ?_
 refine ws2 h rfl rfl rfl rfl fun a h => ?_
 refine rg ?_
 refine wmv h rfl fun a h => ?_
 refine wl (cal h rfl en25 (turned_L _ _ _ _ (hR.keep (by decide) hp cl0) hb) fun u w9 ⟨⟨s21, e1, hf⟩, e2⟩ a h => ?_)
 subst e1
 have hp := hp.got (hp.below e2) (by decide) hf
 refine wm2 h rfl rfl rfl rfl fun a h => ?_
 refine wl (cal h rfl en18 (Shades_tw true (hp.rdF (i := 1) rfl) hpq hy hz hw) fun u w10 ⟨e1, e2⟩ a h => ?_)
 subst e1
 have hp := hp.below e2
 refine wmv h rfl fun a h => ?_
 refine wvl h (ext h rfl rfl) fun a h => ?_
 refine wvl h (ext h rfl rfl) fun a h => ?_
 refine ws2 h rfl rfl rfl rfl fun a h => ?_
 refine wp_seq ?_
 refine rg ?_
 refine wmv h rfl fun a h => ?_
 refine wvl h (nei h rfl rfl) fun a h => ?_
 refine wmv h rfl fun a h => ?_
 refine split (t := 89) h rfl (fun hb7 => ?_) (fun hb7 => ?_)
 ·exact absurd hb7 (by decide)
 refine wl (stp_on h rfl rfl rfl hb7 (vl h (mov h rfl) fun a h => ?_))
 refine wl (stp_on h rfl rfl rfl hb7 (vl h (nei h rfl rfl) fun a h => ?_))
 refine wvl h (pckF h rfl hb7 rfl) fun a h => ?_
 refine wmv h rfl fun a h => ?_
 refine split (t := 93) h rfl (fun hb8 => ?_) (fun hb8 => ?_)
 ·exact absurd hb8 (by decide)
 refine wl (stp_on h rfl rfl rfl hb8 (vl h (mov h rfl) fun a h => ?_))
 refine wl (stp_on h rfl rfl rfl hb8 (vl h (nei h rfl rfl) fun a h => ?_))
 refine wvl h (pckF h rfl hb8 rfl) fun a h => ?_
 refine wmv h rfl fun a h => ?_
 refine split (t := 97) h rfl (fun hb9 => ?_) (fun hb9 => ?_)
 ·exact absurd hb9 (by decide)
 refine wl (stp_on h rfl rfl rfl hb9 (vl h (mov h rfl) fun a h => ?_))
 refine wl (stp_on h rfl rfl rfl hb9 (vl h (nei h rfl rfl) fun a h => ?_))
 refine wvl h (pckF h rfl hb9 rfl) fun a h => ?_
 refine wmv h rfl fun a h => ?_
 refine split (t := 101) h rfl (fun hb10 => ?_) (fun hb10 => ?_)
 ·exact absurd hb10 (by decide)
 refine wl (stp_on h rfl rfl rfl hb10 (vl h (mov h rfl) fun a h => ?_))
 refine wl (stp_on h rfl rfl rfl hb10 (vl h (mov h rfl) fun a h => ?_))
 refine wl (stp_on h rfl rfl rfl hb10 (vl h (nei h rfl rfl) fun a h => ?_))
 refine wvl h (pckF h rfl hb10 rfl) fun a h => ?_
 refine wmv h rfl fun a h => ?_
 refine split (t := 106) h rfl (fun hb11 => ?_) (fun hb11 => ?_)
 ·exact absurd hb11 (by decide)
 refine wl (stp_on h rfl rfl rfl hb11 (vl h (mov h rfl) fun a h => ?_))
 refine wl (stp_on h rfl rfl rfl hb11 (vl h (mov h rfl) fun a h => ?_))
 refine wl (stp_on h rfl rfl rfl hb11 (vl h (nei h rfl rfl) fun a h => ?_))
 refine wvl h (pckF h rfl hb11 rfl) fun a h => ?_
 refine wmv h rfl fun a h => ?_
 refine split (t := 111) h rfl (fun hb12 => ?_) (fun hb12 => ?_)
 ·exact absurd hb12 (by decide)
 refine wl (stp_on h rfl rfl rfl hb12 (vl h (mov h rfl) fun a h => ?_))
 refine wl (stp_on h rfl rfl rfl hb12 (vl h (nei h rfl rfl) fun a h => ?_))
 refine wl (stp_on h rfl rfl rfl hb12 (vl h (mov h rfl) fun a h => ?_))
 refine split (t := 114) h rfl (fun hb13 => ?_) (fun hb13 => ?_)
 ·refine wl (stp_on h rfl rfl rfl hb13 (vl h (mov h rfl) fun a h => ?_))
  refine wl (stp_on h rfl rfl rfl hb13 (vl h (nei h rfl rfl) fun a h => ?_))
  refine wl (stp_on h rfl rfl rfl hb12 (vl h (pckT h rfl hb13 rfl) fun a h => ?_))
  refine wvl h (pckF h rfl hb12 rfl) fun a h => ?_
  refine wmv h rfl fun a h => ?_
  refine split (t := 119) h rfl (fun hb14 => ?_) (fun hb14 => ?_)
  ·exact absurd hb14 (by decide)
  refine wl (stp_on h rfl rfl rfl hb14 (vl h (mov h rfl) fun a h => ?_))
  refine wl (stp_on h rfl rfl rfl hb14 (vl h (lss h rfl rfl) fun a h => ?_))
  refine wvl h (pckF h rfl hb14 rfl) fun a h => ?_
  refine wmv h rfl fun a h => ?_
  refine split (t := 123) h rfl (fun hb15 => ?_) (fun hb15 => ?_)
  ·exact absurd hb15 (by decide)
  refine wl (stp_on h rfl rfl rfl hb15 (vl h (mov h rfl) fun a h => ?_))
  refine wl (stp_on h rfl rfl rfl hb15 (vl h (gtr h rfl rfl) fun a h => ?_))
  refine wvl h (pckF h rfl hb15 rfl) fun a h => ?_
  refine wn ?_
  refine cnd1 h rfl (fun hb16 => ?_) (fun hb16 => ?_)
  ·exact absurd hb16 (by decide)
  refine skp ?_
  refine wp_seq ?_
  refine rdh (n := 14) hp mixed rfl ?_
  have hp := hp.drew
  refine tkm 0 h rfl hp rfl fun a h => ?_
  refine tkq 1 h rfl hp (fun W _ => nei h rfl rfl) fun a h => ?_
  refine tkm 2 h rfl hp rfl fun a h => ?_
  refine split (t := 129) h rfl (fun hb17 => ?_) (fun hb17 => ?_)
  ·refine tk_on 3 h rfl (by kernel_rfl) (fun _ _ _ q => q) hp rfl rfl rfl rfl rfl hb17 (fun W _ => mov h rfl) fun a h => ?_
   refine tk_on 4 h rfl (by kernel_rfl) (fun _ _ _ q => q) hp rfl rfl rfl rfl rfl hb17 (fun W _ => mov h rfl) fun a h => ?_
   refine tk_on 5 h rfl (by kernel_rfl) (fun _ _ _ q => q) hp rfl rfl rfl rfl rfl hb17 (fun W hp => iadR (p.toNat) h rfl rfl Tryz.underlying37 sz51 (hR.keep (by decide) hp cl0) (by omega) (by omega)) fun a h => ?_
   refine tk_on 6 h rfl (by kernel_rfl) (fun _ _ _ q => q) hp rfl rfl rfl rfl rfl hb17 (fun W hp => ldE h (hR.keep (by decide) hp cl0) hy rfl ag51 sz51) fun a h => ?_
   refine tk_on 7 h rfl (by kernel_rfl) (fun _ _ _ q => q) hp rfl rfl rfl rfl rfl hb17 (fun W _ => mov h rfl) fun a h => ?_
   refine tk_on 8 h rfl (by kernel_rfl) (fun _ _ _ q => q) hp rfl rfl rfl rfl rfl hb17 (fun W _ => mov h rfl) fun a h => ?_
   refine tk_on 9 h rfl (by kernel_rfl) (fun _ _ _ q => q) hp rfl rfl rfl rfl rfl hb17 (fun W hp => iadR (r.toNat) h rfl rfl Tryz.underlying37 sz51 (hR.keep (by decide) hp cl0) (by omega) (by omega)) fun a h => ?_
   refine tk_on 10 h rfl (by kernel_rfl) (fun _ _ _ q => q) hp rfl rfl rfl rfl rfl hb17 (fun W hp => ldE h (hR.keep (by decide) hp cl0) hz rfl ag51 sz51) fun a h => ?_
   refine one 11 (by kernel_rfl) rfl (stp_on h rfl rfl rfl hb17 (cal h rfl en26 (Before_R y z _ hyx hyy hyr hzx hzy hzr) fun u w11 ⟨e1, e2⟩ a h => ⟨hp.below e2, ?_⟩))
   subst e1
   have hp := hp.below e2
   refine tk_on 12 h rfl (by kernel_rfl) (fun _ _ _ q => q) hp rfl rfl rfl rfl rfl hb17 (fun W _ => not_ h rfl) fun a h => ?_
   refine tkq 13 h rfl hp (fun W _ => pckT h rfl hb17 rfl) fun a h => ?_
   refine dn (by kernel_rfl) ?_
   refine cnd1 h rfl (fun hb18 => ?_) (fun hb18 => ?_)
   ·exact absurd hb18 (by have hq9 := hlt; simp only [Ball.pow] at hq9; simp only [Bool.not_eq_true', Bool.not_eq_true, decide_eq_false_iff_not]; omega)
   refine skp ?_
   refine wp_seq ?_
   refine rg ?_
   refine wmv h rfl fun a h => ?_
   refine wvl h (geq h rfl rfl) fun a h => ?_
   refine wmv h rfl fun a h => ?_
   refine split (t := 143) h rfl (fun hb19 => ?_) (fun hb19 => ?_)
   ·have ha1 := hb19
    refine wl (stp_on h rfl rfl rfl hb19 (vl h (mov h rfl) fun a h => ?_))
    refine wl (stp_on h rfl rfl rfl hb19 (vl h (leq h rfl rfl) fun a h => ?_))
    refine wvl h (pckT h rfl hb19 rfl) fun a h => ?_
    refine wmv h rfl fun a h => ?_
    refine split (t := 147) h rfl (fun hb20 => ?_) (fun hb20 => ?_)
    ·have ha2 := hb20
     refine wl (stp_on h rfl rfl rfl hb20 (vl h (mov h rfl) fun a h => ?_))
     refine wl (stp_on h rfl rfl rfl hb20 (vl h (geq h rfl rfl) fun a h => ?_))
     refine wvl h (pckT h rfl hb20 rfl) fun a h => ?_
     refine wmv h rfl fun a h => ?_
     refine split (t := 151) h rfl (fun hb21 => ?_) (fun hb21 => ?_)
     ·have ha3 := hb21
      refine wl (stp_on h rfl rfl rfl hb21 (vl h (mov h rfl) fun a h => ?_))
      refine wl (stp_on h rfl rfl rfl hb21 (vl h (leq h rfl rfl) fun a h => ?_))
      refine wvl h (pckT h rfl hb21 rfl) fun a h => ?_
      refine wmv h rfl fun a h => ?_
      refine split (t := 155) h rfl (fun hb22 => ?_) (fun hb22 => ?_)
      ·have ha4 := hb22
       refine wl (stp_on h rfl rfl rfl hb22 (vl h (mov h rfl) fun a h => ?_))
       refine wl (stp_on h rfl rfl rfl hb22 (vl h (nei h rfl rfl) fun a h => ?_))
       refine wl (stp_on h rfl rfl rfl hb22 (vl h (mov h rfl) fun a h => ?_))
       refine split (t := 158) h rfl (fun hb23 => ?_) (fun hb23 => ?_)
       ·have ha5 := hb23
        have hpx : -1000 ≤ px ∧ px ≤ 1000 := ⟨of_decide_eq_true ha1, of_decide_eq_true ha2⟩
        have hpy : -1000 ≤ py ∧ py ≤ 1000 := ⟨of_decide_eq_true ha3, of_decide_eq_true ha4⟩
        have hQ : 0 < px * px + py * py := by have q1 := Geo.sq_nonneg px; have q2 := Geo.sq_nonneg py; have q3 := sq_pos (x := px) (by have hq8 := ha5; simpa using hq8); omega
        refine wl (stp_off h rfl rfl rfl rfl rfl hb23 fun a h => ?_)
        refine wl (stp_off h rfl rfl rfl rfl rfl hb23 fun a h => ?_)
        refine wl (stp_on h rfl rfl rfl hb22 (vl h (pckT h rfl hb23 rfl) fun a h => ?_))
        refine wvl h (pckT h rfl hb22 rfl) fun a h => ?_
        refine wn ?_
        refine cnd1 h rfl (fun _ => ?_) (fun e => nomatch e)
        refine wp_seq ?_
        refine rg ?_
        refine wmv h rfl fun a h => ?_
        refine wvl h (eqi h rfl rfl) fun a h => ?_
        refine wmv h rfl fun a h => ?_
        refine split (t := 165) h rfl (fun hb24 => ?_) (fun hb24 => ?_)
        ·refine wl (stp_on h rfl rfl rfl hb24 (vl h (mov h rfl) fun a h => ?_))
         refine wl (stp_on h rfl rfl rfl hb24 (vl h (mov h rfl) fun a h => ?_))
         refine wl (stp_on h rfl rfl rfl hb24 (vl h (iadR (r.toNat) h rfl rfl Tryz.underlying37 sz51 (hR.keep (by decide) hp cl0) (by omega) (by omega)) fun a h => ?_))
         refine wl (stp_on h rfl rfl rfl hb24 (vl h (ldE h (hR.keep (by decide) hp cl0) hz rfl ag51 sz51) fun a h => ?_))
         refine wl (stp_on h rfl rfl rfl hb24 (vl h (mov h rfl) fun a h => ?_))
         refine wl (stp_on h rfl rfl rfl hb24 (vl h (mov h rfl) fun a h => ?_))
         refine wl (stp_on h rfl rfl rfl hb24 (cal h rfl en27 (meets_L z px py false _ hzB hpx hpy) fun u w12 ⟨e1, e2⟩ a h => ?_))
         subst e1
         have hp := hp.below e2
         refine wvl h (pckT h rfl hb24 rfl) fun a h => ?_
         refine wmv h rfl fun a h => ?_
         refine split (t := 174) h rfl (fun hb25 => ?_) (fun hb25 => ?_)
         ·have hM := hb25
          refine wl (stp_on h rfl rfl rfl hb25 (vl h (mov h rfl) fun a h => ?_))
          refine wl (stp_on h rfl rfl rfl hb25 (vl h (mov h rfl) fun a h => ?_))
          refine wl (stp_on h rfl rfl rfl hb25 (vl h (iadR (p.toNat) h rfl rfl Tryz.underlying37 sz51 (hR.keep (by decide) hp cl0) (by omega) (by omega)) fun a h => ?_))
          refine wl (stp_on h rfl rfl rfl hb25 (vl h (ldE h (hR.keep (by decide) hp cl0) hy rfl ag51 sz51) fun a h => ?_))
          refine wl (stp_on h rfl rfl rfl hb25 (vl h (mov h rfl) fun a h => ?_))
          refine wl (stp_on h rfl rfl rfl hb25 (vl h (mov h rfl) fun a h => ?_))
          refine wl (stp_on h rfl rfl rfl hb25 (cal h rfl en27 (meets_L y px py false _ hyB hpx hpy) fun u w13 ⟨e1, e2⟩ a h => ?_))
          subst e1
          have hp := hp.below e2
          refine wl (stp_on h rfl rfl rfl hb25 (vl h (not_ h rfl) fun a h => ?_))
          refine wvl h (pckT h rfl hb25 rfl) fun a h => ?_
          refine wn ?_
          refine cnd1 h rfl (fun hb26 => ?_) (fun hb26 => ?_)
          ·exact absurd hb26 (by first | decide | (rw [meets_dark hyB hzB hw hM]; decide))
          refine skp ?_
          refine rdh (n := 31) hp mixed rfl ?_
          have hp := hp.drew
          refine tkm 0 h rfl hp rfl fun a h => ?_
          refine tkq 1 h rfl hp (fun W _ => eqi h rfl rfl) fun a h => ?_
          refine tkm 2 h rfl hp rfl fun a h => ?_
          refine split (t := 186) h rfl (fun hb27 => ?_) (fun hb27 => ?_)
          ·exact absurd hb27 (by decide)
          refine tkG 3 h rfl hp rfl rfl rfl hb27 fun a h => ?_
          refine tkG 4 h rfl hp rfl rfl rfl hb27 fun a h => ?_
          refine tkG 5 h rfl hp rfl rfl rfl hb27 fun a h => ?_
          refine tkG 6 h rfl hp rfl rfl rfl hb27 fun a h => ?_
          refine tkG 7 h rfl hp rfl rfl rfl hb27 fun a h => ?_
          refine tkG 8 h rfl hp rfl rfl rfl hb27 fun a h => ?_
          refine tkG 9 h rfl hp rfl rfl rfl hb27 fun a h => ?_
          refine tkG 10 h rfl hp rfl rfl rfl hb27 fun a h => ?_
          refine tkG 11 h rfl hp rfl rfl rfl hb27 fun a h => ?_
          refine tkq 12 h rfl hp (fun W _ => pckF h rfl hb27 rfl) fun a h => ?_
          refine tkm 13 h rfl hp rfl fun a h => ?_
          refine tkG 14 h rfl hp rfl rfl rfl rfl fun a h => ?_
          refine tkG 15 h rfl hp rfl rfl rfl rfl fun a h => ?_
          refine tkG 16 h rfl hp rfl rfl rfl rfl fun a h => ?_
          refine tkG 17 h rfl hp rfl rfl rfl rfl fun a h => ?_
          refine tkG 18 h rfl hp rfl rfl rfl rfl fun a h => ?_
          refine tkG 19 h rfl hp rfl rfl rfl rfl fun a h => ?_
          refine tkG 20 h rfl hp rfl rfl rfl rfl fun a h => ?_
          refine tkq 21 h rfl hp (fun W _ => pckF h rfl rfl rfl) fun a h => ?_
          refine tkm 22 h rfl hp rfl fun a h => ?_
          refine tkG 23 h rfl hp rfl rfl rfl rfl fun a h => ?_
          refine tkG 24 h rfl hp rfl rfl rfl rfl fun a h => ?_
          refine tkG 25 h rfl hp rfl rfl rfl rfl fun a h => ?_
          refine tkG 26 h rfl hp rfl rfl rfl rfl fun a h => ?_
          refine tkG 27 h rfl hp rfl rfl rfl rfl fun a h => ?_
          refine tkG 28 h rfl hp rfl rfl rfl rfl fun a h => ?_
          refine tkG 29 h rfl hp rfl rfl rfl rfl fun a h => ?_
          refine tkq 30 h rfl hp (fun W _ => pckF h rfl rfl rfl) fun a h => ?_
          refine dn (by kernel_rfl) ?_
          refine cnd1 h rfl (fun e => nomatch e) (fun _ => ?_)
          refine skp ?_
          refine wp_seq ?_
          refine rg ?_
          refine wm2 h rfl rfl rfl rfl fun a h => ?_
          refine wvl h (eqi h rfl rfl) fun a h => ?_
          refine wmv h rfl fun a h => ?_
          refine split (t := 218) h rfl (fun hb28 => ?_) (fun hb28 => ?_)
          ·refine wl (stp_off h rfl rfl rfl rfl rfl hb28 fun a h => ?_)
           refine wl (stp_off h rfl rfl rfl rfl rfl hb28 fun a h => ?_)
           refine wl (stp_off h rfl rfl rfl rfl rfl hb28 fun a h => ?_)
           refine wvl h (pckT h rfl hb28 rfl) fun a h => ?_
           refine wmv h rfl fun a h => ?_
           refine wl (stp_off h rfl rfl rfl rfl rfl rfl fun a h => ?_)
           refine wl (stp_off h rfl rfl rfl rfl rfl rfl fun a h => ?_)
           refine wvl h (pckT h rfl rfl rfl) fun a h => ?_
           refine wn ?_
           refine cnd1 h rfl (fun _ => ?_) (fun e => nomatch e)
           refine rg ?_
           refine wl (cal h rfl en10 (known_L _ (hGl.keep hp)) fun u w14 ⟨e1, e2⟩ a h => ?_)
           subst e1
           have hp := hp.below e2
           refine wsn h rfl fun a h => ?_
           refine wp_ret ?_
           try simp only [xqs]
           refine rt_1 h rfl (rvT h rfl) ?_
           exact ⟨_, rfl, rfl, hp.bel⟩
          have hopd := hb28
          refine wl (stp_on h rfl rfl rfl hb28 (vl h (mov h rfl) fun a h => ?_))
          refine wl (stp_on h rfl rfl rfl hb28 (vl h (mov h rfl) fun a h => ?_))
          refine wl (stp_on h rfl rfl rfl hb28 (vl h (eqi h rfl rfl) fun a h => ?_))
          refine wvl h (pckF h rfl hb28 rfl) fun a h => ?_
          refine wmv h rfl fun a h => ?_
          refine split (t := 223) h rfl (fun hb29 => ?_) (fun hb29 => ?_)
          ·refine wl (stp_off h rfl rfl rfl rfl rfl hb29 fun a h => ?_)
           refine wl (stp_off h rfl rfl rfl rfl rfl hb29 fun a h => ?_)
           refine wvl h (pckT h rfl hb29 rfl) fun a h => ?_
           refine wn ?_
           refine cnd1 h rfl (fun _ => ?_) (fun e => nomatch e)
           refine rg ?_
           refine wl (cal h rfl en10 (known_L _ (hGl.keep hp)) fun u w15 ⟨e1, e2⟩ a h => ?_)
           subst e1
           have hp := hp.below e2
           refine wsn h rfl fun a h => ?_
           refine wp_ret ?_
           try simp only [xqs]
           refine rt_1 h rfl (rvT h rfl) ?_
           exact ⟨_, rfl, rfl, hp.bel⟩
          have hor := hb29
          refine wl (stp_on h rfl rfl rfl hb29 (vl h (mov h rfl) fun a h => ?_))
          refine wl (stp_on h rfl rfl rfl hb29 (vl h (nei h rfl rfl) fun a h => ?_))
          refine wvl h (pckF h rfl hb29 rfl) fun a h => ?_
          refine wn ?_
          refine cnd1 h rfl (fun hb30 => ?_) (fun hb30 => ?_)
          ·exact absurd hb30 (by decide)
          have hoq : o ≠ r := of_decide_eq_false hor
          have hop : o ≠ p := of_decide_eq_false hopd
          have hqo := nb_of hb h2 h3 (Ne.symm hoq)
          have hpo := nb_of hb h1 h3 (Ne.symm hop)
          refine skp ?_
          refine rg ?_
          refine wm3 h rfl rfl rfl rfl rfl rfl fun a h => ?_
          refine wl (cal h rfl en18 (Shades_v (hR.keep (by decide) hp cl0) hqo hz ht) fun u w16 ⟨e1, e2⟩ a h => ?_)
          subst e1
          have hp := hp.below e2
          refine wmv h rfl fun a h => ?_
          refine wvl h (ext h rfl rfl) fun a h => ?_
          refine wvl h (ext h rfl rfl) fun a h => ?_
          refine ws2 h rfl rfl rfl rfl fun a h => ?_
          refine rg ?_
          refine wm3 h rfl rfl rfl rfl rfl rfl fun a h => ?_
          refine wl (cal h rfl en18 (Shades_v (hR.keep (by decide) hp cl0) hpo hy ht) fun u w17 ⟨e1, e2⟩ a h => ?_)
          subst e1
          have hp := hp.below e2
          refine wmv h rfl fun a h => ?_
          refine wvl h (ext h rfl rfl) fun a h => ?_
          refine wvl h (ext h rfl rfl) fun a h => ?_
          refine ws2 h rfl rfl rfl rfl fun a h => ?_
          refine rg ?_
          refine wmv h rfl fun a h => ?_
          refine wvl h (eqi h rfl rfl) fun a h => ?_
          refine wmv h rfl fun a h => ?_
          refine split (t := 244) h rfl (fun hb31 => ?_) (fun hb31 => ?_)
          ·refine wl (stp_on h rfl rfl rfl hb31 (vl h (mov h rfl) fun a h => ?_))
           refine wl (stp_on h rfl rfl rfl hb31 (vl h (eqi h rfl rfl) fun a h => ?_))
           refine wvl h (pckT h rfl hb31 rfl) fun a h => ?_
           refine wmv h rfl fun a h => ?_
           refine split (t := 248) h rfl (fun hb32 => ?_) (fun hb32 => ?_)
           ·refine wl (stp_on h rfl rfl rfl hb32 (vl h (mov h rfl) fun a h => ?_))
            refine wl (stp_on h rfl rfl rfl hb32 (vl h (nei h rfl rfl) fun a h => ?_))
            refine wl (stp_on h rfl rfl rfl hb32 (vl h (mov h rfl) fun a h => ?_))
            refine split (t := 251) h rfl (fun hb33 => ?_) (fun hb33 => ?_)
            ·refine wl (stp_off h rfl rfl rfl rfl rfl hb33 fun a h => ?_)
             refine wl (stp_off h rfl rfl rfl rfl rfl hb33 fun a h => ?_)
             refine wl (stp_on h rfl rfl rfl hb32 (vl h (pckT h rfl hb33 rfl) fun a h => ?_))
             refine wvl h (pckT h rfl hb32 rfl) fun a h => ?_
             refine wmv h rfl fun a h => ?_
             refine wl (stp_on h rfl rfl rfl rfl (cal h rfl en10 (known_L _ (hGl.keep hp)) fun u w18 ⟨e1, e2⟩ a h => ?_))
             subst e1
             have hp := hp.below e2
             refine wvl h (pckT h rfl rfl rfl) fun a h => ?_
             refine wsn h rfl fun a h => ?_
             refine wp_ret ?_
             try simp only [xqs]
             refine rt_1 h rfl (rvT h rfl) ?_
             exact ⟨_, rfl, rfl, hp.bel⟩
            have hc3 : shadesB z t = 3 := by have hq9 := hb33; simpa using hq9
            have hd3 := dark_trans hyB hzB htB hw hc3
            refine wl (stp_on h rfl rfl rfl hb33 (vl h (mov h rfl) fun a h => ?_))
            refine wl (stp_on h rfl rfl rfl hb33 (vl h (eqi h rfl rfl) fun a h => ?_))
            refine wl (stp_on h rfl rfl rfl hb32 (vl h (pckF h rfl hb33 rfl) fun a h => ?_))
            refine wvl h (pckT h rfl hb32 rfl) fun a h => ?_
            refine wmv h rfl fun a h => ?_
            refine split (t := 256) h rfl (fun hb34 => ?_) (fun hb34 => ?_)
            ·refine wl (stp_on h rfl rfl rfl hb34 (cal h rfl en10 (known_L _ (hGl.keep hp)) fun u w19 ⟨e1, e2⟩ a h => ?_))
             subst e1
             have hp := hp.below e2
             refine wvl h (pckT h rfl hb34 rfl) fun a h => ?_
             refine wsn h rfl fun a h => ?_
             refine wp_ret ?_
             try simp only [xqs]
             refine rt_1 h rfl (rvT h rfl) ?_
             exact ⟨_, rfl, rfl, hp.bel⟩
            exact absurd hb34 (by first | decide | (rw [hd3]; decide))
           exact absurd hb32 (by first | decide | (simp only [Bool.not_eq_true', Bool.not_eq_false', Bool.not_eq_true, Bool.not_eq_false, decide_eq_true_eq, decide_eq_false_iff_not, gt_iff_lt, ge_iff_le]; omega) | (simp; done))
          exact absurd hb31 (by first | decide | (simp only [Bool.not_eq_true', Bool.not_eq_false', Bool.not_eq_true, Bool.not_eq_false, decide_eq_true_eq, decide_eq_false_iff_not, gt_iff_lt, ge_iff_le]; omega) | (simp; done))
         refine wl (stp_off h rfl rfl rfl rfl rfl hb25 fun a h => ?_)
         refine wl (stp_off h rfl rfl rfl rfl rfl hb25 fun a h => ?_)
         refine wl (stp_off h rfl rfl rfl rfl rfl hb25 fun a h => ?_)
         refine wl (stp_off h rfl rfl rfl rfl rfl hb25 fun a h => ?_)
         refine wl (stp_off h rfl rfl rfl rfl rfl hb25 fun a h => ?_)
         refine wl (stp_off h rfl rfl rfl rfl rfl hb25 fun a h => ?_)
         refine wl (stp_off h rfl rfl rfl rfl rfl hb25 fun a h => ?_)
         refine wl (stp_off h rfl rfl rfl rfl rfl hb25 fun a h => ?_)
         refine wvl h (pckF h rfl hb25 rfl) fun a h => ?_
         refine wn ?_
         refine cnd1 h rfl (fun e => nomatch e) (fun _ => ?_)
         refine skp ?_
         refine rdh (n := 31) hp mixed rfl ?_
         have hp := hp.drew
         refine tkm 0 h rfl hp rfl fun a h => ?_
         refine tkq 1 h rfl hp (fun W _ => eqi h rfl rfl) fun a h => ?_
         refine tkm 2 h rfl hp rfl fun a h => ?_
         refine split (t := 186) h rfl (fun hb35 => ?_) (fun hb35 => ?_)
         ·exact absurd hb35 (by decide)
         refine tkG 3 h rfl hp rfl rfl rfl hb35 fun a h => ?_
         refine tkG 4 h rfl hp rfl rfl rfl hb35 fun a h => ?_
         refine tkG 5 h rfl hp rfl rfl rfl hb35 fun a h => ?_
         refine tkG 6 h rfl hp rfl rfl rfl hb35 fun a h => ?_
         refine tkG 7 h rfl hp rfl rfl rfl hb35 fun a h => ?_
         refine tkG 8 h rfl hp rfl rfl rfl hb35 fun a h => ?_
         refine tkG 9 h rfl hp rfl rfl rfl hb35 fun a h => ?_
         refine tkG 10 h rfl hp rfl rfl rfl hb35 fun a h => ?_
         refine tkG 11 h rfl hp rfl rfl rfl hb35 fun a h => ?_
         refine tkq 12 h rfl hp (fun W _ => pckF h rfl hb35 rfl) fun a h => ?_
         refine tkm 13 h rfl hp rfl fun a h => ?_
         refine tkG 14 h rfl hp rfl rfl rfl rfl fun a h => ?_
         refine tkG 15 h rfl hp rfl rfl rfl rfl fun a h => ?_
         refine tkG 16 h rfl hp rfl rfl rfl rfl fun a h => ?_
         refine tkG 17 h rfl hp rfl rfl rfl rfl fun a h => ?_
         refine tkG 18 h rfl hp rfl rfl rfl rfl fun a h => ?_
         refine tkG 19 h rfl hp rfl rfl rfl rfl fun a h => ?_
         refine tkG 20 h rfl hp rfl rfl rfl rfl fun a h => ?_
         refine tkq 21 h rfl hp (fun W _ => pckF h rfl rfl rfl) fun a h => ?_
         refine tkm 22 h rfl hp rfl fun a h => ?_
         refine tkG 23 h rfl hp rfl rfl rfl rfl fun a h => ?_
         refine tkG 24 h rfl hp rfl rfl rfl rfl fun a h => ?_
         refine tkG 25 h rfl hp rfl rfl rfl rfl fun a h => ?_
         refine tkG 26 h rfl hp rfl rfl rfl rfl fun a h => ?_
         refine tkG 27 h rfl hp rfl rfl rfl rfl fun a h => ?_
         refine tkG 28 h rfl hp rfl rfl rfl rfl fun a h => ?_
         refine tkG 29 h rfl hp rfl rfl rfl rfl fun a h => ?_
         refine tkq 30 h rfl hp (fun W _ => pckF h rfl rfl rfl) fun a h => ?_
         refine dn (by kernel_rfl) ?_
         refine cnd1 h rfl (fun e => nomatch e) (fun _ => ?_)
         refine skp ?_
         refine wp_seq ?_
         refine rg ?_
         refine wm2 h rfl rfl rfl rfl fun a h => ?_
         refine wvl h (eqi h rfl rfl) fun a h => ?_
         refine wmv h rfl fun a h => ?_
         refine split (t := 218) h rfl (fun hb36 => ?_) (fun hb36 => ?_)
         ·refine wl (stp_off h rfl rfl rfl rfl rfl hb36 fun a h => ?_)
          refine wl (stp_off h rfl rfl rfl rfl rfl hb36 fun a h => ?_)
          refine wl (stp_off h rfl rfl rfl rfl rfl hb36 fun a h => ?_)
          refine wvl h (pckT h rfl hb36 rfl) fun a h => ?_
          refine wmv h rfl fun a h => ?_
          refine wl (stp_off h rfl rfl rfl rfl rfl rfl fun a h => ?_)
          refine wl (stp_off h rfl rfl rfl rfl rfl rfl fun a h => ?_)
          refine wvl h (pckT h rfl rfl rfl) fun a h => ?_
          refine wn ?_
          refine cnd1 h rfl (fun _ => ?_) (fun e => nomatch e)
          refine rg ?_
          refine wl (cal h rfl en10 (known_L _ (hGl.keep hp)) fun u w20 ⟨e1, e2⟩ a h => ?_)
          subst e1
          have hp := hp.below e2
          refine wsn h rfl fun a h => ?_
          refine wp_ret ?_
          try simp only [xqs]
          refine rt_1 h rfl (rvT h rfl) ?_
          exact ⟨_, rfl, rfl, hp.bel⟩
         have hopd := hb36
         refine wl (stp_on h rfl rfl rfl hb36 (vl h (mov h rfl) fun a h => ?_))
         refine wl (stp_on h rfl rfl rfl hb36 (vl h (mov h rfl) fun a h => ?_))
         refine wl (stp_on h rfl rfl rfl hb36 (vl h (eqi h rfl rfl) fun a h => ?_))
         refine wvl h (pckF h rfl hb36 rfl) fun a h => ?_
         refine wmv h rfl fun a h => ?_
         refine split (t := 223) h rfl (fun hb37 => ?_) (fun hb37 => ?_)
         ·refine wl (stp_off h rfl rfl rfl rfl rfl hb37 fun a h => ?_)
          refine wl (stp_off h rfl rfl rfl rfl rfl hb37 fun a h => ?_)
          refine wvl h (pckT h rfl hb37 rfl) fun a h => ?_
          refine wn ?_
          refine cnd1 h rfl (fun _ => ?_) (fun e => nomatch e)
          refine rg ?_
          refine wl (cal h rfl en10 (known_L _ (hGl.keep hp)) fun u w21 ⟨e1, e2⟩ a h => ?_)
          subst e1
          have hp := hp.below e2
          refine wsn h rfl fun a h => ?_
          refine wp_ret ?_
          try simp only [xqs]
          refine rt_1 h rfl (rvT h rfl) ?_
          exact ⟨_, rfl, rfl, hp.bel⟩
         have hor := hb37
         refine wl (stp_on h rfl rfl rfl hb37 (vl h (mov h rfl) fun a h => ?_))
         refine wl (stp_on h rfl rfl rfl hb37 (vl h (nei h rfl rfl) fun a h => ?_))
         refine wvl h (pckF h rfl hb37 rfl) fun a h => ?_
         refine wn ?_
         refine cnd1 h rfl (fun hb38 => ?_) (fun hb38 => ?_)
         ·exact absurd hb38 (by decide)
         have hoq : o ≠ r := of_decide_eq_false hor
         have hop : o ≠ p := of_decide_eq_false hopd
         have hqo := nb_of hb h2 h3 (Ne.symm hoq)
         have hpo := nb_of hb h1 h3 (Ne.symm hop)
         refine skp ?_
         refine rg ?_
         refine wm3 h rfl rfl rfl rfl rfl rfl fun a h => ?_
         refine wl (cal h rfl en18 (Shades_v (hR.keep (by decide) hp cl0) hqo hz ht) fun u w22 ⟨e1, e2⟩ a h => ?_)
         subst e1
         have hp := hp.below e2
         refine wmv h rfl fun a h => ?_
         refine wvl h (ext h rfl rfl) fun a h => ?_
         refine wvl h (ext h rfl rfl) fun a h => ?_
         refine ws2 h rfl rfl rfl rfl fun a h => ?_
         refine rg ?_
         refine wm3 h rfl rfl rfl rfl rfl rfl fun a h => ?_
         refine wl (cal h rfl en18 (Shades_v (hR.keep (by decide) hp cl0) hpo hy ht) fun u w23 ⟨e1, e2⟩ a h => ?_)
         subst e1
         have hp := hp.below e2
         refine wmv h rfl fun a h => ?_
         refine wvl h (ext h rfl rfl) fun a h => ?_
         refine wvl h (ext h rfl rfl) fun a h => ?_
         refine ws2 h rfl rfl rfl rfl fun a h => ?_
         refine rg ?_
         refine wmv h rfl fun a h => ?_
         refine wvl h (eqi h rfl rfl) fun a h => ?_
         refine wmv h rfl fun a h => ?_
         refine split (t := 244) h rfl (fun hb39 => ?_) (fun hb39 => ?_)
         ·refine wl (stp_on h rfl rfl rfl hb39 (vl h (mov h rfl) fun a h => ?_))
          refine wl (stp_on h rfl rfl rfl hb39 (vl h (eqi h rfl rfl) fun a h => ?_))
          refine wvl h (pckT h rfl hb39 rfl) fun a h => ?_
          refine wmv h rfl fun a h => ?_
          refine split (t := 248) h rfl (fun hb40 => ?_) (fun hb40 => ?_)
          ·refine wl (stp_on h rfl rfl rfl hb40 (vl h (mov h rfl) fun a h => ?_))
           refine wl (stp_on h rfl rfl rfl hb40 (vl h (nei h rfl rfl) fun a h => ?_))
           refine wl (stp_on h rfl rfl rfl hb40 (vl h (mov h rfl) fun a h => ?_))
           refine split (t := 251) h rfl (fun hb41 => ?_) (fun hb41 => ?_)
           ·refine wl (stp_off h rfl rfl rfl rfl rfl hb41 fun a h => ?_)
            refine wl (stp_off h rfl rfl rfl rfl rfl hb41 fun a h => ?_)
            refine wl (stp_on h rfl rfl rfl hb40 (vl h (pckT h rfl hb41 rfl) fun a h => ?_))
            refine wvl h (pckT h rfl hb40 rfl) fun a h => ?_
            refine wmv h rfl fun a h => ?_
            refine wl (stp_on h rfl rfl rfl rfl (cal h rfl en10 (known_L _ (hGl.keep hp)) fun u w24 ⟨e1, e2⟩ a h => ?_))
            subst e1
            have hp := hp.below e2
            refine wvl h (pckT h rfl rfl rfl) fun a h => ?_
            refine wsn h rfl fun a h => ?_
            refine wp_ret ?_
            try simp only [xqs]
            refine rt_1 h rfl (rvT h rfl) ?_
            exact ⟨_, rfl, rfl, hp.bel⟩
           have hc3 : shadesB z t = 3 := by have hq9 := hb41; simpa using hq9
           have hd3 := dark_trans hyB hzB htB hw hc3
           refine wl (stp_on h rfl rfl rfl hb41 (vl h (mov h rfl) fun a h => ?_))
           refine wl (stp_on h rfl rfl rfl hb41 (vl h (eqi h rfl rfl) fun a h => ?_))
           refine wl (stp_on h rfl rfl rfl hb40 (vl h (pckF h rfl hb41 rfl) fun a h => ?_))
           refine wvl h (pckT h rfl hb40 rfl) fun a h => ?_
           refine wmv h rfl fun a h => ?_
           refine split (t := 256) h rfl (fun hb42 => ?_) (fun hb42 => ?_)
           ·refine wl (stp_on h rfl rfl rfl hb42 (cal h rfl en10 (known_L _ (hGl.keep hp)) fun u w25 ⟨e1, e2⟩ a h => ?_))
            subst e1
            have hp := hp.below e2
            refine wvl h (pckT h rfl hb42 rfl) fun a h => ?_
            refine wsn h rfl fun a h => ?_
            refine wp_ret ?_
            try simp only [xqs]
            refine rt_1 h rfl (rvT h rfl) ?_
            exact ⟨_, rfl, rfl, hp.bel⟩
           exact absurd hb42 (by first | decide | (rw [hd3]; decide))
          exact absurd hb40 (by first | decide | (simp only [Bool.not_eq_true', Bool.not_eq_false', Bool.not_eq_true, Bool.not_eq_false, decide_eq_true_eq, decide_eq_false_iff_not, gt_iff_lt, ge_iff_le]; omega) | (simp; done))
         exact absurd hb39 (by first | decide | (simp only [Bool.not_eq_true', Bool.not_eq_false', Bool.not_eq_true, Bool.not_eq_false, decide_eq_true_eq, decide_eq_false_iff_not, gt_iff_lt, ge_iff_le]; omega) | (simp; done))
        exact absurd hb24 (by decide)
       refine wl (stp_on h rfl rfl rfl hb23 (vl h (mov h rfl) fun a h => ?_))
       refine wl (stp_on h rfl rfl rfl hb23 (vl h (nei h rfl rfl) fun a h => ?_))
       refine wl (stp_on h rfl rfl rfl hb22 (vl h (pckF h rfl hb23 rfl) fun a h => ?_))
       refine wvl h (pckT h rfl hb22 rfl) fun a h => ?_
       refine wn ?_
       refine cnd1 h rfl (fun hb43 => ?_) (fun hb43 => ?_)
       ·have hpx : -1000 ≤ px ∧ px ≤ 1000 := ⟨of_decide_eq_true ha1, of_decide_eq_true ha2⟩
        have hpy : -1000 ≤ py ∧ py ≤ 1000 := ⟨of_decide_eq_true ha3, of_decide_eq_true ha4⟩
        have hQ : 0 < px * px + py * py := by have q1 := Geo.sq_nonneg px; have q2 := Geo.sq_nonneg py; have q3 := sq_pos (x := py) (by have hq8 := hb43; simpa using hq8); omega
        refine wp_seq ?_
        refine rg ?_
        refine wmv h rfl fun a h => ?_
        refine wvl h (eqi h rfl rfl) fun a h => ?_
        refine wmv h rfl fun a h => ?_
        refine split (t := 165) h rfl (fun hb44 => ?_) (fun hb44 => ?_)
        ·refine wl (stp_on h rfl rfl rfl hb44 (vl h (mov h rfl) fun a h => ?_))
         refine wl (stp_on h rfl rfl rfl hb44 (vl h (mov h rfl) fun a h => ?_))
         refine wl (stp_on h rfl rfl rfl hb44 (vl h (iadR (r.toNat) h rfl rfl Tryz.underlying37 sz51 (hR.keep (by decide) hp cl0) (by omega) (by omega)) fun a h => ?_))
         refine wl (stp_on h rfl rfl rfl hb44 (vl h (ldE h (hR.keep (by decide) hp cl0) hz rfl ag51 sz51) fun a h => ?_))
         refine wl (stp_on h rfl rfl rfl hb44 (vl h (mov h rfl) fun a h => ?_))
         refine wl (stp_on h rfl rfl rfl hb44 (vl h (mov h rfl) fun a h => ?_))
         refine wl (stp_on h rfl rfl rfl hb44 (cal h rfl en27 (meets_L z px py false _ hzB hpx hpy) fun u w26 ⟨e1, e2⟩ a h => ?_))
         subst e1
         have hp := hp.below e2
         refine wvl h (pckT h rfl hb44 rfl) fun a h => ?_
         refine wmv h rfl fun a h => ?_
         refine split (t := 174) h rfl (fun hb45 => ?_) (fun hb45 => ?_)
         ·have hM := hb45
          refine wl (stp_on h rfl rfl rfl hb45 (vl h (mov h rfl) fun a h => ?_))
          refine wl (stp_on h rfl rfl rfl hb45 (vl h (mov h rfl) fun a h => ?_))
          refine wl (stp_on h rfl rfl rfl hb45 (vl h (iadR (p.toNat) h rfl rfl Tryz.underlying37 sz51 (hR.keep (by decide) hp cl0) (by omega) (by omega)) fun a h => ?_))
          refine wl (stp_on h rfl rfl rfl hb45 (vl h (ldE h (hR.keep (by decide) hp cl0) hy rfl ag51 sz51) fun a h => ?_))
          refine wl (stp_on h rfl rfl rfl hb45 (vl h (mov h rfl) fun a h => ?_))
          refine wl (stp_on h rfl rfl rfl hb45 (vl h (mov h rfl) fun a h => ?_))
          refine wl (stp_on h rfl rfl rfl hb45 (cal h rfl en27 (meets_L y px py false _ hyB hpx hpy) fun u w27 ⟨e1, e2⟩ a h => ?_))
          subst e1
          have hp := hp.below e2
          refine wl (stp_on h rfl rfl rfl hb45 (vl h (not_ h rfl) fun a h => ?_))
          refine wvl h (pckT h rfl hb45 rfl) fun a h => ?_
          refine wn ?_
          refine cnd1 h rfl (fun hb46 => ?_) (fun hb46 => ?_)
          ·exact absurd hb46 (by first | decide | (rw [meets_dark hyB hzB hw hM]; decide))
          refine skp ?_
          refine rdh (n := 31) hp mixed rfl ?_
          have hp := hp.drew
          refine tkm 0 h rfl hp rfl fun a h => ?_
          refine tkq 1 h rfl hp (fun W _ => eqi h rfl rfl) fun a h => ?_
          refine tkm 2 h rfl hp rfl fun a h => ?_
          refine split (t := 186) h rfl (fun hb47 => ?_) (fun hb47 => ?_)
          ·exact absurd hb47 (by decide)
          refine tkG 3 h rfl hp rfl rfl rfl hb47 fun a h => ?_
          refine tkG 4 h rfl hp rfl rfl rfl hb47 fun a h => ?_
          refine tkG 5 h rfl hp rfl rfl rfl hb47 fun a h => ?_
          refine tkG 6 h rfl hp rfl rfl rfl hb47 fun a h => ?_
          refine tkG 7 h rfl hp rfl rfl rfl hb47 fun a h => ?_
          refine tkG 8 h rfl hp rfl rfl rfl hb47 fun a h => ?_
          refine tkG 9 h rfl hp rfl rfl rfl hb47 fun a h => ?_
          refine tkG 10 h rfl hp rfl rfl rfl hb47 fun a h => ?_
          refine tkG 11 h rfl hp rfl rfl rfl hb47 fun a h => ?_
          refine tkq 12 h rfl hp (fun W _ => pckF h rfl hb47 rfl) fun a h => ?_
          refine tkm 13 h rfl hp rfl fun a h => ?_
          refine tkG 14 h rfl hp rfl rfl rfl rfl fun a h => ?_
          refine tkG 15 h rfl hp rfl rfl rfl rfl fun a h => ?_
          refine tkG 16 h rfl hp rfl rfl rfl rfl fun a h => ?_
          refine tkG 17 h rfl hp rfl rfl rfl rfl fun a h => ?_
          refine tkG 18 h rfl hp rfl rfl rfl rfl fun a h => ?_
          refine tkG 19 h rfl hp rfl rfl rfl rfl fun a h => ?_
          refine tkG 20 h rfl hp rfl rfl rfl rfl fun a h => ?_
          refine tkq 21 h rfl hp (fun W _ => pckF h rfl rfl rfl) fun a h => ?_
          refine tkm 22 h rfl hp rfl fun a h => ?_
          refine tkG 23 h rfl hp rfl rfl rfl rfl fun a h => ?_
          refine tkG 24 h rfl hp rfl rfl rfl rfl fun a h => ?_
          refine tkG 25 h rfl hp rfl rfl rfl rfl fun a h => ?_
          refine tkG 26 h rfl hp rfl rfl rfl rfl fun a h => ?_
          refine tkG 27 h rfl hp rfl rfl rfl rfl fun a h => ?_
          refine tkG 28 h rfl hp rfl rfl rfl rfl fun a h => ?_
          refine tkG 29 h rfl hp rfl rfl rfl rfl fun a h => ?_
          refine tkq 30 h rfl hp (fun W _ => pckF h rfl rfl rfl) fun a h => ?_
          refine dn (by kernel_rfl) ?_
          refine cnd1 h rfl (fun e => nomatch e) (fun _ => ?_)
          refine skp ?_
          refine wp_seq ?_
          refine rg ?_
          refine wm2 h rfl rfl rfl rfl fun a h => ?_
          refine wvl h (eqi h rfl rfl) fun a h => ?_
          refine wmv h rfl fun a h => ?_
          refine split (t := 218) h rfl (fun hb48 => ?_) (fun hb48 => ?_)
          ·refine wl (stp_off h rfl rfl rfl rfl rfl hb48 fun a h => ?_)
           refine wl (stp_off h rfl rfl rfl rfl rfl hb48 fun a h => ?_)
           refine wl (stp_off h rfl rfl rfl rfl rfl hb48 fun a h => ?_)
           refine wvl h (pckT h rfl hb48 rfl) fun a h => ?_
           refine wmv h rfl fun a h => ?_
           refine wl (stp_off h rfl rfl rfl rfl rfl rfl fun a h => ?_)
           refine wl (stp_off h rfl rfl rfl rfl rfl rfl fun a h => ?_)
           refine wvl h (pckT h rfl rfl rfl) fun a h => ?_
           refine wn ?_
           refine cnd1 h rfl (fun _ => ?_) (fun e => nomatch e)
           refine rg ?_
           refine wl (cal h rfl en10 (known_L _ (hGl.keep hp)) fun u w28 ⟨e1, e2⟩ a h => ?_)
           subst e1
           have hp := hp.below e2
           refine wsn h rfl fun a h => ?_
           refine wp_ret ?_
           try simp only [xqs]
           refine rt_1 h rfl (rvT h rfl) ?_
           exact ⟨_, rfl, rfl, hp.bel⟩
          have hopd := hb48
          refine wl (stp_on h rfl rfl rfl hb48 (vl h (mov h rfl) fun a h => ?_))
          refine wl (stp_on h rfl rfl rfl hb48 (vl h (mov h rfl) fun a h => ?_))
          refine wl (stp_on h rfl rfl rfl hb48 (vl h (eqi h rfl rfl) fun a h => ?_))
          refine wvl h (pckF h rfl hb48 rfl) fun a h => ?_
          refine wmv h rfl fun a h => ?_
          refine split (t := 223) h rfl (fun hb49 => ?_) (fun hb49 => ?_)
          ·refine wl (stp_off h rfl rfl rfl rfl rfl hb49 fun a h => ?_)
           refine wl (stp_off h rfl rfl rfl rfl rfl hb49 fun a h => ?_)
           refine wvl h (pckT h rfl hb49 rfl) fun a h => ?_
           refine wn ?_
           refine cnd1 h rfl (fun _ => ?_) (fun e => nomatch e)
           refine rg ?_
           refine wl (cal h rfl en10 (known_L _ (hGl.keep hp)) fun u w29 ⟨e1, e2⟩ a h => ?_)
           subst e1
           have hp := hp.below e2
           refine wsn h rfl fun a h => ?_
           refine wp_ret ?_
           try simp only [xqs]
           refine rt_1 h rfl (rvT h rfl) ?_
           exact ⟨_, rfl, rfl, hp.bel⟩
          have hor := hb49
          refine wl (stp_on h rfl rfl rfl hb49 (vl h (mov h rfl) fun a h => ?_))
          refine wl (stp_on h rfl rfl rfl hb49 (vl h (nei h rfl rfl) fun a h => ?_))
          refine wvl h (pckF h rfl hb49 rfl) fun a h => ?_
          refine wn ?_
          refine cnd1 h rfl (fun hb50 => ?_) (fun hb50 => ?_)
          ·exact absurd hb50 (by decide)
          have hoq : o ≠ r := of_decide_eq_false hor
          have hop : o ≠ p := of_decide_eq_false hopd
          have hqo := nb_of hb h2 h3 (Ne.symm hoq)
          have hpo := nb_of hb h1 h3 (Ne.symm hop)
          refine skp ?_
          refine rg ?_
          refine wm3 h rfl rfl rfl rfl rfl rfl fun a h => ?_
          refine wl (cal h rfl en18 (Shades_v (hR.keep (by decide) hp cl0) hqo hz ht) fun u w30 ⟨e1, e2⟩ a h => ?_)
          subst e1
          have hp := hp.below e2
          refine wmv h rfl fun a h => ?_
          refine wvl h (ext h rfl rfl) fun a h => ?_
          refine wvl h (ext h rfl rfl) fun a h => ?_
          refine ws2 h rfl rfl rfl rfl fun a h => ?_
          refine rg ?_
          refine wm3 h rfl rfl rfl rfl rfl rfl fun a h => ?_
          refine wl (cal h rfl en18 (Shades_v (hR.keep (by decide) hp cl0) hpo hy ht) fun u w31 ⟨e1, e2⟩ a h => ?_)
          subst e1
          have hp := hp.below e2
          refine wmv h rfl fun a h => ?_
          refine wvl h (ext h rfl rfl) fun a h => ?_
          refine wvl h (ext h rfl rfl) fun a h => ?_
          refine ws2 h rfl rfl rfl rfl fun a h => ?_
          refine rg ?_
          refine wmv h rfl fun a h => ?_
          refine wvl h (eqi h rfl rfl) fun a h => ?_
          refine wmv h rfl fun a h => ?_
          refine split (t := 244) h rfl (fun hb51 => ?_) (fun hb51 => ?_)
          ·refine wl (stp_on h rfl rfl rfl hb51 (vl h (mov h rfl) fun a h => ?_))
           refine wl (stp_on h rfl rfl rfl hb51 (vl h (eqi h rfl rfl) fun a h => ?_))
           refine wvl h (pckT h rfl hb51 rfl) fun a h => ?_
           refine wmv h rfl fun a h => ?_
           refine split (t := 248) h rfl (fun hb52 => ?_) (fun hb52 => ?_)
           ·refine wl (stp_on h rfl rfl rfl hb52 (vl h (mov h rfl) fun a h => ?_))
            refine wl (stp_on h rfl rfl rfl hb52 (vl h (nei h rfl rfl) fun a h => ?_))
            refine wl (stp_on h rfl rfl rfl hb52 (vl h (mov h rfl) fun a h => ?_))
            refine split (t := 251) h rfl (fun hb53 => ?_) (fun hb53 => ?_)
            ·refine wl (stp_off h rfl rfl rfl rfl rfl hb53 fun a h => ?_)
             refine wl (stp_off h rfl rfl rfl rfl rfl hb53 fun a h => ?_)
             refine wl (stp_on h rfl rfl rfl hb52 (vl h (pckT h rfl hb53 rfl) fun a h => ?_))
             refine wvl h (pckT h rfl hb52 rfl) fun a h => ?_
             refine wmv h rfl fun a h => ?_
             refine wl (stp_on h rfl rfl rfl rfl (cal h rfl en10 (known_L _ (hGl.keep hp)) fun u w32 ⟨e1, e2⟩ a h => ?_))
             subst e1
             have hp := hp.below e2
             refine wvl h (pckT h rfl rfl rfl) fun a h => ?_
             refine wsn h rfl fun a h => ?_
             refine wp_ret ?_
             try simp only [xqs]
             refine rt_1 h rfl (rvT h rfl) ?_
             exact ⟨_, rfl, rfl, hp.bel⟩
            have hc3 : shadesB z t = 3 := by have hq9 := hb53; simpa using hq9
            have hd3 := dark_trans hyB hzB htB hw hc3
            refine wl (stp_on h rfl rfl rfl hb53 (vl h (mov h rfl) fun a h => ?_))
            refine wl (stp_on h rfl rfl rfl hb53 (vl h (eqi h rfl rfl) fun a h => ?_))
            refine wl (stp_on h rfl rfl rfl hb52 (vl h (pckF h rfl hb53 rfl) fun a h => ?_))
            refine wvl h (pckT h rfl hb52 rfl) fun a h => ?_
            refine wmv h rfl fun a h => ?_
            refine split (t := 256) h rfl (fun hb54 => ?_) (fun hb54 => ?_)
            ·refine wl (stp_on h rfl rfl rfl hb54 (cal h rfl en10 (known_L _ (hGl.keep hp)) fun u w33 ⟨e1, e2⟩ a h => ?_))
             subst e1
             have hp := hp.below e2
             refine wvl h (pckT h rfl hb54 rfl) fun a h => ?_
             refine wsn h rfl fun a h => ?_
             refine wp_ret ?_
             try simp only [xqs]
             refine rt_1 h rfl (rvT h rfl) ?_
             exact ⟨_, rfl, rfl, hp.bel⟩
            exact absurd hb54 (by first | decide | (rw [hd3]; decide))
           exact absurd hb52 (by first | decide | (simp only [Bool.not_eq_true', Bool.not_eq_false', Bool.not_eq_true, Bool.not_eq_false, decide_eq_true_eq, decide_eq_false_iff_not, gt_iff_lt, ge_iff_le]; omega) | (simp; done))
          exact absurd hb51 (by first | decide | (simp only [Bool.not_eq_true', Bool.not_eq_false', Bool.not_eq_true, Bool.not_eq_false, decide_eq_true_eq, decide_eq_false_iff_not, gt_iff_lt, ge_iff_le]; omega) | (simp; done))
         refine wl (stp_off h rfl rfl rfl rfl rfl hb45 fun a h => ?_)
         refine wl (stp_off h rfl rfl rfl rfl rfl hb45 fun a h => ?_)
         refine wl (stp_off h rfl rfl rfl rfl rfl hb45 fun a h => ?_)
         refine wl (stp_off h rfl rfl rfl rfl rfl hb45 fun a h => ?_)
         refine wl (stp_off h rfl rfl rfl rfl rfl hb45 fun a h => ?_)
         refine wl (stp_off h rfl rfl rfl rfl rfl hb45 fun a h => ?_)
         refine wl (stp_off h rfl rfl rfl rfl rfl hb45 fun a h => ?_)
         refine wl (stp_off h rfl rfl rfl rfl rfl hb45 fun a h => ?_)
         refine wvl h (pckF h rfl hb45 rfl) fun a h => ?_
         refine wn ?_
         refine cnd1 h rfl (fun e => nomatch e) (fun _ => ?_)
         refine skp ?_
         refine rdh (n := 31) hp mixed rfl ?_
         have hp := hp.drew
         refine tkm 0 h rfl hp rfl fun a h => ?_
         refine tkq 1 h rfl hp (fun W _ => eqi h rfl rfl) fun a h => ?_
         refine tkm 2 h rfl hp rfl fun a h => ?_
         refine split (t := 186) h rfl (fun hb55 => ?_) (fun hb55 => ?_)
         ·exact absurd hb55 (by decide)
         refine tkG 3 h rfl hp rfl rfl rfl hb55 fun a h => ?_
         refine tkG 4 h rfl hp rfl rfl rfl hb55 fun a h => ?_
         refine tkG 5 h rfl hp rfl rfl rfl hb55 fun a h => ?_
         refine tkG 6 h rfl hp rfl rfl rfl hb55 fun a h => ?_
         refine tkG 7 h rfl hp rfl rfl rfl hb55 fun a h => ?_
         refine tkG 8 h rfl hp rfl rfl rfl hb55 fun a h => ?_
         refine tkG 9 h rfl hp rfl rfl rfl hb55 fun a h => ?_
         refine tkG 10 h rfl hp rfl rfl rfl hb55 fun a h => ?_
         refine tkG 11 h rfl hp rfl rfl rfl hb55 fun a h => ?_
         refine tkq 12 h rfl hp (fun W _ => pckF h rfl hb55 rfl) fun a h => ?_
         refine tkm 13 h rfl hp rfl fun a h => ?_
         refine tkG 14 h rfl hp rfl rfl rfl rfl fun a h => ?_
         refine tkG 15 h rfl hp rfl rfl rfl rfl fun a h => ?_
         refine tkG 16 h rfl hp rfl rfl rfl rfl fun a h => ?_
         refine tkG 17 h rfl hp rfl rfl rfl rfl fun a h => ?_
         refine tkG 18 h rfl hp rfl rfl rfl rfl fun a h => ?_
         refine tkG 19 h rfl hp rfl rfl rfl rfl fun a h => ?_
         refine tkG 20 h rfl hp rfl rfl rfl rfl fun a h => ?_
         refine tkq 21 h rfl hp (fun W _ => pckF h rfl rfl rfl) fun a h => ?_
         refine tkm 22 h rfl hp rfl fun a h => ?_
         refine tkG 23 h rfl hp rfl rfl rfl rfl fun a h => ?_
         refine tkG 24 h rfl hp rfl rfl rfl rfl fun a h => ?_
         refine tkG 25 h rfl hp rfl rfl rfl rfl fun a h => ?_
         refine tkG 26 h rfl hp rfl rfl rfl rfl fun a h => ?_
         refine tkG 27 h rfl hp rfl rfl rfl rfl fun a h => ?_
         refine tkG 28 h rfl hp rfl rfl rfl rfl fun a h => ?_
         refine tkG 29 h rfl hp rfl rfl rfl rfl fun a h => ?_
         refine tkq 30 h rfl hp (fun W _ => pckF h rfl rfl rfl) fun a h => ?_
         refine dn (by kernel_rfl) ?_
         refine cnd1 h rfl (fun e => nomatch e) (fun _ => ?_)
         refine skp ?_
         refine wp_seq ?_
         refine rg ?_
         refine wm2 h rfl rfl rfl rfl fun a h => ?_
         refine wvl h (eqi h rfl rfl) fun a h => ?_
         refine wmv h rfl fun a h => ?_
         refine split (t := 218) h rfl (fun hb56 => ?_) (fun hb56 => ?_)
         ·refine wl (stp_off h rfl rfl rfl rfl rfl hb56 fun a h => ?_)
          refine wl (stp_off h rfl rfl rfl rfl rfl hb56 fun a h => ?_)
          refine wl (stp_off h rfl rfl rfl rfl rfl hb56 fun a h => ?_)
          refine wvl h (pckT h rfl hb56 rfl) fun a h => ?_
          refine wmv h rfl fun a h => ?_
          refine wl (stp_off h rfl rfl rfl rfl rfl rfl fun a h => ?_)
          refine wl (stp_off h rfl rfl rfl rfl rfl rfl fun a h => ?_)
          refine wvl h (pckT h rfl rfl rfl) fun a h => ?_
          refine wn ?_
          refine cnd1 h rfl (fun _ => ?_) (fun e => nomatch e)
          refine rg ?_
          refine wl (cal h rfl en10 (known_L _ (hGl.keep hp)) fun u w34 ⟨e1, e2⟩ a h => ?_)
          subst e1
          have hp := hp.below e2
          refine wsn h rfl fun a h => ?_
          refine wp_ret ?_
          try simp only [xqs]
          refine rt_1 h rfl (rvT h rfl) ?_
          exact ⟨_, rfl, rfl, hp.bel⟩
         have hopd := hb56
         refine wl (stp_on h rfl rfl rfl hb56 (vl h (mov h rfl) fun a h => ?_))
         refine wl (stp_on h rfl rfl rfl hb56 (vl h (mov h rfl) fun a h => ?_))
         refine wl (stp_on h rfl rfl rfl hb56 (vl h (eqi h rfl rfl) fun a h => ?_))
         refine wvl h (pckF h rfl hb56 rfl) fun a h => ?_
         refine wmv h rfl fun a h => ?_
         refine split (t := 223) h rfl (fun hb57 => ?_) (fun hb57 => ?_)
         ·refine wl (stp_off h rfl rfl rfl rfl rfl hb57 fun a h => ?_)
          refine wl (stp_off h rfl rfl rfl rfl rfl hb57 fun a h => ?_)
          refine wvl h (pckT h rfl hb57 rfl) fun a h => ?_
          refine wn ?_
          refine cnd1 h rfl (fun _ => ?_) (fun e => nomatch e)
          refine rg ?_
          refine wl (cal h rfl en10 (known_L _ (hGl.keep hp)) fun u w35 ⟨e1, e2⟩ a h => ?_)
          subst e1
          have hp := hp.below e2
          refine wsn h rfl fun a h => ?_
          refine wp_ret ?_
          try simp only [xqs]
          refine rt_1 h rfl (rvT h rfl) ?_
          exact ⟨_, rfl, rfl, hp.bel⟩
         have hor := hb57
         refine wl (stp_on h rfl rfl rfl hb57 (vl h (mov h rfl) fun a h => ?_))
         refine wl (stp_on h rfl rfl rfl hb57 (vl h (nei h rfl rfl) fun a h => ?_))
         refine wvl h (pckF h rfl hb57 rfl) fun a h => ?_
         refine wn ?_
         refine cnd1 h rfl (fun hb58 => ?_) (fun hb58 => ?_)
         ·exact absurd hb58 (by decide)
         have hoq : o ≠ r := of_decide_eq_false hor
         have hop : o ≠ p := of_decide_eq_false hopd
         have hqo := nb_of hb h2 h3 (Ne.symm hoq)
         have hpo := nb_of hb h1 h3 (Ne.symm hop)
         refine skp ?_
         refine rg ?_
         refine wm3 h rfl rfl rfl rfl rfl rfl fun a h => ?_
         refine wl (cal h rfl en18 (Shades_v (hR.keep (by decide) hp cl0) hqo hz ht) fun u w36 ⟨e1, e2⟩ a h => ?_)
         subst e1
         have hp := hp.below e2
         refine wmv h rfl fun a h => ?_
         refine wvl h (ext h rfl rfl) fun a h => ?_
         refine wvl h (ext h rfl rfl) fun a h => ?_
         refine ws2 h rfl rfl rfl rfl fun a h => ?_
         refine rg ?_
         refine wm3 h rfl rfl rfl rfl rfl rfl fun a h => ?_
         refine wl (cal h rfl en18 (Shades_v (hR.keep (by decide) hp cl0) hpo hy ht) fun u w37 ⟨e1, e2⟩ a h => ?_)
         subst e1
         have hp := hp.below e2
         refine wmv h rfl fun a h => ?_
         refine wvl h (ext h rfl rfl) fun a h => ?_
         refine wvl h (ext h rfl rfl) fun a h => ?_
         refine ws2 h rfl rfl rfl rfl fun a h => ?_
         refine rg ?_
         refine wmv h rfl fun a h => ?_
         refine wvl h (eqi h rfl rfl) fun a h => ?_
         refine wmv h rfl fun a h => ?_
         refine split (t := 244) h rfl (fun hb59 => ?_) (fun hb59 => ?_)
         ·refine wl (stp_on h rfl rfl rfl hb59 (vl h (mov h rfl) fun a h => ?_))
          refine wl (stp_on h rfl rfl rfl hb59 (vl h (eqi h rfl rfl) fun a h => ?_))
          refine wvl h (pckT h rfl hb59 rfl) fun a h => ?_
          refine wmv h rfl fun a h => ?_
          refine split (t := 248) h rfl (fun hb60 => ?_) (fun hb60 => ?_)
          ·refine wl (stp_on h rfl rfl rfl hb60 (vl h (mov h rfl) fun a h => ?_))
           refine wl (stp_on h rfl rfl rfl hb60 (vl h (nei h rfl rfl) fun a h => ?_))
           refine wl (stp_on h rfl rfl rfl hb60 (vl h (mov h rfl) fun a h => ?_))
           refine split (t := 251) h rfl (fun hb61 => ?_) (fun hb61 => ?_)
           ·refine wl (stp_off h rfl rfl rfl rfl rfl hb61 fun a h => ?_)
            refine wl (stp_off h rfl rfl rfl rfl rfl hb61 fun a h => ?_)
            refine wl (stp_on h rfl rfl rfl hb60 (vl h (pckT h rfl hb61 rfl) fun a h => ?_))
            refine wvl h (pckT h rfl hb60 rfl) fun a h => ?_
            refine wmv h rfl fun a h => ?_
            refine wl (stp_on h rfl rfl rfl rfl (cal h rfl en10 (known_L _ (hGl.keep hp)) fun u w38 ⟨e1, e2⟩ a h => ?_))
            subst e1
            have hp := hp.below e2
            refine wvl h (pckT h rfl rfl rfl) fun a h => ?_
            refine wsn h rfl fun a h => ?_
            refine wp_ret ?_
            try simp only [xqs]
            refine rt_1 h rfl (rvT h rfl) ?_
            exact ⟨_, rfl, rfl, hp.bel⟩
           have hc3 : shadesB z t = 3 := by have hq9 := hb61; simpa using hq9
           have hd3 := dark_trans hyB hzB htB hw hc3
           refine wl (stp_on h rfl rfl rfl hb61 (vl h (mov h rfl) fun a h => ?_))
           refine wl (stp_on h rfl rfl rfl hb61 (vl h (eqi h rfl rfl) fun a h => ?_))
           refine wl (stp_on h rfl rfl rfl hb60 (vl h (pckF h rfl hb61 rfl) fun a h => ?_))
           refine wvl h (pckT h rfl hb60 rfl) fun a h => ?_
           refine wmv h rfl fun a h => ?_
           refine split (t := 256) h rfl (fun hb62 => ?_) (fun hb62 => ?_)
           ·refine wl (stp_on h rfl rfl rfl hb62 (cal h rfl en10 (known_L _ (hGl.keep hp)) fun u w39 ⟨e1, e2⟩ a h => ?_))
            subst e1
            have hp := hp.below e2
            refine wvl h (pckT h rfl hb62 rfl) fun a h => ?_
            refine wsn h rfl fun a h => ?_
            refine wp_ret ?_
            try simp only [xqs]
            refine rt_1 h rfl (rvT h rfl) ?_
            exact ⟨_, rfl, rfl, hp.bel⟩
           exact absurd hb62 (by first | decide | (rw [hd3]; decide))
          exact absurd hb60 (by first | decide | (simp only [Bool.not_eq_true', Bool.not_eq_false', Bool.not_eq_true, Bool.not_eq_false, decide_eq_true_eq, decide_eq_false_iff_not, gt_iff_lt, ge_iff_le]; omega) | (simp; done))
         exact absurd hb59 (by first | decide | (simp only [Bool.not_eq_true', Bool.not_eq_false', Bool.not_eq_true, Bool.not_eq_false, decide_eq_true_eq, decide_eq_false_iff_not, gt_iff_lt, ge_iff_le]; omega) | (simp; done))
        exact absurd hb44 (by decide)
       refine skp ?_
       refine wp_seq ?_
       refine rg ?_
       refine wm2 h rfl rfl rfl rfl fun a h => ?_
       refine wvl h (eqi h rfl rfl) fun a h => ?_
       refine wmv h rfl fun a h => ?_
       refine split (t := 218) h rfl (fun hb63 => ?_) (fun hb63 => ?_)
       ·refine wl (stp_off h rfl rfl rfl rfl rfl hb63 fun a h => ?_)
        refine wl (stp_off h rfl rfl rfl rfl rfl hb63 fun a h => ?_)
        refine wl (stp_off h rfl rfl rfl rfl rfl hb63 fun a h => ?_)
        refine wvl h (pckT h rfl hb63 rfl) fun a h => ?_
        refine wmv h rfl fun a h => ?_
        refine wl (stp_off h rfl rfl rfl rfl rfl rfl fun a h => ?_)
        refine wl (stp_off h rfl rfl rfl rfl rfl rfl fun a h => ?_)
        refine wvl h (pckT h rfl rfl rfl) fun a h => ?_
        refine wn ?_
        refine cnd1 h rfl (fun _ => ?_) (fun e => nomatch e)
        refine rg ?_
        refine wl (cal h rfl en10 (known_L _ (hGl.keep hp)) fun u w40 ⟨e1, e2⟩ a h => ?_)
        subst e1
        have hp := hp.below e2
        refine wsn h rfl fun a h => ?_
        refine wp_ret ?_
        try simp only [xqs]
        refine rt_1 h rfl (rvT h rfl) ?_
        exact ⟨_, rfl, rfl, hp.bel⟩
       have hopd := hb63
       refine wl (stp_on h rfl rfl rfl hb63 (vl h (mov h rfl) fun a h => ?_))
       refine wl (stp_on h rfl rfl rfl hb63 (vl h (mov h rfl) fun a h => ?_))
       refine wl (stp_on h rfl rfl rfl hb63 (vl h (eqi h rfl rfl) fun a h => ?_))
       refine wvl h (pckF h rfl hb63 rfl) fun a h => ?_
       refine wmv h rfl fun a h => ?_
       refine split (t := 223) h rfl (fun hb64 => ?_) (fun hb64 => ?_)
       ·refine wl (stp_off h rfl rfl rfl rfl rfl hb64 fun a h => ?_)
        refine wl (stp_off h rfl rfl rfl rfl rfl hb64 fun a h => ?_)
        refine wvl h (pckT h rfl hb64 rfl) fun a h => ?_
        refine wn ?_
        refine cnd1 h rfl (fun _ => ?_) (fun e => nomatch e)
        refine rg ?_
        refine wl (cal h rfl en10 (known_L _ (hGl.keep hp)) fun u w41 ⟨e1, e2⟩ a h => ?_)
        subst e1
        have hp := hp.below e2
        refine wsn h rfl fun a h => ?_
        refine wp_ret ?_
        try simp only [xqs]
        refine rt_1 h rfl (rvT h rfl) ?_
        exact ⟨_, rfl, rfl, hp.bel⟩
       have hor := hb64
       refine wl (stp_on h rfl rfl rfl hb64 (vl h (mov h rfl) fun a h => ?_))
       refine wl (stp_on h rfl rfl rfl hb64 (vl h (nei h rfl rfl) fun a h => ?_))
       refine wvl h (pckF h rfl hb64 rfl) fun a h => ?_
       refine wn ?_
       refine cnd1 h rfl (fun hb65 => ?_) (fun hb65 => ?_)
       ·exact absurd hb65 (by decide)
       have hoq : o ≠ r := of_decide_eq_false hor
       have hop : o ≠ p := of_decide_eq_false hopd
       have hqo := nb_of hb h2 h3 (Ne.symm hoq)
       have hpo := nb_of hb h1 h3 (Ne.symm hop)
       refine skp ?_
       refine rg ?_
       refine wm3 h rfl rfl rfl rfl rfl rfl fun a h => ?_
       refine wl (cal h rfl en18 (Shades_v (hR.keep (by decide) hp cl0) hqo hz ht) fun u w42 ⟨e1, e2⟩ a h => ?_)
       subst e1
       have hp := hp.below e2
       refine wmv h rfl fun a h => ?_
       refine wvl h (ext h rfl rfl) fun a h => ?_
       refine wvl h (ext h rfl rfl) fun a h => ?_
       refine ws2 h rfl rfl rfl rfl fun a h => ?_
       refine rg ?_
       refine wm3 h rfl rfl rfl rfl rfl rfl fun a h => ?_
       refine wl (cal h rfl en18 (Shades_v (hR.keep (by decide) hp cl0) hpo hy ht) fun u w43 ⟨e1, e2⟩ a h => ?_)
       subst e1
       have hp := hp.below e2
       refine wmv h rfl fun a h => ?_
       refine wvl h (ext h rfl rfl) fun a h => ?_
       refine wvl h (ext h rfl rfl) fun a h => ?_
       refine ws2 h rfl rfl rfl rfl fun a h => ?_
       refine rg ?_
       refine wmv h rfl fun a h => ?_
       refine wvl h (eqi h rfl rfl) fun a h => ?_
       refine wmv h rfl fun a h => ?_
       refine split (t := 244) h rfl (fun hb66 => ?_) (fun hb66 => ?_)
       ·refine wl (stp_on h rfl rfl rfl hb66 (vl h (mov h rfl) fun a h => ?_))
        refine wl (stp_on h rfl rfl rfl hb66 (vl h (eqi h rfl rfl) fun a h => ?_))
        refine wvl h (pckT h rfl hb66 rfl) fun a h => ?_
        refine wmv h rfl fun a h => ?_
        refine split (t := 248) h rfl (fun hb67 => ?_) (fun hb67 => ?_)
        ·refine wl (stp_on h rfl rfl rfl hb67 (vl h (mov h rfl) fun a h => ?_))
         refine wl (stp_on h rfl rfl rfl hb67 (vl h (nei h rfl rfl) fun a h => ?_))
         refine wl (stp_on h rfl rfl rfl hb67 (vl h (mov h rfl) fun a h => ?_))
         refine split (t := 251) h rfl (fun hb68 => ?_) (fun hb68 => ?_)
         ·refine wl (stp_off h rfl rfl rfl rfl rfl hb68 fun a h => ?_)
          refine wl (stp_off h rfl rfl rfl rfl rfl hb68 fun a h => ?_)
          refine wl (stp_on h rfl rfl rfl hb67 (vl h (pckT h rfl hb68 rfl) fun a h => ?_))
          refine wvl h (pckT h rfl hb67 rfl) fun a h => ?_
          refine wmv h rfl fun a h => ?_
          refine wl (stp_on h rfl rfl rfl rfl (cal h rfl en10 (known_L _ (hGl.keep hp)) fun u w44 ⟨e1, e2⟩ a h => ?_))
          subst e1
          have hp := hp.below e2
          refine wvl h (pckT h rfl rfl rfl) fun a h => ?_
          refine wsn h rfl fun a h => ?_
          refine wp_ret ?_
          try simp only [xqs]
          refine rt_1 h rfl (rvT h rfl) ?_
          exact ⟨_, rfl, rfl, hp.bel⟩
         have hc3 : shadesB z t = 3 := by have hq9 := hb68; simpa using hq9
         have hd3 := dark_trans hyB hzB htB hw hc3
         refine wl (stp_on h rfl rfl rfl hb68 (vl h (mov h rfl) fun a h => ?_))
         refine wl (stp_on h rfl rfl rfl hb68 (vl h (eqi h rfl rfl) fun a h => ?_))
         refine wl (stp_on h rfl rfl rfl hb67 (vl h (pckF h rfl hb68 rfl) fun a h => ?_))
         refine wvl h (pckT h rfl hb67 rfl) fun a h => ?_
         refine wmv h rfl fun a h => ?_
         refine split (t := 256) h rfl (fun hb69 => ?_) (fun hb69 => ?_)
         ·refine wl (stp_on h rfl rfl rfl hb69 (cal h rfl en10 (known_L _ (hGl.keep hp)) fun u w45 ⟨e1, e2⟩ a h => ?_))
          subst e1
          have hp := hp.below e2
          refine wvl h (pckT h rfl hb69 rfl) fun a h => ?_
          refine wsn h rfl fun a h => ?_
          refine wp_ret ?_
          try simp only [xqs]
          refine rt_1 h rfl (rvT h rfl) ?_
          exact ⟨_, rfl, rfl, hp.bel⟩
         exact absurd hb69 (by first | decide | (rw [hd3]; decide))
        exact absurd hb67 (by first | decide | (simp only [Bool.not_eq_true', Bool.not_eq_false', Bool.not_eq_true, Bool.not_eq_false, decide_eq_true_eq, decide_eq_false_iff_not, gt_iff_lt, ge_iff_le]; omega) | (simp; done))
       exact absurd hb66 (by first | decide | (simp only [Bool.not_eq_true', Bool.not_eq_false', Bool.not_eq_true, Bool.not_eq_false, decide_eq_true_eq, decide_eq_false_iff_not, gt_iff_lt, ge_iff_le]; omega) | (simp; done))
      refine wl (stp_off h rfl rfl rfl rfl rfl hb22 fun a h => ?_)
      refine wl (stp_off h rfl rfl rfl rfl rfl hb22 fun a h => ?_)
      refine wl (stp_off h rfl rfl rfl rfl rfl hb22 fun a h => ?_)
      refine wl (stp_un h rfl rfl rfl rfl rfl fun a h => ?_)
      refine wl (stp_un h rfl rfl rfl rfl rfl fun a h => ?_)
      refine wl (stp_off h rfl rfl rfl rfl rfl hb22 fun a h => ?_)
      refine wvl h (pckF h rfl hb22 rfl) fun a h => ?_
      refine wn ?_
      refine cnd1 h rfl (fun e => nomatch e) (fun _ => ?_)
      refine skp ?_
      refine wp_seq ?_
      refine rg ?_
      refine wm2 h rfl rfl rfl rfl fun a h => ?_
      refine wvl h (eqi h rfl rfl) fun a h => ?_
      refine wmv h rfl fun a h => ?_
      refine split (t := 218) h rfl (fun hb70 => ?_) (fun hb70 => ?_)
      ·refine wl (stp_off h rfl rfl rfl rfl rfl hb70 fun a h => ?_)
       refine wl (stp_off h rfl rfl rfl rfl rfl hb70 fun a h => ?_)
       refine wl (stp_off h rfl rfl rfl rfl rfl hb70 fun a h => ?_)
       refine wvl h (pckT h rfl hb70 rfl) fun a h => ?_
       refine wmv h rfl fun a h => ?_
       refine wl (stp_off h rfl rfl rfl rfl rfl rfl fun a h => ?_)
       refine wl (stp_off h rfl rfl rfl rfl rfl rfl fun a h => ?_)
       refine wvl h (pckT h rfl rfl rfl) fun a h => ?_
       refine wn ?_
       refine cnd1 h rfl (fun _ => ?_) (fun e => nomatch e)
       refine rg ?_
       refine wl (cal h rfl en10 (known_L _ (hGl.keep hp)) fun u w46 ⟨e1, e2⟩ a h => ?_)
       subst e1
       have hp := hp.below e2
       refine wsn h rfl fun a h => ?_
       refine wp_ret ?_
       try simp only [xqs]
       refine rt_1 h rfl (rvT h rfl) ?_
       exact ⟨_, rfl, rfl, hp.bel⟩
      have hopd := hb70
      refine wl (stp_on h rfl rfl rfl hb70 (vl h (mov h rfl) fun a h => ?_))
      refine wl (stp_on h rfl rfl rfl hb70 (vl h (mov h rfl) fun a h => ?_))
      refine wl (stp_on h rfl rfl rfl hb70 (vl h (eqi h rfl rfl) fun a h => ?_))
      refine wvl h (pckF h rfl hb70 rfl) fun a h => ?_
      refine wmv h rfl fun a h => ?_
      refine split (t := 223) h rfl (fun hb71 => ?_) (fun hb71 => ?_)
      ·refine wl (stp_off h rfl rfl rfl rfl rfl hb71 fun a h => ?_)
       refine wl (stp_off h rfl rfl rfl rfl rfl hb71 fun a h => ?_)
       refine wvl h (pckT h rfl hb71 rfl) fun a h => ?_
       refine wn ?_
       refine cnd1 h rfl (fun _ => ?_) (fun e => nomatch e)
       refine rg ?_
       refine wl (cal h rfl en10 (known_L _ (hGl.keep hp)) fun u w47 ⟨e1, e2⟩ a h => ?_)
       subst e1
       have hp := hp.below e2
       refine wsn h rfl fun a h => ?_
       refine wp_ret ?_
       try simp only [xqs]
       refine rt_1 h rfl (rvT h rfl) ?_
       exact ⟨_, rfl, rfl, hp.bel⟩
      have hor := hb71
      refine wl (stp_on h rfl rfl rfl hb71 (vl h (mov h rfl) fun a h => ?_))
      refine wl (stp_on h rfl rfl rfl hb71 (vl h (nei h rfl rfl) fun a h => ?_))
      refine wvl h (pckF h rfl hb71 rfl) fun a h => ?_
      refine wn ?_
      refine cnd1 h rfl (fun hb72 => ?_) (fun hb72 => ?_)
      ·exact absurd hb72 (by decide)
      have hoq : o ≠ r := of_decide_eq_false hor
      have hop : o ≠ p := of_decide_eq_false hopd
      have hqo := nb_of hb h2 h3 (Ne.symm hoq)
      have hpo := nb_of hb h1 h3 (Ne.symm hop)
      refine skp ?_
      refine rg ?_
      refine wm3 h rfl rfl rfl rfl rfl rfl fun a h => ?_
      refine wl (cal h rfl en18 (Shades_v (hR.keep (by decide) hp cl0) hqo hz ht) fun u w48 ⟨e1, e2⟩ a h => ?_)
      subst e1
      have hp := hp.below e2
      refine wmv h rfl fun a h => ?_
      refine wvl h (ext h rfl rfl) fun a h => ?_
      refine wvl h (ext h rfl rfl) fun a h => ?_
      refine ws2 h rfl rfl rfl rfl fun a h => ?_
      refine rg ?_
      refine wm3 h rfl rfl rfl rfl rfl rfl fun a h => ?_
      refine wl (cal h rfl en18 (Shades_v (hR.keep (by decide) hp cl0) hpo hy ht) fun u w49 ⟨e1, e2⟩ a h => ?_)
      subst e1
      have hp := hp.below e2
      refine wmv h rfl fun a h => ?_
      refine wvl h (ext h rfl rfl) fun a h => ?_
      refine wvl h (ext h rfl rfl) fun a h => ?_
      refine ws2 h rfl rfl rfl rfl fun a h => ?_
      refine rg ?_
      refine wmv h rfl fun a h => ?_
      refine wvl h (eqi h rfl rfl) fun a h => ?_
      refine wmv h rfl fun a h => ?_
      refine split (t := 244) h rfl (fun hb73 => ?_) (fun hb73 => ?_)
      ·refine wl (stp_on h rfl rfl rfl hb73 (vl h (mov h rfl) fun a h => ?_))
       refine wl (stp_on h rfl rfl rfl hb73 (vl h (eqi h rfl rfl) fun a h => ?_))
       refine wvl h (pckT h rfl hb73 rfl) fun a h => ?_
       refine wmv h rfl fun a h => ?_
       refine split (t := 248) h rfl (fun hb74 => ?_) (fun hb74 => ?_)
       ·refine wl (stp_on h rfl rfl rfl hb74 (vl h (mov h rfl) fun a h => ?_))
        refine wl (stp_on h rfl rfl rfl hb74 (vl h (nei h rfl rfl) fun a h => ?_))
        refine wl (stp_on h rfl rfl rfl hb74 (vl h (mov h rfl) fun a h => ?_))
        refine split (t := 251) h rfl (fun hb75 => ?_) (fun hb75 => ?_)
        ·refine wl (stp_off h rfl rfl rfl rfl rfl hb75 fun a h => ?_)
         refine wl (stp_off h rfl rfl rfl rfl rfl hb75 fun a h => ?_)
         refine wl (stp_on h rfl rfl rfl hb74 (vl h (pckT h rfl hb75 rfl) fun a h => ?_))
         refine wvl h (pckT h rfl hb74 rfl) fun a h => ?_
         refine wmv h rfl fun a h => ?_
         refine wl (stp_on h rfl rfl rfl rfl (cal h rfl en10 (known_L _ (hGl.keep hp)) fun u w50 ⟨e1, e2⟩ a h => ?_))
         subst e1
         have hp := hp.below e2
         refine wvl h (pckT h rfl rfl rfl) fun a h => ?_
         refine wsn h rfl fun a h => ?_
         refine wp_ret ?_
         try simp only [xqs]
         refine rt_1 h rfl (rvT h rfl) ?_
         exact ⟨_, rfl, rfl, hp.bel⟩
        have hc3 : shadesB z t = 3 := by have hq9 := hb75; simpa using hq9
        have hd3 := dark_trans hyB hzB htB hw hc3
        refine wl (stp_on h rfl rfl rfl hb75 (vl h (mov h rfl) fun a h => ?_))
        refine wl (stp_on h rfl rfl rfl hb75 (vl h (eqi h rfl rfl) fun a h => ?_))
        refine wl (stp_on h rfl rfl rfl hb74 (vl h (pckF h rfl hb75 rfl) fun a h => ?_))
        refine wvl h (pckT h rfl hb74 rfl) fun a h => ?_
        refine wmv h rfl fun a h => ?_
        refine split (t := 256) h rfl (fun hb76 => ?_) (fun hb76 => ?_)
        ·refine wl (stp_on h rfl rfl rfl hb76 (cal h rfl en10 (known_L _ (hGl.keep hp)) fun u w51 ⟨e1, e2⟩ a h => ?_))
         subst e1
         have hp := hp.below e2
         refine wvl h (pckT h rfl hb76 rfl) fun a h => ?_
         refine wsn h rfl fun a h => ?_
         refine wp_ret ?_
         try simp only [xqs]
         refine rt_1 h rfl (rvT h rfl) ?_
         exact ⟨_, rfl, rfl, hp.bel⟩
        exact absurd hb76 (by first | decide | (rw [hd3]; decide))
       exact absurd hb74 (by first | decide | (simp only [Bool.not_eq_true', Bool.not_eq_false', Bool.not_eq_true, Bool.not_eq_false, decide_eq_true_eq, decide_eq_false_iff_not, gt_iff_lt, ge_iff_le]; omega) | (simp; done))
      exact absurd hb73 (by first | decide | (simp only [Bool.not_eq_true', Bool.not_eq_false', Bool.not_eq_true, Bool.not_eq_false, decide_eq_true_eq, decide_eq_false_iff_not, gt_iff_lt, ge_iff_le]; omega) | (simp; done))
     refine wl (stp_off h rfl rfl rfl rfl rfl hb21 fun a h => ?_)
     refine wl (stp_off h rfl rfl rfl rfl rfl hb21 fun a h => ?_)
     refine wvl h (pckF h rfl hb21 rfl) fun a h => ?_
     refine wmv h rfl fun a h => ?_
     refine wl (stp_off h rfl rfl rfl rfl rfl rfl fun a h => ?_)
     refine wl (stp_off h rfl rfl rfl rfl rfl rfl fun a h => ?_)
     refine wl (stp_off h rfl rfl rfl rfl rfl rfl fun a h => ?_)
     refine wl (stp_un h rfl rfl rfl rfl rfl fun a h => ?_)
     refine wl (stp_un h rfl rfl rfl rfl rfl fun a h => ?_)
     refine wl (stp_off h rfl rfl rfl rfl rfl rfl fun a h => ?_)
     refine wvl h (pckF h rfl rfl rfl) fun a h => ?_
     refine wn ?_
     refine cnd1 h rfl (fun e => nomatch e) (fun _ => ?_)
     refine skp ?_
     refine wp_seq ?_
     refine rg ?_
     refine wm2 h rfl rfl rfl rfl fun a h => ?_
     refine wvl h (eqi h rfl rfl) fun a h => ?_
     refine wmv h rfl fun a h => ?_
     refine split (t := 218) h rfl (fun hb77 => ?_) (fun hb77 => ?_)
     ·refine wl (stp_off h rfl rfl rfl rfl rfl hb77 fun a h => ?_)
      refine wl (stp_off h rfl rfl rfl rfl rfl hb77 fun a h => ?_)
      refine wl (stp_off h rfl rfl rfl rfl rfl hb77 fun a h => ?_)
      refine wvl h (pckT h rfl hb77 rfl) fun a h => ?_
      refine wmv h rfl fun a h => ?_
      refine wl (stp_off h rfl rfl rfl rfl rfl rfl fun a h => ?_)
      refine wl (stp_off h rfl rfl rfl rfl rfl rfl fun a h => ?_)
      refine wvl h (pckT h rfl rfl rfl) fun a h => ?_
      refine wn ?_
      refine cnd1 h rfl (fun _ => ?_) (fun e => nomatch e)
      refine rg ?_
      refine wl (cal h rfl en10 (known_L _ (hGl.keep hp)) fun u w52 ⟨e1, e2⟩ a h => ?_)
      subst e1
      have hp := hp.below e2
      refine wsn h rfl fun a h => ?_
      refine wp_ret ?_
      try simp only [xqs]
      refine rt_1 h rfl (rvT h rfl) ?_
      exact ⟨_, rfl, rfl, hp.bel⟩
     have hopd := hb77
     refine wl (stp_on h rfl rfl rfl hb77 (vl h (mov h rfl) fun a h => ?_))
     refine wl (stp_on h rfl rfl rfl hb77 (vl h (mov h rfl) fun a h => ?_))
     refine wl (stp_on h rfl rfl rfl hb77 (vl h (eqi h rfl rfl) fun a h => ?_))
     refine wvl h (pckF h rfl hb77 rfl) fun a h => ?_
     refine wmv h rfl fun a h => ?_
     refine split (t := 223) h rfl (fun hb78 => ?_) (fun hb78 => ?_)
     ·refine wl (stp_off h rfl rfl rfl rfl rfl hb78 fun a h => ?_)
      refine wl (stp_off h rfl rfl rfl rfl rfl hb78 fun a h => ?_)
      refine wvl h (pckT h rfl hb78 rfl) fun a h => ?_
      refine wn ?_
      refine cnd1 h rfl (fun _ => ?_) (fun e => nomatch e)
      refine rg ?_
      refine wl (cal h rfl en10 (known_L _ (hGl.keep hp)) fun u w53 ⟨e1, e2⟩ a h => ?_)
      subst e1
      have hp := hp.below e2
      refine wsn h rfl fun a h => ?_
      refine wp_ret ?_
      try simp only [xqs]
      refine rt_1 h rfl (rvT h rfl) ?_
      exact ⟨_, rfl, rfl, hp.bel⟩
     have hor := hb78
     refine wl (stp_on h rfl rfl rfl hb78 (vl h (mov h rfl) fun a h => ?_))
     refine wl (stp_on h rfl rfl rfl hb78 (vl h (nei h rfl rfl) fun a h => ?_))
     refine wvl h (pckF h rfl hb78 rfl) fun a h => ?_
     refine wn ?_
     refine cnd1 h rfl (fun hb79 => ?_) (fun hb79 => ?_)
     ·exact absurd hb79 (by decide)
     have hoq : o ≠ r := of_decide_eq_false hor
     have hop : o ≠ p := of_decide_eq_false hopd
     have hqo := nb_of hb h2 h3 (Ne.symm hoq)
     have hpo := nb_of hb h1 h3 (Ne.symm hop)
     refine skp ?_
     refine rg ?_
     refine wm3 h rfl rfl rfl rfl rfl rfl fun a h => ?_
     refine wl (cal h rfl en18 (Shades_v (hR.keep (by decide) hp cl0) hqo hz ht) fun u w54 ⟨e1, e2⟩ a h => ?_)
     subst e1
     have hp := hp.below e2
     refine wmv h rfl fun a h => ?_
     refine wvl h (ext h rfl rfl) fun a h => ?_
     refine wvl h (ext h rfl rfl) fun a h => ?_
     refine ws2 h rfl rfl rfl rfl fun a h => ?_
     refine rg ?_
     refine wm3 h rfl rfl rfl rfl rfl rfl fun a h => ?_
     refine wl (cal h rfl en18 (Shades_v (hR.keep (by decide) hp cl0) hpo hy ht) fun u w55 ⟨e1, e2⟩ a h => ?_)
     subst e1
     have hp := hp.below e2
     refine wmv h rfl fun a h => ?_
     refine wvl h (ext h rfl rfl) fun a h => ?_
     refine wvl h (ext h rfl rfl) fun a h => ?_
     refine ws2 h rfl rfl rfl rfl fun a h => ?_
     refine rg ?_
     refine wmv h rfl fun a h => ?_
     refine wvl h (eqi h rfl rfl) fun a h => ?_
     refine wmv h rfl fun a h => ?_
     refine split (t := 244) h rfl (fun hb80 => ?_) (fun hb80 => ?_)
     ·refine wl (stp_on h rfl rfl rfl hb80 (vl h (mov h rfl) fun a h => ?_))
      refine wl (stp_on h rfl rfl rfl hb80 (vl h (eqi h rfl rfl) fun a h => ?_))
      refine wvl h (pckT h rfl hb80 rfl) fun a h => ?_
      refine wmv h rfl fun a h => ?_
      refine split (t := 248) h rfl (fun hb81 => ?_) (fun hb81 => ?_)
      ·refine wl (stp_on h rfl rfl rfl hb81 (vl h (mov h rfl) fun a h => ?_))
       refine wl (stp_on h rfl rfl rfl hb81 (vl h (nei h rfl rfl) fun a h => ?_))
       refine wl (stp_on h rfl rfl rfl hb81 (vl h (mov h rfl) fun a h => ?_))
       refine split (t := 251) h rfl (fun hb82 => ?_) (fun hb82 => ?_)
       ·refine wl (stp_off h rfl rfl rfl rfl rfl hb82 fun a h => ?_)
        refine wl (stp_off h rfl rfl rfl rfl rfl hb82 fun a h => ?_)
        refine wl (stp_on h rfl rfl rfl hb81 (vl h (pckT h rfl hb82 rfl) fun a h => ?_))
        refine wvl h (pckT h rfl hb81 rfl) fun a h => ?_
        refine wmv h rfl fun a h => ?_
        refine wl (stp_on h rfl rfl rfl rfl (cal h rfl en10 (known_L _ (hGl.keep hp)) fun u w56 ⟨e1, e2⟩ a h => ?_))
        subst e1
        have hp := hp.below e2
        refine wvl h (pckT h rfl rfl rfl) fun a h => ?_
        refine wsn h rfl fun a h => ?_
        refine wp_ret ?_
        try simp only [xqs]
        refine rt_1 h rfl (rvT h rfl) ?_
        exact ⟨_, rfl, rfl, hp.bel⟩
       have hc3 : shadesB z t = 3 := by have hq9 := hb82; simpa using hq9
       have hd3 := dark_trans hyB hzB htB hw hc3
       refine wl (stp_on h rfl rfl rfl hb82 (vl h (mov h rfl) fun a h => ?_))
       refine wl (stp_on h rfl rfl rfl hb82 (vl h (eqi h rfl rfl) fun a h => ?_))
       refine wl (stp_on h rfl rfl rfl hb81 (vl h (pckF h rfl hb82 rfl) fun a h => ?_))
       refine wvl h (pckT h rfl hb81 rfl) fun a h => ?_
       refine wmv h rfl fun a h => ?_
       refine split (t := 256) h rfl (fun hb83 => ?_) (fun hb83 => ?_)
       ·refine wl (stp_on h rfl rfl rfl hb83 (cal h rfl en10 (known_L _ (hGl.keep hp)) fun u w57 ⟨e1, e2⟩ a h => ?_))
        subst e1
        have hp := hp.below e2
        refine wvl h (pckT h rfl hb83 rfl) fun a h => ?_
        refine wsn h rfl fun a h => ?_
        refine wp_ret ?_
        try simp only [xqs]
        refine rt_1 h rfl (rvT h rfl) ?_
        exact ⟨_, rfl, rfl, hp.bel⟩
       exact absurd hb83 (by first | decide | (rw [hd3]; decide))
      exact absurd hb81 (by first | decide | (simp only [Bool.not_eq_true', Bool.not_eq_false', Bool.not_eq_true, Bool.not_eq_false, decide_eq_true_eq, decide_eq_false_iff_not, gt_iff_lt, ge_iff_le]; omega) | (simp; done))
     exact absurd hb80 (by first | decide | (simp only [Bool.not_eq_true', Bool.not_eq_false', Bool.not_eq_true, Bool.not_eq_false, decide_eq_true_eq, decide_eq_false_iff_not, gt_iff_lt, ge_iff_le]; omega) | (simp; done))
    refine wl (stp_off h rfl rfl rfl rfl rfl hb20 fun a h => ?_)
    refine wl (stp_off h rfl rfl rfl rfl rfl hb20 fun a h => ?_)
    refine wvl h (pckF h rfl hb20 rfl) fun a h => ?_
    refine wmv h rfl fun a h => ?_
    refine wl (stp_off h rfl rfl rfl rfl rfl rfl fun a h => ?_)
    refine wl (stp_off h rfl rfl rfl rfl rfl rfl fun a h => ?_)
    refine wvl h (pckF h rfl rfl rfl) fun a h => ?_
    refine wmv h rfl fun a h => ?_
    refine wl (stp_off h rfl rfl rfl rfl rfl rfl fun a h => ?_)
    refine wl (stp_off h rfl rfl rfl rfl rfl rfl fun a h => ?_)
    refine wl (stp_off h rfl rfl rfl rfl rfl rfl fun a h => ?_)
    refine wl (stp_un h rfl rfl rfl rfl rfl fun a h => ?_)
    refine wl (stp_un h rfl rfl rfl rfl rfl fun a h => ?_)
    refine wl (stp_off h rfl rfl rfl rfl rfl rfl fun a h => ?_)
    refine wvl h (pckF h rfl rfl rfl) fun a h => ?_
    refine wn ?_
    refine cnd1 h rfl (fun e => nomatch e) (fun _ => ?_)
    refine skp ?_
    refine wp_seq ?_
    refine rg ?_
    refine wm2 h rfl rfl rfl rfl fun a h => ?_
    refine wvl h (eqi h rfl rfl) fun a h => ?_
    refine wmv h rfl fun a h => ?_
    refine split (t := 218) h rfl (fun hb84 => ?_) (fun hb84 => ?_)
    ·refine wl (stp_off h rfl rfl rfl rfl rfl hb84 fun a h => ?_)
     refine wl (stp_off h rfl rfl rfl rfl rfl hb84 fun a h => ?_)
     refine wl (stp_off h rfl rfl rfl rfl rfl hb84 fun a h => ?_)
     refine wvl h (pckT h rfl hb84 rfl) fun a h => ?_
     refine wmv h rfl fun a h => ?_
     refine wl (stp_off h rfl rfl rfl rfl rfl rfl fun a h => ?_)
     refine wl (stp_off h rfl rfl rfl rfl rfl rfl fun a h => ?_)
     refine wvl h (pckT h rfl rfl rfl) fun a h => ?_
     refine wn ?_
     refine cnd1 h rfl (fun _ => ?_) (fun e => nomatch e)
     refine rg ?_
     refine wl (cal h rfl en10 (known_L _ (hGl.keep hp)) fun u w58 ⟨e1, e2⟩ a h => ?_)
     subst e1
     have hp := hp.below e2
     refine wsn h rfl fun a h => ?_
     refine wp_ret ?_
     try simp only [xqs]
     refine rt_1 h rfl (rvT h rfl) ?_
     exact ⟨_, rfl, rfl, hp.bel⟩
    have hopd := hb84
    refine wl (stp_on h rfl rfl rfl hb84 (vl h (mov h rfl) fun a h => ?_))
    refine wl (stp_on h rfl rfl rfl hb84 (vl h (mov h rfl) fun a h => ?_))
    refine wl (stp_on h rfl rfl rfl hb84 (vl h (eqi h rfl rfl) fun a h => ?_))
    refine wvl h (pckF h rfl hb84 rfl) fun a h => ?_
    refine wmv h rfl fun a h => ?_
    refine split (t := 223) h rfl (fun hb85 => ?_) (fun hb85 => ?_)
    ·refine wl (stp_off h rfl rfl rfl rfl rfl hb85 fun a h => ?_)
     refine wl (stp_off h rfl rfl rfl rfl rfl hb85 fun a h => ?_)
     refine wvl h (pckT h rfl hb85 rfl) fun a h => ?_
     refine wn ?_
     refine cnd1 h rfl (fun _ => ?_) (fun e => nomatch e)
     refine rg ?_
     refine wl (cal h rfl en10 (known_L _ (hGl.keep hp)) fun u w59 ⟨e1, e2⟩ a h => ?_)
     subst e1
     have hp := hp.below e2
     refine wsn h rfl fun a h => ?_
     refine wp_ret ?_
     try simp only [xqs]
     refine rt_1 h rfl (rvT h rfl) ?_
     exact ⟨_, rfl, rfl, hp.bel⟩
    have hor := hb85
    refine wl (stp_on h rfl rfl rfl hb85 (vl h (mov h rfl) fun a h => ?_))
    refine wl (stp_on h rfl rfl rfl hb85 (vl h (nei h rfl rfl) fun a h => ?_))
    refine wvl h (pckF h rfl hb85 rfl) fun a h => ?_
    refine wn ?_
    refine cnd1 h rfl (fun hb86 => ?_) (fun hb86 => ?_)
    ·exact absurd hb86 (by decide)
    have hoq : o ≠ r := of_decide_eq_false hor
    have hop : o ≠ p := of_decide_eq_false hopd
    have hqo := nb_of hb h2 h3 (Ne.symm hoq)
    have hpo := nb_of hb h1 h3 (Ne.symm hop)
    refine skp ?_
    refine rg ?_
    refine wm3 h rfl rfl rfl rfl rfl rfl fun a h => ?_
    refine wl (cal h rfl en18 (Shades_v (hR.keep (by decide) hp cl0) hqo hz ht) fun u w60 ⟨e1, e2⟩ a h => ?_)
    subst e1
    have hp := hp.below e2
    refine wmv h rfl fun a h => ?_
    refine wvl h (ext h rfl rfl) fun a h => ?_
    refine wvl h (ext h rfl rfl) fun a h => ?_
    refine ws2 h rfl rfl rfl rfl fun a h => ?_
    refine rg ?_
    refine wm3 h rfl rfl rfl rfl rfl rfl fun a h => ?_
    refine wl (cal h rfl en18 (Shades_v (hR.keep (by decide) hp cl0) hpo hy ht) fun u w61 ⟨e1, e2⟩ a h => ?_)
    subst e1
    have hp := hp.below e2
    refine wmv h rfl fun a h => ?_
    refine wvl h (ext h rfl rfl) fun a h => ?_
    refine wvl h (ext h rfl rfl) fun a h => ?_
    refine ws2 h rfl rfl rfl rfl fun a h => ?_
    refine rg ?_
    refine wmv h rfl fun a h => ?_
    refine wvl h (eqi h rfl rfl) fun a h => ?_
    refine wmv h rfl fun a h => ?_
    refine split (t := 244) h rfl (fun hb87 => ?_) (fun hb87 => ?_)
    ·refine wl (stp_on h rfl rfl rfl hb87 (vl h (mov h rfl) fun a h => ?_))
     refine wl (stp_on h rfl rfl rfl hb87 (vl h (eqi h rfl rfl) fun a h => ?_))
     refine wvl h (pckT h rfl hb87 rfl) fun a h => ?_
     refine wmv h rfl fun a h => ?_
     refine split (t := 248) h rfl (fun hb88 => ?_) (fun hb88 => ?_)
     ·refine wl (stp_on h rfl rfl rfl hb88 (vl h (mov h rfl) fun a h => ?_))
      refine wl (stp_on h rfl rfl rfl hb88 (vl h (nei h rfl rfl) fun a h => ?_))
      refine wl (stp_on h rfl rfl rfl hb88 (vl h (mov h rfl) fun a h => ?_))
      refine split (t := 251) h rfl (fun hb89 => ?_) (fun hb89 => ?_)
      ·refine wl (stp_off h rfl rfl rfl rfl rfl hb89 fun a h => ?_)
       refine wl (stp_off h rfl rfl rfl rfl rfl hb89 fun a h => ?_)
       refine wl (stp_on h rfl rfl rfl hb88 (vl h (pckT h rfl hb89 rfl) fun a h => ?_))
       refine wvl h (pckT h rfl hb88 rfl) fun a h => ?_
       refine wmv h rfl fun a h => ?_
       refine wl (stp_on h rfl rfl rfl rfl (cal h rfl en10 (known_L _ (hGl.keep hp)) fun u w62 ⟨e1, e2⟩ a h => ?_))
       subst e1
       have hp := hp.below e2
       refine wvl h (pckT h rfl rfl rfl) fun a h => ?_
       refine wsn h rfl fun a h => ?_
       refine wp_ret ?_
       try simp only [xqs]
       refine rt_1 h rfl (rvT h rfl) ?_
       exact ⟨_, rfl, rfl, hp.bel⟩
      have hc3 : shadesB z t = 3 := by have hq9 := hb89; simpa using hq9
      have hd3 := dark_trans hyB hzB htB hw hc3
      refine wl (stp_on h rfl rfl rfl hb89 (vl h (mov h rfl) fun a h => ?_))
      refine wl (stp_on h rfl rfl rfl hb89 (vl h (eqi h rfl rfl) fun a h => ?_))
      refine wl (stp_on h rfl rfl rfl hb88 (vl h (pckF h rfl hb89 rfl) fun a h => ?_))
      refine wvl h (pckT h rfl hb88 rfl) fun a h => ?_
      refine wmv h rfl fun a h => ?_
      refine split (t := 256) h rfl (fun hb90 => ?_) (fun hb90 => ?_)
      ·refine wl (stp_on h rfl rfl rfl hb90 (cal h rfl en10 (known_L _ (hGl.keep hp)) fun u w63 ⟨e1, e2⟩ a h => ?_))
       subst e1
       have hp := hp.below e2
       refine wvl h (pckT h rfl hb90 rfl) fun a h => ?_
       refine wsn h rfl fun a h => ?_
       refine wp_ret ?_
       try simp only [xqs]
       refine rt_1 h rfl (rvT h rfl) ?_
       exact ⟨_, rfl, rfl, hp.bel⟩
      exact absurd hb90 (by first | decide | (rw [hd3]; decide))
     exact absurd hb88 (by first | decide | (simp only [Bool.not_eq_true', Bool.not_eq_false', Bool.not_eq_true, Bool.not_eq_false, decide_eq_true_eq, decide_eq_false_iff_not, gt_iff_lt, ge_iff_le]; omega) | (simp; done))
    exact absurd hb87 (by first | decide | (simp only [Bool.not_eq_true', Bool.not_eq_false', Bool.not_eq_true, Bool.not_eq_false, decide_eq_true_eq, decide_eq_false_iff_not, gt_iff_lt, ge_iff_le]; omega) | (simp; done))
   refine wl (stp_off h rfl rfl rfl rfl rfl hb19 fun a h => ?_)
   refine wl (stp_off h rfl rfl rfl rfl rfl hb19 fun a h => ?_)
   refine wvl h (pckF h rfl hb19 rfl) fun a h => ?_
   refine wmv h rfl fun a h => ?_
   refine wl (stp_off h rfl rfl rfl rfl rfl rfl fun a h => ?_)
   refine wl (stp_off h rfl rfl rfl rfl rfl rfl fun a h => ?_)
   refine wvl h (pckF h rfl rfl rfl) fun a h => ?_
   refine wmv h rfl fun a h => ?_
   refine wl (stp_off h rfl rfl rfl rfl rfl rfl fun a h => ?_)
   refine wl (stp_off h rfl rfl rfl rfl rfl rfl fun a h => ?_)
   refine wvl h (pckF h rfl rfl rfl) fun a h => ?_
   refine wmv h rfl fun a h => ?_
   refine wl (stp_off h rfl rfl rfl rfl rfl rfl fun a h => ?_)
   refine wl (stp_off h rfl rfl rfl rfl rfl rfl fun a h => ?_)
   refine wl (stp_off h rfl rfl rfl rfl rfl rfl fun a h => ?_)
   refine wl (stp_un h rfl rfl rfl rfl rfl fun a h => ?_)
   refine wl (stp_un h rfl rfl rfl rfl rfl fun a h => ?_)
   refine wl (stp_off h rfl rfl rfl rfl rfl rfl fun a h => ?_)
   refine wvl h (pckF h rfl rfl rfl) fun a h => ?_
   refine wn ?_
   refine cnd1 h rfl (fun e => nomatch e) (fun _ => ?_)
   refine skp ?_
   refine wp_seq ?_
   refine rg ?_
   refine wm2 h rfl rfl rfl rfl fun a h => ?_
   refine wvl h (eqi h rfl rfl) fun a h => ?_
   refine wmv h rfl fun a h => ?_
   refine split (t := 218) h rfl (fun hb91 => ?_) (fun hb91 => ?_)
   ·refine wl (stp_off h rfl rfl rfl rfl rfl hb91 fun a h => ?_)
    refine wl (stp_off h rfl rfl rfl rfl rfl hb91 fun a h => ?_)
    refine wl (stp_off h rfl rfl rfl rfl rfl hb91 fun a h => ?_)
    refine wvl h (pckT h rfl hb91 rfl) fun a h => ?_
    refine wmv h rfl fun a h => ?_
    refine wl (stp_off h rfl rfl rfl rfl rfl rfl fun a h => ?_)
    refine wl (stp_off h rfl rfl rfl rfl rfl rfl fun a h => ?_)
    refine wvl h (pckT h rfl rfl rfl) fun a h => ?_
    refine wn ?_
    refine cnd1 h rfl (fun _ => ?_) (fun e => nomatch e)
    refine rg ?_
    refine wl (cal h rfl en10 (known_L _ (hGl.keep hp)) fun u w64 ⟨e1, e2⟩ a h => ?_)
    subst e1
    have hp := hp.below e2
    refine wsn h rfl fun a h => ?_
    refine wp_ret ?_
    try simp only [xqs]
    refine rt_1 h rfl (rvT h rfl) ?_
    exact ⟨_, rfl, rfl, hp.bel⟩
   have hopd := hb91
   refine wl (stp_on h rfl rfl rfl hb91 (vl h (mov h rfl) fun a h => ?_))
   refine wl (stp_on h rfl rfl rfl hb91 (vl h (mov h rfl) fun a h => ?_))
   refine wl (stp_on h rfl rfl rfl hb91 (vl h (eqi h rfl rfl) fun a h => ?_))
   refine wvl h (pckF h rfl hb91 rfl) fun a h => ?_
   refine wmv h rfl fun a h => ?_
   refine split (t := 223) h rfl (fun hb92 => ?_) (fun hb92 => ?_)
   ·refine wl (stp_off h rfl rfl rfl rfl rfl hb92 fun a h => ?_)
    refine wl (stp_off h rfl rfl rfl rfl rfl hb92 fun a h => ?_)
    refine wvl h (pckT h rfl hb92 rfl) fun a h => ?_
    refine wn ?_
    refine cnd1 h rfl (fun _ => ?_) (fun e => nomatch e)
    refine rg ?_
    refine wl (cal h rfl en10 (known_L _ (hGl.keep hp)) fun u w65 ⟨e1, e2⟩ a h => ?_)
    subst e1
    have hp := hp.below e2
    refine wsn h rfl fun a h => ?_
    refine wp_ret ?_
    try simp only [xqs]
    refine rt_1 h rfl (rvT h rfl) ?_
    exact ⟨_, rfl, rfl, hp.bel⟩
   have hor := hb92
   refine wl (stp_on h rfl rfl rfl hb92 (vl h (mov h rfl) fun a h => ?_))
   refine wl (stp_on h rfl rfl rfl hb92 (vl h (nei h rfl rfl) fun a h => ?_))
   refine wvl h (pckF h rfl hb92 rfl) fun a h => ?_
   refine wn ?_
   refine cnd1 h rfl (fun hb93 => ?_) (fun hb93 => ?_)
   ·exact absurd hb93 (by decide)
   have hoq : o ≠ r := of_decide_eq_false hor
   have hop : o ≠ p := of_decide_eq_false hopd
   have hqo := nb_of hb h2 h3 (Ne.symm hoq)
   have hpo := nb_of hb h1 h3 (Ne.symm hop)
   refine skp ?_
   refine rg ?_
   refine wm3 h rfl rfl rfl rfl rfl rfl fun a h => ?_
   refine wl (cal h rfl en18 (Shades_v (hR.keep (by decide) hp cl0) hqo hz ht) fun u w66 ⟨e1, e2⟩ a h => ?_)
   subst e1
   have hp := hp.below e2
   refine wmv h rfl fun a h => ?_
   refine wvl h (ext h rfl rfl) fun a h => ?_
   refine wvl h (ext h rfl rfl) fun a h => ?_
   refine ws2 h rfl rfl rfl rfl fun a h => ?_
   refine rg ?_
   refine wm3 h rfl rfl rfl rfl rfl rfl fun a h => ?_
   refine wl (cal h rfl en18 (Shades_v (hR.keep (by decide) hp cl0) hpo hy ht) fun u w67 ⟨e1, e2⟩ a h => ?_)
   subst e1
   have hp := hp.below e2
   refine wmv h rfl fun a h => ?_
   refine wvl h (ext h rfl rfl) fun a h => ?_
   refine wvl h (ext h rfl rfl) fun a h => ?_
   refine ws2 h rfl rfl rfl rfl fun a h => ?_
   refine rg ?_
   refine wmv h rfl fun a h => ?_
   refine wvl h (eqi h rfl rfl) fun a h => ?_
   refine wmv h rfl fun a h => ?_
   refine split (t := 244) h rfl (fun hb94 => ?_) (fun hb94 => ?_)
   ·refine wl (stp_on h rfl rfl rfl hb94 (vl h (mov h rfl) fun a h => ?_))
    refine wl (stp_on h rfl rfl rfl hb94 (vl h (eqi h rfl rfl) fun a h => ?_))
    refine wvl h (pckT h rfl hb94 rfl) fun a h => ?_
    refine wmv h rfl fun a h => ?_
    refine split (t := 248) h rfl (fun hb95 => ?_) (fun hb95 => ?_)
    ·refine wl (stp_on h rfl rfl rfl hb95 (vl h (mov h rfl) fun a h => ?_))
     refine wl (stp_on h rfl rfl rfl hb95 (vl h (nei h rfl rfl) fun a h => ?_))
     refine wl (stp_on h rfl rfl rfl hb95 (vl h (mov h rfl) fun a h => ?_))
     refine split (t := 251) h rfl (fun hb96 => ?_) (fun hb96 => ?_)
     ·refine wl (stp_off h rfl rfl rfl rfl rfl hb96 fun a h => ?_)
      refine wl (stp_off h rfl rfl rfl rfl rfl hb96 fun a h => ?_)
      refine wl (stp_on h rfl rfl rfl hb95 (vl h (pckT h rfl hb96 rfl) fun a h => ?_))
      refine wvl h (pckT h rfl hb95 rfl) fun a h => ?_
      refine wmv h rfl fun a h => ?_
      refine wl (stp_on h rfl rfl rfl rfl (cal h rfl en10 (known_L _ (hGl.keep hp)) fun u w68 ⟨e1, e2⟩ a h => ?_))
      subst e1
      have hp := hp.below e2
      refine wvl h (pckT h rfl rfl rfl) fun a h => ?_
      refine wsn h rfl fun a h => ?_
      refine wp_ret ?_
      try simp only [xqs]
      refine rt_1 h rfl (rvT h rfl) ?_
      exact ⟨_, rfl, rfl, hp.bel⟩
     have hc3 : shadesB z t = 3 := by have hq9 := hb96; simpa using hq9
     have hd3 := dark_trans hyB hzB htB hw hc3
     refine wl (stp_on h rfl rfl rfl hb96 (vl h (mov h rfl) fun a h => ?_))
     refine wl (stp_on h rfl rfl rfl hb96 (vl h (eqi h rfl rfl) fun a h => ?_))
     refine wl (stp_on h rfl rfl rfl hb95 (vl h (pckF h rfl hb96 rfl) fun a h => ?_))
     refine wvl h (pckT h rfl hb95 rfl) fun a h => ?_
     refine wmv h rfl fun a h => ?_
     refine split (t := 256) h rfl (fun hb97 => ?_) (fun hb97 => ?_)
     ·refine wl (stp_on h rfl rfl rfl hb97 (cal h rfl en10 (known_L _ (hGl.keep hp)) fun u w69 ⟨e1, e2⟩ a h => ?_))
      subst e1
      have hp := hp.below e2
      refine wvl h (pckT h rfl hb97 rfl) fun a h => ?_
      refine wsn h rfl fun a h => ?_
      refine wp_ret ?_
      try simp only [xqs]
      refine rt_1 h rfl (rvT h rfl) ?_
      exact ⟨_, rfl, rfl, hp.bel⟩
     exact absurd hb97 (by first | decide | (rw [hd3]; decide))
    exact absurd hb95 (by first | decide | (simp only [Bool.not_eq_true', Bool.not_eq_false', Bool.not_eq_true, Bool.not_eq_false, decide_eq_true_eq, decide_eq_false_iff_not, gt_iff_lt, ge_iff_le]; omega) | (simp; done))
   exact absurd hb94 (by first | decide | (simp only [Bool.not_eq_true', Bool.not_eq_false', Bool.not_eq_true, Bool.not_eq_false, decide_eq_true_eq, decide_eq_false_iff_not, gt_iff_lt, ge_iff_le]; omega) | (simp; done))
  exact absurd hb17 (by decide)
 exact absurd hb13 (by decide)
theorem EclipseLines_L (s : SV) (l : List Ball) (p r o px py : Int) (w : World) (hR : Rd w encL 3 s.v l) (hGl : Glb w) : Ret Tryz.prog 7 #[s.v, .int .i64 p, .int .i64 r, .int .i64 o, .int .i64 px, .int .i64 py] w fun u w' => u = .bool true ∧ Below w.heap.size w w' := by
 cases hbad : (isBalls l && inR p 0 ((l.length : Int) - 1) && inR r 0 ((l.length : Int) - 1) && inR o 0 ((l.length : Int) - 1) && !decide (p = r)) with
 | false => exact EclipseLines_b s l p r o px py w hR hGl hbad
 | true =>
  simp only [Bool.and_eq_true, Bool.not_eq_true', decide_eq_false_iff_not] at hbad
  obtain ⟨⟨⟨⟨hb, h1⟩, h2⟩, h3⟩, h4⟩ := hbad
  have g : ∀ n : Int, inR n 0 ((l.length : Int) - 1) = true → ∃ y, l[n.toNat]? = some y := fun n hn => by
   simp only [inR, Bool.and_eq_true, decide_eq_true_eq] at hn
   exact ⟨_, List.getElem?_eq_getElem (by omega)⟩
  obtain ⟨y, hy⟩ := g p h1
  obtain ⟨z, hz⟩ := g r h2
  obtain ⟨t, ht⟩ := g o h3
  have hs := shades_bd y z
  rcases (by omega : shadesB y z = 1 ∨ shadesB y z = 2 ∨ shadesB y z = 3) with hw | hw | hw
  ·exact EclipseLines_1 s l p r o px py w hR hGl hb h1 h2 h3 h4 y z t hy hz ht hw
  ·exact EclipseLines_2 s l p r o px py w hR hGl hb h1 h2 h3 h4 y z t hy hz ht hw
  ·exact EclipseLines_3 s l p r o px py w hR hGl hb h1 h2 h3 h4 y z t hy hz ht hw
end Go.Proofs.Ec
