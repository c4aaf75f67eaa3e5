import Derived.Test.YtobofnkmbpfoiabGreatDoorProg
import Derived.Test.YtobofnkmbpfoiabGreatDoorPFa
import Derived.Test.YtobofnkmbpfoiabGreatDoorPQb
import Derived.Test.YtobofnkmbpfoiabGreatDoorPW50
set_option linter.unusedVariables false
set_option linter.unusedSimpArgs false
set_option maxRecDepth 4000
namespace Go.Proofs.Ec
open Go.RowKit Go.Proofs.Sx
open Ecl
theorem en10_W51 : EnT Tryz.prog 10 := ento Tryz.func10
theorem en18_W51 : EnT Tryz.prog 18 := ento Tryz.func18
theorem en20_W51 : EnT Tryz.prog 20 := ento Tryz.func20
theorem en22_W51 : EnT Tryz.prog 22 := ento Tryz.func22
theorem en23_W51 : EnT Tryz.prog 23 := ento Tryz.func23
theorem en24_W51 : EnT Tryz.prog 24 := ento Tryz.func24
theorem Balls_ok {s : SV} {l : List Ball} {w : World} (hR : Rd w encL 3 s.v l) (hb : isBalls l = true) : Ret Tryz.prog 17 #[s.v] w fun u w' => u = .int .i64 0 ∧ Below w.heap.size w w' := by
 have := Balls_e s l w hR
 rwa [if_pos hb] at this
theorem Balls_no {s : SV} {l : List Ball} {w : World} (hR : Rd w encL 3 s.v l) (hb : isBalls l = false) : Ret Tryz.prog 17 #[s.v] w fun u w' => u = .int .i64 2 ∧ Below w.heap.size w w' := by
 have := Balls_e s l w hR
 rwa [if_neg (by rw [hb]; decide)] at this
theorem Dark_ok {s : SV} {l : List Ball} {w : World} (hR : Rd w encL 3 s.v l) (hb : isBalls l = true) : Ret Tryz.prog 19 #[s.v] w fun u w' => (∃ s' : SV, u = .tuple #[s'.v, .int .i64 0] ∧ Fr w w' encI 1 s'.v (dark l)) ∧ Below w.heap.size w w' := by
 refine (Dark_e s l w hR).mono ?_
 rintro e w' ⟨u, he, h | h, hB⟩
 ·exact ⟨u, he, h.2, hB⟩
 rw [hb] at h
 exact absurd h.1 (by decide)
theorem Dark_no {s : SV} {l : List Ball} {w : World} (hR : Rd w encL 3 s.v l) (hb : isBalls l = false) : Ret Tryz.prog 19 #[s.v] w fun u w' => u = .tuple #[.slice none 0 0, .int .i64 2] ∧ Below w.heap.size w w' := by
 refine (Dark_e s l w hR).mono ?_
 rintro e w' ⟨u, he, h | h, hB⟩
 ·rw [hb] at h
  exact absurd h.1 (by decide)
 exact ⟨u, he, h.2, hB⟩
theorem Shades_v {s : SV} {l : List Ball} {p r : Int} {y z : Ball} {w : World} (hR : Rd w encL 3 s.v l) (hok : (isBalls l && inR p 0 ((l.length : Int) - 1) && inR r 0 ((l.length : Int) - 1) && !decide (p = r)) = true) (hy : l[p.toNat]? = some y) (hz : l[r.toNat]? = some z) : Ret Tryz.prog 18 #[s.v, .int .i64 p, .int .i64 r] w fun u w' => u = .tuple #[.int .i64 (shadesB y z), .int .i64 0] ∧ Below w.heap.size w w' := by
 have := Shades_s s l p r w hR hok
 rwa [getD_ball hy, getD_ball hz] at this
theorem sh_cases (l : List Ball) (p r : Int) : (isBalls l = false ∧ (isBalls l && inR p 0 ((l.length : Int) - 1) && inR r 0 ((l.length : Int) - 1) && !decide (p = r)) = false) ∨ (isBalls l = true ∧ (isBalls l && inR p 0 ((l.length : Int) - 1) && inR r 0 ((l.length : Int) - 1) && !decide (p = r)) = false) ∨ (isBalls l = true ∧ (isBalls l && inR p 0 ((l.length : Int) - 1) && inR r 0 ((l.length : Int) - 1) && !decide (p = r)) = true) := by
 cases isBalls l <;> cases inR p 0 ((l.length : Int) - 1) <;> cases inR r 0 ((l.length : Int) - 1) <;> cases decide (p = r) <;> simp
theorem bad_sh2 {a b c d : Bool} (h0 : a = true) (h2 : (!b) = false) (h3 : (!c) = false) (h4 : d = false) : ¬ ((a && b && c && !d) = false) := by
 cases a <;> cases b <;> cases c <;> cases d <;> simp_all
set_option maxHeartbeats 4000000 in
theorem EclipseShades_L (s : SV) (l : List Ball) (p r : Int) (w : World) (hR : Rd w encL 3 s.v l) (hGl : Glb w) : Ret Tryz.prog 6 #[s.v, .int .i64 p, .int .i64 r] w fun u w' => u = .bool true ∧ Below w.heap.size w w' := by
 have hfit := hR.fits
 have hp : Hp c0 w w [] := Hp.start trivial
 refine enter Tryz.func6 rfl (N := 110) rfl rfl fun a h => ?_
 refine rg ?_
 refine wsn h rfl fun a h => ?_
 refine wp_seq ?_
 refine rg ?_
 refine wmv h rfl fun a h => ?_
 refine wvl h (lenR h rfl Tryz.underlying37 (hR.keep (by decide) hp cl0)) fun a h => ?_
 refine wvl h (gtr h rfl rfl) fun a h => ?_
 refine wn ?_
 refine cnd1 h rfl (fun hb1 => ?_) (fun hb1 => ?_)
 ·refine rg ?_
  refine wl (cal h rfl en10_W51 (known_L _ (hGl.keep hp)) fun u w1 ⟨e1, e2⟩ a h => ?_)
  subst e1
  have hp := hp.below e2
  refine wsn h rfl fun a h => ?_
  refine wp_ret ?_
  try simp only [xqs]
  refine rt_1 h rfl (rvT h rfl) ?_
  exact ⟨_, rfl, rfl, hp.bel⟩
 refine skp ?_
 refine rg ?_
 rcases sh_cases l p r with ⟨hb, hx⟩ | ⟨hb, hx⟩ | ⟨hb, hs⟩
 ·refine wmv h rfl fun a h => ?_
  refine wl (cal h rfl en17 (Balls_no (hR.keep (by decide) hp cl0) hb) fun u w2 ⟨e1, e2⟩ a h => ?_)
  subst e1
  have hp := hp.below e2
  refine wsn h rfl fun a h => ?_
  refine rg ?_
  refine wm3 h rfl rfl rfl rfl rfl rfl fun a h => ?_
  refine wl (cal h rfl en18_W51 (Shades_x _ _ _ _ _ (hR.keep (by decide) hp cl0) hx) fun u w3 ⟨e1, e2⟩ a h => ?_)
  subst e1
  have hp := hp.below e2
  refine wmv h rfl fun a h => ?_
  refine wvl h (ext h rfl rfl) fun a h => ?_
  refine wvl h (ext h rfl rfl) fun a h => ?_
  refine ws2 h rfl rfl rfl rfl fun a h => ?_
  refine rg ?_
  refine wmv h rfl fun a h => ?_
  refine wl (cal h rfl en19 (Dark_no (hR.keep (by decide) hp cl0) hb) fun u w4 ⟨e1, e2⟩ a h => ?_)
  subst e1
  have hp := hp.below e2
  refine wmv h rfl fun a h => ?_
  refine wvl h (ext h rfl rfl) fun a h => ?_
  refine wvl h (ext h rfl rfl) fun a h => ?_
  refine ws2 h rfl rfl rfl rfl fun a h => ?_
  refine wp_seq ?_
  refine rg ?_
  refine wmv h rfl fun a h => ?_
  refine wl (cal h rfl en20_W51 (Balls_R _ _ _ (hR.keep (by decide) hp cl0)) fun u w5 ⟨e1, e2⟩ a h => ?_)
  subst e1
  have hp := hp.below e2
  refine wvl h (not_ h rfl) fun a h => ?_
  refine wn ?_
  refine cnd1 h rfl (fun hb2 => ?_) (fun hb2 => ?_)
  ·refine rg ?_
   refine wmv h rfl fun a h => ?_
   refine wvl h (eqi h rfl rfl) fun a h => ?_
   refine wmv h rfl fun a h => ?_
   refine split (t := 35) h rfl (fun hb3 => ?_) (fun hb3 => ?_)
   ·refine wl (stp_on h rfl rfl rfl hb3 (vl h (mov h rfl) fun a h => ?_))
    refine wl (stp_on h rfl rfl rfl hb3 (vl h (eqi h rfl rfl) fun a h => ?_))
    refine wvl h (pckT h rfl hb3 rfl) fun a h => ?_
    refine wmv h rfl fun a h => ?_
    refine split (t := 39) h rfl (fun hb4 => ?_) (fun hb4 => ?_)
    ·refine wl (stp_on h rfl rfl rfl hb4 (vl h (mov h rfl) fun a h => ?_))
     refine wl (stp_on h rfl rfl rfl hb4 (vl h (eqi h rfl rfl) fun a h => ?_))
     refine wvl h (pckT h rfl hb4 rfl) fun a h => ?_
     refine wmv h rfl fun a h => ?_
     refine split (t := 43) h rfl (fun hb5 => ?_) (fun hb5 => ?_)
     ·refine wl (stp_on h rfl rfl rfl hb5 (vl h (mov h rfl) fun a h => ?_))
      refine wl (stp_on h rfl rfl rfl hb5 (vl h (eqi h rfl rfl) fun a h => ?_))
      refine wvl h (pckT h rfl hb5 rfl) fun a h => ?_
      refine wmv h rfl fun a h => ?_
      refine split (t := 47) h rfl (fun hb6 => ?_) (fun hb6 => ?_)
      ·refine wl (stp_on h rfl rfl rfl hb6 (vl h (mov h rfl) fun a h => ?_))
       refine wl (stp_on h rfl rfl rfl hb6 (vl h (len_ h rfl Tryz.underlying42) fun a h => ?_))
       refine wl (stp_on h rfl rfl rfl hb6 (vl h (eqi h rfl rfl) fun a h => ?_))
       refine wvl h (pckT h rfl hb6 rfl) fun a h => ?_
       refine wmv h rfl fun a h => ?_
       refine split (t := 52) h rfl (fun hb7 => ?_) (fun hb7 => ?_)
       ·refine wl (stp_on h rfl rfl rfl hb7 (cal h rfl en10_W51 (known_L _ (hGl.keep hp)) fun u w6 ⟨e1, e2⟩ a h => ?_))
        subst e1
        have hp := hp.below e2
        refine wvl h (pckT h rfl hb7 rfl) fun a h => ?_
        refine wsn h rfl fun a h => ?_
        refine wp_ret ?_
        try simp only [xqs]
        refine rt_1 h rfl (rvT h rfl) ?_
        exact ⟨_, rfl, rfl, hp.bel⟩
       exact absurd hb7 (by first | decide | (simp; done))
      exact absurd hb6 (by first | decide | (simp; done))
     exact absurd hb5 (by first | decide | (simp; done))
    exact absurd hb4 (by first | decide | (simp; done))
   exact absurd hb3 (by first | decide | (simp; done))
  exact absurd hb2 (by rw [hb]; decide)
 ·refine wmv h rfl fun a h => ?_
  refine wl (cal h rfl en17 (Balls_ok (hR.keep (by decide) hp cl0) hb) fun u w7 ⟨e1, e2⟩ a h => ?_)
  subst e1
  have hp := hp.below e2
  refine wsn h rfl fun a h => ?_
  refine rg ?_
  refine wm3 h rfl rfl rfl rfl rfl rfl fun a h => ?_
  refine wl (cal h rfl en18_W51 (Shades_x _ _ _ _ _ (hR.keep (by decide) hp cl0) hx) fun u w8 ⟨e1, e2⟩ a h => ?_)
  subst e1
  have hp := hp.below e2
  refine wmv h rfl fun a h => ?_
  refine wvl h (ext h rfl rfl) fun a h => ?_
  refine wvl h (ext h rfl rfl) fun a h => ?_
  refine ws2 h rfl rfl rfl rfl fun a h => ?_
  refine rg ?_
  refine wmv h rfl fun a h => ?_
  refine wl (cal h rfl en19 (Dark_ok (hR.keep (by decide) hp cl0) hb) fun u w9 ⟨⟨s20, e1, hf⟩, e2⟩ a h => ?_)
  subst e1
  have hp := hp.got (hp.below e2) (by decide) hf
  refine wmv h rfl fun a h => ?_
  refine wvl h (ext h rfl rfl) fun a h => ?_
  refine wvl h (ext h rfl rfl) fun a h => ?_
  refine ws2 h rfl rfl rfl rfl fun a h => ?_
  refine wp_seq ?_
  refine rg ?_
  refine wmv h rfl fun a h => ?_
  refine wl (cal h rfl en20_W51 (Balls_R _ _ _ (hR.keep (by decide) hp cl0)) fun u w10 ⟨e1, e2⟩ a h => ?_)
  subst e1
  have hp := hp.below e2
  refine wvl h (not_ h rfl) fun a h => ?_
  refine wn ?_
  refine cnd1 h rfl (fun hb8 => ?_) (fun hb8 => ?_)
  ·exact absurd hb8 (by rw [hb]; decide)
  refine skp ?_
  refine wp_seq ?_
  refine rg ?_
  refine wmv h rfl fun a h => ?_
  refine wvl h (nei h rfl rfl) fun a h => ?_
  refine wmv h rfl fun a h => ?_
  refine split (t := 57) h rfl (fun hb9 => ?_) (fun hb9 => ?_)
  ·exact absurd hb9 (by decide)
  refine wl (stp_on h rfl rfl rfl hb9 (vl h (mov h rfl) fun a h => ?_))
  refine wl (stp_on h rfl rfl rfl hb9 (vl h (nei h rfl rfl) fun a h => ?_))
  refine wvl h (pckF h rfl hb9 rfl) fun a h => ?_
  refine wmv h rfl fun a h => ?_
  refine split (t := 61) h rfl (fun hb10 => ?_) (fun hb10 => ?_)
  ·exact absurd hb10 (by decide)
  refine wl (stp_on h rfl rfl rfl hb10 (vl h (mov h rfl) fun a h => ?_))
  refine wl (stp_on h rfl rfl rfl hb10 (vl h (mov h rfl) fun a h => ?_))
  refine wl (stp_on h rfl rfl rfl hb10 (cal h rfl en22_W51 (Dark_R _ _ _ (hR.keep (by decide) hp cl0) hb) fun u w11 ⟨⟨s21, e1, hf⟩, e2⟩ a h => ?_))
  subst e1
  have hp := hp.got (hp.below e2) (by decide) hf
  refine wl (stp_on h rfl rfl rfl hb10 (cal h rfl en21 (SameWords_R _ _ _ _ _ (hp.rdF (i := 0) rfl) (hp.rdF (i := 1) rfl)) fun u w12 ⟨e1, e2⟩ a h => ?_))
  subst e1
  have hp := hp.below e2
  refine wl (stp_on h rfl rfl rfl hb10 (vl h (not_ h rfl) fun a h => ?_))
  refine wvl h (pckF h rfl hb10 rfl) fun a h => ?_
  refine wn ?_
  refine cnd1 h rfl (fun hb11 => ?_) (fun hb11 => ?_)
  ·exact absurd hb11 (by simp)
  refine skp ?_
  refine wp_seq ?_
  refine rg ?_
  refine wm2 h rfl rfl rfl rfl fun a h => ?_
  refine wl (cal h rfl en23_W51 (Ball_R _ _ _ _ (hR.keep (by decide) hp cl0)) fun u w13 ⟨e1, e2⟩ a h => ?_)
  subst e1
  have hp := hp.below e2
  refine wvl h (not_ h rfl) fun a h => ?_
  refine wmv h rfl fun a h => ?_
  refine split (t := 72) h rfl (fun hb12 => ?_) (fun hb12 => ?_)
  ·refine wl (stp_off h rfl rfl rfl rfl rfl hb12 fun a h => ?_)
   refine wl (stp_off h rfl rfl rfl rfl rfl hb12 fun a h => ?_)
   refine wl (stp_off h rfl rfl rfl rfl rfl hb12 fun a h => ?_)
   refine wl (stp_off h rfl rfl rfl rfl rfl hb12 fun a h => ?_)
   refine wvl h (pckT h rfl hb12 rfl) fun a h => ?_
   refine wmv h rfl fun a h => ?_
   refine wl (stp_off h rfl rfl rfl rfl rfl rfl fun a h => ?_)
   refine wl (stp_off h rfl rfl rfl rfl rfl rfl fun a h => ?_)
   refine wl (stp_off h rfl rfl rfl rfl rfl rfl fun a h => ?_)
   refine wvl h (pckT h rfl rfl rfl) fun a h => ?_
   refine wn ?_
   refine cnd1 h rfl (fun _ => ?_) (fun e => nomatch e)
   refine rg ?_
   refine wmv h rfl fun a h => ?_
   refine wvl h (eqi h rfl rfl) fun a h => ?_
   refine wmv h rfl fun a h => ?_
   refine split (t := 85) h rfl (fun hb13 => ?_) (fun hb13 => ?_)
   ·refine wl (stp_on h rfl rfl rfl hb13 (vl h (mov h rfl) fun a h => ?_))
    refine wl (stp_on h rfl rfl rfl hb13 (vl h (eqi h rfl rfl) fun a h => ?_))
    refine wvl h (pckT h rfl hb13 rfl) fun a h => ?_
    refine wmv h rfl fun a h => ?_
    refine split (t := 89) h rfl (fun hb14 => ?_) (fun hb14 => ?_)
    ·refine wl (stp_on h rfl rfl rfl hb14 (cal h rfl en10_W51 (known_L _ (hGl.keep hp)) fun u w14 ⟨e1, e2⟩ a h => ?_))
     subst e1
     have hp := hp.below e2
     refine wvl h (pckT h rfl hb14 rfl) fun a h => ?_
     refine wsn h rfl fun a h => ?_
     refine wp_ret ?_
     try simp only [xqs]
     refine rt_1 h rfl (rvT h rfl) ?_
     exact ⟨_, rfl, rfl, hp.bel⟩
    exact absurd hb14 (by first | decide | (simp; done))
   exact absurd hb13 (by first | decide | (simp; done))
  have hn1 := hb12
  refine wl (stp_on h rfl rfl rfl hb12 (vl h (mov h rfl) fun a h => ?_))
  refine wl (stp_on h rfl rfl rfl hb12 (vl h (mov h rfl) fun a h => ?_))
  refine wl (stp_on h rfl rfl rfl hb12 (cal h rfl en23_W51 (Ball_R _ _ _ _ (hR.keep (by decide) hp cl0)) fun u w15 ⟨e1, e2⟩ a h => ?_))
  subst e1
  have hp := hp.below e2
  refine wl (stp_on h rfl rfl rfl hb12 (vl h (not_ h rfl) fun a h => ?_))
  refine wvl h (pckF h rfl hb12 rfl) fun a h => ?_
  refine wmv h rfl fun a h => ?_
  refine split (t := 78) h rfl (fun hb15 => ?_) (fun hb15 => ?_)
  ·refine wl (stp_off h rfl rfl rfl rfl rfl hb15 fun a h => ?_)
   refine wl (stp_off h rfl rfl rfl rfl rfl hb15 fun a h => ?_)
   refine wl (stp_off h rfl rfl rfl rfl rfl hb15 fun a h => ?_)
   refine wvl h (pckT h rfl hb15 rfl) fun a h => ?_
   refine wn ?_
   refine cnd1 h rfl (fun _ => ?_) (fun e => nomatch e)
   refine rg ?_
   refine wmv h rfl fun a h => ?_
   refine wvl h (eqi h rfl rfl) fun a h => ?_
   refine wmv h rfl fun a h => ?_
   refine split (t := 85) h rfl (fun hb16 => ?_) (fun hb16 => ?_)
   ·refine wl (stp_on h rfl rfl rfl hb16 (vl h (mov h rfl) fun a h => ?_))
    refine wl (stp_on h rfl rfl rfl hb16 (vl h (eqi h rfl rfl) fun a h => ?_))
    refine wvl h (pckT h rfl hb16 rfl) fun a h => ?_
    refine wmv h rfl fun a h => ?_
    refine split (t := 89) h rfl (fun hb17 => ?_) (fun hb17 => ?_)
    ·refine wl (stp_on h rfl rfl rfl hb17 (cal h rfl en10_W51 (known_L _ (hGl.keep hp)) fun u w16 ⟨e1, e2⟩ a h => ?_))
     subst e1
     have hp := hp.below e2
     refine wvl h (pckT h rfl hb17 rfl) fun a h => ?_
     refine wsn h rfl fun a h => ?_
     refine wp_ret ?_
     try simp only [xqs]
     refine rt_1 h rfl (rvT h rfl) ?_
     exact ⟨_, rfl, rfl, hp.bel⟩
    exact absurd hb17 (by first | decide | (simp; done))
   exact absurd hb16 (by first | decide | (simp; done))
  have hn2 := hb15
  refine wl (stp_on h rfl rfl rfl hb15 (vl h (mov h rfl) fun a h => ?_))
  refine wl (stp_on h rfl rfl rfl hb15 (vl h (mov h rfl) fun a h => ?_))
  refine wl (stp_on h rfl rfl rfl hb15 (vl h (eqi h rfl rfl) fun a h => ?_))
  refine wvl h (pckF h rfl hb15 rfl) fun a h => ?_
  refine wn ?_
  refine cnd1 h rfl (fun hb18 => ?_) (fun hb18 => ?_)
  ·refine rg ?_
   refine wmv h rfl fun a h => ?_
   refine wvl h (eqi h rfl rfl) fun a h => ?_
   refine wmv h rfl fun a h => ?_
   refine split (t := 85) h rfl (fun hb19 => ?_) (fun hb19 => ?_)
   ·refine wl (stp_on h rfl rfl rfl hb19 (vl h (mov h rfl) fun a h => ?_))
    refine wl (stp_on h rfl rfl rfl hb19 (vl h (eqi h rfl rfl) fun a h => ?_))
    refine wvl h (pckT h rfl hb19 rfl) fun a h => ?_
    refine wmv h rfl fun a h => ?_
    refine split (t := 89) h rfl (fun hb20 => ?_) (fun hb20 => ?_)
    ·refine wl (stp_on h rfl rfl rfl hb20 (cal h rfl en10_W51 (known_L _ (hGl.keep hp)) fun u w17 ⟨e1, e2⟩ a h => ?_))
     subst e1
     have hp := hp.below e2
     refine wvl h (pckT h rfl hb20 rfl) fun a h => ?_
     refine wsn h rfl fun a h => ?_
     refine wp_ret ?_
     try simp only [xqs]
     refine rt_1 h rfl (rvT h rfl) ?_
     exact ⟨_, rfl, rfl, hp.bel⟩
    exact absurd hb20 (by first | decide | (simp; done))
   exact absurd hb19 (by first | decide | (simp; done))
  exact absurd hx (by first | exact absurd hb18 (by decide) | exact bad_sh2 hb hn1 hn2 hb18)
 have hk := hs
 simp only [Bool.and_eq_true, Bool.not_eq_true'] at hk
 obtain ⟨⟨⟨-, h1⟩, h2⟩, h3⟩ := hk
 have h4 := h1
 have h5 := h2
 simp only [inR, Bool.and_eq_true, decide_eq_true_eq] at h4 h5
 obtain ⟨y, hy⟩ : ∃ y, l[p.toNat]? = some y := ⟨_, List.getElem?_eq_getElem (by omega)⟩
 obtain ⟨z, hz⟩ : ∃ z, l[r.toNat]? = some z := ⟨_, List.getElem?_eq_getElem (by omega)⟩
 have hyB := balls_bd hb y (List.mem_of_getElem? hy)
 have hzB := balls_bd hb z (List.mem_of_getElem? hz)
 refine wmv h rfl fun a h => ?_
 refine wl (cal h rfl en17 (Balls_ok (hR.keep (by decide) hp cl0) hb) fun u w18 ⟨e1, e2⟩ a h => ?_)
 subst e1
 have hp := hp.below e2
 refine wsn h rfl fun a h => ?_
 refine rg ?_
 refine wm3 h rfl rfl rfl rfl rfl rfl fun a h => ?_
 refine wl (cal h rfl en18_W51 (Shades_v (hR.keep (by decide) hp cl0) hs hy hz) fun u w19 ⟨e1, e2⟩ a h => ?_)
 subst e1
 have hp := hp.below e2
 refine wmv h rfl fun a h => ?_
 refine wvl h (ext h rfl rfl) fun a h => ?_
 refine wvl h (ext h rfl rfl) fun a h => ?_
 refine ws2 h rfl rfl rfl rfl fun a h => ?_
 refine rg ?_
 refine wmv h rfl fun a h => ?_
 refine wl (cal h rfl en19 (Dark_ok (hR.keep (by decide) hp cl0) hb) fun u w20 ⟨⟨s20, e1, hf⟩, e2⟩ a h => ?_)
 subst e1
 have hp := hp.got (hp.below e2) (by decide) hf
 refine wmv h rfl fun a h => ?_
 refine wvl h (ext h rfl rfl) fun a h => ?_
 refine wvl h (ext h rfl rfl) fun a h => ?_
 refine ws2 h rfl rfl rfl rfl fun a h => ?_
 refine wp_seq ?_
 refine rg ?_
 refine wmv h rfl fun a h => ?_
 refine wl (cal h rfl en20_W51 (Balls_R _ _ _ (hR.keep (by decide) hp cl0)) fun u w21 ⟨e1, e2⟩ a h => ?_)
 subst e1
 have hp := hp.below e2
 refine wvl h (not_ h rfl) fun a h => ?_
 refine wn ?_
 refine cnd1 h rfl (fun hb21 => ?_) (fun hb21 => ?_)
 ·exact absurd hb21 (by rw [hb]; decide)
 refine skp ?_
 refine wp_seq ?_
 refine rg ?_
 refine wmv h rfl fun a h => ?_
 refine wvl h (nei h rfl rfl) fun a h => ?_
 refine wmv h rfl fun a h => ?_
 refine split (t := 57) h rfl (fun hb22 => ?_) (fun hb22 => ?_)
 ·exact absurd hb22 (by decide)
 refine wl (stp_on h rfl rfl rfl hb22 (vl h (mov h rfl) fun a h => ?_))
 refine wl (stp_on h rfl rfl rfl hb22 (vl h (nei h rfl rfl) fun a h => ?_))
 refine wvl h (pckF h rfl hb22 rfl) fun a h => ?_
 refine wmv h rfl fun a h => ?_
 refine split (t := 61) h rfl (fun hb23 => ?_) (fun hb23 => ?_)
 ·exact absurd hb23 (by decide)
 refine wl (stp_on h rfl rfl rfl hb23 (vl h (mov h rfl) fun a h => ?_))
 refine wl (stp_on h rfl rfl rfl hb23 (vl h (mov h rfl) fun a h => ?_))
 refine wl (stp_on h rfl rfl rfl hb23 (cal h rfl en22_W51 (Dark_R _ _ _ (hR.keep (by decide) hp cl0) hb) fun u w22 ⟨⟨s21, e1, hf⟩, e2⟩ a h => ?_))
 subst e1
 have hp := hp.got (hp.below e2) (by decide) hf
 refine wl (stp_on h rfl rfl rfl hb23 (cal h rfl en21 (SameWords_R _ _ _ _ _ (hp.rdF (i := 0) rfl) (hp.rdF (i := 1) rfl)) fun u w23 ⟨e1, e2⟩ a h => ?_))
 subst e1
 have hp := hp.below e2
 refine wl (stp_on h rfl rfl rfl hb23 (vl h (not_ h rfl) fun a h => ?_))
 refine wvl h (pckF h rfl hb23 rfl) fun a h => ?_
 refine wn ?_
 refine cnd1 h rfl (fun hb24 => ?_) (fun hb24 => ?_)
 ·exact absurd hb24 (by simp)
 refine skp ?_
 refine wp_seq ?_
 refine rg ?_
 refine wm2 h rfl rfl rfl rfl fun a h => ?_
 refine wl (cal h rfl en23_W51 (Ball_R _ _ _ _ (hR.keep (by decide) hp cl0)) fun u w24 ⟨e1, e2⟩ a h => ?_)
 subst e1
 have hp := hp.below e2
 refine wvl h (not_ h rfl) fun a h => ?_
 refine wmv h rfl fun a h => ?_
 refine split (t := 72) h rfl (fun hb25 => ?_) (fun hb25 => ?_)
 ·exact absurd hb25 (by rw [h1]; decide)
 refine wl (stp_on h rfl rfl rfl hb25 (vl h (mov h rfl) fun a h => ?_))
 refine wl (stp_on h rfl rfl rfl hb25 (vl h (mov h rfl) fun a h => ?_))
 refine wl (stp_on h rfl rfl rfl hb25 (cal h rfl en23_W51 (Ball_R _ _ _ _ (hR.keep (by decide) hp cl0)) fun u w25 ⟨e1, e2⟩ a h => ?_))
 subst e1
 have hp := hp.below e2
 refine wl (stp_on h rfl rfl rfl hb25 (vl h (not_ h rfl) fun a h => ?_))
 refine wvl h (pckF h rfl hb25 rfl) fun a h => ?_
 refine wmv h rfl fun a h => ?_
 refine split (t := 78) h rfl (fun hb26 => ?_) (fun hb26 => ?_)
 ·exact absurd hb26 (by rw [h2]; decide)
 refine wl (stp_on h rfl rfl rfl hb26 (vl h (mov h rfl) fun a h => ?_))
 refine wl (stp_on h rfl rfl rfl hb26 (vl h (mov h rfl) fun a h => ?_))
 refine wl (stp_on h rfl rfl rfl hb26 (vl h (eqi h rfl rfl) fun a h => ?_))
 refine wvl h (pckF h rfl hb26 rfl) fun a h => ?_
 refine wn ?_
 refine cnd1 h rfl (fun hb27 => ?_) (fun hb27 => ?_)
 ·exact absurd hb27 (by rw [h3]; decide)
 refine skp ?_
 refine rdh (n := 19) hp mixed rfl ?_
 have hp := hp.drew
 refine tkm 0 h rfl hp rfl fun a h => ?_
 refine tkq 1 h rfl hp (fun W _ => eqi h rfl rfl) fun a h => ?_
 refine tkm 2 h rfl hp rfl fun a h => ?_
 refine split (t := 94) h rfl (fun hb28 => ?_) (fun hb28 => ?_)
 ·refine tk_on 3 h rfl (by kernel_rfl) (fun _ _ _ q => q) hp rfl rfl rfl rfl rfl hb28 (fun W _ => mov h rfl) fun a h => ?_
  refine tk_on 4 h rfl (by kernel_rfl) (fun _ _ _ q => q) hp rfl rfl rfl rfl rfl hb28 (fun W _ => mov h rfl) fun a h => ?_
  refine tk_on 5 h rfl (by kernel_rfl) (fun _ _ _ q => q) hp rfl rfl rfl rfl rfl hb28 (fun W _ => mov h rfl) fun a h => ?_
  refine tk_on 6 h rfl (by kernel_rfl) (fun _ _ _ q => q) hp rfl rfl rfl rfl rfl hb28 (fun W hp => iadR (p.toNat) h rfl rfl Tryz.underlying37 sz51 (hR.keep (by decide) hp cl0) (by omega) (by omega)) fun a h => ?_
  refine tk_on 7 h rfl (by kernel_rfl) (fun _ _ _ q => q) hp rfl rfl rfl rfl rfl hb28 (fun W hp => ldE h (hR.keep (by decide) hp cl0) hy rfl ag51 sz51) fun a h => ?_
  refine tk_on 8 h rfl (by kernel_rfl) (fun _ _ _ q => q) hp rfl rfl rfl rfl rfl hb28 (fun W _ => mov h rfl) fun a h => ?_
  refine tk_on 9 h rfl (by kernel_rfl) (fun _ _ _ q => q) hp rfl rfl rfl rfl rfl hb28 (fun W _ => mov h rfl) fun a h => ?_
  refine tk_on 10 h rfl (by kernel_rfl) (fun _ _ _ q => q) hp rfl rfl rfl rfl rfl hb28 (fun W hp => iadR (r.toNat) h rfl rfl Tryz.underlying37 sz51 (hR.keep (by decide) hp cl0) (by omega) (by omega)) fun a h => ?_
  refine tk_on 11 h rfl (by kernel_rfl) (fun _ _ _ q => q) hp rfl rfl rfl rfl rfl hb28 (fun W hp => ldE h (hR.keep (by decide) hp cl0) hz rfl ag51 sz51) fun a h => ?_
  refine one 12 (by kernel_rfl) rfl (stp_on h rfl rfl rfl hb28 (cal h rfl en24_W51 (Shades_R y z _ hyB hzB) fun u w26 ⟨e1, e2⟩ a h => ⟨hp.below e2, ?_⟩))
  subst e1
  have hp := hp.below e2
  refine tk_on 13 h rfl (by kernel_rfl) (fun _ _ _ q => q) hp rfl rfl rfl rfl rfl hb28 (fun W _ => eqi h rfl rfl) fun a h => ?_
  refine tkq 14 h rfl hp (fun W _ => pckT h rfl hb28 rfl) fun a h => ?_
  refine tkm 15 h rfl hp rfl fun a h => ?_
  refine split (t := 107) h rfl (fun hb29 => ?_) (fun hb29 => ?_)
  ·refine one 16 (by kernel_rfl) rfl (stp_on h rfl rfl rfl hb29 (cal h rfl en10_W51 (known_L _ (hGl.keep hp)) fun u w27 ⟨e1, e2⟩ a h => ⟨hp.below e2, ?_⟩))
   subst e1
   have hp := hp.below e2
   refine tkq 17 h rfl hp (fun W _ => pckT h rfl hb29 rfl) fun a h => ?_
   refine tka 18 h rfl hp rfl fun a h => ?_
   refine dn (by kernel_rfl) ?_
   refine wp_ret ?_
   try simp only [xqs]
   refine rt_1 h rfl (rvT h rfl) ?_
   exact ⟨_, rfl, rfl, hp.bel⟩
  exact absurd hb29 (by first | decide | (simp; done))
 exact absurd hb28 (by first | decide | (simp; done))
end Go.Proofs.Ec
