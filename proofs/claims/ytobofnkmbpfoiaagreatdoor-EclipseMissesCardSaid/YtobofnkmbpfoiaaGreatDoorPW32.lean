import Derived.Test.YtobofnkmbpfoiaaGreatDoorProg
import Derived.Test.YtobofnkmbpfoiaaGreatDoorPFa
import Derived.Test.YtobofnkmbpfoiaaGreatDoorPQb
import Derived.Test.YtobofnkmbpfoiaaGreatDoorPW31
set_option linter.unusedVariables false
set_option linter.unusedSimpArgs false
set_option maxRecDepth 4000
namespace Go.Proofs.Ec
open Go.RowKit Go.Proofs.Sx
open Ecl
theorem en15_W32 : EnT Tryz.prog 15 := ento Tryz.func15
theorem en20_W32 : EnT Tryz.prog 20 := ento Tryz.func20
theorem en16_W32 : EnT Tryz.prog 16 := ento Tryz.func16
theorem en17_W32 : EnT Tryz.prog 17 := ento Tryz.func17
theorem en26_W32 : EnT Tryz.prog 26 := ento Tryz.func26
theorem en40_W32 : EnT Tryz.prog 40 := ento Tryz.func40
theorem en37_W32 : EnT Tryz.prog 37 := ento Tryz.func37
theorem en41_W32 : EnT Tryz.prog 41 := ento Tryz.func41
theorem en42_W32 : EnT Tryz.prog 42 := ento Tryz.func42
theorem bad4 {a b c d : Bool} (h1 : (!a) = false) (h2 : (!b) = false) (h3 : (!c) = false) (h4 : (!d) = false) : ¬ ((a && b && (c && d)) = false) := by cases a <;> cases b <;> cases c <;> cases d <;> simp_all
theorem EclipseMisses_g (x : EV) (e : Eng) (s2 : SV) (st : List Int) (d1 d2 lt : Int) (w : World) (hE0 : RdE w x e s2 st) (hGl : Glb w) (hspan : (inR d1 1 9000 && inR d2 d1 9000 && decide (d2 - d1 ≤ 400) && inR lt 0 30) = true) : Ret Tryz.prog 7 #[.agg #[x.b.v, .int .i64 e.nnum, .int .i64 e.nden, .int .i64 e.nstart, x.s.v, x.m.v, x.n.v, x.f.v, .int .i64 e.new, .int .i64 e.full, .int .i64 e.wide], s2.v, .int .i64 d1, .int .i64 d2, .int .i64 lt] w fun u w' => u = .bool true ∧ Below w.heap.size w w' := by
 have hen := hE0.ok
 have hG := hE0.g
 have hS2 := hE0.s
 have hse := isSet_rise hE0.set
 have hd := hspan
 simp only [inR, Bool.and_eq_true, decide_eq_true_eq] at hd
 have hsn : isSpan d1 d2 = true := (Bool.and_eq_true _ _ ▸ hspan).1
 have hla : isLate lt = true := (Bool.and_eq_true _ _ ▸ hspan).2
 have hp : Hp c0 w w [] := Hp.start trivial
 refine enter Tryz.func7 rfl (N := 107) rfl rfl fun a h => ?_
 refine rg ?_
 refine wl (box (cs := #[_, _, _, _, _, _, _, _, _, _, _]) h hp rfl rfl fun a w1 g1 hg1 h hp => ?_)
 refine wsn h rfl fun a h => ?_
 refine wp_seq ?_
 refine rg ?_
 refine wvl h (ldO (us := [_, _, _, _, _, _, _, _, _, _, _]) h hp rfl 0 rfl sz32 rfl ag32) fun a h => ?_
 refine wmv h rfl fun a h => ?_
 refine wl (cal h rfl en15_W32 (short_L x e s2 st _ (hG.keep hp cl0) (hS2.keep (by decide) hp cl0)) fun u w2 ⟨⟨bsh, e1⟩, e2⟩ a h => ?_)
 subst e1
 have hp := hp.below e2
 refine wvl h (not_ h rfl) fun a h => ?_
 refine wn ?_
 refine cnd1 h rfl (fun hb1 => ?_) (fun hb1 => ?_)
 ·refine rg ?_
  refine wl (cal h rfl en20_W32 (known_L _ (hGl.keep hp)) fun u w3 ⟨e1, e2⟩ a h => ?_)
  subst e1
  have hp := hp.below e2
  refine wsn h rfl fun a h => ?_
  refine wp_ret ?_
  try simp only [xqs]
  refine rt_1 h rfl (rvT h rfl) ?_
  exact ⟨_, rfl, rfl, hp.bel⟩
 refine skp ?_
 refine rg ?_
 refine wvl h (ldO (us := [_, _, _, _, _, _, _, _, _, _, _]) h hp rfl 0 rfl sz32 rfl ag32) fun a h => ?_
 refine wm3 h rfl rfl rfl rfl rfl rfl fun a h => ?_
 refine wmv h rfl fun a h => ?_
 refine wl (cal h rfl en39 (Missed_s x e s2 st _ _ _ _ (hE0.keep hp cl0) hspan) fun u w4 ⟨⟨s21, e1, hf⟩, e2⟩ a h => ?_)
 subst e1
 have hp := hp.got (hp.below e2) (by decide) hf
 refine wmv h rfl fun a h => ?_
 refine wvl h (ext h rfl rfl) fun a h => ?_
 refine wvl h (ext h rfl rfl) fun a h => ?_
 refine ws2 h rfl rfl rfl rfl fun a h => ?_
 refine rg ?_
 refine wvl h (ldO (us := [_, _, _, _, _, _, _, _, _, _, _]) h hp rfl 0 rfl sz32 rfl ag32) fun a h => ?_
 refine wm3 h rfl rfl rfl rfl rfl rfl fun a h => ?_
 refine wmv h rfl fun a h => ?_
 refine wl (cal h rfl en40_W32 (Empty_s x e s2 st _ _ _ _ (hE0.keep hp cl0) hspan) fun u w5 ⟨⟨s22, e1, hf⟩, e2⟩ a h => ?_)
 subst e1
 have hp := hp.got (hp.below e2) (by decide) hf
 refine wmv h rfl fun a h => ?_
 refine wvl h (ext h rfl rfl) fun a h => ?_
 refine wvl h (ext h rfl rfl) fun a h => ?_
 refine ws2 h rfl rfl rfl rfl fun a h => ?_
 refine wp_seq ?_
 refine rg ?_
 refine wvl h (ldO (us := [_, _, _, _, _, _, _, _, _, _, _]) h hp rfl 0 rfl sz32 rfl ag32) fun a h => ?_
 refine wl (cal h rfl en16_W32 (Engine_R x e _ (by first | exact hG.keep hp cl0 | exact (hE0.keep hp cl0).g)) fun u w6 ⟨e1, e2⟩ a h => ?_)
 subst e1
 have hp := hp.below e2
 refine wvl h (not_ h rfl) fun a h => ?_
 refine wmv h rfl fun a h => ?_
 refine split (t := 41) h rfl (fun hb2 => ?_) (fun hb2 => ?_)
 ·exact absurd hb2 (by rw [hen]; decide)
 refine wl (stp_on h rfl rfl rfl hb2 (vl h (fad h rfl fo32_4) fun a h => ?_))
 refine wl (stp_on h rfl rfl rfl hb2 (vl h (ldo h hp rfl 0 rfl rfl ag30) fun a h => ?_))
 refine wl (stp_on h rfl rfl rfl hb2 (vl h (mov h rfl) fun a h => ?_))
 refine wl (stp_on h rfl rfl rfl hb2 (cal h rfl en17_W32 (Set_T _ _ _ _ _ (hE0.keep hp cl0).s (hE0.keep hp cl0).g.f) fun u w7 ⟨e1, e2⟩ a h => ?_))
 subst e1
 have hp := hp.below e2
 refine wl (stp_on h rfl rfl rfl hb2 (vl h (not_ h rfl) fun a h => ?_))
 refine wvl h (pckF h rfl hb2 rfl) fun a h => ?_
 refine wmv h rfl fun a h => ?_
 refine split (t := 48) h rfl (fun hb3 => ?_) (fun hb3 => ?_)
 ·exact absurd hb3 (by rw [hse]; decide)
 refine wl (stp_on h rfl rfl rfl hb3 (vl h (mov h rfl) fun a h => ?_))
 refine wl (stp_on h rfl rfl rfl hb3 (vl h (mov h rfl) fun a h => ?_))
 refine wl (stp_on h rfl rfl rfl hb3 (cal h rfl en26_W32 (Span_R _ _ _) fun u w8 ⟨e1, e2⟩ a h => ?_))
 subst e1
 subst e2
 refine wl (stp_on h rfl rfl rfl hb3 (vl h (not_ h rfl) fun a h => ?_))
 refine wvl h (pckF h rfl hb3 rfl) fun a h => ?_
 refine wmv h rfl fun a h => ?_
 refine split (t := 54) h rfl (fun hb4 => ?_) (fun hb4 => ?_)
 ·exact absurd hb4 (by rw [hsn]; decide)
 refine wl (stp_on h rfl rfl rfl hb4 (vl h (mov h rfl) fun a h => ?_))
 refine wl (stp_on h rfl rfl rfl hb4 (cal h rfl en37_W32 (Late_R _ _) fun u w9 ⟨e1, e2⟩ a h => ?_))
 subst e1
 subst e2
 refine wl (stp_on h rfl rfl rfl hb4 (vl h (not_ h rfl) fun a h => ?_))
 refine wvl h (pckF h rfl hb4 rfl) fun a h => ?_
 refine wn ?_
 refine cnd1 h rfl (fun hb5 => ?_) (fun hb5 => ?_)
 ·exact absurd hb5 (by rw [hla]; decide)
 refine skp ?_
 refine rg ?_
 refine wmv h rfl fun a h => ?_
 refine wvl h (eqi h rfl rfl) fun a h => ?_
 refine wmv h rfl fun a h => ?_
 refine split (t := 80) h rfl (fun hb6 => ?_) (fun hb6 => ?_)
 ·refine wl (stp_on h rfl rfl rfl hb6 (vl h (mov h rfl) fun a h => ?_))
  refine wl (stp_on h rfl rfl rfl hb6 (vl h (ldO (us := [_, _, _, _, _, _, _, _, _, _, _]) h hp rfl 0 rfl sz32 rfl ag32) fun a h => ?_))
  refine wl (stp_on h rfl rfl rfl hb6 (vl h (mov h rfl) fun a h => ?_))
  refine wl (stp_on h rfl rfl rfl hb6 (vl h (mov h rfl) fun a h => ?_))
  refine wl (stp_on h rfl rfl rfl hb6 (vl h (mov h rfl) fun a h => ?_))
  refine wl (stp_on h rfl rfl rfl hb6 (vl h (mov h rfl) fun a h => ?_))
  refine wl (stp_on h rfl rfl rfl hb6 (cal h rfl en41_W32 (Missed_R x e s2 st _ _ _ _ (hE0.keep hp cl0) (by omega) (by omega)) fun u w10 ⟨⟨s23, e1, hf⟩, e2⟩ a h => ?_))
  subst e1
  have hp := hp.got (hp.below e2) (by decide) hf
  refine wl (stp_on h rfl rfl rfl hb6 (cal h rfl en27 (SameEclipses_S _ _ _ _ _ (hp.rdF (i := 1) rfl) (hp.rdF (i := 3) rfl)) fun u w11 ⟨e1, e2⟩ a h => ?_))
  subst e1
  have hp := hp.below e2
  refine wvl h (pckT h rfl hb6 rfl) fun a h => ?_
  refine wmv h rfl fun a h => ?_
  refine split (t := 90) h rfl (fun hb7 => ?_) (fun hb7 => ?_)
  ·refine wl (stp_on h rfl rfl rfl hb7 (vl h (mov h rfl) fun a h => ?_))
   refine wl (stp_on h rfl rfl rfl hb7 (vl h (eqi h rfl rfl) fun a h => ?_))
   refine wvl h (pckT h rfl hb7 rfl) fun a h => ?_
   refine wmv h rfl fun a h => ?_
   refine split (t := 94) h rfl (fun hb8 => ?_) (fun hb8 => ?_)
   ·refine wl (stp_on h rfl rfl rfl hb8 (vl h (mov h rfl) fun a h => ?_))
    refine wl (stp_on h rfl rfl rfl hb8 (vl h (ldO (us := [_, _, _, _, _, _, _, _, _, _, _]) h hp rfl 0 rfl sz32 rfl ag32) fun a h => ?_))
    refine wl (stp_on h rfl rfl rfl hb8 (vl h (mov h rfl) fun a h => ?_))
    refine wl (stp_on h rfl rfl rfl hb8 (vl h (mov h rfl) fun a h => ?_))
    refine wl (stp_on h rfl rfl rfl hb8 (vl h (mov h rfl) fun a h => ?_))
    refine wl (stp_on h rfl rfl rfl hb8 (vl h (mov h rfl) fun a h => ?_))
    refine wl (stp_on h rfl rfl rfl hb8 (cal h rfl en42_W32 (Empty_R x e s2 st _ _ _ _ (hE0.keep hp cl0) (by omega) (by omega)) fun u w12 ⟨⟨s24, e1, hf⟩, e2⟩ a h => ?_))
    subst e1
    have hp := hp.got (hp.below e2) (by decide) hf
    refine wl (stp_on h rfl rfl rfl hb8 (cal h rfl en27 (SameEclipses_S _ _ _ _ _ (hp.rdF (i := 2) rfl) (hp.rdF (i := 4) rfl)) fun u w13 ⟨e1, e2⟩ a h => ?_))
    subst e1
    have hp := hp.below e2
    refine wvl h (pckT h rfl hb8 rfl) fun a h => ?_
    refine wmv h rfl fun a h => ?_
    refine split (t := 104) h rfl (fun hb9 => ?_) (fun hb9 => ?_)
    ·refine wl (stp_on h rfl rfl rfl hb9 (cal h rfl en20_W32 (known_L _ (hGl.keep hp)) fun u w14 ⟨e1, e2⟩ a h => ?_))
     subst e1
     have hp := hp.below e2
     refine wvl h (pckT h rfl hb9 rfl) fun a h => ?_
     refine wsn h rfl fun a h => ?_
     refine wp_ret ?_
     try simp only [xqs]
     refine rt_1 h rfl (rvT h rfl) ?_
     exact ⟨_, rfl, rfl, hp.bel⟩
    exact absurd hb9 (by simp)
   exact absurd hb8 (by decide)
  exact absurd hb7 (by simp)
 exact absurd hb6 (by decide)
theorem EclipseMisses_b (x : EV) (e : Eng) (s2 : SV) (st : List Int) (d1 d2 lt : Int) (w : World) (hG : RdG w x e) (hS2 : Rd w encI 1 s2.v st) (hGl : Glb w) (hbad : (isEngine e && isSet e st && (inR d1 1 9000 && inR d2 d1 9000 && decide (d2 - d1 ≤ 400) && inR lt 0 30)) = false) : Ret Tryz.prog 7 #[.agg #[x.b.v, .int .i64 e.nnum, .int .i64 e.nden, .int .i64 e.nstart, x.s.v, x.m.v, x.n.v, x.f.v, .int .i64 e.new, .int .i64 e.full, .int .i64 e.wide], s2.v, .int .i64 d1, .int .i64 d2, .int .i64 lt] w fun u w' => u = .bool true ∧ Below w.heap.size w w' := by
 have hp : Hp c0 w w [] := Hp.start trivial
 refine enter Tryz.func7 rfl (N := 107) rfl rfl fun a h => ?_
 refine rg ?_
 refine wl (box (cs := #[_, _, _, _, _, _, _, _, _, _, _]) h hp rfl rfl fun a w1 g1 hg1 h hp => ?_)
 refine wsn h rfl fun a h => ?_
 refine wp_seq ?_
 refine rg ?_
 refine wvl h (ldO (us := [_, _, _, _, _, _, _, _, _, _, _]) h hp rfl 0 rfl sz32 rfl ag32) fun a h => ?_
 refine wmv h rfl fun a h => ?_
 refine wl (cal h rfl en15_W32 (short_L x e s2 st _ (hG.keep hp cl0) (hS2.keep (by decide) hp cl0)) fun u w2 ⟨⟨bsh, e1⟩, e2⟩ a h => ?_)
 subst e1
 have hp := hp.below e2
 refine wvl h (not_ h rfl) fun a h => ?_
 refine wn ?_
 refine cnd1 h rfl (fun hb1 => ?_) (fun hb1 => ?_)
 ·refine rg ?_
  refine wl (cal h rfl en20_W32 (known_L _ (hGl.keep hp)) fun u w3 ⟨e1, e2⟩ a h => ?_)
  subst e1
  have hp := hp.below e2
  refine wsn h rfl fun a h => ?_
  refine wp_ret ?_
  try simp only [xqs]
  refine rt_1 h rfl (rvT h rfl) ?_
  exact ⟨_, rfl, rfl, hp.bel⟩
 refine skp ?_
 refine rg ?_
 refine wvl h (ldO (us := [_, _, _, _, _, _, _, _, _, _, _]) h hp rfl 0 rfl sz32 rfl ag32) fun a h => ?_
 refine wm3 h rfl rfl rfl rfl rfl rfl fun a h => ?_
 refine wmv h rfl fun a h => ?_
 refine wl (cal h rfl en39 (Missed_x x e s2 st _ _ _ _ (hG.keep hp cl0) (hS2.keep (by decide) hp cl0) hbad) fun u w4 ⟨e1, e2⟩ a h => ?_)
 subst e1
 have hp := hp.below e2
 refine wmv h rfl fun a h => ?_
 refine wvl h (ext h rfl rfl) fun a h => ?_
 refine wvl h (ext h rfl rfl) fun a h => ?_
 refine ws2 h rfl rfl rfl rfl fun a h => ?_
 refine rg ?_
 refine wvl h (ldO (us := [_, _, _, _, _, _, _, _, _, _, _]) h hp rfl 0 rfl sz32 rfl ag32) fun a h => ?_
 refine wm3 h rfl rfl rfl rfl rfl rfl fun a h => ?_
 refine wmv h rfl fun a h => ?_
 refine wl (cal h rfl en40_W32 (Empty_x x e s2 st _ _ _ _ (hG.keep hp cl0) (hS2.keep (by decide) hp cl0) hbad) fun u w5 ⟨e1, e2⟩ a h => ?_)
 subst e1
 have hp := hp.below e2
 refine wmv h rfl fun a h => ?_
 refine wvl h (ext h rfl rfl) fun a h => ?_
 refine wvl h (ext h rfl rfl) fun a h => ?_
 refine ws2 h rfl rfl rfl rfl fun a h => ?_
 refine wp_seq ?_
 refine rg ?_
 refine wvl h (ldO (us := [_, _, _, _, _, _, _, _, _, _, _]) h hp rfl 0 rfl sz32 rfl ag32) fun a h => ?_
 refine wl (cal h rfl en16_W32 (Engine_R x e _ (by first | exact hG.keep hp cl0 | exact (hE0.keep hp cl0).g)) fun u w6 ⟨e1, e2⟩ a h => ?_)
 subst e1
 have hp := hp.below e2
 refine wvl h (not_ h rfl) fun a h => ?_
 refine wmv h rfl fun a h => ?_
 refine split (t := 41) h rfl (fun hb2 => ?_) (fun hb2 => ?_)
 ·refine wl (stp_off h rfl rfl rfl rfl rfl hb2 fun a h => ?_)
  refine wl (stp_off h rfl rfl rfl rfl rfl hb2 fun a h => ?_)
  refine wl (stp_off h rfl rfl rfl rfl rfl hb2 fun a h => ?_)
  refine wl (stp_off h rfl rfl rfl rfl rfl hb2 fun a h => ?_)
  refine wl (stp_off h rfl rfl rfl rfl rfl hb2 fun a h => ?_)
  refine wvl h (pckT h rfl hb2 rfl) fun a h => ?_
  refine wmv h rfl fun a h => ?_
  refine wl (stp_off h rfl rfl rfl rfl rfl rfl fun a h => ?_)
  refine wl (stp_off h rfl rfl rfl rfl rfl rfl fun a h => ?_)
  refine wl (stp_off h rfl rfl rfl rfl rfl rfl fun a h => ?_)
  refine wl (stp_off h rfl rfl rfl rfl rfl rfl fun a h => ?_)
  refine wvl h (pckT h rfl rfl rfl) fun a h => ?_
  refine wmv h rfl fun a h => ?_
  refine wl (stp_off h rfl rfl rfl rfl rfl rfl fun a h => ?_)
  refine wl (stp_off h rfl rfl rfl rfl rfl rfl fun a h => ?_)
  refine wl (stp_off h rfl rfl rfl rfl rfl rfl fun a h => ?_)
  refine wvl h (pckT h rfl rfl rfl) fun a h => ?_
  refine wn ?_
  refine cnd1 h rfl (fun _ => ?_) (fun e => nomatch e)
  refine rg ?_
  refine wmv h rfl fun a h => ?_
  refine wvl h (eqi h rfl rfl) fun a h => ?_
  refine wmv h rfl fun a h => ?_
  refine split (t := 61) h rfl (fun hb3 => ?_) (fun hb3 => ?_)
  ·refine wl (stp_on h rfl rfl rfl hb3 (vl h (mov h rfl) fun a h => ?_))
   refine wl (stp_on h rfl rfl rfl hb3 (vl h (len_ h rfl Tryz.underlying50) fun a h => ?_))
   refine wl (stp_on h rfl rfl rfl hb3 (vl h (eqi h rfl rfl) fun a h => ?_))
   refine wvl h (pckT h rfl hb3 rfl) fun a h => ?_
   refine wmv h rfl fun a h => ?_
   refine split (t := 66) h rfl (fun hb4 => ?_) (fun hb4 => ?_)
   ·refine wl (stp_on h rfl rfl rfl hb4 (vl h (mov h rfl) fun a h => ?_))
    refine wl (stp_on h rfl rfl rfl hb4 (vl h (eqi h rfl rfl) fun a h => ?_))
    refine wvl h (pckT h rfl hb4 rfl) fun a h => ?_
    refine wmv h rfl fun a h => ?_
    refine split (t := 70) h rfl (fun hb5 => ?_) (fun hb5 => ?_)
    ·refine wl (stp_on h rfl rfl rfl hb5 (vl h (mov h rfl) fun a h => ?_))
     refine wl (stp_on h rfl rfl rfl hb5 (vl h (len_ h rfl Tryz.underlying50) fun a h => ?_))
     refine wl (stp_on h rfl rfl rfl hb5 (vl h (eqi h rfl rfl) fun a h => ?_))
     refine wvl h (pckT h rfl hb5 rfl) fun a h => ?_
     refine wmv h rfl fun a h => ?_
     refine split (t := 75) h rfl (fun hb6 => ?_) (fun hb6 => ?_)
     ·refine wl (stp_on h rfl rfl rfl hb6 (cal h rfl en20_W32 (known_L _ (hGl.keep hp)) fun u w7 ⟨e1, e2⟩ a h => ?_))
      subst e1
      have hp := hp.below e2
      refine wvl h (pckT h rfl hb6 rfl) fun a h => ?_
      refine wsn h rfl fun a h => ?_
      refine wp_ret ?_
      try simp only [xqs]
      refine rt_1 h rfl (rvT h rfl) ?_
      exact ⟨_, rfl, rfl, hp.bel⟩
     exact absurd hb6 (by simp)
    exact absurd hb5 (by decide)
   exact absurd hb4 (by simp)
  exact absurd hb3 (by decide)
 have hn1 := hb2
 refine wl (stp_on h rfl rfl rfl hb2 (vl h (fad h rfl fo32_4) fun a h => ?_))
 refine wl (stp_on h rfl rfl rfl hb2 (vl h (ldo h hp rfl 0 rfl rfl ag30) fun a h => ?_))
 refine wl (stp_on h rfl rfl rfl hb2 (vl h (mov h rfl) fun a h => ?_))
 refine wl (stp_on h rfl rfl rfl hb2 (cal h rfl en17_W32 (Set_T _ _ _ _ _ (hS2.keep (by decide) hp cl0) (hG.keep hp cl0).f) fun u w8 ⟨e1, e2⟩ a h => ?_))
 subst e1
 have hp := hp.below e2
 refine wl (stp_on h rfl rfl rfl hb2 (vl h (not_ h rfl) fun a h => ?_))
 refine wvl h (pckF h rfl hb2 rfl) fun a h => ?_
 refine wmv h rfl fun a h => ?_
 refine split (t := 48) h rfl (fun hb7 => ?_) (fun hb7 => ?_)
 ·refine wl (stp_off h rfl rfl rfl rfl rfl hb7 fun a h => ?_)
  refine wl (stp_off h rfl rfl rfl rfl rfl hb7 fun a h => ?_)
  refine wl (stp_off h rfl rfl rfl rfl rfl hb7 fun a h => ?_)
  refine wl (stp_off h rfl rfl rfl rfl rfl hb7 fun a h => ?_)
  refine wvl h (pckT h rfl hb7 rfl) fun a h => ?_
  refine wmv h rfl fun a h => ?_
  refine wl (stp_off h rfl rfl rfl rfl rfl rfl fun a h => ?_)
  refine wl (stp_off h rfl rfl rfl rfl rfl rfl fun a h => ?_)
  refine wl (stp_off h rfl rfl rfl rfl rfl rfl fun a h => ?_)
  refine wvl h (pckT h rfl rfl rfl) fun a h => ?_
  refine wn ?_
  refine cnd1 h rfl (fun _ => ?_) (fun e => nomatch e)
  refine rg ?_
  refine wmv h rfl fun a h => ?_
  refine wvl h (eqi h rfl rfl) fun a h => ?_
  refine wmv h rfl fun a h => ?_
  refine split (t := 61) h rfl (fun hb8 => ?_) (fun hb8 => ?_)
  ·refine wl (stp_on h rfl rfl rfl hb8 (vl h (mov h rfl) fun a h => ?_))
   refine wl (stp_on h rfl rfl rfl hb8 (vl h (len_ h rfl Tryz.underlying50) fun a h => ?_))
   refine wl (stp_on h rfl rfl rfl hb8 (vl h (eqi h rfl rfl) fun a h => ?_))
   refine wvl h (pckT h rfl hb8 rfl) fun a h => ?_
   refine wmv h rfl fun a h => ?_
   refine split (t := 66) h rfl (fun hb9 => ?_) (fun hb9 => ?_)
   ·refine wl (stp_on h rfl rfl rfl hb9 (vl h (mov h rfl) fun a h => ?_))
    refine wl (stp_on h rfl rfl rfl hb9 (vl h (eqi h rfl rfl) fun a h => ?_))
    refine wvl h (pckT h rfl hb9 rfl) fun a h => ?_
    refine wmv h rfl fun a h => ?_
    refine split (t := 70) h rfl (fun hb10 => ?_) (fun hb10 => ?_)
    ·refine wl (stp_on h rfl rfl rfl hb10 (vl h (mov h rfl) fun a h => ?_))
     refine wl (stp_on h rfl rfl rfl hb10 (vl h (len_ h rfl Tryz.underlying50) fun a h => ?_))
     refine wl (stp_on h rfl rfl rfl hb10 (vl h (eqi h rfl rfl) fun a h => ?_))
     refine wvl h (pckT h rfl hb10 rfl) fun a h => ?_
     refine wmv h rfl fun a h => ?_
     refine split (t := 75) h rfl (fun hb11 => ?_) (fun hb11 => ?_)
     ·refine wl (stp_on h rfl rfl rfl hb11 (cal h rfl en20_W32 (known_L _ (hGl.keep hp)) fun u w9 ⟨e1, e2⟩ a h => ?_))
      subst e1
      have hp := hp.below e2
      refine wvl h (pckT h rfl hb11 rfl) fun a h => ?_
      refine wsn h rfl fun a h => ?_
      refine wp_ret ?_
      try simp only [xqs]
      refine rt_1 h rfl (rvT h rfl) ?_
      exact ⟨_, rfl, rfl, hp.bel⟩
     exact absurd hb11 (by simp)
    exact absurd hb10 (by decide)
   exact absurd hb9 (by simp)
  exact absurd hb8 (by decide)
 have hn2 := hb7
 refine wl (stp_on h rfl rfl rfl hb7 (vl h (mov h rfl) fun a h => ?_))
 refine wl (stp_on h rfl rfl rfl hb7 (vl h (mov h rfl) fun a h => ?_))
 refine wl (stp_on h rfl rfl rfl hb7 (cal h rfl en26_W32 (Span_R _ _ _) fun u w10 ⟨e1, e2⟩ a h => ?_))
 subst e1
 subst e2
 refine wl (stp_on h rfl rfl rfl hb7 (vl h (not_ h rfl) fun a h => ?_))
 refine wvl h (pckF h rfl hb7 rfl) fun a h => ?_
 refine wmv h rfl fun a h => ?_
 refine split (t := 54) h rfl (fun hb12 => ?_) (fun hb12 => ?_)
 ·refine wl (stp_off h rfl rfl rfl rfl rfl hb12 fun a h => ?_)
  refine wl (stp_off h rfl rfl rfl rfl rfl hb12 fun a h => ?_)
  refine wl (stp_off h rfl rfl rfl rfl rfl hb12 fun a h => ?_)
  refine wvl h (pckT h rfl hb12 rfl) fun a h => ?_
  refine wn ?_
  refine cnd1 h rfl (fun _ => ?_) (fun e => nomatch e)
  refine rg ?_
  refine wmv h rfl fun a h => ?_
  refine wvl h (eqi h rfl rfl) fun a h => ?_
  refine wmv h rfl fun a h => ?_
  refine split (t := 61) h rfl (fun hb13 => ?_) (fun hb13 => ?_)
  ·refine wl (stp_on h rfl rfl rfl hb13 (vl h (mov h rfl) fun a h => ?_))
   refine wl (stp_on h rfl rfl rfl hb13 (vl h (len_ h rfl Tryz.underlying50) fun a h => ?_))
   refine wl (stp_on h rfl rfl rfl hb13 (vl h (eqi h rfl rfl) fun a h => ?_))
   refine wvl h (pckT h rfl hb13 rfl) fun a h => ?_
   refine wmv h rfl fun a h => ?_
   refine split (t := 66) h rfl (fun hb14 => ?_) (fun hb14 => ?_)
   ·refine wl (stp_on h rfl rfl rfl hb14 (vl h (mov h rfl) fun a h => ?_))
    refine wl (stp_on h rfl rfl rfl hb14 (vl h (eqi h rfl rfl) fun a h => ?_))
    refine wvl h (pckT h rfl hb14 rfl) fun a h => ?_
    refine wmv h rfl fun a h => ?_
    refine split (t := 70) h rfl (fun hb15 => ?_) (fun hb15 => ?_)
    ·refine wl (stp_on h rfl rfl rfl hb15 (vl h (mov h rfl) fun a h => ?_))
     refine wl (stp_on h rfl rfl rfl hb15 (vl h (len_ h rfl Tryz.underlying50) fun a h => ?_))
     refine wl (stp_on h rfl rfl rfl hb15 (vl h (eqi h rfl rfl) fun a h => ?_))
     refine wvl h (pckT h rfl hb15 rfl) fun a h => ?_
     refine wmv h rfl fun a h => ?_
     refine split (t := 75) h rfl (fun hb16 => ?_) (fun hb16 => ?_)
     ·refine wl (stp_on h rfl rfl rfl hb16 (cal h rfl en20_W32 (known_L _ (hGl.keep hp)) fun u w11 ⟨e1, e2⟩ a h => ?_))
      subst e1
      have hp := hp.below e2
      refine wvl h (pckT h rfl hb16 rfl) fun a h => ?_
      refine wsn h rfl fun a h => ?_
      refine wp_ret ?_
      try simp only [xqs]
      refine rt_1 h rfl (rvT h rfl) ?_
      exact ⟨_, rfl, rfl, hp.bel⟩
     exact absurd hb16 (by simp)
    exact absurd hb15 (by decide)
   exact absurd hb14 (by simp)
  exact absurd hb13 (by decide)
 have hn3 := hb12
 refine wl (stp_on h rfl rfl rfl hb12 (vl h (mov h rfl) fun a h => ?_))
 refine wl (stp_on h rfl rfl rfl hb12 (cal h rfl en37_W32 (Late_R _ _) fun u w12 ⟨e1, e2⟩ a h => ?_))
 subst e1
 subst e2
 refine wl (stp_on h rfl rfl rfl hb12 (vl h (not_ h rfl) fun a h => ?_))
 refine wvl h (pckF h rfl hb12 rfl) fun a h => ?_
 refine wn ?_
 refine cnd1 h rfl (fun hb17 => ?_) (fun hb17 => ?_)
 ·refine rg ?_
  refine wmv h rfl fun a h => ?_
  refine wvl h (eqi h rfl rfl) fun a h => ?_
  refine wmv h rfl fun a h => ?_
  refine split (t := 61) h rfl (fun hb18 => ?_) (fun hb18 => ?_)
  ·refine wl (stp_on h rfl rfl rfl hb18 (vl h (mov h rfl) fun a h => ?_))
   refine wl (stp_on h rfl rfl rfl hb18 (vl h (len_ h rfl Tryz.underlying50) fun a h => ?_))
   refine wl (stp_on h rfl rfl rfl hb18 (vl h (eqi h rfl rfl) fun a h => ?_))
   refine wvl h (pckT h rfl hb18 rfl) fun a h => ?_
   refine wmv h rfl fun a h => ?_
   refine split (t := 66) h rfl (fun hb19 => ?_) (fun hb19 => ?_)
   ·refine wl (stp_on h rfl rfl rfl hb19 (vl h (mov h rfl) fun a h => ?_))
    refine wl (stp_on h rfl rfl rfl hb19 (vl h (eqi h rfl rfl) fun a h => ?_))
    refine wvl h (pckT h rfl hb19 rfl) fun a h => ?_
    refine wmv h rfl fun a h => ?_
    refine split (t := 70) h rfl (fun hb20 => ?_) (fun hb20 => ?_)
    ·refine wl (stp_on h rfl rfl rfl hb20 (vl h (mov h rfl) fun a h => ?_))
     refine wl (stp_on h rfl rfl rfl hb20 (vl h (len_ h rfl Tryz.underlying50) fun a h => ?_))
     refine wl (stp_on h rfl rfl rfl hb20 (vl h (eqi h rfl rfl) fun a h => ?_))
     refine wvl h (pckT h rfl hb20 rfl) fun a h => ?_
     refine wmv h rfl fun a h => ?_
     refine split (t := 75) h rfl (fun hb21 => ?_) (fun hb21 => ?_)
     ·refine wl (stp_on h rfl rfl rfl hb21 (cal h rfl en20_W32 (known_L _ (hGl.keep hp)) fun u w13 ⟨e1, e2⟩ a h => ?_))
      subst e1
      have hp := hp.below e2
      refine wvl h (pckT h rfl hb21 rfl) fun a h => ?_
      refine wsn h rfl fun a h => ?_
      refine wp_ret ?_
      try simp only [xqs]
      refine rt_1 h rfl (rvT h rfl) ?_
      exact ⟨_, rfl, rfl, hp.bel⟩
     exact absurd hb21 (by simp)
    exact absurd hb20 (by decide)
   exact absurd hb19 (by simp)
  exact absurd hb18 (by decide)
 exact absurd hbad (bad4 hn1 hn2 hn3 hb17)
end Go.Proofs.Ec
