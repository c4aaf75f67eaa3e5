import Derived.Test.YtobofnkmbpfoiaaGreatDoorProg
import Derived.Test.YtobofnkmbpfoiaaGreatDoorPFa
import Derived.Test.YtobofnkmbpfoiaaGreatDoorPQb
import Derived.Test.YtobofnkmbpfoiaaGreatDoorPW35
set_option linter.unusedVariables false
set_option linter.unusedSimpArgs false
set_option maxRecDepth 4000
namespace Go.Proofs.Ec
open Go.RowKit Go.Proofs.Sx
open Ecl
theorem en15_W36 : EnT Tryz.prog 15 := ento Tryz.func15
theorem en20_W36 : EnT Tryz.prog 20 := ento Tryz.func20
theorem en16_W36 : EnT Tryz.prog 16 := ento Tryz.func16
theorem en17_W36 : EnT Tryz.prog 17 := ento Tryz.func17
theorem en26_W36 : EnT Tryz.prog 26 := ento Tryz.func26
theorem en37_W36 : EnT Tryz.prog 37 := ento Tryz.func37
set_option maxHeartbeats 4000000 in
theorem EclipseTrusted_L (x : EV) (e : Eng) (s2 : SV) (st : List Int) (d1 d2 lt : Int) (w : World) (hG : RdG w x e) (hS2 : Rd w encI 1 s2.v st) (hGl : Glb w) : Ret Tryz.prog 8 #[.agg #[x.b.v, .int .i64 e.nnum, .int .i64 e.nden, .int .i64 e.nstart, x.s.v, x.m.v, x.n.v, x.f.v, .int .i64 e.new, .int .i64 e.full, .int .i64 e.wide], s2.v, .int .i64 d1, .int .i64 d2, .int .i64 lt] w fun u w' => u = .bool true ∧ Below w.heap.size w w' := by
 have hp : Hp c0 w w [] := Hp.start trivial
 refine enter Tryz.func8 rfl (N := 205) rfl rfl fun a h => ?_
 refine rg ?_
 refine wl (box (cs := #[_, _, _, _, _, _, _, _, _, _, _]) h hp rfl rfl fun a w1 g1 hg1 h hp => ?_)
 refine wsg h rfl fun a h => ?_
 refine wn ?_
 refine wp_seq ?_
 refine rg ?_
 refine wvl h (ldO (us := [_, _, _, _, _, _, _, _, _, _, _]) h hp rfl 0 rfl sz32 rfl ag32) fun a h => ?_
 refine wmv h rfl fun a h => ?_
 refine wl (cal h rfl en15_W36 (short_L x e s2 st _ (hG.keep hp cl0) (hS2.keep (by decide) hp cl0)) fun u w2 ⟨⟨bsh, e1⟩, e2⟩ a h => ?_)
 subst e1
 have hp := hp.below e2
 refine wvl h (not_ h rfl) fun a h => ?_
 refine wmv h rfl fun a h => ?_
 refine split (t := 31) h rfl (fun hb1 => ?_) (fun hb1 => ?_)
 ·refine wl (stp_off h rfl rfl rfl rfl rfl hb1 fun a h => ?_)
  refine wl (stp_off h rfl rfl rfl rfl rfl hb1 fun a h => ?_)
  refine wl (stp_off h rfl rfl rfl rfl rfl hb1 fun a h => ?_)
  refine wvl h (pckT h rfl hb1 rfl) fun a h => ?_
  refine wmv h rfl fun a h => ?_
  refine wl (stp_off h rfl rfl rfl rfl rfl rfl fun a h => ?_)
  refine wl (stp_off h rfl rfl rfl rfl rfl rfl fun a h => ?_)
  refine wl (stp_off h rfl rfl rfl rfl rfl rfl fun a h => ?_)
  refine wl (stp_off h rfl rfl rfl rfl rfl rfl fun a h => ?_)
  refine wl (stp_off h rfl rfl rfl rfl rfl rfl fun a h => ?_)
  refine wvl h (pckT h rfl rfl rfl) fun a h => ?_
  refine wmv h rfl fun a h => ?_
  refine wl (stp_off h rfl rfl rfl rfl rfl rfl fun a h => ?_)
  refine wl (stp_off h rfl rfl rfl rfl rfl rfl fun a h => ?_)
  refine wl (stp_off h rfl rfl rfl rfl rfl rfl fun a h => ?_)
  refine wl (stp_off h rfl rfl rfl rfl rfl rfl fun a h => ?_)
  refine wvl h (pckT h rfl rfl rfl) fun a h => ?_
  refine wmv h rfl fun a h => ?_
  refine wl (stp_off h rfl rfl rfl rfl rfl rfl fun a h => ?_)
  refine wl (stp_off h rfl rfl rfl rfl rfl rfl fun a h => ?_)
  refine wl (stp_off h rfl rfl rfl rfl rfl rfl fun a h => ?_)
  refine wvl h (pckT h rfl rfl rfl) fun a h => ?_
  refine wn ?_
  refine cnd1 h rfl (fun _ => ?_) (fun e => nomatch e)
  refine rg ?_
  refine wl (cal h rfl en20_W36 (known_L _ (hGl.keep hp)) fun u w3 ⟨e1, e2⟩ a h => ?_)
  subst e1
  have hp := hp.below e2
  refine wsg h rfl fun a h => ?_
  refine wn ?_
  refine wp_ret ?_
  try simp only [xqs, ↓reduceIte, Nat.reduceEqDiff]
  refine rt_1 h rfl (rvT h rfl) ?_
  exact ⟨_, rfl, rfl, hp.bel⟩
 ·have hn0 := hb1
  refine wl (stp_on h rfl rfl rfl hb1 (vl h (ldO (us := [_, _, _, _, _, _, _, _, _, _, _]) h hp rfl 0 rfl sz32 rfl ag32) fun a h => ?_))
  refine wl (stp_on h rfl rfl rfl hb1 (cal h rfl en16_W36 (Engine_R x e _ (by first | exact hG.keep hp cl0 | exact (hE0.keep hp cl0).g)) fun u w4 ⟨e1, e2⟩ a h => ?_))
  subst e1
  have hp := hp.below e2
  refine wl (stp_on h rfl rfl rfl hb1 (vl h (not_ h rfl) fun a h => ?_))
  refine wvl h (pckF h rfl hb1 rfl) fun a h => ?_
  refine wmv h rfl fun a h => ?_
  refine split (t := 36) h rfl (fun hb2 => ?_) (fun hb2 => ?_)
  ·refine wl (stp_off h rfl rfl rfl rfl rfl hb2 fun a h => ?_)
   refine wl (stp_off h rfl rfl rfl rfl rfl hb2 fun a h => ?_)
   refine wl (stp_off h rfl rfl rfl rfl rfl hb2 fun a h => ?_)
   refine wl (stp_off h rfl rfl rfl rfl rfl hb2 fun a h => ?_)
   refine wl (stp_off h rfl rfl rfl rfl rfl hb2 fun a h => ?_)
   refine wvl h (pckT h rfl hb2 rfl) fun a h => ?_
   refine wmv h rfl fun a h => ?_
   refine wl (stp_off h rfl rfl rfl rfl rfl rfl fun a h => ?_)
   refine wl (stp_off h rfl rfl rfl rfl rfl rfl fun a h => ?_)
   refine wl (stp_off h rfl rfl rfl rfl rfl rfl fun a h => ?_)
   refine wl (stp_off h rfl rfl rfl rfl rfl rfl fun a h => ?_)
   refine wvl h (pckT h rfl rfl rfl) fun a h => ?_
   refine wmv h rfl fun a h => ?_
   refine wl (stp_off h rfl rfl rfl rfl rfl rfl fun a h => ?_)
   refine wl (stp_off h rfl rfl rfl rfl rfl rfl fun a h => ?_)
   refine wl (stp_off h rfl rfl rfl rfl rfl rfl fun a h => ?_)
   refine wvl h (pckT h rfl rfl rfl) fun a h => ?_
   refine wn ?_
   refine cnd1 h rfl (fun _ => ?_) (fun e => nomatch e)
   refine rg ?_
   refine wl (cal h rfl en20_W36 (known_L _ (hGl.keep hp)) fun u w5 ⟨e1, e2⟩ a h => ?_)
   subst e1
   have hp := hp.below e2
   refine wsg h rfl fun a h => ?_
   refine wn ?_
   refine wp_ret ?_
   try simp only [xqs, ↓reduceIte, Nat.reduceEqDiff]
   refine rt_1 h rfl (rvT h rfl) ?_
   exact ⟨_, rfl, rfl, hp.bel⟩
  ·have hn1 := hb2
   refine wl (stp_on h rfl rfl rfl hb2 (vl h (fad h rfl fo32_4) fun a h => ?_))
   refine wl (stp_on h rfl rfl rfl hb2 (vl h (ldo h hp rfl 0 rfl rfl ag30) fun a h => ?_))
   refine wl (stp_on h rfl rfl rfl hb2 (vl h (mov h rfl) fun a h => ?_))
   refine wl (stp_on h rfl rfl rfl hb2 (cal h rfl en17_W36 (Set_T _ _ _ _ _ (hS2.keep (by decide) hp cl0) (hG.keep hp cl0).f) fun u w6 ⟨e1, e2⟩ a h => ?_))
   subst e1
   have hp := hp.below e2
   refine wl (stp_on h rfl rfl rfl hb2 (vl h (not_ h rfl) fun a h => ?_))
   refine wvl h (pckF h rfl hb2 rfl) fun a h => ?_
   refine wmv h rfl fun a h => ?_
   refine split (t := 43) h rfl (fun hb3 => ?_) (fun hb3 => ?_)
   ·refine wl (stp_off h rfl rfl rfl rfl rfl hb3 fun a h => ?_)
    refine wl (stp_off h rfl rfl rfl rfl rfl hb3 fun a h => ?_)
    refine wl (stp_off h rfl rfl rfl rfl rfl hb3 fun a h => ?_)
    refine wl (stp_off h rfl rfl rfl rfl rfl hb3 fun a h => ?_)
    refine wvl h (pckT h rfl hb3 rfl) fun a h => ?_
    refine wmv h rfl fun a h => ?_
    refine wl (stp_off h rfl rfl rfl rfl rfl rfl fun a h => ?_)
    refine wl (stp_off h rfl rfl rfl rfl rfl rfl fun a h => ?_)
    refine wl (stp_off h rfl rfl rfl rfl rfl rfl fun a h => ?_)
    refine wvl h (pckT h rfl rfl rfl) fun a h => ?_
    refine wn ?_
    refine cnd1 h rfl (fun _ => ?_) (fun e => nomatch e)
    refine rg ?_
    refine wl (cal h rfl en20_W36 (known_L _ (hGl.keep hp)) fun u w7 ⟨e1, e2⟩ a h => ?_)
    subst e1
    have hp := hp.below e2
    refine wsg h rfl fun a h => ?_
    refine wn ?_
    refine wp_ret ?_
    try simp only [xqs, ↓reduceIte, Nat.reduceEqDiff]
    refine rt_1 h rfl (rvT h rfl) ?_
    exact ⟨_, rfl, rfl, hp.bel⟩
   ·have hn2 := hb3
    refine wl (stp_on h rfl rfl rfl hb3 (vl h (mov h rfl) fun a h => ?_))
    refine wl (stp_on h rfl rfl rfl hb3 (vl h (mov h rfl) fun a h => ?_))
    refine wl (stp_on h rfl rfl rfl hb3 (cal h rfl en26_W36 (Span_R _ _ _) fun u w8 ⟨e1, e2⟩ a h => ?_))
    subst e1
    subst e2
    refine wl (stp_on h rfl rfl rfl hb3 (vl h (not_ h rfl) fun a h => ?_))
    refine wvl h (pckF h rfl hb3 rfl) fun a h => ?_
    refine wmv h rfl fun a h => ?_
    refine split (t := 49) h rfl (fun hb4 => ?_) (fun hb4 => ?_)
    ·refine wl (stp_off h rfl rfl rfl rfl rfl hb4 fun a h => ?_)
     refine wl (stp_off h rfl rfl rfl rfl rfl hb4 fun a h => ?_)
     refine wl (stp_off h rfl rfl rfl rfl rfl hb4 fun a h => ?_)
     refine wvl h (pckT h rfl hb4 rfl) fun a h => ?_
     refine wn ?_
     refine cnd1 h rfl (fun _ => ?_) (fun e => nomatch e)
     refine rg ?_
     refine wl (cal h rfl en20_W36 (known_L _ (hGl.keep hp)) fun u w9 ⟨e1, e2⟩ a h => ?_)
     subst e1
     have hp := hp.below e2
     refine wsg h rfl fun a h => ?_
     refine wn ?_
     refine wp_ret ?_
     try simp only [xqs, ↓reduceIte, Nat.reduceEqDiff]
     refine rt_1 h rfl (rvT h rfl) ?_
     exact ⟨_, rfl, rfl, hp.bel⟩
    ·have hn3 := hb4
     refine wl (stp_on h rfl rfl rfl hb4 (vl h (mov h rfl) fun a h => ?_))
     refine wl (stp_on h rfl rfl rfl hb4 (cal h rfl en37_W36 (Late_R _ _) fun u w10 ⟨e1, e2⟩ a h => ?_))
     subst e1
     subst e2
     refine wl (stp_on h rfl rfl rfl hb4 (vl h (not_ h rfl) fun a h => ?_))
     refine wvl h (pckF h rfl hb4 rfl) fun a h => ?_
     refine wn ?_
     refine cnd1 h rfl (fun hb5 => ?_) (fun hb5 => ?_)
     ·refine rg ?_
      refine wl (cal h rfl en20_W36 (known_L _ (hGl.keep hp)) fun u w11 ⟨e1, e2⟩ a h => ?_)
      subst e1
      have hp := hp.below e2
      refine wsg h rfl fun a h => ?_
      refine wn ?_
      refine wp_ret ?_
      try simp only [xqs, ↓reduceIte, Nat.reduceEqDiff]
      refine rt_1 h rfl (rvT h rfl) ?_
      exact ⟨_, rfl, rfl, hp.bel⟩
     ·have hn4 := hb5
      have hen : isEngine e = true := by simpa using hn1
      have hse : isSet e st = true := by simpa [isSet] using hn2
      have hE0 : RdE w x e s2 st := ⟨hG, hS2, hen, hse⟩
      have ok := eng_ok hen
      have hlN := ok.new
      have hlF := ok.full
      have hlW := ok.wide
      have hspn : isSpan d1 d2 = true := by simpa using hn3
      have hd := hspn
      simp only [isSpan, inR, Bool.and_eq_true, decide_eq_true_eq] at hd
      have hla : isLate lt = true := by simpa using hn4
      have hld := hla
      simp only [isLate, inR, Bool.and_eq_true, decide_eq_true_eq] at hld
      have hspl : (inR d1 1 9000 && inR d2 d1 9000 && decide (d2 - d1 ≤ 400) && inR lt 0 30) = true := by rw [Bool.and_eq_true]; exact ⟨hspn, hla⟩
      refine skp ?_
      refine rg ?_
      rcases hw : within e st d1 d2 with _ | n
      ·have hwv : withinI (within e st d1 d2) = -1 := by rw [hw]; rfl
       refine wvl h (ldO (us := [_, _, _, _, _, _, _, _, _, _, _]) h hp rfl 0 rfl sz32 rfl ag32) fun a h => ?_
       refine wmv h rfl fun a h => ?_
       refine wmv h rfl fun a h => ?_
       refine wmv h rfl fun a h => ?_
       refine wl (cal h rfl en34 (Within_no (hE0.keep hp cl0) hspn hw) fun u w12 ⟨e1, e2⟩ a h => ?_)
       subst e1
       have hp := hp.below e2
       refine wmv h rfl fun a h => ?_
       refine wvl h (ext h rfl rfl) fun a h => ?_
       refine wvl h (ext h rfl rfl) fun a h => ?_
       refine wsg h rfl fun a h => ?_
       refine wsg h rfl fun a h => ?_
       refine wn ?_
       refine wp_seq ?_
       refine rg ?_
       refine wmv h rfl fun a h => ?_
       refine wvl h (nei h rfl rfl) fun a h => ?_
       refine wn ?_
       refine cnd1 h rfl (fun hb6 => ?_) (fun hb6 => ?_)
       ·refine rg ?_
        refine wvl h (ldO (us := [_, _, _, _, _, _, _, _, _, _, _]) h hp rfl 0 rfl sz32 rfl ag32) fun a h => ?_
        refine wmv h rfl fun a h => ?_
        refine wmv h rfl fun a h => ?_
        refine wmv h rfl fun a h => ?_
        refine wl (cal h rfl en39 (Missed_s x e s2 st d1 d2 30 _ (hE0.keep hp cl0) (by simp only [inR, Bool.and_eq_true, decide_eq_true_eq]; omega)) fun u w13 ⟨⟨s21, e1, hf⟩, e2⟩ a h => ?_)
        subst e1
        have hp := hp.got (hp.below e2) (by decide) hf
        refine wmv h rfl fun a h => ?_
        refine wvl h (ext h rfl rfl) fun a h => ?_
        refine wvl h (ext h rfl rfl) fun a h => ?_
        refine wsg h rfl fun a h => ?_
        refine wsg h rfl fun a h => ?_
        refine wn ?_
        refine rg ?_
        refine wmv h rfl fun a h => ?_
        refine wvl h (nei h rfl rfl) fun a h => ?_
        refine wmv h rfl fun a h => ?_
        refine split (t := 75) h rfl (fun hb7 => ?_) (fun hb7 => ?_)
        ·exact absurd hb7 (by first | decide | simp)
        ·refine wl (stp_on h rfl rfl rfl hb7 (vl h (mov h rfl) fun a h => ?_))
         refine wl (stp_on h rfl rfl rfl hb7 (vl h (nei h rfl rfl) fun a h => ?_))
         refine wvl h (pckF h rfl hb7 rfl) fun a h => ?_
         refine wmv h rfl fun a h => ?_
         refine split (t := 79) h rfl (fun hb8 => ?_) (fun hb8 => ?_)
         ·exact absurd hb8 (by first | decide | simp)
         ·refine wl (stp_on h rfl rfl rfl hb8 (vl h (mov h rfl) fun a h => ?_))
          refine wl (stp_on h rfl rfl rfl hb8 (vl h (lenR h rfl Tryz.underlying50 (hp.rdF (i := 1) rfl)) fun a h => ?_))
          refine wl (stp_on h rfl rfl rfl hb8 (vl h (eqi h rfl rfl) fun a h => ?_))
          refine wvl h (pckF h rfl hb8 rfl) fun a h => ?_
          refine wn ?_
          refine cnd1 h rfl (fun hb9 => ?_) (fun hb9 => ?_)
          ·exact absurd hb9 (by have hq9 := List.length_pos_iff.2 (within_none hw); simp only [Bool.not_eq_true', Bool.not_eq_false', Bool.not_eq_true, Bool.not_eq_false, decide_eq_true_eq, decide_eq_false_iff_not, gt_iff_lt]; omega)
          ·refine skp ?_
           refine rg ?_
           rcases until_two e st (lt := lt) (by omega : d1 ≤ d2) with ⟨v, hu, hv, hm⟩ | ⟨v, hu, hv, hv2, hm, hm2⟩
           ·refine wvl h (ldO (us := [_, _, _, _, _, _, _, _, _, _, _]) h hp rfl 0 rfl sz32 rfl ag32) fun a h => ?_
            refine wmv h rfl fun a h => ?_
            refine wmv h rfl fun a h => ?_
            refine wmv h rfl fun a h => ?_
            refine wmv h rfl fun a h => ?_
            refine wl (cal h rfl en35 (Until_lo (hE0.keep hp cl0) hspl hu hv) fun u w14 ⟨e1, e2⟩ a h => ?_)
            subst e1
            have hp := hp.below e2
            refine wmv h rfl fun a h => ?_
            refine wvl h (ext h rfl rfl) fun a h => ?_
            refine wvl h (ext h rfl rfl) fun a h => ?_
            refine wsg h rfl fun a h => ?_
            refine wsg h rfl fun a h => ?_
            refine wn ?_
            refine wp_seq ?_
            refine rg ?_
            refine wmv h rfl fun a h => ?_
            refine wvl h (nei h rfl rfl) fun a h => ?_
            refine wn ?_
            refine cnd1 h rfl (fun hb10 => ?_) (fun hb10 => ?_)
            ·refine rg ?_
             refine wvl h (ldO (us := [_, _, _, _, _, _, _, _, _, _, _]) h hp rfl 0 rfl sz32 rfl ag32) fun a h => ?_
             refine wmv h rfl fun a h => ?_
             refine wmv h rfl fun a h => ?_
             refine wmv h rfl fun a h => ?_
             refine wmv h rfl fun a h => ?_
             refine wl (cal h rfl en39 (Missed_s x e s2 st d1 d1 lt _ (hE0.keep hp cl0) (by simp only [inR, Bool.and_eq_true, decide_eq_true_eq]; omega)) fun u w15 ⟨⟨s22, e1, hf⟩, e2⟩ a h => ?_)
             subst e1
             have hp := hp.got (hp.below e2) (by decide) hf
             refine wmv h rfl fun a h => ?_
             refine wvl h (ext h rfl rfl) fun a h => ?_
             refine wvl h (ext h rfl rfl) fun a h => ?_
             refine wsg h rfl fun a h => ?_
             refine wsg h rfl fun a h => ?_
             refine wn ?_
             refine rg ?_
             refine wmv h rfl fun a h => ?_
             refine wvl h (eqi h rfl rfl) fun a h => ?_
             refine wmv h rfl fun a h => ?_
             refine split (t := 144) h rfl (fun hb11 => ?_) (fun hb11 => ?_)
             ·refine wl (stp_on h rfl rfl rfl hb11 (vl h (mov h rfl) fun a h => ?_))
              refine wl (stp_on h rfl rfl rfl hb11 (vl h (eqi h rfl rfl) fun a h => ?_))
              refine wvl h (pckT h rfl hb11 rfl) fun a h => ?_
              refine wmv h rfl fun a h => ?_
              refine split (t := 148) h rfl (fun hb12 => ?_) (fun hb12 => ?_)
              ·refine wl (stp_on h rfl rfl rfl hb12 (vl h (mov h rfl) fun a h => ?_))
               refine wl (stp_on h rfl rfl rfl hb12 (vl h (lenR h rfl Tryz.underlying50 (hp.rdF (i := 2) rfl)) fun a h => ?_))
               refine wl (stp_on h rfl rfl rfl hb12 (vl h (gtr h rfl rfl) fun a h => ?_))
               refine wvl h (pckT h rfl hb12 rfl) fun a h => ?_
               refine wmv h rfl fun a h => ?_
               refine split (t := 153) h rfl (fun hb13 => ?_) (fun hb13 => ?_)
               ·refine wl (stp_on h rfl rfl rfl hb13 (cal h rfl en20_W36 (known_L _ (hGl.keep hp)) fun u w16 ⟨e1, e2⟩ a h => ?_))
                subst e1
                have hp := hp.below e2
                refine wvl h (pckT h rfl hb13 rfl) fun a h => ?_
                refine wsg h rfl fun a h => ?_
                refine wn ?_
                refine wp_ret ?_
                try simp only [xqs, ↓reduceIte, Nat.reduceEqDiff]
                refine rt_1 h rfl (rvT h rfl) ?_
                exact ⟨_, rfl, rfl, hp.bel⟩
               ·exact absurd hb13 (by have hq9 := List.length_pos_iff.2 hm; simp only [Bool.not_eq_true', Bool.not_eq_false', Bool.not_eq_true, Bool.not_eq_false, decide_eq_true_eq, decide_eq_false_iff_not, gt_iff_lt]; omega)
              ·exact absurd hb12 (by first | decide | simp)
             ·exact absurd hb11 (by first | decide | simp)
            ·exact absurd hb10 (by decide)
           ·refine wvl h (ldO (us := [_, _, _, _, _, _, _, _, _, _, _]) h hp rfl 0 rfl sz32 rfl ag32) fun a h => ?_
            refine wmv h rfl fun a h => ?_
            refine wmv h rfl fun a h => ?_
            refine wmv h rfl fun a h => ?_
            refine wmv h rfl fun a h => ?_
            refine wl (cal h rfl en35 (Until_hi (hE0.keep hp cl0) hspl hu hv) fun u w17 ⟨e1, e2⟩ a h => ?_)
            subst e1
            have hp := hp.below e2
            refine wmv h rfl fun a h => ?_
            refine wvl h (ext h rfl rfl) fun a h => ?_
            refine wvl h (ext h rfl rfl) fun a h => ?_
            refine wsg h rfl fun a h => ?_
            refine wsg h rfl fun a h => ?_
            refine wn ?_
            refine wp_seq ?_
            refine rg ?_
            refine wmv h rfl fun a h => ?_
            refine wvl h (nei h rfl rfl) fun a h => ?_
            refine wn ?_
            refine cnd1 h rfl (fun hb14 => ?_) (fun hb14 => ?_)
            ·exact absurd hb14 (by decide)
            ·refine skp ?_
             refine wp_seq ?_
             refine rg ?_
             refine wmv h rfl fun a h => ?_
             refine wmv h rfl fun a h => ?_
             refine wvl h (lss h rfl rfl) fun a h => ?_
             refine wmv h rfl fun a h => ?_
             refine split (t := 159) h rfl (fun hb15 => ?_) (fun hb15 => ?_)
             ·exact absurd hb15 (by first | decide | (simp only [Bool.not_eq_true', Bool.not_eq_false', Bool.not_eq_true, Bool.not_eq_false, decide_eq_true_eq, decide_eq_false_iff_not, gt_iff_lt, ge_iff_le]; omega) | (simp; done))
             ·refine wl (stp_on h rfl rfl rfl hb15 (vl h (mov h rfl) fun a h => ?_))
              refine wl (stp_on h rfl rfl rfl hb15 (vl h (mov h rfl) fun a h => ?_))
              refine wl (stp_on h rfl rfl rfl hb15 (vl h (gtr h rfl rfl) fun a h => ?_))
              refine wvl h (pckF h rfl hb15 rfl) fun a h => ?_
              refine wn ?_
              refine cnd1 h rfl (fun hb16 => ?_) (fun hb16 => ?_)
              ·exact absurd hb16 (by first | decide | (simp only [Bool.not_eq_true', Bool.not_eq_false', Bool.not_eq_true, Bool.not_eq_false, decide_eq_true_eq, decide_eq_false_iff_not, gt_iff_lt, ge_iff_le]; omega) | (simp; done))
              ·refine skp ?_
               refine rg ?_
               refine wvl h (ldO (us := [_, _, _, _, _, _, _, _, _, _, _]) h hp rfl 0 rfl sz32 rfl ag32) fun a h => ?_
               refine wmv h rfl fun a h => ?_
               refine wmv h rfl fun a h => ?_
               refine wmv h rfl fun a h => ?_
               refine wmv h rfl fun a h => ?_
               refine wl (cal h rfl en39 (Missed_s x e s2 st d1 v lt _ (hE0.keep hp cl0) (by simp only [inR, Bool.and_eq_true, decide_eq_true_eq]; omega)) fun u w18 ⟨⟨s22, e1, hf⟩, e2⟩ a h => ?_)
               subst e1
               have hp := hp.got (hp.below e2) (by decide) hf
               refine wmv h rfl fun a h => ?_
               refine wvl h (ext h rfl rfl) fun a h => ?_
               refine wvl h (ext h rfl rfl) fun a h => ?_
               refine wsg h rfl fun a h => ?_
               refine wsg h rfl fun a h => ?_
               refine wn ?_
               refine wp_seq ?_
               refine rg ?_
               refine wmv h rfl fun a h => ?_
               refine wvl h (nei h rfl rfl) fun a h => ?_
               refine wmv h rfl fun a h => ?_
               refine split (t := 175) h rfl (fun hb17 => ?_) (fun hb17 => ?_)
               ·exact absurd hb17 (by first | decide | simp)
               ·refine wl (stp_on h rfl rfl rfl hb17 (vl h (mov h rfl) fun a h => ?_))
                refine wl (stp_on h rfl rfl rfl hb17 (vl h (lenR h rfl Tryz.underlying50 (hp.rdF (i := 2) rfl)) fun a h => ?_))
                refine wl (stp_on h rfl rfl rfl hb17 (vl h (nei h rfl rfl) fun a h => ?_))
                refine wvl h (pckF h rfl hb17 rfl) fun a h => ?_
                refine wn ?_
                refine cnd1 h rfl (fun hb18 => ?_) (fun hb18 => ?_)
                ·exact absurd hb18 (by have hq9 := List.length_eq_zero_iff.2 hm; simp only [Bool.not_eq_true', Bool.not_eq_false', Bool.not_eq_true, Bool.not_eq_false, decide_eq_true_eq, decide_eq_false_iff_not, gt_iff_lt]; omega)
                ·refine skp ?_
                 refine wp_seq ?_
                 refine rg ?_
                 refine wmv h rfl fun a h => ?_
                 refine wmv h rfl fun a h => ?_
                 refine wvl h (eqi h rfl rfl) fun a h => ?_
                 refine wn ?_
                 refine cnd1 h rfl (fun hb19 => ?_) (fun hb19 => ?_)
                 ·refine rg ?_
                  refine wl (cal h rfl en20_W36 (known_L _ (hGl.keep hp)) fun u w19 ⟨e1, e2⟩ a h => ?_)
                  subst e1
                  have hp := hp.below e2
                  refine wsg h rfl fun a h => ?_
                  refine wn ?_
                  refine wp_ret ?_
                  try simp only [xqs, ↓reduceIte, Nat.reduceEqDiff]
                  refine rt_1 h rfl (rvT h rfl) ?_
                  exact ⟨_, rfl, rfl, hp.bel⟩
                 ·have hvd : v ≠ d2 := of_decide_eq_false hb19
                  refine skp ?_
                  refine rg ?_
                  refine wvl h (ldO (us := [_, _, _, _, _, _, _, _, _, _, _]) h hp rfl 0 rfl sz32 rfl ag32) fun a h => ?_
                  refine wmv h rfl fun a h => ?_
                  refine wmv h rfl fun a h => ?_
                  refine wvl h (add h rfl rfl (by omega)) fun a h => ?_
                  refine wmv h rfl fun a h => ?_
                  refine wvl h (add h rfl rfl (by omega)) fun a h => ?_
                  refine wmv h rfl fun a h => ?_
                  refine wl (cal h rfl en39 (Missed_s x e s2 st (v + 1) (v + 1) lt _ (hE0.keep hp cl0) (by simp only [inR, Bool.and_eq_true, decide_eq_true_eq]; omega)) fun u w20 ⟨⟨s23, e1, hf⟩, e2⟩ a h => ?_)
                  subst e1
                  have hp := hp.got (hp.below e2) (by decide) hf
                  refine wmv h rfl fun a h => ?_
                  refine wvl h (ext h rfl rfl) fun a h => ?_
                  refine wvl h (ext h rfl rfl) fun a h => ?_
                  refine wsg h rfl fun a h => ?_
                  refine wsg h rfl fun a h => ?_
                  refine wn ?_
                  refine rg ?_
                  refine wmv h rfl fun a h => ?_
                  refine wvl h (eqi h rfl rfl) fun a h => ?_
                  refine wmv h rfl fun a h => ?_
                  refine split (t := 197) h rfl (fun hb20 => ?_) (fun hb20 => ?_)
                  ·refine wl (stp_on h rfl rfl rfl hb20 (vl h (mov h rfl) fun a h => ?_))
                   refine wl (stp_on h rfl rfl rfl hb20 (vl h (lenR h rfl Tryz.underlying50 (hp.rdF (i := 3) rfl)) fun a h => ?_))
                   refine wl (stp_on h rfl rfl rfl hb20 (vl h (gtr h rfl rfl) fun a h => ?_))
                   refine wvl h (pckT h rfl hb20 rfl) fun a h => ?_
                   refine wmv h rfl fun a h => ?_
                   refine split (t := 202) h rfl (fun hb21 => ?_) (fun hb21 => ?_)
                   ·refine wl (stp_on h rfl rfl rfl hb21 (cal h rfl en20_W36 (known_L _ (hGl.keep hp)) fun u w21 ⟨e1, e2⟩ a h => ?_))
                    subst e1
                    have hp := hp.below e2
                    refine wvl h (pckT h rfl hb21 rfl) fun a h => ?_
                    refine wsg h rfl fun a h => ?_
                    refine wn ?_
                    refine wp_ret ?_
                    try simp only [xqs, ↓reduceIte, Nat.reduceEqDiff]
                    refine rt_1 h rfl (rvT h rfl) ?_
                    exact ⟨_, rfl, rfl, hp.bel⟩
                   ·exact absurd hb21 (by have hq9 := List.length_pos_iff.2 (hm2 hvd); simp only [Bool.not_eq_true', Bool.not_eq_false', Bool.not_eq_true, Bool.not_eq_false, decide_eq_true_eq, decide_eq_false_iff_not, gt_iff_lt]; omega)
                  ·exact absurd hb20 (by first | decide | simp)
       ·exact absurd hb6 (by decide)
      ·have hwf := within_some hw
       have hwv : withinI (within e st d1 d2) = n := by rw [hw]; rfl
       refine wvl h (ldO (us := [_, _, _, _, _, _, _, _, _, _, _]) h hp rfl 0 rfl sz32 rfl ag32) fun a h => ?_
       refine wmv h rfl fun a h => ?_
       refine wmv h rfl fun a h => ?_
       refine wmv h rfl fun a h => ?_
       refine wl (cal h rfl en34 (Within_is (hE0.keep hp cl0) hspn hw) fun u w22 ⟨e1, e2⟩ a h => ?_)
       subst e1
       have hp := hp.below e2
       refine wmv h rfl fun a h => ?_
       refine wvl h (ext h rfl rfl) fun a h => ?_
       refine wvl h (ext h rfl rfl) fun a h => ?_
       refine wsg h rfl fun a h => ?_
       refine wsg h rfl fun a h => ?_
       refine wn ?_
       refine wp_seq ?_
       refine rg ?_
       refine wmv h rfl fun a h => ?_
       refine wvl h (nei h rfl rfl) fun a h => ?_
       refine wn ?_
       refine cnd1 h rfl (fun hb22 => ?_) (fun hb22 => ?_)
       ·exact absurd hb22 (by decide)
       ·refine wp_seq ?_
        refine rg ?_
        refine wmv h rfl fun a h => ?_
        refine wl (cal h rfl en37_W36 (Late_R _ _) fun u w23 ⟨e1, e2⟩ a h => ?_)
        subst e1
        subst e2
        refine wvl h (not_ h rfl) fun a h => ?_
        refine wn ?_
        refine cnd1 h rfl (fun hb23 => ?_) (fun hb23 => ?_)
        ·exact absurd hb23 (by rw [show isLate n = true from by simp only [isLate, inR, Bool.and_eq_true, decide_eq_true_eq]; omega]; decide)
        ·refine skp ?_
         refine rg ?_
         refine wvl h (ldO (us := [_, _, _, _, _, _, _, _, _, _, _]) h hp rfl 0 rfl sz32 rfl ag32) fun a h => ?_
         refine wmv h rfl fun a h => ?_
         refine wmv h rfl fun a h => ?_
         refine wmv h rfl fun a h => ?_
         refine wmv h rfl fun a h => ?_
         refine wl (cal h rfl en39 (Missed_s x e s2 st d1 d2 n _ (hE0.keep hp cl0) (by simp only [inR, Bool.and_eq_true, decide_eq_true_eq]; omega)) fun u w24 ⟨⟨s21, e1, hf⟩, e2⟩ a h => ?_)
         subst e1
         have hp := hp.got (hp.below e2) (by decide) hf
         refine wmv h rfl fun a h => ?_
         refine wvl h (ext h rfl rfl) fun a h => ?_
         refine wvl h (ext h rfl rfl) fun a h => ?_
         refine wsg h rfl fun a h => ?_
         refine wsg h rfl fun a h => ?_
         refine wn ?_
         refine wp_seq ?_
         refine rg ?_
         refine wmv h rfl fun a h => ?_
         refine wvl h (nei h rfl rfl) fun a h => ?_
         refine wmv h rfl fun a h => ?_
         refine split (t := 98) h rfl (fun hb24 => ?_) (fun hb24 => ?_)
         ·exact absurd hb24 (by first | decide | simp)
         ·refine wl (stp_on h rfl rfl rfl hb24 (vl h (mov h rfl) fun a h => ?_))
          refine wl (stp_on h rfl rfl rfl hb24 (vl h (lenR h rfl Tryz.underlying50 (hp.rdF (i := 1) rfl)) fun a h => ?_))
          refine wl (stp_on h rfl rfl rfl hb24 (vl h (nei h rfl rfl) fun a h => ?_))
          refine wvl h (pckF h rfl hb24 rfl) fun a h => ?_
          refine wn ?_
          refine cnd1 h rfl (fun hb25 => ?_) (fun hb25 => ?_)
          ·exact absurd hb25 (by have hq9 := List.length_eq_zero_iff.2 hwf.2.1; simp only [Bool.not_eq_true', Bool.not_eq_false', Bool.not_eq_true, Bool.not_eq_false, decide_eq_true_eq, decide_eq_false_iff_not, gt_iff_lt]; omega)
          ·refine skp ?_
           refine rg ?_
           refine wmv h rfl fun a h => ?_
           refine wvl h (gtr h rfl rfl) fun a h => ?_
           refine wn ?_
           refine cnd1 h rfl (fun hb26 => ?_) (fun hb26 => ?_)
           ·have hnp : 0 < n := of_decide_eq_true hb26
            refine rg ?_
            refine wvl h (ldO (us := [_, _, _, _, _, _, _, _, _, _, _]) h hp rfl 0 rfl sz32 rfl ag32) fun a h => ?_
            refine wmv h rfl fun a h => ?_
            refine wmv h rfl fun a h => ?_
            refine wmv h rfl fun a h => ?_
            refine wmv h rfl fun a h => ?_
            refine wvl h (sub h rfl rfl (by omega)) fun a h => ?_
            refine wl (cal h rfl en39 (Missed_s x e s2 st d1 d2 (n - 1) _ (hE0.keep hp cl0) (by simp only [inR, Bool.and_eq_true, decide_eq_true_eq]; omega)) fun u w25 ⟨⟨s22, e1, hf⟩, e2⟩ a h => ?_)
            subst e1
            have hp := hp.got (hp.below e2) (by decide) hf
            refine wmv h rfl fun a h => ?_
            refine wvl h (ext h rfl rfl) fun a h => ?_
            refine wvl h (ext h rfl rfl) fun a h => ?_
            refine wsg h rfl fun a h => ?_
            refine wsg h rfl fun a h => ?_
            refine wn ?_
            refine rg ?_
            refine wmv h rfl fun a h => ?_
            refine wvl h (nei h rfl rfl) fun a h => ?_
            refine wmv h rfl fun a h => ?_
            refine split (t := 117) h rfl (fun hb27 => ?_) (fun hb27 => ?_)
            ·exact absurd hb27 (by first | decide | simp)
            ·refine wl (stp_on h rfl rfl rfl hb27 (vl h (mov h rfl) fun a h => ?_))
             refine wl (stp_on h rfl rfl rfl hb27 (vl h (lenR h rfl Tryz.underlying50 (hp.rdF (i := 2) rfl)) fun a h => ?_))
             refine wl (stp_on h rfl rfl rfl hb27 (vl h (eqi h rfl rfl) fun a h => ?_))
             refine wvl h (pckF h rfl hb27 rfl) fun a h => ?_
             refine wn ?_
             refine cnd1 h rfl (fun hb28 => ?_) (fun hb28 => ?_)
             ·exact absurd hb28 (by have hq9 := List.length_pos_iff.2 (hwf.2.2 hnp); simp only [Bool.not_eq_true', Bool.not_eq_false', Bool.not_eq_true, Bool.not_eq_false, decide_eq_true_eq, decide_eq_false_iff_not, gt_iff_lt]; omega)
             ·refine skp ?_
              refine rg ?_
              rcases until_two e st (lt := lt) (by omega : d1 ≤ d2) with ⟨v, hu, hv, hm⟩ | ⟨v, hu, hv, hv2, hm, hm2⟩
              ·refine wvl h (ldO (us := [_, _, _, _, _, _, _, _, _, _, _]) h hp rfl 0 rfl sz32 rfl ag32) fun a h => ?_
               refine wmv h rfl fun a h => ?_
               refine wmv h rfl fun a h => ?_
               refine wmv h rfl fun a h => ?_
               refine wmv h rfl fun a h => ?_
               refine wl (cal h rfl en35 (Until_lo (hE0.keep hp cl0) hspl hu hv) fun u w26 ⟨e1, e2⟩ a h => ?_)
               subst e1
               have hp := hp.below e2
               refine wmv h rfl fun a h => ?_
               refine wvl h (ext h rfl rfl) fun a h => ?_
               refine wvl h (ext h rfl rfl) fun a h => ?_
               refine wsg h rfl fun a h => ?_
               refine wsg h rfl fun a h => ?_
               refine wn ?_
               refine wp_seq ?_
               refine rg ?_
               refine wmv h rfl fun a h => ?_
               refine wvl h (nei h rfl rfl) fun a h => ?_
               refine wn ?_
               refine cnd1 h rfl (fun hb29 => ?_) (fun hb29 => ?_)
               ·refine rg ?_
                refine wvl h (ldO (us := [_, _, _, _, _, _, _, _, _, _, _]) h hp rfl 0 rfl sz32 rfl ag32) fun a h => ?_
                refine wmv h rfl fun a h => ?_
                refine wmv h rfl fun a h => ?_
                refine wmv h rfl fun a h => ?_
                refine wmv h rfl fun a h => ?_
                refine wl (cal h rfl en39 (Missed_s x e s2 st d1 d1 lt _ (hE0.keep hp cl0) (by simp only [inR, Bool.and_eq_true, decide_eq_true_eq]; omega)) fun u w27 ⟨⟨s23, e1, hf⟩, e2⟩ a h => ?_)
                subst e1
                have hp := hp.got (hp.below e2) (by decide) hf
                refine wmv h rfl fun a h => ?_
                refine wvl h (ext h rfl rfl) fun a h => ?_
                refine wvl h (ext h rfl rfl) fun a h => ?_
                refine wsg h rfl fun a h => ?_
                refine wsg h rfl fun a h => ?_
                refine wn ?_
                refine rg ?_
                refine wmv h rfl fun a h => ?_
                refine wvl h (eqi h rfl rfl) fun a h => ?_
                refine wmv h rfl fun a h => ?_
                refine split (t := 144) h rfl (fun hb30 => ?_) (fun hb30 => ?_)
                ·refine wl (stp_on h rfl rfl rfl hb30 (vl h (mov h rfl) fun a h => ?_))
                 refine wl (stp_on h rfl rfl rfl hb30 (vl h (eqi h rfl rfl) fun a h => ?_))
                 refine wvl h (pckT h rfl hb30 rfl) fun a h => ?_
                 refine wmv h rfl fun a h => ?_
                 refine split (t := 148) h rfl (fun hb31 => ?_) (fun hb31 => ?_)
                 ·refine wl (stp_on h rfl rfl rfl hb31 (vl h (mov h rfl) fun a h => ?_))
                  refine wl (stp_on h rfl rfl rfl hb31 (vl h (lenR h rfl Tryz.underlying50 (hp.rdF (i := 3) rfl)) fun a h => ?_))
                  refine wl (stp_on h rfl rfl rfl hb31 (vl h (gtr h rfl rfl) fun a h => ?_))
                  refine wvl h (pckT h rfl hb31 rfl) fun a h => ?_
                  refine wmv h rfl fun a h => ?_
                  refine split (t := 153) h rfl (fun hb32 => ?_) (fun hb32 => ?_)
                  ·refine wl (stp_on h rfl rfl rfl hb32 (cal h rfl en20_W36 (known_L _ (hGl.keep hp)) fun u w28 ⟨e1, e2⟩ a h => ?_))
                   subst e1
                   have hp := hp.below e2
                   refine wvl h (pckT h rfl hb32 rfl) fun a h => ?_
                   refine wsg h rfl fun a h => ?_
                   refine wn ?_
                   refine wp_ret ?_
                   try simp only [xqs, ↓reduceIte, Nat.reduceEqDiff]
                   refine rt_1 h rfl (rvT h rfl) ?_
                   exact ⟨_, rfl, rfl, hp.bel⟩
                  ·exact absurd hb32 (by have hq9 := List.length_pos_iff.2 hm; simp only [Bool.not_eq_true', Bool.not_eq_false', Bool.not_eq_true, Bool.not_eq_false, decide_eq_true_eq, decide_eq_false_iff_not, gt_iff_lt]; omega)
                 ·exact absurd hb31 (by first | decide | simp)
                ·exact absurd hb30 (by first | decide | simp)
               ·exact absurd hb29 (by decide)
              ·refine wvl h (ldO (us := [_, _, _, _, _, _, _, _, _, _, _]) h hp rfl 0 rfl sz32 rfl ag32) fun a h => ?_
               refine wmv h rfl fun a h => ?_
               refine wmv h rfl fun a h => ?_
               refine wmv h rfl fun a h => ?_
               refine wmv h rfl fun a h => ?_
               refine wl (cal h rfl en35 (Until_hi (hE0.keep hp cl0) hspl hu hv) fun u w29 ⟨e1, e2⟩ a h => ?_)
               subst e1
               have hp := hp.below e2
               refine wmv h rfl fun a h => ?_
               refine wvl h (ext h rfl rfl) fun a h => ?_
               refine wvl h (ext h rfl rfl) fun a h => ?_
               refine wsg h rfl fun a h => ?_
               refine wsg h rfl fun a h => ?_
               refine wn ?_
               refine wp_seq ?_
               refine rg ?_
               refine wmv h rfl fun a h => ?_
               refine wvl h (nei h rfl rfl) fun a h => ?_
               refine wn ?_
               refine cnd1 h rfl (fun hb33 => ?_) (fun hb33 => ?_)
               ·exact absurd hb33 (by decide)
               ·refine skp ?_
                refine wp_seq ?_
                refine rg ?_
                refine wmv h rfl fun a h => ?_
                refine wmv h rfl fun a h => ?_
                refine wvl h (lss h rfl rfl) fun a h => ?_
                refine wmv h rfl fun a h => ?_
                refine split (t := 159) h rfl (fun hb34 => ?_) (fun hb34 => ?_)
                ·exact absurd hb34 (by first | decide | (simp only [Bool.not_eq_true', Bool.not_eq_false', Bool.not_eq_true, Bool.not_eq_false, decide_eq_true_eq, decide_eq_false_iff_not, gt_iff_lt, ge_iff_le]; omega) | (simp; done))
                ·refine wl (stp_on h rfl rfl rfl hb34 (vl h (mov h rfl) fun a h => ?_))
                 refine wl (stp_on h rfl rfl rfl hb34 (vl h (mov h rfl) fun a h => ?_))
                 refine wl (stp_on h rfl rfl rfl hb34 (vl h (gtr h rfl rfl) fun a h => ?_))
                 refine wvl h (pckF h rfl hb34 rfl) fun a h => ?_
                 refine wn ?_
                 refine cnd1 h rfl (fun hb35 => ?_) (fun hb35 => ?_)
                 ·exact absurd hb35 (by first | decide | (simp only [Bool.not_eq_true', Bool.not_eq_false', Bool.not_eq_true, Bool.not_eq_false, decide_eq_true_eq, decide_eq_false_iff_not, gt_iff_lt, ge_iff_le]; omega) | (simp; done))
                 ·refine skp ?_
                  refine rg ?_
                  refine wvl h (ldO (us := [_, _, _, _, _, _, _, _, _, _, _]) h hp rfl 0 rfl sz32 rfl ag32) fun a h => ?_
                  refine wmv h rfl fun a h => ?_
                  refine wmv h rfl fun a h => ?_
                  refine wmv h rfl fun a h => ?_
                  refine wmv h rfl fun a h => ?_
                  refine wl (cal h rfl en39 (Missed_s x e s2 st d1 v lt _ (hE0.keep hp cl0) (by simp only [inR, Bool.and_eq_true, decide_eq_true_eq]; omega)) fun u w30 ⟨⟨s23, e1, hf⟩, e2⟩ a h => ?_)
                  subst e1
                  have hp := hp.got (hp.below e2) (by decide) hf
                  refine wmv h rfl fun a h => ?_
                  refine wvl h (ext h rfl rfl) fun a h => ?_
                  refine wvl h (ext h rfl rfl) fun a h => ?_
                  refine wsg h rfl fun a h => ?_
                  refine wsg h rfl fun a h => ?_
                  refine wn ?_
                  refine wp_seq ?_
                  refine rg ?_
                  refine wmv h rfl fun a h => ?_
                  refine wvl h (nei h rfl rfl) fun a h => ?_
                  refine wmv h rfl fun a h => ?_
                  refine split (t := 175) h rfl (fun hb36 => ?_) (fun hb36 => ?_)
                  ·exact absurd hb36 (by first | decide | simp)
                  ·refine wl (stp_on h rfl rfl rfl hb36 (vl h (mov h rfl) fun a h => ?_))
                   refine wl (stp_on h rfl rfl rfl hb36 (vl h (lenR h rfl Tryz.underlying50 (hp.rdF (i := 3) rfl)) fun a h => ?_))
                   refine wl (stp_on h rfl rfl rfl hb36 (vl h (nei h rfl rfl) fun a h => ?_))
                   refine wvl h (pckF h rfl hb36 rfl) fun a h => ?_
                   refine wn ?_
                   refine cnd1 h rfl (fun hb37 => ?_) (fun hb37 => ?_)
                   ·exact absurd hb37 (by have hq9 := List.length_eq_zero_iff.2 hm; simp only [Bool.not_eq_true', Bool.not_eq_false', Bool.not_eq_true, Bool.not_eq_false, decide_eq_true_eq, decide_eq_false_iff_not, gt_iff_lt]; omega)
                   ·refine skp ?_
                    refine wp_seq ?_
                    refine rg ?_
                    refine wmv h rfl fun a h => ?_
                    refine wmv h rfl fun a h => ?_
                    refine wvl h (eqi h rfl rfl) fun a h => ?_
                    refine wn ?_
                    refine cnd1 h rfl (fun hb38 => ?_) (fun hb38 => ?_)
                    ·refine rg ?_
                     refine wl (cal h rfl en20_W36 (known_L _ (hGl.keep hp)) fun u w31 ⟨e1, e2⟩ a h => ?_)
                     subst e1
                     have hp := hp.below e2
                     refine wsg h rfl fun a h => ?_
                     refine wn ?_
                     refine wp_ret ?_
                     try simp only [xqs, ↓reduceIte, Nat.reduceEqDiff]
                     refine rt_1 h rfl (rvT h rfl) ?_
                     exact ⟨_, rfl, rfl, hp.bel⟩
                    ·have hvd : v ≠ d2 := of_decide_eq_false hb38
                     refine skp ?_
                     refine rg ?_
                     refine wvl h (ldO (us := [_, _, _, _, _, _, _, _, _, _, _]) h hp rfl 0 rfl sz32 rfl ag32) fun a h => ?_
                     refine wmv h rfl fun a h => ?_
                     refine wmv h rfl fun a h => ?_
                     refine wvl h (add h rfl rfl (by omega)) fun a h => ?_
                     refine wmv h rfl fun a h => ?_
                     refine wvl h (add h rfl rfl (by omega)) fun a h => ?_
                     refine wmv h rfl fun a h => ?_
                     refine wl (cal h rfl en39 (Missed_s x e s2 st (v + 1) (v + 1) lt _ (hE0.keep hp cl0) (by simp only [inR, Bool.and_eq_true, decide_eq_true_eq]; omega)) fun u w32 ⟨⟨s24, e1, hf⟩, e2⟩ a h => ?_)
                     subst e1
                     have hp := hp.got (hp.below e2) (by decide) hf
                     refine wmv h rfl fun a h => ?_
                     refine wvl h (ext h rfl rfl) fun a h => ?_
                     refine wvl h (ext h rfl rfl) fun a h => ?_
                     refine wsg h rfl fun a h => ?_
                     refine wsg h rfl fun a h => ?_
                     refine wn ?_
                     refine rg ?_
                     refine wmv h rfl fun a h => ?_
                     refine wvl h (eqi h rfl rfl) fun a h => ?_
                     refine wmv h rfl fun a h => ?_
                     refine split (t := 197) h rfl (fun hb39 => ?_) (fun hb39 => ?_)
                     ·refine wl (stp_on h rfl rfl rfl hb39 (vl h (mov h rfl) fun a h => ?_))
                      refine wl (stp_on h rfl rfl rfl hb39 (vl h (lenR h rfl Tryz.underlying50 (hp.rdF (i := 4) rfl)) fun a h => ?_))
                      refine wl (stp_on h rfl rfl rfl hb39 (vl h (gtr h rfl rfl) fun a h => ?_))
                      refine wvl h (pckT h rfl hb39 rfl) fun a h => ?_
                      refine wmv h rfl fun a h => ?_
                      refine split (t := 202) h rfl (fun hb40 => ?_) (fun hb40 => ?_)
                      ·refine wl (stp_on h rfl rfl rfl hb40 (cal h rfl en20_W36 (known_L _ (hGl.keep hp)) fun u w33 ⟨e1, e2⟩ a h => ?_))
                       subst e1
                       have hp := hp.below e2
                       refine wvl h (pckT h rfl hb40 rfl) fun a h => ?_
                       refine wsg h rfl fun a h => ?_
                       refine wn ?_
                       refine wp_ret ?_
                       try simp only [xqs, ↓reduceIte, Nat.reduceEqDiff]
                       refine rt_1 h rfl (rvT h rfl) ?_
                       exact ⟨_, rfl, rfl, hp.bel⟩
                      ·exact absurd hb40 (by have hq9 := List.length_pos_iff.2 (hm2 hvd); simp only [Bool.not_eq_true', Bool.not_eq_false', Bool.not_eq_true, Bool.not_eq_false, decide_eq_true_eq, decide_eq_false_iff_not, gt_iff_lt]; omega)
                     ·exact absurd hb39 (by first | decide | simp)
           ·refine skp ?_
            refine rg ?_
            rcases until_two e st (lt := lt) (by omega : d1 ≤ d2) with ⟨v, hu, hv, hm⟩ | ⟨v, hu, hv, hv2, hm, hm2⟩
            ·refine wvl h (ldO (us := [_, _, _, _, _, _, _, _, _, _, _]) h hp rfl 0 rfl sz32 rfl ag32) fun a h => ?_
             refine wmv h rfl fun a h => ?_
             refine wmv h rfl fun a h => ?_
             refine wmv h rfl fun a h => ?_
             refine wmv h rfl fun a h => ?_
             refine wl (cal h rfl en35 (Until_lo (hE0.keep hp cl0) hspl hu hv) fun u w34 ⟨e1, e2⟩ a h => ?_)
             subst e1
             have hp := hp.below e2
             refine wmv h rfl fun a h => ?_
             refine wvl h (ext h rfl rfl) fun a h => ?_
             refine wvl h (ext h rfl rfl) fun a h => ?_
             refine wsg h rfl fun a h => ?_
             refine wsg h rfl fun a h => ?_
             refine wn ?_
             refine wp_seq ?_
             refine rg ?_
             refine wmv h rfl fun a h => ?_
             refine wvl h (nei h rfl rfl) fun a h => ?_
             refine wn ?_
             refine cnd1 h rfl (fun hb41 => ?_) (fun hb41 => ?_)
             ·refine rg ?_
              refine wvl h (ldO (us := [_, _, _, _, _, _, _, _, _, _, _]) h hp rfl 0 rfl sz32 rfl ag32) fun a h => ?_
              refine wmv h rfl fun a h => ?_
              refine wmv h rfl fun a h => ?_
              refine wmv h rfl fun a h => ?_
              refine wmv h rfl fun a h => ?_
              refine wl (cal h rfl en39 (Missed_s x e s2 st d1 d1 lt _ (hE0.keep hp cl0) (by simp only [inR, Bool.and_eq_true, decide_eq_true_eq]; omega)) fun u w35 ⟨⟨s22, e1, hf⟩, e2⟩ a h => ?_)
              subst e1
              have hp := hp.got (hp.below e2) (by decide) hf
              refine wmv h rfl fun a h => ?_
              refine wvl h (ext h rfl rfl) fun a h => ?_
              refine wvl h (ext h rfl rfl) fun a h => ?_
              refine wsg h rfl fun a h => ?_
              refine wsg h rfl fun a h => ?_
              refine wn ?_
              refine rg ?_
              refine wmv h rfl fun a h => ?_
              refine wvl h (eqi h rfl rfl) fun a h => ?_
              refine wmv h rfl fun a h => ?_
              refine split (t := 144) h rfl (fun hb42 => ?_) (fun hb42 => ?_)
              ·refine wl (stp_on h rfl rfl rfl hb42 (vl h (mov h rfl) fun a h => ?_))
               refine wl (stp_on h rfl rfl rfl hb42 (vl h (eqi h rfl rfl) fun a h => ?_))
               refine wvl h (pckT h rfl hb42 rfl) fun a h => ?_
               refine wmv h rfl fun a h => ?_
               refine split (t := 148) h rfl (fun hb43 => ?_) (fun hb43 => ?_)
               ·refine wl (stp_on h rfl rfl rfl hb43 (vl h (mov h rfl) fun a h => ?_))
                refine wl (stp_on h rfl rfl rfl hb43 (vl h (lenR h rfl Tryz.underlying50 (hp.rdF (i := 2) rfl)) fun a h => ?_))
                refine wl (stp_on h rfl rfl rfl hb43 (vl h (gtr h rfl rfl) fun a h => ?_))
                refine wvl h (pckT h rfl hb43 rfl) fun a h => ?_
                refine wmv h rfl fun a h => ?_
                refine split (t := 153) h rfl (fun hb44 => ?_) (fun hb44 => ?_)
                ·refine wl (stp_on h rfl rfl rfl hb44 (cal h rfl en20_W36 (known_L _ (hGl.keep hp)) fun u w36 ⟨e1, e2⟩ a h => ?_))
                 subst e1
                 have hp := hp.below e2
                 refine wvl h (pckT h rfl hb44 rfl) fun a h => ?_
                 refine wsg h rfl fun a h => ?_
                 refine wn ?_
                 refine wp_ret ?_
                 try simp only [xqs, ↓reduceIte, Nat.reduceEqDiff]
                 refine rt_1 h rfl (rvT h rfl) ?_
                 exact ⟨_, rfl, rfl, hp.bel⟩
                ·exact absurd hb44 (by have hq9 := List.length_pos_iff.2 hm; simp only [Bool.not_eq_true', Bool.not_eq_false', Bool.not_eq_true, Bool.not_eq_false, decide_eq_true_eq, decide_eq_false_iff_not, gt_iff_lt]; omega)
               ·exact absurd hb43 (by first | decide | simp)
              ·exact absurd hb42 (by first | decide | simp)
             ·exact absurd hb41 (by decide)
            ·refine wvl h (ldO (us := [_, _, _, _, _, _, _, _, _, _, _]) h hp rfl 0 rfl sz32 rfl ag32) fun a h => ?_
             refine wmv h rfl fun a h => ?_
             refine wmv h rfl fun a h => ?_
             refine wmv h rfl fun a h => ?_
             refine wmv h rfl fun a h => ?_
             refine wl (cal h rfl en35 (Until_hi (hE0.keep hp cl0) hspl hu hv) fun u w37 ⟨e1, e2⟩ a h => ?_)
             subst e1
             have hp := hp.below e2
             refine wmv h rfl fun a h => ?_
             refine wvl h (ext h rfl rfl) fun a h => ?_
             refine wvl h (ext h rfl rfl) fun a h => ?_
             refine wsg h rfl fun a h => ?_
             refine wsg h rfl fun a h => ?_
             refine wn ?_
             refine wp_seq ?_
             refine rg ?_
             refine wmv h rfl fun a h => ?_
             refine wvl h (nei h rfl rfl) fun a h => ?_
             refine wn ?_
             refine cnd1 h rfl (fun hb45 => ?_) (fun hb45 => ?_)
             ·exact absurd hb45 (by decide)
             ·refine skp ?_
              refine wp_seq ?_
              refine rg ?_
              refine wmv h rfl fun a h => ?_
              refine wmv h rfl fun a h => ?_
              refine wvl h (lss h rfl rfl) fun a h => ?_
              refine wmv h rfl fun a h => ?_
              refine split (t := 159) h rfl (fun hb46 => ?_) (fun hb46 => ?_)
              ·exact absurd hb46 (by first | decide | (simp only [Bool.not_eq_true', Bool.not_eq_false', Bool.not_eq_true, Bool.not_eq_false, decide_eq_true_eq, decide_eq_false_iff_not, gt_iff_lt, ge_iff_le]; omega) | (simp; done))
              ·refine wl (stp_on h rfl rfl rfl hb46 (vl h (mov h rfl) fun a h => ?_))
               refine wl (stp_on h rfl rfl rfl hb46 (vl h (mov h rfl) fun a h => ?_))
               refine wl (stp_on h rfl rfl rfl hb46 (vl h (gtr h rfl rfl) fun a h => ?_))
               refine wvl h (pckF h rfl hb46 rfl) fun a h => ?_
               refine wn ?_
               refine cnd1 h rfl (fun hb47 => ?_) (fun hb47 => ?_)
               ·exact absurd hb47 (by first | decide | (simp only [Bool.not_eq_true', Bool.not_eq_false', Bool.not_eq_true, Bool.not_eq_false, decide_eq_true_eq, decide_eq_false_iff_not, gt_iff_lt, ge_iff_le]; omega) | (simp; done))
               ·refine skp ?_
                refine rg ?_
                refine wvl h (ldO (us := [_, _, _, _, _, _, _, _, _, _, _]) h hp rfl 0 rfl sz32 rfl ag32) fun a h => ?_
                refine wmv h rfl fun a h => ?_
                refine wmv h rfl fun a h => ?_
                refine wmv h rfl fun a h => ?_
                refine wmv h rfl fun a h => ?_
                refine wl (cal h rfl en39 (Missed_s x e s2 st d1 v lt _ (hE0.keep hp cl0) (by simp only [inR, Bool.and_eq_true, decide_eq_true_eq]; omega)) fun u w38 ⟨⟨s22, e1, hf⟩, e2⟩ a h => ?_)
                subst e1
                have hp := hp.got (hp.below e2) (by decide) hf
                refine wmv h rfl fun a h => ?_
                refine wvl h (ext h rfl rfl) fun a h => ?_
                refine wvl h (ext h rfl rfl) fun a h => ?_
                refine wsg h rfl fun a h => ?_
                refine wsg h rfl fun a h => ?_
                refine wn ?_
                refine wp_seq ?_
                refine rg ?_
                refine wmv h rfl fun a h => ?_
                refine wvl h (nei h rfl rfl) fun a h => ?_
                refine wmv h rfl fun a h => ?_
                refine split (t := 175) h rfl (fun hb48 => ?_) (fun hb48 => ?_)
                ·exact absurd hb48 (by first | decide | simp)
                ·refine wl (stp_on h rfl rfl rfl hb48 (vl h (mov h rfl) fun a h => ?_))
                 refine wl (stp_on h rfl rfl rfl hb48 (vl h (lenR h rfl Tryz.underlying50 (hp.rdF (i := 2) rfl)) fun a h => ?_))
                 refine wl (stp_on h rfl rfl rfl hb48 (vl h (nei h rfl rfl) fun a h => ?_))
                 refine wvl h (pckF h rfl hb48 rfl) fun a h => ?_
                 refine wn ?_
                 refine cnd1 h rfl (fun hb49 => ?_) (fun hb49 => ?_)
                 ·exact absurd hb49 (by have hq9 := List.length_eq_zero_iff.2 hm; simp only [Bool.not_eq_true', Bool.not_eq_false', Bool.not_eq_true, Bool.not_eq_false, decide_eq_true_eq, decide_eq_false_iff_not, gt_iff_lt]; omega)
                 ·refine skp ?_
                  refine wp_seq ?_
                  refine rg ?_
                  refine wmv h rfl fun a h => ?_
                  refine wmv h rfl fun a h => ?_
                  refine wvl h (eqi h rfl rfl) fun a h => ?_
                  refine wn ?_
                  refine cnd1 h rfl (fun hb50 => ?_) (fun hb50 => ?_)
                  ·refine rg ?_
                   refine wl (cal h rfl en20_W36 (known_L _ (hGl.keep hp)) fun u w39 ⟨e1, e2⟩ a h => ?_)
                   subst e1
                   have hp := hp.below e2
                   refine wsg h rfl fun a h => ?_
                   refine wn ?_
                   refine wp_ret ?_
                   try simp only [xqs, ↓reduceIte, Nat.reduceEqDiff]
                   refine rt_1 h rfl (rvT h rfl) ?_
                   exact ⟨_, rfl, rfl, hp.bel⟩
                  ·have hvd : v ≠ d2 := of_decide_eq_false hb50
                   refine skp ?_
                   refine rg ?_
                   refine wvl h (ldO (us := [_, _, _, _, _, _, _, _, _, _, _]) h hp rfl 0 rfl sz32 rfl ag32) fun a h => ?_
                   refine wmv h rfl fun a h => ?_
                   refine wmv h rfl fun a h => ?_
                   refine wvl h (add h rfl rfl (by omega)) fun a h => ?_
                   refine wmv h rfl fun a h => ?_
                   refine wvl h (add h rfl rfl (by omega)) fun a h => ?_
                   refine wmv h rfl fun a h => ?_
                   refine wl (cal h rfl en39 (Missed_s x e s2 st (v + 1) (v + 1) lt _ (hE0.keep hp cl0) (by simp only [inR, Bool.and_eq_true, decide_eq_true_eq]; omega)) fun u w40 ⟨⟨s23, e1, hf⟩, e2⟩ a h => ?_)
                   subst e1
                   have hp := hp.got (hp.below e2) (by decide) hf
                   refine wmv h rfl fun a h => ?_
                   refine wvl h (ext h rfl rfl) fun a h => ?_
                   refine wvl h (ext h rfl rfl) fun a h => ?_
                   refine wsg h rfl fun a h => ?_
                   refine wsg h rfl fun a h => ?_
                   refine wn ?_
                   refine rg ?_
                   refine wmv h rfl fun a h => ?_
                   refine wvl h (eqi h rfl rfl) fun a h => ?_
                   refine wmv h rfl fun a h => ?_
                   refine split (t := 197) h rfl (fun hb51 => ?_) (fun hb51 => ?_)
                   ·refine wl (stp_on h rfl rfl rfl hb51 (vl h (mov h rfl) fun a h => ?_))
                    refine wl (stp_on h rfl rfl rfl hb51 (vl h (lenR h rfl Tryz.underlying50 (hp.rdF (i := 3) rfl)) fun a h => ?_))
                    refine wl (stp_on h rfl rfl rfl hb51 (vl h (gtr h rfl rfl) fun a h => ?_))
                    refine wvl h (pckT h rfl hb51 rfl) fun a h => ?_
                    refine wmv h rfl fun a h => ?_
                    refine split (t := 202) h rfl (fun hb52 => ?_) (fun hb52 => ?_)
                    ·refine wl (stp_on h rfl rfl rfl hb52 (cal h rfl en20_W36 (known_L _ (hGl.keep hp)) fun u w41 ⟨e1, e2⟩ a h => ?_))
                     subst e1
                     have hp := hp.below e2
                     refine wvl h (pckT h rfl hb52 rfl) fun a h => ?_
                     refine wsg h rfl fun a h => ?_
                     refine wn ?_
                     refine wp_ret ?_
                     try simp only [xqs, ↓reduceIte, Nat.reduceEqDiff]
                     refine rt_1 h rfl (rvT h rfl) ?_
                     exact ⟨_, rfl, rfl, hp.bel⟩
                    ·exact absurd hb52 (by have hq9 := List.length_pos_iff.2 (hm2 hvd); simp only [Bool.not_eq_true', Bool.not_eq_false', Bool.not_eq_true, Bool.not_eq_false, decide_eq_true_eq, decide_eq_false_iff_not, gt_iff_lt]; omega)
                   ·exact absurd hb51 (by first | decide | simp)
end Go.Proofs.Ec
