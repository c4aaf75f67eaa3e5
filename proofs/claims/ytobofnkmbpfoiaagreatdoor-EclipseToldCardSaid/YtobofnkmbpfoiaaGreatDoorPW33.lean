import Derived.Test.YtobofnkmbpfoiaaGreatDoorProg
import Derived.Test.YtobofnkmbpfoiaaGreatDoorPFa
import Derived.Test.YtobofnkmbpfoiaaGreatDoorPQb
import Derived.Test.YtobofnkmbpfoiaaGreatDoorPW31
import Derived.Test.YtobofnkmbpfoiaaGreatDoorPQa
set_option linter.unusedVariables false
set_option linter.unusedSimpArgs false
set_option maxRecDepth 4000
namespace Go.Proofs.Ec
open Go.RowKit Go.Proofs.Sx
open Ecl
theorem en15_W33 : EnT Tryz.prog 15 := ento Tryz.func15
theorem en20_W33 : EnT Tryz.prog 20 := ento Tryz.func20
theorem en16_W33 : EnT Tryz.prog 16 := ento Tryz.func16
theorem en17_W33 : EnT Tryz.prog 17 := ento Tryz.func17
theorem en26_W33 : EnT Tryz.prog 26 := ento Tryz.func26
theorem en30_W33 : EnT Tryz.prog 30 := ento Tryz.func30
theorem en31_W33 : EnT Tryz.prog 31 := ento Tryz.func31
theorem en32_W33 : EnT Tryz.prog 32 := ento Tryz.func32
theorem en33_W33 : EnT Tryz.prog 33 := ento Tryz.func33
theorem hands_place (e : Eng) (st : List Int) (t : Int) : (isPlace (hands e st t).sun && isPlace (hands e st t).moon && isPlace (hands e st t).node) = true := by
 have := hands_bd e st t
 simp only [isPlace, inR, Bool.and_eq_true, decide_eq_true_eq]
 omega
theorem told_any {e : Eng} {st : List Int} {d1 d2 t : Int} (full : Bool) (h : d1 ≤ t ∧ t ≤ d2) : (tellAll e st d1 d2).any (fun y => decide (y = (⟨t, full, handFar (hands e st t)⟩ : Ecl.Mark))) = (crossed (hands e st (t - 1)) (hands e st t) full && decide (handFar (hands e st t) ≤ skyLimit e full + e.wide)) := by
 rw [Bool.eq_iff_iff, List.any_eq_true, Bool.and_eq_true, decide_eq_true_eq]
 constructor
 ·rintro ⟨y, hy, h1⟩
  obtain rfl := of_decide_eq_true h1
  have h2 := (mem_tellOn.1 (mem_tellAll.1 hy).2).1
  exact h2
 ·rintro ⟨h1, h2⟩
  refine ⟨(⟨t, full, handFar (hands e st t)⟩ : Ecl.Mark), ?_, decide_eq_true rfl⟩
  rw [mem_tellAll, mem_tellOn]
  exact ⟨h, ⟨h1, h2⟩, rfl⟩
set_option maxHeartbeats 4000000 in
theorem EclipseTold_L (x : EV) (e : Eng) (s2 : SV) (st : List Int) (d1 d2 t : Int) (full : Bool) (w : World) (hG : RdG w x e) (hS2 : Rd w encI 1 s2.v st) (hGl : Glb w) : Ret Tryz.prog 5 #[.agg #[x.b.v, .int .i64 e.nnum, .int .i64 e.nden, .int .i64 e.nstart, x.s.v, x.m.v, x.n.v, x.f.v, .int .i64 e.new, .int .i64 e.full, .int .i64 e.wide], s2.v, .int .i64 d1, .int .i64 d2, .int .i64 t, .bool full] w fun u w' => u = .bool true ∧ Below w.heap.size w w' := by
 have hp : Hp c0 w w [] := Hp.start trivial
 refine enter Tryz.func5 rfl (N := 129) rfl rfl fun a h => ?_
 refine rg ?_
 refine wl (box (cs := #[_, _, _, _, _, _, _, _, _, _, _]) h hp rfl rfl fun a w1 g1 hg1 h hp => ?_)
 refine wsg h rfl fun a h => ?_
 refine wn ?_
 refine wp_seq ?_
 refine rg ?_
 refine wvl h (ldO (us := [_, _, _, _, _, _, _, _, _, _, _]) h hp rfl 0 rfl sz32 rfl ag32) fun a h => ?_
 refine wmv h rfl fun a h => ?_
 refine wl (cal h rfl en15_W33 (short_L x e s2 st _ (hG.keep hp cl0) (hS2.keep (by decide) hp cl0)) fun u w2 ⟨⟨bsh, e1⟩, e2⟩ a h => ?_)
 subst e1
 have hp := hp.below e2
 refine wvl h (not_ h rfl) fun a h => ?_
 refine wmv h rfl fun a h => ?_
 refine split (t := 25) h rfl (fun hb1 => ?_) (fun hb1 => ?_)
 ·refine wl (stp_off h rfl rfl rfl rfl rfl hb1 fun a h => ?_)
  refine wl (stp_off h rfl rfl rfl rfl rfl hb1 fun a h => ?_)
  refine wl (stp_off h rfl rfl rfl rfl rfl hb1 fun a h => ?_)
  refine wvl h (pckT h rfl hb1 rfl) fun a h => ?_
  refine wmv h rfl fun a h => ?_
  refine wl (stp_off h rfl rfl rfl rfl rfl rfl fun a h => ?_)
  refine wl (stp_off h rfl rfl rfl rfl rfl rfl fun a h => ?_)
  refine wl (stp_off h rfl rfl rfl rfl rfl rfl fun a h => ?_)
  refine wl (stp_off h rfl rfl rfl rfl rfl rfl fun a h => ?_)
  refine wl (stp_off h rfl rfl rfl rfl rfl rfl fun a h => ?_)
  refine wvl h (pckT h rfl rfl rfl) fun a h => ?_
  refine wmv h rfl fun a h => ?_
  refine wl (stp_off h rfl rfl rfl rfl rfl rfl fun a h => ?_)
  refine wl (stp_off h rfl rfl rfl rfl rfl rfl fun a h => ?_)
  refine wl (stp_off h rfl rfl rfl rfl rfl rfl fun a h => ?_)
  refine wl (stp_off h rfl rfl rfl rfl rfl rfl fun a h => ?_)
  refine wvl h (pckT h rfl rfl rfl) fun a h => ?_
  refine wmv h rfl fun a h => ?_
  refine wl (stp_off h rfl rfl rfl rfl rfl rfl fun a h => ?_)
  refine wl (stp_off h rfl rfl rfl rfl rfl rfl fun a h => ?_)
  refine wl (stp_off h rfl rfl rfl rfl rfl rfl fun a h => ?_)
  refine wvl h (pckT h rfl rfl rfl) fun a h => ?_
  refine wmv h rfl fun a h => ?_
  refine wl (stp_off h rfl rfl rfl rfl rfl rfl fun a h => ?_)
  refine wl (stp_off h rfl rfl rfl rfl rfl rfl fun a h => ?_)
  refine wl (stp_off h rfl rfl rfl rfl rfl rfl fun a h => ?_)
  refine wvl h (pckT h rfl rfl rfl) fun a h => ?_
  refine wn ?_
  refine cnd1 h rfl (fun _ => ?_) (fun e => nomatch e)
  refine rg ?_
  refine wl (cal h rfl en20_W33 (known_L _ (hGl.keep hp)) fun u w3 ⟨e1, e2⟩ a h => ?_)
  subst e1
  have hp := hp.below e2
  refine wsg h rfl fun a h => ?_
  refine wn ?_
  refine wp_ret ?_
  try simp only [xqs, ↓reduceIte, Nat.reduceEqDiff]
  refine rt_1 h rfl (rvT h rfl) ?_
  exact ⟨_, rfl, rfl, hp.bel⟩
 ·have hn0 := hb1
  refine wl (stp_on h rfl rfl rfl hb1 (vl h (ldO (us := [_, _, _, _, _, _, _, _, _, _, _]) h hp rfl 0 rfl sz32 rfl ag32) fun a h => ?_))
  refine wl (stp_on h rfl rfl rfl hb1 (cal h rfl en16_W33 (Engine_R x e _ (by first | exact hG.keep hp cl0 | exact (hE0.keep hp cl0).g)) fun u w4 ⟨e1, e2⟩ a h => ?_))
  subst e1
  have hp := hp.below e2
  refine wl (stp_on h rfl rfl rfl hb1 (vl h (not_ h rfl) fun a h => ?_))
  refine wvl h (pckF h rfl hb1 rfl) fun a h => ?_
  refine wmv h rfl fun a h => ?_
  refine split (t := 30) h rfl (fun hb2 => ?_) (fun hb2 => ?_)
  ·refine wl (stp_off h rfl rfl rfl rfl rfl hb2 fun a h => ?_)
   refine wl (stp_off h rfl rfl rfl rfl rfl hb2 fun a h => ?_)
   refine wl (stp_off h rfl rfl rfl rfl rfl hb2 fun a h => ?_)
   refine wl (stp_off h rfl rfl rfl rfl rfl hb2 fun a h => ?_)
   refine wl (stp_off h rfl rfl rfl rfl rfl hb2 fun a h => ?_)
   refine wvl h (pckT h rfl hb2 rfl) fun a h => ?_
   refine wmv h rfl fun a h => ?_
   refine wl (stp_off h rfl rfl rfl rfl rfl rfl fun a h => ?_)
   refine wl (stp_off h rfl rfl rfl rfl rfl rfl fun a h => ?_)
   refine wl (stp_off h rfl rfl rfl rfl rfl rfl fun a h => ?_)
   refine wl (stp_off h rfl rfl rfl rfl rfl rfl fun a h => ?_)
   refine wvl h (pckT h rfl rfl rfl) fun a h => ?_
   refine wmv h rfl fun a h => ?_
   refine wl (stp_off h rfl rfl rfl rfl rfl rfl fun a h => ?_)
   refine wl (stp_off h rfl rfl rfl rfl rfl rfl fun a h => ?_)
   refine wl (stp_off h rfl rfl rfl rfl rfl rfl fun a h => ?_)
   refine wvl h (pckT h rfl rfl rfl) fun a h => ?_
   refine wmv h rfl fun a h => ?_
   refine wl (stp_off h rfl rfl rfl rfl rfl rfl fun a h => ?_)
   refine wl (stp_off h rfl rfl rfl rfl rfl rfl fun a h => ?_)
   refine wl (stp_off h rfl rfl rfl rfl rfl rfl fun a h => ?_)
   refine wvl h (pckT h rfl rfl rfl) fun a h => ?_
   refine wn ?_
   refine cnd1 h rfl (fun _ => ?_) (fun e => nomatch e)
   refine rg ?_
   refine wl (cal h rfl en20_W33 (known_L _ (hGl.keep hp)) fun u w5 ⟨e1, e2⟩ a h => ?_)
   subst e1
   have hp := hp.below e2
   refine wsg h rfl fun a h => ?_
   refine wn ?_
   refine wp_ret ?_
   try simp only [xqs, ↓reduceIte, Nat.reduceEqDiff]
   refine rt_1 h rfl (rvT h rfl) ?_
   exact ⟨_, rfl, rfl, hp.bel⟩
  ·have hn1 := hb2
   refine wl (stp_on h rfl rfl rfl hb2 (vl h (fad h rfl fo32_4) fun a h => ?_))
   refine wl (stp_on h rfl rfl rfl hb2 (vl h (ldo h hp rfl 0 rfl rfl ag30) fun a h => ?_))
   refine wl (stp_on h rfl rfl rfl hb2 (vl h (mov h rfl) fun a h => ?_))
   refine wl (stp_on h rfl rfl rfl hb2 (cal h rfl en17_W33 (Set_T _ _ _ _ _ (hS2.keep (by decide) hp cl0) (hG.keep hp cl0).f) fun u w6 ⟨e1, e2⟩ a h => ?_))
   subst e1
   have hp := hp.below e2
   refine wl (stp_on h rfl rfl rfl hb2 (vl h (not_ h rfl) fun a h => ?_))
   refine wvl h (pckF h rfl hb2 rfl) fun a h => ?_
   refine wmv h rfl fun a h => ?_
   refine split (t := 37) h rfl (fun hb3 => ?_) (fun hb3 => ?_)
   ·refine wl (stp_off h rfl rfl rfl rfl rfl hb3 fun a h => ?_)
    refine wl (stp_off h rfl rfl rfl rfl rfl hb3 fun a h => ?_)
    refine wl (stp_off h rfl rfl rfl rfl rfl hb3 fun a h => ?_)
    refine wl (stp_off h rfl rfl rfl rfl rfl hb3 fun a h => ?_)
    refine wvl h (pckT h rfl hb3 rfl) fun a h => ?_
    refine wmv h rfl fun a h => ?_
    refine wl (stp_off h rfl rfl rfl rfl rfl rfl fun a h => ?_)
    refine wl (stp_off h rfl rfl rfl rfl rfl rfl fun a h => ?_)
    refine wl (stp_off h rfl rfl rfl rfl rfl rfl fun a h => ?_)
    refine wvl h (pckT h rfl rfl rfl) fun a h => ?_
    refine wmv h rfl fun a h => ?_
    refine wl (stp_off h rfl rfl rfl rfl rfl rfl fun a h => ?_)
    refine wl (stp_off h rfl rfl rfl rfl rfl rfl fun a h => ?_)
    refine wl (stp_off h rfl rfl rfl rfl rfl rfl fun a h => ?_)
    refine wvl h (pckT h rfl rfl rfl) fun a h => ?_
    refine wn ?_
    refine cnd1 h rfl (fun _ => ?_) (fun e => nomatch e)
    refine rg ?_
    refine wl (cal h rfl en20_W33 (known_L _ (hGl.keep hp)) fun u w7 ⟨e1, e2⟩ a h => ?_)
    subst e1
    have hp := hp.below e2
    refine wsg h rfl fun a h => ?_
    refine wn ?_
    refine wp_ret ?_
    try simp only [xqs, ↓reduceIte, Nat.reduceEqDiff]
    refine rt_1 h rfl (rvT h rfl) ?_
    exact ⟨_, rfl, rfl, hp.bel⟩
   ·have hn2 := hb3
    refine wl (stp_on h rfl rfl rfl hb3 (vl h (mov h rfl) fun a h => ?_))
    refine wl (stp_on h rfl rfl rfl hb3 (vl h (mov h rfl) fun a h => ?_))
    refine wl (stp_on h rfl rfl rfl hb3 (cal h rfl en26_W33 (Span_R _ _ _) fun u w8 ⟨e1, e2⟩ a h => ?_))
    subst e1
    subst e2
    refine wl (stp_on h rfl rfl rfl hb3 (vl h (not_ h rfl) fun a h => ?_))
    refine wvl h (pckF h rfl hb3 rfl) fun a h => ?_
    refine wmv h rfl fun a h => ?_
    refine split (t := 43) h rfl (fun hb4 => ?_) (fun hb4 => ?_)
    ·refine wl (stp_off h rfl rfl rfl rfl rfl hb4 fun a h => ?_)
     refine wl (stp_off h rfl rfl rfl rfl rfl hb4 fun a h => ?_)
     refine wl (stp_off h rfl rfl rfl rfl rfl hb4 fun a h => ?_)
     refine wvl h (pckT h rfl hb4 rfl) fun a h => ?_
     refine wmv h rfl fun a h => ?_
     refine wl (stp_off h rfl rfl rfl rfl rfl rfl fun a h => ?_)
     refine wl (stp_off h rfl rfl rfl rfl rfl rfl fun a h => ?_)
     refine wl (stp_off h rfl rfl rfl rfl rfl rfl fun a h => ?_)
     refine wvl h (pckT h rfl rfl rfl) fun a h => ?_
     refine wn ?_
     refine cnd1 h rfl (fun _ => ?_) (fun e => nomatch e)
     refine rg ?_
     refine wl (cal h rfl en20_W33 (known_L _ (hGl.keep hp)) fun u w9 ⟨e1, e2⟩ a h => ?_)
     subst e1
     have hp := hp.below e2
     refine wsg h rfl fun a h => ?_
     refine wn ?_
     refine wp_ret ?_
     try simp only [xqs, ↓reduceIte, Nat.reduceEqDiff]
     refine rt_1 h rfl (rvT h rfl) ?_
     exact ⟨_, rfl, rfl, hp.bel⟩
    ·have hn3 := hb4
     refine wl (stp_on h rfl rfl rfl hb4 (vl h (mov h rfl) fun a h => ?_))
     refine wl (stp_on h rfl rfl rfl hb4 (vl h (mov h rfl) fun a h => ?_))
     refine wl (stp_on h rfl rfl rfl hb4 (vl h (lss h rfl rfl) fun a h => ?_))
     refine wvl h (pckF h rfl hb4 rfl) fun a h => ?_
     refine wmv h rfl fun a h => ?_
     refine split (t := 48) h rfl (fun hb5 => ?_) (fun hb5 => ?_)
     ·refine wl (stp_off h rfl rfl rfl rfl rfl hb5 fun a h => ?_)
      refine wl (stp_off h rfl rfl rfl rfl rfl hb5 fun a h => ?_)
      refine wl (stp_off h rfl rfl rfl rfl rfl hb5 fun a h => ?_)
      refine wvl h (pckT h rfl hb5 rfl) fun a h => ?_
      refine wn ?_
      refine cnd1 h rfl (fun _ => ?_) (fun e => nomatch e)
      refine rg ?_
      refine wl (cal h rfl en20_W33 (known_L _ (hGl.keep hp)) fun u w10 ⟨e1, e2⟩ a h => ?_)
      subst e1
      have hp := hp.below e2
      refine wsg h rfl fun a h => ?_
      refine wn ?_
      refine wp_ret ?_
      try simp only [xqs, ↓reduceIte, Nat.reduceEqDiff]
      refine rt_1 h rfl (rvT h rfl) ?_
      exact ⟨_, rfl, rfl, hp.bel⟩
     ·have hn4 := hb5
      refine wl (stp_on h rfl rfl rfl hb5 (vl h (mov h rfl) fun a h => ?_))
      refine wl (stp_on h rfl rfl rfl hb5 (vl h (mov h rfl) fun a h => ?_))
      refine wl (stp_on h rfl rfl rfl hb5 (vl h (gtr h rfl rfl) fun a h => ?_))
      refine wvl h (pckF h rfl hb5 rfl) fun a h => ?_
      refine wn ?_
      refine cnd1 h rfl (fun hb6 => ?_) (fun hb6 => ?_)
      ·refine rg ?_
       refine wl (cal h rfl en20_W33 (known_L _ (hGl.keep hp)) fun u w11 ⟨e1, e2⟩ a h => ?_)
       subst e1
       have hp := hp.below e2
       refine wsg h rfl fun a h => ?_
       refine wn ?_
       refine wp_ret ?_
       try simp only [xqs, ↓reduceIte, Nat.reduceEqDiff]
       refine rt_1 h rfl (rvT h rfl) ?_
       exact ⟨_, rfl, rfl, hp.bel⟩
      ·have hn5 := hb6
       have hen : isEngine e = true := by simpa using hn1
       have hse : isSet e st = true := by simpa [isSet] using hn2
       have hE0 : RdE w x e s2 st := ⟨hG, hS2, hen, hse⟩
       have ok := eng_ok hen
       have hlN := ok.new
       have hlF := ok.full
       have hlW := ok.wide
       have hspn : isSpan d1 d2 = true := by simpa using hn3
       have hd := hspn
       simp only [isSpan, inR, Bool.and_eq_true, decide_eq_true_eq] at hd
       have hda : d1 ≤ t := by have := of_decide_eq_false hn4; omega
       have hdb : t ≤ d2 := by have := of_decide_eq_false hn5; omega
       have hia : (inR (t - 1) 0 9000) = true := by simp only [inR, Bool.and_eq_true, decide_eq_true_eq]; omega
       have hib : (inR t 0 9000) = true := by simp only [inR, Bool.and_eq_true, decide_eq_true_eq]; omega
       have hbd := hands_bd e st t
       have hba := hands_bd e st (t - 1)
       have hta := told_any (e := e) (st := st) full ⟨hda, hdb⟩
       refine skp ?_
       refine rg ?_
       refine wvl h (ldO (us := [_, _, _, _, _, _, _, _, _, _, _]) h hp rfl 0 rfl sz32 rfl ag32) fun a h => ?_
       refine wmv h rfl fun a h => ?_
       refine wmv h rfl fun a h => ?_
       refine wmv h rfl fun a h => ?_
       refine wl (cal h rfl en25 (Foretells_s x e s2 st d1 d2 _ (hE0.keep hp cl0) hspn) fun u w12 ⟨⟨s21, e1, hf⟩, e2⟩ a h => ?_)
       subst e1
       have hp := hp.got (hp.below e2) (by decide) hf
       refine wmv h rfl fun a h => ?_
       refine wvl h (ext h rfl rfl) fun a h => ?_
       refine wvl h (ext h rfl rfl) fun a h => ?_
       refine wsg h rfl fun a h => ?_
       refine wsg h rfl fun a h => ?_
       refine wn ?_
       refine rg ?_
       refine wvl h (ldO (us := [_, _, _, _, _, _, _, _, _, _, _]) h hp rfl 0 rfl sz32 rfl ag32) fun a h => ?_
       refine wmv h rfl fun a h => ?_
       refine wmv h rfl fun a h => ?_
       refine wvl h (sub h rfl rfl (by omega)) fun a h => ?_
       refine wl (cal h rfl en29 (Hands_s x e s2 st (t - 1) _ (hE0.keep hp cl0) hia) fun u w13 ⟨e1, e2⟩ a h => ?_)
       subst e1
       have hp := hp.below e2
       refine wmv h rfl fun a h => ?_
       refine wvl h (ext h rfl rfl) fun a h => ?_
       refine wvl h (ext h rfl rfl) fun a h => ?_
       refine wl (all h hp zc39 fun a w14 g2 hg2 h hp => ?_)
       refine wl (sta h hp rfl rfl 2 rfl sz39 rfl rfl fun w15 hp => ?_)
       refine wsg h rfl fun a h => ?_
       refine wn ?_
       refine rg ?_
       refine wvl h (ldO (us := [_, _, _, _, _, _, _, _, _, _, _]) h hp rfl 0 rfl sz32 rfl ag32) fun a h => ?_
       refine wmv h rfl fun a h => ?_
       refine wmv h rfl fun a h => ?_
       refine wl (cal h rfl en29 (Hands_s x e s2 st (t) _ (hE0.keep hp cl0) hib) fun u w16 ⟨e1, e2⟩ a h => ?_)
       subst e1
       have hp := hp.below e2
       refine wmv h rfl fun a h => ?_
       refine wvl h (ext h rfl rfl) fun a h => ?_
       refine wvl h (ext h rfl rfl) fun a h => ?_
       refine wl (all h hp zc39 fun a w17 g3 hg3 h hp => ?_)
       refine wl (sta h hp rfl rfl 3 rfl sz39 rfl rfl fun w18 hp => ?_)
       refine wsg h rfl fun a h => ?_
       refine wn ?_
       refine wp_seq ?_
       refine rg ?_
       refine wmv h rfl fun a h => ?_
       refine wvl h (nei h rfl rfl) fun a h => ?_
       refine wmv h rfl fun a h => ?_
       refine split (t := 79) h rfl (fun hb7 => ?_) (fun hb7 => ?_)
       ·exact absurd hb7 (by decide)
       ·refine wl (stp_on h rfl rfl rfl hb7 (vl h (mov h rfl) fun a h => ?_))
        refine wl (stp_on h rfl rfl rfl hb7 (vl h (nei h rfl rfl) fun a h => ?_))
        refine wvl h (pckF h rfl hb7 rfl) fun a h => ?_
        refine wmv h rfl fun a h => ?_
        refine split (t := 83) h rfl (fun hb8 => ?_) (fun hb8 => ?_)
        ·exact absurd hb8 (by decide)
        ·refine wl (stp_on h rfl rfl rfl hb8 (vl h (mov h rfl) fun a h => ?_))
         refine wl (stp_on h rfl rfl rfl hb8 (vl h (nei h rfl rfl) fun a h => ?_))
         refine wvl h (pckF h rfl hb8 rfl) fun a h => ?_
         refine wmv h rfl fun a h => ?_
         refine split (t := 87) h rfl (fun hb9 => ?_) (fun hb9 => ?_)
         ·exact absurd hb9 (by decide)
         ·refine wl (stp_on h rfl rfl rfl hb9 (vl h (ldO (us := [_, _, _]) h hp rfl 2 rfl sz39 rfl ag39) fun a h => ?_))
          refine wl (stp_on h rfl rfl rfl hb9 (cal h rfl en30_W33 (spots_L _ _) fun u w19 ⟨e1, e2⟩ a h => ?_))
          subst e1
          have hp := hp.below e2
          refine wl (stp_on h rfl rfl rfl hb9 (vl h (not_ h rfl) fun a h => ?_))
          refine wvl h (pckF h rfl hb9 rfl) fun a h => ?_
          refine wmv h rfl fun a h => ?_
          refine split (t := 92) h rfl (fun hb10 => ?_) (fun hb10 => ?_)
          ·exact absurd hb10 (by rw [hands_place]; decide)
          ·refine wl (stp_on h rfl rfl rfl hb10 (vl h (ldO (us := [_, _, _]) h hp rfl 3 rfl sz39 rfl ag39) fun a h => ?_))
           refine wl (stp_on h rfl rfl rfl hb10 (cal h rfl en30_W33 (spots_L _ _) fun u w20 ⟨e1, e2⟩ a h => ?_))
           subst e1
           have hp := hp.below e2
           refine wl (stp_on h rfl rfl rfl hb10 (vl h (not_ h rfl) fun a h => ?_))
           refine wvl h (pckF h rfl hb10 rfl) fun a h => ?_
           refine wn ?_
           refine cnd1 h rfl (fun hb11 => ?_) (fun hb11 => ?_)
           ·exact absurd hb11 (by rw [hands_place]; decide)
           ·refine skp ?_
            refine rg ?_
            refine wvl h (fad h rfl fo32_5) fun a h => ?_
            refine wvl h (ldo h hp rfl 0 rfl rfl ag3) fun a h => ?_
            refine wvl h (fad h rfl fo32_7) fun a h => ?_
            refine wvl h (ldo h hp rfl 0 rfl rfl ag3) fun a h => ?_
            refine wvl h (add h rfl rfl (by omega)) fun a h => ?_
            refine wsg h rfl fun a h => ?_
            refine wn ?_
            refine wp_seq ?_
            refine rg ?_
            refine wmv h rfl fun a h => ?_
            refine wn ?_
            refine cnd1 h rfl (fun hb12 => ?_) (fun hb12 => ?_)
            ·have hfu : full = true := hb12
             rw [hfu] at hta
             refine rg1 ?_
             refine wvl h (fad h rfl fo32_6) fun a h => ?_
             refine wvl h (ldo h hp rfl 0 rfl rfl ag3) fun a h => ?_
             refine wvl h (fad h rfl fo32_7) fun a h => ?_
             refine wvl h (ldo h hp rfl 0 rfl rfl ag3) fun a h => ?_
             refine wvl h (add h rfl rfl (by omega)) fun a h => ?_
             refine wsg h rfl fun a h => ?_
             refine wn ?_
             refine rg ?_
             refine wvl h (ldO (us := [_, _, _]) h hp rfl 3 rfl sz39 rfl ag39) fun a h => ?_
             refine wl (cal h rfl en31_W33 (Far_R _ _ (by omega)) fun u w21 ⟨e1, e2⟩ a h => ?_)
             subst e1
             have hp := hp.below e2
             refine wsg h rfl fun a h => ?_
             refine wn ?_
             refine rdh (n := 20) hp mixed rfl ?_
             have hp := hp.drew
             refine tkm 0 h rfl hp rfl fun a h => ?_
             refine tkm 1 h rfl hp rfl fun a h => ?_
             refine tkm 2 h rfl hp rfl fun a h => ?_
             refine tkm 3 h rfl hp rfl fun a h => ?_
             refine tkq 4 h rfl hp (fun W _ => bld h rfl (bl59_0_1_2 _ _ _ _)) fun a h => ?_
             refine tkq 6 h rfl hp (fun W hp => ldO (us := [_, _, _]) h hp rfl 2 rfl sz39 rfl ag39) fun a h => ?_
             refine tkq 7 h rfl hp (fun W hp => ldO (us := [_, _, _]) h hp rfl 3 rfl sz39 rfl ag39) fun a h => ?_
             refine tkm 8 h rfl hp rfl fun a h => ?_
             refine one 5 (by kernel_rfl) rfl (cal h rfl en32_W33 (listed_L _ _ ⟨t, full, handFar (hands e st t)⟩ _ (hp.rdF (i := 1) rfl)) fun u w22 ⟨e1, e2⟩ a h => ⟨hp.below e2, ?_⟩)
             subst e1
             have hp := hp.below e2
             refine one 9 (by kernel_rfl) rfl (cal h rfl en33_W33 (Crossed_R _ _ _ _ (by omega) (by omega)) fun u w23 ⟨e1, e2⟩ a h => ⟨hp.below e2, ?_⟩)
             subst e1
             have hp := hp.below e2
             refine tkm 10 h rfl hp rfl fun a h => ?_
             refine split (t := 120) h rfl (fun hb13 => ?_) (fun hb13 => ?_)
             ·have hcr := hb13
              refine tk_on 11 h rfl (by kernel_rfl) (fun _ _ _ q => q) hp rfl rfl rfl rfl rfl hb13 (fun W _ => mov h rfl) fun a h => ?_
              refine tk_on 12 h rfl (by kernel_rfl) (fun _ _ _ q => q) hp rfl rfl rfl rfl rfl hb13 (fun W _ => mov h rfl) fun a h => ?_
              refine tk_on 13 h rfl (by kernel_rfl) (fun _ _ _ q => q) hp rfl rfl rfl rfl rfl hb13 (fun W _ => leq h rfl rfl) fun a h => ?_
              refine tkq 14 h rfl hp (fun W _ => pckT h rfl hb13 rfl) fun a h => ?_
              refine tkq 15 h rfl hp (fun W _ => eqb h rfl rfl Tryz.underlying4) fun a h => ?_
              refine tkm 16 h rfl hp rfl fun a h => ?_
              refine split (t := 126) h rfl (fun hb14 => ?_) (fun hb14 => ?_)
              ·refine one 17 (by kernel_rfl) rfl (stp_on h rfl rfl rfl hb14 (cal h rfl en20_W33 (known_L _ (hGl.keep hp)) fun u w24 ⟨e1, e2⟩ a h => ⟨hp.below e2, ?_⟩))
               subst e1
               have hp := hp.below e2
               refine tkq 18 h rfl hp (fun W _ => pckT h rfl hb14 rfl) fun a h => ?_
               refine tka 19 h rfl hp rfl fun a h => ?_
               refine dn (by kernel_rfl) ?_
               refine wp_ret ?_
               try simp only [xqs, ↓reduceIte, Nat.reduceEqDiff]
               refine rt_1 h rfl (rvT h rfl) ?_
               exact ⟨_, rfl, rfl, hp.bel⟩
              ·exact absurd hb14 (by first | (rw [hfu, hta]; simp_all [skyLimit]) | simp_all [skyLimit])
             ·have hcr := hb13
              refine tkG 11 h rfl hp rfl rfl rfl hb13 fun a h => ?_
              refine tkG 12 h rfl hp rfl rfl rfl hb13 fun a h => ?_
              refine tkG 13 h rfl hp rfl rfl rfl hb13 fun a h => ?_
              refine tkq 14 h rfl hp (fun W _ => pckF h rfl hb13 rfl) fun a h => ?_
              refine tkq 15 h rfl hp (fun W _ => eqb h rfl rfl Tryz.underlying4) fun a h => ?_
              refine tkm 16 h rfl hp rfl fun a h => ?_
              refine split (t := 126) h rfl (fun hb15 => ?_) (fun hb15 => ?_)
              ·refine one 17 (by kernel_rfl) rfl (stp_on h rfl rfl rfl hb15 (cal h rfl en20_W33 (known_L _ (hGl.keep hp)) fun u w25 ⟨e1, e2⟩ a h => ⟨hp.below e2, ?_⟩))
               subst e1
               have hp := hp.below e2
               refine tkq 18 h rfl hp (fun W _ => pckT h rfl hb15 rfl) fun a h => ?_
               refine tka 19 h rfl hp rfl fun a h => ?_
               refine dn (by kernel_rfl) ?_
               refine wp_ret ?_
               try simp only [xqs, ↓reduceIte, Nat.reduceEqDiff]
               refine rt_1 h rfl (rvT h rfl) ?_
               exact ⟨_, rfl, rfl, hp.bel⟩
              ·exact absurd hb15 (by first | (rw [hfu, hta]; simp_all [skyLimit]) | simp_all [skyLimit])
            ·have hfu : full = false := hb12
             rw [hfu] at hta
             refine skp ?_
             refine rg ?_
             refine wvl h (ldO (us := [_, _, _]) h hp rfl 3 rfl sz39 rfl ag39) fun a h => ?_
             refine wl (cal h rfl en31_W33 (Far_R _ _ (by omega)) fun u w26 ⟨e1, e2⟩ a h => ?_)
             subst e1
             have hp := hp.below e2
             refine wsg h rfl fun a h => ?_
             refine wn ?_
             refine rdh (n := 20) hp mixed rfl ?_
             have hp := hp.drew
             refine tkm 0 h rfl hp rfl fun a h => ?_
             refine tkm 1 h rfl hp rfl fun a h => ?_
             refine tkm 2 h rfl hp rfl fun a h => ?_
             refine tkm 3 h rfl hp rfl fun a h => ?_
             refine tkq 4 h rfl hp (fun W _ => bld h rfl (bl59_0_1_2 _ _ _ _)) fun a h => ?_
             refine tkq 6 h rfl hp (fun W hp => ldO (us := [_, _, _]) h hp rfl 2 rfl sz39 rfl ag39) fun a h => ?_
             refine tkq 7 h rfl hp (fun W hp => ldO (us := [_, _, _]) h hp rfl 3 rfl sz39 rfl ag39) fun a h => ?_
             refine tkm 8 h rfl hp rfl fun a h => ?_
             refine one 5 (by kernel_rfl) rfl (cal h rfl en32_W33 (listed_L _ _ ⟨t, full, handFar (hands e st t)⟩ _ (hp.rdF (i := 1) rfl)) fun u w27 ⟨e1, e2⟩ a h => ⟨hp.below e2, ?_⟩)
             subst e1
             have hp := hp.below e2
             refine one 9 (by kernel_rfl) rfl (cal h rfl en33_W33 (Crossed_R _ _ _ _ (by omega) (by omega)) fun u w28 ⟨e1, e2⟩ a h => ⟨hp.below e2, ?_⟩)
             subst e1
             have hp := hp.below e2
             refine tkm 10 h rfl hp rfl fun a h => ?_
             refine split (t := 120) h rfl (fun hb16 => ?_) (fun hb16 => ?_)
             ·have hcr := hb16
              refine tk_on 11 h rfl (by kernel_rfl) (fun _ _ _ q => q) hp rfl rfl rfl rfl rfl hb16 (fun W _ => mov h rfl) fun a h => ?_
              refine tk_on 12 h rfl (by kernel_rfl) (fun _ _ _ q => q) hp rfl rfl rfl rfl rfl hb16 (fun W _ => mov h rfl) fun a h => ?_
              refine tk_on 13 h rfl (by kernel_rfl) (fun _ _ _ q => q) hp rfl rfl rfl rfl rfl hb16 (fun W _ => leq h rfl rfl) fun a h => ?_
              refine tkq 14 h rfl hp (fun W _ => pckT h rfl hb16 rfl) fun a h => ?_
              refine tkq 15 h rfl hp (fun W _ => eqb h rfl rfl Tryz.underlying4) fun a h => ?_
              refine tkm 16 h rfl hp rfl fun a h => ?_
              refine split (t := 126) h rfl (fun hb17 => ?_) (fun hb17 => ?_)
              ·refine one 17 (by kernel_rfl) rfl (stp_on h rfl rfl rfl hb17 (cal h rfl en20_W33 (known_L _ (hGl.keep hp)) fun u w29 ⟨e1, e2⟩ a h => ⟨hp.below e2, ?_⟩))
               subst e1
               have hp := hp.below e2
               refine tkq 18 h rfl hp (fun W _ => pckT h rfl hb17 rfl) fun a h => ?_
               refine tka 19 h rfl hp rfl fun a h => ?_
               refine dn (by kernel_rfl) ?_
               refine wp_ret ?_
               try simp only [xqs, ↓reduceIte, Nat.reduceEqDiff]
               refine rt_1 h rfl (rvT h rfl) ?_
               exact ⟨_, rfl, rfl, hp.bel⟩
              ·exact absurd hb17 (by first | (rw [hfu, hta]; simp_all [skyLimit]) | simp_all [skyLimit])
             ·have hcr := hb16
              refine tkG 11 h rfl hp rfl rfl rfl hb16 fun a h => ?_
              refine tkG 12 h rfl hp rfl rfl rfl hb16 fun a h => ?_
              refine tkG 13 h rfl hp rfl rfl rfl hb16 fun a h => ?_
              refine tkq 14 h rfl hp (fun W _ => pckF h rfl hb16 rfl) fun a h => ?_
              refine tkq 15 h rfl hp (fun W _ => eqb h rfl rfl Tryz.underlying4) fun a h => ?_
              refine tkm 16 h rfl hp rfl fun a h => ?_
              refine split (t := 126) h rfl (fun hb18 => ?_) (fun hb18 => ?_)
              ·refine one 17 (by kernel_rfl) rfl (stp_on h rfl rfl rfl hb18 (cal h rfl en20_W33 (known_L _ (hGl.keep hp)) fun u w30 ⟨e1, e2⟩ a h => ⟨hp.below e2, ?_⟩))
               subst e1
               have hp := hp.below e2
               refine tkq 18 h rfl hp (fun W _ => pckT h rfl hb18 rfl) fun a h => ?_
               refine tka 19 h rfl hp rfl fun a h => ?_
               refine dn (by kernel_rfl) ?_
               refine wp_ret ?_
               try simp only [xqs, ↓reduceIte, Nat.reduceEqDiff]
               refine rt_1 h rfl (rvT h rfl) ?_
               exact ⟨_, rfl, rfl, hp.bel⟩
              ·exact absurd hb18 (by first | (rw [hfu, hta]; simp_all [skyLimit]) | simp_all [skyLimit])
end Go.Proofs.Ec
