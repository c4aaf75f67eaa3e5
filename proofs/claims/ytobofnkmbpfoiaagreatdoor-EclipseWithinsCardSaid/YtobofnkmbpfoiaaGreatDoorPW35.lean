import Derived.Test.YtobofnkmbpfoiaaGreatDoorProg
import Derived.Test.YtobofnkmbpfoiaaGreatDoorPFa
import Derived.Test.YtobofnkmbpfoiaaGreatDoorPQb
import Derived.Test.YtobofnkmbpfoiaaGreatDoorPW31
import Derived.Test.YtobofnkmbpfoiaaGreatDoorPQa
set_option linter.unusedVariables false
set_option linter.unusedSimpArgs false
set_option maxRecDepth 4000
namespace Go.Proofs.Ec
open Go.RowKit Go.Proofs.Sx
open Ecl
theorem en15_W35 : EnT Tryz.prog 15 := ento Tryz.func15
theorem en20_W35 : EnT Tryz.prog 20 := ento Tryz.func20
theorem en16_W35 : EnT Tryz.prog 16 := ento Tryz.func16
theorem en17_W35 : EnT Tryz.prog 17 := ento Tryz.func17
theorem en26_W35 : EnT Tryz.prog 26 := ento Tryz.func26
theorem en36_W35 : EnT Tryz.prog 36 := ento Tryz.func36
theorem en37_W35 : EnT Tryz.prog 37 := ento Tryz.func37
theorem en38_W35 : EnT Tryz.prog 38 := ento Tryz.func38
theorem Within_no {x : EV} {e : Eng} {s2 : SV} {st : List Int} {d1 d2 : Int} {w : World} (hE0 : RdE w x e s2 st) (hspan : (inR d1 1 9000 && inR d2 d1 9000 && decide (d2 - d1 ≤ 400)) = true) (hw : within e st d1 d2 = none) : Ret Tryz.prog 34 #[.agg #[x.b.v, .int .i64 e.nnum, .int .i64 e.nden, .int .i64 e.nstart, x.s.v, x.m.v, x.n.v, x.f.v, .int .i64 e.new, .int .i64 e.full, .int .i64 e.wide], s2.v, .int .i64 d1, .int .i64 d2] w fun u w' => u = .tuple #[.int .i64 0, .int .i64 5] ∧ Below w.heap.size w w' := by
 have := Within_s x e s2 st d1 d2 w hE0 hspan
 rw [hw] at this
 exact this
theorem Within_is {x : EV} {e : Eng} {s2 : SV} {st : List Int} {d1 d2 n : Int} {w : World} (hE0 : RdE w x e s2 st) (hspan : (inR d1 1 9000 && inR d2 d1 9000 && decide (d2 - d1 ≤ 400)) = true) (hw : within e st d1 d2 = some n) : Ret Tryz.prog 34 #[.agg #[x.b.v, .int .i64 e.nnum, .int .i64 e.nden, .int .i64 e.nstart, x.s.v, x.m.v, x.n.v, x.f.v, .int .i64 e.new, .int .i64 e.full, .int .i64 e.wide], s2.v, .int .i64 d1, .int .i64 d2] w fun u w' => u = .tuple #[.int .i64 n, .int .i64 0] ∧ Below w.heap.size w w' := by
 have := Within_s x e s2 st d1 d2 w hE0 hspan
 rw [hw] at this
 exact this
theorem Until_lo {x : EV} {e : Eng} {s2 : SV} {st : List Int} {d1 d2 lt v : Int} {w : World} (hE0 : RdE w x e s2 st) (hspan : (inR d1 1 9000 && inR d2 d1 9000 && decide (d2 - d1 ≤ 400) && inR lt 0 30) = true) (hu : until_ e st d1 d2 lt = v) (h : v < d1) : Ret Tryz.prog 35 #[.agg #[x.b.v, .int .i64 e.nnum, .int .i64 e.nden, .int .i64 e.nstart, x.s.v, x.m.v, x.n.v, x.f.v, .int .i64 e.new, .int .i64 e.full, .int .i64 e.wide], s2.v, .int .i64 d1, .int .i64 d2, .int .i64 lt] w fun u w' => u = .tuple #[.int .i64 0, .int .i64 5] ∧ Below w.heap.size w w' := by
 have := Until_s x e s2 st d1 d2 lt w hE0 hspan
 rw [hu, if_pos h] at this
 exact this
theorem Until_hi {x : EV} {e : Eng} {s2 : SV} {st : List Int} {d1 d2 lt v : Int} {w : World} (hE0 : RdE w x e s2 st) (hspan : (inR d1 1 9000 && inR d2 d1 9000 && decide (d2 - d1 ≤ 400) && inR lt 0 30) = true) (hu : until_ e st d1 d2 lt = v) (h : d1 ≤ v) : Ret Tryz.prog 35 #[.agg #[x.b.v, .int .i64 e.nnum, .int .i64 e.nden, .int .i64 e.nstart, x.s.v, x.m.v, x.n.v, x.f.v, .int .i64 e.new, .int .i64 e.full, .int .i64 e.wide], s2.v, .int .i64 d1, .int .i64 d2, .int .i64 lt] w fun u w' => u = .tuple #[.int .i64 v, .int .i64 0] ∧ Below w.heap.size w w' := by
 have := Until_s x e s2 st d1 d2 lt w hE0 hspan
 rw [hu, if_neg (by omega)] at this
 exact this
theorem until_two (e : Eng) (st : List Int) {d1 d2 lt : Int} (h : d1 ≤ d2) : (∃ v, until_ e st d1 d2 lt = v ∧ v < d1 ∧ missed e st d1 d1 lt ≠ []) ∨ ∃ v, until_ e st d1 d2 lt = v ∧ d1 ≤ v ∧ v ≤ d2 ∧ missed e st d1 v lt = [] ∧ (v ≠ d2 → missed e st (v + 1) (v + 1) lt ≠ []) := by
 unfold until_
 cases hm : missed e st d1 d2 lt with
 | nil => exact .inr ⟨d2, rfl, h, Int.le_refl _, hm, fun q => absurd rfl q⟩
 | cons y r =>
  obtain ⟨h1, h2, h3⟩ := missed_head hm
  by_cases hd : y.day - 1 < d1
  ·have he : y.day = d1 := by omega
   exact .inl ⟨y.day - 1, rfl, hd, he ▸ h3⟩
  ·exact .inr ⟨y.day - 1, rfl, by omega, by omega, h2, fun _ => by rw [show y.day - 1 + 1 = y.day by omega]; exact h3⟩
theorem bad3q {a b c : Bool} (h1 : a = true) (h2 : b = true) (h3 : (!c) = false) : ¬ ((a && b && c) = false) := by cases a <;> cases b <;> cases c <;> simp_all
theorem EclipseWithins_b (x : EV) (e : Eng) (s2 : SV) (st : List Int) (d1 d2 lt : Int) (w : World) (hG : RdG w x e) (hS2 : Rd w encI 1 s2.v st) (hGl : Glb w) (hbad : (isEngine e && isSet e st && (inR d1 1 9000 && inR d2 d1 9000 && decide (d2 - d1 ≤ 400))) = false) : Ret Tryz.prog 6 #[.agg #[x.b.v, .int .i64 e.nnum, .int .i64 e.nden, .int .i64 e.nstart, x.s.v, x.m.v, x.n.v, x.f.v, .int .i64 e.new, .int .i64 e.full, .int .i64 e.wide], s2.v, .int .i64 d1, .int .i64 d2, .int .i64 lt] w fun u w' => u = .bool true ∧ Below w.heap.size w w' := by
 have hbl : (isEngine e && isSet e st && (inR d1 1 9000 && inR d2 d1 9000 && decide (d2 - d1 ≤ 400) && inR lt 0 30)) = false := by rw [Bool.and_eq_false_iff] at hbad ⊢; exact hbad.imp id fun q => by rw [Bool.and_eq_false_iff]; exact .inl q
 have hp : Hp c0 w w [] := Hp.start trivial
 refine enter Tryz.func6 rfl (N := 140) rfl rfl fun a h => ?_
 refine rg ?_
 refine wl (box (cs := #[_, _, _, _, _, _, _, _, _, _, _]) h hp rfl rfl fun a w1 g1 hg1 h hp => ?_)
 refine wsg h rfl fun a h => ?_
 refine wn ?_
 refine wp_seq ?_
 refine rg ?_
 refine wvl h (ldO (us := [_, _, _, _, _, _, _, _, _, _, _]) h hp rfl 0 rfl sz32 rfl ag32) fun a h => ?_
 refine wmv h rfl fun a h => ?_
 refine wl (cal h rfl en15_W35 (short_L x e s2 st _ (hG.keep hp cl0) (hS2.keep (by decide) hp cl0)) fun u w2 ⟨⟨bsh, e1⟩, e2⟩ a h => ?_)
 subst e1
 have hp := hp.below e2
 refine wvl h (not_ h rfl) fun a h => ?_
 refine wn ?_
 refine cnd1 h rfl (fun hb1 => ?_) (fun hb1 => ?_)
 ·refine rg ?_
  refine wl (cal h rfl en20_W35 (known_L _ (hGl.keep hp)) fun u w3 ⟨e1, e2⟩ a h => ?_)
  subst e1
  have hp := hp.below e2
  refine wsg h rfl fun a h => ?_
  refine wn ?_
  refine wp_ret ?_
  try simp only [xqs, ↓reduceIte, Nat.reduceEqDiff]
  refine rt_1 h rfl (rvT h rfl) ?_
  exact ⟨_, rfl, rfl, hp.bel⟩
 ·refine skp ?_
  refine rg ?_
  refine wvl h (ldO (us := [_, _, _, _, _, _, _, _, _, _, _]) h hp rfl 0 rfl sz32 rfl ag32) fun a h => ?_
  refine wmv h rfl fun a h => ?_
  refine wmv h rfl fun a h => ?_
  refine wmv h rfl fun a h => ?_
  refine wl (cal h rfl en34 (Within_x x e s2 st _ _ _ (hG.keep hp cl0) (hS2.keep (by decide) hp cl0) hbad) fun u w4 ⟨e1, e2⟩ a h => ?_)
  subst e1
  have hp := hp.below e2
  refine wmv h rfl fun a h => ?_
  refine wvl h (ext h rfl rfl) fun a h => ?_
  refine wvl h (ext h rfl rfl) fun a h => ?_
  refine wsg h rfl fun a h => ?_
  refine wsg h rfl fun a h => ?_
  refine wn ?_
  refine rg ?_
  refine wvl h (ldO (us := [_, _, _, _, _, _, _, _, _, _, _]) h hp rfl 0 rfl sz32 rfl ag32) fun a h => ?_
  refine wmv h rfl fun a h => ?_
  refine wmv h rfl fun a h => ?_
  refine wmv h rfl fun a h => ?_
  refine wmv h rfl fun a h => ?_
  refine wl (cal h rfl en35 (Until_x x e s2 st _ _ _ _ (hG.keep hp cl0) (hS2.keep (by decide) hp cl0) hbl) fun u w5 ⟨e1, e2⟩ a h => ?_)
  subst e1
  have hp := hp.below e2
  refine wmv h rfl fun a h => ?_
  refine wvl h (ext h rfl rfl) fun a h => ?_
  refine wvl h (ext h rfl rfl) fun a h => ?_
  refine wsg h rfl fun a h => ?_
  refine wsg h rfl fun a h => ?_
  refine wn ?_
  refine rg ?_
  refine wvl h (ldO (us := [_, _, _, _, _, _, _, _, _, _, _]) h hp rfl 0 rfl sz32 rfl ag32) fun a h => ?_
  refine wl (cal h rfl en16_W35 (Engine_R x e _ (by first | exact hG.keep hp cl0 | exact (hE0.keep hp cl0).g)) fun u w6 ⟨e1, e2⟩ a h => ?_)
  subst e1
  have hp := hp.below e2
  refine wmv h rfl fun a h => ?_
  refine split (t := 42) h rfl (fun hb2 => ?_) (fun hb2 => ?_)
  ·have hn1 := hb2
   refine wl (stp_on h rfl rfl rfl hb2 (vl h (fad h rfl fo32_4) fun a h => ?_))
   refine wl (stp_on h rfl rfl rfl hb2 (vl h (ldo h hp rfl 0 rfl rfl ag30) fun a h => ?_))
   refine wl (stp_on h rfl rfl rfl hb2 (vl h (mov h rfl) fun a h => ?_))
   refine wl (stp_on h rfl rfl rfl hb2 (cal h rfl en17_W35 (Set_T _ _ _ _ _ (hS2.keep (by decide) hp cl0) (hG.keep hp cl0).f) fun u w7 ⟨e1, e2⟩ a h => ?_))
   subst e1
   have hp := hp.below e2
   refine wvl h (pckT h rfl hb2 rfl) fun a h => ?_
   refine wmv h rfl fun a h => ?_
   refine split (t := 48) h rfl (fun hb3 => ?_) (fun hb3 => ?_)
   ·have hn2 := hb3
    refine wl (stp_on h rfl rfl rfl hb3 (vl h (mov h rfl) fun a h => ?_))
    refine wl (stp_on h rfl rfl rfl hb3 (vl h (mov h rfl) fun a h => ?_))
    refine wl (stp_on h rfl rfl rfl hb3 (cal h rfl en26_W35 (Span_R _ _ _) fun u w8 ⟨e1, e2⟩ a h => ?_))
    subst e1
    subst e2
    refine wvl h (pckT h rfl hb3 rfl) fun a h => ?_
    refine wsg h rfl fun a h => ?_
    refine wn ?_
    refine wp_seq ?_
    refine rg ?_
    refine wmv h rfl fun a h => ?_
    refine wvl h (not_ h rfl) fun a h => ?_
    refine wn ?_
    refine cnd1 h rfl (fun hb4 => ?_) (fun hb4 => ?_)
    ·refine rg ?_
     refine wmv h rfl fun a h => ?_
     refine wvl h (eqi h rfl rfl) fun a h => ?_
     refine wmv h rfl fun a h => ?_
     refine split (t := 57) h rfl (fun hb5 => ?_) (fun hb5 => ?_)
     ·refine wl (stp_on h rfl rfl rfl hb5 (vl h (mov h rfl) fun a h => ?_))
      refine wl (stp_on h rfl rfl rfl hb5 (vl h (eqi h rfl rfl) fun a h => ?_))
      refine wvl h (pckT h rfl hb5 rfl) fun a h => ?_
      refine wmv h rfl fun a h => ?_
      refine split (t := 61) h rfl (fun hb6 => ?_) (fun hb6 => ?_)
      ·refine wl (stp_on h rfl rfl rfl hb6 (vl h (mov h rfl) fun a h => ?_))
       refine wl (stp_on h rfl rfl rfl hb6 (vl h (eqi h rfl rfl) fun a h => ?_))
       refine wvl h (pckT h rfl hb6 rfl) fun a h => ?_
       refine wmv h rfl fun a h => ?_
       refine split (t := 65) h rfl (fun hb7 => ?_) (fun hb7 => ?_)
       ·refine wl (stp_on h rfl rfl rfl hb7 (vl h (mov h rfl) fun a h => ?_))
        refine wl (stp_on h rfl rfl rfl hb7 (vl h (eqi h rfl rfl) fun a h => ?_))
        refine wvl h (pckT h rfl hb7 rfl) fun a h => ?_
        refine wmv h rfl fun a h => ?_
        refine split (t := 69) h rfl (fun hb8 => ?_) (fun hb8 => ?_)
        ·refine wl (stp_on h rfl rfl rfl hb8 (cal h rfl en20_W35 (known_L _ (hGl.keep hp)) fun u w9 ⟨e1, e2⟩ a h => ?_))
         subst e1
         have hp := hp.below e2
         refine wvl h (pckT h rfl hb8 rfl) fun a h => ?_
         refine wsg h rfl fun a h => ?_
         refine wn ?_
         refine wp_ret ?_
         try simp only [xqs, ↓reduceIte, Nat.reduceEqDiff]
         refine rt_1 h rfl (rvT h rfl) ?_
         exact ⟨_, rfl, rfl, hp.bel⟩
        ·exact absurd hb8 (by first | decide | simp)
       ·exact absurd hb7 (by first | decide | simp)
      ·exact absurd hb6 (by first | decide | simp)
     ·exact absurd hb5 (by first | decide | simp)
    ·exact absurd hbad (by first | exact absurd hb4 (by decide) | exact bad3q hn1 hn2 hb4)
   ·refine wl (stp_off h rfl rfl rfl rfl rfl hb3 fun a h => ?_)
    refine wl (stp_off h rfl rfl rfl rfl rfl hb3 fun a h => ?_)
    refine wl (stp_off h rfl rfl rfl rfl rfl hb3 fun a h => ?_)
    refine wvl h (pckF h rfl hb3 rfl) fun a h => ?_
    refine wsg h rfl fun a h => ?_
    refine wn ?_
    refine wp_seq ?_
    refine rg ?_
    refine wmv h rfl fun a h => ?_
    refine wvl h (not_ h rfl) fun a h => ?_
    refine wn ?_
    refine cnd1 h rfl (fun hb9 => ?_) (fun hb9 => ?_)
    ·refine rg ?_
     refine wmv h rfl fun a h => ?_
     refine wvl h (eqi h rfl rfl) fun a h => ?_
     refine wmv h rfl fun a h => ?_
     refine split (t := 57) h rfl (fun hb10 => ?_) (fun hb10 => ?_)
     ·refine wl (stp_on h rfl rfl rfl hb10 (vl h (mov h rfl) fun a h => ?_))
      refine wl (stp_on h rfl rfl rfl hb10 (vl h (eqi h rfl rfl) fun a h => ?_))
      refine wvl h (pckT h rfl hb10 rfl) fun a h => ?_
      refine wmv h rfl fun a h => ?_
      refine split (t := 61) h rfl (fun hb11 => ?_) (fun hb11 => ?_)
      ·refine wl (stp_on h rfl rfl rfl hb11 (vl h (mov h rfl) fun a h => ?_))
       refine wl (stp_on h rfl rfl rfl hb11 (vl h (eqi h rfl rfl) fun a h => ?_))
       refine wvl h (pckT h rfl hb11 rfl) fun a h => ?_
       refine wmv h rfl fun a h => ?_
       refine split (t := 65) h rfl (fun hb12 => ?_) (fun hb12 => ?_)
       ·refine wl (stp_on h rfl rfl rfl hb12 (vl h (mov h rfl) fun a h => ?_))
        refine wl (stp_on h rfl rfl rfl hb12 (vl h (eqi h rfl rfl) fun a h => ?_))
        refine wvl h (pckT h rfl hb12 rfl) fun a h => ?_
        refine wmv h rfl fun a h => ?_
        refine split (t := 69) h rfl (fun hb13 => ?_) (fun hb13 => ?_)
        ·refine wl (stp_on h rfl rfl rfl hb13 (cal h rfl en20_W35 (known_L _ (hGl.keep hp)) fun u w10 ⟨e1, e2⟩ a h => ?_))
         subst e1
         have hp := hp.below e2
         refine wvl h (pckT h rfl hb13 rfl) fun a h => ?_
         refine wsg h rfl fun a h => ?_
         refine wn ?_
         refine wp_ret ?_
         try simp only [xqs, ↓reduceIte, Nat.reduceEqDiff]
         refine rt_1 h rfl (rvT h rfl) ?_
         exact ⟨_, rfl, rfl, hp.bel⟩
        ·exact absurd hb13 (by first | decide | simp)
       ·exact absurd hb12 (by first | decide | simp)
      ·exact absurd hb11 (by first | decide | simp)
     ·exact absurd hb10 (by first | decide | simp)
    ·exact absurd hbad (by first | exact absurd hb9 (by decide) | exact bad3q hn1 hn2 hb9)
  ·refine wl (stp_off h rfl rfl rfl rfl rfl hb2 fun a h => ?_)
   refine wl (stp_off h rfl rfl rfl rfl rfl hb2 fun a h => ?_)
   refine wl (stp_off h rfl rfl rfl rfl rfl hb2 fun a h => ?_)
   refine wl (stp_off h rfl rfl rfl rfl rfl hb2 fun a h => ?_)
   refine wvl h (pckF h rfl hb2 rfl) fun a h => ?_
   refine wmv h rfl fun a h => ?_
   refine wl (stp_off h rfl rfl rfl rfl rfl rfl fun a h => ?_)
   refine wl (stp_off h rfl rfl rfl rfl rfl rfl fun a h => ?_)
   refine wl (stp_off h rfl rfl rfl rfl rfl rfl fun a h => ?_)
   refine wvl h (pckF h rfl rfl rfl) fun a h => ?_
   refine wsg h rfl fun a h => ?_
   refine wn ?_
   refine wp_seq ?_
   refine rg ?_
   refine wmv h rfl fun a h => ?_
   refine wvl h (not_ h rfl) fun a h => ?_
   refine wn ?_
   refine cnd1 h rfl (fun hb14 => ?_) (fun hb14 => ?_)
   ·refine rg ?_
    refine wmv h rfl fun a h => ?_
    refine wvl h (eqi h rfl rfl) fun a h => ?_
    refine wmv h rfl fun a h => ?_
    refine split (t := 57) h rfl (fun hb15 => ?_) (fun hb15 => ?_)
    ·refine wl (stp_on h rfl rfl rfl hb15 (vl h (mov h rfl) fun a h => ?_))
     refine wl (stp_on h rfl rfl rfl hb15 (vl h (eqi h rfl rfl) fun a h => ?_))
     refine wvl h (pckT h rfl hb15 rfl) fun a h => ?_
     refine wmv h rfl fun a h => ?_
     refine split (t := 61) h rfl (fun hb16 => ?_) (fun hb16 => ?_)
     ·refine wl (stp_on h rfl rfl rfl hb16 (vl h (mov h rfl) fun a h => ?_))
      refine wl (stp_on h rfl rfl rfl hb16 (vl h (eqi h rfl rfl) fun a h => ?_))
      refine wvl h (pckT h rfl hb16 rfl) fun a h => ?_
      refine wmv h rfl fun a h => ?_
      refine split (t := 65) h rfl (fun hb17 => ?_) (fun hb17 => ?_)
      ·refine wl (stp_on h rfl rfl rfl hb17 (vl h (mov h rfl) fun a h => ?_))
       refine wl (stp_on h rfl rfl rfl hb17 (vl h (eqi h rfl rfl) fun a h => ?_))
       refine wvl h (pckT h rfl hb17 rfl) fun a h => ?_
       refine wmv h rfl fun a h => ?_
       refine split (t := 69) h rfl (fun hb18 => ?_) (fun hb18 => ?_)
       ·refine wl (stp_on h rfl rfl rfl hb18 (cal h rfl en20_W35 (known_L _ (hGl.keep hp)) fun u w11 ⟨e1, e2⟩ a h => ?_))
        subst e1
        have hp := hp.below e2
        refine wvl h (pckT h rfl hb18 rfl) fun a h => ?_
        refine wsg h rfl fun a h => ?_
        refine wn ?_
        refine wp_ret ?_
        try simp only [xqs, ↓reduceIte, Nat.reduceEqDiff]
        refine rt_1 h rfl (rvT h rfl) ?_
        exact ⟨_, rfl, rfl, hp.bel⟩
       ·exact absurd hb18 (by first | decide | simp)
      ·exact absurd hb17 (by first | decide | simp)
     ·exact absurd hb16 (by first | decide | simp)
    ·exact absurd hb15 (by first | decide | simp)
   ·exact absurd hbad (by first | exact absurd hb14 (by decide) | exact bad3q hn1 hn2 hb14)
theorem Within_Rv {x : EV} {e : Eng} {s2 : SV} {st : List Int} {d1 d2 v : Int} {w : World} (hE0 : RdE w x e s2 st) (hab : 1 ≤ d1 ∧ d2 ≤ 9000 ∧ d2 - d1 ≤ 400 ∧ d1 ≤ d2) (hv : withinI (within e st d1 d2) = v) : Ret Tryz.prog 36 #[.agg #[x.b.v, .int .i64 e.nnum, .int .i64 e.nden, .int .i64 e.nstart, x.s.v, x.m.v, x.n.v, x.f.v, .int .i64 e.new, .int .i64 e.full, .int .i64 e.wide], s2.v, .int .i64 d1, .int .i64 d2] w fun u w' => u = .int .i64 v ∧ Below w.heap.size w w' := by
 have := Within_R x e s2 st d1 d2 w hE0 hab
 rw [hv] at this
 exact this
theorem Until_Rv {x : EV} {e : Eng} {s2 : SV} {st : List Int} {d1 d2 lt v : Int} {w : World} (hE0 : RdE w x e s2 st) (hab : 1 ≤ d1 ∧ d2 ≤ 9000 ∧ d2 - d1 ≤ 400 ∧ d1 ≤ d2) (hl : 0 ≤ lt ∧ lt ≤ 30) (hv : until_ e st d1 d2 lt = v) : Ret Tryz.prog 38 #[.agg #[x.b.v, .int .i64 e.nnum, .int .i64 e.nden, .int .i64 e.nstart, x.s.v, x.m.v, x.n.v, x.f.v, .int .i64 e.new, .int .i64 e.full, .int .i64 e.wide], s2.v, .int .i64 d1, .int .i64 d2, .int .i64 lt] w fun u w' => u = .int .i64 v ∧ Below w.heap.size w w' := by
 have := Until_R x e s2 st d1 d2 lt w hE0 hab hl
 rw [hv] at this
 exact this
theorem EclipseWithins_l (x : EV) (e : Eng) (s2 : SV) (st : List Int) (d1 d2 lt : Int) (w : World) (hE0 : RdE w x e s2 st) (hGl : Glb w) (hspan : (inR d1 1 9000 && inR d2 d1 9000 && decide (d2 - d1 ≤ 400)) = true) (hla : isLate lt = false) : Ret Tryz.prog 6 #[.agg #[x.b.v, .int .i64 e.nnum, .int .i64 e.nden, .int .i64 e.nstart, x.s.v, x.m.v, x.n.v, x.f.v, .int .i64 e.new, .int .i64 e.full, .int .i64 e.wide], s2.v, .int .i64 d1, .int .i64 d2, .int .i64 lt] w fun u w' => u = .bool true ∧ Below w.heap.size w w' := by
 have hen := hE0.ok
 have hG := hE0.g
 have hS2 := hE0.s
 have hse := isSet_rise hE0.set
 have hd := hspan
 simp only [inR, Bool.and_eq_true, decide_eq_true_eq] at hd
 have hp : Hp c0 w w [] := Hp.start trivial
 refine enter Tryz.func6 rfl (N := 140) rfl rfl fun a h => ?_
 refine rg ?_
 refine wl (box (cs := #[_, _, _, _, _, _, _, _, _, _, _]) h hp rfl rfl fun a w1 g1 hg1 h hp => ?_)
 refine wsg h rfl fun a h => ?_
 refine wn ?_
 refine wp_seq ?_
 refine rg ?_
 refine wvl h (ldO (us := [_, _, _, _, _, _, _, _, _, _, _]) h hp rfl 0 rfl sz32 rfl ag32) fun a h => ?_
 refine wmv h rfl fun a h => ?_
 refine wl (cal h rfl en15_W35 (short_L x e s2 st _ (hG.keep hp cl0) (hS2.keep (by decide) hp cl0)) fun u w2 ⟨⟨bsh, e1⟩, e2⟩ a h => ?_)
 subst e1
 have hp := hp.below e2
 refine wvl h (not_ h rfl) fun a h => ?_
 refine wn ?_
 refine cnd1 h rfl (fun hb1 => ?_) (fun hb1 => ?_)
 ·refine rg ?_
  refine wl (cal h rfl en20_W35 (known_L _ (hGl.keep hp)) fun u w3 ⟨e1, e2⟩ a h => ?_)
  subst e1
  have hp := hp.below e2
  refine wsg h rfl fun a h => ?_
  refine wn ?_
  refine wp_ret ?_
  try simp only [xqs, ↓reduceIte, Nat.reduceEqDiff]
  refine rt_1 h rfl (rvT h rfl) ?_
  exact ⟨_, rfl, rfl, hp.bel⟩
 ·refine skp ?_
  refine rg ?_
  rcases hw : within e st d1 d2 with _ | n
  ·have hwv : withinI (within e st d1 d2) = -1 := by rw [hw]; rfl
   refine wvl h (ldO (us := [_, _, _, _, _, _, _, _, _, _, _]) h hp rfl 0 rfl sz32 rfl ag32) fun a h => ?_
   refine wmv h rfl fun a h => ?_
   refine wmv h rfl fun a h => ?_
   refine wmv h rfl fun a h => ?_
   refine wl (cal h rfl en34 (Within_no (hE0.keep hp cl0) hspan hw) fun u w4 ⟨e1, e2⟩ a h => ?_)
   subst e1
   have hp := hp.below e2
   refine wmv h rfl fun a h => ?_
   refine wvl h (ext h rfl rfl) fun a h => ?_
   refine wvl h (ext h rfl rfl) fun a h => ?_
   refine wsg h rfl fun a h => ?_
   refine wsg h rfl fun a h => ?_
   refine wn ?_
   refine rg ?_
   refine wvl h (ldO (us := [_, _, _, _, _, _, _, _, _, _, _]) h hp rfl 0 rfl sz32 rfl ag32) fun a h => ?_
   refine wmv h rfl fun a h => ?_
   refine wmv h rfl fun a h => ?_
   refine wmv h rfl fun a h => ?_
   refine wmv h rfl fun a h => ?_
   refine wl (cal h rfl en35 (Until_x x e s2 st _ _ _ _ (hG.keep hp cl0) (hS2.keep (by decide) hp cl0) (by rw [Bool.and_eq_false_iff]; exact .inr (by rw [Bool.and_eq_false_iff]; exact .inr hla))) fun u w5 ⟨e1, e2⟩ a h => ?_)
   subst e1
   have hp := hp.below e2
   refine wmv h rfl fun a h => ?_
   refine wvl h (ext h rfl rfl) fun a h => ?_
   refine wvl h (ext h rfl rfl) fun a h => ?_
   refine wsg h rfl fun a h => ?_
   refine wsg h rfl fun a h => ?_
   refine wn ?_
   refine rg ?_
   refine wvl h (ldO (us := [_, _, _, _, _, _, _, _, _, _, _]) h hp rfl 0 rfl sz32 rfl ag32) fun a h => ?_
   refine wl (cal h rfl en16_W35 (Engine_R x e _ (by first | exact hG.keep hp cl0 | exact (hE0.keep hp cl0).g)) fun u w6 ⟨e1, e2⟩ a h => ?_)
   subst e1
   have hp := hp.below e2
   refine wmv h rfl fun a h => ?_
   refine split (t := 42) h rfl (fun hb2 => ?_) (fun hb2 => ?_)
   ·refine wl (stp_on h rfl rfl rfl hb2 (vl h (fad h rfl fo32_4) fun a h => ?_))
    refine wl (stp_on h rfl rfl rfl hb2 (vl h (ldo h hp rfl 0 rfl rfl ag30) fun a h => ?_))
    refine wl (stp_on h rfl rfl rfl hb2 (vl h (mov h rfl) fun a h => ?_))
    refine wl (stp_on h rfl rfl rfl hb2 (cal h rfl en17_W35 (Set_T _ _ _ _ _ (hE0.keep hp cl0).s (hE0.keep hp cl0).g.f) fun u w7 ⟨e1, e2⟩ a h => ?_))
    subst e1
    have hp := hp.below e2
    refine wvl h (pckT h rfl hb2 rfl) fun a h => ?_
    refine wmv h rfl fun a h => ?_
    refine split (t := 48) h rfl (fun hb3 => ?_) (fun hb3 => ?_)
    ·refine wl (stp_on h rfl rfl rfl hb3 (vl h (mov h rfl) fun a h => ?_))
     refine wl (stp_on h rfl rfl rfl hb3 (vl h (mov h rfl) fun a h => ?_))
     refine wl (stp_on h rfl rfl rfl hb3 (cal h rfl en26_W35 (Span_R _ _ _) fun u w8 ⟨e1, e2⟩ a h => ?_))
     subst e1
     subst e2
     refine wvl h (pckT h rfl hb3 rfl) fun a h => ?_
     refine wsg h rfl fun a h => ?_
     refine wn ?_
     refine wp_seq ?_
     refine rg ?_
     refine wmv h rfl fun a h => ?_
     refine wvl h (not_ h rfl) fun a h => ?_
     refine wn ?_
     refine cnd1 h rfl (fun hb4 => ?_) (fun hb4 => ?_)
     ·exact absurd hb4 (by rw [show isSpan d1 d2 = true from hspan]; decide)
     ·refine skp ?_
      refine wp_seq ?_
      refine rg ?_
      refine wvl h (ldO (us := [_, _, _, _, _, _, _, _, _, _, _]) h hp rfl 0 rfl sz32 rfl ag32) fun a h => ?_
      refine wmv h rfl fun a h => ?_
      refine wmv h rfl fun a h => ?_
      refine wmv h rfl fun a h => ?_
      refine wl (cal h rfl en36_W35 (Within_Rv (hE0.keep hp cl0) (by omega) hwv) fun u w9 ⟨e1, e2⟩ a h => ?_)
      subst e1
      have hp := hp.below e2
      refine wsg h rfl fun a h => ?_
      refine wn ?_
      refine rg ?_
      refine wmv h rfl fun a h => ?_
      refine wvl h (lss h rfl rfl) fun a h => ?_
      refine wmv h rfl fun a h => ?_
      refine split (t := 79) h rfl (fun hb5 => ?_) (fun hb5 => ?_)
      ·refine wl (stp_on h rfl rfl rfl hb5 (vl h (mov h rfl) fun a h => ?_))
       refine wl (stp_on h rfl rfl rfl hb5 (vl h (nei h rfl rfl) fun a h => ?_))
       refine wl (stp_on h rfl rfl rfl hb5 (vl h (mov h rfl) fun a h => ?_))
       refine split (t := 82) h rfl (fun hb6 => ?_) (fun hb6 => ?_)
       ·exact absurd hb6 (by first | decide | (simp only [Bool.not_eq_true', Bool.not_eq_false', Bool.not_eq_true, Bool.not_eq_false, decide_eq_true_eq, decide_eq_false_iff_not, gt_iff_lt, ge_iff_le]; omega) | (simp; done))
       ·refine wl (stp_on h rfl rfl rfl hb6 (vl h (mov h rfl) fun a h => ?_))
        refine wl (stp_on h rfl rfl rfl hb6 (vl h (nei h rfl rfl) fun a h => ?_))
        refine wl (stp_on h rfl rfl rfl hb5 (vl h (pckF h rfl hb6 rfl) fun a h => ?_))
        refine wvl h (pckT h rfl hb5 rfl) fun a h => ?_
        refine wmv h rfl fun a h => ?_
        refine split (t := 87) h rfl (fun hb7 => ?_) (fun hb7 => ?_)
        ·exact absurd hb7 (by first | decide | (simp only [Bool.not_eq_true', Bool.not_eq_false', Bool.not_eq_true, Bool.not_eq_false, decide_eq_true_eq, decide_eq_false_iff_not, gt_iff_lt, ge_iff_le]; omega) | (simp; done))
        ·refine wl (stp_on h rfl rfl rfl hb7 (vl h (mov h rfl) fun a h => ?_))
         refine wl (stp_on h rfl rfl rfl hb7 (vl h (geq h rfl rfl) fun a h => ?_))
         refine wl (stp_on h rfl rfl rfl hb7 (vl h (mov h rfl) fun a h => ?_))
         refine split (t := 90) h rfl (fun hb8 => ?_) (fun hb8 => ?_)
         ·exact absurd hb8 (by first | decide | (simp only [Bool.not_eq_true', Bool.not_eq_false', Bool.not_eq_true, Bool.not_eq_false, decide_eq_true_eq, decide_eq_false_iff_not, gt_iff_lt, ge_iff_le]; omega) | (simp; done))
         ·refine wl (stp_off h rfl rfl rfl rfl rfl hb8 fun a h => ?_)
          refine wl (stp_off h rfl rfl rfl rfl rfl hb8 fun a h => ?_)
          refine wl (stp_off h rfl rfl rfl rfl rfl hb8 fun a h => ?_)
          refine wl (stp_un h rfl rfl rfl rfl rfl fun a h => ?_)
          refine wl (stp_un h rfl rfl rfl rfl rfl fun a h => ?_)
          refine wl (stp_un h rfl rfl rfl rfl rfl fun a h => ?_)
          refine wl (stp_off h rfl rfl rfl rfl rfl hb8 fun a h => ?_)
          refine wl (stp_on h rfl rfl rfl hb7 (vl h (pckF h rfl hb8 rfl) fun a h => ?_))
          refine wvl h (pckF h rfl hb7 rfl) fun a h => ?_
          refine wn ?_
          refine cnd1 h rfl (fun e => nomatch e) (fun _ => ?_)
          refine skp ?_
          refine wp_seq ?_
          refine rg ?_
          refine wmv h rfl fun a h => ?_
          refine wl (cal h rfl en37_W35 (Late_R _ _) fun u w10 ⟨e1, e2⟩ a h => ?_)
          subst e1
          subst e2
          refine wvl h (not_ h rfl) fun a h => ?_
          refine wn ?_
          refine cnd1 h rfl (fun hb9 => ?_) (fun hb9 => ?_)
          ·refine rg ?_
           refine wmv h rfl fun a h => ?_
           refine wvl h (eqi h rfl rfl) fun a h => ?_
           refine wmv h rfl fun a h => ?_
           refine split (t := 105) h rfl (fun hb10 => ?_) (fun hb10 => ?_)
           ·refine wl (stp_on h rfl rfl rfl hb10 (vl h (mov h rfl) fun a h => ?_))
            refine wl (stp_on h rfl rfl rfl hb10 (vl h (eqi h rfl rfl) fun a h => ?_))
            refine wvl h (pckT h rfl hb10 rfl) fun a h => ?_
            refine wmv h rfl fun a h => ?_
            refine split (t := 109) h rfl (fun hb11 => ?_) (fun hb11 => ?_)
            ·refine wl (stp_on h rfl rfl rfl hb11 (cal h rfl en20_W35 (known_L _ (hGl.keep hp)) fun u w11 ⟨e1, e2⟩ a h => ?_))
             subst e1
             have hp := hp.below e2
             refine wvl h (pckT h rfl hb11 rfl) fun a h => ?_
             refine wsg h rfl fun a h => ?_
             refine wn ?_
             refine wp_ret ?_
             try simp only [xqs, ↓reduceIte, Nat.reduceEqDiff]
             refine rt_1 h rfl (rvT h rfl) ?_
             exact ⟨_, rfl, rfl, hp.bel⟩
            ·exact absurd hb11 (by first | decide | simp)
           ·exact absurd hb10 (by first | decide | simp)
          ·exact absurd hb9 (by rw [hla]; decide)
      ·exact absurd hb5 (by first | decide | (simp only [Bool.not_eq_true', Bool.not_eq_false', Bool.not_eq_true, Bool.not_eq_false, decide_eq_true_eq, decide_eq_false_iff_not, gt_iff_lt, ge_iff_le]; omega) | (simp; done))
    ·exact absurd hb3 (by rw [show rising 0 ((e.feasts.length : Int) - 1) st = true from hse]; decide)
   ·exact absurd hb2 (by rw [hen]; decide)
  ·have hwf := within_some hw
   have hwv : withinI (within e st d1 d2) = n := by rw [hw]; rfl
   refine wvl h (ldO (us := [_, _, _, _, _, _, _, _, _, _, _]) h hp rfl 0 rfl sz32 rfl ag32) fun a h => ?_
   refine wmv h rfl fun a h => ?_
   refine wmv h rfl fun a h => ?_
   refine wmv h rfl fun a h => ?_
   refine wl (cal h rfl en34 (Within_is (hE0.keep hp cl0) hspan hw) fun u w12 ⟨e1, e2⟩ a h => ?_)
   subst e1
   have hp := hp.below e2
   refine wmv h rfl fun a h => ?_
   refine wvl h (ext h rfl rfl) fun a h => ?_
   refine wvl h (ext h rfl rfl) fun a h => ?_
   refine wsg h rfl fun a h => ?_
   refine wsg h rfl fun a h => ?_
   refine wn ?_
   refine rg ?_
   refine wvl h (ldO (us := [_, _, _, _, _, _, _, _, _, _, _]) h hp rfl 0 rfl sz32 rfl ag32) fun a h => ?_
   refine wmv h rfl fun a h => ?_
   refine wmv h rfl fun a h => ?_
   refine wmv h rfl fun a h => ?_
   refine wmv h rfl fun a h => ?_
   refine wl (cal h rfl en35 (Until_x x e s2 st _ _ _ _ (hG.keep hp cl0) (hS2.keep (by decide) hp cl0) (by rw [Bool.and_eq_false_iff]; exact .inr (by rw [Bool.and_eq_false_iff]; exact .inr hla))) fun u w13 ⟨e1, e2⟩ a h => ?_)
   subst e1
   have hp := hp.below e2
   refine wmv h rfl fun a h => ?_
   refine wvl h (ext h rfl rfl) fun a h => ?_
   refine wvl h (ext h rfl rfl) fun a h => ?_
   refine wsg h rfl fun a h => ?_
   refine wsg h rfl fun a h => ?_
   refine wn ?_
   refine rg ?_
   refine wvl h (ldO (us := [_, _, _, _, _, _, _, _, _, _, _]) h hp rfl 0 rfl sz32 rfl ag32) fun a h => ?_
   refine wl (cal h rfl en16_W35 (Engine_R x e _ (by first | exact hG.keep hp cl0 | exact (hE0.keep hp cl0).g)) fun u w14 ⟨e1, e2⟩ a h => ?_)
   subst e1
   have hp := hp.below e2
   refine wmv h rfl fun a h => ?_
   refine split (t := 42) h rfl (fun hb12 => ?_) (fun hb12 => ?_)
   ·refine wl (stp_on h rfl rfl rfl hb12 (vl h (fad h rfl fo32_4) fun a h => ?_))
    refine wl (stp_on h rfl rfl rfl hb12 (vl h (ldo h hp rfl 0 rfl rfl ag30) fun a h => ?_))
    refine wl (stp_on h rfl rfl rfl hb12 (vl h (mov h rfl) fun a h => ?_))
    refine wl (stp_on h rfl rfl rfl hb12 (cal h rfl en17_W35 (Set_T _ _ _ _ _ (hE0.keep hp cl0).s (hE0.keep hp cl0).g.f) fun u w15 ⟨e1, e2⟩ a h => ?_))
    subst e1
    have hp := hp.below e2
    refine wvl h (pckT h rfl hb12 rfl) fun a h => ?_
    refine wmv h rfl fun a h => ?_
    refine split (t := 48) h rfl (fun hb13 => ?_) (fun hb13 => ?_)
    ·refine wl (stp_on h rfl rfl rfl hb13 (vl h (mov h rfl) fun a h => ?_))
     refine wl (stp_on h rfl rfl rfl hb13 (vl h (mov h rfl) fun a h => ?_))
     refine wl (stp_on h rfl rfl rfl hb13 (cal h rfl en26_W35 (Span_R _ _ _) fun u w16 ⟨e1, e2⟩ a h => ?_))
     subst e1
     subst e2
     refine wvl h (pckT h rfl hb13 rfl) fun a h => ?_
     refine wsg h rfl fun a h => ?_
     refine wn ?_
     refine wp_seq ?_
     refine rg ?_
     refine wmv h rfl fun a h => ?_
     refine wvl h (not_ h rfl) fun a h => ?_
     refine wn ?_
     refine cnd1 h rfl (fun hb14 => ?_) (fun hb14 => ?_)
     ·exact absurd hb14 (by rw [show isSpan d1 d2 = true from hspan]; decide)
     ·refine skp ?_
      refine wp_seq ?_
      refine rg ?_
      refine wvl h (ldO (us := [_, _, _, _, _, _, _, _, _, _, _]) h hp rfl 0 rfl sz32 rfl ag32) fun a h => ?_
      refine wmv h rfl fun a h => ?_
      refine wmv h rfl fun a h => ?_
      refine wmv h rfl fun a h => ?_
      refine wl (cal h rfl en36_W35 (Within_Rv (hE0.keep hp cl0) (by omega) hwv) fun u w17 ⟨e1, e2⟩ a h => ?_)
      subst e1
      have hp := hp.below e2
      refine wsg h rfl fun a h => ?_
      refine wn ?_
      refine rg ?_
      refine wmv h rfl fun a h => ?_
      refine wvl h (lss h rfl rfl) fun a h => ?_
      refine wmv h rfl fun a h => ?_
      refine split (t := 79) h rfl (fun hb15 => ?_) (fun hb15 => ?_)
      ·exact absurd hb15 (by first | decide | (simp only [Bool.not_eq_true', Bool.not_eq_false', Bool.not_eq_true, Bool.not_eq_false, decide_eq_true_eq, decide_eq_false_iff_not, gt_iff_lt, ge_iff_le]; omega) | (simp; done))
      ·refine wl (stp_off h rfl rfl rfl rfl rfl hb15 fun a h => ?_)
       refine wl (stp_off h rfl rfl rfl rfl rfl hb15 fun a h => ?_)
       refine wl (stp_off h rfl rfl rfl rfl rfl hb15 fun a h => ?_)
       refine wl (stp_un h rfl rfl rfl rfl rfl fun a h => ?_)
       refine wl (stp_un h rfl rfl rfl rfl rfl fun a h => ?_)
       refine wl (stp_off h rfl rfl rfl rfl rfl hb15 fun a h => ?_)
       refine wvl h (pckF h rfl hb15 rfl) fun a h => ?_
       refine wmv h rfl fun a h => ?_
       refine wl (stp_on h rfl rfl rfl rfl (vl h (mov h rfl) fun a h => ?_))
       refine wl (stp_on h rfl rfl rfl rfl (vl h (geq h rfl rfl) fun a h => ?_))
       refine wl (stp_on h rfl rfl rfl rfl (vl h (mov h rfl) fun a h => ?_))
       refine split (t := 90) h rfl (fun hb16 => ?_) (fun hb16 => ?_)
       ·refine wl (stp_on h rfl rfl rfl hb16 (vl h (mov h rfl) fun a h => ?_))
        refine wl (stp_on h rfl rfl rfl hb16 (vl h (nei h rfl rfl) fun a h => ?_))
        refine wl (stp_on h rfl rfl rfl hb16 (vl h (mov h rfl) fun a h => ?_))
        refine split (t := 93) h rfl (fun hb17 => ?_) (fun hb17 => ?_)
        ·exact absurd hb17 (by first | decide | (simp only [Bool.not_eq_true', Bool.not_eq_false', Bool.not_eq_true, Bool.not_eq_false, decide_eq_true_eq, decide_eq_false_iff_not, gt_iff_lt, ge_iff_le]; omega) | (simp; done))
        ·refine wl (stp_on h rfl rfl rfl hb17 (vl h (mov h rfl) fun a h => ?_))
         refine wl (stp_on h rfl rfl rfl hb17 (vl h (mov h rfl) fun a h => ?_))
         refine wl (stp_on h rfl rfl rfl hb17 (vl h (nei h rfl rfl) fun a h => ?_))
         refine wl (stp_on h rfl rfl rfl hb16 (vl h (pckF h rfl hb17 rfl) fun a h => ?_))
         refine wl (stp_on h rfl rfl rfl rfl (vl h (pckT h rfl hb16 rfl) fun a h => ?_))
         refine wvl h (pckF h rfl rfl rfl) fun a h => ?_
         refine wn ?_
         refine cnd1 h rfl (fun hb18 => ?_) (fun hb18 => ?_)
         ·exact absurd hb18 (by first | decide | (simp only [Bool.not_eq_true', Bool.not_eq_false', Bool.not_eq_true, Bool.not_eq_false, decide_eq_true_eq, decide_eq_false_iff_not, gt_iff_lt, ge_iff_le]; omega) | (simp; done))
         ·refine skp ?_
          refine wp_seq ?_
          refine rg ?_
          refine wmv h rfl fun a h => ?_
          refine wl (cal h rfl en37_W35 (Late_R _ _) fun u w18 ⟨e1, e2⟩ a h => ?_)
          subst e1
          subst e2
          refine wvl h (not_ h rfl) fun a h => ?_
          refine wn ?_
          refine cnd1 h rfl (fun hb19 => ?_) (fun hb19 => ?_)
          ·refine rg ?_
           refine wmv h rfl fun a h => ?_
           refine wvl h (eqi h rfl rfl) fun a h => ?_
           refine wmv h rfl fun a h => ?_
           refine split (t := 105) h rfl (fun hb20 => ?_) (fun hb20 => ?_)
           ·refine wl (stp_on h rfl rfl rfl hb20 (vl h (mov h rfl) fun a h => ?_))
            refine wl (stp_on h rfl rfl rfl hb20 (vl h (eqi h rfl rfl) fun a h => ?_))
            refine wvl h (pckT h rfl hb20 rfl) fun a h => ?_
            refine wmv h rfl fun a h => ?_
            refine split (t := 109) h rfl (fun hb21 => ?_) (fun hb21 => ?_)
            ·refine wl (stp_on h rfl rfl rfl hb21 (cal h rfl en20_W35 (known_L _ (hGl.keep hp)) fun u w19 ⟨e1, e2⟩ a h => ?_))
             subst e1
             have hp := hp.below e2
             refine wvl h (pckT h rfl hb21 rfl) fun a h => ?_
             refine wsg h rfl fun a h => ?_
             refine wn ?_
             refine wp_ret ?_
             try simp only [xqs, ↓reduceIte, Nat.reduceEqDiff]
             refine rt_1 h rfl (rvT h rfl) ?_
             exact ⟨_, rfl, rfl, hp.bel⟩
            ·exact absurd hb21 (by first | decide | simp)
           ·exact absurd hb20 (by first | decide | simp)
          ·exact absurd hb19 (by rw [hla]; decide)
       ·exact absurd hb16 (by first | decide | (simp only [Bool.not_eq_true', Bool.not_eq_false', Bool.not_eq_true, Bool.not_eq_false, decide_eq_true_eq, decide_eq_false_iff_not, gt_iff_lt, ge_iff_le]; omega) | (simp; done))
    ·exact absurd hb13 (by rw [show rising 0 ((e.feasts.length : Int) - 1) st = true from hse]; decide)
   ·exact absurd hb12 (by rw [hen]; decide)
theorem EclipseWithins_g (x : EV) (e : Eng) (s2 : SV) (st : List Int) (d1 d2 lt : Int) (w : World) (hE0 : RdE w x e s2 st) (hGl : Glb w) (hspan : (inR d1 1 9000 && inR d2 d1 9000 && decide (d2 - d1 ≤ 400)) = true) (hla : isLate lt = true) : Ret Tryz.prog 6 #[.agg #[x.b.v, .int .i64 e.nnum, .int .i64 e.nden, .int .i64 e.nstart, x.s.v, x.m.v, x.n.v, x.f.v, .int .i64 e.new, .int .i64 e.full, .int .i64 e.wide], s2.v, .int .i64 d1, .int .i64 d2, .int .i64 lt] w fun u w' => u = .bool true ∧ Below w.heap.size w w' := by
 have hen := hE0.ok
 have hG := hE0.g
 have hS2 := hE0.s
 have hse := isSet_rise hE0.set
 have hd := hspan
 simp only [inR, Bool.and_eq_true, decide_eq_true_eq] at hd
 have hld := hla
 simp only [isLate, inR, Bool.and_eq_true, decide_eq_true_eq] at hld
 have hspl : (inR d1 1 9000 && inR d2 d1 9000 && decide (d2 - d1 ≤ 400) && inR lt 0 30) = true := by rw [Bool.and_eq_true]; exact ⟨hspan, hla⟩
 have hp : Hp c0 w w [] := Hp.start trivial
 refine enter Tryz.func6 rfl (N := 140) rfl rfl fun a h => ?_
 refine rg ?_
 refine wl (box (cs := #[_, _, _, _, _, _, _, _, _, _, _]) h hp rfl rfl fun a w1 g1 hg1 h hp => ?_)
 refine wsg h rfl fun a h => ?_
 refine wn ?_
 refine wp_seq ?_
 refine rg ?_
 refine wvl h (ldO (us := [_, _, _, _, _, _, _, _, _, _, _]) h hp rfl 0 rfl sz32 rfl ag32) fun a h => ?_
 refine wmv h rfl fun a h => ?_
 refine wl (cal h rfl en15_W35 (short_L x e s2 st _ (hG.keep hp cl0) (hS2.keep (by decide) hp cl0)) fun u w2 ⟨⟨bsh, e1⟩, e2⟩ a h => ?_)
 subst e1
 have hp := hp.below e2
 refine wvl h (not_ h rfl) fun a h => ?_
 refine wn ?_
 refine cnd1 h rfl (fun hb1 => ?_) (fun hb1 => ?_)
 ·refine rg ?_
  refine wl (cal h rfl en20_W35 (known_L _ (hGl.keep hp)) fun u w3 ⟨e1, e2⟩ a h => ?_)
  subst e1
  have hp := hp.below e2
  refine wsg h rfl fun a h => ?_
  refine wn ?_
  refine wp_ret ?_
  try simp only [xqs, ↓reduceIte, Nat.reduceEqDiff]
  refine rt_1 h rfl (rvT h rfl) ?_
  exact ⟨_, rfl, rfl, hp.bel⟩
 ·refine skp ?_
  refine rg ?_
  rcases hw : within e st d1 d2 with _ | n
  ·have hwv : withinI (within e st d1 d2) = -1 := by rw [hw]; rfl
   refine wvl h (ldO (us := [_, _, _, _, _, _, _, _, _, _, _]) h hp rfl 0 rfl sz32 rfl ag32) fun a h => ?_
   refine wmv h rfl fun a h => ?_
   refine wmv h rfl fun a h => ?_
   refine wmv h rfl fun a h => ?_
   refine wl (cal h rfl en34 (Within_no (hE0.keep hp cl0) hspan hw) fun u w4 ⟨e1, e2⟩ a h => ?_)
   subst e1
   have hp := hp.below e2
   refine wmv h rfl fun a h => ?_
   refine wvl h (ext h rfl rfl) fun a h => ?_
   refine wvl h (ext h rfl rfl) fun a h => ?_
   refine wsg h rfl fun a h => ?_
   refine wsg h rfl fun a h => ?_
   refine wn ?_
   refine rg ?_
   rcases until_two e st (lt := lt) (by omega : d1 ≤ d2) with ⟨v, hu, hv, -⟩ | ⟨v, hu, hv, hv2, -⟩
   ·refine wvl h (ldO (us := [_, _, _, _, _, _, _, _, _, _, _]) h hp rfl 0 rfl sz32 rfl ag32) fun a h => ?_
    refine wmv h rfl fun a h => ?_
    refine wmv h rfl fun a h => ?_
    refine wmv h rfl fun a h => ?_
    refine wmv h rfl fun a h => ?_
    refine wl (cal h rfl en35 (Until_lo (hE0.keep hp cl0) hspl hu hv) fun u w5 ⟨e1, e2⟩ a h => ?_)
    subst e1
    have hp := hp.below e2
    refine wmv h rfl fun a h => ?_
    refine wvl h (ext h rfl rfl) fun a h => ?_
    refine wvl h (ext h rfl rfl) fun a h => ?_
    refine wsg h rfl fun a h => ?_
    refine wsg h rfl fun a h => ?_
    refine wn ?_
    refine rg ?_
    refine wvl h (ldO (us := [_, _, _, _, _, _, _, _, _, _, _]) h hp rfl 0 rfl sz32 rfl ag32) fun a h => ?_
    refine wl (cal h rfl en16_W35 (Engine_R x e _ (by first | exact hG.keep hp cl0 | exact (hE0.keep hp cl0).g)) fun u w6 ⟨e1, e2⟩ a h => ?_)
    subst e1
    have hp := hp.below e2
    refine wmv h rfl fun a h => ?_
    refine split (t := 42) h rfl (fun hb2 => ?_) (fun hb2 => ?_)
    ·refine wl (stp_on h rfl rfl rfl hb2 (vl h (fad h rfl fo32_4) fun a h => ?_))
     refine wl (stp_on h rfl rfl rfl hb2 (vl h (ldo h hp rfl 0 rfl rfl ag30) fun a h => ?_))
     refine wl (stp_on h rfl rfl rfl hb2 (vl h (mov h rfl) fun a h => ?_))
     refine wl (stp_on h rfl rfl rfl hb2 (cal h rfl en17_W35 (Set_T _ _ _ _ _ (hE0.keep hp cl0).s (hE0.keep hp cl0).g.f) fun u w7 ⟨e1, e2⟩ a h => ?_))
     subst e1
     have hp := hp.below e2
     refine wvl h (pckT h rfl hb2 rfl) fun a h => ?_
     refine wmv h rfl fun a h => ?_
     refine split (t := 48) h rfl (fun hb3 => ?_) (fun hb3 => ?_)
     ·refine wl (stp_on h rfl rfl rfl hb3 (vl h (mov h rfl) fun a h => ?_))
      refine wl (stp_on h rfl rfl rfl hb3 (vl h (mov h rfl) fun a h => ?_))
      refine wl (stp_on h rfl rfl rfl hb3 (cal h rfl en26_W35 (Span_R _ _ _) fun u w8 ⟨e1, e2⟩ a h => ?_))
      subst e1
      subst e2
      refine wvl h (pckT h rfl hb3 rfl) fun a h => ?_
      refine wsg h rfl fun a h => ?_
      refine wn ?_
      refine wp_seq ?_
      refine rg ?_
      refine wmv h rfl fun a h => ?_
      refine wvl h (not_ h rfl) fun a h => ?_
      refine wn ?_
      refine cnd1 h rfl (fun hb4 => ?_) (fun hb4 => ?_)
      ·exact absurd hb4 (by rw [show isSpan d1 d2 = true from hspan]; decide)
      ·refine skp ?_
       refine wp_seq ?_
       refine rg ?_
       refine wvl h (ldO (us := [_, _, _, _, _, _, _, _, _, _, _]) h hp rfl 0 rfl sz32 rfl ag32) fun a h => ?_
       refine wmv h rfl fun a h => ?_
       refine wmv h rfl fun a h => ?_
       refine wmv h rfl fun a h => ?_
       refine wl (cal h rfl en36_W35 (Within_Rv (hE0.keep hp cl0) (by omega) hwv) fun u w9 ⟨e1, e2⟩ a h => ?_)
       subst e1
       have hp := hp.below e2
       refine wsg h rfl fun a h => ?_
       refine wn ?_
       refine rg ?_
       refine wmv h rfl fun a h => ?_
       refine wvl h (lss h rfl rfl) fun a h => ?_
       refine wmv h rfl fun a h => ?_
       refine split (t := 79) h rfl (fun hb5 => ?_) (fun hb5 => ?_)
       ·refine wl (stp_on h rfl rfl rfl hb5 (vl h (mov h rfl) fun a h => ?_))
        refine wl (stp_on h rfl rfl rfl hb5 (vl h (nei h rfl rfl) fun a h => ?_))
        refine wl (stp_on h rfl rfl rfl hb5 (vl h (mov h rfl) fun a h => ?_))
        refine split (t := 82) h rfl (fun hb6 => ?_) (fun hb6 => ?_)
        ·exact absurd hb6 (by first | decide | (simp only [Bool.not_eq_true', Bool.not_eq_false', Bool.not_eq_true, Bool.not_eq_false, decide_eq_true_eq, decide_eq_false_iff_not, gt_iff_lt, ge_iff_le]; omega) | (simp; done))
        ·refine wl (stp_on h rfl rfl rfl hb6 (vl h (mov h rfl) fun a h => ?_))
         refine wl (stp_on h rfl rfl rfl hb6 (vl h (nei h rfl rfl) fun a h => ?_))
         refine wl (stp_on h rfl rfl rfl hb5 (vl h (pckF h rfl hb6 rfl) fun a h => ?_))
         refine wvl h (pckT h rfl hb5 rfl) fun a h => ?_
         refine wmv h rfl fun a h => ?_
         refine split (t := 87) h rfl (fun hb7 => ?_) (fun hb7 => ?_)
         ·exact absurd hb7 (by first | decide | (simp only [Bool.not_eq_true', Bool.not_eq_false', Bool.not_eq_true, Bool.not_eq_false, decide_eq_true_eq, decide_eq_false_iff_not, gt_iff_lt, ge_iff_le]; omega) | (simp; done))
         ·refine wl (stp_on h rfl rfl rfl hb7 (vl h (mov h rfl) fun a h => ?_))
          refine wl (stp_on h rfl rfl rfl hb7 (vl h (geq h rfl rfl) fun a h => ?_))
          refine wl (stp_on h rfl rfl rfl hb7 (vl h (mov h rfl) fun a h => ?_))
          refine split (t := 90) h rfl (fun hb8 => ?_) (fun hb8 => ?_)
          ·exact absurd hb8 (by first | decide | (simp only [Bool.not_eq_true', Bool.not_eq_false', Bool.not_eq_true, Bool.not_eq_false, decide_eq_true_eq, decide_eq_false_iff_not, gt_iff_lt, ge_iff_le]; omega) | (simp; done))
          ·refine wl (stp_off h rfl rfl rfl rfl rfl hb8 fun a h => ?_)
           refine wl (stp_off h rfl rfl rfl rfl rfl hb8 fun a h => ?_)
           refine wl (stp_off h rfl rfl rfl rfl rfl hb8 fun a h => ?_)
           refine wl (stp_un h rfl rfl rfl rfl rfl fun a h => ?_)
           refine wl (stp_un h rfl rfl rfl rfl rfl fun a h => ?_)
           refine wl (stp_un h rfl rfl rfl rfl rfl fun a h => ?_)
           refine wl (stp_off h rfl rfl rfl rfl rfl hb8 fun a h => ?_)
           refine wl (stp_on h rfl rfl rfl hb7 (vl h (pckF h rfl hb8 rfl) fun a h => ?_))
           refine wvl h (pckF h rfl hb7 rfl) fun a h => ?_
           refine wn ?_
           refine cnd1 h rfl (fun e => nomatch e) (fun _ => ?_)
           refine skp ?_
           refine wp_seq ?_
           refine rg ?_
           refine wmv h rfl fun a h => ?_
           refine wl (cal h rfl en37_W35 (Late_R _ _) fun u w10 ⟨e1, e2⟩ a h => ?_)
           subst e1
           subst e2
           refine wvl h (not_ h rfl) fun a h => ?_
           refine wn ?_
           refine cnd1 h rfl (fun hb9 => ?_) (fun hb9 => ?_)
           ·exact absurd hb9 (by rw [hla]; decide)
           ·refine skp ?_
            refine rg ?_
            refine wvl h (ldO (us := [_, _, _, _, _, _, _, _, _, _, _]) h hp rfl 0 rfl sz32 rfl ag32) fun a h => ?_
            refine wmv h rfl fun a h => ?_
            refine wmv h rfl fun a h => ?_
            refine wmv h rfl fun a h => ?_
            refine wmv h rfl fun a h => ?_
            refine wl (cal h rfl en38_W35 (Until_Rv (hE0.keep hp cl0) (by omega) (by omega) hu) fun u w11 ⟨e1, e2⟩ a h => ?_)
            subst e1
            have hp := hp.below e2
            refine wsg h rfl fun a h => ?_
            refine wn ?_
            refine wp_seq ?_
            refine rg ?_
            refine wmv h rfl fun a h => ?_
            refine wmv h rfl fun a h => ?_
            refine wvl h (lss h rfl rfl) fun a h => ?_
            refine wn ?_
            refine cnd1 h rfl (fun hb10 => ?_) (fun hb10 => ?_)
            ·refine rg ?_
             refine wmv h rfl fun a h => ?_
             refine wvl h (eqi h rfl rfl) fun a h => ?_
             refine wmv h rfl fun a h => ?_
             refine split (t := 123) h rfl (fun hb11 => ?_) (fun hb11 => ?_)
             ·refine wl (stp_on h rfl rfl rfl hb11 (vl h (mov h rfl) fun a h => ?_))
              refine wl (stp_on h rfl rfl rfl hb11 (vl h (eqi h rfl rfl) fun a h => ?_))
              refine wvl h (pckT h rfl hb11 rfl) fun a h => ?_
              refine wmv h rfl fun a h => ?_
              refine split (t := 127) h rfl (fun hb12 => ?_) (fun hb12 => ?_)
              ·refine wl (stp_on h rfl rfl rfl hb12 (cal h rfl en20_W35 (known_L _ (hGl.keep hp)) fun u w12 ⟨e1, e2⟩ a h => ?_))
               subst e1
               have hp := hp.below e2
               refine wvl h (pckT h rfl hb12 rfl) fun a h => ?_
               refine wsg h rfl fun a h => ?_
               refine wn ?_
               refine wp_ret ?_
               try simp only [xqs, ↓reduceIte, Nat.reduceEqDiff]
               refine rt_1 h rfl (rvT h rfl) ?_
               exact ⟨_, rfl, rfl, hp.bel⟩
              ·exact absurd hb12 (by first | decide | simp)
             ·exact absurd hb11 (by first | decide | simp)
            ·exact absurd hb10 (by first | decide | (simp only [Bool.not_eq_true', Bool.not_eq_false', Bool.not_eq_true, Bool.not_eq_false, decide_eq_true_eq, decide_eq_false_iff_not, gt_iff_lt, ge_iff_le]; omega) | (simp; done))
       ·exact absurd hb5 (by first | decide | (simp only [Bool.not_eq_true', Bool.not_eq_false', Bool.not_eq_true, Bool.not_eq_false, decide_eq_true_eq, decide_eq_false_iff_not, gt_iff_lt, ge_iff_le]; omega) | (simp; done))
     ·exact absurd hb3 (by rw [show rising 0 ((e.feasts.length : Int) - 1) st = true from hse]; decide)
    ·exact absurd hb2 (by rw [hen]; decide)
   ·refine wvl h (ldO (us := [_, _, _, _, _, _, _, _, _, _, _]) h hp rfl 0 rfl sz32 rfl ag32) fun a h => ?_
    refine wmv h rfl fun a h => ?_
    refine wmv h rfl fun a h => ?_
    refine wmv h rfl fun a h => ?_
    refine wmv h rfl fun a h => ?_
    refine wl (cal h rfl en35 (Until_hi (hE0.keep hp cl0) hspl hu hv) fun u w13 ⟨e1, e2⟩ a h => ?_)
    subst e1
    have hp := hp.below e2
    refine wmv h rfl fun a h => ?_
    refine wvl h (ext h rfl rfl) fun a h => ?_
    refine wvl h (ext h rfl rfl) fun a h => ?_
    refine wsg h rfl fun a h => ?_
    refine wsg h rfl fun a h => ?_
    refine wn ?_
    refine rg ?_
    refine wvl h (ldO (us := [_, _, _, _, _, _, _, _, _, _, _]) h hp rfl 0 rfl sz32 rfl ag32) fun a h => ?_
    refine wl (cal h rfl en16_W35 (Engine_R x e _ (by first | exact hG.keep hp cl0 | exact (hE0.keep hp cl0).g)) fun u w14 ⟨e1, e2⟩ a h => ?_)
    subst e1
    have hp := hp.below e2
    refine wmv h rfl fun a h => ?_
    refine split (t := 42) h rfl (fun hb13 => ?_) (fun hb13 => ?_)
    ·refine wl (stp_on h rfl rfl rfl hb13 (vl h (fad h rfl fo32_4) fun a h => ?_))
     refine wl (stp_on h rfl rfl rfl hb13 (vl h (ldo h hp rfl 0 rfl rfl ag30) fun a h => ?_))
     refine wl (stp_on h rfl rfl rfl hb13 (vl h (mov h rfl) fun a h => ?_))
     refine wl (stp_on h rfl rfl rfl hb13 (cal h rfl en17_W35 (Set_T _ _ _ _ _ (hE0.keep hp cl0).s (hE0.keep hp cl0).g.f) fun u w15 ⟨e1, e2⟩ a h => ?_))
     subst e1
     have hp := hp.below e2
     refine wvl h (pckT h rfl hb13 rfl) fun a h => ?_
     refine wmv h rfl fun a h => ?_
     refine split (t := 48) h rfl (fun hb14 => ?_) (fun hb14 => ?_)
     ·refine wl (stp_on h rfl rfl rfl hb14 (vl h (mov h rfl) fun a h => ?_))
      refine wl (stp_on h rfl rfl rfl hb14 (vl h (mov h rfl) fun a h => ?_))
      refine wl (stp_on h rfl rfl rfl hb14 (cal h rfl en26_W35 (Span_R _ _ _) fun u w16 ⟨e1, e2⟩ a h => ?_))
      subst e1
      subst e2
      refine wvl h (pckT h rfl hb14 rfl) fun a h => ?_
      refine wsg h rfl fun a h => ?_
      refine wn ?_
      refine wp_seq ?_
      refine rg ?_
      refine wmv h rfl fun a h => ?_
      refine wvl h (not_ h rfl) fun a h => ?_
      refine wn ?_
      refine cnd1 h rfl (fun hb15 => ?_) (fun hb15 => ?_)
      ·exact absurd hb15 (by rw [show isSpan d1 d2 = true from hspan]; decide)
      ·refine skp ?_
       refine wp_seq ?_
       refine rg ?_
       refine wvl h (ldO (us := [_, _, _, _, _, _, _, _, _, _, _]) h hp rfl 0 rfl sz32 rfl ag32) fun a h => ?_
       refine wmv h rfl fun a h => ?_
       refine wmv h rfl fun a h => ?_
       refine wmv h rfl fun a h => ?_
       refine wl (cal h rfl en36_W35 (Within_Rv (hE0.keep hp cl0) (by omega) hwv) fun u w17 ⟨e1, e2⟩ a h => ?_)
       subst e1
       have hp := hp.below e2
       refine wsg h rfl fun a h => ?_
       refine wn ?_
       refine rg ?_
       refine wmv h rfl fun a h => ?_
       refine wvl h (lss h rfl rfl) fun a h => ?_
       refine wmv h rfl fun a h => ?_
       refine split (t := 79) h rfl (fun hb16 => ?_) (fun hb16 => ?_)
       ·refine wl (stp_on h rfl rfl rfl hb16 (vl h (mov h rfl) fun a h => ?_))
        refine wl (stp_on h rfl rfl rfl hb16 (vl h (nei h rfl rfl) fun a h => ?_))
        refine wl (stp_on h rfl rfl rfl hb16 (vl h (mov h rfl) fun a h => ?_))
        refine split (t := 82) h rfl (fun hb17 => ?_) (fun hb17 => ?_)
        ·exact absurd hb17 (by first | decide | (simp only [Bool.not_eq_true', Bool.not_eq_false', Bool.not_eq_true, Bool.not_eq_false, decide_eq_true_eq, decide_eq_false_iff_not, gt_iff_lt, ge_iff_le]; omega) | (simp; done))
        ·refine wl (stp_on h rfl rfl rfl hb17 (vl h (mov h rfl) fun a h => ?_))
         refine wl (stp_on h rfl rfl rfl hb17 (vl h (nei h rfl rfl) fun a h => ?_))
         refine wl (stp_on h rfl rfl rfl hb16 (vl h (pckF h rfl hb17 rfl) fun a h => ?_))
         refine wvl h (pckT h rfl hb16 rfl) fun a h => ?_
         refine wmv h rfl fun a h => ?_
         refine split (t := 87) h rfl (fun hb18 => ?_) (fun hb18 => ?_)
         ·exact absurd hb18 (by first | decide | (simp only [Bool.not_eq_true', Bool.not_eq_false', Bool.not_eq_true, Bool.not_eq_false, decide_eq_true_eq, decide_eq_false_iff_not, gt_iff_lt, ge_iff_le]; omega) | (simp; done))
         ·refine wl (stp_on h rfl rfl rfl hb18 (vl h (mov h rfl) fun a h => ?_))
          refine wl (stp_on h rfl rfl rfl hb18 (vl h (geq h rfl rfl) fun a h => ?_))
          refine wl (stp_on h rfl rfl rfl hb18 (vl h (mov h rfl) fun a h => ?_))
          refine split (t := 90) h rfl (fun hb19 => ?_) (fun hb19 => ?_)
          ·exact absurd hb19 (by first | decide | (simp only [Bool.not_eq_true', Bool.not_eq_false', Bool.not_eq_true, Bool.not_eq_false, decide_eq_true_eq, decide_eq_false_iff_not, gt_iff_lt, ge_iff_le]; omega) | (simp; done))
          ·refine wl (stp_off h rfl rfl rfl rfl rfl hb19 fun a h => ?_)
           refine wl (stp_off h rfl rfl rfl rfl rfl hb19 fun a h => ?_)
           refine wl (stp_off h rfl rfl rfl rfl rfl hb19 fun a h => ?_)
           refine wl (stp_un h rfl rfl rfl rfl rfl fun a h => ?_)
           refine wl (stp_un h rfl rfl rfl rfl rfl fun a h => ?_)
           refine wl (stp_un h rfl rfl rfl rfl rfl fun a h => ?_)
           refine wl (stp_off h rfl rfl rfl rfl rfl hb19 fun a h => ?_)
           refine wl (stp_on h rfl rfl rfl hb18 (vl h (pckF h rfl hb19 rfl) fun a h => ?_))
           refine wvl h (pckF h rfl hb18 rfl) fun a h => ?_
           refine wn ?_
           refine cnd1 h rfl (fun e => nomatch e) (fun _ => ?_)
           refine skp ?_
           refine wp_seq ?_
           refine rg ?_
           refine wmv h rfl fun a h => ?_
           refine wl (cal h rfl en37_W35 (Late_R _ _) fun u w18 ⟨e1, e2⟩ a h => ?_)
           subst e1
           subst e2
           refine wvl h (not_ h rfl) fun a h => ?_
           refine wn ?_
           refine cnd1 h rfl (fun hb20 => ?_) (fun hb20 => ?_)
           ·exact absurd hb20 (by rw [hla]; decide)
           ·refine skp ?_
            refine rg ?_
            refine wvl h (ldO (us := [_, _, _, _, _, _, _, _, _, _, _]) h hp rfl 0 rfl sz32 rfl ag32) fun a h => ?_
            refine wmv h rfl fun a h => ?_
            refine wmv h rfl fun a h => ?_
            refine wmv h rfl fun a h => ?_
            refine wmv h rfl fun a h => ?_
            refine wl (cal h rfl en38_W35 (Until_Rv (hE0.keep hp cl0) (by omega) (by omega) hu) fun u w19 ⟨e1, e2⟩ a h => ?_)
            subst e1
            have hp := hp.below e2
            refine wsg h rfl fun a h => ?_
            refine wn ?_
            refine wp_seq ?_
            refine rg ?_
            refine wmv h rfl fun a h => ?_
            refine wmv h rfl fun a h => ?_
            refine wvl h (lss h rfl rfl) fun a h => ?_
            refine wn ?_
            refine cnd1 h rfl (fun hb21 => ?_) (fun hb21 => ?_)
            ·exact absurd hb21 (by first | decide | (simp only [Bool.not_eq_true', Bool.not_eq_false', Bool.not_eq_true, Bool.not_eq_false, decide_eq_true_eq, decide_eq_false_iff_not, gt_iff_lt, ge_iff_le]; omega) | (simp; done))
            ·refine skp ?_
             refine rg ?_
             refine wmv h rfl fun a h => ?_
             refine wvl h (eqi h rfl rfl) fun a h => ?_
             refine wmv h rfl fun a h => ?_
             refine split (t := 132) h rfl (fun hb22 => ?_) (fun hb22 => ?_)
             ·refine wl (stp_on h rfl rfl rfl hb22 (vl h (mov h rfl) fun a h => ?_))
              refine wl (stp_on h rfl rfl rfl hb22 (vl h (mov h rfl) fun a h => ?_))
              refine wl (stp_on h rfl rfl rfl hb22 (vl h (eqi h rfl rfl) fun a h => ?_))
              refine wvl h (pckT h rfl hb22 rfl) fun a h => ?_
              refine wmv h rfl fun a h => ?_
              refine split (t := 137) h rfl (fun hb23 => ?_) (fun hb23 => ?_)
              ·refine wl (stp_on h rfl rfl rfl hb23 (cal h rfl en20_W35 (known_L _ (hGl.keep hp)) fun u w20 ⟨e1, e2⟩ a h => ?_))
               subst e1
               have hp := hp.below e2
               refine wvl h (pckT h rfl hb23 rfl) fun a h => ?_
               refine wsg h rfl fun a h => ?_
               refine wn ?_
               refine wp_ret ?_
               try simp only [xqs, ↓reduceIte, Nat.reduceEqDiff]
               refine rt_1 h rfl (rvT h rfl) ?_
               exact ⟨_, rfl, rfl, hp.bel⟩
              ·exact absurd hb23 (by first | decide | simp)
             ·exact absurd hb22 (by first | decide | simp)
       ·exact absurd hb16 (by first | decide | (simp only [Bool.not_eq_true', Bool.not_eq_false', Bool.not_eq_true, Bool.not_eq_false, decide_eq_true_eq, decide_eq_false_iff_not, gt_iff_lt, ge_iff_le]; omega) | (simp; done))
     ·exact absurd hb14 (by rw [show rising 0 ((e.feasts.length : Int) - 1) st = true from hse]; decide)
    ·exact absurd hb13 (by rw [hen]; decide)
  ·have hwf := within_some hw
   have hwv : withinI (within e st d1 d2) = n := by rw [hw]; rfl
   refine wvl h (ldO (us := [_, _, _, _, _, _, _, _, _, _, _]) h hp rfl 0 rfl sz32 rfl ag32) fun a h => ?_
   refine wmv h rfl fun a h => ?_
   refine wmv h rfl fun a h => ?_
   refine wmv h rfl fun a h => ?_
   refine wl (cal h rfl en34 (Within_is (hE0.keep hp cl0) hspan hw) fun u w21 ⟨e1, e2⟩ a h => ?_)
   subst e1
   have hp := hp.below e2
   refine wmv h rfl fun a h => ?_
   refine wvl h (ext h rfl rfl) fun a h => ?_
   refine wvl h (ext h rfl rfl) fun a h => ?_
   refine wsg h rfl fun a h => ?_
   refine wsg h rfl fun a h => ?_
   refine wn ?_
   refine rg ?_
   rcases until_two e st (lt := lt) (by omega : d1 ≤ d2) with ⟨v, hu, hv, -⟩ | ⟨v, hu, hv, hv2, -⟩
   ·refine wvl h (ldO (us := [_, _, _, _, _, _, _, _, _, _, _]) h hp rfl 0 rfl sz32 rfl ag32) fun a h => ?_
    refine wmv h rfl fun a h => ?_
    refine wmv h rfl fun a h => ?_
    refine wmv h rfl fun a h => ?_
    refine wmv h rfl fun a h => ?_
    refine wl (cal h rfl en35 (Until_lo (hE0.keep hp cl0) hspl hu hv) fun u w22 ⟨e1, e2⟩ a h => ?_)
    subst e1
    have hp := hp.below e2
    refine wmv h rfl fun a h => ?_
    refine wvl h (ext h rfl rfl) fun a h => ?_
    refine wvl h (ext h rfl rfl) fun a h => ?_
    refine wsg h rfl fun a h => ?_
    refine wsg h rfl fun a h => ?_
    refine wn ?_
    refine rg ?_
    refine wvl h (ldO (us := [_, _, _, _, _, _, _, _, _, _, _]) h hp rfl 0 rfl sz32 rfl ag32) fun a h => ?_
    refine wl (cal h rfl en16_W35 (Engine_R x e _ (by first | exact hG.keep hp cl0 | exact (hE0.keep hp cl0).g)) fun u w23 ⟨e1, e2⟩ a h => ?_)
    subst e1
    have hp := hp.below e2
    refine wmv h rfl fun a h => ?_
    refine split (t := 42) h rfl (fun hb24 => ?_) (fun hb24 => ?_)
    ·refine wl (stp_on h rfl rfl rfl hb24 (vl h (fad h rfl fo32_4) fun a h => ?_))
     refine wl (stp_on h rfl rfl rfl hb24 (vl h (ldo h hp rfl 0 rfl rfl ag30) fun a h => ?_))
     refine wl (stp_on h rfl rfl rfl hb24 (vl h (mov h rfl) fun a h => ?_))
     refine wl (stp_on h rfl rfl rfl hb24 (cal h rfl en17_W35 (Set_T _ _ _ _ _ (hE0.keep hp cl0).s (hE0.keep hp cl0).g.f) fun u w24 ⟨e1, e2⟩ a h => ?_))
     subst e1
     have hp := hp.below e2
     refine wvl h (pckT h rfl hb24 rfl) fun a h => ?_
     refine wmv h rfl fun a h => ?_
     refine split (t := 48) h rfl (fun hb25 => ?_) (fun hb25 => ?_)
     ·refine wl (stp_on h rfl rfl rfl hb25 (vl h (mov h rfl) fun a h => ?_))
      refine wl (stp_on h rfl rfl rfl hb25 (vl h (mov h rfl) fun a h => ?_))
      refine wl (stp_on h rfl rfl rfl hb25 (cal h rfl en26_W35 (Span_R _ _ _) fun u w25 ⟨e1, e2⟩ a h => ?_))
      subst e1
      subst e2
      refine wvl h (pckT h rfl hb25 rfl) fun a h => ?_
      refine wsg h rfl fun a h => ?_
      refine wn ?_
      refine wp_seq ?_
      refine rg ?_
      refine wmv h rfl fun a h => ?_
      refine wvl h (not_ h rfl) fun a h => ?_
      refine wn ?_
      refine cnd1 h rfl (fun hb26 => ?_) (fun hb26 => ?_)
      ·exact absurd hb26 (by rw [show isSpan d1 d2 = true from hspan]; decide)
      ·refine skp ?_
       refine wp_seq ?_
       refine rg ?_
       refine wvl h (ldO (us := [_, _, _, _, _, _, _, _, _, _, _]) h hp rfl 0 rfl sz32 rfl ag32) fun a h => ?_
       refine wmv h rfl fun a h => ?_
       refine wmv h rfl fun a h => ?_
       refine wmv h rfl fun a h => ?_
       refine wl (cal h rfl en36_W35 (Within_Rv (hE0.keep hp cl0) (by omega) hwv) fun u w26 ⟨e1, e2⟩ a h => ?_)
       subst e1
       have hp := hp.below e2
       refine wsg h rfl fun a h => ?_
       refine wn ?_
       refine rg ?_
       refine wmv h rfl fun a h => ?_
       refine wvl h (lss h rfl rfl) fun a h => ?_
       refine wmv h rfl fun a h => ?_
       refine split (t := 79) h rfl (fun hb27 => ?_) (fun hb27 => ?_)
       ·exact absurd hb27 (by first | decide | (simp only [Bool.not_eq_true', Bool.not_eq_false', Bool.not_eq_true, Bool.not_eq_false, decide_eq_true_eq, decide_eq_false_iff_not, gt_iff_lt, ge_iff_le]; omega) | (simp; done))
       ·refine wl (stp_off h rfl rfl rfl rfl rfl hb27 fun a h => ?_)
        refine wl (stp_off h rfl rfl rfl rfl rfl hb27 fun a h => ?_)
        refine wl (stp_off h rfl rfl rfl rfl rfl hb27 fun a h => ?_)
        refine wl (stp_un h rfl rfl rfl rfl rfl fun a h => ?_)
        refine wl (stp_un h rfl rfl rfl rfl rfl fun a h => ?_)
        refine wl (stp_off h rfl rfl rfl rfl rfl hb27 fun a h => ?_)
        refine wvl h (pckF h rfl hb27 rfl) fun a h => ?_
        refine wmv h rfl fun a h => ?_
        refine wl (stp_on h rfl rfl rfl rfl (vl h (mov h rfl) fun a h => ?_))
        refine wl (stp_on h rfl rfl rfl rfl (vl h (geq h rfl rfl) fun a h => ?_))
        refine wl (stp_on h rfl rfl rfl rfl (vl h (mov h rfl) fun a h => ?_))
        refine split (t := 90) h rfl (fun hb28 => ?_) (fun hb28 => ?_)
        ·refine wl (stp_on h rfl rfl rfl hb28 (vl h (mov h rfl) fun a h => ?_))
         refine wl (stp_on h rfl rfl rfl hb28 (vl h (nei h rfl rfl) fun a h => ?_))
         refine wl (stp_on h rfl rfl rfl hb28 (vl h (mov h rfl) fun a h => ?_))
         refine split (t := 93) h rfl (fun hb29 => ?_) (fun hb29 => ?_)
         ·exact absurd hb29 (by first | decide | (simp only [Bool.not_eq_true', Bool.not_eq_false', Bool.not_eq_true, Bool.not_eq_false, decide_eq_true_eq, decide_eq_false_iff_not, gt_iff_lt, ge_iff_le]; omega) | (simp; done))
         ·refine wl (stp_on h rfl rfl rfl hb29 (vl h (mov h rfl) fun a h => ?_))
          refine wl (stp_on h rfl rfl rfl hb29 (vl h (mov h rfl) fun a h => ?_))
          refine wl (stp_on h rfl rfl rfl hb29 (vl h (nei h rfl rfl) fun a h => ?_))
          refine wl (stp_on h rfl rfl rfl hb28 (vl h (pckF h rfl hb29 rfl) fun a h => ?_))
          refine wl (stp_on h rfl rfl rfl rfl (vl h (pckT h rfl hb28 rfl) fun a h => ?_))
          refine wvl h (pckF h rfl rfl rfl) fun a h => ?_
          refine wn ?_
          refine cnd1 h rfl (fun hb30 => ?_) (fun hb30 => ?_)
          ·exact absurd hb30 (by first | decide | (simp only [Bool.not_eq_true', Bool.not_eq_false', Bool.not_eq_true, Bool.not_eq_false, decide_eq_true_eq, decide_eq_false_iff_not, gt_iff_lt, ge_iff_le]; omega) | (simp; done))
          ·refine skp ?_
           refine wp_seq ?_
           refine rg ?_
           refine wmv h rfl fun a h => ?_
           refine wl (cal h rfl en37_W35 (Late_R _ _) fun u w27 ⟨e1, e2⟩ a h => ?_)
           subst e1
           subst e2
           refine wvl h (not_ h rfl) fun a h => ?_
           refine wn ?_
           refine cnd1 h rfl (fun hb31 => ?_) (fun hb31 => ?_)
           ·exact absurd hb31 (by rw [hla]; decide)
           ·refine skp ?_
            refine rg ?_
            refine wvl h (ldO (us := [_, _, _, _, _, _, _, _, _, _, _]) h hp rfl 0 rfl sz32 rfl ag32) fun a h => ?_
            refine wmv h rfl fun a h => ?_
            refine wmv h rfl fun a h => ?_
            refine wmv h rfl fun a h => ?_
            refine wmv h rfl fun a h => ?_
            refine wl (cal h rfl en38_W35 (Until_Rv (hE0.keep hp cl0) (by omega) (by omega) hu) fun u w28 ⟨e1, e2⟩ a h => ?_)
            subst e1
            have hp := hp.below e2
            refine wsg h rfl fun a h => ?_
            refine wn ?_
            refine wp_seq ?_
            refine rg ?_
            refine wmv h rfl fun a h => ?_
            refine wmv h rfl fun a h => ?_
            refine wvl h (lss h rfl rfl) fun a h => ?_
            refine wn ?_
            refine cnd1 h rfl (fun hb32 => ?_) (fun hb32 => ?_)
            ·refine rg ?_
             refine wmv h rfl fun a h => ?_
             refine wvl h (eqi h rfl rfl) fun a h => ?_
             refine wmv h rfl fun a h => ?_
             refine split (t := 123) h rfl (fun hb33 => ?_) (fun hb33 => ?_)
             ·refine wl (stp_on h rfl rfl rfl hb33 (vl h (mov h rfl) fun a h => ?_))
              refine wl (stp_on h rfl rfl rfl hb33 (vl h (eqi h rfl rfl) fun a h => ?_))
              refine wvl h (pckT h rfl hb33 rfl) fun a h => ?_
              refine wmv h rfl fun a h => ?_
              refine split (t := 127) h rfl (fun hb34 => ?_) (fun hb34 => ?_)
              ·refine wl (stp_on h rfl rfl rfl hb34 (cal h rfl en20_W35 (known_L _ (hGl.keep hp)) fun u w29 ⟨e1, e2⟩ a h => ?_))
               subst e1
               have hp := hp.below e2
               refine wvl h (pckT h rfl hb34 rfl) fun a h => ?_
               refine wsg h rfl fun a h => ?_
               refine wn ?_
               refine wp_ret ?_
               try simp only [xqs, ↓reduceIte, Nat.reduceEqDiff]
               refine rt_1 h rfl (rvT h rfl) ?_
               exact ⟨_, rfl, rfl, hp.bel⟩
              ·exact absurd hb34 (by first | decide | simp)
             ·exact absurd hb33 (by first | decide | simp)
            ·exact absurd hb32 (by first | decide | (simp only [Bool.not_eq_true', Bool.not_eq_false', Bool.not_eq_true, Bool.not_eq_false, decide_eq_true_eq, decide_eq_false_iff_not, gt_iff_lt, ge_iff_le]; omega) | (simp; done))
        ·exact absurd hb28 (by first | decide | (simp only [Bool.not_eq_true', Bool.not_eq_false', Bool.not_eq_true, Bool.not_eq_false, decide_eq_true_eq, decide_eq_false_iff_not, gt_iff_lt, ge_iff_le]; omega) | (simp; done))
     ·exact absurd hb25 (by rw [show rising 0 ((e.feasts.length : Int) - 1) st = true from hse]; decide)
    ·exact absurd hb24 (by rw [hen]; decide)
   ·refine wvl h (ldO (us := [_, _, _, _, _, _, _, _, _, _, _]) h hp rfl 0 rfl sz32 rfl ag32) fun a h => ?_
    refine wmv h rfl fun a h => ?_
    refine wmv h rfl fun a h => ?_
    refine wmv h rfl fun a h => ?_
    refine wmv h rfl fun a h => ?_
    refine wl (cal h rfl en35 (Until_hi (hE0.keep hp cl0) hspl hu hv) fun u w30 ⟨e1, e2⟩ a h => ?_)
    subst e1
    have hp := hp.below e2
    refine wmv h rfl fun a h => ?_
    refine wvl h (ext h rfl rfl) fun a h => ?_
    refine wvl h (ext h rfl rfl) fun a h => ?_
    refine wsg h rfl fun a h => ?_
    refine wsg h rfl fun a h => ?_
    refine wn ?_
    refine rg ?_
    refine wvl h (ldO (us := [_, _, _, _, _, _, _, _, _, _, _]) h hp rfl 0 rfl sz32 rfl ag32) fun a h => ?_
    refine wl (cal h rfl en16_W35 (Engine_R x e _ (by first | exact hG.keep hp cl0 | exact (hE0.keep hp cl0).g)) fun u w31 ⟨e1, e2⟩ a h => ?_)
    subst e1
    have hp := hp.below e2
    refine wmv h rfl fun a h => ?_
    refine split (t := 42) h rfl (fun hb35 => ?_) (fun hb35 => ?_)
    ·refine wl (stp_on h rfl rfl rfl hb35 (vl h (fad h rfl fo32_4) fun a h => ?_))
     refine wl (stp_on h rfl rfl rfl hb35 (vl h (ldo h hp rfl 0 rfl rfl ag30) fun a h => ?_))
     refine wl (stp_on h rfl rfl rfl hb35 (vl h (mov h rfl) fun a h => ?_))
     refine wl (stp_on h rfl rfl rfl hb35 (cal h rfl en17_W35 (Set_T _ _ _ _ _ (hE0.keep hp cl0).s (hE0.keep hp cl0).g.f) fun u w32 ⟨e1, e2⟩ a h => ?_))
     subst e1
     have hp := hp.below e2
     refine wvl h (pckT h rfl hb35 rfl) fun a h => ?_
     refine wmv h rfl fun a h => ?_
     refine split (t := 48) h rfl (fun hb36 => ?_) (fun hb36 => ?_)
     ·refine wl (stp_on h rfl rfl rfl hb36 (vl h (mov h rfl) fun a h => ?_))
      refine wl (stp_on h rfl rfl rfl hb36 (vl h (mov h rfl) fun a h => ?_))
      refine wl (stp_on h rfl rfl rfl hb36 (cal h rfl en26_W35 (Span_R _ _ _) fun u w33 ⟨e1, e2⟩ a h => ?_))
      subst e1
      subst e2
      refine wvl h (pckT h rfl hb36 rfl) fun a h => ?_
      refine wsg h rfl fun a h => ?_
      refine wn ?_
      refine wp_seq ?_
      refine rg ?_
      refine wmv h rfl fun a h => ?_
      refine wvl h (not_ h rfl) fun a h => ?_
      refine wn ?_
      refine cnd1 h rfl (fun hb37 => ?_) (fun hb37 => ?_)
      ·exact absurd hb37 (by rw [show isSpan d1 d2 = true from hspan]; decide)
      ·refine skp ?_
       refine wp_seq ?_
       refine rg ?_
       refine wvl h (ldO (us := [_, _, _, _, _, _, _, _, _, _, _]) h hp rfl 0 rfl sz32 rfl ag32) fun a h => ?_
       refine wmv h rfl fun a h => ?_
       refine wmv h rfl fun a h => ?_
       refine wmv h rfl fun a h => ?_
       refine wl (cal h rfl en36_W35 (Within_Rv (hE0.keep hp cl0) (by omega) hwv) fun u w34 ⟨e1, e2⟩ a h => ?_)
       subst e1
       have hp := hp.below e2
       refine wsg h rfl fun a h => ?_
       refine wn ?_
       refine rg ?_
       refine wmv h rfl fun a h => ?_
       refine wvl h (lss h rfl rfl) fun a h => ?_
       refine wmv h rfl fun a h => ?_
       refine split (t := 79) h rfl (fun hb38 => ?_) (fun hb38 => ?_)
       ·exact absurd hb38 (by first | decide | (simp only [Bool.not_eq_true', Bool.not_eq_false', Bool.not_eq_true, Bool.not_eq_false, decide_eq_true_eq, decide_eq_false_iff_not, gt_iff_lt, ge_iff_le]; omega) | (simp; done))
       ·refine wl (stp_off h rfl rfl rfl rfl rfl hb38 fun a h => ?_)
        refine wl (stp_off h rfl rfl rfl rfl rfl hb38 fun a h => ?_)
        refine wl (stp_off h rfl rfl rfl rfl rfl hb38 fun a h => ?_)
        refine wl (stp_un h rfl rfl rfl rfl rfl fun a h => ?_)
        refine wl (stp_un h rfl rfl rfl rfl rfl fun a h => ?_)
        refine wl (stp_off h rfl rfl rfl rfl rfl hb38 fun a h => ?_)
        refine wvl h (pckF h rfl hb38 rfl) fun a h => ?_
        refine wmv h rfl fun a h => ?_
        refine wl (stp_on h rfl rfl rfl rfl (vl h (mov h rfl) fun a h => ?_))
        refine wl (stp_on h rfl rfl rfl rfl (vl h (geq h rfl rfl) fun a h => ?_))
        refine wl (stp_on h rfl rfl rfl rfl (vl h (mov h rfl) fun a h => ?_))
        refine split (t := 90) h rfl (fun hb39 => ?_) (fun hb39 => ?_)
        ·refine wl (stp_on h rfl rfl rfl hb39 (vl h (mov h rfl) fun a h => ?_))
         refine wl (stp_on h rfl rfl rfl hb39 (vl h (nei h rfl rfl) fun a h => ?_))
         refine wl (stp_on h rfl rfl rfl hb39 (vl h (mov h rfl) fun a h => ?_))
         refine split (t := 93) h rfl (fun hb40 => ?_) (fun hb40 => ?_)
         ·exact absurd hb40 (by first | decide | (simp only [Bool.not_eq_true', Bool.not_eq_false', Bool.not_eq_true, Bool.not_eq_false, decide_eq_true_eq, decide_eq_false_iff_not, gt_iff_lt, ge_iff_le]; omega) | (simp; done))
         ·refine wl (stp_on h rfl rfl rfl hb40 (vl h (mov h rfl) fun a h => ?_))
          refine wl (stp_on h rfl rfl rfl hb40 (vl h (mov h rfl) fun a h => ?_))
          refine wl (stp_on h rfl rfl rfl hb40 (vl h (nei h rfl rfl) fun a h => ?_))
          refine wl (stp_on h rfl rfl rfl hb39 (vl h (pckF h rfl hb40 rfl) fun a h => ?_))
          refine wl (stp_on h rfl rfl rfl rfl (vl h (pckT h rfl hb39 rfl) fun a h => ?_))
          refine wvl h (pckF h rfl rfl rfl) fun a h => ?_
          refine wn ?_
          refine cnd1 h rfl (fun hb41 => ?_) (fun hb41 => ?_)
          ·exact absurd hb41 (by first | decide | (simp only [Bool.not_eq_true', Bool.not_eq_false', Bool.not_eq_true, Bool.not_eq_false, decide_eq_true_eq, decide_eq_false_iff_not, gt_iff_lt, ge_iff_le]; omega) | (simp; done))
          ·refine skp ?_
           refine wp_seq ?_
           refine rg ?_
           refine wmv h rfl fun a h => ?_
           refine wl (cal h rfl en37_W35 (Late_R _ _) fun u w35 ⟨e1, e2⟩ a h => ?_)
           subst e1
           subst e2
           refine wvl h (not_ h rfl) fun a h => ?_
           refine wn ?_
           refine cnd1 h rfl (fun hb42 => ?_) (fun hb42 => ?_)
           ·exact absurd hb42 (by rw [hla]; decide)
           ·refine skp ?_
            refine rg ?_
            refine wvl h (ldO (us := [_, _, _, _, _, _, _, _, _, _, _]) h hp rfl 0 rfl sz32 rfl ag32) fun a h => ?_
            refine wmv h rfl fun a h => ?_
            refine wmv h rfl fun a h => ?_
            refine wmv h rfl fun a h => ?_
            refine wmv h rfl fun a h => ?_
            refine wl (cal h rfl en38_W35 (Until_Rv (hE0.keep hp cl0) (by omega) (by omega) hu) fun u w36 ⟨e1, e2⟩ a h => ?_)
            subst e1
            have hp := hp.below e2
            refine wsg h rfl fun a h => ?_
            refine wn ?_
            refine wp_seq ?_
            refine rg ?_
            refine wmv h rfl fun a h => ?_
            refine wmv h rfl fun a h => ?_
            refine wvl h (lss h rfl rfl) fun a h => ?_
            refine wn ?_
            refine cnd1 h rfl (fun hb43 => ?_) (fun hb43 => ?_)
            ·exact absurd hb43 (by first | decide | (simp only [Bool.not_eq_true', Bool.not_eq_false', Bool.not_eq_true, Bool.not_eq_false, decide_eq_true_eq, decide_eq_false_iff_not, gt_iff_lt, ge_iff_le]; omega) | (simp; done))
            ·refine skp ?_
             refine rg ?_
             refine wmv h rfl fun a h => ?_
             refine wvl h (eqi h rfl rfl) fun a h => ?_
             refine wmv h rfl fun a h => ?_
             refine split (t := 132) h rfl (fun hb44 => ?_) (fun hb44 => ?_)
             ·refine wl (stp_on h rfl rfl rfl hb44 (vl h (mov h rfl) fun a h => ?_))
              refine wl (stp_on h rfl rfl rfl hb44 (vl h (mov h rfl) fun a h => ?_))
              refine wl (stp_on h rfl rfl rfl hb44 (vl h (eqi h rfl rfl) fun a h => ?_))
              refine wvl h (pckT h rfl hb44 rfl) fun a h => ?_
              refine wmv h rfl fun a h => ?_
              refine split (t := 137) h rfl (fun hb45 => ?_) (fun hb45 => ?_)
              ·refine wl (stp_on h rfl rfl rfl hb45 (cal h rfl en20_W35 (known_L _ (hGl.keep hp)) fun u w37 ⟨e1, e2⟩ a h => ?_))
               subst e1
               have hp := hp.below e2
               refine wvl h (pckT h rfl hb45 rfl) fun a h => ?_
               refine wsg h rfl fun a h => ?_
               refine wn ?_
               refine wp_ret ?_
               try simp only [xqs, ↓reduceIte, Nat.reduceEqDiff]
               refine rt_1 h rfl (rvT h rfl) ?_
               exact ⟨_, rfl, rfl, hp.bel⟩
              ·exact absurd hb45 (by first | decide | simp)
             ·exact absurd hb44 (by first | decide | simp)
        ·exact absurd hb39 (by first | decide | (simp only [Bool.not_eq_true', Bool.not_eq_false', Bool.not_eq_true, Bool.not_eq_false, decide_eq_true_eq, decide_eq_false_iff_not, gt_iff_lt, ge_iff_le]; omega) | (simp; done))
     ·exact absurd hb36 (by rw [show rising 0 ((e.feasts.length : Int) - 1) st = true from hse]; decide)
    ·exact absurd hb35 (by rw [hen]; decide)
theorem EclipseWithins_L (x : EV) (e : Eng) (s2 : SV) (st : List Int) (d1 d2 lt : Int) (w : World) (hG : RdG w x e) (hS2 : Rd w encI 1 s2.v st) (hGl : Glb w) : Ret Tryz.prog 6 #[.agg #[x.b.v, .int .i64 e.nnum, .int .i64 e.nden, .int .i64 e.nstart, x.s.v, x.m.v, x.n.v, x.f.v, .int .i64 e.new, .int .i64 e.full, .int .i64 e.wide], s2.v, .int .i64 d1, .int .i64 d2, .int .i64 lt] w fun u w' => u = .bool true ∧ Below w.heap.size w w' := by
 cases hb : (isEngine e && isSet e st && (inR d1 1 9000 && inR d2 d1 9000 && decide (d2 - d1 ≤ 400))) with
 | false => exact EclipseWithins_b x e s2 st d1 d2 lt w hG hS2 hGl hb
 | true =>
  rw [Bool.and_eq_true, Bool.and_eq_true] at hb
  cases hla : isLate lt with
  | false => exact EclipseWithins_l x e s2 st d1 d2 lt w ⟨hG, hS2, hb.1.1, hb.1.2⟩ hGl hb.2 hla
  | true => exact EclipseWithins_g x e s2 st d1 d2 lt w ⟨hG, hS2, hb.1.1, hb.1.2⟩ hGl hb.2 hla
end Go.Proofs.Ec
