import Derived.Test.YtobofnkmbpfoiaaGreatDoorProg
import Derived.Test.YtobofnkmbpfoiaaGreatDoorPFa
import Derived.Test.YtobofnkmbpfoiaaGreatDoorPQb
import Derived.Test.YtobofnkmbpfoiaaGreatDoorPW31
set_option linter.unusedVariables false
set_option linter.unusedSimpArgs false
set_option maxRecDepth 4000
namespace Go.Proofs.Ec
open Go.RowKit Go.Proofs.Sx
open Ecl
theorem EclipseForetells_g (x : EV) (e : Eng) (s2 : SV) (st : List Int) (d1 d2 : Int) (w : World) (hE0 : RdE w x e s2 st) (hGl : Glb w) (hspan : (inR d1 1 9000 && inR d2 d1 9000 && decide (d2 - d1 ≤ 400)) = true) : Ret Tryz.prog 4 #[.agg #[x.b.v, .int .i64 e.nnum, .int .i64 e.nden, .int .i64 e.nstart, x.s.v, x.m.v, x.n.v, x.f.v, .int .i64 e.new, .int .i64 e.full, .int .i64 e.wide], s2.v, .int .i64 d1, .int .i64 d2] w fun u w' => u = .bool true ∧ Below w.heap.size w w' := by
 have hen := hE0.ok
 have hG := hE0.g
 have hS2 := hE0.s
 have hse := isSet_rise hE0.set
 have hd := hspan
 simp only [inR, Bool.and_eq_true, decide_eq_true_eq] at hd
 have hp : Hp c0 w w [] := Hp.start trivial
 refine enter Tryz.func4 rfl (N := 64) rfl rfl fun a h => ?_
 refine rg ?_
 refine wl (box (cs := #[_, _, _, _, _, _, _, _, _, _, _]) h hp rfl rfl fun a w1 g1 hg1 h hp => ?_)
 refine wsn h rfl fun a h => ?_
 refine wp_seq ?_
 refine rg ?_
 refine wvl h (ldO (us := [_, _, _, _, _, _, _, _, _, _, _]) h hp rfl 0 rfl sz32 rfl ag32) fun a h => ?_
 refine wmv h rfl fun a h => ?_
 refine wl (cal h rfl en15 (short_L x e s2 st _ (hG.keep hp cl0) (hS2.keep (by decide) hp cl0)) fun u w2 ⟨⟨bsh, e1⟩, e2⟩ a h => ?_)
 subst e1
 have hp := hp.below e2
 refine wvl h (not_ h rfl) fun a h => ?_
 refine wn ?_
 refine cnd1 h rfl (fun hb1 => ?_) (fun hb1 => ?_)
 ·refine rg ?_
  refine wl (cal h rfl en20 (known_L _ (hGl.keep hp)) fun u w3 ⟨e1, e2⟩ a h => ?_)
  subst e1
  have hp := hp.below e2
  refine wsn h rfl fun a h => ?_
  refine wp_ret ?_
  try simp only [xqs]
  refine rt_1 h rfl (rvT h rfl) ?_
  exact ⟨_, rfl, rfl, hp.bel⟩
 refine skp ?_
 refine rg ?_
 refine wvl h (ldO (us := [_, _, _, _, _, _, _, _, _, _, _]) h hp rfl 0 rfl sz32 rfl ag32) fun a h => ?_
 refine wm3 h rfl rfl rfl rfl rfl rfl fun a h => ?_
 refine wl (cal h rfl en25 (Foretells_s x e s2 st _ _ _ (hE0.keep hp cl0) hspan) fun u w4 ⟨⟨s21, e1, hf⟩, e2⟩ a h => ?_)
 subst e1
 have hp := hp.got (hp.below e2) (by decide) hf
 refine wmv h rfl fun a h => ?_
 refine wvl h (ext h rfl rfl) fun a h => ?_
 refine wvl h (ext h rfl rfl) fun a h => ?_
 refine ws2 h rfl rfl rfl rfl fun a h => ?_
 refine wp_seq ?_
 refine rg ?_
 refine wvl h (ldO (us := [_, _, _, _, _, _, _, _, _, _, _]) h hp rfl 0 rfl sz32 rfl ag32) fun a h => ?_
 refine wl (cal h rfl en16 (Engine_R x e _ (by first | exact hG.keep hp cl0 | exact (hE0.keep hp cl0).g)) fun u w5 ⟨e1, e2⟩ a h => ?_)
 subst e1
 have hp := hp.below e2
 refine wvl h (not_ h rfl) fun a h => ?_
 refine wmv h rfl fun a h => ?_
 refine split (t := 27) h rfl (fun hb2 => ?_) (fun hb2 => ?_)
 ·exact absurd hb2 (by rw [hen]; decide)
 refine wl (stp_on h rfl rfl rfl hb2 (vl h (fad h rfl fo32_4) fun a h => ?_))
 refine wl (stp_on h rfl rfl rfl hb2 (vl h (ldo h hp rfl 0 rfl rfl ag30) fun a h => ?_))
 refine wl (stp_on h rfl rfl rfl hb2 (vl h (mov h rfl) fun a h => ?_))
 refine wl (stp_on h rfl rfl rfl hb2 (cal h rfl en17 (Set_T _ _ _ _ _ (hE0.keep hp cl0).s (hE0.keep hp cl0).g.f) fun u w6 ⟨e1, e2⟩ a h => ?_))
 subst e1
 have hp := hp.below e2
 refine wl (stp_on h rfl rfl rfl hb2 (vl h (not_ h rfl) fun a h => ?_))
 refine wvl h (pckF h rfl hb2 rfl) fun a h => ?_
 refine wmv h rfl fun a h => ?_
 refine split (t := 34) h rfl (fun hb3 => ?_) (fun hb3 => ?_)
 ·exact absurd hb3 (by rw [hse]; decide)
 refine wl (stp_on h rfl rfl rfl hb3 (vl h (mov h rfl) fun a h => ?_))
 refine wl (stp_on h rfl rfl rfl hb3 (vl h (mov h rfl) fun a h => ?_))
 refine wl (stp_on h rfl rfl rfl hb3 (cal h rfl en26 (Span_R _ _ _) fun u w7 ⟨e1, e2⟩ a h => ?_))
 subst e1
 subst e2
 refine wl (stp_on h rfl rfl rfl hb3 (vl h (not_ h rfl) fun a h => ?_))
 refine wvl h (pckF h rfl hb3 rfl) fun a h => ?_
 refine wn ?_
 refine cnd1 h rfl (fun hb4 => ?_) (fun hb4 => ?_)
 ·exact absurd hb4 (by rw [show isSpan d1 d2 = true from hspan]; decide)
 refine skp ?_
 refine rg ?_
 refine wmv h rfl fun a h => ?_
 refine wvl h (eqi h rfl rfl) fun a h => ?_
 refine wmv h rfl fun a h => ?_
 refine split (t := 52) h rfl (fun hb5 => ?_) (fun hb5 => ?_)
 ·refine wl (stp_on h rfl rfl rfl hb5 (vl h (mov h rfl) fun a h => ?_))
  refine wl (stp_on h rfl rfl rfl hb5 (vl h (ldO (us := [_, _, _, _, _, _, _, _, _, _, _]) h hp rfl 0 rfl sz32 rfl ag32) fun a h => ?_))
  refine wl (stp_on h rfl rfl rfl hb5 (vl h (mov h rfl) fun a h => ?_))
  refine wl (stp_on h rfl rfl rfl hb5 (vl h (mov h rfl) fun a h => ?_))
  refine wl (stp_on h rfl rfl rfl hb5 (vl h (mov h rfl) fun a h => ?_))
  refine wl (stp_on h rfl rfl rfl hb5 (cal h rfl en28 (Foretells_R x e s2 st _ _ _ (hE0.keep hp cl0) (by omega)) fun u w8 ⟨⟨s22, e1, hf⟩, e2⟩ a h => ?_))
  subst e1
  have hp := hp.got (hp.below e2) (by decide) hf
  refine wl (stp_on h rfl rfl rfl hb5 (cal h rfl en27 (SameEclipses_S _ _ _ _ _ (hp.rdF (i := 1) rfl) (hp.rdF (i := 2) rfl)) fun u w9 ⟨e1, e2⟩ a h => ?_))
  subst e1
  have hp := hp.below e2
  refine wvl h (pckT h rfl hb5 rfl) fun a h => ?_
  refine wmv h rfl fun a h => ?_
  refine split (t := 61) h rfl (fun hb6 => ?_) (fun hb6 => ?_)
  ·refine wl (stp_on h rfl rfl rfl hb6 (cal h rfl en20 (known_L _ (hGl.keep hp)) fun u w10 ⟨e1, e2⟩ a h => ?_))
   subst e1
   have hp := hp.below e2
   refine wvl h (pckT h rfl hb6 rfl) fun a h => ?_
   refine wsn h rfl fun a h => ?_
   refine wp_ret ?_
   try simp only [xqs]
   refine rt_1 h rfl (rvT h rfl) ?_
   exact ⟨_, rfl, rfl, hp.bel⟩
  exact absurd hb6 (by simp)
 exact absurd hb5 (by decide)
theorem bad3 {a b c : Bool} (h1 : (!a) = false) (h2 : (!b) = false) (h3 : (!c) = false) : ¬ ((a && b && c) = false) := by cases a <;> cases b <;> cases c <;> simp_all
theorem EclipseForetells_b (x : EV) (e : Eng) (s2 : SV) (st : List Int) (d1 d2 : Int) (w : World) (hG : RdG w x e) (hS2 : Rd w encI 1 s2.v st) (hGl : Glb w) (hbad : (isEngine e && isSet e st && (inR d1 1 9000 && inR d2 d1 9000 && decide (d2 - d1 ≤ 400))) = false) : Ret Tryz.prog 4 #[.agg #[x.b.v, .int .i64 e.nnum, .int .i64 e.nden, .int .i64 e.nstart, x.s.v, x.m.v, x.n.v, x.f.v, .int .i64 e.new, .int .i64 e.full, .int .i64 e.wide], s2.v, .int .i64 d1, .int .i64 d2] w fun u w' => u = .bool true ∧ Below w.heap.size w w' := by
 have hp : Hp c0 w w [] := Hp.start trivial
 refine enter Tryz.func4 rfl (N := 64) rfl rfl fun a h => ?_
 refine rg ?_
 refine wl (box (cs := #[_, _, _, _, _, _, _, _, _, _, _]) h hp rfl rfl fun a w1 g1 hg1 h hp => ?_)
 refine wsn h rfl fun a h => ?_
 refine wp_seq ?_
 refine rg ?_
 refine wvl h (ldO (us := [_, _, _, _, _, _, _, _, _, _, _]) h hp rfl 0 rfl sz32 rfl ag32) fun a h => ?_
 refine wmv h rfl fun a h => ?_
 refine wl (cal h rfl en15 (short_L x e s2 st _ (hG.keep hp cl0) (hS2.keep (by decide) hp cl0)) fun u w2 ⟨⟨bsh, e1⟩, e2⟩ a h => ?_)
 subst e1
 have hp := hp.below e2
 refine wvl h (not_ h rfl) fun a h => ?_
 refine wn ?_
 refine cnd1 h rfl (fun hb1 => ?_) (fun hb1 => ?_)
 ·refine rg ?_
  refine wl (cal h rfl en20 (known_L _ (hGl.keep hp)) fun u w3 ⟨e1, e2⟩ a h => ?_)
  subst e1
  have hp := hp.below e2
  refine wsn h rfl fun a h => ?_
  refine wp_ret ?_
  try simp only [xqs]
  refine rt_1 h rfl (rvT h rfl) ?_
  exact ⟨_, rfl, rfl, hp.bel⟩
 refine skp ?_
 refine rg ?_
 refine wvl h (ldO (us := [_, _, _, _, _, _, _, _, _, _, _]) h hp rfl 0 rfl sz32 rfl ag32) fun a h => ?_
 refine wm3 h rfl rfl rfl rfl rfl rfl fun a h => ?_
 refine wl (cal h rfl en25 (Foretells_x x e s2 st _ _ _ (hG.keep hp cl0) (hS2.keep (by decide) hp cl0) hbad) fun u w4 ⟨e1, e2⟩ a h => ?_)
 subst e1
 have hp := hp.below e2
 refine wmv h rfl fun a h => ?_
 refine wvl h (ext h rfl rfl) fun a h => ?_
 refine wvl h (ext h rfl rfl) fun a h => ?_
 refine ws2 h rfl rfl rfl rfl fun a h => ?_
 refine wp_seq ?_
 refine rg ?_
 refine wvl h (ldO (us := [_, _, _, _, _, _, _, _, _, _, _]) h hp rfl 0 rfl sz32 rfl ag32) fun a h => ?_
 refine wl (cal h rfl en16 (Engine_R x e _ (by first | exact hG.keep hp cl0 | exact (hE0.keep hp cl0).g)) fun u w5 ⟨e1, e2⟩ a h => ?_)
 subst e1
 have hp := hp.below e2
 refine wvl h (not_ h rfl) fun a h => ?_
 refine wmv h rfl fun a h => ?_
 refine split (t := 27) h rfl (fun hb2 => ?_) (fun hb2 => ?_)
 ·refine wl (stp_off h rfl rfl rfl rfl rfl hb2 fun a h => ?_)
  refine wl (stp_off h rfl rfl rfl rfl rfl hb2 fun a h => ?_)
  refine wl (stp_off h rfl rfl rfl rfl rfl hb2 fun a h => ?_)
  refine wl (stp_off h rfl rfl rfl rfl rfl hb2 fun a h => ?_)
  refine wl (stp_off h rfl rfl rfl rfl rfl hb2 fun a h => ?_)
  refine wvl h (pckT h rfl hb2 rfl) fun a h => ?_
  refine wmv h rfl fun a h => ?_
  refine wl (stp_off h rfl rfl rfl rfl rfl rfl fun a h => ?_)
  refine wl (stp_off h rfl rfl rfl rfl rfl rfl fun a h => ?_)
  refine wl (stp_off h rfl rfl rfl rfl rfl rfl fun a h => ?_)
  refine wl (stp_off h rfl rfl rfl rfl rfl rfl fun a h => ?_)
  refine wvl h (pckT h rfl rfl rfl) fun a h => ?_
  refine wn ?_
  refine cnd1 h rfl (fun _ => ?_) (fun e => nomatch e)
  refine rg ?_
  refine wmv h rfl fun a h => ?_
  refine wvl h (eqi h rfl rfl) fun a h => ?_
  refine wmv h rfl fun a h => ?_
  refine split (t := 42) h rfl (fun hb3 => ?_) (fun hb3 => ?_)
  ·refine wl (stp_on h rfl rfl rfl hb3 (vl h (mov h rfl) fun a h => ?_))
   refine wl (stp_on h rfl rfl rfl hb3 (vl h (len_ h rfl Tryz.underlying50) fun a h => ?_))
   refine wl (stp_on h rfl rfl rfl hb3 (vl h (eqi h rfl rfl) fun a h => ?_))
   refine wvl h (pckT h rfl hb3 rfl) fun a h => ?_
   refine wmv h rfl fun a h => ?_
   refine split (t := 47) h rfl (fun hb4 => ?_) (fun hb4 => ?_)
   ·refine wl (stp_on h rfl rfl rfl hb4 (cal h rfl en20 (known_L _ (hGl.keep hp)) fun u w6 ⟨e1, e2⟩ a h => ?_))
    subst e1
    have hp := hp.below e2
    refine wvl h (pckT h rfl hb4 rfl) fun a h => ?_
    refine wsn h rfl fun a h => ?_
    refine wp_ret ?_
    try simp only [xqs]
    refine rt_1 h rfl (rvT h rfl) ?_
    exact ⟨_, rfl, rfl, hp.bel⟩
   exact absurd hb4 (by simp)
  exact absurd hb3 (by decide)
 have hn1 := hb2
 refine wl (stp_on h rfl rfl rfl hb2 (vl h (fad h rfl fo32_4) fun a h => ?_))
 refine wl (stp_on h rfl rfl rfl hb2 (vl h (ldo h hp rfl 0 rfl rfl ag30) fun a h => ?_))
 refine wl (stp_on h rfl rfl rfl hb2 (vl h (mov h rfl) fun a h => ?_))
 refine wl (stp_on h rfl rfl rfl hb2 (cal h rfl en17 (Set_T _ _ _ _ _ (hS2.keep (by decide) hp cl0) (hG.keep hp cl0).f) fun u w7 ⟨e1, e2⟩ a h => ?_))
 subst e1
 have hp := hp.below e2
 refine wl (stp_on h rfl rfl rfl hb2 (vl h (not_ h rfl) fun a h => ?_))
 refine wvl h (pckF h rfl hb2 rfl) fun a h => ?_
 refine wmv h rfl fun a h => ?_
 refine split (t := 34) h rfl (fun hb5 => ?_) (fun hb5 => ?_)
 ·refine wl (stp_off h rfl rfl rfl rfl rfl hb5 fun a h => ?_)
  refine wl (stp_off h rfl rfl rfl rfl rfl hb5 fun a h => ?_)
  refine wl (stp_off h rfl rfl rfl rfl rfl hb5 fun a h => ?_)
  refine wl (stp_off h rfl rfl rfl rfl rfl hb5 fun a h => ?_)
  refine wvl h (pckT h rfl hb5 rfl) fun a h => ?_
  refine wn ?_
  refine cnd1 h rfl (fun _ => ?_) (fun e => nomatch e)
  refine rg ?_
  refine wmv h rfl fun a h => ?_
  refine wvl h (eqi h rfl rfl) fun a h => ?_
  refine wmv h rfl fun a h => ?_
  refine split (t := 42) h rfl (fun hb6 => ?_) (fun hb6 => ?_)
  ·refine wl (stp_on h rfl rfl rfl hb6 (vl h (mov h rfl) fun a h => ?_))
   refine wl (stp_on h rfl rfl rfl hb6 (vl h (len_ h rfl Tryz.underlying50) fun a h => ?_))
   refine wl (stp_on h rfl rfl rfl hb6 (vl h (eqi h rfl rfl) fun a h => ?_))
   refine wvl h (pckT h rfl hb6 rfl) fun a h => ?_
   refine wmv h rfl fun a h => ?_
   refine split (t := 47) h rfl (fun hb7 => ?_) (fun hb7 => ?_)
   ·refine wl (stp_on h rfl rfl rfl hb7 (cal h rfl en20 (known_L _ (hGl.keep hp)) fun u w8 ⟨e1, e2⟩ a h => ?_))
    subst e1
    have hp := hp.below e2
    refine wvl h (pckT h rfl hb7 rfl) fun a h => ?_
    refine wsn h rfl fun a h => ?_
    refine wp_ret ?_
    try simp only [xqs]
    refine rt_1 h rfl (rvT h rfl) ?_
    exact ⟨_, rfl, rfl, hp.bel⟩
   exact absurd hb7 (by simp)
  exact absurd hb6 (by decide)
 have hn2 := hb5
 refine wl (stp_on h rfl rfl rfl hb5 (vl h (mov h rfl) fun a h => ?_))
 refine wl (stp_on h rfl rfl rfl hb5 (vl h (mov h rfl) fun a h => ?_))
 refine wl (stp_on h rfl rfl rfl hb5 (cal h rfl en26 (Span_R _ _ _) fun u w9 ⟨e1, e2⟩ a h => ?_))
 subst e1
 subst e2
 refine wl (stp_on h rfl rfl rfl hb5 (vl h (not_ h rfl) fun a h => ?_))
 refine wvl h (pckF h rfl hb5 rfl) fun a h => ?_
 refine wn ?_
 refine cnd1 h rfl (fun hb8 => ?_) (fun hb8 => ?_)
 ·refine rg ?_
  refine wmv h rfl fun a h => ?_
  refine wvl h (eqi h rfl rfl) fun a h => ?_
  refine wmv h rfl fun a h => ?_
  refine split (t := 42) h rfl (fun hb9 => ?_) (fun hb9 => ?_)
  ·refine wl (stp_on h rfl rfl rfl hb9 (vl h (mov h rfl) fun a h => ?_))
   refine wl (stp_on h rfl rfl rfl hb9 (vl h (len_ h rfl Tryz.underlying50) fun a h => ?_))
   refine wl (stp_on h rfl rfl rfl hb9 (vl h (eqi h rfl rfl) fun a h => ?_))
   refine wvl h (pckT h rfl hb9 rfl) fun a h => ?_
   refine wmv h rfl fun a h => ?_
   refine split (t := 47) h rfl (fun hb10 => ?_) (fun hb10 => ?_)
   ·refine wl (stp_on h rfl rfl rfl hb10 (cal h rfl en20 (known_L _ (hGl.keep hp)) fun u w10 ⟨e1, e2⟩ a h => ?_))
    subst e1
    have hp := hp.below e2
    refine wvl h (pckT h rfl hb10 rfl) fun a h => ?_
    refine wsn h rfl fun a h => ?_
    refine wp_ret ?_
    try simp only [xqs]
    refine rt_1 h rfl (rvT h rfl) ?_
    exact ⟨_, rfl, rfl, hp.bel⟩
   exact absurd hb10 (by simp)
  exact absurd hb9 (by decide)
 exact absurd hbad (bad3 hn1 hn2 hb8)
end Go.Proofs.Ec
