import Derived.Test.YtobofnkmbpfoiaaGreatDoorProg
import Derived.Test.YtobofnkmbpfoiaaGreatDoorPFa
import Derived.Test.YtobofnkmbpfoiaaGreatDoorPQb
import Derived.Test.YtobofnkmbpfoiaaGreatDoorPW38
import Derived.Test.YtobofnkmbpfoiaaGreatDoorPQc
set_option linter.unusedVariables false
set_option linter.unusedSimpArgs false
set_option maxRecDepth 4000
namespace Go.Proofs.Ec
open Go.RowKit Go.Proofs.Sx
open Ecl
theorem en15_W43 : EnT Tryz.prog 15 := ento Tryz.func15
theorem en20_W43 : EnT Tryz.prog 20 := ento Tryz.func20
theorem en16_W43 : EnT Tryz.prog 16 := ento Tryz.func16
theorem en17_W43 : EnT Tryz.prog 17 := ento Tryz.func17
theorem en26_W43 : EnT Tryz.prog 26 := ento Tryz.func26
theorem en37_W43 : EnT Tryz.prog 37 := ento Tryz.func37
theorem en51_W43 : EnT Tryz.prog 51 := ento Tryz.func51
theorem en32_W43 : EnT Tryz.prog 32 := ento Tryz.func32
theorem missed_len {e : Eng} {st : List Int} {a b lt : Int} (h : b - a ≤ 400 ∧ a ≤ b) : ((missed e st a b lt).length : Int) ≤ 1000 := by
 have h1 := skyAll_length (e := e) a b
 have h2 : (missed e st a b lt).length ≤ (skyAll e a b).length := List.length_filter_le _ _
 omega
set_option maxHeartbeats 4000000 in
theorem EclipseMore_L (x : EV) (e : Eng) (s2 : SV) (st : List Int) (d1 d2 lt dd wd : Int) (w : World) (hG : RdG w x e) (hS2 : Rd w encI 1 s2.v st) (hGl : Glb w) : Ret Tryz.prog 13 #[.agg #[x.b.v, .int .i64 e.nnum, .int .i64 e.nden, .int .i64 e.nstart, x.s.v, x.m.v, x.n.v, x.f.v, .int .i64 e.new, .int .i64 e.full, .int .i64 e.wide], s2.v, .int .i64 d1, .int .i64 d2, .int .i64 lt, .int .i64 dd, .int .i64 wd] w fun u w' => u = .bool true ∧ Below w.heap.size w w' := by
 have hp : Hp c0 w w [] := Hp.start trivial
 refine enter Tryz.func13 rfl (N := 126) rfl rfl fun a h => ?_
 refine rg ?_
 refine wl (box (cs := #[_, _, _, _, _, _, _, _, _, _, _]) h hp rfl rfl fun a w1 g1 hg1 h hp => ?_)
 refine wsg h rfl fun a h => ?_
 refine wn ?_
 refine wp_seq ?_
 refine rg ?_
 refine wvl h (ldO (us := [_, _, _, _, _, _, _, _, _, _, _]) h hp rfl 0 rfl sz32 rfl ag32) fun a h => ?_
 refine wmv h rfl fun a h => ?_
 refine wl (cal h rfl en15_W43 (short_L x e s2 st _ (hG.keep hp cl0) (hS2.keep (by decide) hp cl0)) fun u w2 ⟨⟨bsh, e1⟩, e2⟩ a h => ?_)
 subst e1
 have hp := hp.below e2
 refine wvl h (not_ h rfl) fun a h => ?_
 refine wmv h rfl fun a h => ?_
 refine split (t := 24) h rfl (fun hb1 => ?_) (fun hb1 => ?_)
 ·refine wl (stp_off h rfl rfl rfl rfl rfl hb1 fun a h => ?_)
  refine wl (stp_off h rfl rfl rfl rfl rfl hb1 fun a h => ?_)
  refine wl (stp_off h rfl rfl rfl rfl rfl hb1 fun a h => ?_)
  refine wvl h (pckT h rfl hb1 rfl) fun a h => ?_
  refine wmv h rfl fun a h => ?_
  refine wl (stp_off h rfl rfl rfl rfl rfl rfl fun a h => ?_)
  refine wl (stp_off h rfl rfl rfl rfl rfl rfl fun a h => ?_)
  refine wl (stp_off h rfl rfl rfl rfl rfl rfl fun a h => ?_)
  refine wl (stp_off h rfl rfl rfl rfl rfl rfl fun a h => ?_)
  refine wl (stp_off h rfl rfl rfl rfl rfl rfl fun a h => ?_)
  refine wvl h (pckT h rfl rfl rfl) fun a h => ?_
  refine wmv h rfl fun a h => ?_
  refine wl (stp_off h rfl rfl rfl rfl rfl rfl fun a h => ?_)
  refine wl (stp_off h rfl rfl rfl rfl rfl rfl fun a h => ?_)
  refine wl (stp_off h rfl rfl rfl rfl rfl rfl fun a h => ?_)
  refine wl (stp_off h rfl rfl rfl rfl rfl rfl fun a h => ?_)
  refine wvl h (pckT h rfl rfl rfl) fun a h => ?_
  refine wmv h rfl fun a h => ?_
  refine wl (stp_off h rfl rfl rfl rfl rfl rfl fun a h => ?_)
  refine wl (stp_off h rfl rfl rfl rfl rfl rfl fun a h => ?_)
  refine wl (stp_off h rfl rfl rfl rfl rfl rfl fun a h => ?_)
  refine wvl h (pckT h rfl rfl rfl) fun a h => ?_
  refine wmv h rfl fun a h => ?_
  refine wl (stp_off h rfl rfl rfl rfl rfl rfl fun a h => ?_)
  refine wl (stp_off h rfl rfl rfl rfl rfl rfl fun a h => ?_)
  refine wvl h (pckT h rfl rfl rfl) fun a h => ?_
  refine wmv h rfl fun a h => ?_
  refine wl (stp_off h rfl rfl rfl rfl rfl rfl fun a h => ?_)
  refine wl (stp_off h rfl rfl rfl rfl rfl rfl fun a h => ?_)
  refine wl (stp_off h rfl rfl rfl rfl rfl rfl fun a h => ?_)
  refine wl (stp_off h rfl rfl rfl rfl rfl rfl fun a h => ?_)
  refine wvl h (pckT h rfl rfl rfl) fun a h => ?_
  refine wmv h rfl fun a h => ?_
  refine wl (stp_off h rfl rfl rfl rfl rfl rfl fun a h => ?_)
  refine wl (stp_off h rfl rfl rfl rfl rfl rfl fun a h => ?_)
  refine wvl h (pckT h rfl rfl rfl) fun a h => ?_
  refine wmv h rfl fun a h => ?_
  refine wl (stp_off h rfl rfl rfl rfl rfl rfl fun a h => ?_)
  refine wl (stp_off h rfl rfl rfl rfl rfl rfl fun a h => ?_)
  refine wl (stp_off h rfl rfl rfl rfl rfl rfl fun a h => ?_)
  refine wl (stp_off h rfl rfl rfl rfl rfl rfl fun a h => ?_)
  refine wl (stp_off h rfl rfl rfl rfl rfl rfl fun a h => ?_)
  refine wvl h (pckT h rfl rfl rfl) fun a h => ?_
  refine wn ?_
  refine cnd1 h rfl (fun _ => ?_) (fun e => nomatch e)
  refine rg ?_
  refine wl (cal h rfl en20_W43 (known_L _ (hGl.keep hp)) fun u w3 ⟨e1, e2⟩ a h => ?_)
  subst e1
  have hp := hp.below e2
  refine wsg h rfl fun a h => ?_
  refine wn ?_
  refine wp_ret ?_
  try simp only [xqs, ↓reduceIte, Nat.reduceEqDiff]
  refine rt_1 h rfl (rvT h rfl) ?_
  exact ⟨_, rfl, rfl, hp.bel⟩
 ·have hn0 := hb1
  refine wl (stp_on h rfl rfl rfl hb1 (vl h (ldO (us := [_, _, _, _, _, _, _, _, _, _, _]) h hp rfl 0 rfl sz32 rfl ag32) fun a h => ?_))
  refine wl (stp_on h rfl rfl rfl hb1 (cal h rfl en16_W43 (Engine_R x e _ (by first | exact hG.keep hp cl0 | exact (hE0.keep hp cl0).g)) fun u w4 ⟨e1, e2⟩ a h => ?_))
  subst e1
  have hp := hp.below e2
  refine wl (stp_on h rfl rfl rfl hb1 (vl h (not_ h rfl) fun a h => ?_))
  refine wvl h (pckF h rfl hb1 rfl) fun a h => ?_
  refine wmv h rfl fun a h => ?_
  refine split (t := 29) h rfl (fun hb2 => ?_) (fun hb2 => ?_)
  ·refine wl (stp_off h rfl rfl rfl rfl rfl hb2 fun a h => ?_)
   refine wl (stp_off h rfl rfl rfl rfl rfl hb2 fun a h => ?_)
   refine wl (stp_off h rfl rfl rfl rfl rfl hb2 fun a h => ?_)
   refine wl (stp_off h rfl rfl rfl rfl rfl hb2 fun a h => ?_)
   refine wl (stp_off h rfl rfl rfl rfl rfl hb2 fun a h => ?_)
   refine wvl h (pckT h rfl hb2 rfl) fun a h => ?_
   refine wmv h rfl fun a h => ?_
   refine wl (stp_off h rfl rfl rfl rfl rfl rfl fun a h => ?_)
   refine wl (stp_off h rfl rfl rfl rfl rfl rfl fun a h => ?_)
   refine wl (stp_off h rfl rfl rfl rfl rfl rfl fun a h => ?_)
   refine wl (stp_off h rfl rfl rfl rfl rfl rfl fun a h => ?_)
   refine wvl h (pckT h rfl rfl rfl) fun a h => ?_
   refine wmv h rfl fun a h => ?_
   refine wl (stp_off h rfl rfl rfl rfl rfl rfl fun a h => ?_)
   refine wl (stp_off h rfl rfl rfl rfl rfl rfl fun a h => ?_)
   refine wl (stp_off h rfl rfl rfl rfl rfl rfl fun a h => ?_)
   refine wvl h (pckT h rfl rfl rfl) fun a h => ?_
   refine wmv h rfl fun a h => ?_
   refine wl (stp_off h rfl rfl rfl rfl rfl rfl fun a h => ?_)
   refine wl (stp_off h rfl rfl rfl rfl rfl rfl fun a h => ?_)
   refine wvl h (pckT h rfl rfl rfl) fun a h => ?_
   refine wmv h rfl fun a h => ?_
   refine wl (stp_off h rfl rfl rfl rfl rfl rfl fun a h => ?_)
   refine wl (stp_off h rfl rfl rfl rfl rfl rfl fun a h => ?_)
   refine wl (stp_off h rfl rfl rfl rfl rfl rfl fun a h => ?_)
   refine wl (stp_off h rfl rfl rfl rfl rfl rfl fun a h => ?_)
   refine wvl h (pckT h rfl rfl rfl) fun a h => ?_
   refine wmv h rfl fun a h => ?_
   refine wl (stp_off h rfl rfl rfl rfl rfl rfl fun a h => ?_)
   refine wl (stp_off h rfl rfl rfl rfl rfl rfl fun a h => ?_)
   refine wvl h (pckT h rfl rfl rfl) fun a h => ?_
   refine wmv h rfl fun a h => ?_
   refine wl (stp_off h rfl rfl rfl rfl rfl rfl fun a h => ?_)
   refine wl (stp_off h rfl rfl rfl rfl rfl rfl fun a h => ?_)
   refine wl (stp_off h rfl rfl rfl rfl rfl rfl fun a h => ?_)
   refine wl (stp_off h rfl rfl rfl rfl rfl rfl fun a h => ?_)
   refine wl (stp_off h rfl rfl rfl rfl rfl rfl fun a h => ?_)
   refine wvl h (pckT h rfl rfl rfl) fun a h => ?_
   refine wn ?_
   refine cnd1 h rfl (fun _ => ?_) (fun e => nomatch e)
   refine rg ?_
   refine wl (cal h rfl en20_W43 (known_L _ (hGl.keep hp)) fun u w5 ⟨e1, e2⟩ a h => ?_)
   subst e1
   have hp := hp.below e2
   refine wsg h rfl fun a h => ?_
   refine wn ?_
   refine wp_ret ?_
   try simp only [xqs, ↓reduceIte, Nat.reduceEqDiff]
   refine rt_1 h rfl (rvT h rfl) ?_
   exact ⟨_, rfl, rfl, hp.bel⟩
  ·have hn1 := hb2
   have hlW0 := (eng_ok (by simpa using hn1)).wide
   refine wl (stp_on h rfl rfl rfl hb2 (vl h (fad h rfl fo32_4) fun a h => ?_))
   refine wl (stp_on h rfl rfl rfl hb2 (vl h (ldo h hp rfl 0 rfl rfl ag30) fun a h => ?_))
   refine wl (stp_on h rfl rfl rfl hb2 (vl h (mov h rfl) fun a h => ?_))
   refine wl (stp_on h rfl rfl rfl hb2 (cal h rfl en17_W43 (Set_T _ _ _ _ _ (hS2.keep (by decide) hp cl0) (hG.keep hp cl0).f) fun u w6 ⟨e1, e2⟩ a h => ?_))
   subst e1
   have hp := hp.below e2
   refine wl (stp_on h rfl rfl rfl hb2 (vl h (not_ h rfl) fun a h => ?_))
   refine wvl h (pckF h rfl hb2 rfl) fun a h => ?_
   refine wmv h rfl fun a h => ?_
   refine split (t := 36) h rfl (fun hb3 => ?_) (fun hb3 => ?_)
   ·refine wl (stp_off h rfl rfl rfl rfl rfl hb3 fun a h => ?_)
    refine wl (stp_off h rfl rfl rfl rfl rfl hb3 fun a h => ?_)
    refine wl (stp_off h rfl rfl rfl rfl rfl hb3 fun a h => ?_)
    refine wl (stp_off h rfl rfl rfl rfl rfl hb3 fun a h => ?_)
    refine wvl h (pckT h rfl hb3 rfl) fun a h => ?_
    refine wmv h rfl fun a h => ?_
    refine wl (stp_off h rfl rfl rfl rfl rfl rfl fun a h => ?_)
    refine wl (stp_off h rfl rfl rfl rfl rfl rfl fun a h => ?_)
    refine wl (stp_off h rfl rfl rfl rfl rfl rfl fun a h => ?_)
    refine wvl h (pckT h rfl rfl rfl) fun a h => ?_
    refine wmv h rfl fun a h => ?_
    refine wl (stp_off h rfl rfl rfl rfl rfl rfl fun a h => ?_)
    refine wl (stp_off h rfl rfl rfl rfl rfl rfl fun a h => ?_)
    refine wvl h (pckT h rfl rfl rfl) fun a h => ?_
    refine wmv h rfl fun a h => ?_
    refine wl (stp_off h rfl rfl rfl rfl rfl rfl fun a h => ?_)
    refine wl (stp_off h rfl rfl rfl rfl rfl rfl fun a h => ?_)
    refine wl (stp_off h rfl rfl rfl rfl rfl rfl fun a h => ?_)
    refine wl (stp_off h rfl rfl rfl rfl rfl rfl fun a h => ?_)
    refine wvl h (pckT h rfl rfl rfl) fun a h => ?_
    refine wmv h rfl fun a h => ?_
    refine wl (stp_off h rfl rfl rfl rfl rfl rfl fun a h => ?_)
    refine wl (stp_off h rfl rfl rfl rfl rfl rfl fun a h => ?_)
    refine wvl h (pckT h rfl rfl rfl) fun a h => ?_
    refine wmv h rfl fun a h => ?_
    refine wl (stp_off h rfl rfl rfl rfl rfl rfl fun a h => ?_)
    refine wl (stp_off h rfl rfl rfl rfl rfl rfl fun a h => ?_)
    refine wl (stp_off h rfl rfl rfl rfl rfl rfl fun a h => ?_)
    refine wl (stp_off h rfl rfl rfl rfl rfl rfl fun a h => ?_)
    refine wl (stp_off h rfl rfl rfl rfl rfl rfl fun a h => ?_)
    refine wvl h (pckT h rfl rfl rfl) fun a h => ?_
    refine wn ?_
    refine cnd1 h rfl (fun _ => ?_) (fun e => nomatch e)
    refine rg ?_
    refine wl (cal h rfl en20_W43 (known_L _ (hGl.keep hp)) fun u w7 ⟨e1, e2⟩ a h => ?_)
    subst e1
    have hp := hp.below e2
    refine wsg h rfl fun a h => ?_
    refine wn ?_
    refine wp_ret ?_
    try simp only [xqs, ↓reduceIte, Nat.reduceEqDiff]
    refine rt_1 h rfl (rvT h rfl) ?_
    exact ⟨_, rfl, rfl, hp.bel⟩
   ·have hn2 := hb3
    refine wl (stp_on h rfl rfl rfl hb3 (vl h (mov h rfl) fun a h => ?_))
    refine wl (stp_on h rfl rfl rfl hb3 (vl h (mov h rfl) fun a h => ?_))
    refine wl (stp_on h rfl rfl rfl hb3 (cal h rfl en26_W43 (Span_R _ _ _) fun u w8 ⟨e1, e2⟩ a h => ?_))
    subst e1
    subst e2
    refine wl (stp_on h rfl rfl rfl hb3 (vl h (not_ h rfl) fun a h => ?_))
    refine wvl h (pckF h rfl hb3 rfl) fun a h => ?_
    refine wmv h rfl fun a h => ?_
    refine split (t := 42) h rfl (fun hb4 => ?_) (fun hb4 => ?_)
    ·refine wl (stp_off h rfl rfl rfl rfl rfl hb4 fun a h => ?_)
     refine wl (stp_off h rfl rfl rfl rfl rfl hb4 fun a h => ?_)
     refine wl (stp_off h rfl rfl rfl rfl rfl hb4 fun a h => ?_)
     refine wvl h (pckT h rfl hb4 rfl) fun a h => ?_
     refine wmv h rfl fun a h => ?_
     refine wl (stp_off h rfl rfl rfl rfl rfl rfl fun a h => ?_)
     refine wl (stp_off h rfl rfl rfl rfl rfl rfl fun a h => ?_)
     refine wvl h (pckT h rfl rfl rfl) fun a h => ?_
     refine wmv h rfl fun a h => ?_
     refine wl (stp_off h rfl rfl rfl rfl rfl rfl fun a h => ?_)
     refine wl (stp_off h rfl rfl rfl rfl rfl rfl fun a h => ?_)
     refine wl (stp_off h rfl rfl rfl rfl rfl rfl fun a h => ?_)
     refine wl (stp_off h rfl rfl rfl rfl rfl rfl fun a h => ?_)
     refine wvl h (pckT h rfl rfl rfl) fun a h => ?_
     refine wmv h rfl fun a h => ?_
     refine wl (stp_off h rfl rfl rfl rfl rfl rfl fun a h => ?_)
     refine wl (stp_off h rfl rfl rfl rfl rfl rfl fun a h => ?_)
     refine wvl h (pckT h rfl rfl rfl) fun a h => ?_
     refine wmv h rfl fun a h => ?_
     refine wl (stp_off h rfl rfl rfl rfl rfl rfl fun a h => ?_)
     refine wl (stp_off h rfl rfl rfl rfl rfl rfl fun a h => ?_)
     refine wl (stp_off h rfl rfl rfl rfl rfl rfl fun a h => ?_)
     refine wl (stp_off h rfl rfl rfl rfl rfl rfl fun a h => ?_)
     refine wl (stp_off h rfl rfl rfl rfl rfl rfl fun a h => ?_)
     refine wvl h (pckT h rfl rfl rfl) fun a h => ?_
     refine wn ?_
     refine cnd1 h rfl (fun _ => ?_) (fun e => nomatch e)
     refine rg ?_
     refine wl (cal h rfl en20_W43 (known_L _ (hGl.keep hp)) fun u w9 ⟨e1, e2⟩ a h => ?_)
     subst e1
     have hp := hp.below e2
     refine wsg h rfl fun a h => ?_
     refine wn ?_
     refine wp_ret ?_
     try simp only [xqs, ↓reduceIte, Nat.reduceEqDiff]
     refine rt_1 h rfl (rvT h rfl) ?_
     exact ⟨_, rfl, rfl, hp.bel⟩
    ·have hn3 := hb4
     refine wl (stp_on h rfl rfl rfl hb4 (vl h (mov h rfl) fun a h => ?_))
     refine wl (stp_on h rfl rfl rfl hb4 (cal h rfl en37_W43 (Late_R _ _) fun u w10 ⟨e1, e2⟩ a h => ?_))
     subst e1
     subst e2
     refine wl (stp_on h rfl rfl rfl hb4 (vl h (not_ h rfl) fun a h => ?_))
     refine wvl h (pckF h rfl hb4 rfl) fun a h => ?_
     refine wmv h rfl fun a h => ?_
     refine split (t := 47) h rfl (fun hb5 => ?_) (fun hb5 => ?_)
     ·refine wl (stp_off h rfl rfl rfl rfl rfl hb5 fun a h => ?_)
      refine wl (stp_off h rfl rfl rfl rfl rfl hb5 fun a h => ?_)
      refine wvl h (pckT h rfl hb5 rfl) fun a h => ?_
      refine wmv h rfl fun a h => ?_
      refine wl (stp_off h rfl rfl rfl rfl rfl rfl fun a h => ?_)
      refine wl (stp_off h rfl rfl rfl rfl rfl rfl fun a h => ?_)
      refine wl (stp_off h rfl rfl rfl rfl rfl rfl fun a h => ?_)
      refine wl (stp_off h rfl rfl rfl rfl rfl rfl fun a h => ?_)
      refine wvl h (pckT h rfl rfl rfl) fun a h => ?_
      refine wmv h rfl fun a h => ?_
      refine wl (stp_off h rfl rfl rfl rfl rfl rfl fun a h => ?_)
      refine wl (stp_off h rfl rfl rfl rfl rfl rfl fun a h => ?_)
      refine wvl h (pckT h rfl rfl rfl) fun a h => ?_
      refine wmv h rfl fun a h => ?_
      refine wl (stp_off h rfl rfl rfl rfl rfl rfl fun a h => ?_)
      refine wl (stp_off h rfl rfl rfl rfl rfl rfl fun a h => ?_)
      refine wl (stp_off h rfl rfl rfl rfl rfl rfl fun a h => ?_)
      refine wl (stp_off h rfl rfl rfl rfl rfl rfl fun a h => ?_)
      refine wl (stp_off h rfl rfl rfl rfl rfl rfl fun a h => ?_)
      refine wvl h (pckT h rfl rfl rfl) fun a h => ?_
      refine wn ?_
      refine cnd1 h rfl (fun _ => ?_) (fun e => nomatch e)
      refine rg ?_
      refine wl (cal h rfl en20_W43 (known_L _ (hGl.keep hp)) fun u w11 ⟨e1, e2⟩ a h => ?_)
      subst e1
      have hp := hp.below e2
      refine wsg h rfl fun a h => ?_
      refine wn ?_
      refine wp_ret ?_
      try simp only [xqs, ↓reduceIte, Nat.reduceEqDiff]
      refine rt_1 h rfl (rvT h rfl) ?_
      exact ⟨_, rfl, rfl, hp.bel⟩
     ·have hn4 := hb5
      have hld0 : 0 ≤ lt ∧ lt ≤ 30 := by simpa [isLate, inR] using hn4
      refine wl (stp_on h rfl rfl rfl hb5 (vl h (mov h rfl) fun a h => ?_))
      refine wl (stp_on h rfl rfl rfl hb5 (vl h (lss h rfl rfl) fun a h => ?_))
      refine wvl h (pckF h rfl hb5 rfl) fun a h => ?_
      refine wmv h rfl fun a h => ?_
      refine split (t := 51) h rfl (fun hb6 => ?_) (fun hb6 => ?_)
      ·refine wl (stp_off h rfl rfl rfl rfl rfl hb6 fun a h => ?_)
       refine wl (stp_off h rfl rfl rfl rfl rfl hb6 fun a h => ?_)
       refine wl (stp_off h rfl rfl rfl rfl rfl hb6 fun a h => ?_)
       refine wl (stp_off h rfl rfl rfl rfl rfl hb6 fun a h => ?_)
       refine wvl h (pckT h rfl hb6 rfl) fun a h => ?_
       refine wmv h rfl fun a h => ?_
       refine wl (stp_off h rfl rfl rfl rfl rfl rfl fun a h => ?_)
       refine wl (stp_off h rfl rfl rfl rfl rfl rfl fun a h => ?_)
       refine wvl h (pckT h rfl rfl rfl) fun a h => ?_
       refine wmv h rfl fun a h => ?_
       refine wl (stp_off h rfl rfl rfl rfl rfl rfl fun a h => ?_)
       refine wl (stp_off h rfl rfl rfl rfl rfl rfl fun a h => ?_)
       refine wl (stp_off h rfl rfl rfl rfl rfl rfl fun a h => ?_)
       refine wl (stp_off h rfl rfl rfl rfl rfl rfl fun a h => ?_)
       refine wl (stp_off h rfl rfl rfl rfl rfl rfl fun a h => ?_)
       refine wvl h (pckT h rfl rfl rfl) fun a h => ?_
       refine wn ?_
       refine cnd1 h rfl (fun _ => ?_) (fun e => nomatch e)
       refine rg ?_
       refine wl (cal h rfl en20_W43 (known_L _ (hGl.keep hp)) fun u w12 ⟨e1, e2⟩ a h => ?_)
       subst e1
       have hp := hp.below e2
       refine wsg h rfl fun a h => ?_
       refine wn ?_
       refine wp_ret ?_
       try simp only [xqs, ↓reduceIte, Nat.reduceEqDiff]
       refine rt_1 h rfl (rvT h rfl) ?_
       exact ⟨_, rfl, rfl, hp.bel⟩
      ·have hn5 := hb6
       refine wl (stp_on h rfl rfl rfl hb6 (vl h (mov h rfl) fun a h => ?_))
       refine wl (stp_on h rfl rfl rfl hb6 (vl h (mov h rfl) fun a h => ?_))
       refine wl (stp_on h rfl rfl rfl hb6 (vl h (sub h rfl rfl (by omega)) fun a h => ?_))
       refine wl (stp_on h rfl rfl rfl hb6 (vl h (gtr h rfl rfl) fun a h => ?_))
       refine wvl h (pckF h rfl hb6 rfl) fun a h => ?_
       refine wmv h rfl fun a h => ?_
       refine split (t := 57) h rfl (fun hb7 => ?_) (fun hb7 => ?_)
       ·refine wl (stp_off h rfl rfl rfl rfl rfl hb7 fun a h => ?_)
        refine wl (stp_off h rfl rfl rfl rfl rfl hb7 fun a h => ?_)
        refine wvl h (pckT h rfl hb7 rfl) fun a h => ?_
        refine wmv h rfl fun a h => ?_
        refine wl (stp_off h rfl rfl rfl rfl rfl rfl fun a h => ?_)
        refine wl (stp_off h rfl rfl rfl rfl rfl rfl fun a h => ?_)
        refine wl (stp_off h rfl rfl rfl rfl rfl rfl fun a h => ?_)
        refine wl (stp_off h rfl rfl rfl rfl rfl rfl fun a h => ?_)
        refine wl (stp_off h rfl rfl rfl rfl rfl rfl fun a h => ?_)
        refine wvl h (pckT h rfl rfl rfl) fun a h => ?_
        refine wn ?_
        refine cnd1 h rfl (fun _ => ?_) (fun e => nomatch e)
        refine rg ?_
        refine wl (cal h rfl en20_W43 (known_L _ (hGl.keep hp)) fun u w13 ⟨e1, e2⟩ a h => ?_)
        subst e1
        have hp := hp.below e2
        refine wsg h rfl fun a h => ?_
        refine wn ?_
        refine wp_ret ?_
        try simp only [xqs, ↓reduceIte, Nat.reduceEqDiff]
        refine rt_1 h rfl (rvT h rfl) ?_
        exact ⟨_, rfl, rfl, hp.bel⟩
       ·have hn6 := hb7
        refine wl (stp_on h rfl rfl rfl hb7 (vl h (mov h rfl) fun a h => ?_))
        refine wl (stp_on h rfl rfl rfl hb7 (vl h (lss h rfl rfl) fun a h => ?_))
        refine wvl h (pckF h rfl hb7 rfl) fun a h => ?_
        refine wmv h rfl fun a h => ?_
        refine split (t := 61) h rfl (fun hb8 => ?_) (fun hb8 => ?_)
        ·refine wl (stp_off h rfl rfl rfl rfl rfl hb8 fun a h => ?_)
         refine wl (stp_off h rfl rfl rfl rfl rfl hb8 fun a h => ?_)
         refine wl (stp_off h rfl rfl rfl rfl rfl hb8 fun a h => ?_)
         refine wl (stp_off h rfl rfl rfl rfl rfl hb8 fun a h => ?_)
         refine wl (stp_off h rfl rfl rfl rfl rfl hb8 fun a h => ?_)
         refine wvl h (pckT h rfl hb8 rfl) fun a h => ?_
         refine wn ?_
         refine cnd1 h rfl (fun _ => ?_) (fun e => nomatch e)
         refine rg ?_
         refine wl (cal h rfl en20_W43 (known_L _ (hGl.keep hp)) fun u w14 ⟨e1, e2⟩ a h => ?_)
         subst e1
         have hp := hp.below e2
         refine wsg h rfl fun a h => ?_
         refine wn ?_
         refine wp_ret ?_
         try simp only [xqs, ↓reduceIte, Nat.reduceEqDiff]
         refine rt_1 h rfl (rvT h rfl) ?_
         exact ⟨_, rfl, rfl, hp.bel⟩
        ·have hn7 := hb8
         refine wl (stp_on h rfl rfl rfl hb8 (vl h (mov h rfl) fun a h => ?_))
         refine wl (stp_on h rfl rfl rfl hb8 (vl h (fad h rfl fo32_7) fun a h => ?_))
         refine wl (stp_on h rfl rfl rfl hb8 (vl h (ldo h hp rfl 0 rfl rfl ag3) fun a h => ?_))
         refine wl (stp_on h rfl rfl rfl hb8 (vl h (sub h rfl rfl (by omega)) fun a h => ?_))
         refine wl (stp_on h rfl rfl rfl hb8 (vl h (gtr h rfl rfl) fun a h => ?_))
         refine wvl h (pckF h rfl hb8 rfl) fun a h => ?_
         refine wn ?_
         refine cnd1 h rfl (fun hb9 => ?_) (fun hb9 => ?_)
         ·refine rg ?_
          refine wl (cal h rfl en20_W43 (known_L _ (hGl.keep hp)) fun u w15 ⟨e1, e2⟩ a h => ?_)
          subst e1
          have hp := hp.below e2
          refine wsg h rfl fun a h => ?_
          refine wn ?_
          refine wp_ret ?_
          try simp only [xqs, ↓reduceIte, Nat.reduceEqDiff]
          refine rt_1 h rfl (rvT h rfl) ?_
          exact ⟨_, rfl, rfl, hp.bel⟩
         ·have hn8 := hb9
          have hen : isEngine e = true := by simpa using hn1
          have hse : isSet e st = true := by simpa [isSet] using hn2
          have hE0 : RdE w x e s2 st := ⟨hG, hS2, hen, hse⟩
          have ok := eng_ok hen
          have hlN := ok.new
          have hlF := ok.full
          have hlW := ok.wide
          have hspn : isSpan d1 d2 = true := by simpa using hn3
          have hd := hspn
          simp only [isSpan, inR, Bool.and_eq_true, decide_eq_true_eq] at hd
          have hla : isLate lt = true := by simpa using hn4
          have hld := hla
          simp only [isLate, inR, Bool.and_eq_true, decide_eq_true_eq] at hld
          have hspl : (inR d1 1 9000 && inR d2 d1 9000 && decide (d2 - d1 ≤ 400) && inR lt 0 30) = true := by rw [Bool.and_eq_true]; exact ⟨hspn, hla⟩
          have hm5 := of_decide_eq_false hn5
          have hm6 := of_decide_eq_false hn6
          have hm7 := of_decide_eq_false hn7
          have hm8 := of_decide_eq_false hn8
          have hsub := missed_more (e := e) (set := st) (a := d1) (b := d2) (late := lt) (d := dd) (w := wd) (by omega) (by omega)
          have hE1 : RdE w x { e with wide := e.wide + wd } s2 st := hE0.wide (by simp only [isLimit, inR, Bool.and_eq_true, decide_eq_true_eq]; omega)
          have hsl := hsub.length_le
          have hlen := missed_len (e := e) (st := st) (lt := lt) (a := d1) (b := d2) (by omega)
          have hspm : (inR d1 1 9000 && inR d2 d1 9000 && decide (d2 - d1 ≤ 400) && inR (lt + dd) 0 30) = true := by simp only [inR, Bool.and_eq_true, decide_eq_true_eq]; omega
          refine skp ?_
          refine rg ?_
          refine wvl h (ldO (us := [_, _, _, _, _, _, _, _, _, _, _]) h hp rfl 0 rfl sz32 rfl ag32) fun a h => ?_
          refine wmv h rfl fun a h => ?_
          refine wmv h rfl fun a h => ?_
          refine wmv h rfl fun a h => ?_
          refine wmv h rfl fun a h => ?_
          refine wl (cal h rfl en39 (Missed_s x e s2 st d1 d2 lt _ (hE0.keep hp cl0) hspl) fun u w16 ⟨⟨s21, e1, hf⟩, e2⟩ a h => ?_)
          subst e1
          have hp := hp.got (hp.below e2) (by decide) hf
          refine wmv h rfl fun a h => ?_
          refine wvl h (ext h rfl rfl) fun a h => ?_
          refine wvl h (ext h rfl rfl) fun a h => ?_
          refine wsg h rfl fun a h => ?_
          refine wsg h rfl fun a h => ?_
          refine wn ?_
          refine rg ?_
          refine wvl h (ldO (us := [_, _, _, _, _, _, _, _, _, _, _]) h hp rfl 0 rfl sz32 rfl ag32) fun a h => ?_
          refine wvl h (fad h rfl fo32_7) fun a h => ?_
          refine wvl h (ldo h hp rfl 0 rfl rfl ag3) fun a h => ?_
          refine wmv h rfl fun a h => ?_
          refine wvl h (add h rfl rfl (by omega)) fun a h => ?_
          refine wl (cal h rfl en51_W43 (Widened_R x e _ _) fun u w17 ⟨e1, e2⟩ a h => ?_)
          subst e1
          have hp := hp.below e2
          refine wmv h rfl fun a h => ?_
          refine wmv h rfl fun a h => ?_
          refine wmv h rfl fun a h => ?_
          refine wmv h rfl fun a h => ?_
          refine wmv h rfl fun a h => ?_
          refine wvl h (add h rfl rfl (by omega)) fun a h => ?_
          refine wl (cal h rfl en39 (Missed_s x { e with wide := e.wide + wd } s2 st d1 d2 (lt + dd) _ (hE1.keep hp cl0) hspm) fun u w18 ⟨⟨s22, e1, hf⟩, e2⟩ a h => ?_)
          subst e1
          have hp := hp.got (hp.below e2) (by decide) hf
          refine wmv h rfl fun a h => ?_
          refine wvl h (ext h rfl rfl) fun a h => ?_
          refine wvl h (ext h rfl rfl) fun a h => ?_
          refine wsg h rfl fun a h => ?_
          refine wsg h rfl fun a h => ?_
          refine wn ?_
          refine wp_seq ?_
          refine rg ?_
          refine wmv h rfl fun a h => ?_
          refine wvl h (nei h rfl rfl) fun a h => ?_
          refine wmv h rfl fun a h => ?_
          refine split (t := 96) h rfl (fun hb10 => ?_) (fun hb10 => ?_)
          ·exact absurd hb10 (by first | decide | (simp; done))
          ·refine wl (stp_on h rfl rfl rfl hb10 (vl h (mov h rfl) fun a h => ?_))
           refine wl (stp_on h rfl rfl rfl hb10 (vl h (nei h rfl rfl) fun a h => ?_))
           refine wvl h (pckF h rfl hb10 rfl) fun a h => ?_
           refine wmv h rfl fun a h => ?_
           refine split (t := 100) h rfl (fun hb11 => ?_) (fun hb11 => ?_)
           ·exact absurd hb11 (by first | decide | (simp; done))
           ·refine wl (stp_on h rfl rfl rfl hb11 (vl h (mov h rfl) fun a h => ?_))
            refine wl (stp_on h rfl rfl rfl hb11 (vl h (lenR h rfl Tryz.underlying50 (hp.rdF (i := 2) rfl)) fun a h => ?_))
            refine wl (stp_on h rfl rfl rfl hb11 (vl h (mov h rfl) fun a h => ?_))
            refine wl (stp_on h rfl rfl rfl hb11 (vl h (lenR h rfl Tryz.underlying50 (hp.rdF (i := 1) rfl)) fun a h => ?_))
            refine wl (stp_on h rfl rfl rfl hb11 (vl h (gtr h rfl rfl) fun a h => ?_))
            refine wvl h (pckF h rfl hb11 rfl) fun a h => ?_
            refine wmv h rfl fun a h => ?_
            refine split (t := 107) h rfl (fun hb12 => ?_) (fun hb12 => ?_)
            ·exact absurd hb12 (by first | decide | (simp only [Bool.not_eq_true', Bool.not_eq_false', Bool.not_eq_true, Bool.not_eq_false, decide_eq_true_eq, decide_eq_false_iff_not, gt_iff_lt, ge_iff_le]; omega) | (simp; done))
            ·refine wl (stp_on h rfl rfl rfl hb12 (vl h (mov h rfl) fun a h => ?_))
             refine wl (stp_on h rfl rfl rfl hb12 (vl h (lenR h rfl Tryz.underlying50 (hp.rdF (i := 1) rfl)) fun a h => ?_))
             refine wl (stp_on h rfl rfl rfl hb12 (vl h (gtr h rfl rfl) fun a h => ?_))
             refine wvl h (pckF h rfl hb12 rfl) fun a h => ?_
             refine wn ?_
             refine cnd1 h rfl (fun hb13 => ?_) (fun hb13 => ?_)
             ·exact absurd hb13 (by first | decide | (simp only [Bool.not_eq_true', Bool.not_eq_false', Bool.not_eq_true, Bool.not_eq_false, decide_eq_true_eq, decide_eq_false_iff_not, gt_iff_lt, ge_iff_le]; omega) | (simp; done))
             ·refine skp ?_
              refine wp_seq ?_
              refine rg ?_
              refine wsg h rfl fun a h => ?_
              refine wn ?_
              refine lp1 h [15, 17, 67, 111] (fun n f w' => ∃ k : Nat, k ≤ (missed { e with wide := e.wide + wd } st d1 d2 (lt + dd)).length ∧ n = (missed { e with wide := e.wide + wd } st d1 d2 (lt + dd)).length - k ∧ f = [(19, .int .i64 k)] ∧ Hp c0 w w' ([.blk g1 (.cells #[x.b.v, .int .i64 e.nnum, .int .i64 e.nden, .int .i64 e.nstart, x.s.v, x.m.v, x.n.v, x.f.v, .int .i64 e.new, .int .i64 e.full, .int .i64 e.wide] 32 (0, 0)), rdE encM 3 s21.v (missed e st d1 d2 lt), rdE encM 3 s22.v (missed { e with wide := e.wide + wd } st d1 d2 (lt + dd))]) ∧ True) ((missed { e with wide := e.wide + wd } st d1 d2 (lt + dd)).length) [(19, .int .i64 ((0 : Nat) : Int))] ⟨rfl, rfl, rfl, rfl, rfl, trivial⟩ ⟨0, Nat.zero_le _, rfl, rfl, hp, trivial⟩ ?_
              rintro n f a w19 ⟨k, hk, rfl, rfl, hp, _⟩ h
              have hfit := (hp.rdF (i := 2) rfl).fits
              refine wp_seq ?_
              refine rg ?_
              refine wmv h rfl fun a h => ?_
              refine wmv h rfl fun a h => ?_
              refine wvl h (lenR h rfl Tryz.underlying50 (hp.rdF (i := 2) rfl)) fun a h => ?_
              refine wvl h (lss h rfl rfl) fun a h => ?_
              refine wn ?_
              refine cnd1 h rfl (fun hb14 => ?_) (fun hb14 => ?_)
              ·have hlt : k < (missed { e with wide := e.wide + wd } st d1 d2 (lt + dd)).length := by have := of_decide_eq_true hb14; omega
               obtain ⟨y, hy⟩ : ∃ y, (missed { e with wide := e.wide + wd } st d1 d2 (lt + dd))[k]? = some y := ⟨_, List.getElem?_eq_getElem hlt⟩
               refine skp ?_
               refine blk ?_
               refine rg ?_
               refine wmv h rfl fun a h => ?_
               refine wmv h rfl fun a h => ?_
               refine wmv h rfl fun a h => ?_
               refine wvl h (iadR (k) h rfl rfl Tryz.underlying50 sz59 (hp.rdF (i := 2) rfl) (rfl) (hlt)) fun a h => ?_
               refine wvl h (ldE h (hp.rdF (i := 2) rfl) hy rfl ag59 sz59) fun a h => ?_
               refine wl (cal h rfl en32_W43 (listed_L _ _ y _ (hp.rdF (i := 1) rfl)) fun u w20 ⟨e1, e2⟩ a h => ?_)
               subst e1
               have hp := hp.below e2
               refine wvl h (not_ h rfl) fun a h => ?_
               refine wn ?_
               refine cnd1 h rfl (fun hb15 => ?_) (fun hb15 => ?_)
               ·exact absurd hb15 (by rw [mem_of_any (hsub.subset (List.mem_of_getElem? hy))]; decide)
               ·refine wp_skip ?_
                refine rg1 ?_
                refine wmv h rfl fun a h => ?_
                refine wvl h (add h rfl rfl (by omega)) fun a h => ?_
                refine wsg h rfl fun a h => ?_
                refine wn ?_
                exact ⟨_, _, (by omega), ⟨k + 1, by omega, rfl, rfl, hp.pre 3 rfl, trivial⟩, h.sub ⟨rfl, rfl, rfl, rfl, rfl, trivial⟩⟩
              ·refine wp_exit ?_
               try simp only [xqs, ↓reduceIte, Nat.reduceEqDiff]
               refine rg ?_
               refine wl (cal h rfl en20_W43 (known_L _ (hGl.keep hp)) fun u w21 ⟨e1, e2⟩ a h => ?_)
               subst e1
               have hp := hp.below e2
               refine wsg h rfl fun a h => ?_
               refine wn ?_
               refine wp_ret ?_
               try simp only [xqs, ↓reduceIte, Nat.reduceEqDiff]
               refine rt_1 h rfl (rvT h rfl) ?_
               exact ⟨_, rfl, rfl, hp.bel⟩
end Go.Proofs.Ec
