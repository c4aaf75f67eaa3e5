import Derived.Test.YtobofnkmbpfoiaaGreatDoorProg
import Derived.Test.YtobofnkmbpfoiaaGreatDoorPFa
import Derived.Test.YtobofnkmbpfoiaaGreatDoorPQb
import Derived.Test.YtobofnkmbpfoiaaGreatDoorPW31
import Derived.Test.YtobofnkmbpfoiaaGreatDoorPQa
import Derived.Test.YtobofnkmbpfoiaaGreatDoorPKp
import Derived.Test.YtobofnkmbpfoiaaGreatDoorPW22
import Derived.Test.YtobofnkmbpfoiaaGreatDoorPW29
set_option linter.unusedVariables false
set_option linter.unusedSimpArgs false
set_option maxRecDepth 4000
namespace Go.Proofs.Ec
open Go.RowKit Go.Proofs.Sx
open Ecl
theorem en15_W42 : EnT Tryz.prog 15 := ento Tryz.func15
theorem en20_W42 : EnT Tryz.prog 20 := ento Tryz.func20
theorem en16_W42 : EnT Tryz.prog 16 := ento Tryz.func16
theorem en17_W42 : EnT Tryz.prog 17 := ento Tryz.func17
theorem en26_W42 : EnT Tryz.prog 26 := ento Tryz.func26
theorem en37_W42 : EnT Tryz.prog 37 := ento Tryz.func37
theorem en52_W42 : EnT Tryz.prog 52 := ento Tryz.func52
theorem en23_W42 : EnT Tryz.prog 23 := ento Tryz.func23
theorem never_k {e : Eng} {st : List Int} (ok : EngOk e) (hse : isSet e st = true) {L late from_ to : Int} (hL : 0 ≤ L ∧ L ≤ 1000) (h0 : 0 ≤ late) (hfrom : late < from_) (hev : evenB e = true)
 (k1 : keepsS (withinB (turns e.sun) e.b0.den e.b0.num L) e.feasts (to + late) st 0 = true) (k2 : keepsS (withinB (turns e.moon) e.b1.den e.b1.num L) e.feasts (to + late) st 0 = true) (k3 : keepsS (withinB (turns e.node) e.nden e.nnum L) e.feasts (to + late) st 0 = true)
 (hl : 2 * L + 4 ≤ (late - 1) * (21600 * (e.b1.den * e.b0.num - e.b0.den * e.b1.num) / (e.b1.num * e.b0.num))) (hw : late * (21600 * e.b1.den / e.b1.num + 21600 * e.nden / e.nnum + 2) + 2 * L + 6 ≤ e.wide ∨ 5400 ≤ min e.new e.full + e.wide) : missed e st from_ to late = [] := by
 have g := eng_good ok
 rw [evenB, Bool.and_eq_true, List.all_eq_true, List.all_eq_true] at hev
 refine never g ok.slow hL h0 hfrom (fun n hn => by simpa [zr] using hev.1 n hn) (fun n hn => by simpa [zr] using hev.2 n hn) (fun t t0 t1 => ?_) (fun t t0 t1 => ?_) (fun t t0 t1 => ?_) hl hw
 ·have := near_of_keeps ok.feasts hse g.s0 g.sn hL.1 t0 t1 k1
  show e.b0.start + uWay _ _ _ _ _ ≤ e.b0.start + rWay e.b0.den e.b0.num t + L ∧ e.b0.start + rWay e.b0.den e.b0.num t ≤ e.b0.start + uWay _ _ _ _ _ + L
  omega
 ·have := near_of_keeps ok.feasts hse g.m0 g.mn hL.1 t0 t1 k2
  show e.b1.start + uWay _ _ _ _ _ ≤ e.b1.start + rWay e.b1.den e.b1.num t + L ∧ e.b1.start + rWay e.b1.den e.b1.num t ≤ e.b1.start + uWay _ _ _ _ _ + L
  omega
 ·have := near_of_keeps ok.feasts hse g.n0 g.nn hL.1 t0 t1 k3
  show e.nstart - uWay _ _ _ _ _ ≤ e.nstart - rWay e.nden e.nnum t + L ∧ e.nstart - rWay e.nden e.nnum t ≤ e.nstart - uWay _ _ _ _ _ + L
  omega
set_option maxHeartbeats 4000000 in
theorem EclipseNever_L (x : EV) (e : Eng) (s2 : SV) (st : List Int) (d1 d2 lt lm : Int) (w : World) (hG : RdG w x e) (hS2 : Rd w encI 1 s2.v st) (hGl : Glb w) : Ret Tryz.prog 12 #[.agg #[x.b.v, .int .i64 e.nnum, .int .i64 e.nden, .int .i64 e.nstart, x.s.v, x.m.v, x.n.v, x.f.v, .int .i64 e.new, .int .i64 e.full, .int .i64 e.wide], s2.v, .int .i64 d1, .int .i64 d2, .int .i64 lt, .int .i64 lm] w fun u w' => u = .bool true ∧ Below w.heap.size w w' := by
 have hp : Hp c0 w w [] := Hp.start trivial
 refine enter Tryz.func12 rfl (N := 211) rfl rfl fun a h => ?_
 refine rg ?_
 refine wl (box (cs := #[_, _, _, _, _, _, _, _, _, _, _]) h hp rfl rfl fun a w1 g1 hg1 h hp => ?_)
 refine wsg h rfl fun a h => ?_
 refine wn ?_
 refine wp_seq ?_
 refine rg ?_
 refine wvl h (ldO (us := [_, _, _, _, _, _, _, _, _, _, _]) h hp rfl 0 rfl sz32 rfl ag32) fun a h => ?_
 refine wmv h rfl fun a h => ?_
 refine wl (cal h rfl en15_W42 (short_L x e s2 st _ (hG.keep hp cl0) (hS2.keep (by decide) hp cl0)) fun u w2 ⟨⟨bsh, e1⟩, e2⟩ a h => ?_)
 subst e1
 have hp := hp.below e2
 refine wvl h (not_ h rfl) fun a h => ?_
 refine wmv h rfl fun a h => ?_
 refine split (t := 26) h rfl (fun hb1 => ?_) (fun hb1 => ?_)
 ·refine wl (stp_off h rfl rfl rfl rfl rfl hb1 fun a h => ?_)
  refine wl (stp_off h rfl rfl rfl rfl rfl hb1 fun a h => ?_)
  refine wl (stp_off h rfl rfl rfl rfl rfl hb1 fun a h => ?_)
  refine wvl h (pckT h rfl hb1 rfl) fun a h => ?_
  refine wmv h rfl fun a h => ?_
  refine wl (stp_off h rfl rfl rfl rfl rfl rfl fun a h => ?_)
  refine wl (stp_off h rfl rfl rfl rfl rfl rfl fun a h => ?_)
  refine wl (stp_off h rfl rfl rfl rfl rfl rfl fun a h => ?_)
  refine wl (stp_off h rfl rfl rfl rfl rfl rfl fun a h => ?_)
  refine wl (stp_off h rfl rfl rfl rfl rfl rfl fun a h => ?_)
  refine wvl h (pckT h rfl rfl rfl) fun a h => ?_
  refine wmv h rfl fun a h => ?_
  refine wl (stp_off h rfl rfl rfl rfl rfl rfl fun a h => ?_)
  refine wl (stp_off h rfl rfl rfl rfl rfl rfl fun a h => ?_)
  refine wl (stp_off h rfl rfl rfl rfl rfl rfl fun a h => ?_)
  refine wl (stp_off h rfl rfl rfl rfl rfl rfl fun a h => ?_)
  refine wvl h (pckT h rfl rfl rfl) fun a h => ?_
  refine wmv h rfl fun a h => ?_
  refine wl (stp_off h rfl rfl rfl rfl rfl rfl fun a h => ?_)
  refine wl (stp_off h rfl rfl rfl rfl rfl rfl fun a h => ?_)
  refine wl (stp_off h rfl rfl rfl rfl rfl rfl fun a h => ?_)
  refine wvl h (pckT h rfl rfl rfl) fun a h => ?_
  refine wmv h rfl fun a h => ?_
  refine wl (stp_off h rfl rfl rfl rfl rfl rfl fun a h => ?_)
  refine wl (stp_off h rfl rfl rfl rfl rfl rfl fun a h => ?_)
  refine wvl h (pckT h rfl rfl rfl) fun a h => ?_
  refine wmv h rfl fun a h => ?_
  refine wl (stp_off h rfl rfl rfl rfl rfl rfl fun a h => ?_)
  refine wl (stp_off h rfl rfl rfl rfl rfl rfl fun a h => ?_)
  refine wvl h (pckT h rfl rfl rfl) fun a h => ?_
  refine wmv h rfl fun a h => ?_
  refine wl (stp_off h rfl rfl rfl rfl rfl rfl fun a h => ?_)
  refine wl (stp_off h rfl rfl rfl rfl rfl rfl fun a h => ?_)
  refine wl (stp_off h rfl rfl rfl rfl rfl rfl fun a h => ?_)
  refine wvl h (pckT h rfl rfl rfl) fun a h => ?_
  refine wmv h rfl fun a h => ?_
  refine wl (stp_off h rfl rfl rfl rfl rfl rfl fun a h => ?_)
  refine wl (stp_off h rfl rfl rfl rfl rfl rfl fun a h => ?_)
  refine wl (stp_off h rfl rfl rfl rfl rfl rfl fun a h => ?_)
  refine wl (stp_off h rfl rfl rfl rfl rfl rfl fun a h => ?_)
  refine wvl h (pckT h rfl rfl rfl) fun a h => ?_
  refine wn ?_
  refine cnd1 h rfl (fun _ => ?_) (fun e => nomatch e)
  refine rg ?_
  refine wl (cal h rfl en20_W42 (known_L _ (hGl.keep hp)) fun u w3 ⟨e1, e2⟩ a h => ?_)
  subst e1
  have hp := hp.below e2
  refine wsg h rfl fun a h => ?_
  refine wn ?_
  refine wp_ret ?_
  try simp only [xqs, ↓reduceIte, Nat.reduceEqDiff]
  refine rt_1 h rfl (rvT h rfl) ?_
  exact ⟨_, rfl, rfl, hp.bel⟩
 ·have hn0 := hb1
  refine wl (stp_on h rfl rfl rfl hb1 (vl h (ldO (us := [_, _, _, _, _, _, _, _, _, _, _]) h hp rfl 0 rfl sz32 rfl ag32) fun a h => ?_))
  refine wl (stp_on h rfl rfl rfl hb1 (cal h rfl en16_W42 (Engine_R x e _ (by first | exact hG.keep hp cl0 | exact (hE0.keep hp cl0).g)) fun u w4 ⟨e1, e2⟩ a h => ?_))
  subst e1
  have hp := hp.below e2
  refine wl (stp_on h rfl rfl rfl hb1 (vl h (not_ h rfl) fun a h => ?_))
  refine wvl h (pckF h rfl hb1 rfl) fun a h => ?_
  refine wmv h rfl fun a h => ?_
  refine split (t := 31) h rfl (fun hb2 => ?_) (fun hb2 => ?_)
  ·refine wl (stp_off h rfl rfl rfl rfl rfl hb2 fun a h => ?_)
   refine wl (stp_off h rfl rfl rfl rfl rfl hb2 fun a h => ?_)
   refine wl (stp_off h rfl rfl rfl rfl rfl hb2 fun a h => ?_)
   refine wl (stp_off h rfl rfl rfl rfl rfl hb2 fun a h => ?_)
   refine wl (stp_off h rfl rfl rfl rfl rfl hb2 fun a h => ?_)
   refine wvl h (pckT h rfl hb2 rfl) fun a h => ?_
   refine wmv h rfl fun a h => ?_
   refine wl (stp_off h rfl rfl rfl rfl rfl rfl fun a h => ?_)
   refine wl (stp_off h rfl rfl rfl rfl rfl rfl fun a h => ?_)
   refine wl (stp_off h rfl rfl rfl rfl rfl rfl fun a h => ?_)
   refine wl (stp_off h rfl rfl rfl rfl rfl rfl fun a h => ?_)
   refine wvl h (pckT h rfl rfl rfl) fun a h => ?_
   refine wmv h rfl fun a h => ?_
   refine wl (stp_off h rfl rfl rfl rfl rfl rfl fun a h => ?_)
   refine wl (stp_off h rfl rfl rfl rfl rfl rfl fun a h => ?_)
   refine wl (stp_off h rfl rfl rfl rfl rfl rfl fun a h => ?_)
   refine wvl h (pckT h rfl rfl rfl) fun a h => ?_
   refine wmv h rfl fun a h => ?_
   refine wl (stp_off h rfl rfl rfl rfl rfl rfl fun a h => ?_)
   refine wl (stp_off h rfl rfl rfl rfl rfl rfl fun a h => ?_)
   refine wvl h (pckT h rfl rfl rfl) fun a h => ?_
   refine wmv h rfl fun a h => ?_
   refine wl (stp_off h rfl rfl rfl rfl rfl rfl fun a h => ?_)
   refine wl (stp_off h rfl rfl rfl rfl rfl rfl fun a h => ?_)
   refine wvl h (pckT h rfl rfl rfl) fun a h => ?_
   refine wmv h rfl fun a h => ?_
   refine wl (stp_off h rfl rfl rfl rfl rfl rfl fun a h => ?_)
   refine wl (stp_off h rfl rfl rfl rfl rfl rfl fun a h => ?_)
   refine wl (stp_off h rfl rfl rfl rfl rfl rfl fun a h => ?_)
   refine wvl h (pckT h rfl rfl rfl) fun a h => ?_
   refine wmv h rfl fun a h => ?_
   refine wl (stp_off h rfl rfl rfl rfl rfl rfl fun a h => ?_)
   refine wl (stp_off h rfl rfl rfl rfl rfl rfl fun a h => ?_)
   refine wl (stp_off h rfl rfl rfl rfl rfl rfl fun a h => ?_)
   refine wl (stp_off h rfl rfl rfl rfl rfl rfl fun a h => ?_)
   refine wvl h (pckT h rfl rfl rfl) fun a h => ?_
   refine wn ?_
   refine cnd1 h rfl (fun _ => ?_) (fun e => nomatch e)
   refine rg ?_
   refine wl (cal h rfl en20_W42 (known_L _ (hGl.keep hp)) fun u w5 ⟨e1, e2⟩ a h => ?_)
   subst e1
   have hp := hp.below e2
   refine wsg h rfl fun a h => ?_
   refine wn ?_
   refine wp_ret ?_
   try simp only [xqs, ↓reduceIte, Nat.reduceEqDiff]
   refine rt_1 h rfl (rvT h rfl) ?_
   exact ⟨_, rfl, rfl, hp.bel⟩
  ·have hn1 := hb2
   refine wl (stp_on h rfl rfl rfl hb2 (vl h (fad h rfl fo32_4) fun a h => ?_))
   refine wl (stp_on h rfl rfl rfl hb2 (vl h (ldo h hp rfl 0 rfl rfl ag30) fun a h => ?_))
   refine wl (stp_on h rfl rfl rfl hb2 (vl h (mov h rfl) fun a h => ?_))
   refine wl (stp_on h rfl rfl rfl hb2 (cal h rfl en17_W42 (Set_T _ _ _ _ _ (hS2.keep (by decide) hp cl0) (hG.keep hp cl0).f) fun u w6 ⟨e1, e2⟩ a h => ?_))
   subst e1
   have hp := hp.below e2
   refine wl (stp_on h rfl rfl rfl hb2 (vl h (not_ h rfl) fun a h => ?_))
   refine wvl h (pckF h rfl hb2 rfl) fun a h => ?_
   refine wmv h rfl fun a h => ?_
   refine split (t := 38) h rfl (fun hb3 => ?_) (fun hb3 => ?_)
   ·refine wl (stp_off h rfl rfl rfl rfl rfl hb3 fun a h => ?_)
    refine wl (stp_off h rfl rfl rfl rfl rfl hb3 fun a h => ?_)
    refine wl (stp_off h rfl rfl rfl rfl rfl hb3 fun a h => ?_)
    refine wl (stp_off h rfl rfl rfl rfl rfl hb3 fun a h => ?_)
    refine wvl h (pckT h rfl hb3 rfl) fun a h => ?_
    refine wmv h rfl fun a h => ?_
    refine wl (stp_off h rfl rfl rfl rfl rfl rfl fun a h => ?_)
    refine wl (stp_off h rfl rfl rfl rfl rfl rfl fun a h => ?_)
    refine wl (stp_off h rfl rfl rfl rfl rfl rfl fun a h => ?_)
    refine wvl h (pckT h rfl rfl rfl) fun a h => ?_
    refine wmv h rfl fun a h => ?_
    refine wl (stp_off h rfl rfl rfl rfl rfl rfl fun a h => ?_)
    refine wl (stp_off h rfl rfl rfl rfl rfl rfl fun a h => ?_)
    refine wvl h (pckT h rfl rfl rfl) fun a h => ?_
    refine wmv h rfl fun a h => ?_
    refine wl (stp_off h rfl rfl rfl rfl rfl rfl fun a h => ?_)
    refine wl (stp_off h rfl rfl rfl rfl rfl rfl fun a h => ?_)
    refine wvl h (pckT h rfl rfl rfl) fun a h => ?_
    refine wmv h rfl fun a h => ?_
    refine wl (stp_off h rfl rfl rfl rfl rfl rfl fun a h => ?_)
    refine wl (stp_off h rfl rfl rfl rfl rfl rfl fun a h => ?_)
    refine wl (stp_off h rfl rfl rfl rfl rfl rfl fun a h => ?_)
    refine wvl h (pckT h rfl rfl rfl) fun a h => ?_
    refine wmv h rfl fun a h => ?_
    refine wl (stp_off h rfl rfl rfl rfl rfl rfl fun a h => ?_)
    refine wl (stp_off h rfl rfl rfl rfl rfl rfl fun a h => ?_)
    refine wl (stp_off h rfl rfl rfl rfl rfl rfl fun a h => ?_)
    refine wl (stp_off h rfl rfl rfl rfl rfl rfl fun a h => ?_)
    refine wvl h (pckT h rfl rfl rfl) fun a h => ?_
    refine wn ?_
    refine cnd1 h rfl (fun _ => ?_) (fun e => nomatch e)
    refine rg ?_
    refine wl (cal h rfl en20_W42 (known_L _ (hGl.keep hp)) fun u w7 ⟨e1, e2⟩ a h => ?_)
    subst e1
    have hp := hp.below e2
    refine wsg h rfl fun a h => ?_
    refine wn ?_
    refine wp_ret ?_
    try simp only [xqs, ↓reduceIte, Nat.reduceEqDiff]
    refine rt_1 h rfl (rvT h rfl) ?_
    exact ⟨_, rfl, rfl, hp.bel⟩
   ·have hn2 := hb3
    refine wl (stp_on h rfl rfl rfl hb3 (vl h (mov h rfl) fun a h => ?_))
    refine wl (stp_on h rfl rfl rfl hb3 (vl h (mov h rfl) fun a h => ?_))
    refine wl (stp_on h rfl rfl rfl hb3 (cal h rfl en26_W42 (Span_R _ _ _) fun u w8 ⟨e1, e2⟩ a h => ?_))
    subst e1
    subst e2
    refine wl (stp_on h rfl rfl rfl hb3 (vl h (not_ h rfl) fun a h => ?_))
    refine wvl h (pckF h rfl hb3 rfl) fun a h => ?_
    refine wmv h rfl fun a h => ?_
    refine split (t := 44) h rfl (fun hb4 => ?_) (fun hb4 => ?_)
    ·refine wl (stp_off h rfl rfl rfl rfl rfl hb4 fun a h => ?_)
     refine wl (stp_off h rfl rfl rfl rfl rfl hb4 fun a h => ?_)
     refine wl (stp_off h rfl rfl rfl rfl rfl hb4 fun a h => ?_)
     refine wvl h (pckT h rfl hb4 rfl) fun a h => ?_
     refine wmv h rfl fun a h => ?_
     refine wl (stp_off h rfl rfl rfl rfl rfl rfl fun a h => ?_)
     refine wl (stp_off h rfl rfl rfl rfl rfl rfl fun a h => ?_)
     refine wvl h (pckT h rfl rfl rfl) fun a h => ?_
     refine wmv h rfl fun a h => ?_
     refine wl (stp_off h rfl rfl rfl rfl rfl rfl fun a h => ?_)
     refine wl (stp_off h rfl rfl rfl rfl rfl rfl fun a h => ?_)
     refine wvl h (pckT h rfl rfl rfl) fun a h => ?_
     refine wmv h rfl fun a h => ?_
     refine wl (stp_off h rfl rfl rfl rfl rfl rfl fun a h => ?_)
     refine wl (stp_off h rfl rfl rfl rfl rfl rfl fun a h => ?_)
     refine wl (stp_off h rfl rfl rfl rfl rfl rfl fun a h => ?_)
     refine wvl h (pckT h rfl rfl rfl) fun a h => ?_
     refine wmv h rfl fun a h => ?_
     refine wl (stp_off h rfl rfl rfl rfl rfl rfl fun a h => ?_)
     refine wl (stp_off h rfl rfl rfl rfl rfl rfl fun a h => ?_)
     refine wl (stp_off h rfl rfl rfl rfl rfl rfl fun a h => ?_)
     refine wl (stp_off h rfl rfl rfl rfl rfl rfl fun a h => ?_)
     refine wvl h (pckT h rfl rfl rfl) fun a h => ?_
     refine wn ?_
     refine cnd1 h rfl (fun _ => ?_) (fun e => nomatch e)
     refine rg ?_
     refine wl (cal h rfl en20_W42 (known_L _ (hGl.keep hp)) fun u w9 ⟨e1, e2⟩ a h => ?_)
     subst e1
     have hp := hp.below e2
     refine wsg h rfl fun a h => ?_
     refine wn ?_
     refine wp_ret ?_
     try simp only [xqs, ↓reduceIte, Nat.reduceEqDiff]
     refine rt_1 h rfl (rvT h rfl) ?_
     exact ⟨_, rfl, rfl, hp.bel⟩
    ·have hn3 := hb4
     refine wl (stp_on h rfl rfl rfl hb4 (vl h (mov h rfl) fun a h => ?_))
     refine wl (stp_on h rfl rfl rfl hb4 (cal h rfl en37_W42 (Late_R _ _) fun u w10 ⟨e1, e2⟩ a h => ?_))
     subst e1
     subst e2
     refine wl (stp_on h rfl rfl rfl hb4 (vl h (not_ h rfl) fun a h => ?_))
     refine wvl h (pckF h rfl hb4 rfl) fun a h => ?_
     refine wmv h rfl fun a h => ?_
     refine split (t := 49) h rfl (fun hb5 => ?_) (fun hb5 => ?_)
     ·refine wl (stp_off h rfl rfl rfl rfl rfl hb5 fun a h => ?_)
      refine wl (stp_off h rfl rfl rfl rfl rfl hb5 fun a h => ?_)
      refine wvl h (pckT h rfl hb5 rfl) fun a h => ?_
      refine wmv h rfl fun a h => ?_
      refine wl (stp_off h rfl rfl rfl rfl rfl rfl fun a h => ?_)
      refine wl (stp_off h rfl rfl rfl rfl rfl rfl fun a h => ?_)
      refine wvl h (pckT h rfl rfl rfl) fun a h => ?_
      refine wmv h rfl fun a h => ?_
      refine wl (stp_off h rfl rfl rfl rfl rfl rfl fun a h => ?_)
      refine wl (stp_off h rfl rfl rfl rfl rfl rfl fun a h => ?_)
      refine wl (stp_off h rfl rfl rfl rfl rfl rfl fun a h => ?_)
      refine wvl h (pckT h rfl rfl rfl) fun a h => ?_
      refine wmv h rfl fun a h => ?_
      refine wl (stp_off h rfl rfl rfl rfl rfl rfl fun a h => ?_)
      refine wl (stp_off h rfl rfl rfl rfl rfl rfl fun a h => ?_)
      refine wl (stp_off h rfl rfl rfl rfl rfl rfl fun a h => ?_)
      refine wl (stp_off h rfl rfl rfl rfl rfl rfl fun a h => ?_)
      refine wvl h (pckT h rfl rfl rfl) fun a h => ?_
      refine wn ?_
      refine cnd1 h rfl (fun _ => ?_) (fun e => nomatch e)
      refine rg ?_
      refine wl (cal h rfl en20_W42 (known_L _ (hGl.keep hp)) fun u w11 ⟨e1, e2⟩ a h => ?_)
      subst e1
      have hp := hp.below e2
      refine wsg h rfl fun a h => ?_
      refine wn ?_
      refine wp_ret ?_
      try simp only [xqs, ↓reduceIte, Nat.reduceEqDiff]
      refine rt_1 h rfl (rvT h rfl) ?_
      exact ⟨_, rfl, rfl, hp.bel⟩
     ·have hn4 := hb5
      refine wl (stp_on h rfl rfl rfl hb5 (vl h (mov h rfl) fun a h => ?_))
      refine wl (stp_on h rfl rfl rfl hb5 (vl h (lss h rfl rfl) fun a h => ?_))
      refine wvl h (pckF h rfl hb5 rfl) fun a h => ?_
      refine wmv h rfl fun a h => ?_
      refine split (t := 53) h rfl (fun hb6 => ?_) (fun hb6 => ?_)
      ·refine wl (stp_off h rfl rfl rfl rfl rfl hb6 fun a h => ?_)
       refine wl (stp_off h rfl rfl rfl rfl rfl hb6 fun a h => ?_)
       refine wvl h (pckT h rfl hb6 rfl) fun a h => ?_
       refine wmv h rfl fun a h => ?_
       refine wl (stp_off h rfl rfl rfl rfl rfl rfl fun a h => ?_)
       refine wl (stp_off h rfl rfl rfl rfl rfl rfl fun a h => ?_)
       refine wl (stp_off h rfl rfl rfl rfl rfl rfl fun a h => ?_)
       refine wvl h (pckT h rfl rfl rfl) fun a h => ?_
       refine wmv h rfl fun a h => ?_
       refine wl (stp_off h rfl rfl rfl rfl rfl rfl fun a h => ?_)
       refine wl (stp_off h rfl rfl rfl rfl rfl rfl fun a h => ?_)
       refine wl (stp_off h rfl rfl rfl rfl rfl rfl fun a h => ?_)
       refine wl (stp_off h rfl rfl rfl rfl rfl rfl fun a h => ?_)
       refine wvl h (pckT h rfl rfl rfl) fun a h => ?_
       refine wn ?_
       refine cnd1 h rfl (fun _ => ?_) (fun e => nomatch e)
       refine rg ?_
       refine wl (cal h rfl en20_W42 (known_L _ (hGl.keep hp)) fun u w12 ⟨e1, e2⟩ a h => ?_)
       subst e1
       have hp := hp.below e2
       refine wsg h rfl fun a h => ?_
       refine wn ?_
       refine wp_ret ?_
       try simp only [xqs, ↓reduceIte, Nat.reduceEqDiff]
       refine rt_1 h rfl (rvT h rfl) ?_
       exact ⟨_, rfl, rfl, hp.bel⟩
      ·have hn5 := hb6
       refine wl (stp_on h rfl rfl rfl hb6 (vl h (mov h rfl) fun a h => ?_))
       refine wl (stp_on h rfl rfl rfl hb6 (vl h (gtr h rfl rfl) fun a h => ?_))
       refine wvl h (pckF h rfl hb6 rfl) fun a h => ?_
       refine wmv h rfl fun a h => ?_
       refine split (t := 57) h rfl (fun hb7 => ?_) (fun hb7 => ?_)
       ·refine wl (stp_off h rfl rfl rfl rfl rfl hb7 fun a h => ?_)
        refine wl (stp_off h rfl rfl rfl rfl rfl hb7 fun a h => ?_)
        refine wl (stp_off h rfl rfl rfl rfl rfl hb7 fun a h => ?_)
        refine wvl h (pckT h rfl hb7 rfl) fun a h => ?_
        refine wmv h rfl fun a h => ?_
        refine wl (stp_off h rfl rfl rfl rfl rfl rfl fun a h => ?_)
        refine wl (stp_off h rfl rfl rfl rfl rfl rfl fun a h => ?_)
        refine wl (stp_off h rfl rfl rfl rfl rfl rfl fun a h => ?_)
        refine wl (stp_off h rfl rfl rfl rfl rfl rfl fun a h => ?_)
        refine wvl h (pckT h rfl rfl rfl) fun a h => ?_
        refine wn ?_
        refine cnd1 h rfl (fun _ => ?_) (fun e => nomatch e)
        refine rg ?_
        refine wl (cal h rfl en20_W42 (known_L _ (hGl.keep hp)) fun u w13 ⟨e1, e2⟩ a h => ?_)
        subst e1
        have hp := hp.below e2
        refine wsg h rfl fun a h => ?_
        refine wn ?_
        refine wp_ret ?_
        try simp only [xqs, ↓reduceIte, Nat.reduceEqDiff]
        refine rt_1 h rfl (rvT h rfl) ?_
        exact ⟨_, rfl, rfl, hp.bel⟩
       ·have hn6 := hb7
        refine wl (stp_on h rfl rfl rfl hb7 (vl h (mov h rfl) fun a h => ?_))
        refine wl (stp_on h rfl rfl rfl hb7 (vl h (mov h rfl) fun a h => ?_))
        refine wl (stp_on h rfl rfl rfl hb7 (vl h (leq h rfl rfl) fun a h => ?_))
        refine wvl h (pckF h rfl hb7 rfl) fun a h => ?_
        refine wmv h rfl fun a h => ?_
        refine split (t := 62) h rfl (fun hb8 => ?_) (fun hb8 => ?_)
        ·refine wl (stp_off h rfl rfl rfl rfl rfl hb8 fun a h => ?_)
         refine wl (stp_off h rfl rfl rfl rfl rfl hb8 fun a h => ?_)
         refine wl (stp_off h rfl rfl rfl rfl rfl hb8 fun a h => ?_)
         refine wl (stp_off h rfl rfl rfl rfl rfl hb8 fun a h => ?_)
         refine wvl h (pckT h rfl hb8 rfl) fun a h => ?_
         refine wn ?_
         refine cnd1 h rfl (fun _ => ?_) (fun e => nomatch e)
         refine rg ?_
         refine wl (cal h rfl en20_W42 (known_L _ (hGl.keep hp)) fun u w14 ⟨e1, e2⟩ a h => ?_)
         subst e1
         have hp := hp.below e2
         refine wsg h rfl fun a h => ?_
         refine wn ?_
         refine wp_ret ?_
         try simp only [xqs, ↓reduceIte, Nat.reduceEqDiff]
         refine rt_1 h rfl (rvT h rfl) ?_
         exact ⟨_, rfl, rfl, hp.bel⟩
        ·have hn7 := hb8
         refine wl (stp_on h rfl rfl rfl hb8 (vl h (fad h rfl fo32_0) fun a h => ?_))
         refine wl (stp_on h rfl rfl rfl hb8 (vl h (ldO (us := [_, _, _, _]) h hp rfl 0 rfl sz28 rfl ag28) fun a h => ?_))
         refine wl (stp_on h rfl rfl rfl hb8 (cal h rfl en52_W42 (even_L x e _ (hG.keep hp cl0).sky (eng_ok (by simpa using hn1)).sky) fun u w15 ⟨e1, e2⟩ a h => ?_))
         subst e1
         have hp := hp.below e2
         refine wl (stp_on h rfl rfl rfl hb8 (vl h (not_ h rfl) fun a h => ?_))
         refine wvl h (pckF h rfl hb8 rfl) fun a h => ?_
         refine wn ?_
         refine cnd1 h rfl (fun hb9 => ?_) (fun hb9 => ?_)
         ·refine rg ?_
          refine wl (cal h rfl en20_W42 (known_L _ (hGl.keep hp)) fun u w16 ⟨e1, e2⟩ a h => ?_)
          subst e1
          have hp := hp.below e2
          refine wsg h rfl fun a h => ?_
          refine wn ?_
          refine wp_ret ?_
          try simp only [xqs, ↓reduceIte, Nat.reduceEqDiff]
          refine rt_1 h rfl (rvT h rfl) ?_
          exact ⟨_, rfl, rfl, hp.bel⟩
         ·have hn8 := hb9
          have hen : isEngine e = true := by simpa using hn1
          have hse : isSet e st = true := by simpa [isSet] using hn2
          have hE0 : RdE w x e s2 st := ⟨hG, hS2, hen, hse⟩
          have ok := eng_ok hen
          have hlN := ok.new
          have hlF := ok.full
          have hlW := ok.wide
          have hspn : isSpan d1 d2 = true := by simpa using hn3
          have hd := hspn
          simp only [isSpan, inR, Bool.and_eq_true, decide_eq_true_eq] at hd
          have hla : isLate lt = true := by simpa using hn4
          have hld := hla
          simp only [isLate, inR, Bool.and_eq_true, decide_eq_true_eq] at hld
          have hspl : (inR d1 1 9000 && inR d2 d1 9000 && decide (d2 - d1 ≤ 400) && inR lt 0 30) = true := by rw [Bool.and_eq_true]; exact ⟨hspn, hla⟩
          have hlm : 0 ≤ lm ∧ lm ≤ 1000 := by have := of_decide_eq_false hn5; have := of_decide_eq_false hn6; omega
          have hfr : lt < d1 := by have := of_decide_eq_false hn7; omega
          have hev : evenB e = true := by simpa using hn8
          obtain ⟨hbl, b0, b1, hB0, hB1, e0, e1, v0, v1⟩ := sky2 hG.sky ok.sky
          obtain ⟨c1, c2, -, c4, -⟩ := body_bd v0
          obtain ⟨c5, c6, -, c8, -⟩ := body_bd v1
          obtain ⟨c9, c10, c11, -⟩ := sky_bd ok.sky
          have hfe := ok.feasts
          have f0 := period_fr c1 c2
          have f1 := period_fr c5 c6
          have f2 := period_fr c9 c10
          have t1 := ok.sun
          have t2 := ok.moon
          have t3 := ok.node
          have hm1 := mul_bd (a := b1.1.den) (b := b0.1.num) (A := 10000) (B := 10000) (by omega) (by omega) (by omega) (by omega)
          have hm2 := mul_bd (a := b0.1.den) (b := b1.1.num) (A := 10000) (B := 10000) (by omega) (by omega) (by omega) (by omega)
          have hm3 := mul_bd (a := b1.1.num) (b := b0.1.num) (A := 10000) (B := 10000) (by omega) (by omega) (by omega) (by omega)
          have hm4 := Int.mul_pos (show (0 : Int) < b1.1.num by omega) (show (0 : Int) < b0.1.num by omega)
          have hsl : 0 < b1.1.den * b0.1.num - b0.1.den * b1.1.num := by have := ok.slow; rw [slow, e0, e1] at this; exact this
          have hq0 := Int.ediv_nonneg (a := 21600 * (b1.1.den * b0.1.num - b0.1.den * b1.1.num)) (b := b1.1.num * b0.1.num) (by omega) (by omega)
          have hq1 := Int.ediv_le_self (a := 21600 * (b1.1.den * b0.1.num - b0.1.den * b1.1.num)) (b1.1.num * b0.1.num) (by omega)
          have hqm := mul_bd2 (a := lt - 1) (b := 21600 * (b1.1.den * b0.1.num - b0.1.den * b1.1.num) / (b1.1.num * b0.1.num)) (A := 30) (B := 2160000000000) (by omega) (by omega) hq0 (by omega)
          have hr0 := Int.ediv_nonneg (a := 21600 * b1.1.den) (b := b1.1.num) (by omega) (by omega)
          have hr1 := Int.ediv_le_self (a := 21600 * b1.1.den) b1.1.num (by omega)
          have hs0 := Int.ediv_nonneg (a := 21600 * e.nden) (b := e.nnum) (by omega) (by omega)
          have hs1 := Int.ediv_le_self (a := 21600 * e.nden) e.nnum (by omega)
          have hgm := mul_bd (a := lt) (b := 21600 * b1.1.den / b1.1.num + 21600 * e.nden / e.nnum + 2) (A := 30) (B := 432000002) (by omega) (by omega) (by omega) (by omega)
          refine skp ?_
          refine cutN (fun a w' => ∃ ga gb gc : Nat, Has [] 211 a [(1, s2.v), (2, .int .i64 d1), (3, .int .i64 d2), (4, .int .i64 lt), (5, .int .i64 lm), (6, .pointer (some ⟨g1, 0, none⟩)), (13, .pointer (some ⟨ga, 0, none⟩)), (14, .pointer (some ⟨gb, 0, none⟩)), (15, .pointer (some ⟨gc, 0, none⟩))] ∧ Hp c0 w w' [.blk g1 (.cells #[x.b.v, .int .i64 e.nnum, .int .i64 e.nden, .int .i64 e.nstart, x.s.v, x.m.v, x.n.v, x.f.v, .int .i64 e.new, .int .i64 e.full, .int .i64 e.wide] 32 (0, 0)), .blk ga (.cells #[.int .i64 b0.1.num, .int .i64 b0.1.den] 24 (0, 0)), .blk gb (.cells #[.int .i64 b1.1.num, .int .i64 b1.1.den] 24 (0, 0)), .blk gc (.cells #[.int .i64 e.nnum, .int .i64 e.nden] 24 (0, 0))]) ?_ ?_
          ·refine rdh1 (n := 22) hp mixed rfl ?_
           have hp := hp.drew
           refine tkq 0 h rfl hp (fun W _ => fad h rfl fo32_0) fun a h => ?_
           refine tkq 1 h rfl hp (fun W _ => fad h rfl fo28_0) fun a h => ?_
           refine tkq 2 h rfl hp (fun W hp => ldo h hp rfl 0 rfl rfl ag22) fun a h => ?_
           refine tkq 3 h rfl hp (fun W hp => iadR (0) h rfl rfl Tryz.underlying22 sz46 (hG.keep hp cl0).sky.b (rfl) (by omega)) fun a h => ?_
           refine tkq 4 h rfl hp (fun W _ => fad h rfl fo46_0) fun a h => ?_
           refine tkq 5 h rfl hp (fun W hp => ldFn 0 [_, _] h (hG.keep hp cl0).sky.b hB0 rfl ag24 sz24 rfl) fun a h => ?_
           refine tkq 6 h rfl hp (fun W _ => fad h rfl fo32_0) fun a h => ?_
           refine tkq 7 h rfl hp (fun W _ => fad h rfl fo28_0) fun a h => ?_
           refine tkq 8 h rfl hp (fun W hp => ldo h hp rfl 0 rfl rfl ag22) fun a h => ?_
           refine tkq 9 h rfl hp (fun W hp => iadR (1) h rfl rfl Tryz.underlying22 sz46 (hG.keep hp cl0).sky.b (rfl) (by omega)) fun a h => ?_
           refine tkq 10 h rfl hp (fun W _ => fad h rfl fo46_0) fun a h => ?_
           refine tkq 11 h rfl hp (fun W hp => ldFn 0 [_, _] h (hG.keep hp cl0).sky.b hB1 rfl ag24 sz24 rfl) fun a h => ?_
           refine tkq 12 h rfl hp (fun W _ => fad h rfl fo32_0) fun a h => ?_
           refine tkq 13 h rfl hp (fun W _ => fad h rfl fo28_1) fun a h => ?_
           refine tkq 14 h rfl hp (fun W _ => fad h rfl fo26_0) fun a h => ?_
           refine tkq 15 h rfl hp (fun W hp => ldO (us := [_, _]) h hp rfl 0 rfl sz24 rfl ag24) fun a h => ?_
           refine three 16 17 18 (by kernel_rfl) rfl rfl rfl ?_ ?_ ?_
           ·refine (all h hp zc24 fun a w18 g2 hg2 h hp => ⟨((hp).pre 1 rfl), ?_⟩)
            refine two 17 18 (by kernel_rfl) rfl rfl ?_ ?_
            ·refine (all h hp zc24 fun a w19 g3 hg3 h hp => ⟨((hp).pre 1 rfl), ?_⟩)
             refine one 18 (by kernel_rfl) rfl (all h hp zc24 fun a w20 g4 hg4 h hp => ⟨((hp).pre 1 rfl), ?_⟩)
             refine one 19 (by kernel_rfl) rfl (sta h hp rfl rfl 1 rfl sz24 rfl rfl fun w21 hp => ⟨((hp).pre 1 rfl), ?_⟩)
             refine one 20 (by kernel_rfl) rfl (sta h hp rfl rfl 2 rfl sz24 rfl rfl fun w22 hp => ⟨((hp).pre 1 rfl), ?_⟩)
             refine one 21 (by kernel_rfl) rfl (sta h hp rfl rfl 3 rfl sz24 rfl rfl fun w23 hp => ⟨((hp).pre 1 rfl), ?_⟩)
             refine dn (by kernel_rfl) ?_
             exact ⟨g2, g3, g4, h.sub ⟨rfl, rfl, rfl, rfl, rfl, rfl, rfl, rfl, rfl, trivial⟩, hp.pick [0, 1, 2, 3] (by decide) rfl⟩
            ·refine (all h hp zc24 fun a w24 g5 hg5 h hp => ⟨((hp).pre 1 rfl), ?_⟩)
             refine one 17 (by kernel_rfl) rfl (all h hp zc24 fun a w25 g6 hg6 h hp => ⟨((hp).pre 1 rfl), ?_⟩)
             refine one 19 (by kernel_rfl) rfl (sta h hp rfl rfl 1 rfl sz24 rfl rfl fun w26 hp => ⟨((hp).pre 1 rfl), ?_⟩)
             refine one 20 (by kernel_rfl) rfl (sta h hp rfl rfl 3 rfl sz24 rfl rfl fun w27 hp => ⟨((hp).pre 1 rfl), ?_⟩)
             refine one 21 (by kernel_rfl) rfl (sta h hp rfl rfl 2 rfl sz24 rfl rfl fun w28 hp => ⟨((hp).pre 1 rfl), ?_⟩)
             refine dn (by kernel_rfl) ?_
             exact ⟨g2, g6, g5, h.sub ⟨rfl, rfl, rfl, rfl, rfl, rfl, rfl, rfl, rfl, trivial⟩, hp.pick [0, 1, 3, 2] (by decide) rfl⟩
           ·refine (all h hp zc24 fun a w29 g7 hg7 h hp => ⟨((hp).pre 1 rfl), ?_⟩)
            refine two 16 18 (by kernel_rfl) rfl rfl ?_ ?_
            ·refine (all h hp zc24 fun a w30 g8 hg8 h hp => ⟨((hp).pre 1 rfl), ?_⟩)
             refine one 18 (by kernel_rfl) rfl (all h hp zc24 fun a w31 g9 hg9 h hp => ⟨((hp).pre 1 rfl), ?_⟩)
             refine one 19 (by kernel_rfl) rfl (sta h hp rfl rfl 2 rfl sz24 rfl rfl fun w32 hp => ⟨((hp).pre 1 rfl), ?_⟩)
             refine one 20 (by kernel_rfl) rfl (sta h hp rfl rfl 1 rfl sz24 rfl rfl fun w33 hp => ⟨((hp).pre 1 rfl), ?_⟩)
             refine one 21 (by kernel_rfl) rfl (sta h hp rfl rfl 3 rfl sz24 rfl rfl fun w34 hp => ⟨((hp).pre 1 rfl), ?_⟩)
             refine dn (by kernel_rfl) ?_
             exact ⟨g8, g7, g9, h.sub ⟨rfl, rfl, rfl, rfl, rfl, rfl, rfl, rfl, rfl, trivial⟩, hp.pick [0, 2, 1, 3] (by decide) rfl⟩
            ·refine (all h hp zc24 fun a w35 g10 hg10 h hp => ⟨((hp).pre 1 rfl), ?_⟩)
             refine one 16 (by kernel_rfl) rfl (all h hp zc24 fun a w36 g11 hg11 h hp => ⟨((hp).pre 1 rfl), ?_⟩)
             refine one 19 (by kernel_rfl) rfl (sta h hp rfl rfl 3 rfl sz24 rfl rfl fun w37 hp => ⟨((hp).pre 1 rfl), ?_⟩)
             refine one 20 (by kernel_rfl) rfl (sta h hp rfl rfl 1 rfl sz24 rfl rfl fun w38 hp => ⟨((hp).pre 1 rfl), ?_⟩)
             refine one 21 (by kernel_rfl) rfl (sta h hp rfl rfl 2 rfl sz24 rfl rfl fun w39 hp => ⟨((hp).pre 1 rfl), ?_⟩)
             refine dn (by kernel_rfl) ?_
             exact ⟨g11, g7, g10, h.sub ⟨rfl, rfl, rfl, rfl, rfl, rfl, rfl, rfl, rfl, trivial⟩, hp.pick [0, 3, 1, 2] (by decide) rfl⟩
           ·refine (all h hp zc24 fun a w40 g12 hg12 h hp => ⟨((hp).pre 1 rfl), ?_⟩)
            refine two 16 17 (by kernel_rfl) rfl rfl ?_ ?_
            ·refine (all h hp zc24 fun a w41 g13 hg13 h hp => ⟨((hp).pre 1 rfl), ?_⟩)
             refine one 17 (by kernel_rfl) rfl (all h hp zc24 fun a w42 g14 hg14 h hp => ⟨((hp).pre 1 rfl), ?_⟩)
             refine one 19 (by kernel_rfl) rfl (sta h hp rfl rfl 2 rfl sz24 rfl rfl fun w43 hp => ⟨((hp).pre 1 rfl), ?_⟩)
             refine one 20 (by kernel_rfl) rfl (sta h hp rfl rfl 3 rfl sz24 rfl rfl fun w44 hp => ⟨((hp).pre 1 rfl), ?_⟩)
             refine one 21 (by kernel_rfl) rfl (sta h hp rfl rfl 1 rfl sz24 rfl rfl fun w45 hp => ⟨((hp).pre 1 rfl), ?_⟩)
             refine dn (by kernel_rfl) ?_
             exact ⟨g13, g14, g12, h.sub ⟨rfl, rfl, rfl, rfl, rfl, rfl, rfl, rfl, rfl, trivial⟩, hp.pick [0, 2, 3, 1] (by decide) rfl⟩
            ·refine (all h hp zc24 fun a w46 g15 hg15 h hp => ⟨((hp).pre 1 rfl), ?_⟩)
             refine one 16 (by kernel_rfl) rfl (all h hp zc24 fun a w47 g16 hg16 h hp => ⟨((hp).pre 1 rfl), ?_⟩)
             refine one 19 (by kernel_rfl) rfl (sta h hp rfl rfl 3 rfl sz24 rfl rfl fun w48 hp => ⟨((hp).pre 1 rfl), ?_⟩)
             refine one 20 (by kernel_rfl) rfl (sta h hp rfl rfl 2 rfl sz24 rfl rfl fun w49 hp => ⟨((hp).pre 1 rfl), ?_⟩)
             refine one 21 (by kernel_rfl) rfl (sta h hp rfl rfl 1 rfl sz24 rfl rfl fun w50 hp => ⟨((hp).pre 1 rfl), ?_⟩)
             refine dn (by kernel_rfl) ?_
             exact ⟨g16, g15, g12, h.sub ⟨rfl, rfl, rfl, rfl, rfl, rfl, rfl, rfl, rfl, trivial⟩, hp.pick [0, 3, 2, 1] (by decide) rfl⟩
          rintro a w17 ⟨ga, gb, gc, h, hp⟩
          refine rg ?_
          refine wvl h (fad h rfl fo24_1) fun a h => ?_
          refine wvl h (ldo h hp rfl 2 rfl rfl ag3) fun a h => ?_
          refine wvl h (fad h rfl fo24_0) fun a h => ?_
          refine wvl h (ldo h hp rfl 1 rfl rfl ag3) fun a h => ?_
          refine wvl h (mul h rfl rfl (by omega)) fun a h => ?_
          refine wvl h (fad h rfl fo24_1) fun a h => ?_
          refine wvl h (ldo h hp rfl 1 rfl rfl ag3) fun a h => ?_
          refine wvl h (fad h rfl fo24_0) fun a h => ?_
          refine wvl h (ldo h hp rfl 2 rfl rfl ag3) fun a h => ?_
          refine wvl h (mul h rfl rfl (by omega)) fun a h => ?_
          refine wvl h (sub h rfl rfl (by omega)) fun a h => ?_
          refine wvl h (mul h rfl rfl (by omega)) fun a h => ?_
          refine wvl h (fad h rfl fo24_0) fun a h => ?_
          refine wvl h (ldo h hp rfl 2 rfl rfl ag3) fun a h => ?_
          refine wvl h (fad h rfl fo24_0) fun a h => ?_
          refine wvl h (ldo h hp rfl 1 rfl rfl ag3) fun a h => ?_
          refine wvl h (mul h rfl rfl (by omega)) fun a h => ?_
          refine wvl h (quo0 h rfl rfl (by omega) (by omega)) fun a h => ?_
          refine wsg h rfl fun a h => ?_
          refine wn ?_
          refine rdh (n := 15) hp mixed rfl ?_
          have hp := hp.drew
          refine tkq 0 h rfl hp (fun W _ => fad h rfl fo24_1) fun a h => ?_
          refine tkq 1 h rfl hp (fun W hp => ldo h hp rfl 2 rfl rfl ag3) fun a h => ?_
          refine tkq 2 h rfl hp (fun W _ => mul h rfl rfl (by omega)) fun a h => ?_
          refine tkq 3 h rfl hp (fun W _ => fad h rfl fo24_0) fun a h => ?_
          refine tkq 4 h rfl hp (fun W hp => ldo h hp rfl 2 rfl rfl ag3) fun a h => ?_
          refine tkq 5 h rfl hp (fun W _ => quo0 h rfl rfl (by omega) (by omega)) fun a h => ?_
          refine tkq 6 h rfl hp (fun W _ => fad h rfl fo24_1) fun a h => ?_
          refine tkq 7 h rfl hp (fun W hp => ldo h hp rfl 3 rfl rfl ag3) fun a h => ?_
          refine tkq 8 h rfl hp (fun W _ => mul h rfl rfl (by omega)) fun a h => ?_
          refine tkq 9 h rfl hp (fun W _ => fad h rfl fo24_0) fun a h => ?_
          refine tkq 10 h rfl hp (fun W hp => ldo h hp rfl 3 rfl rfl ag3) fun a h => ?_
          refine tkq 11 h rfl hp (fun W _ => quo0 h rfl rfl (by omega) (by omega)) fun a h => ?_
          refine tkq 12 h rfl hp (fun W _ => add h rfl rfl (by omega)) fun a h => ?_
          refine tkq 13 h rfl hp (fun W _ => add h rfl rfl (by omega)) fun a h => ?_
          refine tka 14 h rfl hp rfl fun a h => ?_
          refine dn (by kernel_rfl) ?_
          refine rg ?_
          refine wvl h (fad h rfl fo32_7) fun a h => ?_
          refine wvl h (ldo h hp rfl 0 rfl rfl ag3) fun a h => ?_
          refine wmv h rfl fun a h => ?_
          refine wmv h rfl fun a h => ?_
          refine wvl h (mul h rfl rfl (by omega)) fun a h => ?_
          refine wmv h rfl fun a h => ?_
          refine wvl h (mul h rfl rfl (by omega)) fun a h => ?_
          refine wvl h (add h rfl rfl (by omega)) fun a h => ?_
          refine wvl h (add h rfl rfl (by omega)) fun a h => ?_
          refine wvl h (geq h rfl rfl) fun a h => ?_
          refine wmv h rfl fun a h => ?_
          refine split (t := 127) h rfl (fun hb10 => ?_) (fun hb10 => ?_)
          ·have hwd := hb10
           refine wl (stp_off h rfl rfl rfl rfl rfl hb10 fun a h => ?_)
           refine wl (stp_off h rfl rfl rfl rfl rfl hb10 fun a h => ?_)
           refine wl (stp_off h rfl rfl rfl rfl rfl hb10 fun a h => ?_)
           refine wl (stp_off h rfl rfl rfl rfl rfl hb10 fun a h => ?_)
           refine wl (stp_off h rfl rfl rfl rfl rfl hb10 fun a h => ?_)
           refine wl (stp_off h rfl rfl rfl rfl rfl hb10 fun a h => ?_)
           refine wl (stp_off h rfl rfl rfl rfl rfl hb10 fun a h => ?_)
           refine wl (stp_off h rfl rfl rfl rfl rfl hb10 fun a h => ?_)
           refine wl (stp_off h rfl rfl rfl rfl rfl hb10 fun a h => ?_)
           refine wvl h (pckT h rfl hb10 rfl) fun a h => ?_
           refine wsg h rfl fun a h => ?_
           refine wn ?_
           refine wp_seq ?_
           refine rg ?_
           refine wmv h rfl fun a h => ?_
           refine wvl h (sub h rfl rfl (by omega)) fun a h => ?_
           refine wmv h rfl fun a h => ?_
           refine wvl h (mul h rfl rfl (by omega)) fun a h => ?_
           refine wmv h rfl fun a h => ?_
           refine wvl h (mul h rfl rfl (by omega)) fun a h => ?_
           refine wvl h (add h rfl rfl (by omega)) fun a h => ?_
           refine wvl h (lss h rfl rfl) fun a h => ?_
           refine wmv h rfl fun a h => ?_
           refine split (t := 146) h rfl (fun hb11 => ?_) (fun hb11 => ?_)
           ·refine wl (stp_off h rfl rfl rfl rfl rfl hb11 fun a h => ?_)
            refine wl (stp_off h rfl rfl rfl rfl rfl hb11 fun a h => ?_)
            refine wvl h (pckT h rfl hb11 rfl) fun a h => ?_
            refine wn ?_
            refine cnd1 h rfl (fun _ => ?_) (fun e => nomatch e)
            refine rg ?_
            refine wl (cal h rfl en20_W42 (known_L _ (hGl.keep hp)) fun u w51 ⟨e1, e2⟩ a h => ?_)
            subst e1
            have hp := hp.below e2
            refine wsg h rfl fun a h => ?_
            refine wn ?_
            refine wp_ret ?_
            try simp only [xqs, ↓reduceIte, Nat.reduceEqDiff]
            refine rt_1 h rfl (rvT h rfl) ?_
            exact ⟨_, rfl, rfl, hp.bel⟩
           ·have hLd := of_decide_eq_false hb11
            refine wl (stp_on h rfl rfl rfl hb11 (vl h (mov h rfl) fun a h => ?_))
            refine wl (stp_on h rfl rfl rfl hb11 (vl h (not_ h rfl) fun a h => ?_))
            refine wvl h (pckF h rfl hb11 rfl) fun a h => ?_
            refine wn ?_
            refine cnd1 h rfl (fun hb12 => ?_) (fun hb12 => ?_)
            ·refine rg ?_
             refine wl (cal h rfl en20_W42 (known_L _ (hGl.keep hp)) fun u w52 ⟨e1, e2⟩ a h => ?_)
             subst e1
             have hp := hp.below e2
             refine wsg h rfl fun a h => ?_
             refine wn ?_
             refine wp_ret ?_
             try simp only [xqs, ↓reduceIte, Nat.reduceEqDiff]
             refine rt_1 h rfl (rvT h rfl) ?_
             exact ⟨_, rfl, rfl, hp.bel⟩
            ·have hW : lt * (21600 * b1.1.den / b1.1.num + 21600 * e.nden / e.nnum + 2) + 2 * lm + 6 ≤ e.wide ∨ 5400 ≤ min e.new e.full + e.wide := .inl (by have := of_decide_eq_true hwd; omega)
             refine skp ?_
             refine rg ?_
             refine wmv h rfl fun a h => ?_
             refine wmv h rfl fun a h => ?_
             refine wvl h (add h rfl rfl (by omega)) fun a h => ?_
             refine wsg h rfl fun a h => ?_
             refine wn ?_
             refine wp_seq ?_
             refine rdh (n := 37) hp mixed rfl ?_
             have hp := hp.drew
             refine tkq 0 h rfl hp (fun W _ => fad h rfl fo32_1) fun a h => ?_
             refine tkq 1 h rfl hp (fun W hp => ldo h hp rfl 0 rfl rfl ag29) fun a h => ?_
             refine tkq 2 h rfl hp (fun W hp => ldO (us := [_, _]) h hp rfl 1 rfl sz24 rfl ag24) fun a h => ?_
             refine tkm 4 h rfl hp rfl fun a h => ?_
             refine tkq 5 h rfl hp (fun W _ => fad h rfl fo32_4) fun a h => ?_
             refine tkq 6 h rfl hp (fun W hp => ldo h hp rfl 0 rfl rfl ag30) fun a h => ?_
             refine tkm 7 h rfl hp rfl fun a h => ?_
             refine tkm 8 h rfl hp rfl fun a h => ?_
             refine one 3 (by kernel_rfl) rfl (cal h rfl en22 (Target_R _ _ _) fun u w53 ⟨e1, e2⟩ a h => ⟨hp.below e2, ?_⟩)
             subst e1
             have hp := hp.below e2
             refine one 9 (by kernel_rfl) rfl (cal h rfl en23_W42 (Keeps_T _ _ _ _ _ _ _ _ _ _ _ (hE0.keep hp cl0).g.s (hE0.keep hp cl0).g.f (hE0.keep hp cl0).s hfe (isSet_rise hse) t1 f0 (by omega) (by omega)) fun u w54 ⟨e1, e2⟩ a h => ⟨hp.below e2, ?_⟩)
             subst e1
             have hp := hp.below e2
             refine tkq 10 h rfl hp (fun W _ => not_ h rfl) fun a h => ?_
             refine tkm 11 h rfl hp rfl fun a h => ?_
             refine split (t := 165) h rfl (fun hb13 => ?_) (fun hb13 => ?_)
             ·refine tkG 12 h rfl hp rfl rfl rfl hb13 fun a h => ?_
              refine tkG 13 h rfl hp rfl rfl rfl hb13 fun a h => ?_
              refine tkG 14 h rfl hp rfl rfl rfl hb13 fun a h => ?_
              refine tkG 15 h rfl hp rfl rfl rfl hb13 fun a h => ?_
              refine tkG 16 h rfl hp rfl rfl rfl hb13 fun a h => ?_
              refine tkG 17 h rfl hp rfl rfl rfl hb13 fun a h => ?_
              refine tkG 18 h rfl hp rfl rfl rfl hb13 fun a h => ?_
              refine tkG 19 h rfl hp rfl rfl rfl hb13 fun a h => ?_
              refine tkG 20 h rfl hp rfl rfl rfl hb13 fun a h => ?_
              refine tkG 21 h rfl hp rfl rfl rfl hb13 fun a h => ?_
              refine tkG 22 h rfl hp rfl rfl rfl hb13 fun a h => ?_
              refine tkq 23 h rfl hp (fun W _ => pckT h rfl hb13 rfl) fun a h => ?_
              refine tkm 24 h rfl hp rfl fun a h => ?_
              refine tkG 25 h rfl hp rfl rfl rfl rfl fun a h => ?_
              refine tkG 26 h rfl hp rfl rfl rfl rfl fun a h => ?_
              refine tkG 27 h rfl hp rfl rfl rfl rfl fun a h => ?_
              refine tkG 28 h rfl hp rfl rfl rfl rfl fun a h => ?_
              refine tkG 29 h rfl hp rfl rfl rfl rfl fun a h => ?_
              refine tkG 30 h rfl hp rfl rfl rfl rfl fun a h => ?_
              refine tkG 31 h rfl hp rfl rfl rfl rfl fun a h => ?_
              refine tkG 32 h rfl hp rfl rfl rfl rfl fun a h => ?_
              refine tkG 33 h rfl hp rfl rfl rfl rfl fun a h => ?_
              refine tkG 34 h rfl hp rfl rfl rfl rfl fun a h => ?_
              refine tkG 35 h rfl hp rfl rfl rfl rfl fun a h => ?_
              refine tkq 36 h rfl hp (fun W _ => pckT h rfl rfl rfl) fun a h => ?_
              refine dn (by kernel_rfl) ?_
              refine cnd1 h rfl (fun _ => ?_) (fun e => nomatch e)
              refine rg ?_
              refine wl (cal h rfl en20_W42 (known_L _ (hGl.keep hp)) fun u w55 ⟨e1, e2⟩ a h => ?_)
              subst e1
              have hp := hp.below e2
              refine wsg h rfl fun a h => ?_
              refine wn ?_
              refine wp_ret ?_
              try simp only [xqs, ↓reduceIte, Nat.reduceEqDiff]
              refine rt_1 h rfl (rvT h rfl) ?_
              exact ⟨_, rfl, rfl, hp.bel⟩
             ·have hk1 := hb13
              refine tk_on 12 h rfl (by kernel_rfl) (fun _ _ _ q => q) hp rfl rfl rfl rfl rfl hb13 (fun W _ => fad h rfl fo32_2) fun a h => ?_
              refine tk_on 13 h rfl (by kernel_rfl) (fun _ _ _ q => q) hp rfl rfl rfl rfl rfl hb13 (fun W hp => ldo h hp rfl 0 rfl rfl ag29) fun a h => ?_
              refine tk_on 14 h rfl (by kernel_rfl) (fun _ _ _ q => q) hp rfl rfl rfl rfl rfl hb13 (fun W hp => ldO (us := [_, _]) h hp rfl 2 rfl sz24 rfl ag24) fun a h => ?_
              refine tk_on 16 h rfl (by kernel_rfl) (fun _ _ _ q => q) hp rfl rfl rfl rfl rfl hb13 (fun W _ => mov h rfl) fun a h => ?_
              refine tk_on 17 h rfl (by kernel_rfl) (fun _ _ _ q => q) hp rfl rfl rfl rfl rfl hb13 (fun W _ => fad h rfl fo32_4) fun a h => ?_
              refine tk_on 18 h rfl (by kernel_rfl) (fun _ _ _ q => q) hp rfl rfl rfl rfl rfl hb13 (fun W hp => ldo h hp rfl 0 rfl rfl ag30) fun a h => ?_
              refine tk_on 19 h rfl (by kernel_rfl) (fun _ _ _ q => q) hp rfl rfl rfl rfl rfl hb13 (fun W _ => mov h rfl) fun a h => ?_
              refine tk_on 20 h rfl (by kernel_rfl) (fun _ _ _ q => q) hp rfl rfl rfl rfl rfl hb13 (fun W _ => mov h rfl) fun a h => ?_
              refine one 15 (by kernel_rfl) rfl (stp_on h rfl rfl rfl hb13 (cal h rfl en22 (Target_R _ _ _) fun u w56 ⟨e1, e2⟩ a h => ⟨hp.below e2, ?_⟩))
              subst e1
              have hp := hp.below e2
              refine one 21 (by kernel_rfl) rfl (stp_on h rfl rfl rfl hb13 (cal h rfl en23_W42 (Keeps_T _ _ _ _ _ _ _ _ _ _ _ (hE0.keep hp cl0).g.m (hE0.keep hp cl0).g.f (hE0.keep hp cl0).s hfe (isSet_rise hse) t2 f1 (by omega) (by omega)) fun u w57 ⟨e1, e2⟩ a h => ⟨hp.below e2, ?_⟩))
              subst e1
              have hp := hp.below e2
              refine tk_on 22 h rfl (by kernel_rfl) (fun _ _ _ q => q) hp rfl rfl rfl rfl rfl hb13 (fun W _ => not_ h rfl) fun a h => ?_
              refine tkq 23 h rfl hp (fun W _ => pckF h rfl hb13 rfl) fun a h => ?_
              refine tkm 24 h rfl hp rfl fun a h => ?_
              refine split (t := 178) h rfl (fun hb14 => ?_) (fun hb14 => ?_)
              ·refine tkG 25 h rfl hp rfl rfl rfl hb14 fun a h => ?_
               refine tkG 26 h rfl hp rfl rfl rfl hb14 fun a h => ?_
               refine tkG 27 h rfl hp rfl rfl rfl hb14 fun a h => ?_
               refine tkG 28 h rfl hp rfl rfl rfl hb14 fun a h => ?_
               refine tkG 29 h rfl hp rfl rfl rfl hb14 fun a h => ?_
               refine tkG 30 h rfl hp rfl rfl rfl hb14 fun a h => ?_
               refine tkG 31 h rfl hp rfl rfl rfl hb14 fun a h => ?_
               refine tkG 32 h rfl hp rfl rfl rfl hb14 fun a h => ?_
               refine tkG 33 h rfl hp rfl rfl rfl hb14 fun a h => ?_
               refine tkG 34 h rfl hp rfl rfl rfl hb14 fun a h => ?_
               refine tkG 35 h rfl hp rfl rfl rfl hb14 fun a h => ?_
               refine tkq 36 h rfl hp (fun W _ => pckT h rfl hb14 rfl) fun a h => ?_
               refine dn (by kernel_rfl) ?_
               refine cnd1 h rfl (fun _ => ?_) (fun e => nomatch e)
               refine rg ?_
               refine wl (cal h rfl en20_W42 (known_L _ (hGl.keep hp)) fun u w58 ⟨e1, e2⟩ a h => ?_)
               subst e1
               have hp := hp.below e2
               refine wsg h rfl fun a h => ?_
               refine wn ?_
               refine wp_ret ?_
               try simp only [xqs, ↓reduceIte, Nat.reduceEqDiff]
               refine rt_1 h rfl (rvT h rfl) ?_
               exact ⟨_, rfl, rfl, hp.bel⟩
              ·have hk2 := hb14
               refine tk_on 25 h rfl (by kernel_rfl) (fun _ _ _ q => q) hp rfl rfl rfl rfl rfl hb14 (fun W _ => fad h rfl fo32_3) fun a h => ?_
               refine tk_on 26 h rfl (by kernel_rfl) (fun _ _ _ q => q) hp rfl rfl rfl rfl rfl hb14 (fun W hp => ldo h hp rfl 0 rfl rfl ag29) fun a h => ?_
               refine tk_on 27 h rfl (by kernel_rfl) (fun _ _ _ q => q) hp rfl rfl rfl rfl rfl hb14 (fun W hp => ldO (us := [_, _]) h hp rfl 3 rfl sz24 rfl ag24) fun a h => ?_
               refine tk_on 29 h rfl (by kernel_rfl) (fun _ _ _ q => q) hp rfl rfl rfl rfl rfl hb14 (fun W _ => mov h rfl) fun a h => ?_
               refine tk_on 30 h rfl (by kernel_rfl) (fun _ _ _ q => q) hp rfl rfl rfl rfl rfl hb14 (fun W _ => fad h rfl fo32_4) fun a h => ?_
               refine tk_on 31 h rfl (by kernel_rfl) (fun _ _ _ q => q) hp rfl rfl rfl rfl rfl hb14 (fun W hp => ldo h hp rfl 0 rfl rfl ag30) fun a h => ?_
               refine tk_on 32 h rfl (by kernel_rfl) (fun _ _ _ q => q) hp rfl rfl rfl rfl rfl hb14 (fun W _ => mov h rfl) fun a h => ?_
               refine tk_on 33 h rfl (by kernel_rfl) (fun _ _ _ q => q) hp rfl rfl rfl rfl rfl hb14 (fun W _ => mov h rfl) fun a h => ?_
               refine one 28 (by kernel_rfl) rfl (stp_on h rfl rfl rfl hb14 (cal h rfl en22 (Target_R _ _ _) fun u w59 ⟨e1, e2⟩ a h => ⟨hp.below e2, ?_⟩))
               subst e1
               have hp := hp.below e2
               refine one 34 (by kernel_rfl) rfl (stp_on h rfl rfl rfl hb14 (cal h rfl en23_W42 (Keeps_T _ _ _ _ _ _ _ _ _ _ _ (hE0.keep hp cl0).g.n (hE0.keep hp cl0).g.f (hE0.keep hp cl0).s hfe (isSet_rise hse) t3 f2 (by omega) (by omega)) fun u w60 ⟨e1, e2⟩ a h => ⟨hp.below e2, ?_⟩))
               subst e1
               have hp := hp.below e2
               refine tk_on 35 h rfl (by kernel_rfl) (fun _ _ _ q => q) hp rfl rfl rfl rfl rfl hb14 (fun W _ => not_ h rfl) fun a h => ?_
               refine tkq 36 h rfl hp (fun W _ => pckF h rfl hb14 rfl) fun a h => ?_
               refine dn (by kernel_rfl) ?_
               refine cnd1 h rfl (fun hb15 => ?_) (fun hb15 => ?_)
               ·refine rg ?_
                refine wl (cal h rfl en20_W42 (known_L _ (hGl.keep hp)) fun u w61 ⟨e1, e2⟩ a h => ?_)
                subst e1
                have hp := hp.below e2
                refine wsg h rfl fun a h => ?_
                refine wn ?_
                refine wp_ret ?_
                try simp only [xqs, ↓reduceIte, Nat.reduceEqDiff]
                refine rt_1 h rfl (rvT h rfl) ?_
                exact ⟨_, rfl, rfl, hp.bel⟩
               ·have hk3 := hb15
                have hNv : missed e st d1 d2 lt = [] := never_k ok hse hlm hld.1 hfr hev (by rw [e0]; simpa using hk1) (by rw [e1]; simpa using hk2) (by simpa using hk3) (by rw [e0, e1]; omega) (by rw [e1]; exact hW)
                refine skp ?_
                refine rg ?_
                refine wvl h (ldO (us := [_, _, _, _, _, _, _, _, _, _, _]) h hp rfl 0 rfl sz32 rfl ag32) fun a h => ?_
                refine wmv h rfl fun a h => ?_
                refine wmv h rfl fun a h => ?_
                refine wmv h rfl fun a h => ?_
                refine wmv h rfl fun a h => ?_
                refine wl (cal h rfl en39 (Missed_s x e s2 st d1 d2 lt _ (hE0.keep hp cl0) hspl) fun u w62 ⟨⟨s24, e1, hf⟩, e2⟩ a h => ?_)
                subst e1
                have hp := hp.got (hp.below e2) (by decide) hf
                refine wmv h rfl fun a h => ?_
                refine wvl h (ext h rfl rfl) fun a h => ?_
                refine wvl h (ext h rfl rfl) fun a h => ?_
                refine wsg h rfl fun a h => ?_
                refine wsg h rfl fun a h => ?_
                refine wn ?_
                refine rg ?_
                refine wmv h rfl fun a h => ?_
                refine wvl h (eqi h rfl rfl) fun a h => ?_
                refine wmv h rfl fun a h => ?_
                refine split (t := 203) h rfl (fun hb16 => ?_) (fun hb16 => ?_)
                ·refine wl (stp_on h rfl rfl rfl hb16 (vl h (mov h rfl) fun a h => ?_))
                 refine wl (stp_on h rfl rfl rfl hb16 (vl h (lenR h rfl Tryz.underlying50 (hp.rdF (i := 4) rfl)) fun a h => ?_))
                 refine wl (stp_on h rfl rfl rfl hb16 (vl h (eqi h rfl rfl) fun a h => ?_))
                 refine wvl h (pckT h rfl hb16 rfl) fun a h => ?_
                 refine wmv h rfl fun a h => ?_
                 refine split (t := 208) h rfl (fun hb17 => ?_) (fun hb17 => ?_)
                 ·refine wl (stp_on h rfl rfl rfl hb17 (cal h rfl en20_W42 (known_L _ (hGl.keep hp)) fun u w63 ⟨e1, e2⟩ a h => ?_))
                  subst e1
                  have hp := hp.below e2
                  refine wvl h (pckT h rfl hb17 rfl) fun a h => ?_
                  refine wsg h rfl fun a h => ?_
                  refine wn ?_
                  refine wp_ret ?_
                  try simp only [xqs, ↓reduceIte, Nat.reduceEqDiff]
                  refine rt_1 h rfl (rvT h rfl) ?_
                  exact ⟨_, rfl, rfl, hp.bel⟩
                 ·exact absurd hb17 (by have hq9 := List.length_eq_zero_iff.2 hNv; simp only [Bool.not_eq_true', Bool.not_eq_false', Bool.not_eq_true, Bool.not_eq_false, decide_eq_true_eq, decide_eq_false_iff_not, gt_iff_lt]; omega)
                ·exact absurd hb16 (by first | decide | (simp; done))
          ·refine wl (stp_on h rfl rfl rfl hb10 (vl h (fad h rfl fo32_5) fun a h => ?_))
           refine wl (stp_on h rfl rfl rfl hb10 (vl h (ldo h hp rfl 0 rfl rfl ag3) fun a h => ?_))
           refine wl (stp_on h rfl rfl rfl hb10 (vl h (fad h rfl fo32_6) fun a h => ?_))
           refine wl (stp_on h rfl rfl rfl hb10 (vl h (ldo h hp rfl 0 rfl rfl ag3) fun a h => ?_))
           refine wl (stp_on h rfl rfl rfl hb10 (vl h (min_ h rfl rfl) fun a h => ?_))
           refine wl (stp_on h rfl rfl rfl hb10 (vl h (fad h rfl fo32_7) fun a h => ?_))
           refine wl (stp_on h rfl rfl rfl hb10 (vl h (ldo h hp rfl 0 rfl rfl ag3) fun a h => ?_))
           refine wl (stp_on h rfl rfl rfl hb10 (vl h (add h rfl rfl (by omega)) fun a h => ?_))
           refine wl (stp_on h rfl rfl rfl hb10 (vl h (geq h rfl rfl) fun a h => ?_))
           refine wvl h (pckF h rfl hb10 rfl) fun a h => ?_
           refine wsg h rfl fun a h => ?_
           refine wn ?_
           refine wp_seq ?_
           refine rg ?_
           refine wmv h rfl fun a h => ?_
           refine wvl h (sub h rfl rfl (by omega)) fun a h => ?_
           refine wmv h rfl fun a h => ?_
           refine wvl h (mul h rfl rfl (by omega)) fun a h => ?_
           refine wmv h rfl fun a h => ?_
           refine wvl h (mul h rfl rfl (by omega)) fun a h => ?_
           refine wvl h (add h rfl rfl (by omega)) fun a h => ?_
           refine wvl h (lss h rfl rfl) fun a h => ?_
           refine wmv h rfl fun a h => ?_
           refine split (t := 146) h rfl (fun hb18 => ?_) (fun hb18 => ?_)
           ·refine wl (stp_off h rfl rfl rfl rfl rfl hb18 fun a h => ?_)
            refine wl (stp_off h rfl rfl rfl rfl rfl hb18 fun a h => ?_)
            refine wvl h (pckT h rfl hb18 rfl) fun a h => ?_
            refine wn ?_
            refine cnd1 h rfl (fun _ => ?_) (fun e => nomatch e)
            refine rg ?_
            refine wl (cal h rfl en20_W42 (known_L _ (hGl.keep hp)) fun u w64 ⟨e1, e2⟩ a h => ?_)
            subst e1
            have hp := hp.below e2
            refine wsg h rfl fun a h => ?_
            refine wn ?_
            refine wp_ret ?_
            try simp only [xqs, ↓reduceIte, Nat.reduceEqDiff]
            refine rt_1 h rfl (rvT h rfl) ?_
            exact ⟨_, rfl, rfl, hp.bel⟩
           ·have hLd := of_decide_eq_false hb18
            refine wl (stp_on h rfl rfl rfl hb18 (vl h (mov h rfl) fun a h => ?_))
            refine wl (stp_on h rfl rfl rfl hb18 (vl h (not_ h rfl) fun a h => ?_))
            refine wvl h (pckF h rfl hb18 rfl) fun a h => ?_
            refine wn ?_
            refine cnd1 h rfl (fun hb19 => ?_) (fun hb19 => ?_)
            ·refine rg ?_
             refine wl (cal h rfl en20_W42 (known_L _ (hGl.keep hp)) fun u w65 ⟨e1, e2⟩ a h => ?_)
             subst e1
             have hp := hp.below e2
             refine wsg h rfl fun a h => ?_
             refine wn ?_
             refine wp_ret ?_
             try simp only [xqs, ↓reduceIte, Nat.reduceEqDiff]
             refine rt_1 h rfl (rvT h rfl) ?_
             exact ⟨_, rfl, rfl, hp.bel⟩
            ·have hW : lt * (21600 * b1.1.den / b1.1.num + 21600 * e.nden / e.nnum + 2) + 2 * lm + 6 ≤ e.wide ∨ 5400 ≤ min e.new e.full + e.wide := .inr (by have hq9 := hb19; simp only [Bool.not_eq_false', decide_eq_true_eq, ge_iff_le] at hq9; omega)
             refine skp ?_
             refine rg ?_
             refine wmv h rfl fun a h => ?_
             refine wmv h rfl fun a h => ?_
             refine wvl h (add h rfl rfl (by omega)) fun a h => ?_
             refine wsg h rfl fun a h => ?_
             refine wn ?_
             refine wp_seq ?_
             refine rdh (n := 37) hp mixed rfl ?_
             have hp := hp.drew
             refine tkq 0 h rfl hp (fun W _ => fad h rfl fo32_1) fun a h => ?_
             refine tkq 1 h rfl hp (fun W hp => ldo h hp rfl 0 rfl rfl ag29) fun a h => ?_
             refine tkq 2 h rfl hp (fun W hp => ldO (us := [_, _]) h hp rfl 1 rfl sz24 rfl ag24) fun a h => ?_
             refine tkm 4 h rfl hp rfl fun a h => ?_
             refine tkq 5 h rfl hp (fun W _ => fad h rfl fo32_4) fun a h => ?_
             refine tkq 6 h rfl hp (fun W hp => ldo h hp rfl 0 rfl rfl ag30) fun a h => ?_
             refine tkm 7 h rfl hp rfl fun a h => ?_
             refine tkm 8 h rfl hp rfl fun a h => ?_
             refine one 3 (by kernel_rfl) rfl (cal h rfl en22 (Target_R _ _ _) fun u w66 ⟨e1, e2⟩ a h => ⟨hp.below e2, ?_⟩)
             subst e1
             have hp := hp.below e2
             refine one 9 (by kernel_rfl) rfl (cal h rfl en23_W42 (Keeps_T _ _ _ _ _ _ _ _ _ _ _ (hE0.keep hp cl0).g.s (hE0.keep hp cl0).g.f (hE0.keep hp cl0).s hfe (isSet_rise hse) t1 f0 (by omega) (by omega)) fun u w67 ⟨e1, e2⟩ a h => ⟨hp.below e2, ?_⟩)
             subst e1
             have hp := hp.below e2
             refine tkq 10 h rfl hp (fun W _ => not_ h rfl) fun a h => ?_
             refine tkm 11 h rfl hp rfl fun a h => ?_
             refine split (t := 165) h rfl (fun hb20 => ?_) (fun hb20 => ?_)
             ·refine tkG 12 h rfl hp rfl rfl rfl hb20 fun a h => ?_
              refine tkG 13 h rfl hp rfl rfl rfl hb20 fun a h => ?_
              refine tkG 14 h rfl hp rfl rfl rfl hb20 fun a h => ?_
              refine tkG 15 h rfl hp rfl rfl rfl hb20 fun a h => ?_
              refine tkG 16 h rfl hp rfl rfl rfl hb20 fun a h => ?_
              refine tkG 17 h rfl hp rfl rfl rfl hb20 fun a h => ?_
              refine tkG 18 h rfl hp rfl rfl rfl hb20 fun a h => ?_
              refine tkG 19 h rfl hp rfl rfl rfl hb20 fun a h => ?_
              refine tkG 20 h rfl hp rfl rfl rfl hb20 fun a h => ?_
              refine tkG 21 h rfl hp rfl rfl rfl hb20 fun a h => ?_
              refine tkG 22 h rfl hp rfl rfl rfl hb20 fun a h => ?_
              refine tkq 23 h rfl hp (fun W _ => pckT h rfl hb20 rfl) fun a h => ?_
              refine tkm 24 h rfl hp rfl fun a h => ?_
              refine tkG 25 h rfl hp rfl rfl rfl rfl fun a h => ?_
              refine tkG 26 h rfl hp rfl rfl rfl rfl fun a h => ?_
              refine tkG 27 h rfl hp rfl rfl rfl rfl fun a h => ?_
              refine tkG 28 h rfl hp rfl rfl rfl rfl fun a h => ?_
              refine tkG 29 h rfl hp rfl rfl rfl rfl fun a h => ?_
              refine tkG 30 h rfl hp rfl rfl rfl rfl fun a h => ?_
              refine tkG 31 h rfl hp rfl rfl rfl rfl fun a h => ?_
              refine tkG 32 h rfl hp rfl rfl rfl rfl fun a h => ?_
              refine tkG 33 h rfl hp rfl rfl rfl rfl fun a h => ?_
              refine tkG 34 h rfl hp rfl rfl rfl rfl fun a h => ?_
              refine tkG 35 h rfl hp rfl rfl rfl rfl fun a h => ?_
              refine tkq 36 h rfl hp (fun W _ => pckT h rfl rfl rfl) fun a h => ?_
              refine dn (by kernel_rfl) ?_
              refine cnd1 h rfl (fun _ => ?_) (fun e => nomatch e)
              refine rg ?_
              refine wl (cal h rfl en20_W42 (known_L _ (hGl.keep hp)) fun u w68 ⟨e1, e2⟩ a h => ?_)
              subst e1
              have hp := hp.below e2
              refine wsg h rfl fun a h => ?_
              refine wn ?_
              refine wp_ret ?_
              try simp only [xqs, ↓reduceIte, Nat.reduceEqDiff]
              refine rt_1 h rfl (rvT h rfl) ?_
              exact ⟨_, rfl, rfl, hp.bel⟩
             ·have hk1 := hb20
              refine tk_on 12 h rfl (by kernel_rfl) (fun _ _ _ q => q) hp rfl rfl rfl rfl rfl hb20 (fun W _ => fad h rfl fo32_2) fun a h => ?_
              refine tk_on 13 h rfl (by kernel_rfl) (fun _ _ _ q => q) hp rfl rfl rfl rfl rfl hb20 (fun W hp => ldo h hp rfl 0 rfl rfl ag29) fun a h => ?_
              refine tk_on 14 h rfl (by kernel_rfl) (fun _ _ _ q => q) hp rfl rfl rfl rfl rfl hb20 (fun W hp => ldO (us := [_, _]) h hp rfl 2 rfl sz24 rfl ag24) fun a h => ?_
              refine tk_on 16 h rfl (by kernel_rfl) (fun _ _ _ q => q) hp rfl rfl rfl rfl rfl hb20 (fun W _ => mov h rfl) fun a h => ?_
              refine tk_on 17 h rfl (by kernel_rfl) (fun _ _ _ q => q) hp rfl rfl rfl rfl rfl hb20 (fun W _ => fad h rfl fo32_4) fun a h => ?_
              refine tk_on 18 h rfl (by kernel_rfl) (fun _ _ _ q => q) hp rfl rfl rfl rfl rfl hb20 (fun W hp => ldo h hp rfl 0 rfl rfl ag30) fun a h => ?_
              refine tk_on 19 h rfl (by kernel_rfl) (fun _ _ _ q => q) hp rfl rfl rfl rfl rfl hb20 (fun W _ => mov h rfl) fun a h => ?_
              refine tk_on 20 h rfl (by kernel_rfl) (fun _ _ _ q => q) hp rfl rfl rfl rfl rfl hb20 (fun W _ => mov h rfl) fun a h => ?_
              refine one 15 (by kernel_rfl) rfl (stp_on h rfl rfl rfl hb20 (cal h rfl en22 (Target_R _ _ _) fun u w69 ⟨e1, e2⟩ a h => ⟨hp.below e2, ?_⟩))
              subst e1
              have hp := hp.below e2
              refine one 21 (by kernel_rfl) rfl (stp_on h rfl rfl rfl hb20 (cal h rfl en23_W42 (Keeps_T _ _ _ _ _ _ _ _ _ _ _ (hE0.keep hp cl0).g.m (hE0.keep hp cl0).g.f (hE0.keep hp cl0).s hfe (isSet_rise hse) t2 f1 (by omega) (by omega)) fun u w70 ⟨e1, e2⟩ a h => ⟨hp.below e2, ?_⟩))
              subst e1
              have hp := hp.below e2
              refine tk_on 22 h rfl (by kernel_rfl) (fun _ _ _ q => q) hp rfl rfl rfl rfl rfl hb20 (fun W _ => not_ h rfl) fun a h => ?_
              refine tkq 23 h rfl hp (fun W _ => pckF h rfl hb20 rfl) fun a h => ?_
              refine tkm 24 h rfl hp rfl fun a h => ?_
              refine split (t := 178) h rfl (fun hb21 => ?_) (fun hb21 => ?_)
              ·refine tkG 25 h rfl hp rfl rfl rfl hb21 fun a h => ?_
               refine tkG 26 h rfl hp rfl rfl rfl hb21 fun a h => ?_
               refine tkG 27 h rfl hp rfl rfl rfl hb21 fun a h => ?_
               refine tkG 28 h rfl hp rfl rfl rfl hb21 fun a h => ?_
               refine tkG 29 h rfl hp rfl rfl rfl hb21 fun a h => ?_
               refine tkG 30 h rfl hp rfl rfl rfl hb21 fun a h => ?_
               refine tkG 31 h rfl hp rfl rfl rfl hb21 fun a h => ?_
               refine tkG 32 h rfl hp rfl rfl rfl hb21 fun a h => ?_
               refine tkG 33 h rfl hp rfl rfl rfl hb21 fun a h => ?_
               refine tkG 34 h rfl hp rfl rfl rfl hb21 fun a h => ?_
               refine tkG 35 h rfl hp rfl rfl rfl hb21 fun a h => ?_
               refine tkq 36 h rfl hp (fun W _ => pckT h rfl hb21 rfl) fun a h => ?_
               refine dn (by kernel_rfl) ?_
               refine cnd1 h rfl (fun _ => ?_) (fun e => nomatch e)
               refine rg ?_
               refine wl (cal h rfl en20_W42 (known_L _ (hGl.keep hp)) fun u w71 ⟨e1, e2⟩ a h => ?_)
               subst e1
               have hp := hp.below e2
               refine wsg h rfl fun a h => ?_
               refine wn ?_
               refine wp_ret ?_
               try simp only [xqs, ↓reduceIte, Nat.reduceEqDiff]
               refine rt_1 h rfl (rvT h rfl) ?_
               exact ⟨_, rfl, rfl, hp.bel⟩
              ·have hk2 := hb21
               refine tk_on 25 h rfl (by kernel_rfl) (fun _ _ _ q => q) hp rfl rfl rfl rfl rfl hb21 (fun W _ => fad h rfl fo32_3) fun a h => ?_
               refine tk_on 26 h rfl (by kernel_rfl) (fun _ _ _ q => q) hp rfl rfl rfl rfl rfl hb21 (fun W hp => ldo h hp rfl 0 rfl rfl ag29) fun a h => ?_
               refine tk_on 27 h rfl (by kernel_rfl) (fun _ _ _ q => q) hp rfl rfl rfl rfl rfl hb21 (fun W hp => ldO (us := [_, _]) h hp rfl 3 rfl sz24 rfl ag24) fun a h => ?_
               refine tk_on 29 h rfl (by kernel_rfl) (fun _ _ _ q => q) hp rfl rfl rfl rfl rfl hb21 (fun W _ => mov h rfl) fun a h => ?_
               refine tk_on 30 h rfl (by kernel_rfl) (fun _ _ _ q => q) hp rfl rfl rfl rfl rfl hb21 (fun W _ => fad h rfl fo32_4) fun a h => ?_
               refine tk_on 31 h rfl (by kernel_rfl) (fun _ _ _ q => q) hp rfl rfl rfl rfl rfl hb21 (fun W hp => ldo h hp rfl 0 rfl rfl ag30) fun a h => ?_
               refine tk_on 32 h rfl (by kernel_rfl) (fun _ _ _ q => q) hp rfl rfl rfl rfl rfl hb21 (fun W _ => mov h rfl) fun a h => ?_
               refine tk_on 33 h rfl (by kernel_rfl) (fun _ _ _ q => q) hp rfl rfl rfl rfl rfl hb21 (fun W _ => mov h rfl) fun a h => ?_
               refine one 28 (by kernel_rfl) rfl (stp_on h rfl rfl rfl hb21 (cal h rfl en22 (Target_R _ _ _) fun u w72 ⟨e1, e2⟩ a h => ⟨hp.below e2, ?_⟩))
               subst e1
               have hp := hp.below e2
               refine one 34 (by kernel_rfl) rfl (stp_on h rfl rfl rfl hb21 (cal h rfl en23_W42 (Keeps_T _ _ _ _ _ _ _ _ _ _ _ (hE0.keep hp cl0).g.n (hE0.keep hp cl0).g.f (hE0.keep hp cl0).s hfe (isSet_rise hse) t3 f2 (by omega) (by omega)) fun u w73 ⟨e1, e2⟩ a h => ⟨hp.below e2, ?_⟩))
               subst e1
               have hp := hp.below e2
               refine tk_on 35 h rfl (by kernel_rfl) (fun _ _ _ q => q) hp rfl rfl rfl rfl rfl hb21 (fun W _ => not_ h rfl) fun a h => ?_
               refine tkq 36 h rfl hp (fun W _ => pckF h rfl hb21 rfl) fun a h => ?_
               refine dn (by kernel_rfl) ?_
               refine cnd1 h rfl (fun hb22 => ?_) (fun hb22 => ?_)
               ·refine rg ?_
                refine wl (cal h rfl en20_W42 (known_L _ (hGl.keep hp)) fun u w74 ⟨e1, e2⟩ a h => ?_)
                subst e1
                have hp := hp.below e2
                refine wsg h rfl fun a h => ?_
                refine wn ?_
                refine wp_ret ?_
                try simp only [xqs, ↓reduceIte, Nat.reduceEqDiff]
                refine rt_1 h rfl (rvT h rfl) ?_
                exact ⟨_, rfl, rfl, hp.bel⟩
               ·have hk3 := hb22
                have hNv : missed e st d1 d2 lt = [] := never_k ok hse hlm hld.1 hfr hev (by rw [e0]; simpa using hk1) (by rw [e1]; simpa using hk2) (by simpa using hk3) (by rw [e0, e1]; omega) (by rw [e1]; exact hW)
                refine skp ?_
                refine rg ?_
                refine wvl h (ldO (us := [_, _, _, _, _, _, _, _, _, _, _]) h hp rfl 0 rfl sz32 rfl ag32) fun a h => ?_
                refine wmv h rfl fun a h => ?_
                refine wmv h rfl fun a h => ?_
                refine wmv h rfl fun a h => ?_
                refine wmv h rfl fun a h => ?_
                refine wl (cal h rfl en39 (Missed_s x e s2 st d1 d2 lt _ (hE0.keep hp cl0) hspl) fun u w75 ⟨⟨s24, e1, hf⟩, e2⟩ a h => ?_)
                subst e1
                have hp := hp.got (hp.below e2) (by decide) hf
                refine wmv h rfl fun a h => ?_
                refine wvl h (ext h rfl rfl) fun a h => ?_
                refine wvl h (ext h rfl rfl) fun a h => ?_
                refine wsg h rfl fun a h => ?_
                refine wsg h rfl fun a h => ?_
                refine wn ?_
                refine rg ?_
                refine wmv h rfl fun a h => ?_
                refine wvl h (eqi h rfl rfl) fun a h => ?_
                refine wmv h rfl fun a h => ?_
                refine split (t := 203) h rfl (fun hb23 => ?_) (fun hb23 => ?_)
                ·refine wl (stp_on h rfl rfl rfl hb23 (vl h (mov h rfl) fun a h => ?_))
                 refine wl (stp_on h rfl rfl rfl hb23 (vl h (lenR h rfl Tryz.underlying50 (hp.rdF (i := 4) rfl)) fun a h => ?_))
                 refine wl (stp_on h rfl rfl rfl hb23 (vl h (eqi h rfl rfl) fun a h => ?_))
                 refine wvl h (pckT h rfl hb23 rfl) fun a h => ?_
                 refine wmv h rfl fun a h => ?_
                 refine split (t := 208) h rfl (fun hb24 => ?_) (fun hb24 => ?_)
                 ·refine wl (stp_on h rfl rfl rfl hb24 (cal h rfl en20_W42 (known_L _ (hGl.keep hp)) fun u w76 ⟨e1, e2⟩ a h => ?_))
                  subst e1
                  have hp := hp.below e2
                  refine wvl h (pckT h rfl hb24 rfl) fun a h => ?_
                  refine wsg h rfl fun a h => ?_
                  refine wn ?_
                  refine wp_ret ?_
                  try simp only [xqs, ↓reduceIte, Nat.reduceEqDiff]
                  refine rt_1 h rfl (rvT h rfl) ?_
                  exact ⟨_, rfl, rfl, hp.bel⟩
                 ·exact absurd hb24 (by have hq9 := List.length_eq_zero_iff.2 hNv; simp only [Bool.not_eq_true', Bool.not_eq_false', Bool.not_eq_true, Bool.not_eq_false, decide_eq_true_eq, decide_eq_false_iff_not, gt_iff_lt]; omega)
                ·exact absurd hb23 (by first | decide | (simp; done))
end Go.Proofs.Ec
