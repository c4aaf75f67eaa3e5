import Derived.Test.YtobofnkmbpfoiaaGreatDoorProg
import Derived.Test.YtobofnkmbpfoiaaGreatDoorPFa
import Derived.Test.YtobofnkmbpfoiaaGreatDoorPQb
import Derived.Test.YtobofnkmbpfoiaaGreatDoorPW38
import Derived.Test.YtobofnkmbpfoiaaGreatDoorPW12
set_option linter.unusedVariables false
set_option linter.unusedSimpArgs false
set_option maxRecDepth 4000
namespace Go.Proofs.Ec
open Go.RowKit Go.Proofs.Sx
open Ecl
theorem en15_W37 : EnT Tryz.prog 15 := ento Tryz.func15
theorem en20_W37 : EnT Tryz.prog 20 := ento Tryz.func20
theorem en16_W37 : EnT Tryz.prog 16 := ento Tryz.func16
theorem en17_W37 : EnT Tryz.prog 17 := ento Tryz.func17
theorem en26_W37 : EnT Tryz.prog 26 := ento Tryz.func26
theorem en37_W37 : EnT Tryz.prog 37 := ento Tryz.func37
theorem en40_W37 : EnT Tryz.prog 40 := ento Tryz.func40
theorem en32_W37 : EnT Tryz.prog 32 := ento Tryz.func32
theorem en44_W37 : EnT Tryz.prog 44 := ento Tryz.func44
theorem listed_missed {e : Eng} {st : List Int} {d1 d2 lt : Int} {y : Ecl.Mark} (hy : y ∈ skyAll e d1 d2) : (missed e st d1 d2 lt).any (fun z => decide (z = y)) = !beside (tellAll e st (max 1 (d1 - lt)) (d2 + lt)) y lt := by
 have hb := skyAll_mem hy
 rw [← told_beside (e := e) (set := st) (x := y) (late := lt) hb.1 hb.2, Bool.eq_iff_iff, List.any_eq_true]
 constructor
 ·rintro ⟨z, hz, h⟩
  obtain rfl := of_decide_eq_true h
  exact (List.mem_filter.1 hz).2
 intro h
 exact ⟨y, List.mem_filter.2 ⟨hy, h⟩, decide_eq_true rfl⟩
theorem listed_empty {e : Eng} {st : List Int} {d1 d2 lt : Int} {y : Ecl.Mark} (hy : y ∈ tellAll e st d1 d2) : (empties e st d1 d2 lt).any (fun z => decide (z = y)) = !beside (skyAll e (max 1 (d1 - lt)) (d2 + lt)) y lt := by
 rw [Bool.eq_iff_iff, List.any_eq_true]
 constructor
 ·rintro ⟨z, hz, h⟩
  obtain rfl := of_decide_eq_true h
  exact (List.mem_filter.1 hz).2
 intro h
 exact ⟨y, List.mem_filter.2 ⟨hy, h⟩, decide_eq_true rfl⟩
theorem not_both (b : Bool) : ¬ (((!b) == b) = true) := by cases b <;> decide
set_option maxHeartbeats 4000000 in
theorem EclipseFound_L (x : EV) (e : Eng) (s2 : SV) (st : List Int) (d1 d2 lt : Int) (w : World) (hG : RdG w x e) (hS2 : Rd w encI 1 s2.v st) (hGl : Glb w) : Ret Tryz.prog 9 #[.agg #[x.b.v, .int .i64 e.nnum, .int .i64 e.nden, .int .i64 e.nstart, x.s.v, x.m.v, x.n.v, x.f.v, .int .i64 e.new, .int .i64 e.full, .int .i64 e.wide], s2.v, .int .i64 d1, .int .i64 d2, .int .i64 lt] w fun u w' => u = .bool true ∧ Below w.heap.size w w' := by
 have hp : Hp c0 w w [] := Hp.start trivial
 refine enter Tryz.func9 rfl (N := 248) rfl rfl fun a h => ?_
 refine rg ?_
 refine wl (box (cs := #[_, _, _, _, _, _, _, _, _, _, _]) h hp rfl rfl fun a w1 g1 hg1 h hp => ?_)
 refine wsn h rfl fun a h => ?_
 refine wp_seq ?_
 refine rg ?_
 refine wvl h (ldO (us := [_, _, _, _, _, _, _, _, _, _, _]) h hp rfl 0 rfl sz32 rfl ag32) fun a h => ?_
 refine wmv h rfl fun a h => ?_
 refine wl (cal h rfl en15_W37 (short_L x e s2 st _ (hG.keep hp cl0) (hS2.keep (by decide) hp cl0)) fun u w2 ⟨⟨bsh, e1⟩, e2⟩ a h => ?_)
 subst e1
 have hp := hp.below e2
 refine wvl h (not_ h rfl) fun a h => ?_
 refine wmv h rfl fun a h => ?_
 refine split (t := 31) h rfl (fun hb1 => ?_) (fun hb1 => ?_)
 ·refine wl (stp_off h rfl rfl rfl rfl rfl hb1 fun a h => ?_)
  refine wl (stp_off h rfl rfl rfl rfl rfl hb1 fun a h => ?_)
  refine wl (stp_off h rfl rfl rfl rfl rfl hb1 fun a h => ?_)
  refine wvl h (pckT h rfl hb1 rfl) fun a h => ?_
  refine wmv h rfl fun a h => ?_
  refine wl (stp_off h rfl rfl rfl rfl rfl rfl fun a h => ?_)
  refine wl (stp_off h rfl rfl rfl rfl rfl rfl fun a h => ?_)
  refine wl (stp_off h rfl rfl rfl rfl rfl rfl fun a h => ?_)
  refine wl (stp_off h rfl rfl rfl rfl rfl rfl fun a h => ?_)
  refine wl (stp_off h rfl rfl rfl rfl rfl rfl fun a h => ?_)
  refine wvl h (pckT h rfl rfl rfl) fun a h => ?_
  refine wmv h rfl fun a h => ?_
  refine wl (stp_off h rfl rfl rfl rfl rfl rfl fun a h => ?_)
  refine wl (stp_off h rfl rfl rfl rfl rfl rfl fun a h => ?_)
  refine wl (stp_off h rfl rfl rfl rfl rfl rfl fun a h => ?_)
  refine wl (stp_off h rfl rfl rfl rfl rfl rfl fun a h => ?_)
  refine wvl h (pckT h rfl rfl rfl) fun a h => ?_
  refine wmv h rfl fun a h => ?_
  refine wl (stp_off h rfl rfl rfl rfl rfl rfl fun a h => ?_)
  refine wl (stp_off h rfl rfl rfl rfl rfl rfl fun a h => ?_)
  refine wl (stp_off h rfl rfl rfl rfl rfl rfl fun a h => ?_)
  refine wvl h (pckT h rfl rfl rfl) fun a h => ?_
  refine wmv h rfl fun a h => ?_
  refine wl (stp_off h rfl rfl rfl rfl rfl rfl fun a h => ?_)
  refine wl (stp_off h rfl rfl rfl rfl rfl rfl fun a h => ?_)
  refine wl (stp_off h rfl rfl rfl rfl rfl rfl fun a h => ?_)
  refine wl (stp_off h rfl rfl rfl rfl rfl rfl fun a h => ?_)
  refine wvl h (pckT h rfl rfl rfl) fun a h => ?_
  refine wmv h rfl fun a h => ?_
  refine wl (stp_off h rfl rfl rfl rfl rfl rfl fun a h => ?_)
  refine wl (stp_off h rfl rfl rfl rfl rfl rfl fun a h => ?_)
  refine wl (stp_off h rfl rfl rfl rfl rfl rfl fun a h => ?_)
  refine wl (stp_off h rfl rfl rfl rfl rfl rfl fun a h => ?_)
  refine wvl h (pckT h rfl rfl rfl) fun a h => ?_
  refine wn ?_
  refine cnd1 h rfl (fun _ => ?_) (fun e => nomatch e)
  refine rg ?_
  refine wl (cal h rfl en20_W37 (known_L _ (hGl.keep hp)) fun u w3 ⟨e1, e2⟩ a h => ?_)
  subst e1
  have hp := hp.below e2
  refine wsn h rfl fun a h => ?_
  refine wp_ret ?_
  try simp only [xqs]
  refine rt_1 h rfl (rvT h rfl) ?_
  exact ⟨_, rfl, rfl, hp.bel⟩
 have hn0 := hb1
 refine wl (stp_on h rfl rfl rfl hb1 (vl h (ldO (us := [_, _, _, _, _, _, _, _, _, _, _]) h hp rfl 0 rfl sz32 rfl ag32) fun a h => ?_))
 refine wl (stp_on h rfl rfl rfl hb1 (cal h rfl en16_W37 (Engine_R x e _ (by first | exact hG.keep hp cl0 | exact (hE0.keep hp cl0).g)) fun u w4 ⟨e1, e2⟩ a h => ?_))
 subst e1
 have hp := hp.below e2
 refine wl (stp_on h rfl rfl rfl hb1 (vl h (not_ h rfl) fun a h => ?_))
 refine wvl h (pckF h rfl hb1 rfl) fun a h => ?_
 refine wmv h rfl fun a h => ?_
 refine split (t := 36) h rfl (fun hb2 => ?_) (fun hb2 => ?_)
 ·refine wl (stp_off h rfl rfl rfl rfl rfl hb2 fun a h => ?_)
  refine wl (stp_off h rfl rfl rfl rfl rfl hb2 fun a h => ?_)
  refine wl (stp_off h rfl rfl rfl rfl rfl hb2 fun a h => ?_)
  refine wl (stp_off h rfl rfl rfl rfl rfl hb2 fun a h => ?_)
  refine wl (stp_off h rfl rfl rfl rfl rfl hb2 fun a h => ?_)
  refine wvl h (pckT h rfl hb2 rfl) fun a h => ?_
  refine wmv h rfl fun a h => ?_
  refine wl (stp_off h rfl rfl rfl rfl rfl rfl fun a h => ?_)
  refine wl (stp_off h rfl rfl rfl rfl rfl rfl fun a h => ?_)
  refine wl (stp_off h rfl rfl rfl rfl rfl rfl fun a h => ?_)
  refine wl (stp_off h rfl rfl rfl rfl rfl rfl fun a h => ?_)
  refine wvl h (pckT h rfl rfl rfl) fun a h => ?_
  refine wmv h rfl fun a h => ?_
  refine wl (stp_off h rfl rfl rfl rfl rfl rfl fun a h => ?_)
  refine wl (stp_off h rfl rfl rfl rfl rfl rfl fun a h => ?_)
  refine wl (stp_off h rfl rfl rfl rfl rfl rfl fun a h => ?_)
  refine wvl h (pckT h rfl rfl rfl) fun a h => ?_
  refine wmv h rfl fun a h => ?_
  refine wl (stp_off h rfl rfl rfl rfl rfl rfl fun a h => ?_)
  refine wl (stp_off h rfl rfl rfl rfl rfl rfl fun a h => ?_)
  refine wl (stp_off h rfl rfl rfl rfl rfl rfl fun a h => ?_)
  refine wl (stp_off h rfl rfl rfl rfl rfl rfl fun a h => ?_)
  refine wvl h (pckT h rfl rfl rfl) fun a h => ?_
  refine wmv h rfl fun a h => ?_
  refine wl (stp_off h rfl rfl rfl rfl rfl rfl fun a h => ?_)
  refine wl (stp_off h rfl rfl rfl rfl rfl rfl fun a h => ?_)
  refine wl (stp_off h rfl rfl rfl rfl rfl rfl fun a h => ?_)
  refine wl (stp_off h rfl rfl rfl rfl rfl rfl fun a h => ?_)
  refine wvl h (pckT h rfl rfl rfl) fun a h => ?_
  refine wn ?_
  refine cnd1 h rfl (fun _ => ?_) (fun e => nomatch e)
  refine rg ?_
  refine wl (cal h rfl en20_W37 (known_L _ (hGl.keep hp)) fun u w5 ⟨e1, e2⟩ a h => ?_)
  subst e1
  have hp := hp.below e2
  refine wsn h rfl fun a h => ?_
  refine wp_ret ?_
  try simp only [xqs]
  refine rt_1 h rfl (rvT h rfl) ?_
  exact ⟨_, rfl, rfl, hp.bel⟩
 have hn1 := hb2
 refine wl (stp_on h rfl rfl rfl hb2 (vl h (fad h rfl fo32_4) fun a h => ?_))
 refine wl (stp_on h rfl rfl rfl hb2 (vl h (ldo h hp rfl 0 rfl rfl ag30) fun a h => ?_))
 refine wl (stp_on h rfl rfl rfl hb2 (vl h (mov h rfl) fun a h => ?_))
 refine wl (stp_on h rfl rfl rfl hb2 (cal h rfl en17_W37 (Set_T _ _ _ _ _ (hS2.keep (by decide) hp cl0) (hG.keep hp cl0).f) fun u w6 ⟨e1, e2⟩ a h => ?_))
 subst e1
 have hp := hp.below e2
 refine wl (stp_on h rfl rfl rfl hb2 (vl h (not_ h rfl) fun a h => ?_))
 refine wvl h (pckF h rfl hb2 rfl) fun a h => ?_
 refine wmv h rfl fun a h => ?_
 refine split (t := 43) h rfl (fun hb3 => ?_) (fun hb3 => ?_)
 ·refine wl (stp_off h rfl rfl rfl rfl rfl hb3 fun a h => ?_)
  refine wl (stp_off h rfl rfl rfl rfl rfl hb3 fun a h => ?_)
  refine wl (stp_off h rfl rfl rfl rfl rfl hb3 fun a h => ?_)
  refine wl (stp_off h rfl rfl rfl rfl rfl hb3 fun a h => ?_)
  refine wvl h (pckT h rfl hb3 rfl) fun a h => ?_
  refine wmv h rfl fun a h => ?_
  refine wl (stp_off h rfl rfl rfl rfl rfl rfl fun a h => ?_)
  refine wl (stp_off h rfl rfl rfl rfl rfl rfl fun a h => ?_)
  refine wl (stp_off h rfl rfl rfl rfl rfl rfl fun a h => ?_)
  refine wvl h (pckT h rfl rfl rfl) fun a h => ?_
  refine wmv h rfl fun a h => ?_
  refine wl (stp_off h rfl rfl rfl rfl rfl rfl fun a h => ?_)
  refine wl (stp_off h rfl rfl rfl rfl rfl rfl fun a h => ?_)
  refine wl (stp_off h rfl rfl rfl rfl rfl rfl fun a h => ?_)
  refine wl (stp_off h rfl rfl rfl rfl rfl rfl fun a h => ?_)
  refine wvl h (pckT h rfl rfl rfl) fun a h => ?_
  refine wmv h rfl fun a h => ?_
  refine wl (stp_off h rfl rfl rfl rfl rfl rfl fun a h => ?_)
  refine wl (stp_off h rfl rfl rfl rfl rfl rfl fun a h => ?_)
  refine wl (stp_off h rfl rfl rfl rfl rfl rfl fun a h => ?_)
  refine wl (stp_off h rfl rfl rfl rfl rfl rfl fun a h => ?_)
  refine wvl h (pckT h rfl rfl rfl) fun a h => ?_
  refine wn ?_
  refine cnd1 h rfl (fun _ => ?_) (fun e => nomatch e)
  refine rg ?_
  refine wl (cal h rfl en20_W37 (known_L _ (hGl.keep hp)) fun u w7 ⟨e1, e2⟩ a h => ?_)
  subst e1
  have hp := hp.below e2
  refine wsn h rfl fun a h => ?_
  refine wp_ret ?_
  try simp only [xqs]
  refine rt_1 h rfl (rvT h rfl) ?_
  exact ⟨_, rfl, rfl, hp.bel⟩
 have hn2 := hb3
 refine wl (stp_on h rfl rfl rfl hb3 (vl h (mov h rfl) fun a h => ?_))
 refine wl (stp_on h rfl rfl rfl hb3 (vl h (mov h rfl) fun a h => ?_))
 refine wl (stp_on h rfl rfl rfl hb3 (cal h rfl en26_W37 (Span_R _ _ _) fun u w8 ⟨e1, e2⟩ a h => ?_))
 subst e1
 subst e2
 refine wl (stp_on h rfl rfl rfl hb3 (vl h (not_ h rfl) fun a h => ?_))
 refine wvl h (pckF h rfl hb3 rfl) fun a h => ?_
 refine wmv h rfl fun a h => ?_
 refine split (t := 49) h rfl (fun hb4 => ?_) (fun hb4 => ?_)
 ·refine wl (stp_off h rfl rfl rfl rfl rfl hb4 fun a h => ?_)
  refine wl (stp_off h rfl rfl rfl rfl rfl hb4 fun a h => ?_)
  refine wl (stp_off h rfl rfl rfl rfl rfl hb4 fun a h => ?_)
  refine wvl h (pckT h rfl hb4 rfl) fun a h => ?_
  refine wmv h rfl fun a h => ?_
  refine wl (stp_off h rfl rfl rfl rfl rfl rfl fun a h => ?_)
  refine wl (stp_off h rfl rfl rfl rfl rfl rfl fun a h => ?_)
  refine wl (stp_off h rfl rfl rfl rfl rfl rfl fun a h => ?_)
  refine wl (stp_off h rfl rfl rfl rfl rfl rfl fun a h => ?_)
  refine wvl h (pckT h rfl rfl rfl) fun a h => ?_
  refine wmv h rfl fun a h => ?_
  refine wl (stp_off h rfl rfl rfl rfl rfl rfl fun a h => ?_)
  refine wl (stp_off h rfl rfl rfl rfl rfl rfl fun a h => ?_)
  refine wl (stp_off h rfl rfl rfl rfl rfl rfl fun a h => ?_)
  refine wl (stp_off h rfl rfl rfl rfl rfl rfl fun a h => ?_)
  refine wvl h (pckT h rfl rfl rfl) fun a h => ?_
  refine wn ?_
  refine cnd1 h rfl (fun _ => ?_) (fun e => nomatch e)
  refine rg ?_
  refine wl (cal h rfl en20_W37 (known_L _ (hGl.keep hp)) fun u w9 ⟨e1, e2⟩ a h => ?_)
  subst e1
  have hp := hp.below e2
  refine wsn h rfl fun a h => ?_
  refine wp_ret ?_
  try simp only [xqs]
  refine rt_1 h rfl (rvT h rfl) ?_
  exact ⟨_, rfl, rfl, hp.bel⟩
 have hn3 := hb4
 have hsp0 : (1 ≤ d1 ∧ d1 ≤ 9000) ∧ (d1 ≤ d2 ∧ d2 ≤ 9000) := by have hq9 : isSpan d1 d2 = true := (by simpa using hn3); simp only [isSpan, inR, Bool.and_eq_true, decide_eq_true_eq] at hq9; omega
 refine wl (stp_on h rfl rfl rfl hb4 (vl h (mov h rfl) fun a h => ?_))
 refine wl (stp_on h rfl rfl rfl hb4 (cal h rfl en37_W37 (Late_R _ _) fun u w10 ⟨e1, e2⟩ a h => ?_))
 subst e1
 subst e2
 refine wl (stp_on h rfl rfl rfl hb4 (vl h (not_ h rfl) fun a h => ?_))
 refine wvl h (pckF h rfl hb4 rfl) fun a h => ?_
 refine wmv h rfl fun a h => ?_
 refine split (t := 54) h rfl (fun hb5 => ?_) (fun hb5 => ?_)
 ·refine wl (stp_off h rfl rfl rfl rfl rfl hb5 fun a h => ?_)
  refine wl (stp_off h rfl rfl rfl rfl rfl hb5 fun a h => ?_)
  refine wl (stp_off h rfl rfl rfl rfl rfl hb5 fun a h => ?_)
  refine wl (stp_off h rfl rfl rfl rfl rfl hb5 fun a h => ?_)
  refine wvl h (pckT h rfl hb5 rfl) fun a h => ?_
  refine wmv h rfl fun a h => ?_
  refine wl (stp_off h rfl rfl rfl rfl rfl rfl fun a h => ?_)
  refine wl (stp_off h rfl rfl rfl rfl rfl rfl fun a h => ?_)
  refine wl (stp_off h rfl rfl rfl rfl rfl rfl fun a h => ?_)
  refine wl (stp_off h rfl rfl rfl rfl rfl rfl fun a h => ?_)
  refine wvl h (pckT h rfl rfl rfl) fun a h => ?_
  refine wn ?_
  refine cnd1 h rfl (fun _ => ?_) (fun e => nomatch e)
  refine rg ?_
  refine wl (cal h rfl en20_W37 (known_L _ (hGl.keep hp)) fun u w11 ⟨e1, e2⟩ a h => ?_)
  subst e1
  have hp := hp.below e2
  refine wsn h rfl fun a h => ?_
  refine wp_ret ?_
  try simp only [xqs]
  refine rt_1 h rfl (rvT h rfl) ?_
  exact ⟨_, rfl, rfl, hp.bel⟩
 have hn4 := hb5
 have hld0 : 0 ≤ lt ∧ lt ≤ 30 := by simpa [isLate, inR] using hn4
 refine wl (stp_on h rfl rfl rfl hb5 (vl h (mov h rfl) fun a h => ?_))
 refine wl (stp_on h rfl rfl rfl hb5 (vl h (mov h rfl) fun a h => ?_))
 refine wl (stp_on h rfl rfl rfl hb5 (vl h (sub h rfl rfl (by omega)) fun a h => ?_))
 refine wl (stp_on h rfl rfl rfl hb5 (vl h (gtr h rfl rfl) fun a h => ?_))
 refine wvl h (pckF h rfl hb5 rfl) fun a h => ?_
 refine wmv h rfl fun a h => ?_
 refine split (t := 60) h rfl (fun hb6 => ?_) (fun hb6 => ?_)
 ·refine wl (stp_off h rfl rfl rfl rfl rfl hb6 fun a h => ?_)
  refine wl (stp_off h rfl rfl rfl rfl rfl hb6 fun a h => ?_)
  refine wl (stp_off h rfl rfl rfl rfl rfl hb6 fun a h => ?_)
  refine wl (stp_off h rfl rfl rfl rfl rfl hb6 fun a h => ?_)
  refine wvl h (pckT h rfl hb6 rfl) fun a h => ?_
  refine wn ?_
  refine cnd1 h rfl (fun _ => ?_) (fun e => nomatch e)
  refine rg ?_
  refine wl (cal h rfl en20_W37 (known_L _ (hGl.keep hp)) fun u w12 ⟨e1, e2⟩ a h => ?_)
  subst e1
  have hp := hp.below e2
  refine wsn h rfl fun a h => ?_
  refine wp_ret ?_
  try simp only [xqs]
  refine rt_1 h rfl (rvT h rfl) ?_
  exact ⟨_, rfl, rfl, hp.bel⟩
 have hn5 := hb6
 refine wl (stp_on h rfl rfl rfl hb6 (vl h (mov h rfl) fun a h => ?_))
 refine wl (stp_on h rfl rfl rfl hb6 (vl h (mov h rfl) fun a h => ?_))
 refine wl (stp_on h rfl rfl rfl hb6 (vl h (sub h rfl rfl (by omega)) fun a h => ?_))
 refine wl (stp_on h rfl rfl rfl hb6 (vl h (gtr h rfl rfl) fun a h => ?_))
 refine wvl h (pckF h rfl hb6 rfl) fun a h => ?_
 refine wn ?_
 refine cnd1 h rfl (fun hb7 => ?_) (fun hb7 => ?_)
 ·refine rg ?_
  refine wl (cal h rfl en20_W37 (known_L _ (hGl.keep hp)) fun u w13 ⟨e1, e2⟩ a h => ?_)
  subst e1
  have hp := hp.below e2
  refine wsn h rfl fun a h => ?_
  refine wp_ret ?_
  try simp only [xqs]
  refine rt_1 h rfl (rvT h rfl) ?_
  exact ⟨_, rfl, rfl, hp.bel⟩
 have hn6 := hb7
 have hen : isEngine e = true := by simpa using hn1
 have hse : isSet e st = true := by simpa [isSet] using hn2
 have hE0 : RdE w x e s2 st := ⟨hG, hS2, hen, hse⟩
 have ok := eng_ok hen
 have hlN := ok.new
 have hlF := ok.full
 have hlW := ok.wide
 have hspn : isSpan d1 d2 = true := by simpa using hn3
 have hd := hspn
 simp only [isSpan, inR, Bool.and_eq_true, decide_eq_true_eq] at hd
 have hla : isLate lt = true := by simpa using hn4
 have hld := hla
 simp only [isLate, inR, Bool.and_eq_true, decide_eq_true_eq] at hld
 have hspl : (inR d1 1 9000 && inR d2 d1 9000 && decide (d2 - d1 ≤ 400) && inR lt 0 30) = true := by rw [Bool.and_eq_true]; exact ⟨hspn, hla⟩
 have hm5 := of_decide_eq_false hn5
 have hm6 := of_decide_eq_false hn6
 have hl1 : (missed e st d1 d2 lt).length ≤ (skyAll e d1 d2).length := List.length_filter_le _ _
 have hl2 : (empties e st d1 d2 lt).length ≤ (tellAll e st d1 d2).length := List.length_filter_le _ _
 have hl3 : (skyAll e (max 1 (d1 - lt)) (d2 + lt)).length ≤ 1000 := by have := skyAll_length (e := e) (max 1 (d1 - lt)) (d2 + lt); omega
 have hl4 : (tellAll e st (max 1 (d1 - lt)) (d2 + lt)).length ≤ 1000 := by have := tellAll_length (e := e) (set := st) (max 1 (d1 - lt)) (d2 + lt); omega
 have hspm : (inR (max 1 (d1 - lt)) 1 9000 && inR (d2 + lt) (max 1 (d1 - lt)) 9000 && decide (d2 + lt - max 1 (d1 - lt) ≤ 400)) = true := by simp only [inR, Bool.and_eq_true, decide_eq_true_eq]; omega
 have hbC : ∀ z ∈ (skyAll e (max 1 (d1 - lt)) (d2 + lt)), -20000 ≤ z.day ∧ z.day ≤ 20000 := fun z hz => by have := skyAll_mem hz; omega
 have hbD : ∀ z ∈ (tellAll e st (max 1 (d1 - lt)) (d2 + lt)), -20000 ≤ z.day ∧ z.day ≤ 20000 := fun z hz => by have := tellAll_mem hz; omega
 refine skp ?_
 refine rg ?_
 refine wvl h (ldO (us := [_, _, _, _, _, _, _, _, _, _, _]) h hp rfl 0 rfl sz32 rfl ag32) fun a h => ?_
 refine wm3 h rfl rfl rfl rfl rfl rfl fun a h => ?_
 refine wmv h rfl fun a h => ?_
 refine wl (cal h rfl en39 (Missed_s x e s2 st d1 d2 lt _ (hE0.keep hp cl0) hspl) fun u w14 ⟨⟨s21, e1, hf⟩, e2⟩ a h => ?_)
 subst e1
 have hp := hp.got (hp.below e2) (by decide) hf
 refine wmv h rfl fun a h => ?_
 refine wvl h (ext h rfl rfl) fun a h => ?_
 refine wvl h (ext h rfl rfl) fun a h => ?_
 refine ws2 h rfl rfl rfl rfl fun a h => ?_
 refine rg ?_
 refine wvl h (ldO (us := [_, _, _, _, _, _, _, _, _, _, _]) h hp rfl 0 rfl sz32 rfl ag32) fun a h => ?_
 refine wm3 h rfl rfl rfl rfl rfl rfl fun a h => ?_
 refine wmv h rfl fun a h => ?_
 refine wl (cal h rfl en40_W37 (Empty_s x e s2 st _ _ _ _ (hE0.keep hp cl0) hspl) fun u w15 ⟨⟨s22, e1, hf⟩, e2⟩ a h => ?_)
 subst e1
 have hp := hp.got (hp.below e2) (by decide) hf
 refine wmv h rfl fun a h => ?_
 refine wvl h (ext h rfl rfl) fun a h => ?_
 refine wvl h (ext h rfl rfl) fun a h => ?_
 refine ws2 h rfl rfl rfl rfl fun a h => ?_
 refine rg ?_
 refine wvl h (fad h rfl fo32_0) fun a h => ?_
 refine wvl h (ldO (us := [_, _, _, _]) h hp rfl 0 rfl sz28 rfl ag28) fun a h => ?_
 refine wvl h (fad h rfl fo32_5) fun a h => ?_
 refine wvl h (ldo h hp rfl 0 rfl rfl ag3) fun a h => ?_
 refine wvl h (fad h rfl fo32_6) fun a h => ?_
 refine wvl h (ldo h hp rfl 0 rfl rfl ag3) fun a h => ?_
 refine wm2 h rfl rfl rfl rfl fun a h => ?_
 refine wl (cal h rfl en43 (Eclipses_s x e d1 d2 _ (hE0.keep hp cl0).g.sky ok.sky ok.new ok.full (by omega)) fun u w16 ⟨⟨s23, e1, hf⟩, e2⟩ a h => ?_)
 subst e1
 have hp := hp.got (hp.below e2) (by decide) hf
 refine wmv h rfl fun a h => ?_
 refine wvl h (ext h rfl rfl) fun a h => ?_
 refine wvl h (ext h rfl rfl) fun a h => ?_
 refine ws2 h rfl rfl rfl rfl fun a h => ?_
 refine rg ?_
 refine wvl h (ldO (us := [_, _, _, _, _, _, _, _, _, _, _]) h hp rfl 0 rfl sz32 rfl ag32) fun a h => ?_
 refine wm3 h rfl rfl rfl rfl rfl rfl fun a h => ?_
 refine wl (cal h rfl en25 (Foretells_s x e s2 st d1 d2 _ (hE0.keep hp cl0) hspn) fun u w17 ⟨⟨s24, e1, hf⟩, e2⟩ a h => ?_)
 subst e1
 have hp := hp.got (hp.below e2) (by decide) hf
 refine wmv h rfl fun a h => ?_
 refine wvl h (ext h rfl rfl) fun a h => ?_
 refine wvl h (ext h rfl rfl) fun a h => ?_
 refine ws2 h rfl rfl rfl rfl fun a h => ?_
 refine rg ?_
 refine wvl h (fad h rfl fo32_0) fun a h => ?_
 refine wvl h (ldO (us := [_, _, _, _]) h hp rfl 0 rfl sz28 rfl ag28) fun a h => ?_
 refine wvl h (fad h rfl fo32_5) fun a h => ?_
 refine wvl h (ldo h hp rfl 0 rfl rfl ag3) fun a h => ?_
 refine wvl h (fad h rfl fo32_6) fun a h => ?_
 refine wvl h (ldo h hp rfl 0 rfl rfl ag3) fun a h => ?_
 refine wm2 h rfl rfl rfl rfl fun a h => ?_
 refine wvl h (sub h rfl rfl (by omega)) fun a h => ?_
 refine wvl h (max_ h rfl rfl) fun a h => ?_
 refine wm2 h rfl rfl rfl rfl fun a h => ?_
 refine wvl h (add h rfl rfl (by omega)) fun a h => ?_
 refine wl (cal h rfl en43 (Eclipses_s x e (max 1 (d1 - lt)) (d2 + lt) _ (hE0.keep hp cl0).g.sky ok.sky ok.new ok.full (by omega)) fun u w18 ⟨⟨s25, e1, hf⟩, e2⟩ a h => ?_)
 subst e1
 have hp := hp.got (hp.below e2) (by decide) hf
 refine wmv h rfl fun a h => ?_
 refine wvl h (ext h rfl rfl) fun a h => ?_
 refine wvl h (ext h rfl rfl) fun a h => ?_
 refine ws2 h rfl rfl rfl rfl fun a h => ?_
 refine rg ?_
 refine wvl h (ldO (us := [_, _, _, _, _, _, _, _, _, _, _]) h hp rfl 0 rfl sz32 rfl ag32) fun a h => ?_
 refine wm3 h rfl rfl rfl rfl rfl rfl fun a h => ?_
 refine wvl h (sub h rfl rfl (by omega)) fun a h => ?_
 refine wvl h (max_ h rfl rfl) fun a h => ?_
 refine wm2 h rfl rfl rfl rfl fun a h => ?_
 refine wvl h (add h rfl rfl (by omega)) fun a h => ?_
 refine wl (cal h rfl en25 (Foretells_s x e s2 st (max 1 (d1 - lt)) (d2 + lt) _ (hE0.keep hp cl0) hspm) fun u w19 ⟨⟨s26, e1, hf⟩, e2⟩ a h => ?_)
 subst e1
 have hp := hp.got (hp.below e2) (by decide) hf
 refine wmv h rfl fun a h => ?_
 refine wvl h (ext h rfl rfl) fun a h => ?_
 refine wvl h (ext h rfl rfl) fun a h => ?_
 refine ws2 h rfl rfl rfl rfl fun a h => ?_
 refine wp_seq ?_
 refine rg ?_
 refine wmv h rfl fun a h => ?_
 refine wvl h (nei h rfl rfl) fun a h => ?_
 refine wmv h rfl fun a h => ?_
 refine split (t := 137) h rfl (fun hb8 => ?_) (fun hb8 => ?_)
 ·exact absurd hb8 (by first | decide | (simp; done))
 refine wl (stp_on h rfl rfl rfl hb8 (vl h (mov h rfl) fun a h => ?_))
 refine wl (stp_on h rfl rfl rfl hb8 (vl h (nei h rfl rfl) fun a h => ?_))
 refine wvl h (pckF h rfl hb8 rfl) fun a h => ?_
 refine wmv h rfl fun a h => ?_
 refine split (t := 141) h rfl (fun hb9 => ?_) (fun hb9 => ?_)
 ·exact absurd hb9 (by first | decide | (simp; done))
 refine wl (stp_on h rfl rfl rfl hb9 (vl h (mov h rfl) fun a h => ?_))
 refine wl (stp_on h rfl rfl rfl hb9 (vl h (nei h rfl rfl) fun a h => ?_))
 refine wvl h (pckF h rfl hb9 rfl) fun a h => ?_
 refine wmv h rfl fun a h => ?_
 refine split (t := 145) h rfl (fun hb10 => ?_) (fun hb10 => ?_)
 ·exact absurd hb10 (by first | decide | (simp; done))
 refine wl (stp_on h rfl rfl rfl hb10 (vl h (mov h rfl) fun a h => ?_))
 refine wl (stp_on h rfl rfl rfl hb10 (vl h (nei h rfl rfl) fun a h => ?_))
 refine wvl h (pckF h rfl hb10 rfl) fun a h => ?_
 refine wmv h rfl fun a h => ?_
 refine split (t := 149) h rfl (fun hb11 => ?_) (fun hb11 => ?_)
 ·exact absurd hb11 (by first | decide | (simp; done))
 refine wl (stp_on h rfl rfl rfl hb11 (vl h (mov h rfl) fun a h => ?_))
 refine wl (stp_on h rfl rfl rfl hb11 (vl h (nei h rfl rfl) fun a h => ?_))
 refine wvl h (pckF h rfl hb11 rfl) fun a h => ?_
 refine wmv h rfl fun a h => ?_
 refine split (t := 153) h rfl (fun hb12 => ?_) (fun hb12 => ?_)
 ·exact absurd hb12 (by first | decide | (simp; done))
 refine wl (stp_on h rfl rfl rfl hb12 (vl h (mov h rfl) fun a h => ?_))
 refine wl (stp_on h rfl rfl rfl hb12 (vl h (nei h rfl rfl) fun a h => ?_))
 refine wvl h (pckF h rfl hb12 rfl) fun a h => ?_
 refine wmv h rfl fun a h => ?_
 refine split (t := 157) h rfl (fun hb13 => ?_) (fun hb13 => ?_)
 ·exact absurd hb13 (by first | decide | (simp; done))
 refine wl (stp_on h rfl rfl rfl hb13 (vl h (mov h rfl) fun a h => ?_))
 refine wl (stp_on h rfl rfl rfl hb13 (vl h (lenR h rfl Tryz.underlying50 (hp.rdF (i := 1) rfl)) fun a h => ?_))
 refine wl (stp_on h rfl rfl rfl hb13 (vl h (mov h rfl) fun a h => ?_))
 refine wl (stp_on h rfl rfl rfl hb13 (vl h (lenR h rfl Tryz.underlying50 (hp.rdF (i := 3) rfl)) fun a h => ?_))
 refine wl (stp_on h rfl rfl rfl hb13 (vl h (gtr h rfl rfl) fun a h => ?_))
 refine wvl h (pckF h rfl hb13 rfl) fun a h => ?_
 refine wmv h rfl fun a h => ?_
 refine split (t := 164) h rfl (fun hb14 => ?_) (fun hb14 => ?_)
 ·exact absurd hb14 (by first | decide | (simp only [Bool.not_eq_true', Bool.not_eq_false', Bool.not_eq_true, Bool.not_eq_false, decide_eq_true_eq, decide_eq_false_iff_not, gt_iff_lt, ge_iff_le]; omega) | (simp; done))
 refine wl (stp_on h rfl rfl rfl hb14 (vl h (mov h rfl) fun a h => ?_))
 refine wl (stp_on h rfl rfl rfl hb14 (vl h (lenR h rfl Tryz.underlying50 (hp.rdF (i := 2) rfl)) fun a h => ?_))
 refine wl (stp_on h rfl rfl rfl hb14 (vl h (mov h rfl) fun a h => ?_))
 refine wl (stp_on h rfl rfl rfl hb14 (vl h (lenR h rfl Tryz.underlying50 (hp.rdF (i := 4) rfl)) fun a h => ?_))
 refine wl (stp_on h rfl rfl rfl hb14 (vl h (gtr h rfl rfl) fun a h => ?_))
 refine wvl h (pckF h rfl hb14 rfl) fun a h => ?_
 refine wmv h rfl fun a h => ?_
 refine split (t := 171) h rfl (fun hb15 => ?_) (fun hb15 => ?_)
 ·exact absurd hb15 (by first | decide | (simp only [Bool.not_eq_true', Bool.not_eq_false', Bool.not_eq_true, Bool.not_eq_false, decide_eq_true_eq, decide_eq_false_iff_not, gt_iff_lt, ge_iff_le]; omega) | (simp; done))
 refine wl (stp_on h rfl rfl rfl hb15 (vl h (mov h rfl) fun a h => ?_))
 refine wl (stp_on h rfl rfl rfl hb15 (vl h (lenR h rfl Tryz.underlying50 (hp.rdF (i := 5) rfl)) fun a h => ?_))
 refine wl (stp_on h rfl rfl rfl hb15 (vl h (gtr h rfl rfl) fun a h => ?_))
 refine wvl h (pckF h rfl hb15 rfl) fun a h => ?_
 refine wmv h rfl fun a h => ?_
 refine split (t := 176) h rfl (fun hb16 => ?_) (fun hb16 => ?_)
 ·exact absurd hb16 (by first | decide | (simp only [Bool.not_eq_true', Bool.not_eq_false', Bool.not_eq_true, Bool.not_eq_false, decide_eq_true_eq, decide_eq_false_iff_not, gt_iff_lt, ge_iff_le]; omega) | (simp; done))
 refine wl (stp_on h rfl rfl rfl hb16 (vl h (mov h rfl) fun a h => ?_))
 refine wl (stp_on h rfl rfl rfl hb16 (vl h (lenR h rfl Tryz.underlying50 (hp.rdF (i := 6) rfl)) fun a h => ?_))
 refine wl (stp_on h rfl rfl rfl hb16 (vl h (gtr h rfl rfl) fun a h => ?_))
 refine wvl h (pckF h rfl hb16 rfl) fun a h => ?_
 refine wn ?_
 refine cnd1 h rfl (fun hb17 => ?_) (fun hb17 => ?_)
 ·exact absurd hb17 (by first | decide | (simp only [Bool.not_eq_true', Bool.not_eq_false', Bool.not_eq_true, Bool.not_eq_false, decide_eq_true_eq, decide_eq_false_iff_not, gt_iff_lt, ge_iff_le]; omega) | (simp; done))
 refine skp ?_
 refine wp_seq ?_
 refine rg ?_
 refine wsn h rfl fun a h => ?_
 refine lp1 h [4, 11, 13, 15, 17, 19, 21] (fun n f w' => ∃ k : Nat, k ≤ (skyAll e d1 d2).length ∧ n = (skyAll e d1 d2).length - k ∧ f = [(23, .int .i64 k)] ∧ Hp c0 w w' ([.blk g1 (.cells #[x.b.v, .int .i64 e.nnum, .int .i64 e.nden, .int .i64 e.nstart, x.s.v, x.m.v, x.n.v, x.f.v, .int .i64 e.new, .int .i64 e.full, .int .i64 e.wide] 32 (0, 0)), rdE encM 3 s21.v (missed e st d1 d2 lt), rdE encM 3 s22.v (empties e st d1 d2 lt), rdE encM 3 s23.v (skyAll e d1 d2), rdE encM 3 s24.v (tellAll e st d1 d2), rdE encM 3 s25.v (skyAll e (max 1 (d1 - lt)) (d2 + lt)), rdE encM 3 s26.v (tellAll e st (max 1 (d1 - lt)) (d2 + lt))]) ∧ True) ((skyAll e d1 d2).length) [(23, .int .i64 ((0 : Nat) : Int))] ⟨rfl, rfl, rfl, rfl, rfl, rfl, rfl, rfl, trivial⟩ ⟨0, Nat.zero_le _, rfl, rfl, hp, trivial⟩ ?_
 rintro n f a w20 ⟨k, hk, rfl, rfl, hp, _⟩ h
 have hfit := (hp.rdF (i := 3) rfl).fits
 refine wp_seq ?_
 refine rg ?_
 refine wm2 h rfl rfl rfl rfl fun a h => ?_
 refine wvl h (lenR h rfl Tryz.underlying50 (hp.rdF (i := 3) rfl)) fun a h => ?_
 refine wvl h (lss h rfl rfl) fun a h => ?_
 refine wn ?_
 refine cnd1 h rfl (fun hb18 => ?_) (fun hb18 => ?_)
 ·have hlt : k < (skyAll e d1 d2).length := by have := of_decide_eq_true hb18; omega
  obtain ⟨y, hy⟩ : ∃ y, (skyAll e d1 d2)[k]? = some y := ⟨_, List.getElem?_eq_getElem hlt⟩
  have hym := List.mem_of_getElem? hy
  have hyb := skyAll_mem hym
  refine skp ?_
  refine blk ?_
  refine rdh (n := 14) hp mixed rfl ?_
  have hp := hp.drew
  refine tkm 0 h rfl hp rfl fun a h => ?_
  refine tkm 1 h rfl hp rfl fun a h => ?_
  refine tkm 2 h rfl hp rfl fun a h => ?_
  refine tkq 3 h rfl hp (fun W hp => iadR (k) h rfl rfl Tryz.underlying50 sz59 (hp.rdF (i := 3) rfl) (rfl) (hlt)) fun a h => ?_
  refine tkq 4 h rfl hp (fun W hp => ldE h (hp.rdF (i := 3) rfl) hy rfl ag59 sz59) fun a h => ?_
  refine tkm 6 h rfl hp rfl fun a h => ?_
  refine tkm 7 h rfl hp rfl fun a h => ?_
  refine tkm 8 h rfl hp rfl fun a h => ?_
  refine tkq 9 h rfl hp (fun W hp => iadR (k) h rfl rfl Tryz.underlying50 sz59 (hp.rdF (i := 3) rfl) (rfl) (hlt)) fun a h => ?_
  refine tkq 10 h rfl hp (fun W hp => ldE h (hp.rdF (i := 3) rfl) hy rfl ag59 sz59) fun a h => ?_
  refine tkm 11 h rfl hp rfl fun a h => ?_
  refine one 5 (by kernel_rfl) rfl (cal h rfl en32_W37 (listed_L _ _ y _ (hp.rdF (i := 1) rfl)) fun u w21 ⟨e1, e2⟩ a h => ⟨hp.below e2, ?_⟩)
  subst e1
  have hp := hp.below e2
  refine one 12 (by kernel_rfl) rfl (cal h rfl en44_W37 (beside_L _ _ y lt _ (hp.rdF (i := 6) rfl) (by omega) (by omega) hbD) fun u w22 ⟨e1, e2⟩ a h => ⟨hp.below e2, ?_⟩)
  subst e1
  have hp := hp.below e2
  refine tkq 13 h rfl hp (fun W _ => eqb h rfl rfl Tryz.underlying4) fun a h => ?_
  refine dn (by kernel_rfl) ?_
  refine cnd1 h rfl (fun hb19 => ?_) (fun hb19 => ?_)
  ·exact absurd hb19 (by rw [listed_missed hym]; exact not_both _)
  refine wp_skip ?_
  refine rg1 ?_
  refine wmv h rfl fun a h => ?_
  refine wvl h (add h rfl rfl (by omega)) fun a h => ?_
  refine wsn h rfl fun a h => ?_
  exact ⟨_, _, (by omega), ⟨k + 1, by omega, rfl, rfl, hp.pre 7 rfl, trivial⟩, h.sub ⟨rfl, rfl, rfl, rfl, rfl, rfl, rfl, rfl, trivial⟩⟩
 refine wp_exit ?_
 try simp only [xqs, ↓reduceIte, Nat.reduceEqDiff]
 refine wp_seq ?_
 refine rg ?_
 refine wsn h rfl fun a h => ?_
 refine lp1 h [4, 11, 13, 15, 17, 19] (fun n f w' => ∃ k : Nat, k ≤ (tellAll e st d1 d2).length ∧ n = (tellAll e st d1 d2).length - k ∧ f = [(24, .int .i64 k)] ∧ Hp c0 w w' ([.blk g1 (.cells #[x.b.v, .int .i64 e.nnum, .int .i64 e.nden, .int .i64 e.nstart, x.s.v, x.m.v, x.n.v, x.f.v, .int .i64 e.new, .int .i64 e.full, .int .i64 e.wide] 32 (0, 0)), rdE encM 3 s21.v (missed e st d1 d2 lt), rdE encM 3 s22.v (empties e st d1 d2 lt), rdE encM 3 s23.v (skyAll e d1 d2), rdE encM 3 s24.v (tellAll e st d1 d2), rdE encM 3 s25.v (skyAll e (max 1 (d1 - lt)) (d2 + lt)), rdE encM 3 s26.v (tellAll e st (max 1 (d1 - lt)) (d2 + lt))]) ∧ True) ((tellAll e st d1 d2).length) [(24, .int .i64 ((0 : Nat) : Int))] ⟨rfl, rfl, rfl, rfl, rfl, rfl, rfl, trivial⟩ ⟨0, Nat.zero_le _, rfl, rfl, hp, trivial⟩ ?_
 rintro n f a w23 ⟨k, hk, rfl, rfl, hp, _⟩ h
 have hfit := (hp.rdF (i := 4) rfl).fits
 refine wp_seq ?_
 refine rg ?_
 refine wm2 h rfl rfl rfl rfl fun a h => ?_
 refine wvl h (lenR h rfl Tryz.underlying50 (hp.rdF (i := 4) rfl)) fun a h => ?_
 refine wvl h (lss h rfl rfl) fun a h => ?_
 refine wn ?_
 refine cnd1 h rfl (fun hb20 => ?_) (fun hb20 => ?_)
 ·have hlt : k < (tellAll e st d1 d2).length := by have := of_decide_eq_true hb20; omega
  obtain ⟨y, hy⟩ : ∃ y, (tellAll e st d1 d2)[k]? = some y := ⟨_, List.getElem?_eq_getElem hlt⟩
  have hym := List.mem_of_getElem? hy
  have hyb := tellAll_mem hym
  refine skp ?_
  refine blk ?_
  refine rdh (n := 14) hp mixed rfl ?_
  have hp := hp.drew
  refine tkm 0 h rfl hp rfl fun a h => ?_
  refine tkm 1 h rfl hp rfl fun a h => ?_
  refine tkm 2 h rfl hp rfl fun a h => ?_
  refine tkq 3 h rfl hp (fun W hp => iadR (k) h rfl rfl Tryz.underlying50 sz59 (hp.rdF (i := 4) rfl) (rfl) (hlt)) fun a h => ?_
  refine tkq 4 h rfl hp (fun W hp => ldE h (hp.rdF (i := 4) rfl) hy rfl ag59 sz59) fun a h => ?_
  refine tkm 6 h rfl hp rfl fun a h => ?_
  refine tkm 7 h rfl hp rfl fun a h => ?_
  refine tkm 8 h rfl hp rfl fun a h => ?_
  refine tkq 9 h rfl hp (fun W hp => iadR (k) h rfl rfl Tryz.underlying50 sz59 (hp.rdF (i := 4) rfl) (rfl) (hlt)) fun a h => ?_
  refine tkq 10 h rfl hp (fun W hp => ldE h (hp.rdF (i := 4) rfl) hy rfl ag59 sz59) fun a h => ?_
  refine tkm 11 h rfl hp rfl fun a h => ?_
  refine one 5 (by kernel_rfl) rfl (cal h rfl en32_W37 (listed_L _ _ y _ (hp.rdF (i := 2) rfl)) fun u w24 ⟨e1, e2⟩ a h => ⟨hp.below e2, ?_⟩)
  subst e1
  have hp := hp.below e2
  refine one 12 (by kernel_rfl) rfl (cal h rfl en44_W37 (beside_L _ _ y lt _ (hp.rdF (i := 5) rfl) (by omega) (by omega) hbC) fun u w25 ⟨e1, e2⟩ a h => ⟨hp.below e2, ?_⟩)
  subst e1
  have hp := hp.below e2
  refine tkq 13 h rfl hp (fun W _ => eqb h rfl rfl Tryz.underlying4) fun a h => ?_
  refine dn (by kernel_rfl) ?_
  refine cnd1 h rfl (fun hb21 => ?_) (fun hb21 => ?_)
  ·exact absurd hb21 (by rw [listed_empty hym]; exact not_both _)
  refine wp_skip ?_
  refine rg1 ?_
  refine wmv h rfl fun a h => ?_
  refine wvl h (add h rfl rfl (by omega)) fun a h => ?_
  refine wsn h rfl fun a h => ?_
  exact ⟨_, _, (by omega), ⟨k + 1, by omega, rfl, rfl, hp.pre 7 rfl, trivial⟩, h.sub ⟨rfl, rfl, rfl, rfl, rfl, rfl, rfl, trivial⟩⟩
 refine wp_exit ?_
 try simp only [xqs, ↓reduceIte, Nat.reduceEqDiff]
 refine wp_seq ?_
 refine rg ?_
 refine wsn h rfl fun a h => ?_
 refine lp1 h [11, 13, 15, 17] (fun n f w' => ∃ k : Nat, k ≤ (missed e st d1 d2 lt).length ∧ n = (missed e st d1 d2 lt).length - k ∧ f = [(25, .int .i64 k)] ∧ Hp c0 w w' ([.blk g1 (.cells #[x.b.v, .int .i64 e.nnum, .int .i64 e.nden, .int .i64 e.nstart, x.s.v, x.m.v, x.n.v, x.f.v, .int .i64 e.new, .int .i64 e.full, .int .i64 e.wide] 32 (0, 0)), rdE encM 3 s21.v (missed e st d1 d2 lt), rdE encM 3 s22.v (empties e st d1 d2 lt), rdE encM 3 s23.v (skyAll e d1 d2), rdE encM 3 s24.v (tellAll e st d1 d2), rdE encM 3 s25.v (skyAll e (max 1 (d1 - lt)) (d2 + lt)), rdE encM 3 s26.v (tellAll e st (max 1 (d1 - lt)) (d2 + lt))]) ∧ True) ((missed e st d1 d2 lt).length) [(25, .int .i64 ((0 : Nat) : Int))] ⟨rfl, rfl, rfl, rfl, rfl, trivial⟩ ⟨0, Nat.zero_le _, rfl, rfl, hp, trivial⟩ ?_
 rintro n f a w26 ⟨k, hk, rfl, rfl, hp, _⟩ h
 have hfit := (hp.rdF (i := 1) rfl).fits
 refine wp_seq ?_
 refine rg ?_
 refine wm2 h rfl rfl rfl rfl fun a h => ?_
 refine wvl h (lenR h rfl Tryz.underlying50 (hp.rdF (i := 1) rfl)) fun a h => ?_
 refine wvl h (lss h rfl rfl) fun a h => ?_
 refine wn ?_
 refine cnd1 h rfl (fun hb22 => ?_) (fun hb22 => ?_)
 ·have hlt : k < (missed e st d1 d2 lt).length := by have := of_decide_eq_true hb22; omega
  obtain ⟨y, hy⟩ : ∃ y, (missed e st d1 d2 lt)[k]? = some y := ⟨_, List.getElem?_eq_getElem hlt⟩
  have hym := List.mem_of_getElem? hy
  refine skp ?_
  refine blk ?_
  refine rg ?_
  refine wm3 h rfl rfl rfl rfl rfl rfl fun a h => ?_
  refine wvl h (iadR (k) h rfl rfl Tryz.underlying50 sz59 (hp.rdF (i := 1) rfl) (rfl) (hlt)) fun a h => ?_
  refine wvl h (ldE h (hp.rdF (i := 1) rfl) hy rfl ag59 sz59) fun a h => ?_
  refine wl (cal h rfl en32_W37 (listed_L _ _ y _ (hp.rdF (i := 3) rfl)) fun u w27 ⟨e1, e2⟩ a h => ?_)
  subst e1
  have hp := hp.below e2
  refine wvl h (not_ h rfl) fun a h => ?_
  refine wn ?_
  refine cnd1 h rfl (fun hb23 => ?_) (fun hb23 => ?_)
  ·exact absurd hb23 (by rw [mem_of_any (List.mem_filter.1 hym).1]; decide)
  refine wp_skip ?_
  refine rg1 ?_
  refine wmv h rfl fun a h => ?_
  refine wvl h (add h rfl rfl (by omega)) fun a h => ?_
  refine wsn h rfl fun a h => ?_
  exact ⟨_, _, (by omega), ⟨k + 1, by omega, rfl, rfl, hp.pre 7 rfl, trivial⟩, h.sub ⟨rfl, rfl, rfl, rfl, rfl, trivial⟩⟩
 refine wp_exit ?_
 try simp only [xqs, ↓reduceIte, Nat.reduceEqDiff]
 refine wp_seq ?_
 refine rg ?_
 refine wsn h rfl fun a h => ?_
 refine lp1 h [13, 17] (fun n f w' => ∃ k : Nat, k ≤ (empties e st d1 d2 lt).length ∧ n = (empties e st d1 d2 lt).length - k ∧ f = [(26, .int .i64 k)] ∧ Hp c0 w w' ([.blk g1 (.cells #[x.b.v, .int .i64 e.nnum, .int .i64 e.nden, .int .i64 e.nstart, x.s.v, x.m.v, x.n.v, x.f.v, .int .i64 e.new, .int .i64 e.full, .int .i64 e.wide] 32 (0, 0)), rdE encM 3 s21.v (missed e st d1 d2 lt), rdE encM 3 s22.v (empties e st d1 d2 lt), rdE encM 3 s23.v (skyAll e d1 d2), rdE encM 3 s24.v (tellAll e st d1 d2), rdE encM 3 s25.v (skyAll e (max 1 (d1 - lt)) (d2 + lt)), rdE encM 3 s26.v (tellAll e st (max 1 (d1 - lt)) (d2 + lt))]) ∧ True) ((empties e st d1 d2 lt).length) [(26, .int .i64 ((0 : Nat) : Int))] ⟨rfl, rfl, rfl, trivial⟩ ⟨0, Nat.zero_le _, rfl, rfl, hp, trivial⟩ ?_
 rintro n f a w28 ⟨k, hk, rfl, rfl, hp, _⟩ h
 have hfit := (hp.rdF (i := 2) rfl).fits
 refine wp_seq ?_
 refine rg ?_
 refine wm2 h rfl rfl rfl rfl fun a h => ?_
 refine wvl h (lenR h rfl Tryz.underlying50 (hp.rdF (i := 2) rfl)) fun a h => ?_
 refine wvl h (lss h rfl rfl) fun a h => ?_
 refine wn ?_
 refine cnd1 h rfl (fun hb24 => ?_) (fun hb24 => ?_)
 ·have hlt : k < (empties e st d1 d2 lt).length := by have := of_decide_eq_true hb24; omega
  obtain ⟨y, hy⟩ : ∃ y, (empties e st d1 d2 lt)[k]? = some y := ⟨_, List.getElem?_eq_getElem hlt⟩
  have hym := List.mem_of_getElem? hy
  refine skp ?_
  refine blk ?_
  refine rg ?_
  refine wm3 h rfl rfl rfl rfl rfl rfl fun a h => ?_
  refine wvl h (iadR (k) h rfl rfl Tryz.underlying50 sz59 (hp.rdF (i := 2) rfl) (rfl) (hlt)) fun a h => ?_
  refine wvl h (ldE h (hp.rdF (i := 2) rfl) hy rfl ag59 sz59) fun a h => ?_
  refine wl (cal h rfl en32_W37 (listed_L _ _ y _ (hp.rdF (i := 4) rfl)) fun u w29 ⟨e1, e2⟩ a h => ?_)
  subst e1
  have hp := hp.below e2
  refine wvl h (not_ h rfl) fun a h => ?_
  refine wn ?_
  refine cnd1 h rfl (fun hb25 => ?_) (fun hb25 => ?_)
  ·exact absurd hb25 (by rw [mem_of_any (List.mem_filter.1 hym).1]; decide)
  refine wp_skip ?_
  refine rg1 ?_
  refine wmv h rfl fun a h => ?_
  refine wvl h (add h rfl rfl (by omega)) fun a h => ?_
  refine wsn h rfl fun a h => ?_
  exact ⟨_, _, (by omega), ⟨k + 1, by omega, rfl, rfl, hp.pre 7 rfl, trivial⟩, h.sub ⟨rfl, rfl, rfl, trivial⟩⟩
 refine wp_exit ?_
 try simp only [xqs, ↓reduceIte, Nat.reduceEqDiff]
 refine rg ?_
 refine wl (cal h rfl en20_W37 (known_L _ (hGl.keep hp)) fun u w30 ⟨e1, e2⟩ a h => ?_)
 subst e1
 have hp := hp.below e2
 refine wsn h rfl fun a h => ?_
 refine wp_ret ?_
 try simp only [xqs]
 refine rt_1 h rfl (rvT h rfl) ?_
 exact ⟨_, rfl, rfl, hp.bel⟩
end Go.Proofs.Ec
