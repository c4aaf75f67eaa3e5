import Derived.Test.YtobofnkmbpfoiaaGreatDoorProg
import Derived.Test.YtobofnkmbpfoiaaGreatDoorPFa
import Derived.Test.YtobofnkmbpfoiaaGreatDoorPQb
import Derived.Test.YtobofnkmbpfoiaaGreatDoorPW22
import Derived.Test.YtobofnkmbpfoiaaGreatDoorPW23
set_option linter.unusedVariables false
set_option linter.unusedSimpArgs false
set_option maxRecDepth 4000
namespace Go.Proofs.Ec
open Go.RowKit Go.Proofs.Sx
open Ecl
theorem Span_R (d1 : Int) (d2 : Int) (w : World) : Ret Tryz.prog 26 #[.int .i64 d1, .int .i64 d2] w fun u w1 => u = .bool (Ecl.isSpan d1 d2) ∧ w1 = w := by
 refine enter Tryz.func26 rfl (N := 18) rfl rfl fun a h => ?_
 refine rg ?_
 refine wsn h rfl fun a h => ?_
 refine rg ?_
 refine wmv h rfl fun a h => ?_
 refine wl (cal h rfl en61 (in_R _ _ _ _) fun u w1 ⟨e1, e2⟩ a h => ?_)
 subst e1
 subst e2
 refine wmv h rfl fun a h => ?_
 refine split (t := 7) h rfl (fun hb1 => ?_) (fun hb1 => ?_)
 ·refine wl (stp_on h rfl rfl rfl hb1 (vl h (mov h rfl) fun a h => ?_))
  refine wl (stp_on h rfl rfl rfl hb1 (vl h (mov h rfl) fun a h => ?_))
  refine wl (stp_on h rfl rfl rfl hb1 (cal h rfl en61 (in_R _ _ _ _) fun u w2 ⟨e1, e2⟩ a h => ?_))
  subst e1
  subst e2
  refine wvl h (pckT h rfl hb1 rfl) fun a h => ?_
  refine wmv h rfl fun a h => ?_
  refine split (t := 12) h rfl (fun hb2 => ?_) (fun hb2 => ?_)
  ·refine wl (stp_on h rfl rfl rfl hb2 (vl h (mov h rfl) fun a h => ?_))
   refine wl (stp_on h rfl rfl rfl hb2 (vl h (mov h rfl) fun a h => ?_))
   refine wl (stp_on h rfl rfl rfl hb2 (vl h (sub h rfl rfl (by simp only [inR, Bool.and_eq_true, decide_eq_true_eq] at hb1 hb2; omega)) fun a h => ?_))
   refine wl (stp_on h rfl rfl rfl hb2 (vl h (leq h rfl rfl) fun a h => ?_))
   refine wvl h (pckT h rfl hb2 rfl) fun a h => ?_
   refine wsn h rfl fun a h => ?_
   refine wp_ret ?_
   try simp only [xqs]
   refine rt_1 h rfl (rvT h rfl) ?_
   exact ⟨_, rfl, by simp only [Ecl.isSpan, hb1, hb2, Bool.true_and, Bool.false_and, Bool.and_true, Bool.and_false, Bool.or_true, Bool.true_or, Bool.or_false, Bool.false_or, Bool.not_true, Bool.not_false], rfl⟩
  refine wl (stp_off h rfl rfl rfl rfl rfl hb2 fun a h => ?_)
  refine wl (stp_off h rfl rfl rfl rfl rfl hb2 fun a h => ?_)
  refine wl (stp_off h rfl rfl rfl rfl rfl hb2 fun a h => ?_)
  refine wl (stp_off h rfl rfl rfl rfl rfl hb2 fun a h => ?_)
  refine wvl h (pckF h rfl hb2 rfl) fun a h => ?_
  refine wsn h rfl fun a h => ?_
  refine wp_ret ?_
  try simp only [xqs]
  refine rt_1 h rfl (rvT h rfl) ?_
  exact ⟨_, rfl, by simp only [Ecl.isSpan, hb1, hb2, Bool.true_and, Bool.false_and, Bool.and_true, Bool.and_false, Bool.or_true, Bool.true_or, Bool.or_false, Bool.false_or, Bool.not_true, Bool.not_false], rfl⟩
 refine wl (stp_off h rfl rfl rfl rfl rfl hb1 fun a h => ?_)
 refine wl (stp_off h rfl rfl rfl rfl rfl hb1 fun a h => ?_)
 refine wl (stp_off h rfl rfl rfl rfl rfl hb1 fun a h => ?_)
 refine wvl h (pckF h rfl hb1 rfl) fun a h => ?_
 refine wmv h rfl fun a h => ?_
 refine wl (stp_off h rfl rfl rfl rfl rfl rfl fun a h => ?_)
 refine wl (stp_off h rfl rfl rfl rfl rfl rfl fun a h => ?_)
 refine wl (stp_off h rfl rfl rfl rfl rfl rfl fun a h => ?_)
 refine wl (stp_off h rfl rfl rfl rfl rfl rfl fun a h => ?_)
 refine wvl h (pckF h rfl rfl rfl) fun a h => ?_
 refine wsn h rfl fun a h => ?_
 refine wp_ret ?_
 try simp only [xqs]
 refine rt_1 h rfl (rvT h rfl) ?_
 exact ⟨_, rfl, by simp only [Ecl.isSpan, hb1, Bool.true_and, Bool.false_and, Bool.and_true, Bool.and_false, Bool.or_true, Bool.true_or, Bool.or_false, Bool.false_or, Bool.not_true, Bool.not_false], rfl⟩
theorem Target_R (a9 b9 : Int) (w : World) : Ret Tryz.prog 22 #[.agg #[.int .i64 a9, .int .i64 b9]] w fun u w' => u = .agg #[.int .i64 b9, .int .i64 a9] ∧ Below w.heap.size w w' := by
 have hp : Hp c0 w w [] := Hp.start trivial
 refine enter Tryz.func22 rfl (N := 8) rfl rfl fun a h => ?_
 refine rg ?_
 refine wl (box (cs := #[_, _]) h hp rfl rfl fun a w1 g1 hg1 h hp => ?_)
 refine wl (all h hp zc43 fun a w2 g2 hg2 h hp => ?_)
 refine wn ?_
 refine rg ?_
 refine wvl h (fad h rfl fo24_1) fun a h => ?_
 refine wvl h (ldo h hp rfl 0 rfl rfl ag3) fun a h => ?_
 refine wvl h (fad h rfl fo24_0) fun a h => ?_
 refine wvl h (ldo h hp rfl 0 rfl rfl ag3) fun a h => ?_
 refine wvl h (bld h rfl (bl43_0_1 _ _ _)) fun a h => ?_
 refine wl (sta h hp rfl rfl 1 rfl sz43 rfl rfl fun w3 hp => ?_)
 refine wn ?_
 refine wp_ret ?_
 try simp only [xqs]
 refine rt_1 h rfl (rvA h hp rfl 1 rfl ag43 sz43) ?_
 exact ⟨_, rfl, rfl, hp.ext.below⟩
theorem Engine_R (x : EV) (e : Eng) (w : World) (hG : RdG w x e) : Ret Tryz.prog 16 #[.agg #[x.b.v, .int .i64 e.nnum, .int .i64 e.nden, .int .i64 e.nstart, x.s.v, x.m.v, x.n.v, x.f.v, .int .i64 e.new, .int .i64 e.full, .int .i64 e.wide]] w fun u w' => u = .bool (isEngine e) ∧ Below w.heap.size w w' := by
 have hp : Hp c0 w w [] := Hp.start trivial
 refine enter Tryz.func16 rfl (N := 60) rfl rfl fun a h => ?_
 refine rg ?_
 refine wl (box (cs := #[_, _, _, _, _, _, _, _, _, _, _]) h hp rfl rfl fun a w1 g1 hg1 h hp => ?_)
 refine wsn h rfl fun a h => ?_
 refine wp_seq ?_
 refine rg ?_
 refine wvl h (fad h rfl fo32_0) fun a h => ?_
 refine wvl h (ldO (us := [_, _, _, _]) h hp rfl 0 rfl sz28 rfl ag28) fun a h => ?_
 refine wl (cal h rfl en56 (Sky_S x e _ (by first | exact (hS.keep hp cl0) | exact (hG.keep hp cl0).sky)) fun u w2 ⟨e1, e2⟩ a h => ?_)
 subst e1
 have hp := hp.below e2
 refine wvl h (not_ h rfl) fun a h => ?_
 refine wmv h rfl fun a h => ?_
 refine split (t := 10) h rfl (fun hb1 => ?_) (fun hb1 => ?_)
 ·refine wl (stp_off h rfl rfl rfl rfl rfl hb1 fun a h => ?_)
  refine wl (stp_off h rfl rfl rfl rfl rfl hb1 fun a h => ?_)
  refine wl (stp_off h rfl rfl rfl rfl rfl hb1 fun a h => ?_)
  refine wl (stp_off h rfl rfl rfl rfl rfl hb1 fun a h => ?_)
  refine wvl h (pckT h rfl hb1 rfl) fun a h => ?_
  refine wmv h rfl fun a h => ?_
  refine wl (stp_off h rfl rfl rfl rfl rfl rfl fun a h => ?_)
  refine wl (stp_off h rfl rfl rfl rfl rfl rfl fun a h => ?_)
  refine wl (stp_off h rfl rfl rfl rfl rfl rfl fun a h => ?_)
  refine wl (stp_off h rfl rfl rfl rfl rfl rfl fun a h => ?_)
  refine wvl h (pckT h rfl rfl rfl) fun a h => ?_
  refine wmv h rfl fun a h => ?_
  refine wl (stp_off h rfl rfl rfl rfl rfl rfl fun a h => ?_)
  refine wl (stp_off h rfl rfl rfl rfl rfl rfl fun a h => ?_)
  refine wl (stp_off h rfl rfl rfl rfl rfl rfl fun a h => ?_)
  refine wl (stp_off h rfl rfl rfl rfl rfl rfl fun a h => ?_)
  refine wvl h (pckT h rfl rfl rfl) fun a h => ?_
  refine wmv h rfl fun a h => ?_
  refine wl (stp_off h rfl rfl rfl rfl rfl rfl fun a h => ?_)
  refine wl (stp_off h rfl rfl rfl rfl rfl rfl fun a h => ?_)
  refine wl (stp_off h rfl rfl rfl rfl rfl rfl fun a h => ?_)
  refine wl (stp_off h rfl rfl rfl rfl rfl rfl fun a h => ?_)
  refine wvl h (pckT h rfl rfl rfl) fun a h => ?_
  refine wmv h rfl fun a h => ?_
  refine wl (stp_off h rfl rfl rfl rfl rfl rfl fun a h => ?_)
  refine wl (stp_off h rfl rfl rfl rfl rfl rfl fun a h => ?_)
  refine wl (stp_off h rfl rfl rfl rfl rfl rfl fun a h => ?_)
  refine wl (stp_off h rfl rfl rfl rfl rfl rfl fun a h => ?_)
  refine wvl h (pckT h rfl rfl rfl) fun a h => ?_
  refine wmv h rfl fun a h => ?_
  refine wl (stp_off h rfl rfl rfl rfl rfl rfl fun a h => ?_)
  refine wl (stp_off h rfl rfl rfl rfl rfl rfl fun a h => ?_)
  refine wl (stp_off h rfl rfl rfl rfl rfl rfl fun a h => ?_)
  refine wl (stp_off h rfl rfl rfl rfl rfl rfl fun a h => ?_)
  refine wvl h (pckT h rfl rfl rfl) fun a h => ?_
  refine wmv h rfl fun a h => ?_
  refine wl (stp_off h rfl rfl rfl rfl rfl rfl fun a h => ?_)
  refine wl (stp_off h rfl rfl rfl rfl rfl rfl fun a h => ?_)
  refine wl (stp_off h rfl rfl rfl rfl rfl rfl fun a h => ?_)
  refine wl (stp_off h rfl rfl rfl rfl rfl rfl fun a h => ?_)
  refine wvl h (pckT h rfl rfl rfl) fun a h => ?_
  refine wn ?_
  refine cnd1 h rfl (fun _ => ?_) (fun e => nomatch e)
  refine rg ?_
  refine wsn h rfl fun a h => ?_
  refine wp_ret ?_
  try simp only [xqs]
  refine rt_1 h rfl (rvT h rfl) ?_
  exact ⟨_, rfl, by rw [engine_ref]; simp only [Bool.not_eq_true', Bool.not_eq_false'] at hb1; simp only [hb1, Bool.true_and, Bool.false_and, Bool.and_true, Bool.and_false, Bool.or_true, Bool.true_or, Bool.or_false, Bool.false_or, Bool.not_true, Bool.not_false], hp.bel⟩
 have hsk : isSky e = true := by simpa using hb1
 refine wl (stp_on h rfl rfl rfl hb1 (vl h (fad h rfl fo32_1) fun a h => ?_))
 refine wl (stp_on h rfl rfl rfl hb1 (vl h (ldo h hp rfl 0 rfl rfl ag29) fun a h => ?_))
 refine wl (stp_on h rfl rfl rfl hb1 (cal h rfl en57 (Train_T _ _ _ (hG.keep hp cl0).s) fun u w3 ⟨e1, e2⟩ a h => ?_))
 subst e1
 have hp := hp.below e2
 refine wl (stp_on h rfl rfl rfl hb1 (vl h (not_ h rfl) fun a h => ?_))
 refine wvl h (pckF h rfl hb1 rfl) fun a h => ?_
 refine wmv h rfl fun a h => ?_
 refine split (t := 16) h rfl (fun hb2 => ?_) (fun hb2 => ?_)
 ·refine wl (stp_off h rfl rfl rfl rfl rfl hb2 fun a h => ?_)
  refine wl (stp_off h rfl rfl rfl rfl rfl hb2 fun a h => ?_)
  refine wl (stp_off h rfl rfl rfl rfl rfl hb2 fun a h => ?_)
  refine wl (stp_off h rfl rfl rfl rfl rfl hb2 fun a h => ?_)
  refine wvl h (pckT h rfl hb2 rfl) fun a h => ?_
  refine wmv h rfl fun a h => ?_
  refine wl (stp_off h rfl rfl rfl rfl rfl rfl fun a h => ?_)
  refine wl (stp_off h rfl rfl rfl rfl rfl rfl fun a h => ?_)
  refine wl (stp_off h rfl rfl rfl rfl rfl rfl fun a h => ?_)
  refine wl (stp_off h rfl rfl rfl rfl rfl rfl fun a h => ?_)
  refine wvl h (pckT h rfl rfl rfl) fun a h => ?_
  refine wmv h rfl fun a h => ?_
  refine wl (stp_off h rfl rfl rfl rfl rfl rfl fun a h => ?_)
  refine wl (stp_off h rfl rfl rfl rfl rfl rfl fun a h => ?_)
  refine wl (stp_off h rfl rfl rfl rfl rfl rfl fun a h => ?_)
  refine wl (stp_off h rfl rfl rfl rfl rfl rfl fun a h => ?_)
  refine wvl h (pckT h rfl rfl rfl) fun a h => ?_
  refine wmv h rfl fun a h => ?_
  refine wl (stp_off h rfl rfl rfl rfl rfl rfl fun a h => ?_)
  refine wl (stp_off h rfl rfl rfl rfl rfl rfl fun a h => ?_)
  refine wl (stp_off h rfl rfl rfl rfl rfl rfl fun a h => ?_)
  refine wl (stp_off h rfl rfl rfl rfl rfl rfl fun a h => ?_)
  refine wvl h (pckT h rfl rfl rfl) fun a h => ?_
  refine wmv h rfl fun a h => ?_
  refine wl (stp_off h rfl rfl rfl rfl rfl rfl fun a h => ?_)
  refine wl (stp_off h rfl rfl rfl rfl rfl rfl fun a h => ?_)
  refine wl (stp_off h rfl rfl rfl rfl rfl rfl fun a h => ?_)
  refine wl (stp_off h rfl rfl rfl rfl rfl rfl fun a h => ?_)
  refine wvl h (pckT h rfl rfl rfl) fun a h => ?_
  refine wmv h rfl fun a h => ?_
  refine wl (stp_off h rfl rfl rfl rfl rfl rfl fun a h => ?_)
  refine wl (stp_off h rfl rfl rfl rfl rfl rfl fun a h => ?_)
  refine wl (stp_off h rfl rfl rfl rfl rfl rfl fun a h => ?_)
  refine wl (stp_off h rfl rfl rfl rfl rfl rfl fun a h => ?_)
  refine wvl h (pckT h rfl rfl rfl) fun a h => ?_
  refine wn ?_
  refine cnd1 h rfl (fun _ => ?_) (fun e => nomatch e)
  refine rg ?_
  refine wsn h rfl fun a h => ?_
  refine wp_ret ?_
  try simp only [xqs]
  refine rt_1 h rfl (rvT h rfl) ?_
  exact ⟨_, rfl, by rw [engine_ref]; simp only [Bool.not_eq_true', Bool.not_eq_false'] at hb1 hb2; simp only [hb1, hb2, Bool.true_and, Bool.false_and, Bool.and_true, Bool.and_false, Bool.or_true, Bool.true_or, Bool.or_false, Bool.false_or, Bool.not_true, Bool.not_false], hp.bel⟩
 refine wl (stp_on h rfl rfl rfl hb2 (vl h (fad h rfl fo32_2) fun a h => ?_))
 refine wl (stp_on h rfl rfl rfl hb2 (vl h (ldo h hp rfl 0 rfl rfl ag29) fun a h => ?_))
 refine wl (stp_on h rfl rfl rfl hb2 (cal h rfl en57 (Train_T _ _ _ (hG.keep hp cl0).m) fun u w4 ⟨e1, e2⟩ a h => ?_))
 subst e1
 have hp := hp.below e2
 refine wl (stp_on h rfl rfl rfl hb2 (vl h (not_ h rfl) fun a h => ?_))
 refine wvl h (pckF h rfl hb2 rfl) fun a h => ?_
 refine wmv h rfl fun a h => ?_
 refine split (t := 22) h rfl (fun hb3 => ?_) (fun hb3 => ?_)
 ·refine wl (stp_off h rfl rfl rfl rfl rfl hb3 fun a h => ?_)
  refine wl (stp_off h rfl rfl rfl rfl rfl hb3 fun a h => ?_)
  refine wl (stp_off h rfl rfl rfl rfl rfl hb3 fun a h => ?_)
  refine wl (stp_off h rfl rfl rfl rfl rfl hb3 fun a h => ?_)
  refine wvl h (pckT h rfl hb3 rfl) fun a h => ?_
  refine wmv h rfl fun a h => ?_
  refine wl (stp_off h rfl rfl rfl rfl rfl rfl fun a h => ?_)
  refine wl (stp_off h rfl rfl rfl rfl rfl rfl fun a h => ?_)
  refine wl (stp_off h rfl rfl rfl rfl rfl rfl fun a h => ?_)
  refine wl (stp_off h rfl rfl rfl rfl rfl rfl fun a h => ?_)
  refine wvl h (pckT h rfl rfl rfl) fun a h => ?_
  refine wmv h rfl fun a h => ?_
  refine wl (stp_off h rfl rfl rfl rfl rfl rfl fun a h => ?_)
  refine wl (stp_off h rfl rfl rfl rfl rfl rfl fun a h => ?_)
  refine wl (stp_off h rfl rfl rfl rfl rfl rfl fun a h => ?_)
  refine wl (stp_off h rfl rfl rfl rfl rfl rfl fun a h => ?_)
  refine wvl h (pckT h rfl rfl rfl) fun a h => ?_
  refine wmv h rfl fun a h => ?_
  refine wl (stp_off h rfl rfl rfl rfl rfl rfl fun a h => ?_)
  refine wl (stp_off h rfl rfl rfl rfl rfl rfl fun a h => ?_)
  refine wl (stp_off h rfl rfl rfl rfl rfl rfl fun a h => ?_)
  refine wl (stp_off h rfl rfl rfl rfl rfl rfl fun a h => ?_)
  refine wvl h (pckT h rfl rfl rfl) fun a h => ?_
  refine wmv h rfl fun a h => ?_
  refine wl (stp_off h rfl rfl rfl rfl rfl rfl fun a h => ?_)
  refine wl (stp_off h rfl rfl rfl rfl rfl rfl fun a h => ?_)
  refine wl (stp_off h rfl rfl rfl rfl rfl rfl fun a h => ?_)
  refine wl (stp_off h rfl rfl rfl rfl rfl rfl fun a h => ?_)
  refine wvl h (pckT h rfl rfl rfl) fun a h => ?_
  refine wn ?_
  refine cnd1 h rfl (fun _ => ?_) (fun e => nomatch e)
  refine rg ?_
  refine wsn h rfl fun a h => ?_
  refine wp_ret ?_
  try simp only [xqs]
  refine rt_1 h rfl (rvT h rfl) ?_
  exact ⟨_, rfl, by rw [engine_ref]; simp only [Bool.not_eq_true', Bool.not_eq_false'] at hb1 hb2 hb3; simp only [hb1, hb2, hb3, Bool.true_and, Bool.false_and, Bool.and_true, Bool.and_false, Bool.or_true, Bool.true_or, Bool.or_false, Bool.false_or, Bool.not_true, Bool.not_false], hp.bel⟩
 refine wl (stp_on h rfl rfl rfl hb3 (vl h (fad h rfl fo32_3) fun a h => ?_))
 refine wl (stp_on h rfl rfl rfl hb3 (vl h (ldo h hp rfl 0 rfl rfl ag29) fun a h => ?_))
 refine wl (stp_on h rfl rfl rfl hb3 (cal h rfl en57 (Train_T _ _ _ (hG.keep hp cl0).n) fun u w5 ⟨e1, e2⟩ a h => ?_))
 subst e1
 have hp := hp.below e2
 refine wl (stp_on h rfl rfl rfl hb3 (vl h (not_ h rfl) fun a h => ?_))
 refine wvl h (pckF h rfl hb3 rfl) fun a h => ?_
 refine wmv h rfl fun a h => ?_
 refine split (t := 28) h rfl (fun hb4 => ?_) (fun hb4 => ?_)
 ·refine wl (stp_off h rfl rfl rfl rfl rfl hb4 fun a h => ?_)
  refine wl (stp_off h rfl rfl rfl rfl rfl hb4 fun a h => ?_)
  refine wl (stp_off h rfl rfl rfl rfl rfl hb4 fun a h => ?_)
  refine wl (stp_off h rfl rfl rfl rfl rfl hb4 fun a h => ?_)
  refine wvl h (pckT h rfl hb4 rfl) fun a h => ?_
  refine wmv h rfl fun a h => ?_
  refine wl (stp_off h rfl rfl rfl rfl rfl rfl fun a h => ?_)
  refine wl (stp_off h rfl rfl rfl rfl rfl rfl fun a h => ?_)
  refine wl (stp_off h rfl rfl rfl rfl rfl rfl fun a h => ?_)
  refine wl (stp_off h rfl rfl rfl rfl rfl rfl fun a h => ?_)
  refine wvl h (pckT h rfl rfl rfl) fun a h => ?_
  refine wmv h rfl fun a h => ?_
  refine wl (stp_off h rfl rfl rfl rfl rfl rfl fun a h => ?_)
  refine wl (stp_off h rfl rfl rfl rfl rfl rfl fun a h => ?_)
  refine wl (stp_off h rfl rfl rfl rfl rfl rfl fun a h => ?_)
  refine wl (stp_off h rfl rfl rfl rfl rfl rfl fun a h => ?_)
  refine wvl h (pckT h rfl rfl rfl) fun a h => ?_
  refine wmv h rfl fun a h => ?_
  refine wl (stp_off h rfl rfl rfl rfl rfl rfl fun a h => ?_)
  refine wl (stp_off h rfl rfl rfl rfl rfl rfl fun a h => ?_)
  refine wl (stp_off h rfl rfl rfl rfl rfl rfl fun a h => ?_)
  refine wl (stp_off h rfl rfl rfl rfl rfl rfl fun a h => ?_)
  refine wvl h (pckT h rfl rfl rfl) fun a h => ?_
  refine wn ?_
  refine cnd1 h rfl (fun _ => ?_) (fun e => nomatch e)
  refine rg ?_
  refine wsn h rfl fun a h => ?_
  refine wp_ret ?_
  try simp only [xqs]
  refine rt_1 h rfl (rvT h rfl) ?_
  exact ⟨_, rfl, by rw [engine_ref]; simp only [Bool.not_eq_true', Bool.not_eq_false'] at hb1 hb2 hb3 hb4; simp only [hb1, hb2, hb3, hb4, Bool.true_and, Bool.false_and, Bool.and_true, Bool.and_false, Bool.or_true, Bool.true_or, Bool.or_false, Bool.false_or, Bool.not_true, Bool.not_false], hp.bel⟩
 refine wl (stp_on h rfl rfl rfl hb4 (vl h (fad h rfl fo32_4) fun a h => ?_))
 refine wl (stp_on h rfl rfl rfl hb4 (vl h (ldo h hp rfl 0 rfl rfl ag30) fun a h => ?_))
 refine wl (stp_on h rfl rfl rfl hb4 (cal h rfl en58 (Feasts_T _ _ _ (hG.keep hp cl0).f) fun u w6 ⟨e1, e2⟩ a h => ?_))
 subst e1
 have hp := hp.below e2
 refine wl (stp_on h rfl rfl rfl hb4 (vl h (not_ h rfl) fun a h => ?_))
 refine wvl h (pckF h rfl hb4 rfl) fun a h => ?_
 refine wmv h rfl fun a h => ?_
 refine split (t := 34) h rfl (fun hb5 => ?_) (fun hb5 => ?_)
 ·refine wl (stp_off h rfl rfl rfl rfl rfl hb5 fun a h => ?_)
  refine wl (stp_off h rfl rfl rfl rfl rfl hb5 fun a h => ?_)
  refine wl (stp_off h rfl rfl rfl rfl rfl hb5 fun a h => ?_)
  refine wl (stp_off h rfl rfl rfl rfl rfl hb5 fun a h => ?_)
  refine wvl h (pckT h rfl hb5 rfl) fun a h => ?_
  refine wmv h rfl fun a h => ?_
  refine wl (stp_off h rfl rfl rfl rfl rfl rfl fun a h => ?_)
  refine wl (stp_off h rfl rfl rfl rfl rfl rfl fun a h => ?_)
  refine wl (stp_off h rfl rfl rfl rfl rfl rfl fun a h => ?_)
  refine wl (stp_off h rfl rfl rfl rfl rfl rfl fun a h => ?_)
  refine wvl h (pckT h rfl rfl rfl) fun a h => ?_
  refine wmv h rfl fun a h => ?_
  refine wl (stp_off h rfl rfl rfl rfl rfl rfl fun a h => ?_)
  refine wl (stp_off h rfl rfl rfl rfl rfl rfl fun a h => ?_)
  refine wl (stp_off h rfl rfl rfl rfl rfl rfl fun a h => ?_)
  refine wl (stp_off h rfl rfl rfl rfl rfl rfl fun a h => ?_)
  refine wvl h (pckT h rfl rfl rfl) fun a h => ?_
  refine wn ?_
  refine cnd1 h rfl (fun _ => ?_) (fun e => nomatch e)
  refine rg ?_
  refine wsn h rfl fun a h => ?_
  refine wp_ret ?_
  try simp only [xqs]
  refine rt_1 h rfl (rvT h rfl) ?_
  exact ⟨_, rfl, by rw [engine_ref]; simp only [Bool.not_eq_true', Bool.not_eq_false'] at hb1 hb2 hb3 hb4 hb5; simp only [hb1, hb2, hb3, hb4, hb5, Bool.true_and, Bool.false_and, Bool.and_true, Bool.and_false, Bool.or_true, Bool.true_or, Bool.or_false, Bool.false_or, Bool.not_true, Bool.not_false], hp.bel⟩
 refine wl (stp_on h rfl rfl rfl hb5 (vl h (fad h rfl fo32_5) fun a h => ?_))
 refine wl (stp_on h rfl rfl rfl hb5 (vl h (ldo h hp rfl 0 rfl rfl ag3) fun a h => ?_))
 refine wl (stp_on h rfl rfl rfl hb5 (cal h rfl en50 (Limit_S _ _) fun u w7 ⟨e1, e2⟩ a h => ?_))
 subst e1
 subst e2
 refine wl (stp_on h rfl rfl rfl hb5 (vl h (not_ h rfl) fun a h => ?_))
 refine wvl h (pckF h rfl hb5 rfl) fun a h => ?_
 refine wmv h rfl fun a h => ?_
 refine split (t := 40) h rfl (fun hb6 => ?_) (fun hb6 => ?_)
 ·refine wl (stp_off h rfl rfl rfl rfl rfl hb6 fun a h => ?_)
  refine wl (stp_off h rfl rfl rfl rfl rfl hb6 fun a h => ?_)
  refine wl (stp_off h rfl rfl rfl rfl rfl hb6 fun a h => ?_)
  refine wl (stp_off h rfl rfl rfl rfl rfl hb6 fun a h => ?_)
  refine wvl h (pckT h rfl hb6 rfl) fun a h => ?_
  refine wmv h rfl fun a h => ?_
  refine wl (stp_off h rfl rfl rfl rfl rfl rfl fun a h => ?_)
  refine wl (stp_off h rfl rfl rfl rfl rfl rfl fun a h => ?_)
  refine wl (stp_off h rfl rfl rfl rfl rfl rfl fun a h => ?_)
  refine wl (stp_off h rfl rfl rfl rfl rfl rfl fun a h => ?_)
  refine wvl h (pckT h rfl rfl rfl) fun a h => ?_
  refine wn ?_
  refine cnd1 h rfl (fun _ => ?_) (fun e => nomatch e)
  refine rg ?_
  refine wsn h rfl fun a h => ?_
  refine wp_ret ?_
  try simp only [xqs]
  refine rt_1 h rfl (rvT h rfl) ?_
  exact ⟨_, rfl, by rw [engine_ref]; simp only [Bool.not_eq_true', Bool.not_eq_false'] at hb1 hb2 hb3 hb4 hb5 hb6; simp only [hb1, hb2, hb3, hb4, hb5, hb6, Bool.true_and, Bool.false_and, Bool.and_true, Bool.and_false, Bool.or_true, Bool.true_or, Bool.or_false, Bool.false_or, Bool.not_true, Bool.not_false], hp.bel⟩
 refine wl (stp_on h rfl rfl rfl hb6 (vl h (fad h rfl fo32_6) fun a h => ?_))
 refine wl (stp_on h rfl rfl rfl hb6 (vl h (ldo h hp rfl 0 rfl rfl ag3) fun a h => ?_))
 refine wl (stp_on h rfl rfl rfl hb6 (cal h rfl en50 (Limit_S _ _) fun u w8 ⟨e1, e2⟩ a h => ?_))
 subst e1
 subst e2
 refine wl (stp_on h rfl rfl rfl hb6 (vl h (not_ h rfl) fun a h => ?_))
 refine wvl h (pckF h rfl hb6 rfl) fun a h => ?_
 refine wmv h rfl fun a h => ?_
 refine split (t := 46) h rfl (fun hb7 => ?_) (fun hb7 => ?_)
 ·refine wl (stp_off h rfl rfl rfl rfl rfl hb7 fun a h => ?_)
  refine wl (stp_off h rfl rfl rfl rfl rfl hb7 fun a h => ?_)
  refine wl (stp_off h rfl rfl rfl rfl rfl hb7 fun a h => ?_)
  refine wl (stp_off h rfl rfl rfl rfl rfl hb7 fun a h => ?_)
  refine wvl h (pckT h rfl hb7 rfl) fun a h => ?_
  refine wn ?_
  refine cnd1 h rfl (fun _ => ?_) (fun e => nomatch e)
  refine rg ?_
  refine wsn h rfl fun a h => ?_
  refine wp_ret ?_
  try simp only [xqs]
  refine rt_1 h rfl (rvT h rfl) ?_
  exact ⟨_, rfl, by rw [engine_ref]; simp only [Bool.not_eq_true', Bool.not_eq_false'] at hb1 hb2 hb3 hb4 hb5 hb6 hb7; simp only [hb1, hb2, hb3, hb4, hb5, hb6, hb7, Bool.true_and, Bool.false_and, Bool.and_true, Bool.and_false, Bool.or_true, Bool.true_or, Bool.or_false, Bool.false_or, Bool.not_true, Bool.not_false], hp.bel⟩
 refine wl (stp_on h rfl rfl rfl hb7 (vl h (fad h rfl fo32_7) fun a h => ?_))
 refine wl (stp_on h rfl rfl rfl hb7 (vl h (ldo h hp rfl 0 rfl rfl ag3) fun a h => ?_))
 refine wl (stp_on h rfl rfl rfl hb7 (cal h rfl en50 (Limit_S _ _) fun u w9 ⟨e1, e2⟩ a h => ?_))
 subst e1
 subst e2
 refine wl (stp_on h rfl rfl rfl hb7 (vl h (not_ h rfl) fun a h => ?_))
 refine wvl h (pckF h rfl hb7 rfl) fun a h => ?_
 refine wn ?_
 refine cnd1 h rfl (fun hb8 => ?_) (fun hb8 => ?_)
 ·refine rg ?_
  refine wsn h rfl fun a h => ?_
  refine wp_ret ?_
  try simp only [xqs]
  refine rt_1 h rfl (rvT h rfl) ?_
  exact ⟨_, rfl, by rw [engine_ref]; simp only [Bool.not_eq_true', Bool.not_eq_false'] at hb1 hb2 hb3 hb4 hb5 hb6 hb7 hb8; simp only [hb1, hb2, hb3, hb4, hb5, hb6, hb7, hb8, Bool.true_and, Bool.false_and, Bool.and_true, Bool.and_false, Bool.or_true, Bool.true_or, Bool.or_false, Bool.false_or, Bool.not_true, Bool.not_false], hp.bel⟩
 refine skp ?_
 refine rg ?_
 refine wvl h (fad h rfl fo32_0) fun a h => ?_
 refine wvl h (ldO (us := [_, _, _, _]) h hp rfl 0 rfl sz28 rfl ag28) fun a h => ?_
 refine wl (cal h rfl en59 (Month_S x e _ (hG.keep hp cl0).sky hsk) fun u w10 ⟨⟨p9, q9, e1⟩, e2⟩ a h => ?_)
 subst e1
 have hp := hp.below e2
 refine wmv h rfl fun a h => ?_
 refine wvl h (ext h rfl rfl) fun a h => ?_
 refine wvl h (ext h rfl rfl) fun a h => ?_
 refine wvl h (ext h rfl rfl) fun a h => ?_
 refine wsg h rfl fun a h => ?_
 refine ws2 h rfl rfl rfl rfl fun a h => ?_
 refine rg ?_
 refine wmv h rfl fun a h => ?_
 refine wsn h rfl fun a h => ?_
 refine wp_ret ?_
 try simp only [xqs]
 refine rt_1 h rfl (rvT h rfl) ?_
 exact ⟨_, rfl, by rw [engine_ref]; simp only [Bool.not_eq_true', Bool.not_eq_false'] at hb1 hb2 hb3 hb4 hb5 hb6 hb7 hb8; simp only [hb1, hb2, hb3, hb4, hb5, hb6, hb7, hb8, Bool.true_and, Bool.false_and, Bool.and_true, Bool.and_false, Bool.or_true, Bool.true_or, Bool.or_false, Bool.false_or, Bool.not_true, Bool.not_false], hp.bel⟩
theorem near_R (n : Int) (w : World) (hn : -8000000000000000 ≤ n ∧ n ≤ 8000000000000000) : Ret Tryz.prog 81 #[.int .i64 n] w fun u w' => u = .int .i64 (signed n) ∧ Below w.heap.size w w' := by
 have hp : Hp c0 w w [] := Hp.start trivial
 refine enter Tryz.func81 rfl (N := 7) rfl rfl fun a h => ?_
 refine rg ?_
 refine wsn h rfl fun a h => ?_
 refine rg ?_
 refine wmv h rfl fun a h => ?_
 refine wvl h (add h rfl rfl (by omega)) fun a h => ?_
 refine wl (cal h rfl en80 (Less_S _ _ (by omega)) fun u w1 ⟨e1, e2⟩ a h => ?_)
 subst e1
 have hp := hp.below e2
 have hm := around_bd (n + 10800)
 refine wvl h (sub h rfl rfl (by omega)) fun a h => ?_
 refine wsn h rfl fun a h => ?_
 refine wp_ret ?_
 try simp only [xqs]
 refine rt_1 h rfl (rvT h rfl) ?_
 exact ⟨_, rfl, rfl, hp.bel⟩
set_option maxHeartbeats 2000000 in
theorem Hands_R (x : EV) (e : Eng) (s2 : SV) (st : List Int) (t : Int) (w : World) (hE0 : RdE w x e s2 st) (ht : 0 ≤ t ∧ t ≤ 10000) : Ret Tryz.prog 54 #[.agg #[x.b.v, .int .i64 e.nnum, .int .i64 e.nden, .int .i64 e.nstart, x.s.v, x.m.v, x.n.v, x.f.v, .int .i64 e.new, .int .i64 e.full, .int .i64 e.wide], s2.v, .int .i64 t] w fun u w' => u = .agg #[.int .i64 (hands e st t).sun, .int .i64 (hands e st t).moon, .int .i64 (hands e st t).node] ∧ Below w.heap.size w w' := by
 have ok := eng_ok hE0.ok
 obtain ⟨hbl, b0, b1, hB0, hB1, e0, e1, v0, v1⟩ := sky2 hE0.g.sky ok.sky
 obtain ⟨c1, c2, -, c4, -⟩ := body_bd v0
 obtain ⟨c5, c6, -, c8, -⟩ := body_bd v1
 obtain ⟨c9, c10, c11, -⟩ := sky_bd ok.sky
 have hfe := ok.feasts
 have hset := isSet_rise hE0.set
 have f0 := period_fr c1 c2
 have f1 := period_fr c5 c6
 have f2 := period_fr c9 c10
 have t1 := ok.sun
 have t2 := ok.moon
 have t3 := ok.node
 have s0 := shown_bd ok.sun (fn := b0.1.den) (fd := b0.1.num) (by omega) e.feasts st t
 have s1 := shown_bd ok.moon (fn := b1.1.den) (fd := b1.1.num) (by omega) e.feasts st t
 have s3 := shown_bd ok.node (fn := e.nden) (fd := e.nnum) (by omega) e.feasts st t
 have hp : Hp c0 w w [] := Hp.start trivial
 refine enter Tryz.func54 rfl (N := 66) rfl rfl fun a h => ?_
 refine rg ?_
 refine wl (box (cs := #[_, _, _, _, _, _, _, _, _, _, _]) h hp rfl rfl fun a w1 g1 hg1 h hp => ?_)
 refine wl (all h hp zc39 fun a w2 g2 hg2 h hp => ?_)
 refine wn ?_
 refine cutN (fun a w' => ∃ ga gb gc : Nat, Has [] 66 a [(1, s2.v), (2, .int .i64 t), (3, .pointer (some ⟨g1, 0, none⟩)), (6, .pointer (some ⟨g2, 0, none⟩)), (7, .pointer (some ⟨ga, 0, none⟩)), (8, .pointer (some ⟨gb, 0, none⟩)), (9, .pointer (some ⟨gc, 0, none⟩))] ∧ Hp c0 w w' [.blk g1 (.cells #[x.b.v, .int .i64 e.nnum, .int .i64 e.nden, .int .i64 e.nstart, x.s.v, x.m.v, x.n.v, x.f.v, .int .i64 e.new, .int .i64 e.full, .int .i64 e.wide] 32 (0, 0)), .blk g2 (.cells #[.int .i64 0, .int .i64 0, .int .i64 0] 39 (0, 0)), .blk ga (.cells #[.int .i64 b0.1.num, .int .i64 b0.1.den, .int .i64 b0.1.start, b0.2.v] 46 (0, 0)), .blk gb (.cells #[.int .i64 b1.1.num, .int .i64 b1.1.den, .int .i64 b1.1.start, b1.2.v] 46 (0, 0)), .blk gc (.cells #[.int .i64 e.nnum, .int .i64 e.nden, .int .i64 e.nstart] 26 (0, 0))]) ?_ ?_
 ·refine rdh1 (n := 19) hp mixed rfl ?_
  have hp := hp.drew
  refine tkq 0 h rfl hp (fun W _ => fad h rfl fo32_0) fun a h => ?_
  refine tkq 1 h rfl hp (fun W _ => fad h rfl fo28_0) fun a h => ?_
  refine tkq 2 h rfl hp (fun W hp => ldo h hp rfl 0 rfl rfl ag22) fun a h => ?_
  refine tkq 3 h rfl hp (fun W hp => iadR (0) h rfl rfl Tryz.underlying22 sz46 (hE0.keep hp cl0).g.sky.b (rfl) (by omega)) fun a h => ?_
  refine tkq 4 h rfl hp (fun W hp => ldE h (hE0.keep hp cl0).g.sky.b hB0 rfl ag46 sz46) fun a h => ?_
  refine tkq 5 h rfl hp (fun W _ => fad h rfl fo32_0) fun a h => ?_
  refine tkq 6 h rfl hp (fun W _ => fad h rfl fo28_0) fun a h => ?_
  refine tkq 7 h rfl hp (fun W hp => ldo h hp rfl 0 rfl rfl ag22) fun a h => ?_
  refine tkq 8 h rfl hp (fun W hp => iadR (1) h rfl rfl Tryz.underlying22 sz46 (hE0.keep hp cl0).g.sky.b (rfl) (by omega)) fun a h => ?_
  refine tkq 9 h rfl hp (fun W hp => ldE h (hE0.keep hp cl0).g.sky.b hB1 rfl ag46 sz46) fun a h => ?_
  refine tkq 10 h rfl hp (fun W _ => fad h rfl fo32_0) fun a h => ?_
  refine tkq 11 h rfl hp (fun W _ => fad h rfl fo28_1) fun a h => ?_
  refine tkq 12 h rfl hp (fun W hp => ldO (us := [_, _, _]) h hp rfl 0 rfl sz26 rfl ag26) fun a h => ?_
  refine three 13 14 15 (by kernel_rfl) rfl rfl rfl ?_ ?_ ?_
  ·refine (all h hp zc46 fun a w4 g3 hg3 h hp => ⟨((hp).pre 2 rfl), ?_⟩)
   refine two 14 15 (by kernel_rfl) rfl rfl ?_ ?_
   ·refine (all h hp zc46 fun a w5 g4 hg4 h hp => ⟨((hp).pre 2 rfl), ?_⟩)
    refine one 15 (by kernel_rfl) rfl (all h hp zc26 fun a w6 g5 hg5 h hp => ⟨((hp).pre 2 rfl), ?_⟩)
    refine one 16 (by kernel_rfl) rfl (sta h hp rfl rfl 2 rfl sz46 rfl rfl fun w7 hp => ⟨((hp).pre 2 rfl), ?_⟩)
    refine one 17 (by kernel_rfl) rfl (sta h hp rfl rfl 3 rfl sz46 rfl rfl fun w8 hp => ⟨((hp).pre 2 rfl), ?_⟩)
    refine one 18 (by kernel_rfl) rfl (sta h hp rfl rfl 4 rfl sz26 rfl rfl fun w9 hp => ⟨((hp).pre 2 rfl), ?_⟩)
    refine dn (by kernel_rfl) ?_
    exact ⟨g3, g4, g5, h.sub ⟨rfl, rfl, rfl, rfl, rfl, rfl, rfl, trivial⟩, hp.pick [0, 1, 2, 3, 4] (by decide) rfl⟩
   refine (all h hp zc26 fun a w10 g6 hg6 h hp => ⟨((hp).pre 2 rfl), ?_⟩)
   refine one 14 (by kernel_rfl) rfl (all h hp zc46 fun a w11 g7 hg7 h hp => ⟨((hp).pre 2 rfl), ?_⟩)
   refine one 16 (by kernel_rfl) rfl (sta h hp rfl rfl 2 rfl sz46 rfl rfl fun w12 hp => ⟨((hp).pre 2 rfl), ?_⟩)
   refine one 17 (by kernel_rfl) rfl (sta h hp rfl rfl 4 rfl sz46 rfl rfl fun w13 hp => ⟨((hp).pre 2 rfl), ?_⟩)
   refine one 18 (by kernel_rfl) rfl (sta h hp rfl rfl 3 rfl sz26 rfl rfl fun w14 hp => ⟨((hp).pre 2 rfl), ?_⟩)
   refine dn (by kernel_rfl) ?_
   exact ⟨g3, g7, g6, h.sub ⟨rfl, rfl, rfl, rfl, rfl, rfl, rfl, trivial⟩, hp.pick [0, 1, 2, 4, 3] (by decide) rfl⟩
  ·refine (all h hp zc46 fun a w15 g8 hg8 h hp => ⟨((hp).pre 2 rfl), ?_⟩)
   refine two 13 15 (by kernel_rfl) rfl rfl ?_ ?_
   ·refine (all h hp zc46 fun a w16 g9 hg9 h hp => ⟨((hp).pre 2 rfl), ?_⟩)
    refine one 15 (by kernel_rfl) rfl (all h hp zc26 fun a w17 g10 hg10 h hp => ⟨((hp).pre 2 rfl), ?_⟩)
    refine one 16 (by kernel_rfl) rfl (sta h hp rfl rfl 3 rfl sz46 rfl rfl fun w18 hp => ⟨((hp).pre 2 rfl), ?_⟩)
    refine one 17 (by kernel_rfl) rfl (sta h hp rfl rfl 2 rfl sz46 rfl rfl fun w19 hp => ⟨((hp).pre 2 rfl), ?_⟩)
    refine one 18 (by kernel_rfl) rfl (sta h hp rfl rfl 4 rfl sz26 rfl rfl fun w20 hp => ⟨((hp).pre 2 rfl), ?_⟩)
    refine dn (by kernel_rfl) ?_
    exact ⟨g9, g8, g10, h.sub ⟨rfl, rfl, rfl, rfl, rfl, rfl, rfl, trivial⟩, hp.pick [0, 1, 3, 2, 4] (by decide) rfl⟩
   refine (all h hp zc26 fun a w21 g11 hg11 h hp => ⟨((hp).pre 2 rfl), ?_⟩)
   refine one 13 (by kernel_rfl) rfl (all h hp zc46 fun a w22 g12 hg12 h hp => ⟨((hp).pre 2 rfl), ?_⟩)
   refine one 16 (by kernel_rfl) rfl (sta h hp rfl rfl 4 rfl sz46 rfl rfl fun w23 hp => ⟨((hp).pre 2 rfl), ?_⟩)
   refine one 17 (by kernel_rfl) rfl (sta h hp rfl rfl 2 rfl sz46 rfl rfl fun w24 hp => ⟨((hp).pre 2 rfl), ?_⟩)
   refine one 18 (by kernel_rfl) rfl (sta h hp rfl rfl 3 rfl sz26 rfl rfl fun w25 hp => ⟨((hp).pre 2 rfl), ?_⟩)
   refine dn (by kernel_rfl) ?_
   exact ⟨g12, g8, g11, h.sub ⟨rfl, rfl, rfl, rfl, rfl, rfl, rfl, trivial⟩, hp.pick [0, 1, 4, 2, 3] (by decide) rfl⟩
  refine (all h hp zc26 fun a w26 g13 hg13 h hp => ⟨((hp).pre 2 rfl), ?_⟩)
  refine two 13 14 (by kernel_rfl) rfl rfl ?_ ?_
  ·refine (all h hp zc46 fun a w27 g14 hg14 h hp => ⟨((hp).pre 2 rfl), ?_⟩)
   refine one 14 (by kernel_rfl) rfl (all h hp zc46 fun a w28 g15 hg15 h hp => ⟨((hp).pre 2 rfl), ?_⟩)
   refine one 16 (by kernel_rfl) rfl (sta h hp rfl rfl 3 rfl sz46 rfl rfl fun w29 hp => ⟨((hp).pre 2 rfl), ?_⟩)
   refine one 17 (by kernel_rfl) rfl (sta h hp rfl rfl 4 rfl sz46 rfl rfl fun w30 hp => ⟨((hp).pre 2 rfl), ?_⟩)
   refine one 18 (by kernel_rfl) rfl (sta h hp rfl rfl 2 rfl sz26 rfl rfl fun w31 hp => ⟨((hp).pre 2 rfl), ?_⟩)
   refine dn (by kernel_rfl) ?_
   exact ⟨g14, g15, g13, h.sub ⟨rfl, rfl, rfl, rfl, rfl, rfl, rfl, trivial⟩, hp.pick [0, 1, 3, 4, 2] (by decide) rfl⟩
  refine (all h hp zc46 fun a w32 g16 hg16 h hp => ⟨((hp).pre 2 rfl), ?_⟩)
  refine one 13 (by kernel_rfl) rfl (all h hp zc46 fun a w33 g17 hg17 h hp => ⟨((hp).pre 2 rfl), ?_⟩)
  refine one 16 (by kernel_rfl) rfl (sta h hp rfl rfl 4 rfl sz46 rfl rfl fun w34 hp => ⟨((hp).pre 2 rfl), ?_⟩)
  refine one 17 (by kernel_rfl) rfl (sta h hp rfl rfl 3 rfl sz46 rfl rfl fun w35 hp => ⟨((hp).pre 2 rfl), ?_⟩)
  refine one 18 (by kernel_rfl) rfl (sta h hp rfl rfl 2 rfl sz26 rfl rfl fun w36 hp => ⟨((hp).pre 2 rfl), ?_⟩)
  refine dn (by kernel_rfl) ?_
  exact ⟨g17, g16, g13, h.sub ⟨rfl, rfl, rfl, rfl, rfl, rfl, rfl, trivial⟩, hp.pick [0, 1, 4, 3, 2] (by decide) rfl⟩
 rintro a w3 ⟨ga, gb, gc, h, hp⟩
 refine rdh (n := 44) ((hp).pick [0, 2, 3, 4] (by decide) rfl) mixed rfl ?_
 have hp := hp.drew
 refine tkq 0 h rfl ((hp).pick [0, 2, 3, 4] (by decide) rfl) (fun W _ => fad h rfl fo46_1) fun a h => ?_
 refine tkq 1 h rfl ((hp).pick [0, 2, 3, 4] (by decide) rfl) (fun W hp => ldo h hp rfl 1 rfl rfl ag3) fun a h => ?_
 refine tkq 2 h rfl ((hp).pick [0, 2, 3, 4] (by decide) rfl) (fun W _ => fad h rfl fo32_1) fun a h => ?_
 refine tkq 3 h rfl ((hp).pick [0, 2, 3, 4] (by decide) rfl) (fun W hp => ldo h hp rfl 0 rfl rfl ag29) fun a h => ?_
 refine tkq 4 h rfl ((hp).pick [0, 2, 3, 4] (by decide) rfl) (fun W _ => fad h rfl fo46_0) fun a h => ?_
 refine tkq 5 h rfl ((hp).pick [0, 2, 3, 4] (by decide) rfl) (fun W hp => ldO (us := [_, _]) h hp rfl 1 rfl sz24 rfl ag24) fun a h => ?_
 refine tkq 7 h rfl ((hp).pick [0, 2, 3, 4] (by decide) rfl) (fun W _ => fad h rfl fo32_4) fun a h => ?_
 refine tkq 8 h rfl ((hp).pick [0, 2, 3, 4] (by decide) rfl) (fun W hp => ldo h hp rfl 0 rfl rfl ag30) fun a h => ?_
 refine tkm 9 h rfl ((hp).pick [0, 2, 3, 4] (by decide) rfl) rfl fun a h => ?_
 refine tkm 10 h rfl ((hp).pick [0, 2, 3, 4] (by decide) rfl) rfl fun a h => ?_
 refine tkq 14 h rfl ((hp).pick [0, 2, 3, 4] (by decide) rfl) (fun W _ => fad h rfl fo46_1) fun a h => ?_
 refine tkq 15 h rfl ((hp).pick [0, 2, 3, 4] (by decide) rfl) (fun W hp => ldo h hp rfl 2 rfl rfl ag3) fun a h => ?_
 refine tkq 16 h rfl ((hp).pick [0, 2, 3, 4] (by decide) rfl) (fun W _ => fad h rfl fo32_2) fun a h => ?_
 refine tkq 17 h rfl ((hp).pick [0, 2, 3, 4] (by decide) rfl) (fun W hp => ldo h hp rfl 0 rfl rfl ag29) fun a h => ?_
 refine tkq 18 h rfl ((hp).pick [0, 2, 3, 4] (by decide) rfl) (fun W _ => fad h rfl fo46_0) fun a h => ?_
 refine tkq 19 h rfl ((hp).pick [0, 2, 3, 4] (by decide) rfl) (fun W hp => ldO (us := [_, _]) h hp rfl 2 rfl sz24 rfl ag24) fun a h => ?_
 refine tkq 21 h rfl ((hp).pick [0, 2, 3, 4] (by decide) rfl) (fun W _ => fad h rfl fo32_4) fun a h => ?_
 refine tkq 22 h rfl ((hp).pick [0, 2, 3, 4] (by decide) rfl) (fun W hp => ldo h hp rfl 0 rfl rfl ag30) fun a h => ?_
 refine tkm 23 h rfl ((hp).pick [0, 2, 3, 4] (by decide) rfl) rfl fun a h => ?_
 refine tkm 24 h rfl ((hp).pick [0, 2, 3, 4] (by decide) rfl) rfl fun a h => ?_
 refine tkq 28 h rfl ((hp).pick [0, 2, 3, 4] (by decide) rfl) (fun W _ => fad h rfl fo26_1) fun a h => ?_
 refine tkq 29 h rfl ((hp).pick [0, 2, 3, 4] (by decide) rfl) (fun W hp => ldo h hp rfl 3 rfl rfl ag3) fun a h => ?_
 refine tkq 30 h rfl ((hp).pick [0, 2, 3, 4] (by decide) rfl) (fun W _ => fad h rfl fo32_3) fun a h => ?_
 refine tkq 31 h rfl ((hp).pick [0, 2, 3, 4] (by decide) rfl) (fun W hp => ldo h hp rfl 0 rfl rfl ag29) fun a h => ?_
 refine tkq 32 h rfl ((hp).pick [0, 2, 3, 4] (by decide) rfl) (fun W _ => fad h rfl fo26_0) fun a h => ?_
 refine tkq 33 h rfl ((hp).pick [0, 2, 3, 4] (by decide) rfl) (fun W hp => ldO (us := [_, _]) h hp rfl 3 rfl sz24 rfl ag24) fun a h => ?_
 refine tkq 35 h rfl ((hp).pick [0, 2, 3, 4] (by decide) rfl) (fun W _ => fad h rfl fo32_4) fun a h => ?_
 refine tkq 36 h rfl ((hp).pick [0, 2, 3, 4] (by decide) rfl) (fun W hp => ldo h hp rfl 0 rfl rfl ag30) fun a h => ?_
 refine tkm 37 h rfl ((hp).pick [0, 2, 3, 4] (by decide) rfl) rfl fun a h => ?_
 refine tkm 38 h rfl ((hp).pick [0, 2, 3, 4] (by decide) rfl) rfl fun a h => ?_
 refine one 6 (by kernel_rfl) rfl (cal h rfl en22 (Target_R _ _ _) fun u w37 ⟨e1, e2⟩ a h => ⟨((hp.below e2).pick [0, 2, 3, 4] (by decide) rfl), ?_⟩)
 subst e1
 have hp := hp.below e2
 refine one 11 (by kernel_rfl) rfl (cal h rfl en109 (Shown_T _ _ _ _ _ _ _ _ _ _ (hE0.keep hp cl0).g.s (hE0.keep hp cl0).g.f (hE0.keep hp cl0).s (by assumption) (by assumption) (by assumption) f0 ht) fun u w38 ⟨e1, e2⟩ a h => ⟨((hp.below e2).pick [0, 2, 3, 4] (by decide) rfl), ?_⟩)
 subst e1
 have hp := hp.below e2
 refine tkq 12 h rfl ((hp).pick [0, 2, 3, 4] (by decide) rfl) (fun W _ => add h rfl rfl (by omega)) fun a h => ?_
 refine one 13 (by kernel_rfl) rfl (cal h rfl en80 (Less_S _ _ (by omega)) fun u w39 ⟨e1, e2⟩ a h => ⟨((hp.below e2).pick [0, 2, 3, 4] (by decide) rfl), ?_⟩)
 subst e1
 have hp := hp.below e2
 refine one 20 (by kernel_rfl) rfl (cal h rfl en22 (Target_R _ _ _) fun u w40 ⟨e1, e2⟩ a h => ⟨((hp.below e2).pick [0, 2, 3, 4] (by decide) rfl), ?_⟩)
 subst e1
 have hp := hp.below e2
 refine one 25 (by kernel_rfl) rfl (cal h rfl en109 (Shown_T _ _ _ _ _ _ _ _ _ _ (hE0.keep hp cl0).g.m (hE0.keep hp cl0).g.f (hE0.keep hp cl0).s (by assumption) (by assumption) (by assumption) f1 ht) fun u w41 ⟨e1, e2⟩ a h => ⟨((hp.below e2).pick [0, 2, 3, 4] (by decide) rfl), ?_⟩)
 subst e1
 have hp := hp.below e2
 refine tkq 26 h rfl ((hp).pick [0, 2, 3, 4] (by decide) rfl) (fun W _ => add h rfl rfl (by omega)) fun a h => ?_
 refine one 27 (by kernel_rfl) rfl (cal h rfl en80 (Less_S _ _ (by omega)) fun u w42 ⟨e1, e2⟩ a h => ⟨((hp.below e2).pick [0, 2, 3, 4] (by decide) rfl), ?_⟩)
 subst e1
 have hp := hp.below e2
 refine one 34 (by kernel_rfl) rfl (cal h rfl en22 (Target_R _ _ _) fun u w43 ⟨e1, e2⟩ a h => ⟨((hp.below e2).pick [0, 2, 3, 4] (by decide) rfl), ?_⟩)
 subst e1
 have hp := hp.below e2
 refine one 39 (by kernel_rfl) rfl (cal h rfl en109 (Shown_T _ _ _ _ _ _ _ _ _ _ (hE0.keep hp cl0).g.n (hE0.keep hp cl0).g.f (hE0.keep hp cl0).s (by assumption) (by assumption) (by assumption) f2 ht) fun u w44 ⟨e1, e2⟩ a h => ⟨((hp.below e2).pick [0, 2, 3, 4] (by decide) rfl), ?_⟩)
 subst e1
 have hp := hp.below e2
 refine tkq 40 h rfl ((hp).pick [0, 2, 3, 4] (by decide) rfl) (fun W _ => sub h rfl rfl (by omega)) fun a h => ?_
 refine one 41 (by kernel_rfl) rfl (cal h rfl en80 (Less_S _ _ (by omega)) fun u w45 ⟨e1, e2⟩ a h => ⟨((hp.below e2).pick [0, 2, 3, 4] (by decide) rfl), ?_⟩)
 subst e1
 have hp := hp.below e2
 refine tkq 42 h rfl ((hp).pick [0, 2, 3, 4] (by decide) rfl) (fun W _ => bld h rfl (bl39_0_1_2 _ _ _ _)) fun a h => ?_
 refine one 43 (by kernel_rfl) rfl (sta h hp rfl rfl 1 rfl sz39 rfl rfl fun w46 hp => ⟨((hp).pick [0, 2, 3, 4] (by decide) rfl), ?_⟩)
 refine dn (by kernel_rfl) ?_
 refine wp_ret ?_
 try simp only [xqs]
 refine rt_1 h rfl (rvA h hp rfl 1 rfl ag39 sz39) ?_
 exact ⟨_, rfl, by rw [hands, e0, e1], hp.bel⟩
theorem Crossed_R (ha hb : Hand) (full : Bool) (w : World) (h1 : (0 ≤ ha.sun ∧ ha.sun ≤ 21599) ∧ (0 ≤ ha.moon ∧ ha.moon ≤ 21599)) (h2 : (0 ≤ hb.sun ∧ hb.sun ≤ 21599) ∧ (0 ≤ hb.moon ∧ hb.moon ≤ 21599)) : Ret Tryz.prog 33 #[.agg #[.int .i64 (ha).sun, .int .i64 (ha).moon, .int .i64 (ha).node], .agg #[.int .i64 (hb).sun, .int .i64 (hb).moon, .int .i64 (hb).node], .bool full] w fun u w' => u = .bool (crossed ha hb full) ∧ Below w.heap.size w w' := by
 have hp : Hp c0 w w [] := Hp.start trivial
 refine enter Tryz.func33 rfl (N := 40) rfl rfl fun a h => ?_
 refine rg ?_
 refine wl (box (cs := #[_, _, _]) h hp rfl rfl fun a w1 g1 hg1 h hp => ?_)
 refine wl (box (cs := #[_, _, _]) h hp rfl rfl fun a w2 g2 hg2 h hp => ?_)
 refine wsn h rfl fun a h => ?_
 refine rg ?_
 refine wsn h rfl fun a h => ?_
 refine wp_seq ?_
 refine rg ?_
 refine wmv h rfl fun a h => ?_
 refine wn ?_
 refine cnd1 h rfl (fun hb1 => ?_) (fun hb1 => ?_)
 ·have hhf : halfIf full = 10800 := by rw [hb1]; rfl
  have q0 := around_bd (ha.moon - ha.sun - 10800)
  have q1 := around_bd (hb.moon - hb.sun - 10800)
  have q2 := signed_bd (around (hb.moon - hb.sun - 10800) - around (ha.moon - ha.sun - 10800))
  refine rg1 ?_
  refine wsn h rfl fun a h => ?_
  refine rdh (n := 18) hp mixed rfl ?_
  have hp := hp.drew
  refine tkq 0 h rfl hp (fun W _ => fad h rfl fo39_1) fun a h => ?_
  refine tkq 1 h rfl hp (fun W hp => ldo h hp rfl 0 rfl rfl ag3) fun a h => ?_
  refine tkq 2 h rfl hp (fun W _ => fad h rfl fo39_0) fun a h => ?_
  refine tkq 3 h rfl hp (fun W hp => ldo h hp rfl 0 rfl rfl ag3) fun a h => ?_
  refine tkq 4 h rfl hp (fun W _ => sub h rfl rfl (by omega)) fun a h => ?_
  refine tkm 5 h rfl hp rfl fun a h => ?_
  refine tkq 6 h rfl hp (fun W _ => sub h rfl rfl (by omega)) fun a h => ?_
  refine tkq 8 h rfl hp (fun W _ => fad h rfl fo39_1) fun a h => ?_
  refine tkq 9 h rfl hp (fun W hp => ldo h hp rfl 1 rfl rfl ag3) fun a h => ?_
  refine tkq 10 h rfl hp (fun W _ => fad h rfl fo39_0) fun a h => ?_
  refine tkq 11 h rfl hp (fun W hp => ldo h hp rfl 1 rfl rfl ag3) fun a h => ?_
  refine tkq 12 h rfl hp (fun W _ => sub h rfl rfl (by omega)) fun a h => ?_
  refine tkm 13 h rfl hp rfl fun a h => ?_
  refine tkq 14 h rfl hp (fun W _ => sub h rfl rfl (by omega)) fun a h => ?_
  refine one 7 (by kernel_rfl) rfl (cal h rfl en80 (Less_S _ _ (by omega)) fun u w3 ⟨e1, e2⟩ a h => ⟨hp.below e2, ?_⟩)
  subst e1
  have hp := hp.below e2
  refine one 15 (by kernel_rfl) rfl (cal h rfl en80 (Less_S _ _ (by omega)) fun u w4 ⟨e1, e2⟩ a h => ⟨hp.below e2, ?_⟩)
  subst e1
  have hp := hp.below e2
  refine tka 16 h rfl hp rfl fun a h => ?_
  refine tka 17 h rfl hp rfl fun a h => ?_
  refine dn (by kernel_rfl) ?_
  refine rg ?_
  refine wm2 h rfl rfl rfl rfl fun a h => ?_
  refine wvl h (sub h rfl rfl (by omega)) fun a h => ?_
  refine wl (cal h rfl en81 (near_R _ _ (by omega)) fun u w5 ⟨e1, e2⟩ a h => ?_)
  subst e1
  have hp := hp.below e2
  refine wsn h rfl fun a h => ?_
  refine rg ?_
  refine wmv h rfl fun a h => ?_
  refine wvl h (gtr h rfl rfl) fun a h => ?_
  refine wmv h rfl fun a h => ?_
  refine split (t := 34) h rfl (fun hb2 => ?_) (fun hb2 => ?_)
  ·refine wl (stp_on h rfl rfl rfl hb2 (vl h (mov h rfl) fun a h => ?_))
   refine wl (stp_on h rfl rfl rfl hb2 (vl h (mov h rfl) fun a h => ?_))
   refine wl (stp_on h rfl rfl rfl hb2 (vl h (add h rfl rfl (by omega)) fun a h => ?_))
   refine wl (stp_on h rfl rfl rfl hb2 (vl h (geq h rfl rfl) fun a h => ?_))
   refine wvl h (pckT h rfl hb2 rfl) fun a h => ?_
   refine wsn h rfl fun a h => ?_
   refine wp_ret ?_
   try simp only [xqs]
   refine rt_1 h rfl (rvT h rfl) ?_
   exact ⟨_, rfl, by rw [← crossed_ref, hhf]; simp only [hb1, hb2, Bool.true_and, Bool.false_and, Bool.and_true, Bool.and_false, Bool.or_true, Bool.true_or, Bool.or_false, Bool.false_or, Bool.not_true, Bool.not_false], hp.bel⟩
  refine wl (stp_off h rfl rfl rfl rfl rfl hb2 fun a h => ?_)
  refine wl (stp_off h rfl rfl rfl rfl rfl hb2 fun a h => ?_)
  refine wl (stp_off h rfl rfl rfl rfl rfl hb2 fun a h => ?_)
  refine wl (stp_off h rfl rfl rfl rfl rfl hb2 fun a h => ?_)
  refine wvl h (pckF h rfl hb2 rfl) fun a h => ?_
  refine wsn h rfl fun a h => ?_
  refine wp_ret ?_
  try simp only [xqs]
  refine rt_1 h rfl (rvT h rfl) ?_
  exact ⟨_, rfl, by rw [← crossed_ref, hhf]; simp only [hb1, hb2, Bool.true_and, Bool.false_and, Bool.and_true, Bool.and_false, Bool.or_true, Bool.true_or, Bool.or_false, Bool.false_or, Bool.not_true, Bool.not_false], hp.bel⟩
 have hhf : halfIf full = 0 := by rw [hb1]; rfl
 have q0 := around_bd (ha.moon - ha.sun - 0)
 have q1 := around_bd (hb.moon - hb.sun - 0)
 have q2 := signed_bd (around (hb.moon - hb.sun - 0) - around (ha.moon - ha.sun - 0))
 refine skp ?_
 refine rdh (n := 18) hp mixed rfl ?_
 have hp := hp.drew
 refine tkq 0 h rfl hp (fun W _ => fad h rfl fo39_1) fun a h => ?_
 refine tkq 1 h rfl hp (fun W hp => ldo h hp rfl 0 rfl rfl ag3) fun a h => ?_
 refine tkq 2 h rfl hp (fun W _ => fad h rfl fo39_0) fun a h => ?_
 refine tkq 3 h rfl hp (fun W hp => ldo h hp rfl 0 rfl rfl ag3) fun a h => ?_
 refine tkq 4 h rfl hp (fun W _ => sub h rfl rfl (by omega)) fun a h => ?_
 refine tkm 5 h rfl hp rfl fun a h => ?_
 refine tkq 6 h rfl hp (fun W _ => sub h rfl rfl (by omega)) fun a h => ?_
 refine tkq 8 h rfl hp (fun W _ => fad h rfl fo39_1) fun a h => ?_
 refine tkq 9 h rfl hp (fun W hp => ldo h hp rfl 1 rfl rfl ag3) fun a h => ?_
 refine tkq 10 h rfl hp (fun W _ => fad h rfl fo39_0) fun a h => ?_
 refine tkq 11 h rfl hp (fun W hp => ldo h hp rfl 1 rfl rfl ag3) fun a h => ?_
 refine tkq 12 h rfl hp (fun W _ => sub h rfl rfl (by omega)) fun a h => ?_
 refine tkm 13 h rfl hp rfl fun a h => ?_
 refine tkq 14 h rfl hp (fun W _ => sub h rfl rfl (by omega)) fun a h => ?_
 refine one 7 (by kernel_rfl) rfl (cal h rfl en80 (Less_S _ _ (by omega)) fun u w6 ⟨e1, e2⟩ a h => ⟨hp.below e2, ?_⟩)
 subst e1
 have hp := hp.below e2
 refine one 15 (by kernel_rfl) rfl (cal h rfl en80 (Less_S _ _ (by omega)) fun u w7 ⟨e1, e2⟩ a h => ⟨hp.below e2, ?_⟩)
 subst e1
 have hp := hp.below e2
 refine tka 16 h rfl hp rfl fun a h => ?_
 refine tka 17 h rfl hp rfl fun a h => ?_
 refine dn (by kernel_rfl) ?_
 refine rg ?_
 refine wm2 h rfl rfl rfl rfl fun a h => ?_
 refine wvl h (sub h rfl rfl (by omega)) fun a h => ?_
 refine wl (cal h rfl en81 (near_R _ _ (by omega)) fun u w8 ⟨e1, e2⟩ a h => ?_)
 subst e1
 have hp := hp.below e2
 refine wsn h rfl fun a h => ?_
 refine rg ?_
 refine wmv h rfl fun a h => ?_
 refine wvl h (gtr h rfl rfl) fun a h => ?_
 refine wmv h rfl fun a h => ?_
 refine split (t := 34) h rfl (fun hb3 => ?_) (fun hb3 => ?_)
 ·refine wl (stp_on h rfl rfl rfl hb3 (vl h (mov h rfl) fun a h => ?_))
  refine wl (stp_on h rfl rfl rfl hb3 (vl h (mov h rfl) fun a h => ?_))
  refine wl (stp_on h rfl rfl rfl hb3 (vl h (add h rfl rfl (by omega)) fun a h => ?_))
  refine wl (stp_on h rfl rfl rfl hb3 (vl h (geq h rfl rfl) fun a h => ?_))
  refine wvl h (pckT h rfl hb3 rfl) fun a h => ?_
  refine wsn h rfl fun a h => ?_
  refine wp_ret ?_
  try simp only [xqs]
  refine rt_1 h rfl (rvT h rfl) ?_
  exact ⟨_, rfl, by rw [← crossed_ref, hhf]; simp only [hb1, hb3, Bool.true_and, Bool.false_and, Bool.and_true, Bool.and_false, Bool.or_true, Bool.true_or, Bool.or_false, Bool.false_or, Bool.not_true, Bool.not_false], hp.bel⟩
 refine wl (stp_off h rfl rfl rfl rfl rfl hb3 fun a h => ?_)
 refine wl (stp_off h rfl rfl rfl rfl rfl hb3 fun a h => ?_)
 refine wl (stp_off h rfl rfl rfl rfl rfl hb3 fun a h => ?_)
 refine wl (stp_off h rfl rfl rfl rfl rfl hb3 fun a h => ?_)
 refine wvl h (pckF h rfl hb3 rfl) fun a h => ?_
 refine wsn h rfl fun a h => ?_
 refine wp_ret ?_
 try simp only [xqs]
 refine rt_1 h rfl (rvT h rfl) ?_
 exact ⟨_, rfl, by rw [← crossed_ref, hhf]; simp only [hb1, hb3, Bool.true_and, Bool.false_and, Bool.and_true, Bool.and_false, Bool.or_true, Bool.true_or, Bool.or_false, Bool.false_or, Bool.not_true, Bool.not_false], hp.bel⟩
theorem Far_R (ha : Hand) (w : World) (h1 : (0 ≤ ha.moon ∧ ha.moon ≤ 21599) ∧ (0 ≤ ha.node ∧ ha.node ≤ 21599)) : Ret Tryz.prog 31 #[.agg #[.int .i64 (ha).sun, .int .i64 (ha).moon, .int .i64 (ha).node]] w fun u w' => u = .int .i64 (handFar ha) ∧ Below w.heap.size w w' := by
 have hp : Hp c0 w w [] := Hp.start trivial
 refine enter Tryz.func31 rfl (N := 15) rfl rfl fun a h => ?_
 refine rg ?_
 refine wl (box (cs := #[_, _, _]) h hp rfl rfl fun a w1 g1 hg1 h hp => ?_)
 refine wsn h rfl fun a h => ?_
 refine rg ?_
 refine wvl h (fad h rfl fo39_1) fun a h => ?_
 refine wvl h (ldo h hp rfl 0 rfl rfl ag3) fun a h => ?_
 refine wvl h (fad h rfl fo39_2) fun a h => ?_
 refine wvl h (ldo h hp rfl 0 rfl rfl ag3) fun a h => ?_
 refine wvl h (sub h rfl rfl (by omega)) fun a h => ?_
 refine wl (cal h rfl en80 (Less_S _ _ (by omega)) fun u w2 ⟨e1, e2⟩ a h => ?_)
 subst e1
 have hp := hp.below e2
 have q0 := around_bd (ha.moon - ha.node)
 refine wvl h (rem0 h rfl rfl (by omega) (by omega)) fun a h => ?_
 refine wsn h rfl fun a h => ?_
 refine rg ?_
 refine wm2 h rfl rfl rfl rfl fun a h => ?_
 refine wvl h (sub h rfl rfl (by omega)) fun a h => ?_
 refine wvl h (min_ h rfl rfl) fun a h => ?_
 refine wsn h rfl fun a h => ?_
 refine wp_ret ?_
 try simp only [xqs]
 refine rt_1 h rfl (rvT h rfl) ?_
 exact ⟨_, rfl, by rw [far_ref2], hp.bel⟩
theorem limit_R (x : EV) (e : Eng) (full : Bool) (w : World) (h1 : 0 ≤ e.new ∧ e.new ≤ 5400) (h2 : 0 ≤ e.full ∧ e.full ≤ 5400) (h3 : 0 ≤ e.wide ∧ e.wide ≤ 5400) : Ret Tryz.prog 78 #[.agg #[x.b.v, .int .i64 e.nnum, .int .i64 e.nden, .int .i64 e.nstart, x.s.v, x.m.v, x.n.v, x.f.v, .int .i64 e.new, .int .i64 e.full, .int .i64 e.wide], .bool full] w fun u w' => u = .int .i64 (skyLimit e full + e.wide) ∧ Below w.heap.size w w' := by
 have hp : Hp c0 w w [] := Hp.start trivial
 refine enter Tryz.func78 rfl (N := 16) rfl rfl fun a h => ?_
 refine rg ?_
 refine wl (box (cs := #[_, _, _, _, _, _, _, _, _, _, _]) h hp rfl rfl fun a w1 g1 hg1 h hp => ?_)
 refine wsn h rfl fun a h => ?_
 refine wp_seq ?_
 refine rg ?_
 refine wmv h rfl fun a h => ?_
 refine wn ?_
 refine cnd1 h rfl (fun hb1 => ?_) (fun hb1 => ?_)
 ·refine rg ?_
  refine wvl h (fad h rfl fo32_6) fun a h => ?_
  refine wvl h (ldo h hp rfl 0 rfl rfl ag3) fun a h => ?_
  refine wvl h (fad h rfl fo32_7) fun a h => ?_
  refine wvl h (ldo h hp rfl 0 rfl rfl ag3) fun a h => ?_
  refine wvl h (add h rfl rfl (by omega)) fun a h => ?_
  refine wsn h rfl fun a h => ?_
  refine wp_ret ?_
  try simp only [xqs]
  refine rt_1 h rfl (rvT h rfl) ?_
  exact ⟨_, rfl, by rw [hb1]; rfl, hp.bel⟩
 refine skp ?_
 refine rg ?_
 refine wvl h (fad h rfl fo32_5) fun a h => ?_
 refine wvl h (ldo h hp rfl 0 rfl rfl ag3) fun a h => ?_
 refine wvl h (fad h rfl fo32_7) fun a h => ?_
 refine wvl h (ldo h hp rfl 0 rfl rfl ag3) fun a h => ?_
 refine wvl h (add h rfl rfl (by omega)) fun a h => ?_
 refine wsn h rfl fun a h => ?_
 refine wp_ret ?_
 try simp only [xqs]
 refine rt_1 h rfl (rvT h rfl) ?_
 exact ⟨_, rfl, by rw [hb1]; rfl, hp.bel⟩
set_option maxHeartbeats 2000000 in
theorem Foretells_R (x : EV) (e : Eng) (s2 : SV) (st : List Int) (d1 d2 : Int) (w : World) (hE0 : RdE w x e s2 st) (hab : 1 ≤ d1 ∧ d2 ≤ 10000 ∧ d2 - d1 ≤ 1000 ∧ d1 ≤ 10000) : Ret Tryz.prog 28 #[.agg #[x.b.v, .int .i64 e.nnum, .int .i64 e.nden, .int .i64 e.nstart, x.s.v, x.m.v, x.n.v, x.f.v, .int .i64 e.new, .int .i64 e.full, .int .i64 e.wide], s2.v, .int .i64 d1, .int .i64 d2] w fun u w' => (∃ s : SV, u = s.v ∧ Fr w w' encM 3 s.v (tellAll e st d1 d2)) ∧ Below w.heap.size w w' := by
 have ok := eng_ok hE0.ok
 have hp : Hp c0 w w [] := Hp.start trivial
 refine enter Tryz.func28 rfl (N := 58) rfl rfl fun a h => ?_
 refine rg ?_
 refine wl (box (cs := #[_, _, _, _, _, _, _, _, _, _, _]) h hp rfl rfl fun a w1 g1 hg1 h hp => ?_)
 refine wsn h rfl fun a h => ?_
 refine rg ?_
 refine wsn h rfl fun a h => ?_
 refine rg ?_
 refine wvl h (ldO (us := [_, _, _, _, _, _, _, _, _, _, _]) h hp rfl 0 rfl sz32 rfl ag32) fun a h => ?_
 refine wm2 h rfl rfl rfl rfl fun a h => ?_
 refine wvl h (sub h rfl rfl (by omega)) fun a h => ?_
 refine wl (cal h rfl en54 (Hands_R x e s2 st _ _ (hE0.keep hp cl0) (by omega)) fun u w2 ⟨e1, e2⟩ a h => ?_)
 subst e1
 have hp := hp.below e2
 refine wl (all h hp zc39 fun a w3 g2 hg2 h hp => ?_)
 refine wl (sta h hp rfl rfl 1 rfl sz39 rfl rfl fun w4 hp => ?_)
 refine wn ?_
 refine wp_seq ?_
 refine rg ?_
 refine wmv h rfl fun a h => ?_
 refine wsn h rfl fun a h => ?_
 have hp := hp.nilB 59 3
 refine lp1 h [1, 3, 4, 8, 10] (fun n f w' => ∃ (k : Nat) (s1 : SV), n = (d2 + 1 - (d1 + k)).toNat ∧ (d1 + k ≤ d2 + 1 ∨ k = 0) ∧ f = [(11, .int .i64 (d1 + k)), (9, s1.v)] ∧ Hp c0 w w' [.blk g1 (.cells #[x.b.v, .int .i64 e.nnum, .int .i64 e.nden, .int .i64 e.nstart, x.s.v, x.m.v, x.n.v, x.f.v, .int .i64 e.new, .int .i64 e.full, .int .i64 e.wide] 32 (0, 0)), .blk g2 (.cells #[.int .i64 (hands e st (d1 + k - 1)).sun, .int .i64 (hands e st (d1 + k - 1)).moon, .int .i64 (hands e st (d1 + k - 1)).node] 39 (0, 0)), .buf 59 3 s1.v (part e st d1 k 0).length ((part e st d1 k 0).flatMap encM)]) ((d2 + 1 - d1).toNat) [(11, .int .i64 d1), (9, .slice none 0 0)] ⟨rfl, rfl, rfl, rfl, rfl, rfl, rfl, trivial⟩ ⟨0, ⟨none, 0, 0⟩, by simp, .inr rfl, by simp; rfl, by rw [show d1 + ((0 : Nat) : Int) - 1 = d1 - 1 by omega]; exact hp⟩ ?_
 rintro n f a w5 ⟨k, s1, rfl, hk, rfl, hp⟩ h
 have hbd := hands_bd e st (d1 + k)
 have hba := hands_bd e st (d1 + k - 1)
 refine wp_seq ?_
 refine rg ?_
 refine wm2 h rfl rfl rfl rfl fun a h => ?_
 refine wvl h (leq h rfl rfl) fun a h => ?_
 refine wn ?_
 refine cnd1 h rfl (fun hb1 => ?_) (fun hb1 => ?_)
 ·have hlt := of_decide_eq_true hb1
  have hpl0 := (part_pre (e := e) (st := st) (j := 0) hlt (by omega)).length_le
  have hpl1 := (part_pre (e := e) (st := st) (j := 1) hlt (by omega)).length_le
  have htl9 := tell_len e st (a := d1) (b := d2) (n := 1000) (by omega)
  refine skp ?_
  refine blk ?_
  refine rg ?_
  refine wvl h (ldO (us := [_, _, _, _, _, _, _, _, _, _, _]) h hp rfl 0 rfl sz32 rfl ag32) fun a h => ?_
  refine wm2 h rfl rfl rfl rfl fun a h => ?_
  refine wl (cal h rfl en54 (Hands_R x e s2 st _ _ (hE0.keep hp cl0) (by omega)) fun u w6 ⟨e1, e2⟩ a h => ?_)
  subst e1
  have hp := hp.below e2
  refine wl (all h hp zc39 fun a w7 g3 hg3 h hp => ?_)
  refine wl (sta h hp rfl rfl 3 rfl sz39 rfl rfl fun w8 hp => ?_)
  refine wn ?_
  refine wp_seq ?_
  refine rg ?_
  refine wsn h rfl fun a h => ?_
  refine lp1 h [1, 3, 4, 8, 10, 11, 12, 21, 22, 23, 26, 27, 28, 29] (fun n f w' => ∃ (j : Nat) (s4 : SV), j ≤ 2 ∧ n = 2 - j ∧ f = [(13, .int .i64 j), (9, s4.v)] ∧ Hp c0 w w' [.blk g1 (.cells #[x.b.v, .int .i64 e.nnum, .int .i64 e.nden, .int .i64 e.nstart, x.s.v, x.m.v, x.n.v, x.f.v, .int .i64 e.new, .int .i64 e.full, .int .i64 e.wide] 32 (0, 0)), .blk g2 (.cells #[.int .i64 (hands e st (d1 + k - 1)).sun, .int .i64 (hands e st (d1 + k - 1)).moon, .int .i64 (hands e st (d1 + k - 1)).node] 39 (0, 0)), .buf 59 3 s4.v (part e st d1 k j).length ((part e st d1 k j).flatMap encM), .blk g3 (.cells #[.int .i64 (hands e st (d1 + k)).sun, .int .i64 (hands e st (d1 + k)).moon, .int .i64 (hands e st (d1 + k)).node] 39 (0, 0))]) (2) [(13, .int .i64 ((0 : Nat) : Int)), (9, s1.v)] ⟨rfl, rfl, rfl, rfl, rfl, rfl, rfl, rfl, rfl, rfl, rfl, rfl, rfl, rfl, rfl, rfl, trivial⟩ ⟨0, s1, by omega, rfl, rfl, hp⟩ ?_
  rintro n f a w9 ⟨j, s4, hj, rfl, rfl, hp⟩ h
  refine wp_seq ?_
  refine rg ?_
  refine wmv h rfl fun a h => ?_
  refine wvl h (lss h rfl rfl) fun a h => ?_
  refine wn ?_
  refine cnd1 h rfl (fun hb2 => ?_) (fun hb2 => ?_)
  ·have hlt2 : j < 2 := by have := of_decide_eq_true hb2; omega
   refine skp ?_
   refine blk ?_
   refine rg ?_
   rcases (by omega : j = 0 ∨ j = 1) with rfl | rfl
   ·refine wmv h rfl fun a h => ?_
    refine wvl h (eqi h rfl rfl) fun a h => ?_
    refine wsn h rfl fun a h => ?_
    refine rdh (n := 12) hp mixed rfl ?_
    have hp := hp.drew
    refine tkq 0 h rfl hp (fun W hp => ldO (us := [_, _, _]) h hp rfl 1 rfl sz39 rfl ag39) fun a h => ?_
    refine tkq 1 h rfl hp (fun W hp => ldO (us := [_, _, _]) h hp rfl 3 rfl sz39 rfl ag39) fun a h => ?_
    refine tkm 2 h rfl hp rfl fun a h => ?_
    refine one 3 (by kernel_rfl) rfl (cal h rfl en33 (Crossed_R _ _ _ _ (by omega) (by omega)) fun u w10 ⟨e1, e2⟩ a h => ⟨hp.below e2, ?_⟩)
    subst e1
    have hp := hp.below e2
    refine tkm 4 h rfl hp rfl fun a h => ?_
    refine split (t := 40) h rfl (fun hb3 => ?_) (fun hb3 => ?_)
    ·have hhas : crossed (hands e st (d1 + k - 1)) (hands e st (d1 + k)) false = true := hb3
     refine tk_on 5 h rfl (by kernel_rfl) (fun _ _ _ q => q) hp rfl rfl rfl rfl rfl hb3 (fun W hp => ldO (us := [_, _, _]) h hp rfl 3 rfl sz39 rfl ag39) fun a h => ?_
     refine tk_on 7 h rfl (by kernel_rfl) (fun _ _ _ q => q) hp rfl rfl rfl rfl rfl hb3 (fun W hp => ldO (us := [_, _, _, _, _, _, _, _, _, _, _]) h hp rfl 0 rfl sz32 rfl ag32) fun a h => ?_
     refine tk_on 8 h rfl (by kernel_rfl) (fun _ _ _ q => q) hp rfl rfl rfl rfl rfl hb3 (fun W _ => mov h rfl) fun a h => ?_
     refine one 6 (by kernel_rfl) rfl (stp_on h rfl rfl rfl hb3 (cal h rfl en31 (Far_R _ _ (by omega)) fun u w11 ⟨e1, e2⟩ a h => ⟨hp.below e2, ?_⟩))
     subst e1
     have hp := hp.below e2
     refine one 9 (by kernel_rfl) rfl (stp_on h rfl rfl rfl hb3 (cal h rfl en78 (limit_R x e _ _ ok.new ok.full ok.wide) fun u w12 ⟨e1, e2⟩ a h => ⟨hp.below e2, ?_⟩))
     subst e1
     have hp := hp.below e2
     refine tk_on 10 h rfl (by kernel_rfl) (fun _ _ _ q => q) hp rfl rfl rfl rfl rfl hb3 (fun W _ => leq h rfl rfl) fun a h => ?_
     refine tkq 11 h rfl hp (fun W _ => pckT h rfl hb3 rfl) fun a h => ?_
     refine dn (by kernel_rfl) ?_
     refine cnd1 h rfl (fun hb4 => ?_) (fun hb4 => ?_)
     ·have hnear : handFar (hands e st (d1 + k)) ≤ skyLimit e false + e.wide := of_decide_eq_true hb4
      refine rg1 ?_
      refine wm3 h rfl rfl rfl rfl rfl rfl fun a h => ?_
      refine wvl h (ldO (us := [_, _, _]) h hp rfl 3 rfl sz39 rfl ag39) fun a h => ?_
      refine wl (cal h rfl en31 (Far_R _ _ (by omega)) fun u w13 ⟨e1, e2⟩ a h => ?_)
      subst e1
      have hp := hp.below e2
      refine wvl h (bld h rfl (bl59_0_1_2 _ _ _ _)) fun a h => ?_
      refine wl (bsl h hp rfl (bs50_1_0 _ _ _) fun a w14 g4 hg4 h hp => ?_)
      refine wl (app1 2 h hp rfl rfl rfl ap50 4 rfl rfl rfl (by omega) (by omega) fun a w15 v h hp => ?_)
      refine wsg h rfl fun a h => ?_
      refine wn' ?_
      try simp only [xqs, ↓reduceIte, Nat.reduceEqDiff]
      refine rg1 ?_
      refine wmv h rfl fun a h => ?_
      refine wvl h (add h rfl rfl (by omega)) fun a h => ?_
      refine wsn h rfl fun a h => ?_
      exact ⟨_, _, (by omega), ⟨1, _, by omega, rfl, rfl, hp.pre 4 (by rw [part_s0 (tell_yes hhas hnear)]; simp [encM] <;> omega)⟩, h.sub ⟨rfl, rfl, rfl, rfl, rfl, rfl, rfl, rfl, rfl, rfl, rfl, rfl, rfl, rfl, rfl, rfl, trivial⟩⟩
     have hnear : ¬ handFar (hands e st (d1 + k)) ≤ skyLimit e false + e.wide := of_decide_eq_false hb4
     refine wp_skip ?_
     refine rg1 ?_
     refine wmv h rfl fun a h => ?_
     refine wvl h (add h rfl rfl (by omega)) fun a h => ?_
     refine wsn h rfl fun a h => ?_
     exact ⟨_, _, (by omega), ⟨1, _, by omega, rfl, rfl, hp.pre 4 (by rw [part_s0 (tell_no2 hnear), List.append_nil]; rfl)⟩, h.sub ⟨rfl, rfl, rfl, rfl, rfl, rfl, rfl, rfl, rfl, rfl, rfl, rfl, rfl, rfl, rfl, rfl, trivial⟩⟩
    have hno : crossed (hands e st (d1 + k - 1)) (hands e st (d1 + k)) false = false := hb3
    refine tkG 5 h rfl hp rfl rfl rfl hb3 fun a h => ?_
    refine tkG 6 h rfl hp rfl rfl rfl hb3 fun a h => ?_
    refine tkG 7 h rfl hp rfl rfl rfl hb3 fun a h => ?_
    refine tkG 8 h rfl hp rfl rfl rfl hb3 fun a h => ?_
    refine tkG 9 h rfl hp rfl rfl rfl hb3 fun a h => ?_
    refine tkG 10 h rfl hp rfl rfl rfl hb3 fun a h => ?_
    refine tkq 11 h rfl hp (fun W _ => pckF h rfl hb3 rfl) fun a h => ?_
    refine dn (by kernel_rfl) ?_
    refine cnd1 h rfl (fun e => nomatch e) (fun _ => ?_)
    refine wp_skip ?_
    refine rg1 ?_
    refine wmv h rfl fun a h => ?_
    refine wvl h (add h rfl rfl (by omega)) fun a h => ?_
    refine wsn h rfl fun a h => ?_
    exact ⟨_, _, (by omega), ⟨1, _, by omega, rfl, rfl, hp.pre 4 (by rw [part_s0 (tell_no1 hno), List.append_nil]; rfl)⟩, h.sub ⟨rfl, rfl, rfl, rfl, rfl, rfl, rfl, rfl, rfl, rfl, rfl, rfl, rfl, rfl, rfl, rfl, trivial⟩⟩
   refine wmv h rfl fun a h => ?_
   refine wvl h (eqi h rfl rfl) fun a h => ?_
   refine wsn h rfl fun a h => ?_
   refine rdh (n := 12) hp mixed rfl ?_
   have hp := hp.drew
   refine tkq 0 h rfl hp (fun W hp => ldO (us := [_, _, _]) h hp rfl 1 rfl sz39 rfl ag39) fun a h => ?_
   refine tkq 1 h rfl hp (fun W hp => ldO (us := [_, _, _]) h hp rfl 3 rfl sz39 rfl ag39) fun a h => ?_
   refine tkm 2 h rfl hp rfl fun a h => ?_
   refine one 3 (by kernel_rfl) rfl (cal h rfl en33 (Crossed_R _ _ _ _ (by omega) (by omega)) fun u w16 ⟨e1, e2⟩ a h => ⟨hp.below e2, ?_⟩)
   subst e1
   have hp := hp.below e2
   refine tkm 4 h rfl hp rfl fun a h => ?_
   refine split (t := 40) h rfl (fun hb5 => ?_) (fun hb5 => ?_)
   ·have hhas : crossed (hands e st (d1 + k - 1)) (hands e st (d1 + k)) true = true := hb5
    refine tk_on 5 h rfl (by kernel_rfl) (fun _ _ _ q => q) hp rfl rfl rfl rfl rfl hb5 (fun W hp => ldO (us := [_, _, _]) h hp rfl 3 rfl sz39 rfl ag39) fun a h => ?_
    refine tk_on 7 h rfl (by kernel_rfl) (fun _ _ _ q => q) hp rfl rfl rfl rfl rfl hb5 (fun W hp => ldO (us := [_, _, _, _, _, _, _, _, _, _, _]) h hp rfl 0 rfl sz32 rfl ag32) fun a h => ?_
    refine tk_on 8 h rfl (by kernel_rfl) (fun _ _ _ q => q) hp rfl rfl rfl rfl rfl hb5 (fun W _ => mov h rfl) fun a h => ?_
    refine one 6 (by kernel_rfl) rfl (stp_on h rfl rfl rfl hb5 (cal h rfl en31 (Far_R _ _ (by omega)) fun u w17 ⟨e1, e2⟩ a h => ⟨hp.below e2, ?_⟩))
    subst e1
    have hp := hp.below e2
    refine one 9 (by kernel_rfl) rfl (stp_on h rfl rfl rfl hb5 (cal h rfl en78 (limit_R x e _ _ ok.new ok.full ok.wide) fun u w18 ⟨e1, e2⟩ a h => ⟨hp.below e2, ?_⟩))
    subst e1
    have hp := hp.below e2
    refine tk_on 10 h rfl (by kernel_rfl) (fun _ _ _ q => q) hp rfl rfl rfl rfl rfl hb5 (fun W _ => leq h rfl rfl) fun a h => ?_
    refine tkq 11 h rfl hp (fun W _ => pckT h rfl hb5 rfl) fun a h => ?_
    refine dn (by kernel_rfl) ?_
    refine cnd1 h rfl (fun hb6 => ?_) (fun hb6 => ?_)
    ·have hnear : handFar (hands e st (d1 + k)) ≤ skyLimit e true + e.wide := of_decide_eq_true hb6
     refine rg1 ?_
     refine wm3 h rfl rfl rfl rfl rfl rfl fun a h => ?_
     refine wvl h (ldO (us := [_, _, _]) h hp rfl 3 rfl sz39 rfl ag39) fun a h => ?_
     refine wl (cal h rfl en31 (Far_R _ _ (by omega)) fun u w19 ⟨e1, e2⟩ a h => ?_)
     subst e1
     have hp := hp.below e2
     refine wvl h (bld h rfl (bl59_0_1_2 _ _ _ _)) fun a h => ?_
     refine wl (bsl h hp rfl (bs50_1_0 _ _ _) fun a w20 g5 hg5 h hp => ?_)
     refine wl (app1 2 h hp rfl rfl rfl ap50 4 rfl rfl rfl (by omega) (by omega) fun a w21 v h hp => ?_)
     refine wsg h rfl fun a h => ?_
     refine wn' ?_
     try simp only [xqs, ↓reduceIte, Nat.reduceEqDiff]
     refine rg1 ?_
     refine wmv h rfl fun a h => ?_
     refine wvl h (add h rfl rfl (by omega)) fun a h => ?_
     refine wsn h rfl fun a h => ?_
     exact ⟨_, _, (by omega), ⟨2, _, by omega, rfl, rfl, hp.pre 4 (by rw [part_s1 (tell_yes hhas hnear)]; simp [encM] <;> omega)⟩, h.sub ⟨rfl, rfl, rfl, rfl, rfl, rfl, rfl, rfl, rfl, rfl, rfl, rfl, rfl, rfl, rfl, rfl, trivial⟩⟩
    have hnear : ¬ handFar (hands e st (d1 + k)) ≤ skyLimit e true + e.wide := of_decide_eq_false hb6
    refine wp_skip ?_
    refine rg1 ?_
    refine wmv h rfl fun a h => ?_
    refine wvl h (add h rfl rfl (by omega)) fun a h => ?_
    refine wsn h rfl fun a h => ?_
    exact ⟨_, _, (by omega), ⟨2, _, by omega, rfl, rfl, hp.pre 4 (by rw [part_s1 (tell_no2 hnear), List.append_nil]; rfl)⟩, h.sub ⟨rfl, rfl, rfl, rfl, rfl, rfl, rfl, rfl, rfl, rfl, rfl, rfl, rfl, rfl, rfl, rfl, trivial⟩⟩
   have hno : crossed (hands e st (d1 + k - 1)) (hands e st (d1 + k)) true = false := hb5
   refine tkG 5 h rfl hp rfl rfl rfl hb5 fun a h => ?_
   refine tkG 6 h rfl hp rfl rfl rfl hb5 fun a h => ?_
   refine tkG 7 h rfl hp rfl rfl rfl hb5 fun a h => ?_
   refine tkG 8 h rfl hp rfl rfl rfl hb5 fun a h => ?_
   refine tkG 9 h rfl hp rfl rfl rfl hb5 fun a h => ?_
   refine tkG 10 h rfl hp rfl rfl rfl hb5 fun a h => ?_
   refine tkq 11 h rfl hp (fun W _ => pckF h rfl hb5 rfl) fun a h => ?_
   refine dn (by kernel_rfl) ?_
   refine cnd1 h rfl (fun e => nomatch e) (fun _ => ?_)
   refine wp_skip ?_
   refine rg1 ?_
   refine wmv h rfl fun a h => ?_
   refine wvl h (add h rfl rfl (by omega)) fun a h => ?_
   refine wsn h rfl fun a h => ?_
   exact ⟨_, _, (by omega), ⟨2, _, by omega, rfl, rfl, hp.pre 4 (by rw [part_s1 (tell_no1 hno), List.append_nil]; rfl)⟩, h.sub ⟨rfl, rfl, rfl, rfl, rfl, rfl, rfl, rfl, rfl, rfl, rfl, rfl, rfl, rfl, rfl, rfl, trivial⟩⟩
  have hend : j = 2 := by have := of_decide_eq_false hb2; omega
  subst hend
  refine wp_exit ?_
  try simp only [xqs, ↓reduceIte, Nat.reduceEqDiff]
  refine rg1 ?_
  refine wvl h (ldO (us := [_, _, _]) h hp rfl 3 rfl sz39 rfl ag39) fun a h => ?_
  refine wl (sta h hp rfl rfl 1 rfl sz39 rfl rfl fun w22 hp => ?_)
  refine wn' ?_
  try simp only [xqs, ↓reduceIte, Nat.reduceEqDiff]
  refine rg1 ?_
  refine wmv h rfl fun a h => ?_
  refine wvl h (add h rfl rfl (by omega)) fun a h => ?_
  refine wsn h rfl fun a h => ?_
  exact ⟨_, _, (by omega), ⟨k + 1, _, rfl, by omega, congrArg (fun z => [(11, Value.int .i64 z), (9, _)]) (by push_cast; omega : d1 + (k : Int) + 1 = d1 + ((k + 1 : Nat) : Int)), by rw [show d1 + ((k + 1 : Nat) : Int) - 1 = d1 + k by push_cast; omega, part_0, ← part_2]; exact hp.pre 3 rfl⟩, h.sub ⟨rfl, rfl, rfl, rfl, rfl, rfl, rfl, trivial⟩⟩
 have hge := of_decide_eq_false hb1
 rw [part_end hge hk] at hp
 refine wp_exit ?_
 try simp only [xqs, ↓reduceIte, Nat.reduceEqDiff]
 refine rg ?_
 refine wmv h rfl fun a h => ?_
 refine wsn h rfl fun a h => ?_
 refine wp_ret ?_
 try simp only [xqs]
 refine rt_1 h rfl (rvT h rfl) ?_
 exact ⟨_, rfl, ⟨s1, rfl, hp.frB (i := 2) rfl rfl rfl (fun _ _ => rfl)⟩, hp.bel⟩
end Go.Proofs.Ec
