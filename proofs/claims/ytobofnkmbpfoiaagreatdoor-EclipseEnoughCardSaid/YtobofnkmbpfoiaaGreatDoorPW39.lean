import Derived.Test.YtobofnkmbpfoiaaGreatDoorProg
import Derived.Test.YtobofnkmbpfoiaaGreatDoorPFa
import Derived.Test.YtobofnkmbpfoiaaGreatDoorPQb
import Derived.Test.YtobofnkmbpfoiaaGreatDoorPW38
import Derived.Test.YtobofnkmbpfoiaaGreatDoorPQc
import Derived.Test.YtobofnkmbpfoiaaGreatDoorPQa
set_option linter.unusedVariables false
set_option linter.unusedSimpArgs false
set_option maxRecDepth 4000
namespace Go.Proofs.Ec
open Go.RowKit Go.Proofs.Sx
open Ecl
theorem en15_W39 : EnT Tryz.prog 15 := ento Tryz.func15
theorem en20_W39 : EnT Tryz.prog 20 := ento Tryz.func20
theorem en16_W39 : EnT Tryz.prog 16 := ento Tryz.func16
theorem en17_W39 : EnT Tryz.prog 17 := ento Tryz.func17
theorem en26_W39 : EnT Tryz.prog 26 := ento Tryz.func26
theorem en37_W39 : EnT Tryz.prog 37 := ento Tryz.func37
theorem en51_W39 : EnT Tryz.prog 51 := ento Tryz.func51
theorem neb {P : Program} {ds : List Deferred} {N : Nat} {a : Act} {l : AL} {w : World} {x y : Operand} {dst : Option Nat} {t1 t2 ty : Nat} {pos : String} {af : Array Edge} {gd : Option (Nat × Bool)} {b1 b2 : Bool} (h : Has ds N a l) (hx : ev l x = some (.bool b1)) (hy : ev l y = some (.bool b2)) (ht : P.underlying t1 = some .bool) : (execOp a.eval ⟨dst, .binOp .neq t1 x y t2, ty, pos, af, gd⟩).run P w = .ok (.value (.bool (!(b1 == b2)))) w :=
 run2 h hx hy (fun ρ e1 e2 => by simp only [execOp, e1, e2]; simp [go_sem, ht])
theorem better_len {a b : List Int} (h : better a b = false) : b.length ≤ a.length := by
 unfold better at h
 split at h
 ·cases h
 ·omega
theorem cmp_at : ∀ {a b : List Int} {k : Nat} {y z : Int}, a.take k = b.take k → a[k]? = some z → b[k]? = some y → z < y → cmpL a b < 0
 | [], _, k, y, z, _, ha, _, _ => by simp at ha
 | _ :: _, [], k, y, z, _, _, hb, _ => by simp at hb
 | p :: a, q :: b, 0, y, z, _, ha, hb, hlt => by
  simp at ha hb
  subst ha hb
  unfold cmpL
  rw [if_pos hlt]
  decide
 | p :: a, q :: b, k + 1, y, z, ht, ha, hb, hlt => by
  simp only [List.take_succ_cons, List.cons.injEq] at ht
  obtain ⟨rfl, ht⟩ := ht
  unfold cmpL
  rw [if_neg (by omega), if_neg (by omega)]
  exact cmp_at ht (by simpa using ha) (by simpa using hb) hlt
theorem better_at {a b : List Int} {k : Nat} {y z : Int} (hl : a.length = b.length) (ht : a.take k = b.take k) (hz : a[k]? = some z) (hy : b[k]? = some y) (hb : better a b = false) : y ≤ z := by
 rcases (by omega : y ≤ z ∨ z < y) with q | q
 ·exact q
 ·have := cmp_at ht hz hy q
  unfold better at hb
  rw [if_neg (by omega), if_neg (by omega), decide_eq_false_iff_not] at hb
  exact absurd this hb
theorem take_eq {a b : List Int} {k : Nat} {y z : Int} (ht : a.take k = b.take k) (hz : a[k]? = some z) (hy : b[k]? = some y) (he : z = y) : a.take (k + 1) = b.take (k + 1) := by
 rw [take_snoc hz, take_snoc hy, ht, he]
set_option maxHeartbeats 4000000 in
theorem EclipseEnough_L (x : EV) (e : Eng) (s2 : SV) (st : List Int) (d1 d2 lt wd : Int) (w : World) (hG : RdG w x e) (hS2 : Rd w encI 1 s2.v st) (hGl : Glb w) : Ret Tryz.prog 11 #[.agg #[x.b.v, .int .i64 e.nnum, .int .i64 e.nden, .int .i64 e.nstart, x.s.v, x.m.v, x.n.v, x.f.v, .int .i64 e.new, .int .i64 e.full, .int .i64 e.wide], s2.v, .int .i64 d1, .int .i64 d2, .int .i64 lt, .int .i64 wd] w fun u w' => u = .bool true ∧ Below w.heap.size w w' := by
 have hp : Hp c0 w w [] := Hp.start trivial
 refine enter Tryz.func11 rfl (N := 215) rfl rfl fun a h => ?_
 refine rg ?_
 refine wl (box (cs := #[_, _, _, _, _, _, _, _, _, _, _]) h hp rfl rfl fun a w1 g1 hg1 h hp => ?_)
 refine wsg h rfl fun a h => ?_
 refine wn ?_
 refine wp_seq ?_
 refine rg ?_
 refine wvl h (ldO (us := [_, _, _, _, _, _, _, _, _, _, _]) h hp rfl 0 rfl sz32 rfl ag32) fun a h => ?_
 refine wmv h rfl fun a h => ?_
 refine wl (cal h rfl en15_W39 (short_L x e s2 st _ (hG.keep hp cl0) (hS2.keep (by decide) hp cl0)) fun u w2 ⟨⟨bsh, e1⟩, e2⟩ a h => ?_)
 subst e1
 have hp := hp.below e2
 refine wvl h (not_ h rfl) fun a h => ?_
 refine wmv h rfl fun a h => ?_
 refine split (t := 28) h rfl (fun hb1 => ?_) (fun hb1 => ?_)
 ·refine wl (stp_off h rfl rfl rfl rfl rfl hb1 fun a h => ?_)
  refine wl (stp_off h rfl rfl rfl rfl rfl hb1 fun a h => ?_)
  refine wl (stp_off h rfl rfl rfl rfl rfl hb1 fun a h => ?_)
  refine wvl h (pckT h rfl hb1 rfl) fun a h => ?_
  refine wmv h rfl fun a h => ?_
  refine wl (stp_off h rfl rfl rfl rfl rfl rfl fun a h => ?_)
  refine wl (stp_off h rfl rfl rfl rfl rfl rfl fun a h => ?_)
  refine wl (stp_off h rfl rfl rfl rfl rfl rfl fun a h => ?_)
  refine wl (stp_off h rfl rfl rfl rfl rfl rfl fun a h => ?_)
  refine wl (stp_off h rfl rfl rfl rfl rfl rfl fun a h => ?_)
  refine wvl h (pckT h rfl rfl rfl) fun a h => ?_
  refine wmv h rfl fun a h => ?_
  refine wl (stp_off h rfl rfl rfl rfl rfl rfl fun a h => ?_)
  refine wl (stp_off h rfl rfl rfl rfl rfl rfl fun a h => ?_)
  refine wl (stp_off h rfl rfl rfl rfl rfl rfl fun a h => ?_)
  refine wl (stp_off h rfl rfl rfl rfl rfl rfl fun a h => ?_)
  refine wvl h (pckT h rfl rfl rfl) fun a h => ?_
  refine wmv h rfl fun a h => ?_
  refine wl (stp_off h rfl rfl rfl rfl rfl rfl fun a h => ?_)
  refine wl (stp_off h rfl rfl rfl rfl rfl rfl fun a h => ?_)
  refine wl (stp_off h rfl rfl rfl rfl rfl rfl fun a h => ?_)
  refine wvl h (pckT h rfl rfl rfl) fun a h => ?_
  refine wmv h rfl fun a h => ?_
  refine wl (stp_off h rfl rfl rfl rfl rfl rfl fun a h => ?_)
  refine wl (stp_off h rfl rfl rfl rfl rfl rfl fun a h => ?_)
  refine wl (stp_off h rfl rfl rfl rfl rfl rfl fun a h => ?_)
  refine wvl h (pckT h rfl rfl rfl) fun a h => ?_
  refine wn ?_
  refine cnd1 h rfl (fun _ => ?_) (fun e => nomatch e)
  refine rg ?_
  refine wl (cal h rfl en20_W39 (known_L _ (hGl.keep hp)) fun u w3 ⟨e1, e2⟩ a h => ?_)
  subst e1
  have hp := hp.below e2
  refine wsg h rfl fun a h => ?_
  refine wn ?_
  refine wp_ret ?_
  try simp only [xqs, ↓reduceIte, Nat.reduceEqDiff]
  refine rt_1 h rfl (rvT h rfl) ?_
  exact ⟨_, rfl, rfl, hp.bel⟩
 ·have hn0 := hb1
  refine wl (stp_on h rfl rfl rfl hb1 (vl h (ldO (us := [_, _, _, _, _, _, _, _, _, _, _]) h hp rfl 0 rfl sz32 rfl ag32) fun a h => ?_))
  refine wl (stp_on h rfl rfl rfl hb1 (cal h rfl en16_W39 (Engine_R x e _ (by first | exact hG.keep hp cl0 | exact (hE0.keep hp cl0).g)) fun u w4 ⟨e1, e2⟩ a h => ?_))
  subst e1
  have hp := hp.below e2
  refine wl (stp_on h rfl rfl rfl hb1 (vl h (not_ h rfl) fun a h => ?_))
  refine wvl h (pckF h rfl hb1 rfl) fun a h => ?_
  refine wmv h rfl fun a h => ?_
  refine split (t := 33) h rfl (fun hb2 => ?_) (fun hb2 => ?_)
  ·refine wl (stp_off h rfl rfl rfl rfl rfl hb2 fun a h => ?_)
   refine wl (stp_off h rfl rfl rfl rfl rfl hb2 fun a h => ?_)
   refine wl (stp_off h rfl rfl rfl rfl rfl hb2 fun a h => ?_)
   refine wl (stp_off h rfl rfl rfl rfl rfl hb2 fun a h => ?_)
   refine wl (stp_off h rfl rfl rfl rfl rfl hb2 fun a h => ?_)
   refine wvl h (pckT h rfl hb2 rfl) fun a h => ?_
   refine wmv h rfl fun a h => ?_
   refine wl (stp_off h rfl rfl rfl rfl rfl rfl fun a h => ?_)
   refine wl (stp_off h rfl rfl rfl rfl rfl rfl fun a h => ?_)
   refine wl (stp_off h rfl rfl rfl rfl rfl rfl fun a h => ?_)
   refine wl (stp_off h rfl rfl rfl rfl rfl rfl fun a h => ?_)
   refine wvl h (pckT h rfl rfl rfl) fun a h => ?_
   refine wmv h rfl fun a h => ?_
   refine wl (stp_off h rfl rfl rfl rfl rfl rfl fun a h => ?_)
   refine wl (stp_off h rfl rfl rfl rfl rfl rfl fun a h => ?_)
   refine wl (stp_off h rfl rfl rfl rfl rfl rfl fun a h => ?_)
   refine wvl h (pckT h rfl rfl rfl) fun a h => ?_
   refine wmv h rfl fun a h => ?_
   refine wl (stp_off h rfl rfl rfl rfl rfl rfl fun a h => ?_)
   refine wl (stp_off h rfl rfl rfl rfl rfl rfl fun a h => ?_)
   refine wl (stp_off h rfl rfl rfl rfl rfl rfl fun a h => ?_)
   refine wvl h (pckT h rfl rfl rfl) fun a h => ?_
   refine wn ?_
   refine cnd1 h rfl (fun _ => ?_) (fun e => nomatch e)
   refine rg ?_
   refine wl (cal h rfl en20_W39 (known_L _ (hGl.keep hp)) fun u w5 ⟨e1, e2⟩ a h => ?_)
   subst e1
   have hp := hp.below e2
   refine wsg h rfl fun a h => ?_
   refine wn ?_
   refine wp_ret ?_
   try simp only [xqs, ↓reduceIte, Nat.reduceEqDiff]
   refine rt_1 h rfl (rvT h rfl) ?_
   exact ⟨_, rfl, rfl, hp.bel⟩
  ·have hn1 := hb2
   refine wl (stp_on h rfl rfl rfl hb2 (vl h (fad h rfl fo32_4) fun a h => ?_))
   refine wl (stp_on h rfl rfl rfl hb2 (vl h (ldo h hp rfl 0 rfl rfl ag30) fun a h => ?_))
   refine wl (stp_on h rfl rfl rfl hb2 (vl h (mov h rfl) fun a h => ?_))
   refine wl (stp_on h rfl rfl rfl hb2 (cal h rfl en17_W39 (Set_T _ _ _ _ _ (hS2.keep (by decide) hp cl0) (hG.keep hp cl0).f) fun u w6 ⟨e1, e2⟩ a h => ?_))
   subst e1
   have hp := hp.below e2
   refine wl (stp_on h rfl rfl rfl hb2 (vl h (not_ h rfl) fun a h => ?_))
   refine wvl h (pckF h rfl hb2 rfl) fun a h => ?_
   refine wmv h rfl fun a h => ?_
   refine split (t := 40) h rfl (fun hb3 => ?_) (fun hb3 => ?_)
   ·refine wl (stp_off h rfl rfl rfl rfl rfl hb3 fun a h => ?_)
    refine wl (stp_off h rfl rfl rfl rfl rfl hb3 fun a h => ?_)
    refine wl (stp_off h rfl rfl rfl rfl rfl hb3 fun a h => ?_)
    refine wl (stp_off h rfl rfl rfl rfl rfl hb3 fun a h => ?_)
    refine wvl h (pckT h rfl hb3 rfl) fun a h => ?_
    refine wmv h rfl fun a h => ?_
    refine wl (stp_off h rfl rfl rfl rfl rfl rfl fun a h => ?_)
    refine wl (stp_off h rfl rfl rfl rfl rfl rfl fun a h => ?_)
    refine wl (stp_off h rfl rfl rfl rfl rfl rfl fun a h => ?_)
    refine wvl h (pckT h rfl rfl rfl) fun a h => ?_
    refine wmv h rfl fun a h => ?_
    refine wl (stp_off h rfl rfl rfl rfl rfl rfl fun a h => ?_)
    refine wl (stp_off h rfl rfl rfl rfl rfl rfl fun a h => ?_)
    refine wl (stp_off h rfl rfl rfl rfl rfl rfl fun a h => ?_)
    refine wvl h (pckT h rfl rfl rfl) fun a h => ?_
    refine wn ?_
    refine cnd1 h rfl (fun _ => ?_) (fun e => nomatch e)
    refine rg ?_
    refine wl (cal h rfl en20_W39 (known_L _ (hGl.keep hp)) fun u w7 ⟨e1, e2⟩ a h => ?_)
    subst e1
    have hp := hp.below e2
    refine wsg h rfl fun a h => ?_
    refine wn ?_
    refine wp_ret ?_
    try simp only [xqs, ↓reduceIte, Nat.reduceEqDiff]
    refine rt_1 h rfl (rvT h rfl) ?_
    exact ⟨_, rfl, rfl, hp.bel⟩
   ·have hn2 := hb3
    refine wl (stp_on h rfl rfl rfl hb3 (vl h (mov h rfl) fun a h => ?_))
    refine wl (stp_on h rfl rfl rfl hb3 (vl h (mov h rfl) fun a h => ?_))
    refine wl (stp_on h rfl rfl rfl hb3 (cal h rfl en26_W39 (Span_R _ _ _) fun u w8 ⟨e1, e2⟩ a h => ?_))
    subst e1
    subst e2
    refine wl (stp_on h rfl rfl rfl hb3 (vl h (not_ h rfl) fun a h => ?_))
    refine wvl h (pckF h rfl hb3 rfl) fun a h => ?_
    refine wmv h rfl fun a h => ?_
    refine split (t := 46) h rfl (fun hb4 => ?_) (fun hb4 => ?_)
    ·refine wl (stp_off h rfl rfl rfl rfl rfl hb4 fun a h => ?_)
     refine wl (stp_off h rfl rfl rfl rfl rfl hb4 fun a h => ?_)
     refine wl (stp_off h rfl rfl rfl rfl rfl hb4 fun a h => ?_)
     refine wvl h (pckT h rfl hb4 rfl) fun a h => ?_
     refine wmv h rfl fun a h => ?_
     refine wl (stp_off h rfl rfl rfl rfl rfl rfl fun a h => ?_)
     refine wl (stp_off h rfl rfl rfl rfl rfl rfl fun a h => ?_)
     refine wl (stp_off h rfl rfl rfl rfl rfl rfl fun a h => ?_)
     refine wvl h (pckT h rfl rfl rfl) fun a h => ?_
     refine wn ?_
     refine cnd1 h rfl (fun _ => ?_) (fun e => nomatch e)
     refine rg ?_
     refine wl (cal h rfl en20_W39 (known_L _ (hGl.keep hp)) fun u w9 ⟨e1, e2⟩ a h => ?_)
     subst e1
     have hp := hp.below e2
     refine wsg h rfl fun a h => ?_
     refine wn ?_
     refine wp_ret ?_
     try simp only [xqs, ↓reduceIte, Nat.reduceEqDiff]
     refine rt_1 h rfl (rvT h rfl) ?_
     exact ⟨_, rfl, rfl, hp.bel⟩
    ·have hn3 := hb4
     refine wl (stp_on h rfl rfl rfl hb4 (vl h (mov h rfl) fun a h => ?_))
     refine wl (stp_on h rfl rfl rfl hb4 (cal h rfl en37_W39 (Late_R _ _) fun u w10 ⟨e1, e2⟩ a h => ?_))
     subst e1
     subst e2
     refine wl (stp_on h rfl rfl rfl hb4 (vl h (not_ h rfl) fun a h => ?_))
     refine wvl h (pckF h rfl hb4 rfl) fun a h => ?_
     refine wmv h rfl fun a h => ?_
     refine split (t := 51) h rfl (fun hb5 => ?_) (fun hb5 => ?_)
     ·refine wl (stp_off h rfl rfl rfl rfl rfl hb5 fun a h => ?_)
      refine wl (stp_off h rfl rfl rfl rfl rfl hb5 fun a h => ?_)
      refine wl (stp_off h rfl rfl rfl rfl rfl hb5 fun a h => ?_)
      refine wvl h (pckT h rfl hb5 rfl) fun a h => ?_
      refine wn ?_
      refine cnd1 h rfl (fun _ => ?_) (fun e => nomatch e)
      refine rg ?_
      refine wl (cal h rfl en20_W39 (known_L _ (hGl.keep hp)) fun u w11 ⟨e1, e2⟩ a h => ?_)
      subst e1
      have hp := hp.below e2
      refine wsg h rfl fun a h => ?_
      refine wn ?_
      refine wp_ret ?_
      try simp only [xqs, ↓reduceIte, Nat.reduceEqDiff]
      refine rt_1 h rfl (rvT h rfl) ?_
      exact ⟨_, rfl, rfl, hp.bel⟩
     ·have hn4 := hb5
      refine wl (stp_on h rfl rfl rfl hb5 (vl h (mov h rfl) fun a h => ?_))
      refine wl (stp_on h rfl rfl rfl hb5 (cal h rfl en50 (Limit_S _ _) fun u w12 ⟨e1, e2⟩ a h => ?_))
      subst e1
      subst e2
      refine wl (stp_on h rfl rfl rfl hb5 (vl h (not_ h rfl) fun a h => ?_))
      refine wvl h (pckF h rfl hb5 rfl) fun a h => ?_
      refine wn ?_
      refine cnd1 h rfl (fun hb6 => ?_) (fun hb6 => ?_)
      ·refine rg ?_
       refine wl (cal h rfl en20_W39 (known_L _ (hGl.keep hp)) fun u w13 ⟨e1, e2⟩ a h => ?_)
       subst e1
       have hp := hp.below e2
       refine wsg h rfl fun a h => ?_
       refine wn ?_
       refine wp_ret ?_
       try simp only [xqs, ↓reduceIte, Nat.reduceEqDiff]
       refine rt_1 h rfl (rvT h rfl) ?_
       exact ⟨_, rfl, rfl, hp.bel⟩
      ·have hn5 := hb6
       have hen : isEngine e = true := by simpa using hn1
       have hse : isSet e st = true := by simpa [isSet] using hn2
       have hE0 : RdE w x e s2 st := ⟨hG, hS2, hen, hse⟩
       have ok := eng_ok hen
       have hlN := ok.new
       have hlF := ok.full
       have hlW := ok.wide
       have hspn : isSpan d1 d2 = true := by simpa using hn3
       have hd := hspn
       simp only [isSpan, inR, Bool.and_eq_true, decide_eq_true_eq] at hd
       have hla : isLate lt = true := by simpa using hn4
       have hld := hla
       simp only [isLate, inR, Bool.and_eq_true, decide_eq_true_eq] at hld
       have hspl : (inR d1 1 9000 && inR d2 d1 9000 && decide (d2 - d1 ≤ 400) && inR lt 0 30) = true := by rw [Bool.and_eq_true]; exact ⟨hspn, hla⟩
       have hli : isLimit wd = true := by simpa using hn5
       have hlw := hli
       simp only [isLimit, inR, Bool.and_eq_true, decide_eq_true_eq] at hlw
       have hE1 : RdE w x { e with wide := wd } s2 st := hE0.wide hli
       have hsi := (isSet_iff e st).1 hse
       have hwl := widens_le (e := e) (set := st) (a := d1) (b := d2) (late := lt) hlw.1 hlw.2
       refine skp ?_
       refine rg ?_
       obtain ⟨v, hww⟩ : ∃ v, widens e st d1 d2 lt = v := ⟨_, rfl⟩
       have hw0 := widens_nonneg (e := e) (set := st) d1 d2 lt
       rw [hww] at hw0
       rcases (by omega : 5400 < v ∨ v ≤ 5400) with hc | hc
       ·have hwv : (if widens e st d1 d2 lt ≤ 5400 then widens e st d1 d2 lt else -1) = -1 := by rw [hww, if_neg (by omega)]
        have hOn : (missed { e with wide := wd } st d1 d2 lt) ≠ [] := fun q => by have := hwl.2 q; omega
        refine wvl h (ldO (us := [_, _, _, _, _, _, _, _, _, _, _]) h hp rfl 0 rfl sz32 rfl ag32) fun a h => ?_
        refine wmv h rfl fun a h => ?_
        refine wmv h rfl fun a h => ?_
        refine wmv h rfl fun a h => ?_
        refine wmv h rfl fun a h => ?_
        refine wl (cal h rfl en45 (Widens_no (hE0.keep hp cl0) hspl hww hc) fun u w14 ⟨e1, e2⟩ a h => ?_)
        subst e1
        have hp := hp.below e2
        refine wmv h rfl fun a h => ?_
        refine wvl h (ext h rfl rfl) fun a h => ?_
        refine wvl h (ext h rfl rfl) fun a h => ?_
        refine wsg h rfl fun a h => ?_
        refine wsg h rfl fun a h => ?_
        refine wn ?_
        refine rg ?_
        refine wvl h (ldO (us := [_, _, _, _, _, _, _, _, _, _, _]) h hp rfl 0 rfl sz32 rfl ag32) fun a h => ?_
        refine wmv h rfl fun a h => ?_
        refine wl (cal h rfl en51_W39 (Widened_R x e _ _) fun u w15 ⟨e1, e2⟩ a h => ?_)
        subst e1
        have hp := hp.below e2
        refine wmv h rfl fun a h => ?_
        refine wmv h rfl fun a h => ?_
        refine wmv h rfl fun a h => ?_
        refine wmv h rfl fun a h => ?_
        refine wl (cal h rfl en39 (Missed_s x { e with wide := wd } s2 st d1 d2 lt _ (hE1.keep hp cl0) hspl) fun u w16 ⟨⟨s21, e1, hf⟩, e2⟩ a h => ?_)
        subst e1
        have hp := hp.got (hp.below e2) (by decide) hf
        refine wmv h rfl fun a h => ?_
        refine wvl h (ext h rfl rfl) fun a h => ?_
        refine wvl h (ext h rfl rfl) fun a h => ?_
        refine wsg h rfl fun a h => ?_
        refine wsg h rfl fun a h => ?_
        refine wn ?_
        refine wp_seq ?_
        refine rg ?_
        refine wmv h rfl fun a h => ?_
        refine wvl h (nei h rfl rfl) fun a h => ?_
        refine wmv h rfl fun a h => ?_
        refine split (t := 79) h rfl (fun hb7 => ?_) (fun hb7 => ?_)
        ·exact absurd hb7 (by first | decide | (simp; done))
        ·refine wl (stp_on h rfl rfl rfl hb7 (vl h (mov h rfl) fun a h => ?_))
         refine wl (stp_on h rfl rfl rfl hb7 (vl h (nei h rfl rfl) fun a h => ?_))
         refine wl (stp_on h rfl rfl rfl hb7 (vl h (mov h rfl) fun a h => ?_))
         refine split (t := 82) h rfl (fun hb8 => ?_) (fun hb8 => ?_)
         ·refine wl (stp_on h rfl rfl rfl hb8 (vl h (mov h rfl) fun a h => ?_))
          refine wl (stp_on h rfl rfl rfl hb8 (vl h (nei h rfl rfl) fun a h => ?_))
          refine wl (stp_on h rfl rfl rfl hb7 (vl h (pckT h rfl hb8 rfl) fun a h => ?_))
          refine wvl h (pckF h rfl hb7 rfl) fun a h => ?_
          refine wn ?_
          refine cnd1 h rfl (fun hb9 => ?_) (fun hb9 => ?_)
          ·exact absurd hb9 (by first | decide | (simp; done))
          ·refine skp ?_
           refine wp_seq ?_
           refine rg ?_
           refine wmv h rfl fun a h => ?_
           refine wvl h (nei h rfl rfl) fun a h => ?_
           refine wmv h rfl fun a h => ?_
           refine split (t := 89) h rfl (fun hb10 => ?_) (fun hb10 => ?_)
           ·refine wl (stp_on h rfl rfl rfl hb10 (vl h (mov h rfl) fun a h => ?_))
            refine wl (stp_on h rfl rfl rfl hb10 (vl h (lenR h rfl Tryz.underlying50 (hp.rdF (i := 1) rfl)) fun a h => ?_))
            refine wl (stp_on h rfl rfl rfl hb10 (vl h (eqi h rfl rfl) fun a h => ?_))
            refine wvl h (pckT h rfl hb10 rfl) fun a h => ?_
            refine wmv h rfl fun a h => ?_
            refine split (t := 94) h rfl (fun hb11 => ?_) (fun hb11 => ?_)
            ·exact absurd hb11 (by first | decide | (have hq9 := List.length_pos_iff.2 hOn; simp only [Bool.not_eq_true', Bool.not_eq_false', Bool.not_eq_true, Bool.not_eq_false, decide_eq_true_eq, decide_eq_false_iff_not, gt_iff_lt]; omega))
            ·refine wl (stp_on h rfl rfl rfl hb11 (vl h (mov h rfl) fun a h => ?_))
             refine wl (stp_on h rfl rfl rfl hb11 (vl h (eqi h rfl rfl) fun a h => ?_))
             refine wl (stp_on h rfl rfl rfl hb11 (vl h (mov h rfl) fun a h => ?_))
             refine split (t := 97) h rfl (fun hb12 => ?_) (fun hb12 => ?_)
             ·exact absurd hb12 (by first | decide | (simp; done))
             ·refine wl (stp_off h rfl rfl rfl rfl rfl hb12 fun a h => ?_)
              refine wl (stp_off h rfl rfl rfl rfl rfl hb12 fun a h => ?_)
              refine wl (stp_off h rfl rfl rfl rfl rfl hb12 fun a h => ?_)
              refine wl (stp_off h rfl rfl rfl rfl rfl hb12 fun a h => ?_)
              refine wl (stp_off h rfl rfl rfl rfl rfl hb12 fun a h => ?_)
              refine wl (stp_off h rfl rfl rfl rfl rfl hb12 fun a h => ?_)
              refine wl (stp_off h rfl rfl rfl rfl rfl hb12 fun a h => ?_)
              refine wl (stp_on h rfl rfl rfl hb11 (vl h (pckF h rfl hb12 rfl) fun a h => ?_))
              refine wvl h (pckF h rfl hb11 rfl) fun a h => ?_
              refine wn ?_
              refine cnd1 h rfl (fun e => nomatch e) (fun _ => ?_)
              refine skp ?_
              refine rg ?_
              rcases hst : settings e d1 d2 lt with _ | l9
              ·have hsN := settings_none hst st hsi
               refine wvl h (ldO (us := [_, _, _, _, _, _, _, _, _, _, _]) h hp rfl 0 rfl sz32 rfl ag32) fun a h => ?_
               refine wmv h rfl fun a h => ?_
               refine wmv h rfl fun a h => ?_
               refine wmv h rfl fun a h => ?_
               refine wl (cal h rfl en46 (Settings_no (hE0.g.keep hp cl0) hE0.ok hspl hst) fun u w17 ⟨e1, e2⟩ a h => ?_)
               subst e1
               have hp := hp.below e2
               refine wmv h rfl fun a h => ?_
               refine wvl h (ext h rfl rfl) fun a h => ?_
               refine wvl h (ext h rfl rfl) fun a h => ?_
               refine wsg h rfl fun a h => ?_
               refine wsg h rfl fun a h => ?_
               refine wn ?_
               refine rg ?_
               refine wvl h (ldO (us := [_, _, _, _, _, _, _, _, _, _, _]) h hp rfl 0 rfl sz32 rfl ag32) fun a h => ?_
               refine wmv h rfl fun a h => ?_
               refine wmv h rfl fun a h => ?_
               refine wmv h rfl fun a h => ?_
               refine wmv h rfl fun a h => ?_
               refine wl (cal h rfl en39 (Missed_s x e s2 st d1 d2 lt _ (hE0.keep hp cl0) hspl) fun u w18 ⟨⟨s22, e1, hf⟩, e2⟩ a h => ?_)
               subst e1
               have hp := hp.got (hp.below e2) (by decide) hf
               refine wmv h rfl fun a h => ?_
               refine wvl h (ext h rfl rfl) fun a h => ?_
               refine wvl h (ext h rfl rfl) fun a h => ?_
               refine wsg h rfl fun a h => ?_
               refine wsg h rfl fun a h => ?_
               refine wn ?_
               refine wp_seq ?_
               refine rg ?_
               refine wmv h rfl fun a h => ?_
               refine wvl h (nei h rfl rfl) fun a h => ?_
               refine wmv h rfl fun a h => ?_
               refine split (t := 126) h rfl (fun hb13 => ?_) (fun hb13 => ?_)
               ·exact absurd hb13 (by first | decide | (simp; done))
               ·refine wl (stp_on h rfl rfl rfl hb13 (vl h (mov h rfl) fun a h => ?_))
                refine wl (stp_on h rfl rfl rfl hb13 (vl h (nei h rfl rfl) fun a h => ?_))
                refine wl (stp_on h rfl rfl rfl hb13 (vl h (mov h rfl) fun a h => ?_))
                refine split (t := 129) h rfl (fun hb14 => ?_) (fun hb14 => ?_)
                ·refine wl (stp_on h rfl rfl rfl hb14 (vl h (mov h rfl) fun a h => ?_))
                 refine wl (stp_on h rfl rfl rfl hb14 (vl h (nei h rfl rfl) fun a h => ?_))
                 refine wl (stp_on h rfl rfl rfl hb13 (vl h (pckT h rfl hb14 rfl) fun a h => ?_))
                 refine wvl h (pckF h rfl hb13 rfl) fun a h => ?_
                 refine wn ?_
                 refine cnd1 h rfl (fun hb15 => ?_) (fun hb15 => ?_)
                 ·exact absurd hb15 (by first | decide | (simp; done))
                 ·refine skp ?_
                  refine wp_seq ?_
                  refine rg ?_
                  refine wmv h rfl fun a h => ?_
                  refine wvl h (nei h rfl rfl) fun a h => ?_
                  refine wn ?_
                  refine cnd1 h rfl (fun hb16 => ?_) (fun hb16 => ?_)
                  ·refine rg ?_
                   refine wmv h rfl fun a h => ?_
                   refine wvl h (lenR h rfl Tryz.underlying50 (hp.rdF (i := 2) rfl)) fun a h => ?_
                   refine wvl h (gtr h rfl rfl) fun a h => ?_
                   refine wmv h rfl fun a h => ?_
                   refine split (t := 139) h rfl (fun hb17 => ?_) (fun hb17 => ?_)
                   ·refine wl (stp_on h rfl rfl rfl hb17 (cal h rfl en20_W39 (known_L _ (hGl.keep hp)) fun u w19 ⟨e1, e2⟩ a h => ?_))
                    subst e1
                    have hp := hp.below e2
                    refine wvl h (pckT h rfl hb17 rfl) fun a h => ?_
                    refine wsg h rfl fun a h => ?_
                    refine wn ?_
                    refine wp_ret ?_
                    try simp only [xqs, ↓reduceIte, Nat.reduceEqDiff]
                    refine rt_1 h rfl (rvT h rfl) ?_
                    exact ⟨_, rfl, rfl, hp.bel⟩
                   ·exact absurd hb17 (by have hq9 := List.length_pos_iff.2 hsN; simp only [Bool.not_eq_true', Bool.not_eq_false', Bool.not_eq_true, Bool.not_eq_false, decide_eq_true_eq, decide_eq_false_iff_not, gt_iff_lt]; omega)
                  ·exact absurd hb16 (by first | decide | (simp; done))
                ·exact absurd hb14 (by first | decide | (simp; done))
              ·have hsS := settings_some hst
               have hs9 : isSet e l9 = true := (isSet_iff e l9).2 hsS.1
               have hsL := Incr.len (by omega) hsS.1
               refine wvl h (ldO (us := [_, _, _, _, _, _, _, _, _, _, _]) h hp rfl 0 rfl sz32 rfl ag32) fun a h => ?_
               refine wmv h rfl fun a h => ?_
               refine wmv h rfl fun a h => ?_
               refine wmv h rfl fun a h => ?_
               refine wl (cal h rfl en46 (Settings_is (hE0.g.keep hp cl0) hE0.ok hspl hst) fun u w20 ⟨⟨s22, e1, hf⟩, e2⟩ a h => ?_)
               subst e1
               have hp := hp.got (hp.below e2) (by decide) hf
               refine wmv h rfl fun a h => ?_
               refine wvl h (ext h rfl rfl) fun a h => ?_
               refine wvl h (ext h rfl rfl) fun a h => ?_
               refine wsg h rfl fun a h => ?_
               refine wsg h rfl fun a h => ?_
               refine wn ?_
               refine rg ?_
               refine wvl h (ldO (us := [_, _, _, _, _, _, _, _, _, _, _]) h hp rfl 0 rfl sz32 rfl ag32) fun a h => ?_
               refine wmv h rfl fun a h => ?_
               refine wmv h rfl fun a h => ?_
               refine wmv h rfl fun a h => ?_
               refine wmv h rfl fun a h => ?_
               refine wl (cal h rfl en39 (Missed_s x e s2 st d1 d2 lt _ (hE0.keep hp cl0) hspl) fun u w21 ⟨⟨s23, e1, hf⟩, e2⟩ a h => ?_)
               subst e1
               have hp := hp.got (hp.below e2) (by decide) hf
               refine wmv h rfl fun a h => ?_
               refine wvl h (ext h rfl rfl) fun a h => ?_
               refine wvl h (ext h rfl rfl) fun a h => ?_
               refine wsg h rfl fun a h => ?_
               refine wsg h rfl fun a h => ?_
               refine wn ?_
               refine wp_seq ?_
               refine rg ?_
               refine wmv h rfl fun a h => ?_
               refine wvl h (nei h rfl rfl) fun a h => ?_
               refine wmv h rfl fun a h => ?_
               refine split (t := 126) h rfl (fun hb18 => ?_) (fun hb18 => ?_)
               ·exact absurd hb18 (by first | decide | (simp; done))
               ·refine wl (stp_on h rfl rfl rfl hb18 (vl h (mov h rfl) fun a h => ?_))
                refine wl (stp_on h rfl rfl rfl hb18 (vl h (nei h rfl rfl) fun a h => ?_))
                refine wl (stp_on h rfl rfl rfl hb18 (vl h (mov h rfl) fun a h => ?_))
                refine split (t := 129) h rfl (fun hb19 => ?_) (fun hb19 => ?_)
                ·exact absurd hb19 (by first | decide | (simp; done))
                ·refine wl (stp_off h rfl rfl rfl rfl rfl hb19 fun a h => ?_)
                 refine wl (stp_off h rfl rfl rfl rfl rfl hb19 fun a h => ?_)
                 refine wl (stp_on h rfl rfl rfl hb18 (vl h (pckF h rfl hb19 rfl) fun a h => ?_))
                 refine wvl h (pckF h rfl hb18 rfl) fun a h => ?_
                 refine wn ?_
                 refine cnd1 h rfl (fun e => nomatch e) (fun _ => ?_)
                 refine skp ?_
                 refine wp_seq ?_
                 refine rg ?_
                 refine wmv h rfl fun a h => ?_
                 refine wvl h (nei h rfl rfl) fun a h => ?_
                 refine wn ?_
                 refine cnd1 h rfl (fun hb20 => ?_) (fun hb20 => ?_)
                 ·exact absurd hb20 (by first | decide | (simp; done))
                 ·refine skp ?_
                  refine wp_seq ?_
                  refine rg ?_
                  refine wmv h rfl fun a h => ?_
                  refine wvl h (lenR h rfl Tryz.underlying30 (hp.rdF (i := 2) rfl)) fun a h => ?_
                  refine wvl h (fad h rfl fo32_4) fun a h => ?_
                  refine wvl h (ldo h hp rfl 0 rfl rfl ag30) fun a h => ?_
                  refine wvl h (lenR h rfl Tryz.underlying30 (hG.keep hp cl0).f) fun a h => ?_
                  refine wvl h (gtr h rfl rfl) fun a h => ?_
                  refine wmv h rfl fun a h => ?_
                  refine split (t := 148) h rfl (fun hb21 => ?_) (fun hb21 => ?_)
                  ·exact absurd hb21 (by first | decide | (simp only [Bool.not_eq_true', Bool.not_eq_false', Bool.not_eq_true, Bool.not_eq_false, decide_eq_true_eq, decide_eq_false_iff_not, gt_iff_lt, ge_iff_le]; omega) | (simp; done))
                  ·refine wl (stp_on h rfl rfl rfl hb21 (vl h (fad h rfl fo32_4) fun a h => ?_))
                   refine wl (stp_on h rfl rfl rfl hb21 (vl h (ldo h hp rfl 0 rfl rfl ag30) fun a h => ?_))
                   refine wl (stp_on h rfl rfl rfl hb21 (vl h (mov h rfl) fun a h => ?_))
                   refine wl (stp_on h rfl rfl rfl hb21 (cal h rfl en17_W39 (Set_T _ _ _ _ _ (hp.rdF (i := 2) rfl) (hG.keep hp cl0).f) fun u w22 ⟨e1, e2⟩ a h => ?_))
                   subst e1
                   have hp := hp.below e2
                   refine wl (stp_on h rfl rfl rfl hb21 (vl h (not_ h rfl) fun a h => ?_))
                   refine wvl h (pckF h rfl hb21 rfl) fun a h => ?_
                   refine wn ?_
                   refine cnd1 h rfl (fun hb22 => ?_) (fun hb22 => ?_)
                   ·exact absurd hb22 (by rw [show rising 0 ((e.feasts.length : Int) - 1) l9 = true from hs9]; decide)
                   ·refine skp ?_
                    refine rg ?_
                    refine wvl h (ldO (us := [_, _, _, _, _, _, _, _, _, _, _]) h hp rfl 0 rfl sz32 rfl ag32) fun a h => ?_
                    refine wmv h rfl fun a h => ?_
                    refine wmv h rfl fun a h => ?_
                    refine wmv h rfl fun a h => ?_
                    refine wmv h rfl fun a h => ?_
                    refine wl (cal h rfl en39 (Missed_s x e _ l9 d1 d2 lt _ ⟨(hE0.keep hp cl0).g, (hp.rdF (i := 2) rfl), hen, hs9⟩ hspl) fun u w23 ⟨⟨s24, e1, hf⟩, e2⟩ a h => ?_)
                    subst e1
                    have hp := hp.got (hp.below e2) (by decide) hf
                    refine wmv h rfl fun a h => ?_
                    refine wvl h (ext h rfl rfl) fun a h => ?_
                    refine wvl h (ext h rfl rfl) fun a h => ?_
                    refine wsg h rfl fun a h => ?_
                    refine wsg h rfl fun a h => ?_
                    refine wn ?_
                    refine wp_seq ?_
                    refine rg ?_
                    refine wmv h rfl fun a h => ?_
                    refine wvl h (nei h rfl rfl) fun a h => ?_
                    refine wmv h rfl fun a h => ?_
                    refine split (t := 166) h rfl (fun hb23 => ?_) (fun hb23 => ?_)
                    ·exact absurd hb23 (by first | decide | (simp; done))
                    ·refine wl (stp_on h rfl rfl rfl hb23 (vl h (mov h rfl) fun a h => ?_))
                     refine wl (stp_on h rfl rfl rfl hb23 (vl h (lenR h rfl Tryz.underlying50 (hp.rdF (i := 4) rfl)) fun a h => ?_))
                     refine wl (stp_on h rfl rfl rfl hb23 (vl h (nei h rfl rfl) fun a h => ?_))
                     refine wvl h (pckF h rfl hb23 rfl) fun a h => ?_
                     refine wn ?_
                     refine cnd1 h rfl (fun hb24 => ?_) (fun hb24 => ?_)
                     ·exact absurd hb24 (by have hq9 := List.length_eq_zero_iff.2 hsS.2.1; simp only [Bool.not_eq_true', Bool.not_eq_false', Bool.not_eq_true, Bool.not_eq_false, decide_eq_true_eq, decide_eq_false_iff_not, gt_iff_lt]; omega)
                     ·refine skp ?_
                      refine wp_seq ?_
                      refine rg ?_
                      refine wmv h rfl fun a h => ?_
                      refine wvl h (lenR h rfl Tryz.underlying50 (hp.rdF (i := 3) rfl)) fun a h => ?_
                      refine wvl h (gtr h rfl rfl) fun a h => ?_
                      refine wmv h rfl fun a h => ?_
                      refine split (t := 174) h rfl (fun hb25 => ?_) (fun hb25 => ?_)
                      ·refine wl (stp_off h rfl rfl rfl rfl rfl hb25 fun a h => ?_)
                       refine wl (stp_off h rfl rfl rfl rfl rfl hb25 fun a h => ?_)
                       refine wl (stp_off h rfl rfl rfl rfl rfl hb25 fun a h => ?_)
                       refine wl (stp_off h rfl rfl rfl rfl rfl hb25 fun a h => ?_)
                       refine wl (stp_off h rfl rfl rfl rfl rfl hb25 fun a h => ?_)
                       refine wvl h (pckT h rfl hb25 rfl) fun a h => ?_
                       refine wn ?_
                       refine cnd1 h rfl (fun _ => ?_) (fun e => nomatch e)
                       refine rg ?_
                       refine wl (cal h rfl en20_W39 (known_L _ (hGl.keep hp)) fun u w24 ⟨e1, e2⟩ a h => ?_)
                       subst e1
                       have hp := hp.below e2
                       refine wsg h rfl fun a h => ?_
                       refine wn ?_
                       refine wp_ret ?_
                       try simp only [xqs, ↓reduceIte, Nat.reduceEqDiff]
                       refine rt_1 h rfl (rvT h rfl) ?_
                       exact ⟨_, rfl, rfl, hp.bel⟩
                      ·have hWn : (missed e st d1 d2 lt) = [] := List.length_eq_zero_iff.1 (by have := of_decide_eq_false hb25; omega)
                       have hbt := hsS.2.2 st hsi hWn
                       have hbl := better_len hbt
                       refine wl (stp_on h rfl rfl rfl hb25 (vl h (mov h rfl) fun a h => ?_))
                       refine wl (stp_on h rfl rfl rfl hb25 (vl h (lenR h rfl Tryz.underlying30 (hS2.keep (by decide) hp cl0)) fun a h => ?_))
                       refine wl (stp_on h rfl rfl rfl hb25 (vl h (mov h rfl) fun a h => ?_))
                       refine wl (stp_on h rfl rfl rfl hb25 (vl h (lenR h rfl Tryz.underlying30 (hp.rdF (i := 2) rfl)) fun a h => ?_))
                       refine wl (stp_on h rfl rfl rfl hb25 (vl h (gtr h rfl rfl) fun a h => ?_))
                       refine wvl h (pckF h rfl hb25 rfl) fun a h => ?_
                       refine wn ?_
                       refine cnd1 h rfl (fun hb26 => ?_) (fun hb26 => ?_)
                       ·refine rg ?_
                        refine wl (cal h rfl en20_W39 (known_L _ (hGl.keep hp)) fun u w25 ⟨e1, e2⟩ a h => ?_)
                        subst e1
                        have hp := hp.below e2
                        refine wsg h rfl fun a h => ?_
                        refine wn ?_
                        refine wp_ret ?_
                        try simp only [xqs, ↓reduceIte, Nat.reduceEqDiff]
                        refine rt_1 h rfl (rvT h rfl) ?_
                        exact ⟨_, rfl, rfl, hp.bel⟩
                       ·have hle := of_decide_eq_false hb26
                        refine skp ?_
                        refine wp_seq ?_
                        refine rg ?_
                        refine wmv h rfl fun a h => ?_
                        refine wvl h (lenR h rfl Tryz.underlying30 (hS2.keep (by decide) hp cl0)) fun a h => ?_
                        refine wmv h rfl fun a h => ?_
                        refine wvl h (lenR h rfl Tryz.underlying30 (hp.rdF (i := 2) rfl)) fun a h => ?_
                        refine wvl h (lss h rfl rfl) fun a h => ?_
                        refine wn ?_
                        refine cnd1 h rfl (fun hb27 => ?_) (fun hb27 => ?_)
                        ·exact absurd hb27 (by first | decide | (simp only [Bool.not_eq_true', Bool.not_eq_false', Bool.not_eq_true, Bool.not_eq_false, decide_eq_true_eq, decide_eq_false_iff_not, gt_iff_lt, ge_iff_le]; omega) | (simp; done))
                        ·have hleq : st.length = l9.length := by omega
                         refine skp ?_
                         refine wp_seq ?_
                         refine rg ?_
                         refine wsg h rfl fun a h => ?_
                         refine wn ?_
                         refine lp1 h [1, 17, 55, 86, 106, 133, 135, 154, 170, 180, 186] (fun n f w' => ∃ k : Nat, k ≤ l9.length ∧ n = l9.length - k ∧ f = [(23, .int .i64 k)] ∧ Hp c0 w w' ([.blk g1 (.cells #[x.b.v, .int .i64 e.nnum, .int .i64 e.nden, .int .i64 e.nstart, x.s.v, x.m.v, x.n.v, x.f.v, .int .i64 e.new, .int .i64 e.full, .int .i64 e.wide] 32 (0, 0)), rdE encM 3 s21.v (missed { e with wide := wd } st d1 d2 lt), rdE encI 1 s22.v l9, rdE encM 3 s23.v (missed e st d1 d2 lt), rdE encM 3 s24.v (missed e l9 d1 d2 lt)]) ∧ st.take k = l9.take k) (l9.length) [(23, .int .i64 ((0 : Nat) : Int))] ⟨rfl, rfl, rfl, rfl, rfl, rfl, rfl, rfl, rfl, rfl, rfl, rfl, trivial⟩ ⟨0, Nat.zero_le _, rfl, rfl, hp, rfl⟩ ?_
                         rintro n f a w26 ⟨k, hk, rfl, rfl, hp, hTk⟩ h
                         have hfit := (hp.rdF (i := 2) rfl).fits
                         refine wp_seq ?_
                         refine rg ?_
                         refine wmv h rfl fun a h => ?_
                         refine wmv h rfl fun a h => ?_
                         refine wvl h (lenR h rfl Tryz.underlying30 (hp.rdF (i := 2) rfl)) fun a h => ?_
                         refine wvl h (lss h rfl rfl) fun a h => ?_
                         refine wn ?_
                         refine cnd1 h rfl (fun hb28 => ?_) (fun hb28 => ?_)
                         ·have hlt : k < l9.length := by have := of_decide_eq_true hb28; omega
                          obtain ⟨y, hy⟩ : ∃ y, l9[k]? = some y := ⟨_, List.getElem?_eq_getElem hlt⟩
                          obtain ⟨z, hys⟩ : ∃ z, st[k]? = some z := ⟨_, List.getElem?_eq_getElem (by omega)⟩
                          have hge := better_at hleq hTk hys hy hbt
                          refine skp ?_
                          refine blk ?_
                          refine rdh (n := 9) hp mixed rfl ?_
                          have hp := hp.drew
                          refine tkm 0 h rfl hp rfl fun a h => ?_
                          refine tkm 1 h rfl hp rfl fun a h => ?_
                          refine tkq 2 h rfl hp (fun W hp => iadR (k) h rfl rfl Tryz.underlying30 sz3 (hS2.keep (by decide) hp cl0) (rfl) (by omega)) fun a h => ?_
                          refine tkq 3 h rfl hp (fun W hp => ld0 h (hS2.keep (by decide) hp cl0) hys rfl ag3 rfl) fun a h => ?_
                          refine tkm 4 h rfl hp rfl fun a h => ?_
                          refine tkm 5 h rfl hp rfl fun a h => ?_
                          refine tkq 6 h rfl hp (fun W hp => iadR (k) h rfl rfl Tryz.underlying30 sz3 (hp.rdF (i := 2) rfl) (rfl) (by omega)) fun a h => ?_
                          refine tkq 7 h rfl hp (fun W hp => ld0 h (hp.rdF (i := 2) rfl) hy rfl ag3 rfl) fun a h => ?_
                          refine tkq 8 h rfl hp (fun W _ => nei h rfl rfl) fun a h => ?_
                          refine dn (by kernel_rfl) ?_
                          refine cnd1 h rfl (fun hb29 => ?_) (fun hb29 => ?_)
                          ·have hne : z ≠ y := by have hq9 := hb29; simpa using hq9
                           refine rdh (n := 13) hp mixed rfl ?_
                           have hp := hp.drew
                           refine tkm 0 h rfl hp rfl fun a h => ?_
                           refine tkm 1 h rfl hp rfl fun a h => ?_
                           refine tkq 2 h rfl hp (fun W hp => iadR (k) h rfl rfl Tryz.underlying30 sz3 (hS2.keep (by decide) hp cl0) (rfl) (by omega)) fun a h => ?_
                           refine tkq 3 h rfl hp (fun W hp => ld0 h (hS2.keep (by decide) hp cl0) hys rfl ag3 rfl) fun a h => ?_
                           refine tkm 4 h rfl hp rfl fun a h => ?_
                           refine tkm 5 h rfl hp rfl fun a h => ?_
                           refine tkq 6 h rfl hp (fun W hp => iadR (k) h rfl rfl Tryz.underlying30 sz3 (hp.rdF (i := 2) rfl) (rfl) (by omega)) fun a h => ?_
                           refine tkq 7 h rfl hp (fun W hp => ld0 h (hp.rdF (i := 2) rfl) hy rfl ag3 rfl) fun a h => ?_
                           refine tkq 8 h rfl hp (fun W _ => gtr h rfl rfl) fun a h => ?_
                           refine tkm 9 h rfl hp rfl fun a h => ?_
                           refine split (t := 211) h rfl (fun hb30 => ?_) (fun hb30 => ?_)
                           ·refine one 10 (by kernel_rfl) rfl (stp_on h rfl rfl rfl hb30 (cal h rfl en20_W39 (known_L _ (hGl.keep hp)) fun u w27 ⟨e1, e2⟩ a h => ⟨hp.below e2, ?_⟩))
                            subst e1
                            have hp := hp.below e2
                            refine tkq 11 h rfl hp (fun W _ => pckT h rfl hb30 rfl) fun a h => ?_
                            refine tka 12 h rfl hp rfl fun a h => ?_
                            refine dn (by kernel_rfl) ?_
                            refine wp_ret ?_
                            try simp only [xqs, ↓reduceIte, Nat.reduceEqDiff]
                            refine rt_1 h rfl (rvT h rfl) ?_
                            exact ⟨_, rfl, rfl, hp.bel⟩
                           ·exact absurd hb30 (by first | decide | (simp only [Bool.not_eq_true', Bool.not_eq_false', Bool.not_eq_true, Bool.not_eq_false, decide_eq_true_eq, decide_eq_false_iff_not, gt_iff_lt, ge_iff_le]; omega) | (simp; done))
                          ·have heq : z = y := by have hq9 := hb29; simpa using hq9
                           refine wp_skip ?_
                           refine rg1 ?_
                           refine wmv h rfl fun a h => ?_
                           refine wvl h (add h rfl rfl (by omega)) fun a h => ?_
                           refine wsg h rfl fun a h => ?_
                           refine wn ?_
                           exact ⟨_, _, (by omega), ⟨k + 1, by omega, rfl, rfl, hp.pre 5 rfl, take_eq hTk hys hy heq⟩, h.sub ⟨rfl, rfl, rfl, rfl, rfl, rfl, rfl, rfl, rfl, rfl, rfl, rfl, trivial⟩⟩
                         ·refine wp_exit ?_
                          try simp only [xqs, ↓reduceIte, Nat.reduceEqDiff]
                          refine rg ?_
                          refine wl (cal h rfl en20_W39 (known_L _ (hGl.keep hp)) fun u w28 ⟨e1, e2⟩ a h => ?_)
                          subst e1
                          have hp := hp.below e2
                          refine wsg h rfl fun a h => ?_
                          refine wn ?_
                          refine wp_ret ?_
                          try simp only [xqs, ↓reduceIte, Nat.reduceEqDiff]
                          refine rt_1 h rfl (rvT h rfl) ?_
                          exact ⟨_, rfl, rfl, hp.bel⟩
           ·exact absurd hb10 (by first | decide | (simp; done))
         ·exact absurd hb8 (by first | decide | (simp; done))
       ·have hwv : (if widens e st d1 d2 lt ≤ 5400 then widens e st d1 d2 lt else -1) = v := by rw [hww, if_pos (by omega)]
        have hOl : decide (((missed { e with wide := wd } st d1 d2 lt).length : Int) = 0) = decide (v ≤ wd) := decide_eq_decide.2 (by rw [← hww, hwl, ← List.length_eq_zero_iff]; omega)
        refine wvl h (ldO (us := [_, _, _, _, _, _, _, _, _, _, _]) h hp rfl 0 rfl sz32 rfl ag32) fun a h => ?_
        refine wmv h rfl fun a h => ?_
        refine wmv h rfl fun a h => ?_
        refine wmv h rfl fun a h => ?_
        refine wmv h rfl fun a h => ?_
        refine wl (cal h rfl en45 (Widens_is (hE0.keep hp cl0) hspl hww hc) fun u w29 ⟨e1, e2⟩ a h => ?_)
        subst e1
        have hp := hp.below e2
        refine wmv h rfl fun a h => ?_
        refine wvl h (ext h rfl rfl) fun a h => ?_
        refine wvl h (ext h rfl rfl) fun a h => ?_
        refine wsg h rfl fun a h => ?_
        refine wsg h rfl fun a h => ?_
        refine wn ?_
        refine rg ?_
        refine wvl h (ldO (us := [_, _, _, _, _, _, _, _, _, _, _]) h hp rfl 0 rfl sz32 rfl ag32) fun a h => ?_
        refine wmv h rfl fun a h => ?_
        refine wl (cal h rfl en51_W39 (Widened_R x e _ _) fun u w30 ⟨e1, e2⟩ a h => ?_)
        subst e1
        have hp := hp.below e2
        refine wmv h rfl fun a h => ?_
        refine wmv h rfl fun a h => ?_
        refine wmv h rfl fun a h => ?_
        refine wmv h rfl fun a h => ?_
        refine wl (cal h rfl en39 (Missed_s x { e with wide := wd } s2 st d1 d2 lt _ (hE1.keep hp cl0) hspl) fun u w31 ⟨⟨s21, e1, hf⟩, e2⟩ a h => ?_)
        subst e1
        have hp := hp.got (hp.below e2) (by decide) hf
        refine wmv h rfl fun a h => ?_
        refine wvl h (ext h rfl rfl) fun a h => ?_
        refine wvl h (ext h rfl rfl) fun a h => ?_
        refine wsg h rfl fun a h => ?_
        refine wsg h rfl fun a h => ?_
        refine wn ?_
        refine wp_seq ?_
        refine rg ?_
        refine wmv h rfl fun a h => ?_
        refine wvl h (nei h rfl rfl) fun a h => ?_
        refine wmv h rfl fun a h => ?_
        refine split (t := 79) h rfl (fun hb31 => ?_) (fun hb31 => ?_)
        ·exact absurd hb31 (by first | decide | (simp; done))
        ·refine wl (stp_on h rfl rfl rfl hb31 (vl h (mov h rfl) fun a h => ?_))
         refine wl (stp_on h rfl rfl rfl hb31 (vl h (nei h rfl rfl) fun a h => ?_))
         refine wl (stp_on h rfl rfl rfl hb31 (vl h (mov h rfl) fun a h => ?_))
         refine split (t := 82) h rfl (fun hb32 => ?_) (fun hb32 => ?_)
         ·exact absurd hb32 (by first | decide | (simp; done))
         ·refine wl (stp_off h rfl rfl rfl rfl rfl hb32 fun a h => ?_)
          refine wl (stp_off h rfl rfl rfl rfl rfl hb32 fun a h => ?_)
          refine wl (stp_on h rfl rfl rfl hb31 (vl h (pckF h rfl hb32 rfl) fun a h => ?_))
          refine wvl h (pckF h rfl hb31 rfl) fun a h => ?_
          refine wn ?_
          refine cnd1 h rfl (fun e => nomatch e) (fun _ => ?_)
          refine skp ?_
          refine wp_seq ?_
          refine rg ?_
          refine wmv h rfl fun a h => ?_
          refine wvl h (nei h rfl rfl) fun a h => ?_
          refine wmv h rfl fun a h => ?_
          refine split (t := 89) h rfl (fun hb33 => ?_) (fun hb33 => ?_)
          ·exact absurd hb33 (by first | decide | (simp; done))
          ·refine wl (stp_off h rfl rfl rfl rfl rfl hb33 fun a h => ?_)
           refine wl (stp_off h rfl rfl rfl rfl rfl hb33 fun a h => ?_)
           refine wl (stp_off h rfl rfl rfl rfl rfl hb33 fun a h => ?_)
           refine wvl h (pckF h rfl hb33 rfl) fun a h => ?_
           refine wmv h rfl fun a h => ?_
           refine wl (stp_on h rfl rfl rfl rfl (vl h (mov h rfl) fun a h => ?_))
           refine wl (stp_on h rfl rfl rfl rfl (vl h (eqi h rfl rfl) fun a h => ?_))
           refine wl (stp_on h rfl rfl rfl rfl (vl h (mov h rfl) fun a h => ?_))
           refine split (t := 97) h rfl (fun hb34 => ?_) (fun hb34 => ?_)
           ·refine wl (stp_on h rfl rfl rfl hb34 (vl h (mov h rfl) fun a h => ?_))
            refine wl (stp_on h rfl rfl rfl hb34 (vl h (lenR h rfl Tryz.underlying50 (hp.rdF (i := 1) rfl)) fun a h => ?_))
            refine wl (stp_on h rfl rfl rfl hb34 (vl h (eqi h rfl rfl) fun a h => ?_))
            refine wl (stp_on h rfl rfl rfl hb34 (vl h (mov h rfl) fun a h => ?_))
            refine wl (stp_on h rfl rfl rfl hb34 (vl h (mov h rfl) fun a h => ?_))
            refine wl (stp_on h rfl rfl rfl hb34 (vl h (geq h rfl rfl) fun a h => ?_))
            refine wl (stp_on h rfl rfl rfl hb34 (vl h (neb h rfl rfl Tryz.underlying4) fun a h => ?_))
            refine wl (stp_on h rfl rfl rfl rfl (vl h (pckT h rfl hb34 rfl) fun a h => ?_))
            refine wvl h (pckF h rfl rfl rfl) fun a h => ?_
            refine wn ?_
            refine cnd1 h rfl (fun hb35 => ?_) (fun hb35 => ?_)
            ·exact absurd hb35 (by first | decide | (rw [hOl]; simp; done) | (rw [hOl]; decide) | (rw [hOl]; simp [ge_iff_le]; done))
            ·refine skp ?_
             refine rg ?_
             rcases hst : settings e d1 d2 lt with _ | l9
             ·have hsN := settings_none hst st hsi
              refine wvl h (ldO (us := [_, _, _, _, _, _, _, _, _, _, _]) h hp rfl 0 rfl sz32 rfl ag32) fun a h => ?_
              refine wmv h rfl fun a h => ?_
              refine wmv h rfl fun a h => ?_
              refine wmv h rfl fun a h => ?_
              refine wl (cal h rfl en46 (Settings_no (hE0.g.keep hp cl0) hE0.ok hspl hst) fun u w32 ⟨e1, e2⟩ a h => ?_)
              subst e1
              have hp := hp.below e2
              refine wmv h rfl fun a h => ?_
              refine wvl h (ext h rfl rfl) fun a h => ?_
              refine wvl h (ext h rfl rfl) fun a h => ?_
              refine wsg h rfl fun a h => ?_
              refine wsg h rfl fun a h => ?_
              refine wn ?_
              refine rg ?_
              refine wvl h (ldO (us := [_, _, _, _, _, _, _, _, _, _, _]) h hp rfl 0 rfl sz32 rfl ag32) fun a h => ?_
              refine wmv h rfl fun a h => ?_
              refine wmv h rfl fun a h => ?_
              refine wmv h rfl fun a h => ?_
              refine wmv h rfl fun a h => ?_
              refine wl (cal h rfl en39 (Missed_s x e s2 st d1 d2 lt _ (hE0.keep hp cl0) hspl) fun u w33 ⟨⟨s22, e1, hf⟩, e2⟩ a h => ?_)
              subst e1
              have hp := hp.got (hp.below e2) (by decide) hf
              refine wmv h rfl fun a h => ?_
              refine wvl h (ext h rfl rfl) fun a h => ?_
              refine wvl h (ext h rfl rfl) fun a h => ?_
              refine wsg h rfl fun a h => ?_
              refine wsg h rfl fun a h => ?_
              refine wn ?_
              refine wp_seq ?_
              refine rg ?_
              refine wmv h rfl fun a h => ?_
              refine wvl h (nei h rfl rfl) fun a h => ?_
              refine wmv h rfl fun a h => ?_
              refine split (t := 126) h rfl (fun hb36 => ?_) (fun hb36 => ?_)
              ·exact absurd hb36 (by first | decide | (simp; done))
              ·refine wl (stp_on h rfl rfl rfl hb36 (vl h (mov h rfl) fun a h => ?_))
               refine wl (stp_on h rfl rfl rfl hb36 (vl h (nei h rfl rfl) fun a h => ?_))
               refine wl (stp_on h rfl rfl rfl hb36 (vl h (mov h rfl) fun a h => ?_))
               refine split (t := 129) h rfl (fun hb37 => ?_) (fun hb37 => ?_)
               ·refine wl (stp_on h rfl rfl rfl hb37 (vl h (mov h rfl) fun a h => ?_))
                refine wl (stp_on h rfl rfl rfl hb37 (vl h (nei h rfl rfl) fun a h => ?_))
                refine wl (stp_on h rfl rfl rfl hb36 (vl h (pckT h rfl hb37 rfl) fun a h => ?_))
                refine wvl h (pckF h rfl hb36 rfl) fun a h => ?_
                refine wn ?_
                refine cnd1 h rfl (fun hb38 => ?_) (fun hb38 => ?_)
                ·exact absurd hb38 (by first | decide | (simp; done))
                ·refine skp ?_
                 refine wp_seq ?_
                 refine rg ?_
                 refine wmv h rfl fun a h => ?_
                 refine wvl h (nei h rfl rfl) fun a h => ?_
                 refine wn ?_
                 refine cnd1 h rfl (fun hb39 => ?_) (fun hb39 => ?_)
                 ·refine rg ?_
                  refine wmv h rfl fun a h => ?_
                  refine wvl h (lenR h rfl Tryz.underlying50 (hp.rdF (i := 2) rfl)) fun a h => ?_
                  refine wvl h (gtr h rfl rfl) fun a h => ?_
                  refine wmv h rfl fun a h => ?_
                  refine split (t := 139) h rfl (fun hb40 => ?_) (fun hb40 => ?_)
                  ·refine wl (stp_on h rfl rfl rfl hb40 (cal h rfl en20_W39 (known_L _ (hGl.keep hp)) fun u w34 ⟨e1, e2⟩ a h => ?_))
                   subst e1
                   have hp := hp.below e2
                   refine wvl h (pckT h rfl hb40 rfl) fun a h => ?_
                   refine wsg h rfl fun a h => ?_
                   refine wn ?_
                   refine wp_ret ?_
                   try simp only [xqs, ↓reduceIte, Nat.reduceEqDiff]
                   refine rt_1 h rfl (rvT h rfl) ?_
                   exact ⟨_, rfl, rfl, hp.bel⟩
                  ·exact absurd hb40 (by have hq9 := List.length_pos_iff.2 hsN; simp only [Bool.not_eq_true', Bool.not_eq_false', Bool.not_eq_true, Bool.not_eq_false, decide_eq_true_eq, decide_eq_false_iff_not, gt_iff_lt]; omega)
                 ·exact absurd hb39 (by first | decide | (simp; done))
               ·exact absurd hb37 (by first | decide | (simp; done))
             ·have hsS := settings_some hst
              have hs9 : isSet e l9 = true := (isSet_iff e l9).2 hsS.1
              have hsL := Incr.len (by omega) hsS.1
              refine wvl h (ldO (us := [_, _, _, _, _, _, _, _, _, _, _]) h hp rfl 0 rfl sz32 rfl ag32) fun a h => ?_
              refine wmv h rfl fun a h => ?_
              refine wmv h rfl fun a h => ?_
              refine wmv h rfl fun a h => ?_
              refine wl (cal h rfl en46 (Settings_is (hE0.g.keep hp cl0) hE0.ok hspl hst) fun u w35 ⟨⟨s22, e1, hf⟩, e2⟩ a h => ?_)
              subst e1
              have hp := hp.got (hp.below e2) (by decide) hf
              refine wmv h rfl fun a h => ?_
              refine wvl h (ext h rfl rfl) fun a h => ?_
              refine wvl h (ext h rfl rfl) fun a h => ?_
              refine wsg h rfl fun a h => ?_
              refine wsg h rfl fun a h => ?_
              refine wn ?_
              refine rg ?_
              refine wvl h (ldO (us := [_, _, _, _, _, _, _, _, _, _, _]) h hp rfl 0 rfl sz32 rfl ag32) fun a h => ?_
              refine wmv h rfl fun a h => ?_
              refine wmv h rfl fun a h => ?_
              refine wmv h rfl fun a h => ?_
              refine wmv h rfl fun a h => ?_
              refine wl (cal h rfl en39 (Missed_s x e s2 st d1 d2 lt _ (hE0.keep hp cl0) hspl) fun u w36 ⟨⟨s23, e1, hf⟩, e2⟩ a h => ?_)
              subst e1
              have hp := hp.got (hp.below e2) (by decide) hf
              refine wmv h rfl fun a h => ?_
              refine wvl h (ext h rfl rfl) fun a h => ?_
              refine wvl h (ext h rfl rfl) fun a h => ?_
              refine wsg h rfl fun a h => ?_
              refine wsg h rfl fun a h => ?_
              refine wn ?_
              refine wp_seq ?_
              refine rg ?_
              refine wmv h rfl fun a h => ?_
              refine wvl h (nei h rfl rfl) fun a h => ?_
              refine wmv h rfl fun a h => ?_
              refine split (t := 126) h rfl (fun hb41 => ?_) (fun hb41 => ?_)
              ·exact absurd hb41 (by first | decide | (simp; done))
              ·refine wl (stp_on h rfl rfl rfl hb41 (vl h (mov h rfl) fun a h => ?_))
               refine wl (stp_on h rfl rfl rfl hb41 (vl h (nei h rfl rfl) fun a h => ?_))
               refine wl (stp_on h rfl rfl rfl hb41 (vl h (mov h rfl) fun a h => ?_))
               refine split (t := 129) h rfl (fun hb42 => ?_) (fun hb42 => ?_)
               ·exact absurd hb42 (by first | decide | (simp; done))
               ·refine wl (stp_off h rfl rfl rfl rfl rfl hb42 fun a h => ?_)
                refine wl (stp_off h rfl rfl rfl rfl rfl hb42 fun a h => ?_)
                refine wl (stp_on h rfl rfl rfl hb41 (vl h (pckF h rfl hb42 rfl) fun a h => ?_))
                refine wvl h (pckF h rfl hb41 rfl) fun a h => ?_
                refine wn ?_
                refine cnd1 h rfl (fun e => nomatch e) (fun _ => ?_)
                refine skp ?_
                refine wp_seq ?_
                refine rg ?_
                refine wmv h rfl fun a h => ?_
                refine wvl h (nei h rfl rfl) fun a h => ?_
                refine wn ?_
                refine cnd1 h rfl (fun hb43 => ?_) (fun hb43 => ?_)
                ·exact absurd hb43 (by first | decide | (simp; done))
                ·refine skp ?_
                 refine wp_seq ?_
                 refine rg ?_
                 refine wmv h rfl fun a h => ?_
                 refine wvl h (lenR h rfl Tryz.underlying30 (hp.rdF (i := 2) rfl)) fun a h => ?_
                 refine wvl h (fad h rfl fo32_4) fun a h => ?_
                 refine wvl h (ldo h hp rfl 0 rfl rfl ag30) fun a h => ?_
                 refine wvl h (lenR h rfl Tryz.underlying30 (hG.keep hp cl0).f) fun a h => ?_
                 refine wvl h (gtr h rfl rfl) fun a h => ?_
                 refine wmv h rfl fun a h => ?_
                 refine split (t := 148) h rfl (fun hb44 => ?_) (fun hb44 => ?_)
                 ·exact absurd hb44 (by first | decide | (simp only [Bool.not_eq_true', Bool.not_eq_false', Bool.not_eq_true, Bool.not_eq_false, decide_eq_true_eq, decide_eq_false_iff_not, gt_iff_lt, ge_iff_le]; omega) | (simp; done))
                 ·refine wl (stp_on h rfl rfl rfl hb44 (vl h (fad h rfl fo32_4) fun a h => ?_))
                  refine wl (stp_on h rfl rfl rfl hb44 (vl h (ldo h hp rfl 0 rfl rfl ag30) fun a h => ?_))
                  refine wl (stp_on h rfl rfl rfl hb44 (vl h (mov h rfl) fun a h => ?_))
                  refine wl (stp_on h rfl rfl rfl hb44 (cal h rfl en17_W39 (Set_T _ _ _ _ _ (hp.rdF (i := 2) rfl) (hG.keep hp cl0).f) fun u w37 ⟨e1, e2⟩ a h => ?_))
                  subst e1
                  have hp := hp.below e2
                  refine wl (stp_on h rfl rfl rfl hb44 (vl h (not_ h rfl) fun a h => ?_))
                  refine wvl h (pckF h rfl hb44 rfl) fun a h => ?_
                  refine wn ?_
                  refine cnd1 h rfl (fun hb45 => ?_) (fun hb45 => ?_)
                  ·exact absurd hb45 (by rw [show rising 0 ((e.feasts.length : Int) - 1) l9 = true from hs9]; decide)
                  ·refine skp ?_
                   refine rg ?_
                   refine wvl h (ldO (us := [_, _, _, _, _, _, _, _, _, _, _]) h hp rfl 0 rfl sz32 rfl ag32) fun a h => ?_
                   refine wmv h rfl fun a h => ?_
                   refine wmv h rfl fun a h => ?_
                   refine wmv h rfl fun a h => ?_
                   refine wmv h rfl fun a h => ?_
                   refine wl (cal h rfl en39 (Missed_s x e _ l9 d1 d2 lt _ ⟨(hE0.keep hp cl0).g, (hp.rdF (i := 2) rfl), hen, hs9⟩ hspl) fun u w38 ⟨⟨s24, e1, hf⟩, e2⟩ a h => ?_)
                   subst e1
                   have hp := hp.got (hp.below e2) (by decide) hf
                   refine wmv h rfl fun a h => ?_
                   refine wvl h (ext h rfl rfl) fun a h => ?_
                   refine wvl h (ext h rfl rfl) fun a h => ?_
                   refine wsg h rfl fun a h => ?_
                   refine wsg h rfl fun a h => ?_
                   refine wn ?_
                   refine wp_seq ?_
                   refine rg ?_
                   refine wmv h rfl fun a h => ?_
                   refine wvl h (nei h rfl rfl) fun a h => ?_
                   refine wmv h rfl fun a h => ?_
                   refine split (t := 166) h rfl (fun hb46 => ?_) (fun hb46 => ?_)
                   ·exact absurd hb46 (by first | decide | (simp; done))
                   ·refine wl (stp_on h rfl rfl rfl hb46 (vl h (mov h rfl) fun a h => ?_))
                    refine wl (stp_on h rfl rfl rfl hb46 (vl h (lenR h rfl Tryz.underlying50 (hp.rdF (i := 4) rfl)) fun a h => ?_))
                    refine wl (stp_on h rfl rfl rfl hb46 (vl h (nei h rfl rfl) fun a h => ?_))
                    refine wvl h (pckF h rfl hb46 rfl) fun a h => ?_
                    refine wn ?_
                    refine cnd1 h rfl (fun hb47 => ?_) (fun hb47 => ?_)
                    ·exact absurd hb47 (by have hq9 := List.length_eq_zero_iff.2 hsS.2.1; simp only [Bool.not_eq_true', Bool.not_eq_false', Bool.not_eq_true, Bool.not_eq_false, decide_eq_true_eq, decide_eq_false_iff_not, gt_iff_lt]; omega)
                    ·refine skp ?_
                     refine wp_seq ?_
                     refine rg ?_
                     refine wmv h rfl fun a h => ?_
                     refine wvl h (lenR h rfl Tryz.underlying50 (hp.rdF (i := 3) rfl)) fun a h => ?_
                     refine wvl h (gtr h rfl rfl) fun a h => ?_
                     refine wmv h rfl fun a h => ?_
                     refine split (t := 174) h rfl (fun hb48 => ?_) (fun hb48 => ?_)
                     ·refine wl (stp_off h rfl rfl rfl rfl rfl hb48 fun a h => ?_)
                      refine wl (stp_off h rfl rfl rfl rfl rfl hb48 fun a h => ?_)
                      refine wl (stp_off h rfl rfl rfl rfl rfl hb48 fun a h => ?_)
                      refine wl (stp_off h rfl rfl rfl rfl rfl hb48 fun a h => ?_)
                      refine wl (stp_off h rfl rfl rfl rfl rfl hb48 fun a h => ?_)
                      refine wvl h (pckT h rfl hb48 rfl) fun a h => ?_
                      refine wn ?_
                      refine cnd1 h rfl (fun _ => ?_) (fun e => nomatch e)
                      refine rg ?_
                      refine wl (cal h rfl en20_W39 (known_L _ (hGl.keep hp)) fun u w39 ⟨e1, e2⟩ a h => ?_)
                      subst e1
                      have hp := hp.below e2
                      refine wsg h rfl fun a h => ?_
                      refine wn ?_
                      refine wp_ret ?_
                      try simp only [xqs, ↓reduceIte, Nat.reduceEqDiff]
                      refine rt_1 h rfl (rvT h rfl) ?_
                      exact ⟨_, rfl, rfl, hp.bel⟩
                     ·have hWn : (missed e st d1 d2 lt) = [] := List.length_eq_zero_iff.1 (by have := of_decide_eq_false hb48; omega)
                      have hbt := hsS.2.2 st hsi hWn
                      have hbl := better_len hbt
                      refine wl (stp_on h rfl rfl rfl hb48 (vl h (mov h rfl) fun a h => ?_))
                      refine wl (stp_on h rfl rfl rfl hb48 (vl h (lenR h rfl Tryz.underlying30 (hS2.keep (by decide) hp cl0)) fun a h => ?_))
                      refine wl (stp_on h rfl rfl rfl hb48 (vl h (mov h rfl) fun a h => ?_))
                      refine wl (stp_on h rfl rfl rfl hb48 (vl h (lenR h rfl Tryz.underlying30 (hp.rdF (i := 2) rfl)) fun a h => ?_))
                      refine wl (stp_on h rfl rfl rfl hb48 (vl h (gtr h rfl rfl) fun a h => ?_))
                      refine wvl h (pckF h rfl hb48 rfl) fun a h => ?_
                      refine wn ?_
                      refine cnd1 h rfl (fun hb49 => ?_) (fun hb49 => ?_)
                      ·refine rg ?_
                       refine wl (cal h rfl en20_W39 (known_L _ (hGl.keep hp)) fun u w40 ⟨e1, e2⟩ a h => ?_)
                       subst e1
                       have hp := hp.below e2
                       refine wsg h rfl fun a h => ?_
                       refine wn ?_
                       refine wp_ret ?_
                       try simp only [xqs, ↓reduceIte, Nat.reduceEqDiff]
                       refine rt_1 h rfl (rvT h rfl) ?_
                       exact ⟨_, rfl, rfl, hp.bel⟩
                      ·have hle := of_decide_eq_false hb49
                       refine skp ?_
                       refine wp_seq ?_
                       refine rg ?_
                       refine wmv h rfl fun a h => ?_
                       refine wvl h (lenR h rfl Tryz.underlying30 (hS2.keep (by decide) hp cl0)) fun a h => ?_
                       refine wmv h rfl fun a h => ?_
                       refine wvl h (lenR h rfl Tryz.underlying30 (hp.rdF (i := 2) rfl)) fun a h => ?_
                       refine wvl h (lss h rfl rfl) fun a h => ?_
                       refine wn ?_
                       refine cnd1 h rfl (fun hb50 => ?_) (fun hb50 => ?_)
                       ·exact absurd hb50 (by first | decide | (simp only [Bool.not_eq_true', Bool.not_eq_false', Bool.not_eq_true, Bool.not_eq_false, decide_eq_true_eq, decide_eq_false_iff_not, gt_iff_lt, ge_iff_le]; omega) | (simp; done))
                       ·have hleq : st.length = l9.length := by omega
                        refine skp ?_
                        refine wp_seq ?_
                        refine rg ?_
                        refine wsg h rfl fun a h => ?_
                        refine wn ?_
                        refine lp1 h [1, 17, 55, 86, 106, 133, 135, 154, 170, 180, 186] (fun n f w' => ∃ k : Nat, k ≤ l9.length ∧ n = l9.length - k ∧ f = [(23, .int .i64 k)] ∧ Hp c0 w w' ([.blk g1 (.cells #[x.b.v, .int .i64 e.nnum, .int .i64 e.nden, .int .i64 e.nstart, x.s.v, x.m.v, x.n.v, x.f.v, .int .i64 e.new, .int .i64 e.full, .int .i64 e.wide] 32 (0, 0)), rdE encM 3 s21.v (missed { e with wide := wd } st d1 d2 lt), rdE encI 1 s22.v l9, rdE encM 3 s23.v (missed e st d1 d2 lt), rdE encM 3 s24.v (missed e l9 d1 d2 lt)]) ∧ st.take k = l9.take k) (l9.length) [(23, .int .i64 ((0 : Nat) : Int))] ⟨rfl, rfl, rfl, rfl, rfl, rfl, rfl, rfl, rfl, rfl, rfl, rfl, trivial⟩ ⟨0, Nat.zero_le _, rfl, rfl, hp, rfl⟩ ?_
                        rintro n f a w41 ⟨k, hk, rfl, rfl, hp, hTk⟩ h
                        have hfit := (hp.rdF (i := 2) rfl).fits
                        refine wp_seq ?_
                        refine rg ?_
                        refine wmv h rfl fun a h => ?_
                        refine wmv h rfl fun a h => ?_
                        refine wvl h (lenR h rfl Tryz.underlying30 (hp.rdF (i := 2) rfl)) fun a h => ?_
                        refine wvl h (lss h rfl rfl) fun a h => ?_
                        refine wn ?_
                        refine cnd1 h rfl (fun hb51 => ?_) (fun hb51 => ?_)
                        ·have hlt : k < l9.length := by have := of_decide_eq_true hb51; omega
                         obtain ⟨y, hy⟩ : ∃ y, l9[k]? = some y := ⟨_, List.getElem?_eq_getElem hlt⟩
                         obtain ⟨z, hys⟩ : ∃ z, st[k]? = some z := ⟨_, List.getElem?_eq_getElem (by omega)⟩
                         have hge := better_at hleq hTk hys hy hbt
                         refine skp ?_
                         refine blk ?_
                         refine rdh (n := 9) hp mixed rfl ?_
                         have hp := hp.drew
                         refine tkm 0 h rfl hp rfl fun a h => ?_
                         refine tkm 1 h rfl hp rfl fun a h => ?_
                         refine tkq 2 h rfl hp (fun W hp => iadR (k) h rfl rfl Tryz.underlying30 sz3 (hS2.keep (by decide) hp cl0) (rfl) (by omega)) fun a h => ?_
                         refine tkq 3 h rfl hp (fun W hp => ld0 h (hS2.keep (by decide) hp cl0) hys rfl ag3 rfl) fun a h => ?_
                         refine tkm 4 h rfl hp rfl fun a h => ?_
                         refine tkm 5 h rfl hp rfl fun a h => ?_
                         refine tkq 6 h rfl hp (fun W hp => iadR (k) h rfl rfl Tryz.underlying30 sz3 (hp.rdF (i := 2) rfl) (rfl) (by omega)) fun a h => ?_
                         refine tkq 7 h rfl hp (fun W hp => ld0 h (hp.rdF (i := 2) rfl) hy rfl ag3 rfl) fun a h => ?_
                         refine tkq 8 h rfl hp (fun W _ => nei h rfl rfl) fun a h => ?_
                         refine dn (by kernel_rfl) ?_
                         refine cnd1 h rfl (fun hb52 => ?_) (fun hb52 => ?_)
                         ·have hne : z ≠ y := by have hq9 := hb52; simpa using hq9
                          refine rdh (n := 13) hp mixed rfl ?_
                          have hp := hp.drew
                          refine tkm 0 h rfl hp rfl fun a h => ?_
                          refine tkm 1 h rfl hp rfl fun a h => ?_
                          refine tkq 2 h rfl hp (fun W hp => iadR (k) h rfl rfl Tryz.underlying30 sz3 (hS2.keep (by decide) hp cl0) (rfl) (by omega)) fun a h => ?_
                          refine tkq 3 h rfl hp (fun W hp => ld0 h (hS2.keep (by decide) hp cl0) hys rfl ag3 rfl) fun a h => ?_
                          refine tkm 4 h rfl hp rfl fun a h => ?_
                          refine tkm 5 h rfl hp rfl fun a h => ?_
                          refine tkq 6 h rfl hp (fun W hp => iadR (k) h rfl rfl Tryz.underlying30 sz3 (hp.rdF (i := 2) rfl) (rfl) (by omega)) fun a h => ?_
                          refine tkq 7 h rfl hp (fun W hp => ld0 h (hp.rdF (i := 2) rfl) hy rfl ag3 rfl) fun a h => ?_
                          refine tkq 8 h rfl hp (fun W _ => gtr h rfl rfl) fun a h => ?_
                          refine tkm 9 h rfl hp rfl fun a h => ?_
                          refine split (t := 211) h rfl (fun hb53 => ?_) (fun hb53 => ?_)
                          ·refine one 10 (by kernel_rfl) rfl (stp_on h rfl rfl rfl hb53 (cal h rfl en20_W39 (known_L _ (hGl.keep hp)) fun u w42 ⟨e1, e2⟩ a h => ⟨hp.below e2, ?_⟩))
                           subst e1
                           have hp := hp.below e2
                           refine tkq 11 h rfl hp (fun W _ => pckT h rfl hb53 rfl) fun a h => ?_
                           refine tka 12 h rfl hp rfl fun a h => ?_
                           refine dn (by kernel_rfl) ?_
                           refine wp_ret ?_
                           try simp only [xqs, ↓reduceIte, Nat.reduceEqDiff]
                           refine rt_1 h rfl (rvT h rfl) ?_
                           exact ⟨_, rfl, rfl, hp.bel⟩
                          ·exact absurd hb53 (by first | decide | (simp only [Bool.not_eq_true', Bool.not_eq_false', Bool.not_eq_true, Bool.not_eq_false, decide_eq_true_eq, decide_eq_false_iff_not, gt_iff_lt, ge_iff_le]; omega) | (simp; done))
                         ·have heq : z = y := by have hq9 := hb52; simpa using hq9
                          refine wp_skip ?_
                          refine rg1 ?_
                          refine wmv h rfl fun a h => ?_
                          refine wvl h (add h rfl rfl (by omega)) fun a h => ?_
                          refine wsg h rfl fun a h => ?_
                          refine wn ?_
                          exact ⟨_, _, (by omega), ⟨k + 1, by omega, rfl, rfl, hp.pre 5 rfl, take_eq hTk hys hy heq⟩, h.sub ⟨rfl, rfl, rfl, rfl, rfl, rfl, rfl, rfl, rfl, rfl, rfl, rfl, trivial⟩⟩
                        ·refine wp_exit ?_
                         try simp only [xqs, ↓reduceIte, Nat.reduceEqDiff]
                         refine rg ?_
                         refine wl (cal h rfl en20_W39 (known_L _ (hGl.keep hp)) fun u w43 ⟨e1, e2⟩ a h => ?_)
                         subst e1
                         have hp := hp.below e2
                         refine wsg h rfl fun a h => ?_
                         refine wn ?_
                         refine wp_ret ?_
                         try simp only [xqs, ↓reduceIte, Nat.reduceEqDiff]
                         refine rt_1 h rfl (rvT h rfl) ?_
                         exact ⟨_, rfl, rfl, hp.bel⟩
           ·exact absurd hb34 (by first | decide | (simp; done))
end Go.Proofs.Ec
