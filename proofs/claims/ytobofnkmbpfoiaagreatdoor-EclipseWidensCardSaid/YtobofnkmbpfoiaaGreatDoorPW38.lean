import Derived.Test.YtobofnkmbpfoiaaGreatDoorProg
import Derived.Test.YtobofnkmbpfoiaaGreatDoorPFa
import Derived.Test.YtobofnkmbpfoiaaGreatDoorPQb
import Derived.Test.YtobofnkmbpfoiaaGreatDoorPW31
import Derived.Test.YtobofnkmbpfoiaaGreatDoorPQa
set_option linter.unusedVariables false
set_option linter.unusedSimpArgs false
set_option maxRecDepth 4000
namespace Go.Proofs.Ec
open Go.RowKit Go.Proofs.Sx
open Ecl
theorem Widens_no {x : EV} {e : Eng} {s2 : SV} {st : List Int} {d1 d2 lt v : Int} {w : World} (hE0 : RdE w x e s2 st) (hspan : (inR d1 1 9000 && inR d2 d1 9000 && decide (d2 - d1 ≤ 400) && inR lt 0 30) = true) (hu : widens e st d1 d2 lt = v) (h : 5400 < v) : Ret Tryz.prog 45 #[.agg #[x.b.v, .int .i64 e.nnum, .int .i64 e.nden, .int .i64 e.nstart, x.s.v, x.m.v, x.n.v, x.f.v, .int .i64 e.new, .int .i64 e.full, .int .i64 e.wide], s2.v, .int .i64 d1, .int .i64 d2, .int .i64 lt] w fun u w' => u = .tuple #[.int .i64 0, .int .i64 5] ∧ Below w.heap.size w w' := by
 have := Widens_s x e s2 st d1 d2 lt w hE0 hspan
 rw [hu, if_neg (by omega)] at this
 exact this
theorem Widens_is {x : EV} {e : Eng} {s2 : SV} {st : List Int} {d1 d2 lt v : Int} {w : World} (hE0 : RdE w x e s2 st) (hspan : (inR d1 1 9000 && inR d2 d1 9000 && decide (d2 - d1 ≤ 400) && inR lt 0 30) = true) (hu : widens e st d1 d2 lt = v) (h : v ≤ 5400) : Ret Tryz.prog 45 #[.agg #[x.b.v, .int .i64 e.nnum, .int .i64 e.nden, .int .i64 e.nstart, x.s.v, x.m.v, x.n.v, x.f.v, .int .i64 e.new, .int .i64 e.full, .int .i64 e.wide], s2.v, .int .i64 d1, .int .i64 d2, .int .i64 lt] w fun u w' => u = .tuple #[.int .i64 v, .int .i64 0] ∧ Below w.heap.size w w' := by
 have := Widens_s x e s2 st d1 d2 lt w hE0 hspan
 rw [hu, if_pos h] at this
 exact this
theorem Widens_Rv {x : EV} {e : Eng} {s2 : SV} {st : List Int} {d1 d2 lt v : Int} {w : World} (hE0 : RdE w x e s2 st) (hab : 1 ≤ d1 ∧ d2 ≤ 9000 ∧ d2 - d1 ≤ 400 ∧ d1 ≤ d2) (hl : 0 ≤ lt ∧ lt ≤ 30) (hv : (if widens e st d1 d2 lt ≤ 5400 then widens e st d1 d2 lt else -1) = v) : Ret Tryz.prog 47 #[.agg #[x.b.v, .int .i64 e.nnum, .int .i64 e.nden, .int .i64 e.nstart, x.s.v, x.m.v, x.n.v, x.f.v, .int .i64 e.new, .int .i64 e.full, .int .i64 e.wide], s2.v, .int .i64 d1, .int .i64 d2, .int .i64 lt] w fun u w' => u = .int .i64 v ∧ Below w.heap.size w w' := by
 have := Widens_R x e s2 st d1 d2 lt w hE0 hab hl
 rw [hv] at this
 exact this
theorem Settings_no {x : EV} {e : Eng} {d1 d2 lt : Int} {w : World} (hG : RdG w x e) (hok : isEngine e = true) (hspan : (inR d1 1 9000 && inR d2 d1 9000 && decide (d2 - d1 ≤ 400) && inR lt 0 30) = true) (hs : settings e d1 d2 lt = none) : Ret Tryz.prog 46 #[.agg #[x.b.v, .int .i64 e.nnum, .int .i64 e.nden, .int .i64 e.nstart, x.s.v, x.m.v, x.n.v, x.f.v, .int .i64 e.new, .int .i64 e.full, .int .i64 e.wide], .int .i64 d1, .int .i64 d2, .int .i64 lt] w fun u w' => u = .tuple #[.slice none 0 0, .int .i64 5] ∧ Below w.heap.size w w' := by
 have := Settings_s x e d1 d2 lt w hG hok hspan
 rw [hs] at this
 exact this
theorem Settings_is {x : EV} {e : Eng} {d1 d2 lt : Int} {l : List Int} {w : World} (hG : RdG w x e) (hok : isEngine e = true) (hspan : (inR d1 1 9000 && inR d2 d1 9000 && decide (d2 - d1 ≤ 400) && inR lt 0 30) = true) (hs : settings e d1 d2 lt = some l) : Ret Tryz.prog 46 #[.agg #[x.b.v, .int .i64 e.nnum, .int .i64 e.nden, .int .i64 e.nstart, x.s.v, x.m.v, x.n.v, x.f.v, .int .i64 e.new, .int .i64 e.full, .int .i64 e.wide], .int .i64 d1, .int .i64 d2, .int .i64 lt] w fun u w' => (∃ s : SV, u = .tuple #[s.v, .int .i64 0] ∧ Fr w w' encI 1 s.v l) ∧ Below w.heap.size w w' := by
 have := Settings_s x e d1 d2 lt w hG hok hspan
 rw [hs] at this
 exact this
theorem Settings_Rn {x : EV} {e : Eng} {d1 d2 lt : Int} {w : World} (hG : RdG w x e) (hok : isEngine e = true) (hab : 1 ≤ d1 ∧ d2 ≤ 9000 ∧ d2 - d1 ≤ 400 ∧ d1 ≤ d2) (hl : 0 ≤ lt ∧ lt ≤ 30) (hs : settings e d1 d2 lt = none) : Ret Tryz.prog 48 #[.agg #[x.b.v, .int .i64 e.nnum, .int .i64 e.nden, .int .i64 e.nstart, x.s.v, x.m.v, x.n.v, x.f.v, .int .i64 e.new, .int .i64 e.full, .int .i64 e.wide], .int .i64 d1, .int .i64 d2, .int .i64 lt] w fun u w' => u = .tuple #[.slice none 0 0, .bool false] ∧ Below w.heap.size w w' := by
 have := Settings_R x e d1 d2 lt w hG hok hab hl
 rw [hs] at this
 exact this
theorem Settings_Rs {x : EV} {e : Eng} {d1 d2 lt : Int} {l : List Int} {w : World} (hG : RdG w x e) (hok : isEngine e = true) (hab : 1 ≤ d1 ∧ d2 ≤ 9000 ∧ d2 - d1 ≤ 400 ∧ d1 ≤ d2) (hl : 0 ≤ lt ∧ lt ≤ 30) (hs : settings e d1 d2 lt = some l) : Ret Tryz.prog 48 #[.agg #[x.b.v, .int .i64 e.nnum, .int .i64 e.nden, .int .i64 e.nstart, x.s.v, x.m.v, x.n.v, x.f.v, .int .i64 e.new, .int .i64 e.full, .int .i64 e.wide], .int .i64 d1, .int .i64 d2, .int .i64 lt] w fun u w' => (∃ s : SV, u = .tuple #[s.v, .bool true] ∧ Fr w w' encI 1 s.v l) ∧ Below w.heap.size w w' := by
 have := Settings_R x e d1 d2 lt w hG hok hab hl
 rw [hs] at this
 exact this
theorem bad4q {a b c d : Bool} (h1 : a = true) (h2 : b = true) (h3 : (!c) = false) : ¬ ((a && (b && c)) = false) := by cases a <;> cases b <;> cases c <;> simp_all
theorem EclipseWidens_g (x : EV) (e : Eng) (s2 : SV) (st : List Int) (d1 d2 lt : Int) (w : World) (hE0 : RdE w x e s2 st) (hGl : Glb w) (hspl : (inR d1 1 9000 && inR d2 d1 9000 && decide (d2 - d1 ≤ 400) && inR lt 0 30) = true) : Ret Tryz.prog 10 #[.agg #[x.b.v, .int .i64 e.nnum, .int .i64 e.nden, .int .i64 e.nstart, x.s.v, x.m.v, x.n.v, x.f.v, .int .i64 e.new, .int .i64 e.full, .int .i64 e.wide], s2.v, .int .i64 d1, .int .i64 d2, .int .i64 lt] w fun u w' => u = .bool true ∧ Below w.heap.size w w' := by
 have hen := hE0.ok
 have hG := hE0.g
 have hS2 := hE0.s
 have hse := isSet_rise hE0.set
 have hsn : isSpan d1 d2 = true := (Bool.and_eq_true _ _ ▸ hspl).1
 have hla : isLate lt = true := (Bool.and_eq_true _ _ ▸ hspl).2
 have hd := hsn
 simp only [isSpan, inR, Bool.and_eq_true, decide_eq_true_eq] at hd
 have hld := hla
 simp only [isLate, inR, Bool.and_eq_true, decide_eq_true_eq] at hld
 have hp : Hp c0 w w [] := Hp.start trivial
 refine enter Tryz.func10 rfl (N := 138) rfl rfl fun a h => ?_
 refine rg ?_
 refine wl (box (cs := #[_, _, _, _, _, _, _, _, _, _, _]) h hp rfl rfl fun a w1 g1 hg1 h hp => ?_)
 refine wsn h rfl fun a h => ?_
 refine wp_seq ?_
 refine rg ?_
 refine wvl h (ldO (us := [_, _, _, _, _, _, _, _, _, _, _]) h hp rfl 0 rfl sz32 rfl ag32) fun a h => ?_
 refine wmv h rfl fun a h => ?_
 refine wl (cal h rfl en15 (short_L x e s2 st _ (hG.keep hp cl0) (hS2.keep (by decide) hp cl0)) fun u w2 ⟨⟨bsh, e1⟩, e2⟩ a h => ?_)
 subst e1
 have hp := hp.below e2
 refine wvl h (not_ h rfl) fun a h => ?_
 refine wn ?_
 refine cnd1 h rfl (fun hb1 => ?_) (fun hb1 => ?_)
 ·refine rg ?_
  refine wl (cal h rfl en20 (known_L _ (hGl.keep hp)) fun u w3 ⟨e1, e2⟩ a h => ?_)
  subst e1
  have hp := hp.below e2
  refine wsn h rfl fun a h => ?_
  refine wp_ret ?_
  try simp only [xqs]
  refine rt_1 h rfl (rvT h rfl) ?_
  exact ⟨_, rfl, rfl, hp.bel⟩
 refine skp ?_
 refine rg ?_
 obtain ⟨v, hww⟩ : ∃ v, widens e st d1 d2 lt = v := ⟨_, rfl⟩
 have hw0 := widens_nonneg (e := e) (set := st) d1 d2 lt
 rw [hww] at hw0
 rcases (by omega : 5400 < v ∨ v ≤ 5400) with hc | hc
 ·have hwv : (if widens e st d1 d2 lt ≤ 5400 then widens e st d1 d2 lt else -1) = -1 := by rw [hww, if_neg (by omega)]
  refine wvl h (ldO (us := [_, _, _, _, _, _, _, _, _, _, _]) h hp rfl 0 rfl sz32 rfl ag32) fun a h => ?_
  refine wm3 h rfl rfl rfl rfl rfl rfl fun a h => ?_
  refine wmv h rfl fun a h => ?_
  refine wl (cal h rfl en45 (Widens_no (hE0.keep hp cl0) hspl hww hc) fun u w4 ⟨e1, e2⟩ a h => ?_)
  subst e1
  have hp := hp.below e2
  refine wmv h rfl fun a h => ?_
  refine wvl h (ext h rfl rfl) fun a h => ?_
  refine wvl h (ext h rfl rfl) fun a h => ?_
  refine ws2 h rfl rfl rfl rfl fun a h => ?_
  refine rg ?_
  rcases hst : settings e d1 d2 lt with _ | l9
  ·refine wvl h (ldO (us := [_, _, _, _, _, _, _, _, _, _, _]) h hp rfl 0 rfl sz32 rfl ag32) fun a h => ?_
   refine wm3 h rfl rfl rfl rfl rfl rfl fun a h => ?_
   refine wl (cal h rfl en46 (Settings_no (hE0.g.keep hp cl0) hE0.ok hspl hst) fun u w5 ⟨e1, e2⟩ a h => ?_)
   subst e1
   have hp := hp.below e2
   refine wmv h rfl fun a h => ?_
   refine wvl h (ext h rfl rfl) fun a h => ?_
   refine wvl h (ext h rfl rfl) fun a h => ?_
   refine ws2 h rfl rfl rfl rfl fun a h => ?_
   refine rg ?_
   refine wvl h (ldO (us := [_, _, _, _, _, _, _, _, _, _, _]) h hp rfl 0 rfl sz32 rfl ag32) fun a h => ?_
   refine wl (cal h rfl en16 (Engine_R x e _ (by first | exact hG.keep hp cl0 | exact (hE0.keep hp cl0).g)) fun u w6 ⟨e1, e2⟩ a h => ?_)
   subst e1
   have hp := hp.below e2
   refine wmv h rfl fun a h => ?_
   refine split (t := 43) h rfl (fun hb2 => ?_) (fun hb2 => ?_)
   ·refine wl (stp_on h rfl rfl rfl hb2 (vl h (mov h rfl) fun a h => ?_))
    refine wl (stp_on h rfl rfl rfl hb2 (vl h (mov h rfl) fun a h => ?_))
    refine wl (stp_on h rfl rfl rfl hb2 (cal h rfl en26 (Span_R _ _ _) fun u w7 ⟨e1, e2⟩ a h => ?_))
    subst e1
    subst e2
    refine wvl h (pckT h rfl hb2 rfl) fun a h => ?_
    refine wmv h rfl fun a h => ?_
    refine split (t := 48) h rfl (fun hb3 => ?_) (fun hb3 => ?_)
    ·refine wl (stp_on h rfl rfl rfl hb3 (vl h (mov h rfl) fun a h => ?_))
     refine wl (stp_on h rfl rfl rfl hb3 (cal h rfl en37 (Late_R _ _) fun u w8 ⟨e1, e2⟩ a h => ?_))
     subst e1
     subst e2
     refine wvl h (pckT h rfl hb3 rfl) fun a h => ?_
     refine wsn h rfl fun a h => ?_
     refine wp_seq ?_
     refine rg ?_
     refine wmv h rfl fun a h => ?_
     refine wvl h (not_ h rfl) fun a h => ?_
     refine wmv h rfl fun a h => ?_
     refine split (t := 54) h rfl (fun hb4 => ?_) (fun hb4 => ?_)
     ·exact absurd hb4 (by first | decide | (rw [hen]; decide) | (rw [hla]; decide) | (simp [hen, hla, show isSpan d1 d2 = true from hsn]; done))
     refine wl (stp_on h rfl rfl rfl hb4 (vl h (fad h rfl fo32_4) fun a h => ?_))
     refine wl (stp_on h rfl rfl rfl hb4 (vl h (ldo h hp rfl 0 rfl rfl ag30) fun a h => ?_))
     refine wl (stp_on h rfl rfl rfl hb4 (vl h (mov h rfl) fun a h => ?_))
     refine wl (stp_on h rfl rfl rfl hb4 (cal h rfl en17 (Set_T _ _ _ _ _ (hE0.keep hp cl0).s (hE0.keep hp cl0).g.f) fun u w9 ⟨e1, e2⟩ a h => ?_))
     subst e1
     have hp := hp.below e2
     refine wl (stp_on h rfl rfl rfl hb4 (vl h (not_ h rfl) fun a h => ?_))
     refine wvl h (pckF h rfl hb4 rfl) fun a h => ?_
     refine wn ?_
     refine cnd1 h rfl (fun hb5 => ?_) (fun hb5 => ?_)
     ·exact absurd hb5 (by rw [show rising 0 ((e.feasts.length : Int) - 1) st = true from hse]; decide)
     refine rg ?_
     refine wvl h (ldO (us := [_, _, _, _, _, _, _, _, _, _, _]) h hp rfl 0 rfl sz32 rfl ag32) fun a h => ?_
     refine wm3 h rfl rfl rfl rfl rfl rfl fun a h => ?_
     refine wmv h rfl fun a h => ?_
     refine wl (cal h rfl en47 (Widens_Rv (hE0.keep hp cl0) (by omega) (by omega) hwv) fun u w10 ⟨e1, e2⟩ a h => ?_)
     subst e1
     have hp := hp.below e2
     refine wsn h rfl fun a h => ?_
     refine rg ?_
     refine wmv h rfl fun a h => ?_
     refine wvl h (lss h rfl rfl) fun a h => ?_
     refine wmv h rfl fun a h => ?_
     refine split (t := 75) h rfl (fun hb6 => ?_) (fun hb6 => ?_)
     ·refine wl (stp_on h rfl rfl rfl hb6 (vl h (mov h rfl) fun a h => ?_))
      refine wl (stp_on h rfl rfl rfl hb6 (vl h (nei h rfl rfl) fun a h => ?_))
      refine wl (stp_on h rfl rfl rfl hb6 (vl h (mov h rfl) fun a h => ?_))
      refine split (t := 78) h rfl (fun hb7 => ?_) (fun hb7 => ?_)
      ·exact absurd hb7 (by first | decide | (simp only [Bool.not_eq_true', Bool.not_eq_false', Bool.not_eq_true, Bool.not_eq_false, decide_eq_true_eq, decide_eq_false_iff_not, gt_iff_lt, ge_iff_le]; omega) | (simp; done))
      refine wl (stp_on h rfl rfl rfl hb7 (vl h (mov h rfl) fun a h => ?_))
      refine wl (stp_on h rfl rfl rfl hb7 (vl h (nei h rfl rfl) fun a h => ?_))
      refine wl (stp_on h rfl rfl rfl hb6 (vl h (pckF h rfl hb7 rfl) fun a h => ?_))
      refine wvl h (pckT h rfl hb6 rfl) fun a h => ?_
      refine wmv h rfl fun a h => ?_
      refine split (t := 83) h rfl (fun hb8 => ?_) (fun hb8 => ?_)
      ·exact absurd hb8 (by first | decide | (simp only [Bool.not_eq_true', Bool.not_eq_false', Bool.not_eq_true, Bool.not_eq_false, decide_eq_true_eq, decide_eq_false_iff_not, gt_iff_lt, ge_iff_le]; omega) | (simp; done))
      refine wl (stp_on h rfl rfl rfl hb8 (vl h (mov h rfl) fun a h => ?_))
      refine wl (stp_on h rfl rfl rfl hb8 (vl h (geq h rfl rfl) fun a h => ?_))
      refine wl (stp_on h rfl rfl rfl hb8 (vl h (mov h rfl) fun a h => ?_))
      refine split (t := 86) h rfl (fun hb9 => ?_) (fun hb9 => ?_)
      ·exact absurd hb9 (by first | decide | (simp only [Bool.not_eq_true', Bool.not_eq_false', Bool.not_eq_true, Bool.not_eq_false, decide_eq_true_eq, decide_eq_false_iff_not, gt_iff_lt, ge_iff_le]; omega) | (simp; done))
      refine wl (stp_off h rfl rfl rfl rfl rfl hb9 fun a h => ?_)
      refine wl (stp_off h rfl rfl rfl rfl rfl hb9 fun a h => ?_)
      refine wl (stp_off h rfl rfl rfl rfl rfl hb9 fun a h => ?_)
      refine wl (stp_un h rfl rfl rfl rfl rfl fun a h => ?_)
      refine wl (stp_un h rfl rfl rfl rfl rfl fun a h => ?_)
      refine wl (stp_un h rfl rfl rfl rfl rfl fun a h => ?_)
      refine wl (stp_off h rfl rfl rfl rfl rfl hb9 fun a h => ?_)
      refine wl (stp_on h rfl rfl rfl hb8 (vl h (pckF h rfl hb9 rfl) fun a h => ?_))
      refine wvl h (pckF h rfl hb8 rfl) fun a h => ?_
      refine wn ?_
      refine cnd1 h rfl (fun e => nomatch e) (fun _ => ?_)
      refine skp ?_
      refine wp_seq ?_
      refine rg ?_
      refine wmv h rfl fun a h => ?_
      refine wvl h (not_ h rfl) fun a h => ?_
      refine wn ?_
      refine cnd1 h rfl (fun hb10 => ?_) (fun hb10 => ?_)
      ·exact absurd hb10 (by first | decide | (rw [hen]; decide) | (rw [hla]; decide) | (simp [hen, hla, show isSpan d1 d2 = true from hsn]; done))
      refine skp ?_
      refine rg ?_
      refine wvl h (ldO (us := [_, _, _, _, _, _, _, _, _, _, _]) h hp rfl 0 rfl sz32 rfl ag32) fun a h => ?_
      refine wm3 h rfl rfl rfl rfl rfl rfl fun a h => ?_
      refine wl (cal h rfl en48 (Settings_Rn (hE0.g.keep hp cl0) hE0.ok (by omega) (by omega) hst) fun u w11 ⟨e1, e2⟩ a h => ?_)
      subst e1
      have hp := hp.below e2
      refine wmv h rfl fun a h => ?_
      refine wvl h (ext h rfl rfl) fun a h => ?_
      refine wvl h (ext h rfl rfl) fun a h => ?_
      refine ws2 h rfl rfl rfl rfl fun a h => ?_
      refine wp_seq ?_
      refine rg ?_
      refine wmv h rfl fun a h => ?_
      refine wvl h (not_ h rfl) fun a h => ?_
      refine wn ?_
      refine cnd1 h rfl (fun hb11 => ?_) (fun hb11 => ?_)
      ·refine rg ?_
       refine wmv h rfl fun a h => ?_
       refine wvl h (eqi h rfl rfl) fun a h => ?_
       refine wmv h rfl fun a h => ?_
       refine split (t := 120) h rfl (fun hb12 => ?_) (fun hb12 => ?_)
       ·refine wl (stp_on h rfl rfl rfl hb12 (vl h (mov h rfl) fun a h => ?_))
        refine wl (stp_on h rfl rfl rfl hb12 (vl h (len_ h rfl Tryz.underlying30) fun a h => ?_))
        refine wl (stp_on h rfl rfl rfl hb12 (vl h (eqi h rfl rfl) fun a h => ?_))
        refine wvl h (pckT h rfl hb12 rfl) fun a h => ?_
        refine wmv h rfl fun a h => ?_
        refine split (t := 125) h rfl (fun hb13 => ?_) (fun hb13 => ?_)
        ·refine wl (stp_on h rfl rfl rfl hb13 (cal h rfl en20 (known_L _ (hGl.keep hp)) fun u w12 ⟨e1, e2⟩ a h => ?_))
         subst e1
         have hp := hp.below e2
         refine wvl h (pckT h rfl hb13 rfl) fun a h => ?_
         refine wsn h rfl fun a h => ?_
         refine wp_ret ?_
         try simp only [xqs]
         refine rt_1 h rfl (rvT h rfl) ?_
         exact ⟨_, rfl, rfl, hp.bel⟩
        exact absurd hb13 (by first | decide | (simp; done))
       exact absurd hb12 (by first | decide | (simp; done))
      exact absurd hb11 (by decide)
     exact absurd hb6 (by first | decide | (simp only [Bool.not_eq_true', Bool.not_eq_false', Bool.not_eq_true, Bool.not_eq_false, decide_eq_true_eq, decide_eq_false_iff_not, gt_iff_lt, ge_iff_le]; omega) | (simp; done))
    exact absurd hb3 (by rw [show isSpan d1 d2 = true from hsn]; decide)
   exact absurd hb2 (by first | decide | (rw [hen]; decide) | (rw [hla]; decide) | (simp [hen, hla, show isSpan d1 d2 = true from hsn]; done))
  refine wvl h (ldO (us := [_, _, _, _, _, _, _, _, _, _, _]) h hp rfl 0 rfl sz32 rfl ag32) fun a h => ?_
  refine wm3 h rfl rfl rfl rfl rfl rfl fun a h => ?_
  refine wl (cal h rfl en46 (Settings_is (hE0.g.keep hp cl0) hE0.ok hspl hst) fun u w13 ⟨⟨s21, e1, hf⟩, e2⟩ a h => ?_)
  subst e1
  have hp := hp.got (hp.below e2) (by decide) hf
  refine wmv h rfl fun a h => ?_
  refine wvl h (ext h rfl rfl) fun a h => ?_
  refine wvl h (ext h rfl rfl) fun a h => ?_
  refine ws2 h rfl rfl rfl rfl fun a h => ?_
  refine rg ?_
  refine wvl h (ldO (us := [_, _, _, _, _, _, _, _, _, _, _]) h hp rfl 0 rfl sz32 rfl ag32) fun a h => ?_
  refine wl (cal h rfl en16 (Engine_R x e _ (by first | exact hG.keep hp cl0 | exact (hE0.keep hp cl0).g)) fun u w14 ⟨e1, e2⟩ a h => ?_)
  subst e1
  have hp := hp.below e2
  refine wmv h rfl fun a h => ?_
  refine split (t := 43) h rfl (fun hb14 => ?_) (fun hb14 => ?_)
  ·refine wl (stp_on h rfl rfl rfl hb14 (vl h (mov h rfl) fun a h => ?_))
   refine wl (stp_on h rfl rfl rfl hb14 (vl h (mov h rfl) fun a h => ?_))
   refine wl (stp_on h rfl rfl rfl hb14 (cal h rfl en26 (Span_R _ _ _) fun u w15 ⟨e1, e2⟩ a h => ?_))
   subst e1
   subst e2
   refine wvl h (pckT h rfl hb14 rfl) fun a h => ?_
   refine wmv h rfl fun a h => ?_
   refine split (t := 48) h rfl (fun hb15 => ?_) (fun hb15 => ?_)
   ·refine wl (stp_on h rfl rfl rfl hb15 (vl h (mov h rfl) fun a h => ?_))
    refine wl (stp_on h rfl rfl rfl hb15 (cal h rfl en37 (Late_R _ _) fun u w16 ⟨e1, e2⟩ a h => ?_))
    subst e1
    subst e2
    refine wvl h (pckT h rfl hb15 rfl) fun a h => ?_
    refine wsn h rfl fun a h => ?_
    refine wp_seq ?_
    refine rg ?_
    refine wmv h rfl fun a h => ?_
    refine wvl h (not_ h rfl) fun a h => ?_
    refine wmv h rfl fun a h => ?_
    refine split (t := 54) h rfl (fun hb16 => ?_) (fun hb16 => ?_)
    ·exact absurd hb16 (by first | decide | (rw [hen]; decide) | (rw [hla]; decide) | (simp [hen, hla, show isSpan d1 d2 = true from hsn]; done))
    refine wl (stp_on h rfl rfl rfl hb16 (vl h (fad h rfl fo32_4) fun a h => ?_))
    refine wl (stp_on h rfl rfl rfl hb16 (vl h (ldo h hp rfl 0 rfl rfl ag30) fun a h => ?_))
    refine wl (stp_on h rfl rfl rfl hb16 (vl h (mov h rfl) fun a h => ?_))
    refine wl (stp_on h rfl rfl rfl hb16 (cal h rfl en17 (Set_T _ _ _ _ _ (hE0.keep hp cl0).s (hE0.keep hp cl0).g.f) fun u w17 ⟨e1, e2⟩ a h => ?_))
    subst e1
    have hp := hp.below e2
    refine wl (stp_on h rfl rfl rfl hb16 (vl h (not_ h rfl) fun a h => ?_))
    refine wvl h (pckF h rfl hb16 rfl) fun a h => ?_
    refine wn ?_
    refine cnd1 h rfl (fun hb17 => ?_) (fun hb17 => ?_)
    ·exact absurd hb17 (by rw [show rising 0 ((e.feasts.length : Int) - 1) st = true from hse]; decide)
    refine rg ?_
    refine wvl h (ldO (us := [_, _, _, _, _, _, _, _, _, _, _]) h hp rfl 0 rfl sz32 rfl ag32) fun a h => ?_
    refine wm3 h rfl rfl rfl rfl rfl rfl fun a h => ?_
    refine wmv h rfl fun a h => ?_
    refine wl (cal h rfl en47 (Widens_Rv (hE0.keep hp cl0) (by omega) (by omega) hwv) fun u w18 ⟨e1, e2⟩ a h => ?_)
    subst e1
    have hp := hp.below e2
    refine wsn h rfl fun a h => ?_
    refine rg ?_
    refine wmv h rfl fun a h => ?_
    refine wvl h (lss h rfl rfl) fun a h => ?_
    refine wmv h rfl fun a h => ?_
    refine split (t := 75) h rfl (fun hb18 => ?_) (fun hb18 => ?_)
    ·refine wl (stp_on h rfl rfl rfl hb18 (vl h (mov h rfl) fun a h => ?_))
     refine wl (stp_on h rfl rfl rfl hb18 (vl h (nei h rfl rfl) fun a h => ?_))
     refine wl (stp_on h rfl rfl rfl hb18 (vl h (mov h rfl) fun a h => ?_))
     refine split (t := 78) h rfl (fun hb19 => ?_) (fun hb19 => ?_)
     ·exact absurd hb19 (by first | decide | (simp only [Bool.not_eq_true', Bool.not_eq_false', Bool.not_eq_true, Bool.not_eq_false, decide_eq_true_eq, decide_eq_false_iff_not, gt_iff_lt, ge_iff_le]; omega) | (simp; done))
     refine wl (stp_on h rfl rfl rfl hb19 (vl h (mov h rfl) fun a h => ?_))
     refine wl (stp_on h rfl rfl rfl hb19 (vl h (nei h rfl rfl) fun a h => ?_))
     refine wl (stp_on h rfl rfl rfl hb18 (vl h (pckF h rfl hb19 rfl) fun a h => ?_))
     refine wvl h (pckT h rfl hb18 rfl) fun a h => ?_
     refine wmv h rfl fun a h => ?_
     refine split (t := 83) h rfl (fun hb20 => ?_) (fun hb20 => ?_)
     ·exact absurd hb20 (by first | decide | (simp only [Bool.not_eq_true', Bool.not_eq_false', Bool.not_eq_true, Bool.not_eq_false, decide_eq_true_eq, decide_eq_false_iff_not, gt_iff_lt, ge_iff_le]; omega) | (simp; done))
     refine wl (stp_on h rfl rfl rfl hb20 (vl h (mov h rfl) fun a h => ?_))
     refine wl (stp_on h rfl rfl rfl hb20 (vl h (geq h rfl rfl) fun a h => ?_))
     refine wl (stp_on h rfl rfl rfl hb20 (vl h (mov h rfl) fun a h => ?_))
     refine split (t := 86) h rfl (fun hb21 => ?_) (fun hb21 => ?_)
     ·exact absurd hb21 (by first | decide | (simp only [Bool.not_eq_true', Bool.not_eq_false', Bool.not_eq_true, Bool.not_eq_false, decide_eq_true_eq, decide_eq_false_iff_not, gt_iff_lt, ge_iff_le]; omega) | (simp; done))
     refine wl (stp_off h rfl rfl rfl rfl rfl hb21 fun a h => ?_)
     refine wl (stp_off h rfl rfl rfl rfl rfl hb21 fun a h => ?_)
     refine wl (stp_off h rfl rfl rfl rfl rfl hb21 fun a h => ?_)
     refine wl (stp_un h rfl rfl rfl rfl rfl fun a h => ?_)
     refine wl (stp_un h rfl rfl rfl rfl rfl fun a h => ?_)
     refine wl (stp_un h rfl rfl rfl rfl rfl fun a h => ?_)
     refine wl (stp_off h rfl rfl rfl rfl rfl hb21 fun a h => ?_)
     refine wl (stp_on h rfl rfl rfl hb20 (vl h (pckF h rfl hb21 rfl) fun a h => ?_))
     refine wvl h (pckF h rfl hb20 rfl) fun a h => ?_
     refine wn ?_
     refine cnd1 h rfl (fun e => nomatch e) (fun _ => ?_)
     refine skp ?_
     refine wp_seq ?_
     refine rg ?_
     refine wmv h rfl fun a h => ?_
     refine wvl h (not_ h rfl) fun a h => ?_
     refine wn ?_
     refine cnd1 h rfl (fun hb22 => ?_) (fun hb22 => ?_)
     ·exact absurd hb22 (by first | decide | (rw [hen]; decide) | (rw [hla]; decide) | (simp [hen, hla, show isSpan d1 d2 = true from hsn]; done))
     refine skp ?_
     refine rg ?_
     refine wvl h (ldO (us := [_, _, _, _, _, _, _, _, _, _, _]) h hp rfl 0 rfl sz32 rfl ag32) fun a h => ?_
     refine wm3 h rfl rfl rfl rfl rfl rfl fun a h => ?_
     refine wl (cal h rfl en48 (Settings_Rs (hE0.g.keep hp cl0) hE0.ok (by omega) (by omega) hst) fun u w19 ⟨⟨s22, e1, hf⟩, e2⟩ a h => ?_)
     subst e1
     have hp := hp.got (hp.below e2) (by decide) hf
     refine wmv h rfl fun a h => ?_
     refine wvl h (ext h rfl rfl) fun a h => ?_
     refine wvl h (ext h rfl rfl) fun a h => ?_
     refine ws2 h rfl rfl rfl rfl fun a h => ?_
     refine wp_seq ?_
     refine rg ?_
     refine wmv h rfl fun a h => ?_
     refine wvl h (not_ h rfl) fun a h => ?_
     refine wn ?_
     refine cnd1 h rfl (fun hb23 => ?_) (fun hb23 => ?_)
     ·exact absurd hb23 (by decide)
     refine skp ?_
     refine rg ?_
     refine wmv h rfl fun a h => ?_
     refine wvl h (eqi h rfl rfl) fun a h => ?_
     refine wmv h rfl fun a h => ?_
     refine split (t := 130) h rfl (fun hb24 => ?_) (fun hb24 => ?_)
     ·refine wl (stp_on h rfl rfl rfl hb24 (vl h (mov h rfl) fun a h => ?_))
      refine wl (stp_on h rfl rfl rfl hb24 (vl h (mov h rfl) fun a h => ?_))
      refine wl (stp_on h rfl rfl rfl hb24 (cal h rfl en49 (Same_S _ _ _ _ _ (hp.rdF (i := 1) rfl) (hp.rdF (i := 2) rfl)) fun u w20 ⟨e1, e2⟩ a h => ?_))
      subst e1
      have hp := hp.below e2
      refine wvl h (pckT h rfl hb24 rfl) fun a h => ?_
      refine wmv h rfl fun a h => ?_
      refine split (t := 135) h rfl (fun hb25 => ?_) (fun hb25 => ?_)
      ·refine wl (stp_on h rfl rfl rfl hb25 (cal h rfl en20 (known_L _ (hGl.keep hp)) fun u w21 ⟨e1, e2⟩ a h => ?_))
       subst e1
       have hp := hp.below e2
       refine wvl h (pckT h rfl hb25 rfl) fun a h => ?_
       refine wsn h rfl fun a h => ?_
       refine wp_ret ?_
       try simp only [xqs]
       refine rt_1 h rfl (rvT h rfl) ?_
       exact ⟨_, rfl, rfl, hp.bel⟩
      exact absurd hb25 (by first | decide | (simp; done))
     exact absurd hb24 (by first | decide | (simp; done))
    exact absurd hb18 (by first | decide | (simp only [Bool.not_eq_true', Bool.not_eq_false', Bool.not_eq_true, Bool.not_eq_false, decide_eq_true_eq, decide_eq_false_iff_not, gt_iff_lt, ge_iff_le]; omega) | (simp; done))
   exact absurd hb15 (by rw [show isSpan d1 d2 = true from hsn]; decide)
  exact absurd hb14 (by first | decide | (rw [hen]; decide) | (rw [hla]; decide) | (simp [hen, hla, show isSpan d1 d2 = true from hsn]; done))
 have hwv : (if widens e st d1 d2 lt ≤ 5400 then widens e st d1 d2 lt else -1) = v := by rw [hww, if_pos (by omega)]
 refine wvl h (ldO (us := [_, _, _, _, _, _, _, _, _, _, _]) h hp rfl 0 rfl sz32 rfl ag32) fun a h => ?_
 refine wm3 h rfl rfl rfl rfl rfl rfl fun a h => ?_
 refine wmv h rfl fun a h => ?_
 refine wl (cal h rfl en45 (Widens_is (hE0.keep hp cl0) hspl hww hc) fun u w22 ⟨e1, e2⟩ a h => ?_)
 subst e1
 have hp := hp.below e2
 refine wmv h rfl fun a h => ?_
 refine wvl h (ext h rfl rfl) fun a h => ?_
 refine wvl h (ext h rfl rfl) fun a h => ?_
 refine ws2 h rfl rfl rfl rfl fun a h => ?_
 refine rg ?_
 rcases hst : settings e d1 d2 lt with _ | l9
 ·refine wvl h (ldO (us := [_, _, _, _, _, _, _, _, _, _, _]) h hp rfl 0 rfl sz32 rfl ag32) fun a h => ?_
  refine wm3 h rfl rfl rfl rfl rfl rfl fun a h => ?_
  refine wl (cal h rfl en46 (Settings_no (hE0.g.keep hp cl0) hE0.ok hspl hst) fun u w23 ⟨e1, e2⟩ a h => ?_)
  subst e1
  have hp := hp.below e2
  refine wmv h rfl fun a h => ?_
  refine wvl h (ext h rfl rfl) fun a h => ?_
  refine wvl h (ext h rfl rfl) fun a h => ?_
  refine ws2 h rfl rfl rfl rfl fun a h => ?_
  refine rg ?_
  refine wvl h (ldO (us := [_, _, _, _, _, _, _, _, _, _, _]) h hp rfl 0 rfl sz32 rfl ag32) fun a h => ?_
  refine wl (cal h rfl en16 (Engine_R x e _ (by first | exact hG.keep hp cl0 | exact (hE0.keep hp cl0).g)) fun u w24 ⟨e1, e2⟩ a h => ?_)
  subst e1
  have hp := hp.below e2
  refine wmv h rfl fun a h => ?_
  refine split (t := 43) h rfl (fun hb26 => ?_) (fun hb26 => ?_)
  ·refine wl (stp_on h rfl rfl rfl hb26 (vl h (mov h rfl) fun a h => ?_))
   refine wl (stp_on h rfl rfl rfl hb26 (vl h (mov h rfl) fun a h => ?_))
   refine wl (stp_on h rfl rfl rfl hb26 (cal h rfl en26 (Span_R _ _ _) fun u w25 ⟨e1, e2⟩ a h => ?_))
   subst e1
   subst e2
   refine wvl h (pckT h rfl hb26 rfl) fun a h => ?_
   refine wmv h rfl fun a h => ?_
   refine split (t := 48) h rfl (fun hb27 => ?_) (fun hb27 => ?_)
   ·refine wl (stp_on h rfl rfl rfl hb27 (vl h (mov h rfl) fun a h => ?_))
    refine wl (stp_on h rfl rfl rfl hb27 (cal h rfl en37 (Late_R _ _) fun u w26 ⟨e1, e2⟩ a h => ?_))
    subst e1
    subst e2
    refine wvl h (pckT h rfl hb27 rfl) fun a h => ?_
    refine wsn h rfl fun a h => ?_
    refine wp_seq ?_
    refine rg ?_
    refine wmv h rfl fun a h => ?_
    refine wvl h (not_ h rfl) fun a h => ?_
    refine wmv h rfl fun a h => ?_
    refine split (t := 54) h rfl (fun hb28 => ?_) (fun hb28 => ?_)
    ·exact absurd hb28 (by first | decide | (rw [hen]; decide) | (rw [hla]; decide) | (simp [hen, hla, show isSpan d1 d2 = true from hsn]; done))
    refine wl (stp_on h rfl rfl rfl hb28 (vl h (fad h rfl fo32_4) fun a h => ?_))
    refine wl (stp_on h rfl rfl rfl hb28 (vl h (ldo h hp rfl 0 rfl rfl ag30) fun a h => ?_))
    refine wl (stp_on h rfl rfl rfl hb28 (vl h (mov h rfl) fun a h => ?_))
    refine wl (stp_on h rfl rfl rfl hb28 (cal h rfl en17 (Set_T _ _ _ _ _ (hE0.keep hp cl0).s (hE0.keep hp cl0).g.f) fun u w27 ⟨e1, e2⟩ a h => ?_))
    subst e1
    have hp := hp.below e2
    refine wl (stp_on h rfl rfl rfl hb28 (vl h (not_ h rfl) fun a h => ?_))
    refine wvl h (pckF h rfl hb28 rfl) fun a h => ?_
    refine wn ?_
    refine cnd1 h rfl (fun hb29 => ?_) (fun hb29 => ?_)
    ·exact absurd hb29 (by rw [show rising 0 ((e.feasts.length : Int) - 1) st = true from hse]; decide)
    refine rg ?_
    refine wvl h (ldO (us := [_, _, _, _, _, _, _, _, _, _, _]) h hp rfl 0 rfl sz32 rfl ag32) fun a h => ?_
    refine wm3 h rfl rfl rfl rfl rfl rfl fun a h => ?_
    refine wmv h rfl fun a h => ?_
    refine wl (cal h rfl en47 (Widens_Rv (hE0.keep hp cl0) (by omega) (by omega) hwv) fun u w28 ⟨e1, e2⟩ a h => ?_)
    subst e1
    have hp := hp.below e2
    refine wsn h rfl fun a h => ?_
    refine rg ?_
    refine wmv h rfl fun a h => ?_
    refine wvl h (lss h rfl rfl) fun a h => ?_
    refine wmv h rfl fun a h => ?_
    refine split (t := 75) h rfl (fun hb30 => ?_) (fun hb30 => ?_)
    ·exact absurd hb30 (by first | decide | (simp only [Bool.not_eq_true', Bool.not_eq_false', Bool.not_eq_true, Bool.not_eq_false, decide_eq_true_eq, decide_eq_false_iff_not, gt_iff_lt, ge_iff_le]; omega) | (simp; done))
    refine wl (stp_off h rfl rfl rfl rfl rfl hb30 fun a h => ?_)
    refine wl (stp_off h rfl rfl rfl rfl rfl hb30 fun a h => ?_)
    refine wl (stp_off h rfl rfl rfl rfl rfl hb30 fun a h => ?_)
    refine wl (stp_un h rfl rfl rfl rfl rfl fun a h => ?_)
    refine wl (stp_un h rfl rfl rfl rfl rfl fun a h => ?_)
    refine wl (stp_off h rfl rfl rfl rfl rfl hb30 fun a h => ?_)
    refine wvl h (pckF h rfl hb30 rfl) fun a h => ?_
    refine wmv h rfl fun a h => ?_
    refine wl (stp_on h rfl rfl rfl rfl (vl h (mov h rfl) fun a h => ?_))
    refine wl (stp_on h rfl rfl rfl rfl (vl h (geq h rfl rfl) fun a h => ?_))
    refine wl (stp_on h rfl rfl rfl rfl (vl h (mov h rfl) fun a h => ?_))
    refine split (t := 86) h rfl (fun hb31 => ?_) (fun hb31 => ?_)
    ·refine wl (stp_on h rfl rfl rfl hb31 (vl h (mov h rfl) fun a h => ?_))
     refine wl (stp_on h rfl rfl rfl hb31 (vl h (nei h rfl rfl) fun a h => ?_))
     refine wl (stp_on h rfl rfl rfl hb31 (vl h (mov h rfl) fun a h => ?_))
     refine split (t := 89) h rfl (fun hb32 => ?_) (fun hb32 => ?_)
     ·exact absurd hb32 (by first | decide | (simp only [Bool.not_eq_true', Bool.not_eq_false', Bool.not_eq_true, Bool.not_eq_false, decide_eq_true_eq, decide_eq_false_iff_not, gt_iff_lt, ge_iff_le]; omega) | (simp; done))
     refine wl (stp_on h rfl rfl rfl hb32 (vl h (mov h rfl) fun a h => ?_))
     refine wl (stp_on h rfl rfl rfl hb32 (vl h (mov h rfl) fun a h => ?_))
     refine wl (stp_on h rfl rfl rfl hb32 (vl h (nei h rfl rfl) fun a h => ?_))
     refine wl (stp_on h rfl rfl rfl hb31 (vl h (pckF h rfl hb32 rfl) fun a h => ?_))
     refine wl (stp_on h rfl rfl rfl rfl (vl h (pckT h rfl hb31 rfl) fun a h => ?_))
     refine wvl h (pckF h rfl rfl rfl) fun a h => ?_
     refine wn ?_
     refine cnd1 h rfl (fun hb33 => ?_) (fun hb33 => ?_)
     ·exact absurd hb33 (by first | decide | (simp only [Bool.not_eq_true', Bool.not_eq_false', Bool.not_eq_true, Bool.not_eq_false, decide_eq_true_eq, decide_eq_false_iff_not, gt_iff_lt, ge_iff_le]; omega) | (simp; done))
     refine skp ?_
     refine wp_seq ?_
     refine rg ?_
     refine wmv h rfl fun a h => ?_
     refine wvl h (not_ h rfl) fun a h => ?_
     refine wn ?_
     refine cnd1 h rfl (fun hb34 => ?_) (fun hb34 => ?_)
     ·exact absurd hb34 (by first | decide | (rw [hen]; decide) | (rw [hla]; decide) | (simp [hen, hla, show isSpan d1 d2 = true from hsn]; done))
     refine skp ?_
     refine rg ?_
     refine wvl h (ldO (us := [_, _, _, _, _, _, _, _, _, _, _]) h hp rfl 0 rfl sz32 rfl ag32) fun a h => ?_
     refine wm3 h rfl rfl rfl rfl rfl rfl fun a h => ?_
     refine wl (cal h rfl en48 (Settings_Rn (hE0.g.keep hp cl0) hE0.ok (by omega) (by omega) hst) fun u w29 ⟨e1, e2⟩ a h => ?_)
     subst e1
     have hp := hp.below e2
     refine wmv h rfl fun a h => ?_
     refine wvl h (ext h rfl rfl) fun a h => ?_
     refine wvl h (ext h rfl rfl) fun a h => ?_
     refine ws2 h rfl rfl rfl rfl fun a h => ?_
     refine wp_seq ?_
     refine rg ?_
     refine wmv h rfl fun a h => ?_
     refine wvl h (not_ h rfl) fun a h => ?_
     refine wn ?_
     refine cnd1 h rfl (fun hb35 => ?_) (fun hb35 => ?_)
     ·refine rg ?_
      refine wmv h rfl fun a h => ?_
      refine wvl h (eqi h rfl rfl) fun a h => ?_
      refine wmv h rfl fun a h => ?_
      refine split (t := 120) h rfl (fun hb36 => ?_) (fun hb36 => ?_)
      ·refine wl (stp_on h rfl rfl rfl hb36 (vl h (mov h rfl) fun a h => ?_))
       refine wl (stp_on h rfl rfl rfl hb36 (vl h (len_ h rfl Tryz.underlying30) fun a h => ?_))
       refine wl (stp_on h rfl rfl rfl hb36 (vl h (eqi h rfl rfl) fun a h => ?_))
       refine wvl h (pckT h rfl hb36 rfl) fun a h => ?_
       refine wmv h rfl fun a h => ?_
       refine split (t := 125) h rfl (fun hb37 => ?_) (fun hb37 => ?_)
       ·refine wl (stp_on h rfl rfl rfl hb37 (cal h rfl en20 (known_L _ (hGl.keep hp)) fun u w30 ⟨e1, e2⟩ a h => ?_))
        subst e1
        have hp := hp.below e2
        refine wvl h (pckT h rfl hb37 rfl) fun a h => ?_
        refine wsn h rfl fun a h => ?_
        refine wp_ret ?_
        try simp only [xqs]
        refine rt_1 h rfl (rvT h rfl) ?_
        exact ⟨_, rfl, rfl, hp.bel⟩
       exact absurd hb37 (by first | decide | (simp; done))
      exact absurd hb36 (by first | decide | (simp; done))
     exact absurd hb35 (by decide)
    exact absurd hb31 (by first | decide | (simp only [Bool.not_eq_true', Bool.not_eq_false', Bool.not_eq_true, Bool.not_eq_false, decide_eq_true_eq, decide_eq_false_iff_not, gt_iff_lt, ge_iff_le]; omega) | (simp; done))
   exact absurd hb27 (by rw [show isSpan d1 d2 = true from hsn]; decide)
  exact absurd hb26 (by first | decide | (rw [hen]; decide) | (rw [hla]; decide) | (simp [hen, hla, show isSpan d1 d2 = true from hsn]; done))
 refine wvl h (ldO (us := [_, _, _, _, _, _, _, _, _, _, _]) h hp rfl 0 rfl sz32 rfl ag32) fun a h => ?_
 refine wm3 h rfl rfl rfl rfl rfl rfl fun a h => ?_
 refine wl (cal h rfl en46 (Settings_is (hE0.g.keep hp cl0) hE0.ok hspl hst) fun u w31 ⟨⟨s21, e1, hf⟩, e2⟩ a h => ?_)
 subst e1
 have hp := hp.got (hp.below e2) (by decide) hf
 refine wmv h rfl fun a h => ?_
 refine wvl h (ext h rfl rfl) fun a h => ?_
 refine wvl h (ext h rfl rfl) fun a h => ?_
 refine ws2 h rfl rfl rfl rfl fun a h => ?_
 refine rg ?_
 refine wvl h (ldO (us := [_, _, _, _, _, _, _, _, _, _, _]) h hp rfl 0 rfl sz32 rfl ag32) fun a h => ?_
 refine wl (cal h rfl en16 (Engine_R x e _ (by first | exact hG.keep hp cl0 | exact (hE0.keep hp cl0).g)) fun u w32 ⟨e1, e2⟩ a h => ?_)
 subst e1
 have hp := hp.below e2
 refine wmv h rfl fun a h => ?_
 refine split (t := 43) h rfl (fun hb38 => ?_) (fun hb38 => ?_)
 ·refine wl (stp_on h rfl rfl rfl hb38 (vl h (mov h rfl) fun a h => ?_))
  refine wl (stp_on h rfl rfl rfl hb38 (vl h (mov h rfl) fun a h => ?_))
  refine wl (stp_on h rfl rfl rfl hb38 (cal h rfl en26 (Span_R _ _ _) fun u w33 ⟨e1, e2⟩ a h => ?_))
  subst e1
  subst e2
  refine wvl h (pckT h rfl hb38 rfl) fun a h => ?_
  refine wmv h rfl fun a h => ?_
  refine split (t := 48) h rfl (fun hb39 => ?_) (fun hb39 => ?_)
  ·refine wl (stp_on h rfl rfl rfl hb39 (vl h (mov h rfl) fun a h => ?_))
   refine wl (stp_on h rfl rfl rfl hb39 (cal h rfl en37 (Late_R _ _) fun u w34 ⟨e1, e2⟩ a h => ?_))
   subst e1
   subst e2
   refine wvl h (pckT h rfl hb39 rfl) fun a h => ?_
   refine wsn h rfl fun a h => ?_
   refine wp_seq ?_
   refine rg ?_
   refine wmv h rfl fun a h => ?_
   refine wvl h (not_ h rfl) fun a h => ?_
   refine wmv h rfl fun a h => ?_
   refine split (t := 54) h rfl (fun hb40 => ?_) (fun hb40 => ?_)
   ·exact absurd hb40 (by first | decide | (rw [hen]; decide) | (rw [hla]; decide) | (simp [hen, hla, show isSpan d1 d2 = true from hsn]; done))
   refine wl (stp_on h rfl rfl rfl hb40 (vl h (fad h rfl fo32_4) fun a h => ?_))
   refine wl (stp_on h rfl rfl rfl hb40 (vl h (ldo h hp rfl 0 rfl rfl ag30) fun a h => ?_))
   refine wl (stp_on h rfl rfl rfl hb40 (vl h (mov h rfl) fun a h => ?_))
   refine wl (stp_on h rfl rfl rfl hb40 (cal h rfl en17 (Set_T _ _ _ _ _ (hE0.keep hp cl0).s (hE0.keep hp cl0).g.f) fun u w35 ⟨e1, e2⟩ a h => ?_))
   subst e1
   have hp := hp.below e2
   refine wl (stp_on h rfl rfl rfl hb40 (vl h (not_ h rfl) fun a h => ?_))
   refine wvl h (pckF h rfl hb40 rfl) fun a h => ?_
   refine wn ?_
   refine cnd1 h rfl (fun hb41 => ?_) (fun hb41 => ?_)
   ·exact absurd hb41 (by rw [show rising 0 ((e.feasts.length : Int) - 1) st = true from hse]; decide)
   refine rg ?_
   refine wvl h (ldO (us := [_, _, _, _, _, _, _, _, _, _, _]) h hp rfl 0 rfl sz32 rfl ag32) fun a h => ?_
   refine wm3 h rfl rfl rfl rfl rfl rfl fun a h => ?_
   refine wmv h rfl fun a h => ?_
   refine wl (cal h rfl en47 (Widens_Rv (hE0.keep hp cl0) (by omega) (by omega) hwv) fun u w36 ⟨e1, e2⟩ a h => ?_)
   subst e1
   have hp := hp.below e2
   refine wsn h rfl fun a h => ?_
   refine rg ?_
   refine wmv h rfl fun a h => ?_
   refine wvl h (lss h rfl rfl) fun a h => ?_
   refine wmv h rfl fun a h => ?_
   refine split (t := 75) h rfl (fun hb42 => ?_) (fun hb42 => ?_)
   ·exact absurd hb42 (by first | decide | (simp only [Bool.not_eq_true', Bool.not_eq_false', Bool.not_eq_true, Bool.not_eq_false, decide_eq_true_eq, decide_eq_false_iff_not, gt_iff_lt, ge_iff_le]; omega) | (simp; done))
   refine wl (stp_off h rfl rfl rfl rfl rfl hb42 fun a h => ?_)
   refine wl (stp_off h rfl rfl rfl rfl rfl hb42 fun a h => ?_)
   refine wl (stp_off h rfl rfl rfl rfl rfl hb42 fun a h => ?_)
   refine wl (stp_un h rfl rfl rfl rfl rfl fun a h => ?_)
   refine wl (stp_un h rfl rfl rfl rfl rfl fun a h => ?_)
   refine wl (stp_off h rfl rfl rfl rfl rfl hb42 fun a h => ?_)
   refine wvl h (pckF h rfl hb42 rfl) fun a h => ?_
   refine wmv h rfl fun a h => ?_
   refine wl (stp_on h rfl rfl rfl rfl (vl h (mov h rfl) fun a h => ?_))
   refine wl (stp_on h rfl rfl rfl rfl (vl h (geq h rfl rfl) fun a h => ?_))
   refine wl (stp_on h rfl rfl rfl rfl (vl h (mov h rfl) fun a h => ?_))
   refine split (t := 86) h rfl (fun hb43 => ?_) (fun hb43 => ?_)
   ·refine wl (stp_on h rfl rfl rfl hb43 (vl h (mov h rfl) fun a h => ?_))
    refine wl (stp_on h rfl rfl rfl hb43 (vl h (nei h rfl rfl) fun a h => ?_))
    refine wl (stp_on h rfl rfl rfl hb43 (vl h (mov h rfl) fun a h => ?_))
    refine split (t := 89) h rfl (fun hb44 => ?_) (fun hb44 => ?_)
    ·exact absurd hb44 (by first | decide | (simp only [Bool.not_eq_true', Bool.not_eq_false', Bool.not_eq_true, Bool.not_eq_false, decide_eq_true_eq, decide_eq_false_iff_not, gt_iff_lt, ge_iff_le]; omega) | (simp; done))
    refine wl (stp_on h rfl rfl rfl hb44 (vl h (mov h rfl) fun a h => ?_))
    refine wl (stp_on h rfl rfl rfl hb44 (vl h (mov h rfl) fun a h => ?_))
    refine wl (stp_on h rfl rfl rfl hb44 (vl h (nei h rfl rfl) fun a h => ?_))
    refine wl (stp_on h rfl rfl rfl hb43 (vl h (pckF h rfl hb44 rfl) fun a h => ?_))
    refine wl (stp_on h rfl rfl rfl rfl (vl h (pckT h rfl hb43 rfl) fun a h => ?_))
    refine wvl h (pckF h rfl rfl rfl) fun a h => ?_
    refine wn ?_
    refine cnd1 h rfl (fun hb45 => ?_) (fun hb45 => ?_)
    ·exact absurd hb45 (by first | decide | (simp only [Bool.not_eq_true', Bool.not_eq_false', Bool.not_eq_true, Bool.not_eq_false, decide_eq_true_eq, decide_eq_false_iff_not, gt_iff_lt, ge_iff_le]; omega) | (simp; done))
    refine skp ?_
    refine wp_seq ?_
    refine rg ?_
    refine wmv h rfl fun a h => ?_
    refine wvl h (not_ h rfl) fun a h => ?_
    refine wn ?_
    refine cnd1 h rfl (fun hb46 => ?_) (fun hb46 => ?_)
    ·exact absurd hb46 (by first | decide | (rw [hen]; decide) | (rw [hla]; decide) | (simp [hen, hla, show isSpan d1 d2 = true from hsn]; done))
    refine skp ?_
    refine rg ?_
    refine wvl h (ldO (us := [_, _, _, _, _, _, _, _, _, _, _]) h hp rfl 0 rfl sz32 rfl ag32) fun a h => ?_
    refine wm3 h rfl rfl rfl rfl rfl rfl fun a h => ?_
    refine wl (cal h rfl en48 (Settings_Rs (hE0.g.keep hp cl0) hE0.ok (by omega) (by omega) hst) fun u w37 ⟨⟨s22, e1, hf⟩, e2⟩ a h => ?_)
    subst e1
    have hp := hp.got (hp.below e2) (by decide) hf
    refine wmv h rfl fun a h => ?_
    refine wvl h (ext h rfl rfl) fun a h => ?_
    refine wvl h (ext h rfl rfl) fun a h => ?_
    refine ws2 h rfl rfl rfl rfl fun a h => ?_
    refine wp_seq ?_
    refine rg ?_
    refine wmv h rfl fun a h => ?_
    refine wvl h (not_ h rfl) fun a h => ?_
    refine wn ?_
    refine cnd1 h rfl (fun hb47 => ?_) (fun hb47 => ?_)
    ·exact absurd hb47 (by decide)
    refine skp ?_
    refine rg ?_
    refine wmv h rfl fun a h => ?_
    refine wvl h (eqi h rfl rfl) fun a h => ?_
    refine wmv h rfl fun a h => ?_
    refine split (t := 130) h rfl (fun hb48 => ?_) (fun hb48 => ?_)
    ·refine wl (stp_on h rfl rfl rfl hb48 (vl h (mov h rfl) fun a h => ?_))
     refine wl (stp_on h rfl rfl rfl hb48 (vl h (mov h rfl) fun a h => ?_))
     refine wl (stp_on h rfl rfl rfl hb48 (cal h rfl en49 (Same_S _ _ _ _ _ (hp.rdF (i := 1) rfl) (hp.rdF (i := 2) rfl)) fun u w38 ⟨e1, e2⟩ a h => ?_))
     subst e1
     have hp := hp.below e2
     refine wvl h (pckT h rfl hb48 rfl) fun a h => ?_
     refine wmv h rfl fun a h => ?_
     refine split (t := 135) h rfl (fun hb49 => ?_) (fun hb49 => ?_)
     ·refine wl (stp_on h rfl rfl rfl hb49 (cal h rfl en20 (known_L _ (hGl.keep hp)) fun u w39 ⟨e1, e2⟩ a h => ?_))
      subst e1
      have hp := hp.below e2
      refine wvl h (pckT h rfl hb49 rfl) fun a h => ?_
      refine wsn h rfl fun a h => ?_
      refine wp_ret ?_
      try simp only [xqs]
      refine rt_1 h rfl (rvT h rfl) ?_
      exact ⟨_, rfl, rfl, hp.bel⟩
     exact absurd hb49 (by first | decide | (simp; done))
    exact absurd hb48 (by first | decide | (simp; done))
   exact absurd hb43 (by first | decide | (simp only [Bool.not_eq_true', Bool.not_eq_false', Bool.not_eq_true, Bool.not_eq_false, decide_eq_true_eq, decide_eq_false_iff_not, gt_iff_lt, ge_iff_le]; omega) | (simp; done))
  exact absurd hb39 (by rw [show isSpan d1 d2 = true from hsn]; decide)
 exact absurd hb38 (by first | decide | (rw [hen]; decide) | (rw [hla]; decide) | (simp [hen, hla, show isSpan d1 d2 = true from hsn]; done))
theorem EclipseWidens_s (x : EV) (e : Eng) (s2 : SV) (st : List Int) (d1 d2 lt : Int) (w : World) (hG : RdG w x e) (hS2 : Rd w encI 1 s2.v st) (hGl : Glb w) (hen : isEngine e = true) (hse : isSet e st = false) (hspl : (inR d1 1 9000 && inR d2 d1 9000 && decide (d2 - d1 ≤ 400) && inR lt 0 30) = true) : Ret Tryz.prog 10 #[.agg #[x.b.v, .int .i64 e.nnum, .int .i64 e.nden, .int .i64 e.nstart, x.s.v, x.m.v, x.n.v, x.f.v, .int .i64 e.new, .int .i64 e.full, .int .i64 e.wide], s2.v, .int .i64 d1, .int .i64 d2, .int .i64 lt] w fun u w' => u = .bool true ∧ Below w.heap.size w w' := by
 have hsn : isSpan d1 d2 = true := (Bool.and_eq_true _ _ ▸ hspl).1
 have hla : isLate lt = true := (Bool.and_eq_true _ _ ▸ hspl).2
 have hd := hsn
 simp only [isSpan, inR, Bool.and_eq_true, decide_eq_true_eq] at hd
 have hld := hla
 simp only [isLate, inR, Bool.and_eq_true, decide_eq_true_eq] at hld
 have hbad : (isEngine e && isSet e st && (inR d1 1 9000 && inR d2 d1 9000 && decide (d2 - d1 ≤ 400) && inR lt 0 30)) = false := by rw [hse, Bool.and_false]; rfl
 have hp : Hp c0 w w [] := Hp.start trivial
 refine enter Tryz.func10 rfl (N := 138) rfl rfl fun a h => ?_
 refine rg ?_
 refine wl (box (cs := #[_, _, _, _, _, _, _, _, _, _, _]) h hp rfl rfl fun a w1 g1 hg1 h hp => ?_)
 refine wsn h rfl fun a h => ?_
 refine wp_seq ?_
 refine rg ?_
 refine wvl h (ldO (us := [_, _, _, _, _, _, _, _, _, _, _]) h hp rfl 0 rfl sz32 rfl ag32) fun a h => ?_
 refine wmv h rfl fun a h => ?_
 refine wl (cal h rfl en15 (short_L x e s2 st _ (hG.keep hp cl0) (hS2.keep (by decide) hp cl0)) fun u w2 ⟨⟨bsh, e1⟩, e2⟩ a h => ?_)
 subst e1
 have hp := hp.below e2
 refine wvl h (not_ h rfl) fun a h => ?_
 refine wn ?_
 refine cnd1 h rfl (fun hb1 => ?_) (fun hb1 => ?_)
 ·refine rg ?_
  refine wl (cal h rfl en20 (known_L _ (hGl.keep hp)) fun u w3 ⟨e1, e2⟩ a h => ?_)
  subst e1
  have hp := hp.below e2
  refine wsn h rfl fun a h => ?_
  refine wp_ret ?_
  try simp only [xqs]
  refine rt_1 h rfl (rvT h rfl) ?_
  exact ⟨_, rfl, rfl, hp.bel⟩
 refine skp ?_
 refine rg ?_
 refine wvl h (ldO (us := [_, _, _, _, _, _, _, _, _, _, _]) h hp rfl 0 rfl sz32 rfl ag32) fun a h => ?_
 refine wm3 h rfl rfl rfl rfl rfl rfl fun a h => ?_
 refine wmv h rfl fun a h => ?_
 refine wl (cal h rfl en45 (Widens_x x e s2 st _ _ _ _ (hG.keep hp cl0) (hS2.keep (by decide) hp cl0) hbad) fun u w4 ⟨e1, e2⟩ a h => ?_)
 subst e1
 have hp := hp.below e2
 refine wmv h rfl fun a h => ?_
 refine wvl h (ext h rfl rfl) fun a h => ?_
 refine wvl h (ext h rfl rfl) fun a h => ?_
 refine ws2 h rfl rfl rfl rfl fun a h => ?_
 refine rg ?_
 rcases hst : settings e d1 d2 lt with _ | l9
 ·refine wvl h (ldO (us := [_, _, _, _, _, _, _, _, _, _, _]) h hp rfl 0 rfl sz32 rfl ag32) fun a h => ?_
  refine wm3 h rfl rfl rfl rfl rfl rfl fun a h => ?_
  refine wl (cal h rfl en46 (Settings_no (hG.keep hp cl0) hen hspl hst) fun u w5 ⟨e1, e2⟩ a h => ?_)
  subst e1
  have hp := hp.below e2
  refine wmv h rfl fun a h => ?_
  refine wvl h (ext h rfl rfl) fun a h => ?_
  refine wvl h (ext h rfl rfl) fun a h => ?_
  refine ws2 h rfl rfl rfl rfl fun a h => ?_
  refine rg ?_
  refine wvl h (ldO (us := [_, _, _, _, _, _, _, _, _, _, _]) h hp rfl 0 rfl sz32 rfl ag32) fun a h => ?_
  refine wl (cal h rfl en16 (Engine_R x e _ (by first | exact hG.keep hp cl0 | exact (hE0.keep hp cl0).g)) fun u w6 ⟨e1, e2⟩ a h => ?_)
  subst e1
  have hp := hp.below e2
  refine wmv h rfl fun a h => ?_
  refine split (t := 43) h rfl (fun hb2 => ?_) (fun hb2 => ?_)
  ·refine wl (stp_on h rfl rfl rfl hb2 (vl h (mov h rfl) fun a h => ?_))
   refine wl (stp_on h rfl rfl rfl hb2 (vl h (mov h rfl) fun a h => ?_))
   refine wl (stp_on h rfl rfl rfl hb2 (cal h rfl en26 (Span_R _ _ _) fun u w7 ⟨e1, e2⟩ a h => ?_))
   subst e1
   subst e2
   refine wvl h (pckT h rfl hb2 rfl) fun a h => ?_
   refine wmv h rfl fun a h => ?_
   refine split (t := 48) h rfl (fun hb3 => ?_) (fun hb3 => ?_)
   ·refine wl (stp_on h rfl rfl rfl hb3 (vl h (mov h rfl) fun a h => ?_))
    refine wl (stp_on h rfl rfl rfl hb3 (cal h rfl en37 (Late_R _ _) fun u w8 ⟨e1, e2⟩ a h => ?_))
    subst e1
    subst e2
    refine wvl h (pckT h rfl hb3 rfl) fun a h => ?_
    refine wsn h rfl fun a h => ?_
    refine wp_seq ?_
    refine rg ?_
    refine wmv h rfl fun a h => ?_
    refine wvl h (not_ h rfl) fun a h => ?_
    refine wmv h rfl fun a h => ?_
    refine split (t := 54) h rfl (fun hb4 => ?_) (fun hb4 => ?_)
    ·exact absurd hb4 (by first | decide | (rw [hen]; decide) | (rw [hla]; decide) | (simp [hen, hla, show isSpan d1 d2 = true from hsn]; done))
    refine wl (stp_on h rfl rfl rfl hb4 (vl h (fad h rfl fo32_4) fun a h => ?_))
    refine wl (stp_on h rfl rfl rfl hb4 (vl h (ldo h hp rfl 0 rfl rfl ag30) fun a h => ?_))
    refine wl (stp_on h rfl rfl rfl hb4 (vl h (mov h rfl) fun a h => ?_))
    refine wl (stp_on h rfl rfl rfl hb4 (cal h rfl en17 (Set_T _ _ _ _ _ (hS2.keep (by decide) hp cl0) (hG.keep hp cl0).f) fun u w9 ⟨e1, e2⟩ a h => ?_))
    subst e1
    have hp := hp.below e2
    refine wl (stp_on h rfl rfl rfl hb4 (vl h (not_ h rfl) fun a h => ?_))
    refine wvl h (pckF h rfl hb4 rfl) fun a h => ?_
    refine wn ?_
    refine cnd1 h rfl (fun hb5 => ?_) (fun hb5 => ?_)
    ·refine rg ?_
     refine wmv h rfl fun a h => ?_
     refine wvl h (nei h rfl rfl) fun a h => ?_
     refine wmv h rfl fun a h => ?_
     refine split (t := 63) h rfl (fun hb6 => ?_) (fun hb6 => ?_)
     ·exact absurd hb6 (by first | decide | (simp; done))
     refine wl (stp_on h rfl rfl rfl hb6 (vl h (mov h rfl) fun a h => ?_))
     refine wl (stp_on h rfl rfl rfl hb6 (vl h (nei h rfl rfl) fun a h => ?_))
     refine wvl h (pckF h rfl hb6 rfl) fun a h => ?_
     refine wn ?_
     refine cnd1 h rfl (fun hb7 => ?_) (fun hb7 => ?_)
     ·exact absurd hb7 (by first | decide | (simp; done))
     refine skp ?_
     refine wp_seq ?_
     refine rg ?_
     refine wmv h rfl fun a h => ?_
     refine wvl h (not_ h rfl) fun a h => ?_
     refine wn ?_
     refine cnd1 h rfl (fun hb8 => ?_) (fun hb8 => ?_)
     ·exact absurd hb8 (by first | decide | (rw [hen]; decide) | (rw [hla]; decide) | (simp [hen, hla, show isSpan d1 d2 = true from hsn]; done))
     refine skp ?_
     refine rg ?_
     refine wvl h (ldO (us := [_, _, _, _, _, _, _, _, _, _, _]) h hp rfl 0 rfl sz32 rfl ag32) fun a h => ?_
     refine wm3 h rfl rfl rfl rfl rfl rfl fun a h => ?_
     refine wl (cal h rfl en48 (Settings_Rn (hG.keep hp cl0) hen (by omega) (by omega) hst) fun u w10 ⟨e1, e2⟩ a h => ?_)
     subst e1
     have hp := hp.below e2
     refine wmv h rfl fun a h => ?_
     refine wvl h (ext h rfl rfl) fun a h => ?_
     refine wvl h (ext h rfl rfl) fun a h => ?_
     refine ws2 h rfl rfl rfl rfl fun a h => ?_
     refine wp_seq ?_
     refine rg ?_
     refine wmv h rfl fun a h => ?_
     refine wvl h (not_ h rfl) fun a h => ?_
     refine wn ?_
     refine cnd1 h rfl (fun hb9 => ?_) (fun hb9 => ?_)
     ·refine rg ?_
      refine wmv h rfl fun a h => ?_
      refine wvl h (eqi h rfl rfl) fun a h => ?_
      refine wmv h rfl fun a h => ?_
      refine split (t := 120) h rfl (fun hb10 => ?_) (fun hb10 => ?_)
      ·refine wl (stp_on h rfl rfl rfl hb10 (vl h (mov h rfl) fun a h => ?_))
       refine wl (stp_on h rfl rfl rfl hb10 (vl h (len_ h rfl Tryz.underlying30) fun a h => ?_))
       refine wl (stp_on h rfl rfl rfl hb10 (vl h (eqi h rfl rfl) fun a h => ?_))
       refine wvl h (pckT h rfl hb10 rfl) fun a h => ?_
       refine wmv h rfl fun a h => ?_
       refine split (t := 125) h rfl (fun hb11 => ?_) (fun hb11 => ?_)
       ·refine wl (stp_on h rfl rfl rfl hb11 (cal h rfl en20 (known_L _ (hGl.keep hp)) fun u w11 ⟨e1, e2⟩ a h => ?_))
        subst e1
        have hp := hp.below e2
        refine wvl h (pckT h rfl hb11 rfl) fun a h => ?_
        refine wsn h rfl fun a h => ?_
        refine wp_ret ?_
        try simp only [xqs]
        refine rt_1 h rfl (rvT h rfl) ?_
        exact ⟨_, rfl, rfl, hp.bel⟩
       exact absurd hb11 (by first | decide | (simp; done))
      exact absurd hb10 (by first | decide | (simp; done))
     exact absurd hb9 (by decide)
    exact absurd hb5 (by rw [show rising 0 ((e.feasts.length : Int) - 1) st = false from hse]; decide)
   exact absurd hb3 (by rw [show isSpan d1 d2 = true from hsn]; decide)
  exact absurd hb2 (by first | decide | (rw [hen]; decide) | (rw [hla]; decide) | (simp [hen, hla, show isSpan d1 d2 = true from hsn]; done))
 refine wvl h (ldO (us := [_, _, _, _, _, _, _, _, _, _, _]) h hp rfl 0 rfl sz32 rfl ag32) fun a h => ?_
 refine wm3 h rfl rfl rfl rfl rfl rfl fun a h => ?_
 refine wl (cal h rfl en46 (Settings_is (hG.keep hp cl0) hen hspl hst) fun u w12 ⟨⟨s21, e1, hf⟩, e2⟩ a h => ?_)
 subst e1
 have hp := hp.got (hp.below e2) (by decide) hf
 refine wmv h rfl fun a h => ?_
 refine wvl h (ext h rfl rfl) fun a h => ?_
 refine wvl h (ext h rfl rfl) fun a h => ?_
 refine ws2 h rfl rfl rfl rfl fun a h => ?_
 refine rg ?_
 refine wvl h (ldO (us := [_, _, _, _, _, _, _, _, _, _, _]) h hp rfl 0 rfl sz32 rfl ag32) fun a h => ?_
 refine wl (cal h rfl en16 (Engine_R x e _ (by first | exact hG.keep hp cl0 | exact (hE0.keep hp cl0).g)) fun u w13 ⟨e1, e2⟩ a h => ?_)
 subst e1
 have hp := hp.below e2
 refine wmv h rfl fun a h => ?_
 refine split (t := 43) h rfl (fun hb12 => ?_) (fun hb12 => ?_)
 ·refine wl (stp_on h rfl rfl rfl hb12 (vl h (mov h rfl) fun a h => ?_))
  refine wl (stp_on h rfl rfl rfl hb12 (vl h (mov h rfl) fun a h => ?_))
  refine wl (stp_on h rfl rfl rfl hb12 (cal h rfl en26 (Span_R _ _ _) fun u w14 ⟨e1, e2⟩ a h => ?_))
  subst e1
  subst e2
  refine wvl h (pckT h rfl hb12 rfl) fun a h => ?_
  refine wmv h rfl fun a h => ?_
  refine split (t := 48) h rfl (fun hb13 => ?_) (fun hb13 => ?_)
  ·refine wl (stp_on h rfl rfl rfl hb13 (vl h (mov h rfl) fun a h => ?_))
   refine wl (stp_on h rfl rfl rfl hb13 (cal h rfl en37 (Late_R _ _) fun u w15 ⟨e1, e2⟩ a h => ?_))
   subst e1
   subst e2
   refine wvl h (pckT h rfl hb13 rfl) fun a h => ?_
   refine wsn h rfl fun a h => ?_
   refine wp_seq ?_
   refine rg ?_
   refine wmv h rfl fun a h => ?_
   refine wvl h (not_ h rfl) fun a h => ?_
   refine wmv h rfl fun a h => ?_
   refine split (t := 54) h rfl (fun hb14 => ?_) (fun hb14 => ?_)
   ·exact absurd hb14 (by first | decide | (rw [hen]; decide) | (rw [hla]; decide) | (simp [hen, hla, show isSpan d1 d2 = true from hsn]; done))
   refine wl (stp_on h rfl rfl rfl hb14 (vl h (fad h rfl fo32_4) fun a h => ?_))
   refine wl (stp_on h rfl rfl rfl hb14 (vl h (ldo h hp rfl 0 rfl rfl ag30) fun a h => ?_))
   refine wl (stp_on h rfl rfl rfl hb14 (vl h (mov h rfl) fun a h => ?_))
   refine wl (stp_on h rfl rfl rfl hb14 (cal h rfl en17 (Set_T _ _ _ _ _ (hS2.keep (by decide) hp cl0) (hG.keep hp cl0).f) fun u w16 ⟨e1, e2⟩ a h => ?_))
   subst e1
   have hp := hp.below e2
   refine wl (stp_on h rfl rfl rfl hb14 (vl h (not_ h rfl) fun a h => ?_))
   refine wvl h (pckF h rfl hb14 rfl) fun a h => ?_
   refine wn ?_
   refine cnd1 h rfl (fun hb15 => ?_) (fun hb15 => ?_)
   ·refine rg ?_
    refine wmv h rfl fun a h => ?_
    refine wvl h (nei h rfl rfl) fun a h => ?_
    refine wmv h rfl fun a h => ?_
    refine split (t := 63) h rfl (fun hb16 => ?_) (fun hb16 => ?_)
    ·exact absurd hb16 (by first | decide | (simp; done))
    refine wl (stp_on h rfl rfl rfl hb16 (vl h (mov h rfl) fun a h => ?_))
    refine wl (stp_on h rfl rfl rfl hb16 (vl h (nei h rfl rfl) fun a h => ?_))
    refine wvl h (pckF h rfl hb16 rfl) fun a h => ?_
    refine wn ?_
    refine cnd1 h rfl (fun hb17 => ?_) (fun hb17 => ?_)
    ·exact absurd hb17 (by first | decide | (simp; done))
    refine skp ?_
    refine wp_seq ?_
    refine rg ?_
    refine wmv h rfl fun a h => ?_
    refine wvl h (not_ h rfl) fun a h => ?_
    refine wn ?_
    refine cnd1 h rfl (fun hb18 => ?_) (fun hb18 => ?_)
    ·exact absurd hb18 (by first | decide | (rw [hen]; decide) | (rw [hla]; decide) | (simp [hen, hla, show isSpan d1 d2 = true from hsn]; done))
    refine skp ?_
    refine rg ?_
    refine wvl h (ldO (us := [_, _, _, _, _, _, _, _, _, _, _]) h hp rfl 0 rfl sz32 rfl ag32) fun a h => ?_
    refine wm3 h rfl rfl rfl rfl rfl rfl fun a h => ?_
    refine wl (cal h rfl en48 (Settings_Rs (hG.keep hp cl0) hen (by omega) (by omega) hst) fun u w17 ⟨⟨s22, e1, hf⟩, e2⟩ a h => ?_)
    subst e1
    have hp := hp.got (hp.below e2) (by decide) hf
    refine wmv h rfl fun a h => ?_
    refine wvl h (ext h rfl rfl) fun a h => ?_
    refine wvl h (ext h rfl rfl) fun a h => ?_
    refine ws2 h rfl rfl rfl rfl fun a h => ?_
    refine wp_seq ?_
    refine rg ?_
    refine wmv h rfl fun a h => ?_
    refine wvl h (not_ h rfl) fun a h => ?_
    refine wn ?_
    refine cnd1 h rfl (fun hb19 => ?_) (fun hb19 => ?_)
    ·exact absurd hb19 (by decide)
    refine skp ?_
    refine rg ?_
    refine wmv h rfl fun a h => ?_
    refine wvl h (eqi h rfl rfl) fun a h => ?_
    refine wmv h rfl fun a h => ?_
    refine split (t := 130) h rfl (fun hb20 => ?_) (fun hb20 => ?_)
    ·refine wl (stp_on h rfl rfl rfl hb20 (vl h (mov h rfl) fun a h => ?_))
     refine wl (stp_on h rfl rfl rfl hb20 (vl h (mov h rfl) fun a h => ?_))
     refine wl (stp_on h rfl rfl rfl hb20 (cal h rfl en49 (Same_S _ _ _ _ _ (hp.rdF (i := 1) rfl) (hp.rdF (i := 2) rfl)) fun u w18 ⟨e1, e2⟩ a h => ?_))
     subst e1
     have hp := hp.below e2
     refine wvl h (pckT h rfl hb20 rfl) fun a h => ?_
     refine wmv h rfl fun a h => ?_
     refine split (t := 135) h rfl (fun hb21 => ?_) (fun hb21 => ?_)
     ·refine wl (stp_on h rfl rfl rfl hb21 (cal h rfl en20 (known_L _ (hGl.keep hp)) fun u w19 ⟨e1, e2⟩ a h => ?_))
      subst e1
      have hp := hp.below e2
      refine wvl h (pckT h rfl hb21 rfl) fun a h => ?_
      refine wsn h rfl fun a h => ?_
      refine wp_ret ?_
      try simp only [xqs]
      refine rt_1 h rfl (rvT h rfl) ?_
      exact ⟨_, rfl, rfl, hp.bel⟩
     exact absurd hb21 (by first | decide | (simp; done))
    exact absurd hb20 (by first | decide | (simp; done))
   exact absurd hb15 (by rw [show rising 0 ((e.feasts.length : Int) - 1) st = false from hse]; decide)
  exact absurd hb13 (by rw [show isSpan d1 d2 = true from hsn]; decide)
 exact absurd hb12 (by first | decide | (rw [hen]; decide) | (rw [hla]; decide) | (simp [hen, hla, show isSpan d1 d2 = true from hsn]; done))
theorem EclipseWidens_b (x : EV) (e : Eng) (s2 : SV) (st : List Int) (d1 d2 lt : Int) (w : World) (hG : RdG w x e) (hS2 : Rd w encI 1 s2.v st) (hGl : Glb w) (hbad : (isEngine e && (inR d1 1 9000 && inR d2 d1 9000 && decide (d2 - d1 ≤ 400) && inR lt 0 30)) = false) : Ret Tryz.prog 10 #[.agg #[x.b.v, .int .i64 e.nnum, .int .i64 e.nden, .int .i64 e.nstart, x.s.v, x.m.v, x.n.v, x.f.v, .int .i64 e.new, .int .i64 e.full, .int .i64 e.wide], s2.v, .int .i64 d1, .int .i64 d2, .int .i64 lt] w fun u w' => u = .bool true ∧ Below w.heap.size w w' := by
 have hbal : (isEngine e && isSet e st && (inR d1 1 9000 && inR d2 d1 9000 && decide (d2 - d1 ≤ 400) && inR lt 0 30)) = false := by rw [Bool.and_eq_false_iff] at hbad; rcases hbad with q | q <;> simp only [q, Bool.and_false, Bool.false_and]
 have hp : Hp c0 w w [] := Hp.start trivial
 refine enter Tryz.func10 rfl (N := 138) rfl rfl fun a h => ?_
 refine rg ?_
 refine wl (box (cs := #[_, _, _, _, _, _, _, _, _, _, _]) h hp rfl rfl fun a w1 g1 hg1 h hp => ?_)
 refine wsn h rfl fun a h => ?_
 refine wp_seq ?_
 refine rg ?_
 refine wvl h (ldO (us := [_, _, _, _, _, _, _, _, _, _, _]) h hp rfl 0 rfl sz32 rfl ag32) fun a h => ?_
 refine wmv h rfl fun a h => ?_
 refine wl (cal h rfl en15 (short_L x e s2 st _ (hG.keep hp cl0) (hS2.keep (by decide) hp cl0)) fun u w2 ⟨⟨bsh, e1⟩, e2⟩ a h => ?_)
 subst e1
 have hp := hp.below e2
 refine wvl h (not_ h rfl) fun a h => ?_
 refine wn ?_
 refine cnd1 h rfl (fun hb1 => ?_) (fun hb1 => ?_)
 ·refine rg ?_
  refine wl (cal h rfl en20 (known_L _ (hGl.keep hp)) fun u w3 ⟨e1, e2⟩ a h => ?_)
  subst e1
  have hp := hp.below e2
  refine wsn h rfl fun a h => ?_
  refine wp_ret ?_
  try simp only [xqs]
  refine rt_1 h rfl (rvT h rfl) ?_
  exact ⟨_, rfl, rfl, hp.bel⟩
 refine skp ?_
 refine rg ?_
 refine wvl h (ldO (us := [_, _, _, _, _, _, _, _, _, _, _]) h hp rfl 0 rfl sz32 rfl ag32) fun a h => ?_
 refine wm3 h rfl rfl rfl rfl rfl rfl fun a h => ?_
 refine wmv h rfl fun a h => ?_
 refine wl (cal h rfl en45 (Widens_x x e s2 st _ _ _ _ (hG.keep hp cl0) (hS2.keep (by decide) hp cl0) hbal) fun u w4 ⟨e1, e2⟩ a h => ?_)
 subst e1
 have hp := hp.below e2
 refine wmv h rfl fun a h => ?_
 refine wvl h (ext h rfl rfl) fun a h => ?_
 refine wvl h (ext h rfl rfl) fun a h => ?_
 refine ws2 h rfl rfl rfl rfl fun a h => ?_
 refine rg ?_
 refine wvl h (ldO (us := [_, _, _, _, _, _, _, _, _, _, _]) h hp rfl 0 rfl sz32 rfl ag32) fun a h => ?_
 refine wm3 h rfl rfl rfl rfl rfl rfl fun a h => ?_
 refine wl (cal h rfl en46 (Settings_x x e _ _ _ _ (hG.keep hp cl0) hbad) fun u w5 ⟨e1, e2⟩ a h => ?_)
 subst e1
 have hp := hp.below e2
 refine wmv h rfl fun a h => ?_
 refine wvl h (ext h rfl rfl) fun a h => ?_
 refine wvl h (ext h rfl rfl) fun a h => ?_
 refine ws2 h rfl rfl rfl rfl fun a h => ?_
 refine rg ?_
 refine wvl h (ldO (us := [_, _, _, _, _, _, _, _, _, _, _]) h hp rfl 0 rfl sz32 rfl ag32) fun a h => ?_
 refine wl (cal h rfl en16 (Engine_R x e _ (by first | exact hG.keep hp cl0 | exact (hE0.keep hp cl0).g)) fun u w6 ⟨e1, e2⟩ a h => ?_)
 subst e1
 have hp := hp.below e2
 refine wmv h rfl fun a h => ?_
 refine split (t := 43) h rfl (fun hb2 => ?_) (fun hb2 => ?_)
 ·have hn1 := hb2
  refine wl (stp_on h rfl rfl rfl hb2 (vl h (mov h rfl) fun a h => ?_))
  refine wl (stp_on h rfl rfl rfl hb2 (vl h (mov h rfl) fun a h => ?_))
  refine wl (stp_on h rfl rfl rfl hb2 (cal h rfl en26 (Span_R _ _ _) fun u w7 ⟨e1, e2⟩ a h => ?_))
  subst e1
  subst e2
  refine wvl h (pckT h rfl hb2 rfl) fun a h => ?_
  refine wmv h rfl fun a h => ?_
  refine split (t := 48) h rfl (fun hb3 => ?_) (fun hb3 => ?_)
  ·have hn2 := hb3
   refine wl (stp_on h rfl rfl rfl hb3 (vl h (mov h rfl) fun a h => ?_))
   refine wl (stp_on h rfl rfl rfl hb3 (cal h rfl en37 (Late_R _ _) fun u w8 ⟨e1, e2⟩ a h => ?_))
   subst e1
   subst e2
   refine wvl h (pckT h rfl hb3 rfl) fun a h => ?_
   refine wsn h rfl fun a h => ?_
   refine wp_seq ?_
   refine rg ?_
   refine wmv h rfl fun a h => ?_
   refine wvl h (not_ h rfl) fun a h => ?_
   refine wmv h rfl fun a h => ?_
   refine split (t := 54) h rfl (fun hb4 => ?_) (fun hb4 => ?_)
   ·refine wl (stp_off h rfl rfl rfl rfl rfl hb4 fun a h => ?_)
    refine wl (stp_off h rfl rfl rfl rfl rfl hb4 fun a h => ?_)
    refine wl (stp_off h rfl rfl rfl rfl rfl hb4 fun a h => ?_)
    refine wl (stp_off h rfl rfl rfl rfl rfl hb4 fun a h => ?_)
    refine wl (stp_off h rfl rfl rfl rfl rfl hb4 fun a h => ?_)
    refine wvl h (pckT h rfl hb4 rfl) fun a h => ?_
    refine wn ?_
    refine cnd1 h rfl (fun _ => ?_) (fun e => nomatch e)
    refine rg ?_
    refine wmv h rfl fun a h => ?_
    refine wvl h (nei h rfl rfl) fun a h => ?_
    refine wmv h rfl fun a h => ?_
    refine split (t := 63) h rfl (fun hb5 => ?_) (fun hb5 => ?_)
    ·exact absurd hb5 (by first | decide | (simp; done))
    refine wl (stp_on h rfl rfl rfl hb5 (vl h (mov h rfl) fun a h => ?_))
    refine wl (stp_on h rfl rfl rfl hb5 (vl h (nei h rfl rfl) fun a h => ?_))
    refine wvl h (pckF h rfl hb5 rfl) fun a h => ?_
    refine wn ?_
    refine cnd1 h rfl (fun hb6 => ?_) (fun hb6 => ?_)
    ·exact absurd hb6 (by first | decide | (simp; done))
    refine skp ?_
    refine wp_seq ?_
    refine rg ?_
    refine wmv h rfl fun a h => ?_
    refine wvl h (not_ h rfl) fun a h => ?_
    refine wn ?_
    refine cnd1 h rfl (fun hb7 => ?_) (fun hb7 => ?_)
    ·refine rg ?_
     refine wmv h rfl fun a h => ?_
     refine wvl h (eqi h rfl rfl) fun a h => ?_
     refine wmv h rfl fun a h => ?_
     refine split (t := 100) h rfl (fun hb8 => ?_) (fun hb8 => ?_)
     ·refine wl (stp_on h rfl rfl rfl hb8 (vl h (mov h rfl) fun a h => ?_))
      refine wl (stp_on h rfl rfl rfl hb8 (vl h (len_ h rfl Tryz.underlying30) fun a h => ?_))
      refine wl (stp_on h rfl rfl rfl hb8 (vl h (eqi h rfl rfl) fun a h => ?_))
      refine wvl h (pckT h rfl hb8 rfl) fun a h => ?_
      refine wmv h rfl fun a h => ?_
      refine split (t := 105) h rfl (fun hb9 => ?_) (fun hb9 => ?_)
      ·refine wl (stp_on h rfl rfl rfl hb9 (cal h rfl en20 (known_L _ (hGl.keep hp)) fun u w9 ⟨e1, e2⟩ a h => ?_))
       subst e1
       have hp := hp.below e2
       refine wvl h (pckT h rfl hb9 rfl) fun a h => ?_
       refine wsn h rfl fun a h => ?_
       refine wp_ret ?_
       try simp only [xqs]
       refine rt_1 h rfl (rvT h rfl) ?_
       exact ⟨_, rfl, rfl, hp.bel⟩
      exact absurd hb9 (by first | decide | (simp; done))
     exact absurd hb8 (by first | decide | (simp; done))
    exact absurd hbad (by first | exact absurd hb7 (by decide) | exact bad4q (d := true) hn1 hn2 hb7)
   exact absurd hbad (by first | exact absurd hb4 (by decide) | exact bad4q (d := true) hn1 hn2 hb4)
  refine wl (stp_off h rfl rfl rfl rfl rfl hb3 fun a h => ?_)
  refine wl (stp_off h rfl rfl rfl rfl rfl hb3 fun a h => ?_)
  refine wvl h (pckF h rfl hb3 rfl) fun a h => ?_
  refine wsn h rfl fun a h => ?_
  refine wp_seq ?_
  refine rg ?_
  refine wmv h rfl fun a h => ?_
  refine wvl h (not_ h rfl) fun a h => ?_
  refine wmv h rfl fun a h => ?_
  refine split (t := 54) h rfl (fun hb10 => ?_) (fun hb10 => ?_)
  ·refine wl (stp_off h rfl rfl rfl rfl rfl hb10 fun a h => ?_)
   refine wl (stp_off h rfl rfl rfl rfl rfl hb10 fun a h => ?_)
   refine wl (stp_off h rfl rfl rfl rfl rfl hb10 fun a h => ?_)
   refine wl (stp_off h rfl rfl rfl rfl rfl hb10 fun a h => ?_)
   refine wl (stp_off h rfl rfl rfl rfl rfl hb10 fun a h => ?_)
   refine wvl h (pckT h rfl hb10 rfl) fun a h => ?_
   refine wn ?_
   refine cnd1 h rfl (fun _ => ?_) (fun e => nomatch e)
   refine rg ?_
   refine wmv h rfl fun a h => ?_
   refine wvl h (nei h rfl rfl) fun a h => ?_
   refine wmv h rfl fun a h => ?_
   refine split (t := 63) h rfl (fun hb11 => ?_) (fun hb11 => ?_)
   ·exact absurd hb11 (by first | decide | (simp; done))
   refine wl (stp_on h rfl rfl rfl hb11 (vl h (mov h rfl) fun a h => ?_))
   refine wl (stp_on h rfl rfl rfl hb11 (vl h (nei h rfl rfl) fun a h => ?_))
   refine wvl h (pckF h rfl hb11 rfl) fun a h => ?_
   refine wn ?_
   refine cnd1 h rfl (fun hb12 => ?_) (fun hb12 => ?_)
   ·exact absurd hb12 (by first | decide | (simp; done))
   refine skp ?_
   refine wp_seq ?_
   refine rg ?_
   refine wmv h rfl fun a h => ?_
   refine wvl h (not_ h rfl) fun a h => ?_
   refine wn ?_
   refine cnd1 h rfl (fun hb13 => ?_) (fun hb13 => ?_)
   ·refine rg ?_
    refine wmv h rfl fun a h => ?_
    refine wvl h (eqi h rfl rfl) fun a h => ?_
    refine wmv h rfl fun a h => ?_
    refine split (t := 100) h rfl (fun hb14 => ?_) (fun hb14 => ?_)
    ·refine wl (stp_on h rfl rfl rfl hb14 (vl h (mov h rfl) fun a h => ?_))
     refine wl (stp_on h rfl rfl rfl hb14 (vl h (len_ h rfl Tryz.underlying30) fun a h => ?_))
     refine wl (stp_on h rfl rfl rfl hb14 (vl h (eqi h rfl rfl) fun a h => ?_))
     refine wvl h (pckT h rfl hb14 rfl) fun a h => ?_
     refine wmv h rfl fun a h => ?_
     refine split (t := 105) h rfl (fun hb15 => ?_) (fun hb15 => ?_)
     ·refine wl (stp_on h rfl rfl rfl hb15 (cal h rfl en20 (known_L _ (hGl.keep hp)) fun u w10 ⟨e1, e2⟩ a h => ?_))
      subst e1
      have hp := hp.below e2
      refine wvl h (pckT h rfl hb15 rfl) fun a h => ?_
      refine wsn h rfl fun a h => ?_
      refine wp_ret ?_
      try simp only [xqs]
      refine rt_1 h rfl (rvT h rfl) ?_
      exact ⟨_, rfl, rfl, hp.bel⟩
     exact absurd hb15 (by first | decide | (simp; done))
    exact absurd hb14 (by first | decide | (simp; done))
   exact absurd hbad (by first | exact absurd hb13 (by decide) | exact bad4q (d := true) hn1 hn2 hb13)
  exact absurd hbad (by first | exact absurd hb10 (by decide) | exact bad4q (d := true) hn1 hn2 hb10)
 refine wl (stp_off h rfl rfl rfl rfl rfl hb2 fun a h => ?_)
 refine wl (stp_off h rfl rfl rfl rfl rfl hb2 fun a h => ?_)
 refine wl (stp_off h rfl rfl rfl rfl rfl hb2 fun a h => ?_)
 refine wvl h (pckF h rfl hb2 rfl) fun a h => ?_
 refine wmv h rfl fun a h => ?_
 refine wl (stp_off h rfl rfl rfl rfl rfl rfl fun a h => ?_)
 refine wl (stp_off h rfl rfl rfl rfl rfl rfl fun a h => ?_)
 refine wvl h (pckF h rfl rfl rfl) fun a h => ?_
 refine wsn h rfl fun a h => ?_
 refine wp_seq ?_
 refine rg ?_
 refine wmv h rfl fun a h => ?_
 refine wvl h (not_ h rfl) fun a h => ?_
 refine wmv h rfl fun a h => ?_
 refine split (t := 54) h rfl (fun hb16 => ?_) (fun hb16 => ?_)
 ·refine wl (stp_off h rfl rfl rfl rfl rfl hb16 fun a h => ?_)
  refine wl (stp_off h rfl rfl rfl rfl rfl hb16 fun a h => ?_)
  refine wl (stp_off h rfl rfl rfl rfl rfl hb16 fun a h => ?_)
  refine wl (stp_off h rfl rfl rfl rfl rfl hb16 fun a h => ?_)
  refine wl (stp_off h rfl rfl rfl rfl rfl hb16 fun a h => ?_)
  refine wvl h (pckT h rfl hb16 rfl) fun a h => ?_
  refine wn ?_
  refine cnd1 h rfl (fun _ => ?_) (fun e => nomatch e)
  refine rg ?_
  refine wmv h rfl fun a h => ?_
  refine wvl h (nei h rfl rfl) fun a h => ?_
  refine wmv h rfl fun a h => ?_
  refine split (t := 63) h rfl (fun hb17 => ?_) (fun hb17 => ?_)
  ·exact absurd hb17 (by first | decide | (simp; done))
  refine wl (stp_on h rfl rfl rfl hb17 (vl h (mov h rfl) fun a h => ?_))
  refine wl (stp_on h rfl rfl rfl hb17 (vl h (nei h rfl rfl) fun a h => ?_))
  refine wvl h (pckF h rfl hb17 rfl) fun a h => ?_
  refine wn ?_
  refine cnd1 h rfl (fun hb18 => ?_) (fun hb18 => ?_)
  ·exact absurd hb18 (by first | decide | (simp; done))
  refine skp ?_
  refine wp_seq ?_
  refine rg ?_
  refine wmv h rfl fun a h => ?_
  refine wvl h (not_ h rfl) fun a h => ?_
  refine wn ?_
  refine cnd1 h rfl (fun hb19 => ?_) (fun hb19 => ?_)
  ·refine rg ?_
   refine wmv h rfl fun a h => ?_
   refine wvl h (eqi h rfl rfl) fun a h => ?_
   refine wmv h rfl fun a h => ?_
   refine split (t := 100) h rfl (fun hb20 => ?_) (fun hb20 => ?_)
   ·refine wl (stp_on h rfl rfl rfl hb20 (vl h (mov h rfl) fun a h => ?_))
    refine wl (stp_on h rfl rfl rfl hb20 (vl h (len_ h rfl Tryz.underlying30) fun a h => ?_))
    refine wl (stp_on h rfl rfl rfl hb20 (vl h (eqi h rfl rfl) fun a h => ?_))
    refine wvl h (pckT h rfl hb20 rfl) fun a h => ?_
    refine wmv h rfl fun a h => ?_
    refine split (t := 105) h rfl (fun hb21 => ?_) (fun hb21 => ?_)
    ·refine wl (stp_on h rfl rfl rfl hb21 (cal h rfl en20 (known_L _ (hGl.keep hp)) fun u w11 ⟨e1, e2⟩ a h => ?_))
     subst e1
     have hp := hp.below e2
     refine wvl h (pckT h rfl hb21 rfl) fun a h => ?_
     refine wsn h rfl fun a h => ?_
     refine wp_ret ?_
     try simp only [xqs]
     refine rt_1 h rfl (rvT h rfl) ?_
     exact ⟨_, rfl, rfl, hp.bel⟩
    exact absurd hb21 (by first | decide | (simp; done))
   exact absurd hb20 (by first | decide | (simp; done))
  exact absurd hbad (by first | exact absurd hb19 (by decide) | exact bad4q (d := true) hn1 hn2 hb19)
 exact absurd hbad (by first | exact absurd hb16 (by decide) | exact bad4q (d := true) hn1 hn2 hb16)
theorem EclipseWidens_L (x : EV) (e : Eng) (s2 : SV) (st : List Int) (d1 d2 lt : Int) (w : World) (hG : RdG w x e) (hS2 : Rd w encI 1 s2.v st) (hGl : Glb w) : Ret Tryz.prog 10 #[.agg #[x.b.v, .int .i64 e.nnum, .int .i64 e.nden, .int .i64 e.nstart, x.s.v, x.m.v, x.n.v, x.f.v, .int .i64 e.new, .int .i64 e.full, .int .i64 e.wide], s2.v, .int .i64 d1, .int .i64 d2, .int .i64 lt] w fun u w' => u = .bool true ∧ Below w.heap.size w w' := by
 cases hb : (isEngine e && (inR d1 1 9000 && inR d2 d1 9000 && decide (d2 - d1 ≤ 400) && inR lt 0 30)) with
 | false => exact EclipseWidens_b x e s2 st d1 d2 lt w hG hS2 hGl hb
 | true =>
  rw [Bool.and_eq_true] at hb
  cases hse : isSet e st with
  | false => exact EclipseWidens_s x e s2 st d1 d2 lt w hG hS2 hGl hb.1 hse hb.2
  | true => exact EclipseWidens_g x e s2 st d1 d2 lt w ⟨hG, hS2, hb.1, hse⟩ hGl hb.2
end Go.Proofs.Ec
