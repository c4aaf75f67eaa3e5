import Derived.Test.YtobofnkmbpfoiaaGreatDoorProg
import Derived.Test.YtobofnkmbpfoiaaGreatDoorPFa
import Derived.Test.YtobofnkmbpfoiaaGreatDoorPQb
import Derived.Test.YtobofnkmbpfoiaaGreatDoorPW31
set_option linter.unusedVariables false
set_option linter.unusedSimpArgs false
set_option maxRecDepth 4000
namespace Go.Proofs.Ec
open Go.RowKit Go.Proofs.Sx
open Ecl
theorem en15_W32 : EnT Tryz.prog 15 := ento Tryz.func15
theorem en20_W32 : EnT Tryz.prog 20 := ento Tryz.func20
theorem en16_W32 : EnT Tryz.prog 16 := ento Tryz.func16
theorem en17_W32 : EnT Tryz.prog 17 := ento Tryz.func17
theorem en53_W32 : EnT Tryz.prog 53 := ento Tryz.func53
theorem en18_W32 : EnT Tryz.prog 18 := ento Tryz.func18
theorem en55_W32 : EnT Tryz.prog 55 := ento Tryz.func55
theorem Check_g (x : EV) (e : Eng) (w : World) (hG : RdG w x e) (hen : isEngine e = true) : Ret Tryz.prog 53 #[.agg #[x.b.v, .int .i64 e.nnum, .int .i64 e.nden, .int .i64 e.nstart, x.s.v, x.m.v, x.n.v, x.f.v, .int .i64 e.new, .int .i64 e.full, .int .i64 e.wide]] w fun u w' => u = .int .i64 0 ∧ Below w.heap.size w w' := by
 have := Check_s x e w hG
 rw [hen] at this
 exact this
theorem Check_b (x : EV) (e : Eng) (w : World) (hG : RdG w x e) (hen : isEngine e = false) : Ret Tryz.prog 53 #[.agg #[x.b.v, .int .i64 e.nnum, .int .i64 e.nden, .int .i64 e.nstart, x.s.v, x.m.v, x.n.v, x.f.v, .int .i64 e.new, .int .i64 e.full, .int .i64 e.wide]] w fun u w' => u = .int .i64 2 ∧ Below w.heap.size w w' := by
 have := Check_s x e w hG
 rw [hen] at this
 exact this
theorem EclipseHands_g (x : EV) (e : Eng) (s2 : SV) (st : List Int) (t : Int) (w : World) (hE0 : RdE w x e s2 st) (hGl : Glb w) (hspan : (inR t 0 9000) = true) : Ret Tryz.prog 14 #[.agg #[x.b.v, .int .i64 e.nnum, .int .i64 e.nden, .int .i64 e.nstart, x.s.v, x.m.v, x.n.v, x.f.v, .int .i64 e.new, .int .i64 e.full, .int .i64 e.wide], s2.v, .int .i64 t] w fun u w' => u = .bool true ∧ Below w.heap.size w w' := by
 have hen := hE0.ok
 have hG := hE0.g
 have hS2 := hE0.s
 have hse := isSet_rise hE0.set
 have hd := hspan
 simp only [inR, Bool.and_eq_true, decide_eq_true_eq] at hd
 have hp : Hp c0 w w [] := Hp.start trivial
 refine enter Tryz.func14 rfl (N := 107) rfl rfl fun a h => ?_
 refine rg ?_
 refine wl (box (cs := #[_, _, _, _, _, _, _, _, _, _, _]) h hp rfl rfl fun a w1 g1 hg1 h hp => ?_)
 refine wsg h rfl fun a h => ?_
 refine wn ?_
 refine wp_seq ?_
 refine rg ?_
 refine wvl h (ldO (us := [_, _, _, _, _, _, _, _, _, _, _]) h hp rfl 0 rfl sz32 rfl ag32) fun a h => ?_
 refine wmv h rfl fun a h => ?_
 refine wl (cal h rfl en15_W32 (short_L x e s2 st _ (hG.keep hp cl0) (hS2.keep (by decide) hp cl0)) fun u w2 ⟨⟨bsh, e1⟩, e2⟩ a h => ?_)
 subst e1
 have hp := hp.below e2
 refine wvl h (not_ h rfl) fun a h => ?_
 refine wn ?_
 refine cnd1 h rfl (fun hb1 => ?_) (fun hb1 => ?_)
 ·refine rg ?_
  refine wl (cal h rfl en20_W32 (known_L _ (hGl.keep hp)) fun u w3 ⟨e1, e2⟩ a h => ?_)
  subst e1
  have hp := hp.below e2
  refine wsg h rfl fun a h => ?_
  refine wn ?_
  refine wp_ret ?_
  try simp only [xqs, ↓reduceIte, Nat.reduceEqDiff]
  refine rt_1 h rfl (rvT h rfl) ?_
  exact ⟨_, rfl, rfl, hp.bel⟩
 ·refine skp ?_
  refine rg ?_
  refine wvl h (ldO (us := [_, _, _, _, _, _, _, _, _, _, _]) h hp rfl 0 rfl sz32 rfl ag32) fun a h => ?_
  refine wl (cal h rfl en53_W32 (Check_g x e _ (hG.keep hp cl0) hen) fun u w4 ⟨e1, e2⟩ a h => ?_)
  subst e1
  have hp := hp.below e2
  refine wsg h rfl fun a h => ?_
  refine wn ?_
  refine rg ?_
  refine wvl h (ldO (us := [_, _, _, _, _, _, _, _, _, _, _]) h hp rfl 0 rfl sz32 rfl ag32) fun a h => ?_
  refine wmv h rfl fun a h => ?_
  refine wmv h rfl fun a h => ?_
  refine wl (cal h rfl en29 (Hands_s x e s2 st _ _ (hE0.keep hp cl0) hspan) fun u w5 ⟨e1, e2⟩ a h => ?_)
  subst e1
  have hp := hp.below e2
  refine wmv h rfl fun a h => ?_
  refine wvl h (ext h rfl rfl) fun a h => ?_
  refine wvl h (ext h rfl rfl) fun a h => ?_
  refine wl (all h hp zc39 fun a w6 g2 hg2 h hp => ?_)
  refine wl (sta h hp rfl rfl 1 rfl sz39 rfl rfl fun w7 hp => ?_)
  refine wsg h rfl fun a h => ?_
  refine wn ?_
  refine rg ?_
  refine wvl h (ldO (us := [_, _, _, _, _, _, _, _, _, _, _]) h hp rfl 0 rfl sz32 rfl ag32) fun a h => ?_
  refine wmv h rfl fun a h => ?_
  refine wmv h rfl fun a h => ?_
  refine wl (cal h rfl en21 (Off_s x e s2 st _ _ (hE0.keep hp cl0) hspan) fun u w8 ⟨e1, e2⟩ a h => ?_)
  subst e1
  have hp := hp.below e2
  refine wmv h rfl fun a h => ?_
  refine wvl h (ext h rfl rfl) fun a h => ?_
  refine wvl h (ext h rfl rfl) fun a h => ?_
  refine wl (all h hp zc39 fun a w9 g3 hg3 h hp => ?_)
  refine wl (sta h hp rfl rfl 2 rfl sz39 rfl rfl fun w10 hp => ?_)
  refine wsg h rfl fun a h => ?_
  refine wn ?_
  refine rg ?_
  refine wvl h (ldO (us := [_, _, _, _, _, _, _, _, _, _, _]) h hp rfl 0 rfl sz32 rfl ag32) fun a h => ?_
  refine wl (cal h rfl en16_W32 (Engine_R x e _ (by first | exact hG.keep hp cl0 | exact (hE0.keep hp cl0).g)) fun u w11 ⟨e1, e2⟩ a h => ?_)
  subst e1
  have hp := hp.below e2
  refine wsg h rfl fun a h => ?_
  refine wn ?_
  refine wp_seq ?_
  refine rg ?_
  refine wmv h rfl fun a h => ?_
  refine wmv h rfl fun a h => ?_
  refine split (t := 37) h rfl (fun hb2 => ?_) (fun hb2 => ?_)
  ·refine wl (stp_on h rfl rfl rfl hb2 (vl h (mov h rfl) fun a h => ?_))
   refine wl (stp_on h rfl rfl rfl hb2 (vl h (nei h rfl rfl) fun a h => ?_))
   refine wvl h (pckT h rfl hb2 rfl) fun a h => ?_
   refine wmv h rfl fun a h => ?_
   refine split (t := 41) h rfl (fun hb3 => ?_) (fun hb3 => ?_)
   ·exact absurd hb3 (by first | decide | (rw [hen]; decide))
   ·refine wl (stp_on h rfl rfl rfl hb3 (vl h (mov h rfl) fun a h => ?_))
    refine wl (stp_on h rfl rfl rfl hb3 (vl h (not_ h rfl) fun a h => ?_))
    refine wl (stp_on h rfl rfl rfl hb3 (vl h (mov h rfl) fun a h => ?_))
    refine split (t := 44) h rfl (fun hb4 => ?_) (fun hb4 => ?_)
    ·exact absurd hb4 (by first | decide | (rw [hen]; decide))
    ·refine wl (stp_off h rfl rfl rfl rfl rfl hb4 fun a h => ?_)
     refine wl (stp_off h rfl rfl rfl rfl rfl hb4 fun a h => ?_)
     refine wl (stp_on h rfl rfl rfl hb3 (vl h (pckF h rfl hb4 rfl) fun a h => ?_))
     refine wvl h (pckF h rfl hb3 rfl) fun a h => ?_
     refine wn ?_
     refine cnd1 h rfl (fun e => nomatch e) (fun _ => ?_)
     refine skp ?_
     refine wp_seq ?_
     refine rg ?_
     refine wmv h rfl fun a h => ?_
     refine wvl h (not_ h rfl) fun a h => ?_
     refine wmv h rfl fun a h => ?_
     refine split (t := 51) h rfl (fun hb5 => ?_) (fun hb5 => ?_)
     ·exact absurd hb5 (by first | decide | (rw [hen]; decide))
     ·refine wl (stp_on h rfl rfl rfl hb5 (vl h (fad h rfl fo32_4) fun a h => ?_))
      refine wl (stp_on h rfl rfl rfl hb5 (vl h (ldo h hp rfl 0 rfl rfl ag30) fun a h => ?_))
      refine wl (stp_on h rfl rfl rfl hb5 (vl h (mov h rfl) fun a h => ?_))
      refine wl (stp_on h rfl rfl rfl hb5 (cal h rfl en17_W32 (Set_T _ _ _ _ _ (hE0.keep hp cl0).s (hE0.keep hp cl0).g.f) fun u w12 ⟨e1, e2⟩ a h => ?_))
      subst e1
      have hp := hp.below e2
      refine wl (stp_on h rfl rfl rfl hb5 (vl h (not_ h rfl) fun a h => ?_))
      refine wvl h (pckF h rfl hb5 rfl) fun a h => ?_
      refine wmv h rfl fun a h => ?_
      refine split (t := 58) h rfl (fun hb6 => ?_) (fun hb6 => ?_)
      ·exact absurd hb6 (by rw [hse]; decide)
      ·refine wl (stp_on h rfl rfl rfl hb6 (vl h (mov h rfl) fun a h => ?_))
       refine wl (stp_on h rfl rfl rfl hb6 (cal h rfl en18_W32 (Day_R _ _) fun u w13 ⟨e1, e2⟩ a h => ?_))
       subst e1
       subst e2
       refine wl (stp_on h rfl rfl rfl hb6 (vl h (not_ h rfl) fun a h => ?_))
       refine wvl h (pckF h rfl hb6 rfl) fun a h => ?_
       refine wn ?_
       refine cnd1 h rfl (fun hb7 => ?_) (fun hb7 => ?_)
       ·exact absurd hb7 (by rw [show isDay t = true from hspan]; decide)
       ·refine skp ?_
        refine rdh (n := 26) hp mixed rfl ?_
        have hp := hp.drew
        refine tkm 0 h rfl hp rfl fun a h => ?_
        refine tkq 1 h rfl hp (fun W _ => eqi h rfl rfl) fun a h => ?_
        refine tkm 2 h rfl hp rfl fun a h => ?_
        refine split (t := 84) h rfl (fun hb8 => ?_) (fun hb8 => ?_)
        ·refine tk_on 3 h rfl (by kernel_rfl) (fun _ _ _ q => q) hp rfl rfl rfl rfl rfl hb8 (fun W hp => ldO (us := [_, _, _]) h hp rfl 1 rfl sz39 rfl ag39) fun a h => ?_
         refine tk_on 4 h rfl (by kernel_rfl) (fun _ _ _ q => q) hp rfl rfl rfl rfl rfl hb8 (fun W hp => ldO (us := [_, _, _, _, _, _, _, _, _, _, _]) h hp rfl 0 rfl sz32 rfl ag32) fun a h => ?_
         refine tk_on 5 h rfl (by kernel_rfl) (fun _ _ _ q => q) hp rfl rfl rfl rfl rfl hb8 (fun W _ => mov h rfl) fun a h => ?_
         refine tk_on 6 h rfl (by kernel_rfl) (fun _ _ _ q => q) hp rfl rfl rfl rfl rfl hb8 (fun W _ => mov h rfl) fun a h => ?_
         refine one 7 (by kernel_rfl) rfl (stp_on h rfl rfl rfl hb8 (cal h rfl en54 (Hands_R x e s2 st _ _ (hE0.keep hp cl0) (by omega)) fun u w14 ⟨e1, e2⟩ a h => ⟨hp.below e2, ?_⟩))
         subst e1
         have hp := hp.below e2
         refine tk_on 8 h rfl (by kernel_rfl) (fun _ _ _ q => q) hp rfl rfl rfl rfl rfl hb8 (fun W _ => eqS h rfl rfl (by kernel_rfl) (eqs39 _ _ _ _ _ _)) fun a h => ?_
         refine tkq 9 h rfl hp (fun W _ => pckT h rfl hb8 rfl) fun a h => ?_
         refine tkm 10 h rfl hp rfl fun a h => ?_
         refine split (t := 92) h rfl (fun hb9 => ?_) (fun hb9 => ?_)
         ·refine tk_on 11 h rfl (by kernel_rfl) (fun _ _ _ q => q) hp rfl rfl rfl rfl rfl hb9 (fun W _ => mov h rfl) fun a h => ?_
          refine tk_on 12 h rfl (by kernel_rfl) (fun _ _ _ q => q) hp rfl rfl rfl rfl rfl hb9 (fun W _ => eqi h rfl rfl) fun a h => ?_
          refine tkq 13 h rfl hp (fun W _ => pckT h rfl hb9 rfl) fun a h => ?_
          refine tkm 14 h rfl hp rfl fun a h => ?_
          refine split (t := 96) h rfl (fun hb10 => ?_) (fun hb10 => ?_)
          ·refine tk_on 15 h rfl (by kernel_rfl) (fun _ _ _ q => q) hp rfl rfl rfl rfl rfl hb10 (fun W hp => ldO (us := [_, _, _]) h hp rfl 2 rfl sz39 rfl ag39) fun a h => ?_
           refine tk_on 16 h rfl (by kernel_rfl) (fun _ _ _ q => q) hp rfl rfl rfl rfl rfl hb10 (fun W hp => ldO (us := [_, _, _, _, _, _, _, _, _, _, _]) h hp rfl 0 rfl sz32 rfl ag32) fun a h => ?_
           refine tk_on 17 h rfl (by kernel_rfl) (fun _ _ _ q => q) hp rfl rfl rfl rfl rfl hb10 (fun W _ => mov h rfl) fun a h => ?_
           refine tk_on 18 h rfl (by kernel_rfl) (fun _ _ _ q => q) hp rfl rfl rfl rfl rfl hb10 (fun W _ => mov h rfl) fun a h => ?_
           refine one 19 (by kernel_rfl) rfl (stp_on h rfl rfl rfl hb10 (cal h rfl en55_W32 (Off_R x e s2 st _ _ (hE0.keep hp cl0) (by omega)) fun u w15 ⟨e1, e2⟩ a h => ⟨hp.below e2, ?_⟩))
           subst e1
           have hp := hp.below e2
           refine tk_on 20 h rfl (by kernel_rfl) (fun _ _ _ q => q) hp rfl rfl rfl rfl rfl hb10 (fun W _ => eqS h rfl rfl (by kernel_rfl) (eqs39 _ _ _ _ _ _)) fun a h => ?_
           refine tkq 21 h rfl hp (fun W _ => pckT h rfl hb10 rfl) fun a h => ?_
           refine tkm 22 h rfl hp rfl fun a h => ?_
           refine split (t := 104) h rfl (fun hb11 => ?_) (fun hb11 => ?_)
           ·refine one 23 (by kernel_rfl) rfl (stp_on h rfl rfl rfl hb11 (cal h rfl en20_W32 (known_L _ (hGl.keep hp)) fun u w16 ⟨e1, e2⟩ a h => ⟨hp.below e2, ?_⟩))
            subst e1
            have hp := hp.below e2
            refine tkq 24 h rfl hp (fun W _ => pckT h rfl hb11 rfl) fun a h => ?_
            refine tka 25 h rfl hp rfl fun a h => ?_
            refine dn (by kernel_rfl) ?_
            refine wp_ret ?_
            try simp only [xqs, ↓reduceIte, Nat.reduceEqDiff]
            refine rt_1 h rfl (rvT h rfl) ?_
            exact ⟨_, rfl, rfl, hp.bel⟩
           ·exact absurd hb11 (by simp)
          ·exact absurd hb10 (by decide)
         ·exact absurd hb9 (by simp)
        ·exact absurd hb8 (by decide)
  ·exact absurd hb2 (by first | decide | (rw [hen]; decide))
theorem bad3p {a b c : Bool} (h1 : a = true) (h2 : (!b) = false) (h3 : (!c) = false) : ¬ ((a && b && c) = false) := by cases a <;> cases b <;> cases c <;> simp_all
theorem EclipseHands_b (x : EV) (e : Eng) (s2 : SV) (st : List Int) (t : Int) (w : World) (hG : RdG w x e) (hS2 : Rd w encI 1 s2.v st) (hGl : Glb w) (hbad : (isEngine e && isSet e st && inR t 0 9000) = false) : Ret Tryz.prog 14 #[.agg #[x.b.v, .int .i64 e.nnum, .int .i64 e.nden, .int .i64 e.nstart, x.s.v, x.m.v, x.n.v, x.f.v, .int .i64 e.new, .int .i64 e.full, .int .i64 e.wide], s2.v, .int .i64 t] w fun u w' => u = .bool true ∧ Below w.heap.size w w' := by
 have hp : Hp c0 w w [] := Hp.start trivial
 refine enter Tryz.func14 rfl (N := 107) rfl rfl fun a h => ?_
 refine rg ?_
 refine wl (box (cs := #[_, _, _, _, _, _, _, _, _, _, _]) h hp rfl rfl fun a w1 g1 hg1 h hp => ?_)
 refine wsg h rfl fun a h => ?_
 refine wn ?_
 refine wp_seq ?_
 refine rg ?_
 refine wvl h (ldO (us := [_, _, _, _, _, _, _, _, _, _, _]) h hp rfl 0 rfl sz32 rfl ag32) fun a h => ?_
 refine wmv h rfl fun a h => ?_
 refine wl (cal h rfl en15_W32 (short_L x e s2 st _ (hG.keep hp cl0) (hS2.keep (by decide) hp cl0)) fun u w2 ⟨⟨bsh, e1⟩, e2⟩ a h => ?_)
 subst e1
 have hp := hp.below e2
 refine wvl h (not_ h rfl) fun a h => ?_
 refine wn ?_
 refine cnd1 h rfl (fun hb1 => ?_) (fun hb1 => ?_)
 ·refine rg ?_
  refine wl (cal h rfl en20_W32 (known_L _ (hGl.keep hp)) fun u w3 ⟨e1, e2⟩ a h => ?_)
  subst e1
  have hp := hp.below e2
  refine wsg h rfl fun a h => ?_
  refine wn ?_
  refine wp_ret ?_
  try simp only [xqs, ↓reduceIte, Nat.reduceEqDiff]
  refine rt_1 h rfl (rvT h rfl) ?_
  exact ⟨_, rfl, rfl, hp.bel⟩
 ·refine skp ?_
  refine rg ?_
  rcases hen : isEngine e with _ | _
  ·refine wvl h (ldO (us := [_, _, _, _, _, _, _, _, _, _, _]) h hp rfl 0 rfl sz32 rfl ag32) fun a h => ?_
   refine wl (cal h rfl en53_W32 (Check_b x e _ (hG.keep hp cl0) hen) fun u w4 ⟨e1, e2⟩ a h => ?_)
   subst e1
   have hp := hp.below e2
   refine wsg h rfl fun a h => ?_
   refine wn ?_
   refine rg ?_
   refine wvl h (ldO (us := [_, _, _, _, _, _, _, _, _, _, _]) h hp rfl 0 rfl sz32 rfl ag32) fun a h => ?_
   refine wmv h rfl fun a h => ?_
   refine wmv h rfl fun a h => ?_
   refine wl (cal h rfl en29 (Hands_x x e s2 st t _ (hG.keep hp cl0) (hS2.keep (by decide) hp cl0) hbad) fun u w5 ⟨e1, e2⟩ a h => ?_)
   subst e1
   have hp := hp.below e2
   refine wmv h rfl fun a h => ?_
   refine wvl h (ext h rfl rfl) fun a h => ?_
   refine wvl h (ext h rfl rfl) fun a h => ?_
   refine wl (all h hp zc39 fun a w6 g2 hg2 h hp => ?_)
   refine wl (sta h hp rfl rfl 1 rfl sz39 rfl rfl fun w7 hp => ?_)
   refine wsg h rfl fun a h => ?_
   refine wn ?_
   refine rg ?_
   refine wvl h (ldO (us := [_, _, _, _, _, _, _, _, _, _, _]) h hp rfl 0 rfl sz32 rfl ag32) fun a h => ?_
   refine wmv h rfl fun a h => ?_
   refine wmv h rfl fun a h => ?_
   refine wl (cal h rfl en21 (Off_x x e s2 st t _ (hG.keep hp cl0) (hS2.keep (by decide) hp cl0) hbad) fun u w8 ⟨e1, e2⟩ a h => ?_)
   subst e1
   have hp := hp.below e2
   refine wmv h rfl fun a h => ?_
   refine wvl h (ext h rfl rfl) fun a h => ?_
   refine wvl h (ext h rfl rfl) fun a h => ?_
   refine wl (all h hp zc39 fun a w9 g3 hg3 h hp => ?_)
   refine wl (sta h hp rfl rfl 2 rfl sz39 rfl rfl fun w10 hp => ?_)
   refine wsg h rfl fun a h => ?_
   refine wn ?_
   refine rg ?_
   refine wvl h (ldO (us := [_, _, _, _, _, _, _, _, _, _, _]) h hp rfl 0 rfl sz32 rfl ag32) fun a h => ?_
   refine wl (cal h rfl en16_W32 (Engine_R x e _ (by first | exact hG.keep hp cl0 | exact (hE0.keep hp cl0).g)) fun u w11 ⟨e1, e2⟩ a h => ?_)
   subst e1
   have hp := hp.below e2
   refine wsg h rfl fun a h => ?_
   refine wn ?_
   refine wp_seq ?_
   refine rg ?_
   refine wmv h rfl fun a h => ?_
   refine wmv h rfl fun a h => ?_
   refine split (t := 37) h rfl (fun hb2 => ?_) (fun hb2 => ?_)
   ·exact absurd hb2 (by first | decide | (rw [hen]; decide))
   ·refine wl (stp_off h rfl rfl rfl rfl rfl hb2 fun a h => ?_)
    refine wl (stp_off h rfl rfl rfl rfl rfl hb2 fun a h => ?_)
    refine wvl h (pckF h rfl hb2 rfl) fun a h => ?_
    refine wmv h rfl fun a h => ?_
    refine wl (stp_on h rfl rfl rfl rfl (vl h (mov h rfl) fun a h => ?_))
    refine wl (stp_on h rfl rfl rfl rfl (vl h (not_ h rfl) fun a h => ?_))
    refine wl (stp_on h rfl rfl rfl rfl (vl h (mov h rfl) fun a h => ?_))
    refine split (t := 44) h rfl (fun hb3 => ?_) (fun hb3 => ?_)
    ·refine wl (stp_on h rfl rfl rfl hb3 (vl h (mov h rfl) fun a h => ?_))
     refine wl (stp_on h rfl rfl rfl hb3 (vl h (nei h rfl rfl) fun a h => ?_))
     refine wl (stp_on h rfl rfl rfl rfl (vl h (pckT h rfl hb3 rfl) fun a h => ?_))
     refine wvl h (pckF h rfl rfl rfl) fun a h => ?_
     refine wn ?_
     refine cnd1 h rfl (fun hb4 => ?_) (fun hb4 => ?_)
     ·exact absurd hb4 (by first | decide | (rw [hen]; decide))
     ·refine skp ?_
      refine wp_seq ?_
      refine rg ?_
      refine wmv h rfl fun a h => ?_
      refine wvl h (not_ h rfl) fun a h => ?_
      refine wmv h rfl fun a h => ?_
      refine split (t := 51) h rfl (fun hb5 => ?_) (fun hb5 => ?_)
      ·refine wl (stp_off h rfl rfl rfl rfl rfl hb5 fun a h => ?_)
       refine wl (stp_off h rfl rfl rfl rfl rfl hb5 fun a h => ?_)
       refine wl (stp_off h rfl rfl rfl rfl rfl hb5 fun a h => ?_)
       refine wl (stp_off h rfl rfl rfl rfl rfl hb5 fun a h => ?_)
       refine wl (stp_off h rfl rfl rfl rfl rfl hb5 fun a h => ?_)
       refine wvl h (pckT h rfl hb5 rfl) fun a h => ?_
       refine wmv h rfl fun a h => ?_
       refine wl (stp_off h rfl rfl rfl rfl rfl rfl fun a h => ?_)
       refine wl (stp_off h rfl rfl rfl rfl rfl rfl fun a h => ?_)
       refine wl (stp_off h rfl rfl rfl rfl rfl rfl fun a h => ?_)
       refine wvl h (pckT h rfl rfl rfl) fun a h => ?_
       refine wn ?_
       refine cnd1 h rfl (fun _ => ?_) (fun e => nomatch e)
       refine rg ?_
       refine wmv h rfl fun a h => ?_
       refine wvl h (eqi h rfl rfl) fun a h => ?_
       refine wmv h rfl fun a h => ?_
       refine split (t := 65) h rfl (fun hb6 => ?_) (fun hb6 => ?_)
       ·refine wl (stp_on h rfl rfl rfl hb6 (vl h (ldO (us := [_, _, _]) h hp rfl 1 rfl sz39 rfl ag39) fun a h => ?_))
        refine wl (stp_on h rfl rfl rfl hb6 (vl h (bld h rfl (bl39_ _)) fun a h => ?_))
        refine wl (stp_on h rfl rfl rfl hb6 (vl h (eqS h rfl rfl (by kernel_rfl) (eqs39 _ _ _ _ _ _)) fun a h => ?_))
        refine wvl h (pckT h rfl hb6 rfl) fun a h => ?_
        refine wmv h rfl fun a h => ?_
        refine split (t := 70) h rfl (fun hb7 => ?_) (fun hb7 => ?_)
        ·refine wl (stp_on h rfl rfl rfl hb7 (vl h (mov h rfl) fun a h => ?_))
         refine wl (stp_on h rfl rfl rfl hb7 (vl h (eqi h rfl rfl) fun a h => ?_))
         refine wvl h (pckT h rfl hb7 rfl) fun a h => ?_
         refine wmv h rfl fun a h => ?_
         refine split (t := 74) h rfl (fun hb8 => ?_) (fun hb8 => ?_)
         ·refine wl (stp_on h rfl rfl rfl hb8 (vl h (ldO (us := [_, _, _]) h hp rfl 2 rfl sz39 rfl ag39) fun a h => ?_))
          refine wl (stp_on h rfl rfl rfl hb8 (vl h (bld h rfl (bl39_ _)) fun a h => ?_))
          refine wl (stp_on h rfl rfl rfl hb8 (vl h (eqS h rfl rfl (by kernel_rfl) (eqs39 _ _ _ _ _ _)) fun a h => ?_))
          refine wvl h (pckT h rfl hb8 rfl) fun a h => ?_
          refine wmv h rfl fun a h => ?_
          refine split (t := 79) h rfl (fun hb9 => ?_) (fun hb9 => ?_)
          ·refine wl (stp_on h rfl rfl rfl hb9 (cal h rfl en20_W32 (known_L _ (hGl.keep hp)) fun u w12 ⟨e1, e2⟩ a h => ?_))
           subst e1
           have hp := hp.below e2
           refine wvl h (pckT h rfl hb9 rfl) fun a h => ?_
           refine wsg h rfl fun a h => ?_
           refine wn ?_
           refine wp_ret ?_
           try simp only [xqs, ↓reduceIte, Nat.reduceEqDiff]
           refine rt_1 h rfl (rvT h rfl) ?_
           exact ⟨_, rfl, rfl, hp.bel⟩
          ·exact absurd hb9 (by first | decide | simp)
         ·exact absurd hb8 (by first | decide | simp)
        ·exact absurd hb7 (by first | decide | simp)
       ·exact absurd hb6 (by first | decide | simp)
      ·exact absurd hb5 (by first | decide | (rw [hen]; decide))
    ·exact absurd hb3 (by first | decide | (rw [hen]; decide))
  ·refine wvl h (ldO (us := [_, _, _, _, _, _, _, _, _, _, _]) h hp rfl 0 rfl sz32 rfl ag32) fun a h => ?_
   refine wl (cal h rfl en53_W32 (Check_g x e _ (hG.keep hp cl0) hen) fun u w13 ⟨e1, e2⟩ a h => ?_)
   subst e1
   have hp := hp.below e2
   refine wsg h rfl fun a h => ?_
   refine wn ?_
   refine rg ?_
   refine wvl h (ldO (us := [_, _, _, _, _, _, _, _, _, _, _]) h hp rfl 0 rfl sz32 rfl ag32) fun a h => ?_
   refine wmv h rfl fun a h => ?_
   refine wmv h rfl fun a h => ?_
   refine wl (cal h rfl en29 (Hands_x x e s2 st t _ (hG.keep hp cl0) (hS2.keep (by decide) hp cl0) hbad) fun u w14 ⟨e1, e2⟩ a h => ?_)
   subst e1
   have hp := hp.below e2
   refine wmv h rfl fun a h => ?_
   refine wvl h (ext h rfl rfl) fun a h => ?_
   refine wvl h (ext h rfl rfl) fun a h => ?_
   refine wl (all h hp zc39 fun a w15 g4 hg4 h hp => ?_)
   refine wl (sta h hp rfl rfl 1 rfl sz39 rfl rfl fun w16 hp => ?_)
   refine wsg h rfl fun a h => ?_
   refine wn ?_
   refine rg ?_
   refine wvl h (ldO (us := [_, _, _, _, _, _, _, _, _, _, _]) h hp rfl 0 rfl sz32 rfl ag32) fun a h => ?_
   refine wmv h rfl fun a h => ?_
   refine wmv h rfl fun a h => ?_
   refine wl (cal h rfl en21 (Off_x x e s2 st t _ (hG.keep hp cl0) (hS2.keep (by decide) hp cl0) hbad) fun u w17 ⟨e1, e2⟩ a h => ?_)
   subst e1
   have hp := hp.below e2
   refine wmv h rfl fun a h => ?_
   refine wvl h (ext h rfl rfl) fun a h => ?_
   refine wvl h (ext h rfl rfl) fun a h => ?_
   refine wl (all h hp zc39 fun a w18 g5 hg5 h hp => ?_)
   refine wl (sta h hp rfl rfl 2 rfl sz39 rfl rfl fun w19 hp => ?_)
   refine wsg h rfl fun a h => ?_
   refine wn ?_
   refine rg ?_
   refine wvl h (ldO (us := [_, _, _, _, _, _, _, _, _, _, _]) h hp rfl 0 rfl sz32 rfl ag32) fun a h => ?_
   refine wl (cal h rfl en16_W32 (Engine_R x e _ (by first | exact hG.keep hp cl0 | exact (hE0.keep hp cl0).g)) fun u w20 ⟨e1, e2⟩ a h => ?_)
   subst e1
   have hp := hp.below e2
   refine wsg h rfl fun a h => ?_
   refine wn ?_
   refine wp_seq ?_
   refine rg ?_
   refine wmv h rfl fun a h => ?_
   refine wmv h rfl fun a h => ?_
   refine split (t := 37) h rfl (fun hb10 => ?_) (fun hb10 => ?_)
   ·refine wl (stp_on h rfl rfl rfl hb10 (vl h (mov h rfl) fun a h => ?_))
    refine wl (stp_on h rfl rfl rfl hb10 (vl h (nei h rfl rfl) fun a h => ?_))
    refine wvl h (pckT h rfl hb10 rfl) fun a h => ?_
    refine wmv h rfl fun a h => ?_
    refine split (t := 41) h rfl (fun hb11 => ?_) (fun hb11 => ?_)
    ·exact absurd hb11 (by first | decide | (rw [hen]; decide))
    ·refine wl (stp_on h rfl rfl rfl hb11 (vl h (mov h rfl) fun a h => ?_))
     refine wl (stp_on h rfl rfl rfl hb11 (vl h (not_ h rfl) fun a h => ?_))
     refine wl (stp_on h rfl rfl rfl hb11 (vl h (mov h rfl) fun a h => ?_))
     refine split (t := 44) h rfl (fun hb12 => ?_) (fun hb12 => ?_)
     ·exact absurd hb12 (by first | decide | (rw [hen]; decide))
     ·refine wl (stp_off h rfl rfl rfl rfl rfl hb12 fun a h => ?_)
      refine wl (stp_off h rfl rfl rfl rfl rfl hb12 fun a h => ?_)
      refine wl (stp_on h rfl rfl rfl hb11 (vl h (pckF h rfl hb12 rfl) fun a h => ?_))
      refine wvl h (pckF h rfl hb11 rfl) fun a h => ?_
      refine wn ?_
      refine cnd1 h rfl (fun e => nomatch e) (fun _ => ?_)
      refine skp ?_
      refine wp_seq ?_
      refine rg ?_
      refine wmv h rfl fun a h => ?_
      refine wvl h (not_ h rfl) fun a h => ?_
      refine wmv h rfl fun a h => ?_
      refine split (t := 51) h rfl (fun hb13 => ?_) (fun hb13 => ?_)
      ·exact absurd hb13 (by first | decide | (rw [hen]; decide))
      ·refine wl (stp_on h rfl rfl rfl hb13 (vl h (fad h rfl fo32_4) fun a h => ?_))
       refine wl (stp_on h rfl rfl rfl hb13 (vl h (ldo h hp rfl 0 rfl rfl ag30) fun a h => ?_))
       refine wl (stp_on h rfl rfl rfl hb13 (vl h (mov h rfl) fun a h => ?_))
       refine wl (stp_on h rfl rfl rfl hb13 (cal h rfl en17_W32 (Set_T _ _ _ _ _ (hS2.keep (by decide) hp cl0) (hG.keep hp cl0).f) fun u w21 ⟨e1, e2⟩ a h => ?_))
       subst e1
       have hp := hp.below e2
       refine wl (stp_on h rfl rfl rfl hb13 (vl h (not_ h rfl) fun a h => ?_))
       refine wvl h (pckF h rfl hb13 rfl) fun a h => ?_
       refine wmv h rfl fun a h => ?_
       refine split (t := 58) h rfl (fun hb14 => ?_) (fun hb14 => ?_)
       ·refine wl (stp_off h rfl rfl rfl rfl rfl hb14 fun a h => ?_)
        refine wl (stp_off h rfl rfl rfl rfl rfl hb14 fun a h => ?_)
        refine wl (stp_off h rfl rfl rfl rfl rfl hb14 fun a h => ?_)
        refine wvl h (pckT h rfl hb14 rfl) fun a h => ?_
        refine wn ?_
        refine cnd1 h rfl (fun _ => ?_) (fun e => nomatch e)
        refine rg ?_
        refine wmv h rfl fun a h => ?_
        refine wvl h (eqi h rfl rfl) fun a h => ?_
        refine wmv h rfl fun a h => ?_
        refine split (t := 65) h rfl (fun hb15 => ?_) (fun hb15 => ?_)
        ·refine wl (stp_on h rfl rfl rfl hb15 (vl h (ldO (us := [_, _, _]) h hp rfl 1 rfl sz39 rfl ag39) fun a h => ?_))
         refine wl (stp_on h rfl rfl rfl hb15 (vl h (bld h rfl (bl39_ _)) fun a h => ?_))
         refine wl (stp_on h rfl rfl rfl hb15 (vl h (eqS h rfl rfl (by kernel_rfl) (eqs39 _ _ _ _ _ _)) fun a h => ?_))
         refine wvl h (pckT h rfl hb15 rfl) fun a h => ?_
         refine wmv h rfl fun a h => ?_
         refine split (t := 70) h rfl (fun hb16 => ?_) (fun hb16 => ?_)
         ·refine wl (stp_on h rfl rfl rfl hb16 (vl h (mov h rfl) fun a h => ?_))
          refine wl (stp_on h rfl rfl rfl hb16 (vl h (eqi h rfl rfl) fun a h => ?_))
          refine wvl h (pckT h rfl hb16 rfl) fun a h => ?_
          refine wmv h rfl fun a h => ?_
          refine split (t := 74) h rfl (fun hb17 => ?_) (fun hb17 => ?_)
          ·refine wl (stp_on h rfl rfl rfl hb17 (vl h (ldO (us := [_, _, _]) h hp rfl 2 rfl sz39 rfl ag39) fun a h => ?_))
           refine wl (stp_on h rfl rfl rfl hb17 (vl h (bld h rfl (bl39_ _)) fun a h => ?_))
           refine wl (stp_on h rfl rfl rfl hb17 (vl h (eqS h rfl rfl (by kernel_rfl) (eqs39 _ _ _ _ _ _)) fun a h => ?_))
           refine wvl h (pckT h rfl hb17 rfl) fun a h => ?_
           refine wmv h rfl fun a h => ?_
           refine split (t := 79) h rfl (fun hb18 => ?_) (fun hb18 => ?_)
           ·refine wl (stp_on h rfl rfl rfl hb18 (cal h rfl en20_W32 (known_L _ (hGl.keep hp)) fun u w22 ⟨e1, e2⟩ a h => ?_))
            subst e1
            have hp := hp.below e2
            refine wvl h (pckT h rfl hb18 rfl) fun a h => ?_
            refine wsg h rfl fun a h => ?_
            refine wn ?_
            refine wp_ret ?_
            try simp only [xqs, ↓reduceIte, Nat.reduceEqDiff]
            refine rt_1 h rfl (rvT h rfl) ?_
            exact ⟨_, rfl, rfl, hp.bel⟩
           ·exact absurd hb18 (by first | decide | simp)
          ·exact absurd hb17 (by first | decide | simp)
         ·exact absurd hb16 (by first | decide | simp)
        ·exact absurd hb15 (by first | decide | simp)
       ·have hn2 := hb14
        refine wl (stp_on h rfl rfl rfl hb14 (vl h (mov h rfl) fun a h => ?_))
        refine wl (stp_on h rfl rfl rfl hb14 (cal h rfl en18_W32 (Day_R _ _) fun u w23 ⟨e1, e2⟩ a h => ?_))
        subst e1
        subst e2
        refine wl (stp_on h rfl rfl rfl hb14 (vl h (not_ h rfl) fun a h => ?_))
        refine wvl h (pckF h rfl hb14 rfl) fun a h => ?_
        refine wn ?_
        refine cnd1 h rfl (fun hb19 => ?_) (fun hb19 => ?_)
        ·refine rg ?_
         refine wmv h rfl fun a h => ?_
         refine wvl h (eqi h rfl rfl) fun a h => ?_
         refine wmv h rfl fun a h => ?_
         refine split (t := 65) h rfl (fun hb20 => ?_) (fun hb20 => ?_)
         ·refine wl (stp_on h rfl rfl rfl hb20 (vl h (ldO (us := [_, _, _]) h hp rfl 1 rfl sz39 rfl ag39) fun a h => ?_))
          refine wl (stp_on h rfl rfl rfl hb20 (vl h (bld h rfl (bl39_ _)) fun a h => ?_))
          refine wl (stp_on h rfl rfl rfl hb20 (vl h (eqS h rfl rfl (by kernel_rfl) (eqs39 _ _ _ _ _ _)) fun a h => ?_))
          refine wvl h (pckT h rfl hb20 rfl) fun a h => ?_
          refine wmv h rfl fun a h => ?_
          refine split (t := 70) h rfl (fun hb21 => ?_) (fun hb21 => ?_)
          ·refine wl (stp_on h rfl rfl rfl hb21 (vl h (mov h rfl) fun a h => ?_))
           refine wl (stp_on h rfl rfl rfl hb21 (vl h (eqi h rfl rfl) fun a h => ?_))
           refine wvl h (pckT h rfl hb21 rfl) fun a h => ?_
           refine wmv h rfl fun a h => ?_
           refine split (t := 74) h rfl (fun hb22 => ?_) (fun hb22 => ?_)
           ·refine wl (stp_on h rfl rfl rfl hb22 (vl h (ldO (us := [_, _, _]) h hp rfl 2 rfl sz39 rfl ag39) fun a h => ?_))
            refine wl (stp_on h rfl rfl rfl hb22 (vl h (bld h rfl (bl39_ _)) fun a h => ?_))
            refine wl (stp_on h rfl rfl rfl hb22 (vl h (eqS h rfl rfl (by kernel_rfl) (eqs39 _ _ _ _ _ _)) fun a h => ?_))
            refine wvl h (pckT h rfl hb22 rfl) fun a h => ?_
            refine wmv h rfl fun a h => ?_
            refine split (t := 79) h rfl (fun hb23 => ?_) (fun hb23 => ?_)
            ·refine wl (stp_on h rfl rfl rfl hb23 (cal h rfl en20_W32 (known_L _ (hGl.keep hp)) fun u w24 ⟨e1, e2⟩ a h => ?_))
             subst e1
             have hp := hp.below e2
             refine wvl h (pckT h rfl hb23 rfl) fun a h => ?_
             refine wsg h rfl fun a h => ?_
             refine wn ?_
             refine wp_ret ?_
             try simp only [xqs, ↓reduceIte, Nat.reduceEqDiff]
             refine rt_1 h rfl (rvT h rfl) ?_
             exact ⟨_, rfl, rfl, hp.bel⟩
            ·exact absurd hb23 (by first | decide | simp)
           ·exact absurd hb22 (by first | decide | simp)
          ·exact absurd hb21 (by first | decide | simp)
         ·exact absurd hb20 (by first | decide | simp)
        ·exact absurd hbad (bad3p hen hn2 hb19)
   ·exact absurd hb10 (by first | decide | (rw [hen]; decide))
end Go.Proofs.Ec
