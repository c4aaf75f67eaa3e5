import Derived.Test.YtobofnkmbpfoiaaGreatDoorProg
import Derived.Test.YtobofnkmbpfoiaaGreatDoorPFa
import Derived.Test.YtobofnkmbpfoiaaGreatDoorPQb
import Derived.Test.YtobofnkmbpfoiaaGreatDoorPW10
set_option linter.unusedVariables false
set_option linter.unusedSimpArgs false
set_option maxRecDepth 4000
namespace Go.Proofs.Ec
open Go.RowKit Go.Proofs.Sx
open Ecl
set_option maxHeartbeats 2000000 in
theorem Empty_s (x : EV) (e : Eng) (s2 : SV) (st : List Int) (d1 d2 lt : Int) (w : World) (hE0 : RdE w x e s2 st) (hspan : (inR d1 1 9000 && inR d2 d1 9000 && decide (d2 - d1 ≤ 400) && inR lt 0 30) = true) : Ret Tryz.prog 40 #[.agg #[x.b.v, .int .i64 e.nnum, .int .i64 e.nden, .int .i64 e.nstart, x.s.v, x.m.v, x.n.v, x.f.v, .int .i64 e.new, .int .i64 e.full, .int .i64 e.wide], s2.v, .int .i64 d1, .int .i64 d2, .int .i64 lt] w fun u w' => (∃ s : SV, u = .tuple #[s.v, .int .i64 0] ∧ Fr w w' encM 3 s.v (empties e st d1 d2 lt)) ∧ Below w.heap.size w w' := by
 have ok := eng_ok hE0.ok
 have hd := hspan
 simp only [inR, Bool.and_eq_true, decide_eq_true_eq] at hd
 have hp : Hp c0 w w [] := Hp.start trivial
 refine enterM Tryz.func40 rfl (N := 78) rfl rfl fun a h => ?_
 refine rg ?_
 refine wl (box (cs := #[_, _, _, _, _, _, _, _, _, _, _]) h hp rfl rfl fun a w1 g1 hg1 h hp => ?_)
 refine wl (box (cs := #[_]) h hp rfl rfl fun a w2 g2 hg2 h hp => ?_)
 refine ws2 h rfl rfl rfl rfl fun a h => ?_
 refine wp_scope_straight ?_
 refine cutN (fun a w' => ∃ b gE : Nat, w.heap.size ≤ b ∧ Has [] 78 a [(1, s2.v), (2, .int .i64 d1), (3, .int .i64 d2), (4, .int .i64 lt), (5, .pointer (some ⟨g1, 0, none⟩)), (9, .pointer (some ⟨g2, 0, none⟩)), (12, .pointer (some ⟨gE, 0, none⟩)), (13, .int .i64 0)] ∧ Hp (cM (hE e st) b) w w' [.blk g1 (.cells #[x.b.v, .int .i64 e.nnum, .int .i64 e.nden, .int .i64 e.nstart, x.s.v, x.m.v, x.n.v, x.f.v, .int .i64 e.new, .int .i64 e.full, .int .i64 e.wide] 32 (0, 0)), .blk g2 (.cells #[.int .i64 lt] 3 (0, 0)), .blk gE (.cells #[x.b.v, .int .i64 e.nnum, .int .i64 e.nden, .int .i64 e.nstart, x.s.v, x.m.v, x.n.v, x.f.v, .int .i64 e.new, .int .i64 e.full, .int .i64 e.wide, s2.v, .map (some b)] 100 (0, 0))]) ?_ ?_
 ·refine rdh1 (n := 16) hp mixed rfl ?_
  have hp := hp.drew
  refine tkq 0 h rfl hp (fun W hp => ldO (us := [_, _, _, _, _, _, _, _, _, _, _]) h hp rfl 0 rfl sz32 rfl ag32) fun a h => ?_
  refine tkm 1 h rfl hp rfl fun a h => ?_
  refine tkm 2 h rfl hp rfl fun a h => ?_
  refine tkm 3 h rfl hp rfl fun a h => ?_
  refine two 4 13 (by kernel_rfl) rfl rfl ?_ ?_
  ·refine (cal h rfl en76 (isSpan_e _ _ _) fun u w4 ⟨e1, e2⟩ a h => ⟨e2 ▸ hp, ?_⟩)
   subst e1
   subst e2
   refine tkm 5 h rfl hp rfl fun a h => ?_
   refine split (t := 25) h rfl (fun hb1 => ?_) (fun hb1 => ?_)
   ·refine tk_on 6 h rfl (by kernel_rfl) (fun _ _ _ q => q) hp rfl rfl rfl rfl rfl hb1 (fun W hp => ldo h hp rfl 1 rfl rfl ag3) fun a h => ?_
    refine two 7 13 (by kernel_rfl) rfl rfl ?_ ?_
    ·refine (stp_on h rfl rfl rfl hb1 (cal h rfl en83 (isLate_e _ _) fun u w5 ⟨e1, e2⟩ a h => ⟨e2 ▸ hp, ?_⟩))
     subst e1
     subst e2
     refine tkq 8 h rfl hp (fun W _ => pckT h rfl hb1 rfl) fun a h => ?_
     refine two 9 13 (by kernel_rfl) rfl rfl ?_ ?_
     ·refine (cal h rfl en69 (asked_s x e s2 st _ _ (hE0.keep hp cl0) (by first | exact hspan | simpa [isLate, hb1] using hspan)) fun u w6 ⟨⟨b9, e1, hb9, hm9⟩, e2⟩ a h => ⟨((hp.below e2).pre 2 rfl), ?_⟩)
      subst e1
      have hp := hp.keepF (hp.below e2) (F := mapAt (hE e st) b9) (D := fun k => k = b9) (fun w1 w2 hs ⟨es, cl, h1, h2⟩ => ⟨es, cl, (hs _ rfl).trans h1, h2⟩) hm9 (by rintro k rfl; exact ⟨hb9, hm9.lt⟩)
      refine tkm 10 h rfl ((hp).pre 2 rfl) rfl fun a h => ?_
      refine tkq 11 h rfl ((hp).pre 2 rfl) (fun W _ => ext h rfl rfl) fun a h => ?_
      refine tkq 12 h rfl ((hp).pre 2 rfl) (fun W _ => ext h rfl rfl) fun a h => ?_
      refine one 13 (by kernel_rfl) rfl (all h hp zc100 fun a w7 g3 hg3 h hp => ⟨((hp).pre 2 rfl), ?_⟩)
      refine one 14 (by kernel_rfl) rfl (sta h hp rfl rfl 3 rfl sz100 rfl rfl fun w8 hp => ⟨((hp).pre 2 rfl), ?_⟩)
      refine tka 15 h rfl ((hp).pre 2 rfl) rfl fun a h => ?_
      refine dn (by kernel_rfl) ?_
      obtain ⟨hp9, hb8⟩ := Hp.toM (hp.pick [2, 0, 1, 3] (by decide) rfl)
      exact ⟨b9, g3, hb8, h.sub ⟨rfl, rfl, rfl, rfl, rfl, rfl, rfl, rfl, trivial⟩, hp9⟩
     refine (all h hp zc100 fun a w9 g4 hg4 h hp => ⟨((hp).pre 2 rfl), ?_⟩)
     refine one 9 (by kernel_rfl) rfl (cal h rfl en69 (asked_s x e s2 st _ _ (hE0.keep hp cl0) (by first | exact hspan | simpa [isLate, hb1] using hspan)) fun u w10 ⟨⟨b9, e1, hb9, hm9⟩, e2⟩ a h => ⟨((hp.below e2).pre 2 rfl), ?_⟩)
     subst e1
     have hp := hp.keepF (hp.below e2) (F := mapAt (hE e st) b9) (D := fun k => k = b9) (fun w1 w2 hs ⟨es, cl, h1, h2⟩ => ⟨es, cl, (hs _ rfl).trans h1, h2⟩) hm9 (by rintro k rfl; exact ⟨hb9, hm9.lt⟩)
     refine tkm 10 h rfl ((hp).pre 2 rfl) rfl fun a h => ?_
     refine tkq 11 h rfl ((hp).pre 2 rfl) (fun W _ => ext h rfl rfl) fun a h => ?_
     refine tkq 12 h rfl ((hp).pre 2 rfl) (fun W _ => ext h rfl rfl) fun a h => ?_
     refine one 14 (by kernel_rfl) rfl (sta h hp rfl rfl 2 rfl sz100 rfl rfl fun w11 hp => ⟨((hp).pre 2 rfl), ?_⟩)
     refine tka 15 h rfl ((hp).pre 2 rfl) rfl fun a h => ?_
     refine dn (by kernel_rfl) ?_
     obtain ⟨hp9, hb8⟩ := Hp.toM (hp.pick [3, 0, 1, 2] (by decide) rfl)
     exact ⟨b9, g4, hb8, h.sub ⟨rfl, rfl, rfl, rfl, rfl, rfl, rfl, rfl, trivial⟩, hp9⟩
    refine (all h hp zc100 fun a w12 g5 hg5 h hp => ⟨((hp).pre 2 rfl), ?_⟩)
    refine one 7 (by kernel_rfl) rfl (stp_on h rfl rfl rfl hb1 (cal h rfl en83 (isLate_e _ _) fun u w13 ⟨e1, e2⟩ a h => ⟨((e2 ▸ hp).pre 2 rfl), ?_⟩))
    subst e1
    subst e2
    refine tkq 8 h rfl ((hp).pre 2 rfl) (fun W _ => pckT h rfl hb1 rfl) fun a h => ?_
    refine one 9 (by kernel_rfl) rfl (cal h rfl en69 (asked_s x e s2 st _ _ (hE0.keep hp cl0) (by first | exact hspan | simpa [isLate, hb1] using hspan)) fun u w14 ⟨⟨b9, e1, hb9, hm9⟩, e2⟩ a h => ⟨((hp.below e2).pre 2 rfl), ?_⟩)
    subst e1
    have hp := hp.keepF (hp.below e2) (F := mapAt (hE e st) b9) (D := fun k => k = b9) (fun w1 w2 hs ⟨es, cl, h1, h2⟩ => ⟨es, cl, (hs _ rfl).trans h1, h2⟩) hm9 (by rintro k rfl; exact ⟨hb9, hm9.lt⟩)
    refine tkm 10 h rfl ((hp).pre 2 rfl) rfl fun a h => ?_
    refine tkq 11 h rfl ((hp).pre 2 rfl) (fun W _ => ext h rfl rfl) fun a h => ?_
    refine tkq 12 h rfl ((hp).pre 2 rfl) (fun W _ => ext h rfl rfl) fun a h => ?_
    refine one 14 (by kernel_rfl) rfl (sta h hp rfl rfl 2 rfl sz100 rfl rfl fun w15 hp => ⟨((hp).pre 2 rfl), ?_⟩)
    refine tka 15 h rfl ((hp).pre 2 rfl) rfl fun a h => ?_
    refine dn (by kernel_rfl) ?_
    obtain ⟨hp9, hb8⟩ := Hp.toM (hp.pick [3, 0, 1, 2] (by decide) rfl)
    exact ⟨b9, g5, hb8, h.sub ⟨rfl, rfl, rfl, rfl, rfl, rfl, rfl, rfl, trivial⟩, hp9⟩
   exact absurd hspan (by simp [hb1])
  refine (all h hp zc100 fun a w16 g6 hg6 h hp => ⟨((hp).pre 2 rfl), ?_⟩)
  refine one 4 (by kernel_rfl) rfl (cal h rfl en76 (isSpan_e _ _ _) fun u w17 ⟨e1, e2⟩ a h => ⟨((e2 ▸ hp).pre 2 rfl), ?_⟩)
  subst e1
  subst e2
  refine tkm 5 h rfl ((hp).pre 2 rfl) rfl fun a h => ?_
  refine split (t := 25) h rfl (fun hb2 => ?_) (fun hb2 => ?_)
  ·refine tk_on 6 h rfl (by kernel_rfl) (fun _ _ _ q => q) ((hp).pre 2 rfl) rfl rfl rfl rfl rfl hb2 (fun W hp => ldo h hp rfl 1 rfl rfl ag3) fun a h => ?_
   refine one 7 (by kernel_rfl) rfl (stp_on h rfl rfl rfl hb2 (cal h rfl en83 (isLate_e _ _) fun u w18 ⟨e1, e2⟩ a h => ⟨((e2 ▸ hp).pre 2 rfl), ?_⟩))
   subst e1
   subst e2
   refine tkq 8 h rfl ((hp).pre 2 rfl) (fun W _ => pckT h rfl hb2 rfl) fun a h => ?_
   refine one 9 (by kernel_rfl) rfl (cal h rfl en69 (asked_s x e s2 st _ _ (hE0.keep hp cl0) (by first | exact hspan | simpa [isLate, hb2] using hspan)) fun u w19 ⟨⟨b9, e1, hb9, hm9⟩, e2⟩ a h => ⟨((hp.below e2).pre 2 rfl), ?_⟩)
   subst e1
   have hp := hp.keepF (hp.below e2) (F := mapAt (hE e st) b9) (D := fun k => k = b9) (fun w1 w2 hs ⟨es, cl, h1, h2⟩ => ⟨es, cl, (hs _ rfl).trans h1, h2⟩) hm9 (by rintro k rfl; exact ⟨hb9, hm9.lt⟩)
   refine tkm 10 h rfl ((hp).pre 2 rfl) rfl fun a h => ?_
   refine tkq 11 h rfl ((hp).pre 2 rfl) (fun W _ => ext h rfl rfl) fun a h => ?_
   refine tkq 12 h rfl ((hp).pre 2 rfl) (fun W _ => ext h rfl rfl) fun a h => ?_
   refine one 14 (by kernel_rfl) rfl (sta h hp rfl rfl 2 rfl sz100 rfl rfl fun w20 hp => ⟨((hp).pre 2 rfl), ?_⟩)
   refine tka 15 h rfl ((hp).pre 2 rfl) rfl fun a h => ?_
   refine dn (by kernel_rfl) ?_
   obtain ⟨hp9, hb8⟩ := Hp.toM (hp.pick [3, 0, 1, 2] (by decide) rfl)
   exact ⟨b9, g6, hb8, h.sub ⟨rfl, rfl, rfl, rfl, rfl, rfl, rfl, rfl, trivial⟩, hp9⟩
  exact absurd hspan (by simp [hb2])
 rintro a w3 ⟨b, gE, hbw, h, hp⟩
 have hcl : Cl (cM (hE e st) b) w := clN hbw
 refine wp_seq ?_
 refine rg ?_
 refine wmv h rfl fun a h => ?_
 refine wvl h (nei h rfl rfl) fun a h => ?_
 refine wn ?_
 refine cnd1 h rfl (fun hb3 => ?_) (fun hb3 => ?_)
 ·exact absurd hb3 (by decide)
 refine skp ?_
 refine rg ?_
 refine wvl h (ldO (us := [_, _, _, _, _, _, _, _, _, _, _, _, _]) h hp rfl 2 rfl sz100 rfl ag100) fun a h => ?_
 refine wmv h rfl fun a h => ?_
 refine wvl h (ldo h hp rfl 1 rfl rfl ag3) fun a h => ?_
 refine wvl h (sub h rfl rfl (by omega)) fun a h => ?_
 refine wmv h rfl fun a h => ?_
 refine wvl h (ldo h hp rfl 1 rfl rfl ag3) fun a h => ?_
 refine wvl h (add h rfl rfl (by omega)) fun a h => ?_
 refine wl (cal h rfl en86 (real_e x e s2 st b _ _ _ (hE0.keep hp hcl) (by omega)) fun u w21 ⟨⟨s23, e1, hf⟩, e2⟩ a h => ?_)
 subst e1
 have hp := hp.got (hp.below e2) (by decide) hf
 refine wl (all h hp zc50 fun a w22 g7 hg7 h hp => ?_)
 refine wl (st1 h hp rfl rfl 4 rfl rfl sz50 rfl fun w23 hp => ?_)
 refine wn ?_
 refine rg ?_
 refine wl (all h hp zc50 fun a w24 g8 hg8 h hp => ?_)
 refine wn ?_
 refine wp_seq ?_
 refine wp_label ?_
 try simp only [xqs, ↓reduceIte, Nat.reduceEqDiff]
 refine wp_seq ?_
 refine rg ?_
 refine wvl h (ldO (us := [_, _, _, _, _, _, _, _, _, _, _, _, _]) h hp rfl 2 rfl sz100 rfl ag100) fun a h => ?_
 refine wm2 h rfl rfl rfl rfl fun a h => ?_
 refine wl (cal h rfl en77 (foretold_s x e s2 st b d1 d2 _) fun u w25 ⟨⟨gka, gkb, gks, e1, hF, hD⟩, e2⟩ a h => ?_)
 subst e1
 have hp := hp.keepF (hp.below e2) (F := kqF x e s2 b d1 d2 gka gkb gks) (fun w1 w2 hs ⟨f1, f2, f3⟩ => ⟨(hs _ (.inl rfl)).trans f1, (hs _ (.inr (.inl rfl))).trans f2, (hs _ (.inr (.inr rfl))).trans f3⟩) hF hD
 refine wn ?_
 refine blk1 ?_
 have hp := hp.nilB 59 3
 have hlen := tell_len e st (a := max 1 d1) (b := d2) (n := 400) (by omega)
 have emax : max 1 d1 = d1 := by omega
 refine rngF h (hl := [.blk g1 (.cells #[x.b.v, .int .i64 e.nnum, .int .i64 e.nden, .int .i64 e.nstart, x.s.v, x.m.v, x.n.v, x.f.v, .int .i64 e.new, .int .i64 e.full, .int .i64 e.wide] 32 (0, 0)), .blk g2 (.cells #[.int .i64 lt] 3 (0, 0)), .blk gE (.cells #[x.b.v, .int .i64 e.nnum, .int .i64 e.nden, .int .i64 e.nstart, x.s.v, x.m.v, x.n.v, x.f.v, .int .i64 e.new, .int .i64 e.full, .int .i64 e.wide, s2.v, .map (some b)] 100 (0, 0)), rdE encM 3 s23.v (skyAll e (max 1 (d1 - lt)) (d2 + lt)), .blk g7 (.cells #[s23.v] 50 (0, 0)), .blk g8 (.cells #[(.slice none 0 0)] 50 (0, 0)), .buf 59 3 (.slice none 0 0) 0 []]) (hp.pick [0, 1, 2, 3, 4, 5, 7, 6] (by decide) rfl) rfl en133 (foretold_q x e s2 st b _ _ gka gkb gks hE0 hcl (by omega) (by omega)) (JJ := fun pre hl => ∃ s : SV, hl = [.blk g1 (.cells #[x.b.v, .int .i64 e.nnum, .int .i64 e.nden, .int .i64 e.nstart, x.s.v, x.m.v, x.n.v, x.f.v, .int .i64 e.new, .int .i64 e.full, .int .i64 e.wide] 32 (0, 0)), .blk g2 (.cells #[.int .i64 lt] 3 (0, 0)), .blk gE (.cells #[x.b.v, .int .i64 e.nnum, .int .i64 e.nden, .int .i64 e.nstart, x.s.v, x.m.v, x.n.v, x.f.v, .int .i64 e.new, .int .i64 e.full, .int .i64 e.wide, s2.v, .map (some b)] 100 (0, 0)), rdE encM 3 s23.v (skyAll e (max 1 (d1 - lt)) (d2 + lt)), .blk g7 (.cells #[s23.v] 50 (0, 0)), .blk g8 (.cells #[s.v] 50 (0, 0)), .buf 59 3 s.v (pre.filter (fun x => !beside (skyAll e (max 1 (d1 - lt)) (d2 + lt)) x lt)).length ((pre.filter (fun x => !beside (skyAll e (max 1 (d1 - lt)) (d2 + lt)) x lt)).flatMap encM)]) (JX := fun _ _ _ => False) (⟨⟨none, 0, 0⟩, rfl⟩) (fun _ => rfl) (by decide) (by decide) ?_ ?_ ?_
 ·intro lr pre y hl qr qb w26 a hpre hJ hp h
  obtain ⟨s5, rfl⟩ := hJ
  have hlen9 := hpre.length_le
  rw [List.length_append] at hlen9
  simp only [List.length_cons, List.length_nil] at hlen9
  have hyb := tellAll_mem (hpre.subset (by simp : y ∈ pre ++ [y]))
  have hlen8 := List.length_filter_le (fun x => !beside (skyAll e (max 1 (d1 - lt)) (d2 + lt)) x lt) pre
  refine rg1I ?_
  refine wlI (stI (all h hp zc59 fun a w27 g9 hg9 h hp => ?_))
  refine wlI (stI (sta h hp rfl rfl 8 rfl sz59 rfl rfl fun w28 hp => ?_))
  refine wnI ?_
  refine ⟨⟨_, hp⟩, fun w29 hpp => ?_⟩
  have hp := hpp _ hp
  refine blk1I ?_
  refine sqI ?_
  refine rgI ?_
  refine wlI (stI (vl h (ldo h hp rfl 4 rfl rfl ag50) fun a h => ?_))
  refine wlI (stI (vl h (lenR h rfl Tryz.underlying50 (hp.rdF (i := 3) rfl)) fun a h => ?_))
  refine wlI (stI (vl h (mov h rfl) fun a h => ?_))
  refine wnI ?_
  refine lp1I h [9, 15, 16, 33, 46, 48, 49] (fun n f w' => ∃ k : Nat, k ≤ (skyAll e (max 1 (d1 - lt)) (d2 + lt)).length ∧ n = (skyAll e (max 1 (d1 - lt)) (d2 + lt)).length - k ∧ f = [(50, .int .i64 k)] ∧ Hp (cM (hE e st) b) w w' ([.blk g1 (.cells #[x.b.v, .int .i64 e.nnum, .int .i64 e.nden, .int .i64 e.nstart, x.s.v, x.m.v, x.n.v, x.f.v, .int .i64 e.new, .int .i64 e.full, .int .i64 e.wide] 32 (0, 0)), .blk g2 (.cells #[.int .i64 lt] 3 (0, 0)), .blk gE (.cells #[x.b.v, .int .i64 e.nnum, .int .i64 e.nden, .int .i64 e.nstart, x.s.v, x.m.v, x.n.v, x.f.v, .int .i64 e.new, .int .i64 e.full, .int .i64 e.wide, s2.v, .map (some b)] 100 (0, 0)), rdE encM 3 s23.v (skyAll e (max 1 (d1 - lt)) (d2 + lt)), .blk g7 (.cells #[s23.v] 50 (0, 0)), .blk g8 (.cells #[s5.v] 50 (0, 0)), .buf 59 3 s5.v (pre.filter (fun x => !beside (skyAll e (max 1 (d1 - lt)) (d2 + lt)) x lt)).length ((pre.filter (fun x => !beside (skyAll e (max 1 (d1 - lt)) (d2 + lt)) x lt)).flatMap encM), qb, .blk g9 (.cells #[.int .i64 y.day, .bool y.full, .int .i64 y.far] 59 (0, 0))]) ∧ beside ((skyAll e (max 1 (d1 - lt)) (d2 + lt)).take k) y lt = false) ((skyAll e (max 1 (d1 - lt)) (d2 + lt)).length) [(50, .int .i64 ((0 : Nat) : Int))] ⟨rfl, rfl, rfl, rfl, rfl, rfl, rfl, rfl, trivial⟩ ⟨0, Nat.zero_le _, rfl, rfl, hp, rfl⟩ ?_
  rintro n f a w30 ⟨k, hk, rfl, rfl, hp, hI⟩ h
  have hfit := (hp.rdF (i := 3) rfl).fits
  refine rgI ?_
  refine wlI (stI (vl h (lss h rfl rfl) fun a h => ?_))
  refine wnI ?_
  refine cndI h rfl (fun hb4 => ?_) (fun hb4 => ?_)
  ·have hlt : k < (skyAll e (max 1 (d1 - lt)) (d2 + lt)).length := by have := of_decide_eq_true hb4; omega
   obtain ⟨z, hz⟩ : ∃ z, (skyAll e (max 1 (d1 - lt)) (d2 + lt))[k]? = some z := ⟨_, List.getElem?_eq_getElem hlt⟩
   have hzb := skyAll_mem (List.mem_of_getElem? hz)
   refine skpI ?_
   refine blkI ?_
   refine rgI ?_
   refine wlI (stI (vl h (iadR (k) h rfl rfl Tryz.underlying50 sz59 (hp.rdF (i := 3) rfl) (rfl) (hlt)) fun a h => ?_))
   refine wlI (stI (vl h (ldE h (hp.rdF (i := 3) rfl) hz rfl ag59 sz59) fun a h => ?_))
   refine wlI (stI (all h hp zc59 fun a w31 g10 hg10 h hp => ?_))
   refine wlI (stI (sta h hp rfl rfl 9 rfl sz59 rfl rfl fun w32 hp => ?_))
   refine wnI ?_
   refine rgI ?_
   refine wlI (stI (vl h (fad h rfl fo59_1) fun a h => ?_))
   refine wlI (stI (vl h (ldo h hp rfl 9 rfl rfl ag4) fun a h => ?_))
   refine wlI (stI (vl h (fad h rfl fo59_1) fun a h => ?_))
   refine wlI (stI (vl h (ldo h hp rfl 8 rfl rfl ag4) fun a h => ?_))
   refine wlI (stI (vl h (eqb h rfl rfl Tryz.underlying4) fun a h => ?_))
   refine wlI (stI (vl h (mov h rfl) fun a h => ?_))
   refine split (t := 59) h rfl (fun hb5 => ?_) (fun hb5 => ?_)
   ·have hkind := hb5
    refine wlI (stI (stp_on h rfl rfl rfl hb5 (vl h (fad h rfl fo59_0) fun a h => ?_)))
    refine wlI (stI (stp_on h rfl rfl rfl hb5 (vl h (ldo h hp rfl 9 rfl rfl ag3) fun a h => ?_)))
    refine wlI (stI (stp_on h rfl rfl rfl hb5 (vl h (fad h rfl fo59_0) fun a h => ?_)))
    refine wlI (stI (stp_on h rfl rfl rfl hb5 (vl h (ldo h hp rfl 8 rfl rfl ag3) fun a h => ?_)))
    refine wlI (stI (stp_on h rfl rfl rfl hb5 (vl h (ldo h hp rfl 1 rfl rfl ag3) fun a h => ?_)))
    refine wlI (stI (stp_on h rfl rfl rfl hb5 (vl h (sub h rfl rfl (by omega)) fun a h => ?_)))
    refine wlI (stI (stp_on h rfl rfl rfl hb5 (vl h (fad h rfl fo59_0) fun a h => ?_)))
    refine wlI (stI (stp_on h rfl rfl rfl hb5 (vl h (ldo h hp rfl 8 rfl rfl ag3) fun a h => ?_)))
    refine wlI (stI (stp_on h rfl rfl rfl hb5 (vl h (ldo h hp rfl 1 rfl rfl ag3) fun a h => ?_)))
    refine wlI (stI (stp_on h rfl rfl rfl hb5 (vl h (add h rfl rfl (by omega)) fun a h => ?_)))
    refine wlI (stI (stp_on h rfl rfl rfl hb5 (cal h rfl en87 (in_e _ _ _ _) fun u w33 ⟨e1, e2⟩ a h => ?_)))
    subst e1
    subst e2
    refine wlI (stI (vl h (pckT h rfl hb5 rfl) fun a h => ?_))
    refine wnI ?_
    refine cnd1I h rfl (fun hb6 => ?_) (fun hb6 => ?_)
    ·have hbs : beside (skyAll e (max 1 (d1 - lt)) (d2 + lt)) y lt = true := any_at hz (by rw [hkind, Bool.true_and]; exact hb6)
     refine wpIn_exit ?_
     try simp only [xqs, ↓reduceIte, Nat.reduceEqDiff]
     exact ⟨_, ⟨s5, by rw [List.filter_append, List.filter_cons_of_neg (by simp [hbs]), List.filter_nil, List.append_nil]⟩, hp.pick [0, 1, 2, 3, 4, 5, 6, 7] (by decide) rfl⟩
    have hno : (z.full == y.full && decide (y.day - lt ≤ z.day) && decide (z.day ≤ y.day + lt)) = false := by rw [hkind, Bool.true_and]; exact hb6
    refine wpIn_skip ?_
    refine rg1I ?_
    refine wlI (stI (vl h (add h rfl rfl (by omega)) fun a h => ?_))
    refine wlI (stI (vl h (mov h rfl) fun a h => ?_))
    refine wnI ?_
    exact ⟨_, _, (by omega), ⟨k + 1, by omega, rfl, rfl, hp.pre 9 rfl, by rw [beside, take_snoc hz, List.any_append]; rw [beside] at hI; rw [hI, Bool.false_or]; simpa using hno⟩, h.sub ⟨rfl, rfl, rfl, rfl, rfl, rfl, rfl, rfl, trivial⟩⟩
   have hno : (z.full == y.full && decide (y.day - lt ≤ z.day) && decide (z.day ≤ y.day + lt)) = false := by rw [hb5]; rfl
   refine wlI (stI (stp_off h rfl rfl rfl rfl rfl hb5 fun a h => ?_))
   refine wlI (stI (stp_off h rfl rfl rfl rfl rfl hb5 fun a h => ?_))
   refine wlI (stI (stp_off h rfl rfl rfl rfl rfl hb5 fun a h => ?_))
   refine wlI (stI (stp_off h rfl rfl rfl rfl rfl hb5 fun a h => ?_))
   refine wlI (stI (stp_off h rfl rfl rfl rfl rfl hb5 fun a h => ?_))
   refine wlI (stI (stp_off h rfl rfl rfl rfl rfl hb5 fun a h => ?_))
   refine wlI (stI (stp_off h rfl rfl rfl rfl rfl hb5 fun a h => ?_))
   refine wlI (stI (stp_off h rfl rfl rfl rfl rfl hb5 fun a h => ?_))
   refine wlI (stI (stp_off h rfl rfl rfl rfl rfl hb5 fun a h => ?_))
   refine wlI (stI (stp_off h rfl rfl rfl rfl rfl hb5 fun a h => ?_))
   refine wlI (stI (stp_off h rfl rfl rfl rfl rfl hb5 fun a h => ?_))
   refine wlI (stI (vl h (pckF h rfl hb5 rfl) fun a h => ?_))
   refine wnI ?_
   refine cnd1I h rfl (fun e => nomatch e) (fun _ => ?_)
   refine wpIn_skip ?_
   refine rg1I ?_
   refine wlI (stI (vl h (add h rfl rfl (by omega)) fun a h => ?_))
   refine wlI (stI (vl h (mov h rfl) fun a h => ?_))
   refine wnI ?_
   exact ⟨_, _, (by omega), ⟨k + 1, by omega, rfl, rfl, hp.pre 9 rfl, by rw [beside, take_snoc hz, List.any_append]; rw [beside] at hI; rw [hI, Bool.false_or]; simpa using hno⟩, h.sub ⟨rfl, rfl, rfl, rfl, rfl, rfl, rfl, rfl, trivial⟩⟩
  have hend : k = (skyAll e (max 1 (d1 - lt)) (d2 + lt)).length := by have := of_decide_eq_false hb4; omega
  subst hend
  rw [List.take_length] at hI
  have hbs := hI
  refine wpIn_exit ?_
  try simp only [xqs, ↓reduceIte, Nat.reduceEqDiff]
  refine rg1I ?_
  refine wlI (stI (vl h (ldo h hp rfl 5 rfl rfl ag50) fun a h => ?_))
  refine wlI (stI (vl h (ldO (us := [_, _, _]) h hp rfl 8 rfl sz59 rfl ag59) fun a h => ?_))
  refine wlI (stI (bsl h hp rfl (bs50_1_0 _ _ _) fun a w34 g11 hg11 h hp => ?_))
  refine wlI (stI (app1 6 h hp rfl rfl rfl ap50 9 rfl rfl rfl (by omega) (by omega) fun a w35 v h hp => ?_))
  refine wlI (stI (st1 h hp rfl rfl 5 rfl rfl sz50 rfl fun w36 hp => ?_))
  refine wnI' ?_
  try simp only [xqs, ↓reduceIte, Nat.reduceEqDiff]
  rw [show (pre.filter (fun x => !beside (skyAll e (max 1 (d1 - lt)) (d2 + lt)) x lt)).flatMap encM ++ #[.int .i64 y.day, .bool y.full, .int .i64 y.far].toList = ((pre ++ [y]).filter (fun x => !beside (skyAll e (max 1 (d1 - lt)) (d2 + lt)) x lt)).flatMap encM from by simp [hbs, encM], show (pre.filter (fun x => !beside (skyAll e (max 1 (d1 - lt)) (d2 + lt)) x lt)).length + 1 = ((pre ++ [y]).filter (fun x => !beside (skyAll e (max 1 (d1 - lt)) (d2 + lt)) x lt)).length from by simp [hbs]] at hp
  exact ⟨_, ⟨v, rfl⟩, hp.pick [0, 1, 2, 3, 4, 5, 6, 7] (by decide) rfl⟩
 ·intro D hl w37 a hJ hp h
  obtain ⟨s5, rfl⟩ := hJ
  try simp only [xqs, ↓reduceIte, Nat.reduceEqDiff]
  refine rg ?_
  refine wvl h (ldo h hp rfl 5 rfl rfl ag50) fun a h => ?_
  refine ws2 h rfl rfl rfl rfl fun a h => ?_
  refine wp_ret ?_
  try simp only [xqs]
  refine rm1_2 (i := 7) h hp rfl rfl fun w9 hp => ⟨(rvT h rfl), (rvT h rfl), ?_⟩
  rw [emax] at hp
  exact ⟨_, rfl, ⟨s5, rfl, (hp.pick [0, 1, 2, 3, 4, 5, 6] (by decide) rfl).frB (i := 6) rfl rfl rfl (fun _ _ => rfl)⟩, hp.belM hbw⟩
 intro D cd pre hl w38 a hpre hJ hp h
 exact hJ.elim
theorem Empty_x (x : EV) (e : Eng) (s2 : SV) (st : List Int) (d1 d2 lt : Int) (w : World) (hG : RdG w x e) (hS2 : Rd w encI 1 s2.v st) (hbad : (isEngine e && isSet e st && (inR d1 1 9000 && inR d2 d1 9000 && decide (d2 - d1 ≤ 400) && inR lt 0 30)) = false) : Ret Tryz.prog 40 #[.agg #[x.b.v, .int .i64 e.nnum, .int .i64 e.nden, .int .i64 e.nstart, x.s.v, x.m.v, x.n.v, x.f.v, .int .i64 e.new, .int .i64 e.full, .int .i64 e.wide], s2.v, .int .i64 d1, .int .i64 d2, .int .i64 lt] w fun u w' => u = .tuple #[.slice none 0 0, .int .i64 2] ∧ Below w.heap.size w w' := by
 have hp : Hp c0 w w [] := Hp.start trivial
 refine enter Tryz.func40 rfl (N := 78) rfl rfl fun a h => ?_
 refine rg ?_
 refine wl (box (cs := #[_, _, _, _, _, _, _, _, _, _, _]) h hp rfl rfl fun a w1 g1 hg1 h hp => ?_)
 refine wl (box (cs := #[_]) h hp rfl rfl fun a w2 g2 hg2 h hp => ?_)
 refine ws2 h rfl rfl rfl rfl fun a h => ?_
 refine wp_scope_straight ?_
 refine rdh (n := 16) hp mixed rfl ?_
 have hp := hp.drew
 refine tkq 0 h rfl hp (fun W hp => ldO (us := [_, _, _, _, _, _, _, _, _, _, _]) h hp rfl 0 rfl sz32 rfl ag32) fun a h => ?_
 refine tkm 1 h rfl hp rfl fun a h => ?_
 refine tkm 2 h rfl hp rfl fun a h => ?_
 refine tkm 3 h rfl hp rfl fun a h => ?_
 refine two 4 13 (by kernel_rfl) rfl rfl ?_ ?_
 ·refine (cal h rfl en76 (isSpan_e _ _ _) fun u w3 ⟨e1, e2⟩ a h => ⟨e2 ▸ hp, ?_⟩)
  subst e1
  subst e2
  refine tkm 5 h rfl hp rfl fun a h => ?_
  refine split (t := 25) h rfl (fun hb1 => ?_) (fun hb1 => ?_)
  ·refine tk_on 6 h rfl (by kernel_rfl) (fun _ _ _ q => q) hp rfl rfl rfl rfl rfl hb1 (fun W hp => ldo h hp rfl 1 rfl rfl ag3) fun a h => ?_
   refine two 7 13 (by kernel_rfl) rfl rfl ?_ ?_
   ·refine (stp_on h rfl rfl rfl hb1 (cal h rfl en83 (isLate_e _ _) fun u w4 ⟨e1, e2⟩ a h => ⟨e2 ▸ hp, ?_⟩))
    subst e1
    subst e2
    refine tkq 8 h rfl hp (fun W _ => pckT h rfl hb1 rfl) fun a h => ?_
    refine two 9 13 (by kernel_rfl) rfl rfl ?_ ?_
    ·refine (cal h rfl en69 (asked_x x e s2 st _ _ (hG.keep hp cl0) (hS2.keep (by decide) hp cl0) (by first | exact hbad | (simp [hb1]; done) | simpa [isLate, hb1] using hbad)) fun u w5 ⟨e1, e2⟩ a h => ⟨hp.below e2, ?_⟩)
     subst e1
     have hp := hp.below e2
     refine tkm 10 h rfl hp rfl fun a h => ?_
     refine tkq 11 h rfl hp (fun W _ => ext h rfl rfl) fun a h => ?_
     refine tkq 12 h rfl hp (fun W _ => ext h rfl rfl) fun a h => ?_
     refine one 13 (by kernel_rfl) rfl (all h hp zc100 fun a w6 g3 hg3 h hp => ⟨((hp).pre 2 rfl), ?_⟩)
     refine one 14 (by kernel_rfl) rfl (sta h hp rfl rfl 2 rfl sz100 rfl rfl fun w7 hp => ⟨((hp).pre 2 rfl), ?_⟩)
     refine tka 15 h rfl ((hp).pre 2 rfl) rfl fun a h => ?_
     refine dn (by kernel_rfl) ?_
     refine wp_seq ?_
     refine rg ?_
     refine wmv h rfl fun a h => ?_
     refine wvl h (nei h rfl rfl) fun a h => ?_
     refine wn ?_
     refine cnd1 h rfl (fun hb2 => ?_) (fun hb2 => ?_)
     ·refine rg ?_
      refine wmv h rfl fun a h => ?_
      refine ws2 h rfl rfl rfl rfl fun a h => ?_
      refine wp_ret ?_
      try simp only [xqs]
      refine rt_2 h rfl (rvT h rfl) (rvT h rfl) ?_
      exact ⟨_, rfl, rfl, hp.bel⟩
     exact absurd hb2 (by decide)
    refine (all h hp zc100 fun a w8 g4 hg4 h hp => ⟨((hp).pre 2 rfl), ?_⟩)
    refine one 9 (by kernel_rfl) rfl (cal h rfl en69 (asked_x x e s2 st _ _ (hG.keep hp cl0) (hS2.keep (by decide) hp cl0) (by first | exact hbad | (simp [hb1]; done) | simpa [isLate, hb1] using hbad)) fun u w9 ⟨e1, e2⟩ a h => ⟨((hp.below e2).pre 2 rfl), ?_⟩)
    subst e1
    have hp := hp.below e2
    refine tkm 10 h rfl ((hp).pre 2 rfl) rfl fun a h => ?_
    refine tkq 11 h rfl ((hp).pre 2 rfl) (fun W _ => ext h rfl rfl) fun a h => ?_
    refine tkq 12 h rfl ((hp).pre 2 rfl) (fun W _ => ext h rfl rfl) fun a h => ?_
    refine one 14 (by kernel_rfl) rfl (sta h hp rfl rfl 2 rfl sz100 rfl rfl fun w10 hp => ⟨((hp).pre 2 rfl), ?_⟩)
    refine tka 15 h rfl ((hp).pre 2 rfl) rfl fun a h => ?_
    refine dn (by kernel_rfl) ?_
    refine wp_seq ?_
    refine rg ?_
    refine wmv h rfl fun a h => ?_
    refine wvl h (nei h rfl rfl) fun a h => ?_
    refine wn ?_
    refine cnd1 h rfl (fun hb3 => ?_) (fun hb3 => ?_)
    ·refine rg ?_
     refine wmv h rfl fun a h => ?_
     refine ws2 h rfl rfl rfl rfl fun a h => ?_
     refine wp_ret ?_
     try simp only [xqs]
     refine rt_2 h rfl (rvT h rfl) (rvT h rfl) ?_
     exact ⟨_, rfl, rfl, hp.bel⟩
    exact absurd hb3 (by decide)
   refine (all h hp zc100 fun a w11 g5 hg5 h hp => ⟨((hp).pre 2 rfl), ?_⟩)
   refine one 7 (by kernel_rfl) rfl (stp_on h rfl rfl rfl hb1 (cal h rfl en83 (isLate_e _ _) fun u w12 ⟨e1, e2⟩ a h => ⟨((e2 ▸ hp).pre 2 rfl), ?_⟩))
   subst e1
   subst e2
   refine tkq 8 h rfl ((hp).pre 2 rfl) (fun W _ => pckT h rfl hb1 rfl) fun a h => ?_
   refine one 9 (by kernel_rfl) rfl (cal h rfl en69 (asked_x x e s2 st _ _ (hG.keep hp cl0) (hS2.keep (by decide) hp cl0) (by first | exact hbad | (simp [hb1]; done) | simpa [isLate, hb1] using hbad)) fun u w13 ⟨e1, e2⟩ a h => ⟨((hp.below e2).pre 2 rfl), ?_⟩)
   subst e1
   have hp := hp.below e2
   refine tkm 10 h rfl ((hp).pre 2 rfl) rfl fun a h => ?_
   refine tkq 11 h rfl ((hp).pre 2 rfl) (fun W _ => ext h rfl rfl) fun a h => ?_
   refine tkq 12 h rfl ((hp).pre 2 rfl) (fun W _ => ext h rfl rfl) fun a h => ?_
   refine one 14 (by kernel_rfl) rfl (sta h hp rfl rfl 2 rfl sz100 rfl rfl fun w14 hp => ⟨((hp).pre 2 rfl), ?_⟩)
   refine tka 15 h rfl ((hp).pre 2 rfl) rfl fun a h => ?_
   refine dn (by kernel_rfl) ?_
   refine wp_seq ?_
   refine rg ?_
   refine wmv h rfl fun a h => ?_
   refine wvl h (nei h rfl rfl) fun a h => ?_
   refine wn ?_
   refine cnd1 h rfl (fun hb4 => ?_) (fun hb4 => ?_)
   ·refine rg ?_
    refine wmv h rfl fun a h => ?_
    refine ws2 h rfl rfl rfl rfl fun a h => ?_
    refine wp_ret ?_
    try simp only [xqs]
    refine rt_2 h rfl (rvT h rfl) (rvT h rfl) ?_
    exact ⟨_, rfl, rfl, hp.bel⟩
   exact absurd hb4 (by decide)
  refine tkG 6 h rfl hp rfl rfl rfl hb1 fun a h => ?_
  refine tkG 7 h rfl hp rfl rfl rfl hb1 fun a h => ?_
  refine tkq 8 h rfl hp (fun W _ => pckF h rfl hb1 rfl) fun a h => ?_
  refine two 9 13 (by kernel_rfl) rfl rfl ?_ ?_
  ·refine (cal h rfl en69 (asked_x x e s2 st _ _ (hG.keep hp cl0) (hS2.keep (by decide) hp cl0) (by first | exact hbad | (simp [hb1]; done) | simpa [isLate, hb1] using hbad)) fun u w15 ⟨e1, e2⟩ a h => ⟨hp.below e2, ?_⟩)
   subst e1
   have hp := hp.below e2
   refine tkm 10 h rfl hp rfl fun a h => ?_
   refine tkq 11 h rfl hp (fun W _ => ext h rfl rfl) fun a h => ?_
   refine tkq 12 h rfl hp (fun W _ => ext h rfl rfl) fun a h => ?_
   refine one 13 (by kernel_rfl) rfl (all h hp zc100 fun a w16 g6 hg6 h hp => ⟨((hp).pre 2 rfl), ?_⟩)
   refine one 14 (by kernel_rfl) rfl (sta h hp rfl rfl 2 rfl sz100 rfl rfl fun w17 hp => ⟨((hp).pre 2 rfl), ?_⟩)
   refine tka 15 h rfl ((hp).pre 2 rfl) rfl fun a h => ?_
   refine dn (by kernel_rfl) ?_
   refine wp_seq ?_
   refine rg ?_
   refine wmv h rfl fun a h => ?_
   refine wvl h (nei h rfl rfl) fun a h => ?_
   refine wn ?_
   refine cnd1 h rfl (fun hb5 => ?_) (fun hb5 => ?_)
   ·refine rg ?_
    refine wmv h rfl fun a h => ?_
    refine ws2 h rfl rfl rfl rfl fun a h => ?_
    refine wp_ret ?_
    try simp only [xqs]
    refine rt_2 h rfl (rvT h rfl) (rvT h rfl) ?_
    exact ⟨_, rfl, rfl, hp.bel⟩
   exact absurd hb5 (by decide)
  refine (all h hp zc100 fun a w18 g7 hg7 h hp => ⟨((hp).pre 2 rfl), ?_⟩)
  refine one 9 (by kernel_rfl) rfl (cal h rfl en69 (asked_x x e s2 st _ _ (hG.keep hp cl0) (hS2.keep (by decide) hp cl0) (by first | exact hbad | (simp [hb1]; done) | simpa [isLate, hb1] using hbad)) fun u w19 ⟨e1, e2⟩ a h => ⟨((hp.below e2).pre 2 rfl), ?_⟩)
  subst e1
  have hp := hp.below e2
  refine tkm 10 h rfl ((hp).pre 2 rfl) rfl fun a h => ?_
  refine tkq 11 h rfl ((hp).pre 2 rfl) (fun W _ => ext h rfl rfl) fun a h => ?_
  refine tkq 12 h rfl ((hp).pre 2 rfl) (fun W _ => ext h rfl rfl) fun a h => ?_
  refine one 14 (by kernel_rfl) rfl (sta h hp rfl rfl 2 rfl sz100 rfl rfl fun w20 hp => ⟨((hp).pre 2 rfl), ?_⟩)
  refine tka 15 h rfl ((hp).pre 2 rfl) rfl fun a h => ?_
  refine dn (by kernel_rfl) ?_
  refine wp_seq ?_
  refine rg ?_
  refine wmv h rfl fun a h => ?_
  refine wvl h (nei h rfl rfl) fun a h => ?_
  refine wn ?_
  refine cnd1 h rfl (fun hb6 => ?_) (fun hb6 => ?_)
  ·refine rg ?_
   refine wmv h rfl fun a h => ?_
   refine ws2 h rfl rfl rfl rfl fun a h => ?_
   refine wp_ret ?_
   try simp only [xqs]
   refine rt_2 h rfl (rvT h rfl) (rvT h rfl) ?_
   exact ⟨_, rfl, rfl, hp.bel⟩
  exact absurd hb6 (by decide)
 refine (all h hp zc100 fun a w21 g8 hg8 h hp => ⟨((hp).pre 2 rfl), ?_⟩)
 refine one 4 (by kernel_rfl) rfl (cal h rfl en76 (isSpan_e _ _ _) fun u w22 ⟨e1, e2⟩ a h => ⟨((e2 ▸ hp).pre 2 rfl), ?_⟩)
 subst e1
 subst e2
 refine tkm 5 h rfl ((hp).pre 2 rfl) rfl fun a h => ?_
 refine split (t := 25) h rfl (fun hb7 => ?_) (fun hb7 => ?_)
 ·refine tk_on 6 h rfl (by kernel_rfl) (fun _ _ _ q => q) ((hp).pre 2 rfl) rfl rfl rfl rfl rfl hb7 (fun W hp => ldo h hp rfl 1 rfl rfl ag3) fun a h => ?_
  refine one 7 (by kernel_rfl) rfl (stp_on h rfl rfl rfl hb7 (cal h rfl en83 (isLate_e _ _) fun u w23 ⟨e1, e2⟩ a h => ⟨((e2 ▸ hp).pre 2 rfl), ?_⟩))
  subst e1
  subst e2
  refine tkq 8 h rfl ((hp).pre 2 rfl) (fun W _ => pckT h rfl hb7 rfl) fun a h => ?_
  refine one 9 (by kernel_rfl) rfl (cal h rfl en69 (asked_x x e s2 st _ _ (hG.keep hp cl0) (hS2.keep (by decide) hp cl0) (by first | exact hbad | (simp [hb7]; done) | simpa [isLate, hb7] using hbad)) fun u w24 ⟨e1, e2⟩ a h => ⟨((hp.below e2).pre 2 rfl), ?_⟩)
  subst e1
  have hp := hp.below e2
  refine tkm 10 h rfl ((hp).pre 2 rfl) rfl fun a h => ?_
  refine tkq 11 h rfl ((hp).pre 2 rfl) (fun W _ => ext h rfl rfl) fun a h => ?_
  refine tkq 12 h rfl ((hp).pre 2 rfl) (fun W _ => ext h rfl rfl) fun a h => ?_
  refine one 14 (by kernel_rfl) rfl (sta h hp rfl rfl 2 rfl sz100 rfl rfl fun w25 hp => ⟨((hp).pre 2 rfl), ?_⟩)
  refine tka 15 h rfl ((hp).pre 2 rfl) rfl fun a h => ?_
  refine dn (by kernel_rfl) ?_
  refine wp_seq ?_
  refine rg ?_
  refine wmv h rfl fun a h => ?_
  refine wvl h (nei h rfl rfl) fun a h => ?_
  refine wn ?_
  refine cnd1 h rfl (fun hb8 => ?_) (fun hb8 => ?_)
  ·refine rg ?_
   refine wmv h rfl fun a h => ?_
   refine ws2 h rfl rfl rfl rfl fun a h => ?_
   refine wp_ret ?_
   try simp only [xqs]
   refine rt_2 h rfl (rvT h rfl) (rvT h rfl) ?_
   exact ⟨_, rfl, rfl, hp.bel⟩
  exact absurd hb8 (by decide)
 refine tkG 6 h rfl ((hp).pre 2 rfl) rfl rfl rfl hb7 fun a h => ?_
 refine tkG 7 h rfl ((hp).pre 2 rfl) rfl rfl rfl hb7 fun a h => ?_
 refine tkq 8 h rfl ((hp).pre 2 rfl) (fun W _ => pckF h rfl hb7 rfl) fun a h => ?_
 refine one 9 (by kernel_rfl) rfl (cal h rfl en69 (asked_x x e s2 st _ _ (hG.keep hp cl0) (hS2.keep (by decide) hp cl0) (by first | exact hbad | (simp [hb7]; done) | simpa [isLate, hb7] using hbad)) fun u w26 ⟨e1, e2⟩ a h => ⟨((hp.below e2).pre 2 rfl), ?_⟩)
 subst e1
 have hp := hp.below e2
 refine tkm 10 h rfl ((hp).pre 2 rfl) rfl fun a h => ?_
 refine tkq 11 h rfl ((hp).pre 2 rfl) (fun W _ => ext h rfl rfl) fun a h => ?_
 refine tkq 12 h rfl ((hp).pre 2 rfl) (fun W _ => ext h rfl rfl) fun a h => ?_
 refine one 14 (by kernel_rfl) rfl (sta h hp rfl rfl 2 rfl sz100 rfl rfl fun w27 hp => ⟨((hp).pre 2 rfl), ?_⟩)
 refine tka 15 h rfl ((hp).pre 2 rfl) rfl fun a h => ?_
 refine dn (by kernel_rfl) ?_
 refine wp_seq ?_
 refine rg ?_
 refine wmv h rfl fun a h => ?_
 refine wvl h (nei h rfl rfl) fun a h => ?_
 refine wn ?_
 refine cnd1 h rfl (fun hb9 => ?_) (fun hb9 => ?_)
 ·refine rg ?_
  refine wmv h rfl fun a h => ?_
  refine ws2 h rfl rfl rfl rfl fun a h => ?_
  refine wp_ret ?_
  try simp only [xqs]
  refine rt_2 h rfl (rvT h rfl) (rvT h rfl) ?_
  exact ⟨_, rfl, rfl, hp.bel⟩
 exact absurd hb9 (by decide)
end Go.Proofs.Ec
