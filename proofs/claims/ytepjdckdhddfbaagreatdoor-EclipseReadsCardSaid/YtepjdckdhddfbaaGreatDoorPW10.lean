import Derived.Test.YtepjdckdhddfbaaGreatDoorProg
import Derived.Test.YtepjdckdhddfbaaGreatDoorPFa
import Derived.Test.YtepjdckdhddfbaaGreatDoorPQb
import Derived.Test.YtepjdckdhddfbaaGreatDoorPW9
import Derived.Test.YtepjdckdhddfbaaGreatDoorPQc
set_option linter.unusedVariables false
set_option linter.unusedSimpArgs false
set_option maxRecDepth 4000
namespace Go.Proofs.Ec
open Go.RowKit Go.Proofs.Sx
open Ecl
theorem isSpan_e (a : Int) (b : Int) (w : World) : Ret Tryz.prog 69 #[.int .i64 a, .int .i64 b] w fun u w1 => u = .bool (inR a 1 9000 && inR b a 9000 && decide (b - a ≤ 400)) ∧ w1 = w := by
 refine enter Tryz.func69 rfl (N := 18) rfl rfl fun a h => ?_
 refine rg ?_
 refine wsn h rfl fun a h => ?_
 refine rg ?_
 refine wmv h rfl fun a h => ?_
 refine wl (cal h rfl en61 (in_e _ _ _ _) fun u w1 ⟨e1, e2⟩ a h => ?_)
 subst e1
 subst e2
 refine wmv h rfl fun a h => ?_
 refine split (t := 7) h rfl (fun hb1 => ?_) (fun hb1 => ?_)
 ·refine wl (stp_on h rfl rfl rfl hb1 (vl h (mov h rfl) fun a h => ?_))
  refine wl (stp_on h rfl rfl rfl hb1 (vl h (mov h rfl) fun a h => ?_))
  refine wl (stp_on h rfl rfl rfl hb1 (cal h rfl en61 (in_e _ _ _ _) fun u w2 ⟨e1, e2⟩ a h => ?_))
  subst e1
  subst e2
  refine wvl h (pckT h rfl hb1 rfl) fun a h => ?_
  refine wmv h rfl fun a h => ?_
  refine split (t := 12) h rfl (fun hb2 => ?_) (fun hb2 => ?_)
  ·refine wl (stp_on h rfl rfl rfl hb2 (vl h (mov h rfl) fun a h => ?_))
   refine wl (stp_on h rfl rfl rfl hb2 (vl h (mov h rfl) fun a h => ?_))
   refine wl (stp_on h rfl rfl rfl hb2 (vl h (sub h rfl rfl (by simp only [inR, Bool.and_eq_true, decide_eq_true_eq] at hb1 hb2; omega)) fun a h => ?_))
   refine wl (stp_on h rfl rfl rfl hb2 (vl h (leq h rfl rfl) fun a h => ?_))
   refine wvl h (pckT h rfl hb2 rfl) fun a h => ?_
   refine wsn h rfl fun a h => ?_
   refine wp_ret ?_
   try simp only [xqs]
   refine rt_1 h rfl (rvT h rfl) ?_
   exact ⟨_, rfl, by simp only [Bool.and_true, hb1, hb2, Bool.true_and, Bool.false_and, Bool.and_true, Bool.and_false, Bool.or_true, Bool.true_or, Bool.or_false, Bool.false_or, Bool.not_true, Bool.not_false], rfl⟩
  refine wl (stp_off h rfl rfl rfl rfl rfl hb2 fun a h => ?_)
  refine wl (stp_off h rfl rfl rfl rfl rfl hb2 fun a h => ?_)
  refine wl (stp_off h rfl rfl rfl rfl rfl hb2 fun a h => ?_)
  refine wl (stp_off h rfl rfl rfl rfl rfl hb2 fun a h => ?_)
  refine wvl h (pckF h rfl hb2 rfl) fun a h => ?_
  refine wsn h rfl fun a h => ?_
  refine wp_ret ?_
  try simp only [xqs]
  refine rt_1 h rfl (rvT h rfl) ?_
  exact ⟨_, rfl, by simp only [Bool.and_true, hb1, hb2, Bool.true_and, Bool.false_and, Bool.and_true, Bool.and_false, Bool.or_true, Bool.true_or, Bool.or_false, Bool.false_or, Bool.not_true, Bool.not_false], rfl⟩
 refine wl (stp_off h rfl rfl rfl rfl rfl hb1 fun a h => ?_)
 refine wl (stp_off h rfl rfl rfl rfl rfl hb1 fun a h => ?_)
 refine wl (stp_off h rfl rfl rfl rfl rfl hb1 fun a h => ?_)
 refine wvl h (pckF h rfl hb1 rfl) fun a h => ?_
 refine wmv h rfl fun a h => ?_
 refine wl (stp_off h rfl rfl rfl rfl rfl rfl fun a h => ?_)
 refine wl (stp_off h rfl rfl rfl rfl rfl rfl fun a h => ?_)
 refine wl (stp_off h rfl rfl rfl rfl rfl rfl fun a h => ?_)
 refine wl (stp_off h rfl rfl rfl rfl rfl rfl fun a h => ?_)
 refine wvl h (pckF h rfl rfl rfl) fun a h => ?_
 refine wsn h rfl fun a h => ?_
 refine wp_ret ?_
 try simp only [xqs]
 refine rt_1 h rfl (rvT h rfl) ?_
 exact ⟨_, rfl, by simp only [Bool.and_true, hb1, Bool.true_and, Bool.false_and, Bool.and_true, Bool.and_false, Bool.or_true, Bool.true_or, Bool.or_false, Bool.false_or, Bool.not_true, Bool.not_false], rfl⟩
theorem Hands_s (x : EV) (e : Eng) (s2 : SV) (st : List Int) (t : Int) (w : World) (hE0 : RdE w x e s2 st) (hspan : (inR t 0 9000) = true) : Ret Tryz.prog 32 #[.agg #[x.b.v, .int .i64 e.nnum, .int .i64 e.nden, .int .i64 e.nstart, x.s.v, x.m.v, x.n.v, x.f.v, .int .i64 e.new, .int .i64 e.full, .int .i64 e.wide], s2.v, .int .i64 t] w fun u w' => u = .tuple #[.agg #[.int .i64 (hands e st t).sun, .int .i64 (hands e st t).moon, .int .i64 (hands e st t).node], .int .i64 0] ∧ Below w.heap.size w w' := by
 have ok := eng_ok hE0.ok
 have hd := hspan
 simp only [inR, Bool.and_eq_true, decide_eq_true_eq] at hd
 have hp : Hp c0 w w [] := Hp.start trivial
 refine enter Tryz.func32 rfl (N := 25) rfl rfl fun a h => ?_
 refine rg ?_
 refine wl (box (cs := #[_, _, _, _, _, _, _, _, _, _, _]) h hp rfl rfl fun a w1 g1 hg1 h hp => ?_)
 refine wl (all h hp zc63 fun a w2 g2 hg2 h hp => ?_)
 refine wsn h rfl fun a h => ?_
 refine cutN (fun a w' => ∃ b gE : Nat, w.heap.size ≤ b ∧ Has [] 25 a [(1, s2.v), (2, .int .i64 t), (3, .pointer (some ⟨g1, 0, none⟩)), (6, .pointer (some ⟨g2, 0, none⟩)), (8, .pointer (some ⟨gE, 0, none⟩)), (9, .int .i64 0)] ∧ Hp (cM (hE e st) b) w w' [.blk g1 (.cells #[x.b.v, .int .i64 e.nnum, .int .i64 e.nden, .int .i64 e.nstart, x.s.v, x.m.v, x.n.v, x.f.v, .int .i64 e.new, .int .i64 e.full, .int .i64 e.wide] 76 (0, 0)), .blk g2 (.cells #[.int .i64 0, .int .i64 0, .int .i64 0] 63 (0, 0)), .blk gE (.cells #[x.b.v, .int .i64 e.nnum, .int .i64 e.nden, .int .i64 e.nstart, x.s.v, x.m.v, x.n.v, x.f.v, .int .i64 e.new, .int .i64 e.full, .int .i64 e.wide, s2.v, .map (some b)] 105 (0, 0))]) ?_ ?_
 ·refine rdh1 (n := 11) hp mixed rfl ?_
  have hp := hp.drew
  refine tkq 0 h rfl hp (fun W hp => ldO (us := [_, _, _, _, _, _, _, _, _, _, _]) h hp rfl 0 rfl sz76 rfl ag76) fun a h => ?_
  refine tkm 1 h rfl hp rfl fun a h => ?_
  refine tkm 2 h rfl hp rfl fun a h => ?_
  refine two 3 8 (by kernel_rfl) rfl rfl ?_ ?_
  ·refine (cal h rfl en63 (isDay_e _ _) fun u w4 ⟨e1, e2⟩ a h => ⟨e2 ▸ hp, ?_⟩)
   subst e1
   subst e2
   refine two 4 8 (by kernel_rfl) rfl rfl ?_ ?_
   ·refine (cal h rfl en62 (asked_s x e s2 st _ _ (hE0.keep hp cl0) (by first | exact hspan | simpa [isLate] using hspan)) fun u w5 ⟨⟨b9, e1, hb9, hm9⟩, e2⟩ a h => ⟨((hp.below e2).pre 2 rfl), ?_⟩)
    subst e1
    have hp := hp.keepF (hp.below e2) (F := mapAt (hE e st) b9) (D := fun k => k = b9) (fun w1 w2 hs ⟨es, cl, h1, h2⟩ => ⟨es, cl, (hs _ rfl).trans h1, h2⟩) hm9 (by rintro k rfl; exact ⟨hb9, hm9.lt⟩)
    refine tkm 5 h rfl ((hp).pre 2 rfl) rfl fun a h => ?_
    refine tkq 6 h rfl ((hp).pre 2 rfl) (fun W _ => ext h rfl rfl) fun a h => ?_
    refine tkq 7 h rfl ((hp).pre 2 rfl) (fun W _ => ext h rfl rfl) fun a h => ?_
    refine one 8 (by kernel_rfl) rfl (all h hp zc105 fun a w6 g3 hg3 h hp => ⟨((hp).pre 2 rfl), ?_⟩)
    refine one 9 (by kernel_rfl) rfl (sta h hp rfl rfl 3 rfl sz105 rfl rfl fun w7 hp => ⟨((hp).pre 2 rfl), ?_⟩)
    refine tka 10 h rfl ((hp).pre 2 rfl) rfl fun a h => ?_
    refine dn (by kernel_rfl) ?_
    obtain ⟨hp9, hb8⟩ := Hp.toM (hp.pick [2, 0, 1, 3] (by decide) rfl)
    exact ⟨b9, g3, hb8, h.sub ⟨rfl, rfl, rfl, rfl, rfl, rfl, trivial⟩, hp9⟩
   refine (all h hp zc105 fun a w8 g4 hg4 h hp => ⟨((hp).pre 2 rfl), ?_⟩)
   refine one 4 (by kernel_rfl) rfl (cal h rfl en62 (asked_s x e s2 st _ _ (hE0.keep hp cl0) (by first | exact hspan | simpa [isLate] using hspan)) fun u w9 ⟨⟨b9, e1, hb9, hm9⟩, e2⟩ a h => ⟨((hp.below e2).pre 2 rfl), ?_⟩)
   subst e1
   have hp := hp.keepF (hp.below e2) (F := mapAt (hE e st) b9) (D := fun k => k = b9) (fun w1 w2 hs ⟨es, cl, h1, h2⟩ => ⟨es, cl, (hs _ rfl).trans h1, h2⟩) hm9 (by rintro k rfl; exact ⟨hb9, hm9.lt⟩)
   refine tkm 5 h rfl ((hp).pre 2 rfl) rfl fun a h => ?_
   refine tkq 6 h rfl ((hp).pre 2 rfl) (fun W _ => ext h rfl rfl) fun a h => ?_
   refine tkq 7 h rfl ((hp).pre 2 rfl) (fun W _ => ext h rfl rfl) fun a h => ?_
   refine one 9 (by kernel_rfl) rfl (sta h hp rfl rfl 2 rfl sz105 rfl rfl fun w10 hp => ⟨((hp).pre 2 rfl), ?_⟩)
   refine tka 10 h rfl ((hp).pre 2 rfl) rfl fun a h => ?_
   refine dn (by kernel_rfl) ?_
   obtain ⟨hp9, hb8⟩ := Hp.toM (hp.pick [3, 0, 1, 2] (by decide) rfl)
   exact ⟨b9, g4, hb8, h.sub ⟨rfl, rfl, rfl, rfl, rfl, rfl, trivial⟩, hp9⟩
  refine (all h hp zc105 fun a w11 g5 hg5 h hp => ⟨((hp).pre 2 rfl), ?_⟩)
  refine one 3 (by kernel_rfl) rfl (cal h rfl en63 (isDay_e _ _) fun u w12 ⟨e1, e2⟩ a h => ⟨((e2 ▸ hp).pre 2 rfl), ?_⟩)
  subst e1
  subst e2
  refine one 4 (by kernel_rfl) rfl (cal h rfl en62 (asked_s x e s2 st _ _ (hE0.keep hp cl0) (by first | exact hspan | simpa [isLate] using hspan)) fun u w13 ⟨⟨b9, e1, hb9, hm9⟩, e2⟩ a h => ⟨((hp.below e2).pre 2 rfl), ?_⟩)
  subst e1
  have hp := hp.keepF (hp.below e2) (F := mapAt (hE e st) b9) (D := fun k => k = b9) (fun w1 w2 hs ⟨es, cl, h1, h2⟩ => ⟨es, cl, (hs _ rfl).trans h1, h2⟩) hm9 (by rintro k rfl; exact ⟨hb9, hm9.lt⟩)
  refine tkm 5 h rfl ((hp).pre 2 rfl) rfl fun a h => ?_
  refine tkq 6 h rfl ((hp).pre 2 rfl) (fun W _ => ext h rfl rfl) fun a h => ?_
  refine tkq 7 h rfl ((hp).pre 2 rfl) (fun W _ => ext h rfl rfl) fun a h => ?_
  refine one 9 (by kernel_rfl) rfl (sta h hp rfl rfl 2 rfl sz105 rfl rfl fun w14 hp => ⟨((hp).pre 2 rfl), ?_⟩)
  refine tka 10 h rfl ((hp).pre 2 rfl) rfl fun a h => ?_
  refine dn (by kernel_rfl) ?_
  obtain ⟨hp9, hb8⟩ := Hp.toM (hp.pick [3, 0, 1, 2] (by decide) rfl)
  exact ⟨b9, g5, hb8, h.sub ⟨rfl, rfl, rfl, rfl, rfl, rfl, trivial⟩, hp9⟩
 rintro a w3 ⟨b, gE, hbw, h, hp⟩
 have hcl : Cl (cM (hE e st) b) w := clN hbw
 refine wp_seq ?_
 refine rg ?_
 refine wmv h rfl fun a h => ?_
 refine wvl h (nei h rfl rfl) fun a h => ?_
 refine wn ?_
 refine cnd1 h rfl (fun hb1 => ?_) (fun hb1 => ?_)
 ·exact absurd hb1 (by decide)
 refine skp ?_
 refine rg ?_
 refine wvl h (ldO (us := [_, _, _, _, _, _, _, _, _, _, _, _, _]) h hp rfl 2 rfl sz105 rfl ag105) fun a h => ?_
 refine wmv h rfl fun a h => ?_
 refine wl (cal h rfl en64 (at_e x e s2 st b _ _ (hE0.keep hp hcl) hp.inv (by omega)) fun u w15 ⟨e1, e2, e3⟩ a h => ?_)
 subst e1
 have hp := hp.grow e2 e3
 refine wl (sta h hp rfl rfl 1 rfl sz63 rfl rfl fun w16 hp => ?_)
 refine wsn h rfl fun a h => ?_
 refine wp_ret ?_
 try simp only [xqs]
 refine rt_2 h rfl (rvA h hp rfl 1 rfl ag63 sz63) (rvT h rfl) ?_
 exact ⟨_, rfl, rfl, hp.belM hbw⟩
theorem Off_s (x : EV) (e : Eng) (s2 : SV) (st : List Int) (t : Int) (w : World) (hE0 : RdE w x e s2 st) (hspan : (inR t 0 9000) = true) : Ret Tryz.prog 34 #[.agg #[x.b.v, .int .i64 e.nnum, .int .i64 e.nden, .int .i64 e.nstart, x.s.v, x.m.v, x.n.v, x.f.v, .int .i64 e.new, .int .i64 e.full, .int .i64 e.wide], s2.v, .int .i64 t] w fun u w' => u = .tuple #[.agg #[.int .i64 (off e st t).sun, .int .i64 (off e st t).moon, .int .i64 (off e st t).node], .int .i64 0] ∧ Below w.heap.size w w' := by
 have ok := eng_ok hE0.ok
 have hd := hspan
 simp only [inR, Bool.and_eq_true, decide_eq_true_eq] at hd
 obtain ⟨hbl, b0, b1, hB0, hB1, e0, e1, v0, v1⟩ := sky2 hE0.g.sky ok.sky
 have hbd := hands_bd e st t
 have q0 := around_bd (mean b0.1 t)
 have q1 := around_bd (mean b1.1 t)
 have q2 : 0 ≤ nodeAt e t ∧ nodeAt e t ≤ 21599 := around_bd _
 have hp : Hp c0 w w [] := Hp.start trivial
 refine enter Tryz.func34 rfl (N := 69) rfl rfl fun a h => ?_
 refine rg ?_
 refine wl (box (cs := #[_, _, _, _, _, _, _, _, _, _, _]) h hp rfl rfl fun a w1 g1 hg1 h hp => ?_)
 refine wl (all h hp zc63 fun a w2 g2 hg2 h hp => ?_)
 refine wsn h rfl fun a h => ?_
 refine cutN (fun a w' => ∃ b gE : Nat, w.heap.size ≤ b ∧ Has [] 69 a [(1, s2.v), (2, .int .i64 t), (3, .pointer (some ⟨g1, 0, none⟩)), (6, .pointer (some ⟨g2, 0, none⟩)), (8, .pointer (some ⟨gE, 0, none⟩)), (9, .int .i64 0)] ∧ Hp (cM (hE e st) b) w w' [.blk g1 (.cells #[x.b.v, .int .i64 e.nnum, .int .i64 e.nden, .int .i64 e.nstart, x.s.v, x.m.v, x.n.v, x.f.v, .int .i64 e.new, .int .i64 e.full, .int .i64 e.wide] 76 (0, 0)), .blk g2 (.cells #[.int .i64 0, .int .i64 0, .int .i64 0] 63 (0, 0)), .blk gE (.cells #[x.b.v, .int .i64 e.nnum, .int .i64 e.nden, .int .i64 e.nstart, x.s.v, x.m.v, x.n.v, x.f.v, .int .i64 e.new, .int .i64 e.full, .int .i64 e.wide, s2.v, .map (some b)] 105 (0, 0))]) ?_ ?_
 ·refine rdh1 (n := 11) hp mixed rfl ?_
  have hp := hp.drew
  refine tkq 0 h rfl hp (fun W hp => ldO (us := [_, _, _, _, _, _, _, _, _, _, _]) h hp rfl 0 rfl sz76 rfl ag76) fun a h => ?_
  refine tkm 1 h rfl hp rfl fun a h => ?_
  refine tkm 2 h rfl hp rfl fun a h => ?_
  refine two 3 8 (by kernel_rfl) rfl rfl ?_ ?_
  ·refine (cal h rfl en63 (isDay_e _ _) fun u w4 ⟨e1, e2⟩ a h => ⟨e2 ▸ hp, ?_⟩)
   subst e1
   subst e2
   refine two 4 8 (by kernel_rfl) rfl rfl ?_ ?_
   ·refine (cal h rfl en62 (asked_s x e s2 st _ _ (hE0.keep hp cl0) (by first | exact hspan | simpa [isLate] using hspan)) fun u w5 ⟨⟨b9, e1, hb9, hm9⟩, e2⟩ a h => ⟨((hp.below e2).pre 2 rfl), ?_⟩)
    subst e1
    have hp := hp.keepF (hp.below e2) (F := mapAt (hE e st) b9) (D := fun k => k = b9) (fun w1 w2 hs ⟨es, cl, h1, h2⟩ => ⟨es, cl, (hs _ rfl).trans h1, h2⟩) hm9 (by rintro k rfl; exact ⟨hb9, hm9.lt⟩)
    refine tkm 5 h rfl ((hp).pre 2 rfl) rfl fun a h => ?_
    refine tkq 6 h rfl ((hp).pre 2 rfl) (fun W _ => ext h rfl rfl) fun a h => ?_
    refine tkq 7 h rfl ((hp).pre 2 rfl) (fun W _ => ext h rfl rfl) fun a h => ?_
    refine one 8 (by kernel_rfl) rfl (all h hp zc105 fun a w6 g3 hg3 h hp => ⟨((hp).pre 2 rfl), ?_⟩)
    refine one 9 (by kernel_rfl) rfl (sta h hp rfl rfl 3 rfl sz105 rfl rfl fun w7 hp => ⟨((hp).pre 2 rfl), ?_⟩)
    refine tka 10 h rfl ((hp).pre 2 rfl) rfl fun a h => ?_
    refine dn (by kernel_rfl) ?_
    obtain ⟨hp9, hb8⟩ := Hp.toM (hp.pick [2, 0, 1, 3] (by decide) rfl)
    exact ⟨b9, g3, hb8, h.sub ⟨rfl, rfl, rfl, rfl, rfl, rfl, trivial⟩, hp9⟩
   refine (all h hp zc105 fun a w8 g4 hg4 h hp => ⟨((hp).pre 2 rfl), ?_⟩)
   refine one 4 (by kernel_rfl) rfl (cal h rfl en62 (asked_s x e s2 st _ _ (hE0.keep hp cl0) (by first | exact hspan | simpa [isLate] using hspan)) fun u w9 ⟨⟨b9, e1, hb9, hm9⟩, e2⟩ a h => ⟨((hp.below e2).pre 2 rfl), ?_⟩)
   subst e1
   have hp := hp.keepF (hp.below e2) (F := mapAt (hE e st) b9) (D := fun k => k = b9) (fun w1 w2 hs ⟨es, cl, h1, h2⟩ => ⟨es, cl, (hs _ rfl).trans h1, h2⟩) hm9 (by rintro k rfl; exact ⟨hb9, hm9.lt⟩)
   refine tkm 5 h rfl ((hp).pre 2 rfl) rfl fun a h => ?_
   refine tkq 6 h rfl ((hp).pre 2 rfl) (fun W _ => ext h rfl rfl) fun a h => ?_
   refine tkq 7 h rfl ((hp).pre 2 rfl) (fun W _ => ext h rfl rfl) fun a h => ?_
   refine one 9 (by kernel_rfl) rfl (sta h hp rfl rfl 2 rfl sz105 rfl rfl fun w10 hp => ⟨((hp).pre 2 rfl), ?_⟩)
   refine tka 10 h rfl ((hp).pre 2 rfl) rfl fun a h => ?_
   refine dn (by kernel_rfl) ?_
   obtain ⟨hp9, hb8⟩ := Hp.toM (hp.pick [3, 0, 1, 2] (by decide) rfl)
   exact ⟨b9, g4, hb8, h.sub ⟨rfl, rfl, rfl, rfl, rfl, rfl, trivial⟩, hp9⟩
  refine (all h hp zc105 fun a w11 g5 hg5 h hp => ⟨((hp).pre 2 rfl), ?_⟩)
  refine one 3 (by kernel_rfl) rfl (cal h rfl en63 (isDay_e _ _) fun u w12 ⟨e1, e2⟩ a h => ⟨((e2 ▸ hp).pre 2 rfl), ?_⟩)
  subst e1
  subst e2
  refine one 4 (by kernel_rfl) rfl (cal h rfl en62 (asked_s x e s2 st _ _ (hE0.keep hp cl0) (by first | exact hspan | simpa [isLate] using hspan)) fun u w13 ⟨⟨b9, e1, hb9, hm9⟩, e2⟩ a h => ⟨((hp.below e2).pre 2 rfl), ?_⟩)
  subst e1
  have hp := hp.keepF (hp.below e2) (F := mapAt (hE e st) b9) (D := fun k => k = b9) (fun w1 w2 hs ⟨es, cl, h1, h2⟩ => ⟨es, cl, (hs _ rfl).trans h1, h2⟩) hm9 (by rintro k rfl; exact ⟨hb9, hm9.lt⟩)
  refine tkm 5 h rfl ((hp).pre 2 rfl) rfl fun a h => ?_
  refine tkq 6 h rfl ((hp).pre 2 rfl) (fun W _ => ext h rfl rfl) fun a h => ?_
  refine tkq 7 h rfl ((hp).pre 2 rfl) (fun W _ => ext h rfl rfl) fun a h => ?_
  refine one 9 (by kernel_rfl) rfl (sta h hp rfl rfl 2 rfl sz105 rfl rfl fun w14 hp => ⟨((hp).pre 2 rfl), ?_⟩)
  refine tka 10 h rfl ((hp).pre 2 rfl) rfl fun a h => ?_
  refine dn (by kernel_rfl) ?_
  obtain ⟨hp9, hb8⟩ := Hp.toM (hp.pick [3, 0, 1, 2] (by decide) rfl)
  exact ⟨b9, g5, hb8, h.sub ⟨rfl, rfl, rfl, rfl, rfl, rfl, trivial⟩, hp9⟩
 rintro a w3 ⟨b, gE, hbw, h, hp⟩
 have hcl : Cl (cM (hE e st) b) w := clN hbw
 refine wp_seq ?_
 refine rg ?_
 refine wmv h rfl fun a h => ?_
 refine wvl h (nei h rfl rfl) fun a h => ?_
 refine wn ?_
 refine cnd1 h rfl (fun hb1 => ?_) (fun hb1 => ?_)
 ·exact absurd hb1 (by decide)
 refine skp ?_
 refine rg ?_
 refine wvl h (ldO (us := [_, _, _, _, _, _, _, _, _, _, _, _, _]) h hp rfl 2 rfl sz105 rfl ag105) fun a h => ?_
 refine wmv h rfl fun a h => ?_
 refine wl (cal h rfl en64 (at_e x e s2 st b _ _ (hE0.keep hp hcl) hp.inv (by omega)) fun u w15 ⟨e1, e2, e3⟩ a h => ?_)
 subst e1
 have hp := hp.grow e2 e3
 refine wl (all h hp zc63 fun a w16 g6 hg6 h hp => ?_)
 refine wl (sta h hp rfl rfl 3 rfl sz63 rfl rfl fun w17 hp => ?_)
 refine wn ?_
 refine rg ?_
 refine wvl h (fad h rfl fo76_0) fun a h => ?_
 refine wvl h (ldO (us := [_, _, _, _]) h hp rfl 0 rfl sz72 rfl ag72) fun a h => ?_
 refine wmv h rfl fun a h => ?_
 refine wl (cal h rfl en66 (Mean_s x e 0 b0 t _ (hE0.keep hp hcl).g.sky ok.sky (by omega) hB0) fun u w18 ⟨e1, e2⟩ a h => ?_)
 subst e1
 have hp := hp.below e2
 refine wmv h rfl fun a h => ?_
 refine wvl h (ext h rfl rfl) fun a h => ?_
 refine wvl h (ext h rfl rfl) fun a h => ?_
 refine ws2 h rfl rfl rfl rfl fun a h => ?_
 refine rg ?_
 refine wvl h (fad h rfl fo76_0) fun a h => ?_
 refine wvl h (ldO (us := [_, _, _, _]) h hp rfl 0 rfl sz72 rfl ag72) fun a h => ?_
 refine wmv h rfl fun a h => ?_
 refine wl (cal h rfl en66 (Mean_s x e 1 b1 t _ (hE0.keep hp hcl).g.sky ok.sky (by omega) hB1) fun u w19 ⟨e1, e2⟩ a h => ?_)
 subst e1
 have hp := hp.below e2
 refine wmv h rfl fun a h => ?_
 refine wvl h (ext h rfl rfl) fun a h => ?_
 refine wvl h (ext h rfl rfl) fun a h => ?_
 refine ws2 h rfl rfl rfl rfl fun a h => ?_
 refine rg ?_
 refine wvl h (fad h rfl fo76_0) fun a h => ?_
 refine wvl h (ldO (us := [_, _, _, _]) h hp rfl 0 rfl sz72 rfl ag72) fun a h => ?_
 refine wmv h rfl fun a h => ?_
 refine wl (cal h rfl en67 (Node_s x e t _ (hE0.keep hp hcl).g.sky ok.sky (by omega)) fun u w20 ⟨e1, e2⟩ a h => ?_)
 subst e1
 have hp := hp.below e2
 refine wmv h rfl fun a h => ?_
 refine wvl h (ext h rfl rfl) fun a h => ?_
 refine wvl h (ext h rfl rfl) fun a h => ?_
 refine ws2 h rfl rfl rfl rfl fun a h => ?_
 refine rdh (n := 18) ((hp).pick [0, 2, 3] (by decide) rfl) mixed rfl ?_
 have hp := hp.drew
 refine tkq 0 h rfl ((hp).pick [0, 2, 3] (by decide) rfl) (fun W _ => fad h rfl fo63_0) fun a h => ?_
 refine tkq 1 h rfl ((hp).pick [0, 2, 3] (by decide) rfl) (fun W hp => ldo h hp rfl 2 rfl rfl ag3) fun a h => ?_
 refine tkm 2 h rfl ((hp).pick [0, 2, 3] (by decide) rfl) rfl fun a h => ?_
 refine tkq 3 h rfl ((hp).pick [0, 2, 3] (by decide) rfl) (fun W _ => sub h rfl rfl (by omega)) fun a h => ?_
 refine tkq 5 h rfl ((hp).pick [0, 2, 3] (by decide) rfl) (fun W _ => fad h rfl fo63_1) fun a h => ?_
 refine tkq 6 h rfl ((hp).pick [0, 2, 3] (by decide) rfl) (fun W hp => ldo h hp rfl 2 rfl rfl ag3) fun a h => ?_
 refine tkm 7 h rfl ((hp).pick [0, 2, 3] (by decide) rfl) rfl fun a h => ?_
 refine tkq 8 h rfl ((hp).pick [0, 2, 3] (by decide) rfl) (fun W _ => sub h rfl rfl (by omega)) fun a h => ?_
 refine tkq 10 h rfl ((hp).pick [0, 2, 3] (by decide) rfl) (fun W _ => fad h rfl fo63_2) fun a h => ?_
 refine tkq 11 h rfl ((hp).pick [0, 2, 3] (by decide) rfl) (fun W hp => ldo h hp rfl 2 rfl rfl ag3) fun a h => ?_
 refine tkm 12 h rfl ((hp).pick [0, 2, 3] (by decide) rfl) rfl fun a h => ?_
 refine tkq 13 h rfl ((hp).pick [0, 2, 3] (by decide) rfl) (fun W _ => sub h rfl rfl (by omega)) fun a h => ?_
 refine one 4 (by kernel_rfl) rfl (cal h rfl en68 (signed_e _ _ (by omega)) fun u w21 ⟨e1, e2⟩ a h => ⟨((e2 ▸ hp).pick [0, 2, 3] (by decide) rfl), ?_⟩)
 subst e1
 subst e2
 refine one 9 (by kernel_rfl) rfl (cal h rfl en68 (signed_e _ _ (by omega)) fun u w22 ⟨e1, e2⟩ a h => ⟨((e2 ▸ hp).pick [0, 2, 3] (by decide) rfl), ?_⟩)
 subst e1
 subst e2
 refine one 14 (by kernel_rfl) rfl (cal h rfl en68 (signed_e _ _ (by omega)) fun u w23 ⟨e1, e2⟩ a h => ⟨((e2 ▸ hp).pick [0, 2, 3] (by decide) rfl), ?_⟩)
 subst e1
 subst e2
 refine tkq 15 h rfl ((hp).pick [0, 2, 3] (by decide) rfl) (fun W _ => bld h rfl (bl63_0_1_2 _ _ _ _)) fun a h => ?_
 refine one 16 (by kernel_rfl) rfl (sta h hp rfl rfl 1 rfl sz63 rfl rfl fun w24 hp => ⟨((hp).pick [0, 2, 3] (by decide) rfl), ?_⟩)
 refine tka 17 h rfl ((hp).pick [0, 2, 3] (by decide) rfl) rfl fun a h => ?_
 refine dn (by kernel_rfl) ?_
 refine wp_ret ?_
 try simp only [xqs]
 refine rt_2 h rfl (rvA h hp rfl 1 rfl ag63 sz63) (rvT h rfl) ?_
 exact ⟨_, rfl, by simp only [off, e0, e1], hp.belM hbw⟩
theorem missed_e (x : EV) (e : Eng) (s2 : SV) (st : List Int) (b : Nat) (lo hi late : Int) (w : World) (hE0 : RdE w x e s2 st) (hM : mapAt (hE e st) b w) (hab : lo ≤ hi ∧ 1 ≤ hi ∧ hi ≤ 9050 ∧ hi - lo ≤ 600) (hl0 : 0 ≤ late ∧ late ≤ 40) : Ret Tryz.prog 72 #[.agg #[x.b.v, .int .i64 e.nnum, .int .i64 e.nden, .int .i64 e.nstart, x.s.v, x.m.v, x.n.v, x.f.v, .int .i64 e.new, .int .i64 e.full, .int .i64 e.wide, s2.v, .map (some b)], .int .i64 lo, .int .i64 hi, .int .i64 late] w fun u w' => (∃ s : SV, u = s.v ∧ Fr w w' encM 3 s.v ((skyAll e (max 1 lo) hi).filter (fun x => !told e st x late))) ∧ Ext (fun k => k = b) w w' ∧ mapAt (hE e st) b w' := by
 have hp : Hp (cM (hE e st) b) w w [] := Hp.start hM
 have hcl := clM hM
 have ok := eng_ok hE0.ok
 refine enter Tryz.func72 rfl (N := 32) rfl rfl fun a h => ?_
 refine rg ?_
 refine wl (box (cs := #[_, _, _, _, _, _, _, _, _, _, _, _, _]) h hp rfl rfl fun a w1 g1 hg1 h hp => ?_)
 refine wsn h rfl fun a h => ?_
 refine rg ?_
 refine wsn h rfl fun a h => ?_
 refine wp_seq ?_
 refine rg ?_
 refine wvl h (ldO (us := [_, _, _, _, _, _, _, _, _, _, _, _, _]) h hp rfl 0 rfl sz105 rfl ag105) fun a h => ?_
 refine wm2 h rfl rfl rfl rfl fun a h => ?_
 refine wl (cal h rfl en73 (real_e x e s2 st b _ _ _ (by first | exact hE0.keep hp hcl | exact (hE0.keep hp hcl)) (by omega)) fun u w2 ⟨⟨s21, e1, hf⟩, e2⟩ a h => ?_)
 subst e1
 have hp := hp.got (hp.below e2) (by decide) hf
 refine wvl h (lenR h rfl Tryz.underlying22 (hp.rdF (i := 1) rfl)) fun a h => ?_
 refine wmv h rfl fun a h => ?_
 refine wn ?_
 have hp := hp.nilB 87 3
 have hlen2 := sky_len e (a := max 1 lo) (b := hi) (n := 700) (by omega)
 refine lp1 h [3, 4, 8, 15, 16] (fun n f w' => ∃ k : Nat, ∃ s1 : SV, k ≤ (skyAll e (max 1 lo) hi).length ∧ n = (skyAll e (max 1 lo) hi).length - k ∧ f = [(17, .int .i64 k), (9, s1.v)] ∧ Hp (cM (hE e st) b) w w' ([.blk g1 (.cells #[x.b.v, .int .i64 e.nnum, .int .i64 e.nden, .int .i64 e.nstart, x.s.v, x.m.v, x.n.v, x.f.v, .int .i64 e.new, .int .i64 e.full, .int .i64 e.wide, s2.v, .map (some b)] 105 (0, 0)), rdE encM 3 s21.v (skyAll e (max 1 lo) hi), .buf 87 3 s1.v (((skyAll e (max 1 lo) hi).take k).filter (fun x => !told e st x late)).length ((((skyAll e (max 1 lo) hi).take k).filter (fun x => !told e st x late)).flatMap encM)]) ∧ True) ((skyAll e (max 1 lo) hi).length) [(17, .int .i64 ((0 : Nat) : Int)), (9, .slice none 0 0)] ⟨rfl, rfl, rfl, rfl, rfl, rfl, rfl, trivial⟩ ⟨0, ⟨none, 0, 0⟩, Nat.zero_le _, rfl, rfl, hp, trivial⟩ ?_
 rintro n f a w3 ⟨k, s1, hk, rfl, rfl, hp, _⟩ h
 have hfit := (hp.rdF (i := 1) rfl).fits
 refine rg ?_
 refine wvl h (lss h rfl rfl) fun a h => ?_
 refine wn ?_
 refine cnd h rfl (fun hb1 => ?_) (fun hb1 => ?_)
 ·have hlt : k < (skyAll e (max 1 lo) hi).length := by have := of_decide_eq_true hb1; omega
  obtain ⟨y, hy⟩ : ∃ y, (skyAll e (max 1 lo) hi)[k]? = some y := ⟨_, List.getElem?_eq_getElem hlt⟩
  have hyb := skyAll_mem (List.mem_of_getElem? hy)
  have hlen1 := filter_take_len (p := (fun x => !told e st x late)) (skyAll e (max 1 lo) hi) k
  refine skp ?_
  refine blk ?_
  refine rg ?_
  refine wvl h (iadR (k) h rfl rfl Tryz.underlying22 sz87 (hp.rdF (i := 1) rfl) (rfl) (hlt)) fun a h => ?_
  refine wvl h (ldE h (hp.rdF (i := 1) rfl) hy rfl ag87 sz87) fun a h => ?_
  refine wl (all h hp zc87 fun a w4 g2 hg2 h hp => ?_)
  refine wl (sta h hp rfl rfl 3 rfl sz87 rfl rfl fun w5 hp => ?_)
  refine wn ?_
  refine rg ?_
  refine wvl h (ldO (us := [_, _, _, _, _, _, _, _, _, _, _, _, _]) h hp rfl 0 rfl sz105 rfl ag105) fun a h => ?_
  refine wvl h (ldO (us := [_, _, _]) h hp rfl 3 rfl sz87 rfl ag87) fun a h => ?_
  refine wmv h rfl fun a h => ?_
  refine wl (cal h rfl en107 (told_e x e s2 st b y late _ (by first | exact hE0.keep hp hcl | exact (hE0.keep hp hcl)) hp.inv (by omega) (by omega)) fun u w6 ⟨e1, e2, e3⟩ a h => ?_)
  subst e1
  have hp := hp.grow e2 e3
  refine wvl h (not_ h rfl) fun a h => ?_
  refine wn ?_
  refine cnd1 h rfl (fun hb2 => ?_) (fun hb2 => ?_)
  ·have htd : told e st y late = false := by simpa using hb2
   refine rg1 ?_
   refine wmv h rfl fun a h => ?_
   refine wvl h (ldO (us := [_, _, _]) h hp rfl 3 rfl sz87 rfl ag87) fun a h => ?_
   refine wl (bsl h hp rfl (bs22_1_0 _ _ _) fun a w7 g3 hg3 h hp => ?_)
   refine wl (app1 2 h hp rfl rfl rfl ap22 4 rfl rfl rfl (by omega) (by omega) fun a w8 v h hp => ?_)
   refine wsg h rfl fun a h => ?_
   refine wn' ?_
   try simp only [xqs, ↓reduceIte, Nat.reduceEqDiff]
   refine rg1 ?_
   refine wvl h (add h rfl rfl (by omega)) fun a h => ?_
   refine wmv h rfl fun a h => ?_
   refine wn ?_
   exact ⟨_, _, (by omega), ⟨k + 1, _, by omega, rfl, rfl, hp.pre 3 (by simp [filter_snoc hy, htd, encM]), trivial⟩, h.sub ⟨rfl, rfl, rfl, rfl, rfl, rfl, rfl, trivial⟩⟩
  have htd : told e st y late = true := by simpa using hb2
  refine wp_skip ?_
  refine rg1 ?_
  refine wvl h (add h rfl rfl (by omega)) fun a h => ?_
  refine wmv h rfl fun a h => ?_
  refine wn ?_
  exact ⟨_, _, (by omega), ⟨k + 1, _, by omega, rfl, rfl, hp.pre 3 (by simp [filter_snoc hy, htd, encM]), trivial⟩, h.sub ⟨rfl, rfl, rfl, rfl, rfl, rfl, rfl, trivial⟩⟩
 have hend : k = (skyAll e (max 1 lo) hi).length := by have := of_decide_eq_false hb1; omega
 subst hend
 rw [List.take_length] at hp
 refine wp_exit ?_
 try simp only [xqs, ↓reduceIte, Nat.reduceEqDiff]
 refine rg ?_
 refine wmv h rfl fun a h => ?_
 refine wsn h rfl fun a h => ?_
 refine wp_ret ?_
 try simp only [xqs]
 refine rt_1 h rfl (rvT h rfl) ?_
 exact ⟨_, rfl, ⟨s1, rfl, hp.frB (i := 2) rfl rfl rfl (fun _ _ => rfl)⟩, hp.ext, hp.inv⟩
theorem Foretells_s (x : EV) (e : Eng) (s2 : SV) (st : List Int) (d1 d2 : Int) (w : World) (hE0 : RdE w x e s2 st) (hspan : (inR d1 1 9000 && inR d2 d1 9000 && decide (d2 - d1 ≤ 400)) = true) : Ret Tryz.prog 35 #[.agg #[x.b.v, .int .i64 e.nnum, .int .i64 e.nden, .int .i64 e.nstart, x.s.v, x.m.v, x.n.v, x.f.v, .int .i64 e.new, .int .i64 e.full, .int .i64 e.wide], s2.v, .int .i64 d1, .int .i64 d2] w fun u w' => (∃ s : SV, u = .tuple #[s.v, .int .i64 0] ∧ Fr w w' encM 3 s.v (tellAll e st d1 d2)) ∧ Below w.heap.size w w' := by
 have ok := eng_ok hE0.ok
 have hd := hspan
 simp only [inR, Bool.and_eq_true, decide_eq_true_eq] at hd
 have hp : Hp c0 w w [] := Hp.start trivial
 refine enterM Tryz.func35 rfl (N := 36) rfl rfl fun a h => ?_
 refine rg ?_
 refine wl (box (cs := #[_, _, _, _, _, _, _, _, _, _, _]) h hp rfl rfl fun a w1 g1 hg1 h hp => ?_)
 refine ws2 h rfl rfl rfl rfl fun a h => ?_
 refine cutN (fun a w' => ∃ b gE : Nat, w.heap.size ≤ b ∧ Has [] 36 a [(1, s2.v), (2, .int .i64 d1), (3, .int .i64 d2), (4, .pointer (some ⟨g1, 0, none⟩)), (10, .pointer (some ⟨gE, 0, none⟩)), (11, .int .i64 0)] ∧ Hp (cM (hE e st) b) w w' [.blk g1 (.cells #[x.b.v, .int .i64 e.nnum, .int .i64 e.nden, .int .i64 e.nstart, x.s.v, x.m.v, x.n.v, x.f.v, .int .i64 e.new, .int .i64 e.full, .int .i64 e.wide] 76 (0, 0)), .blk gE (.cells #[x.b.v, .int .i64 e.nnum, .int .i64 e.nden, .int .i64 e.nstart, x.s.v, x.m.v, x.n.v, x.f.v, .int .i64 e.new, .int .i64 e.full, .int .i64 e.wide, s2.v, .map (some b)] 105 (0, 0))]) ?_ ?_
 ·refine rdh1 (n := 12) hp mixed rfl ?_
  have hp := hp.drew
  refine tkq 0 h rfl hp (fun W hp => ldO (us := [_, _, _, _, _, _, _, _, _, _, _]) h hp rfl 0 rfl sz76 rfl ag76) fun a h => ?_
  refine tkm 1 h rfl hp rfl fun a h => ?_
  refine tkm 2 h rfl hp rfl fun a h => ?_
  refine tkm 3 h rfl hp rfl fun a h => ?_
  refine two 4 9 (by kernel_rfl) rfl rfl ?_ ?_
  ·refine (cal h rfl en69 (isSpan_e _ _ _) fun u w3 ⟨e1, e2⟩ a h => ⟨e2 ▸ hp, ?_⟩)
   subst e1
   subst e2
   refine two 5 9 (by kernel_rfl) rfl rfl ?_ ?_
   ·refine (cal h rfl en62 (asked_s x e s2 st _ _ (hE0.keep hp cl0) (by first | exact hspan | simpa [isLate] using hspan)) fun u w4 ⟨⟨b9, e1, hb9, hm9⟩, e2⟩ a h => ⟨((hp.below e2).pre 1 rfl), ?_⟩)
    subst e1
    have hp := hp.keepF (hp.below e2) (F := mapAt (hE e st) b9) (D := fun k => k = b9) (fun w1 w2 hs ⟨es, cl, h1, h2⟩ => ⟨es, cl, (hs _ rfl).trans h1, h2⟩) hm9 (by rintro k rfl; exact ⟨hb9, hm9.lt⟩)
    refine tkm 6 h rfl ((hp).pre 1 rfl) rfl fun a h => ?_
    refine tkq 7 h rfl ((hp).pre 1 rfl) (fun W _ => ext h rfl rfl) fun a h => ?_
    refine tkq 8 h rfl ((hp).pre 1 rfl) (fun W _ => ext h rfl rfl) fun a h => ?_
    refine one 9 (by kernel_rfl) rfl (all h hp zc105 fun a w5 g2 hg2 h hp => ⟨((hp).pre 1 rfl), ?_⟩)
    refine one 10 (by kernel_rfl) rfl (sta h hp rfl rfl 2 rfl sz105 rfl rfl fun w6 hp => ⟨((hp).pre 1 rfl), ?_⟩)
    refine tka 11 h rfl ((hp).pre 1 rfl) rfl fun a h => ?_
    refine dn (by kernel_rfl) ?_
    obtain ⟨hp9, hb8⟩ := Hp.toM (hp.pick [1, 0, 2] (by decide) rfl)
    exact ⟨b9, g2, hb8, h.sub ⟨rfl, rfl, rfl, rfl, rfl, rfl, trivial⟩, hp9⟩
   refine (all h hp zc105 fun a w7 g3 hg3 h hp => ⟨((hp).pre 1 rfl), ?_⟩)
   refine one 5 (by kernel_rfl) rfl (cal h rfl en62 (asked_s x e s2 st _ _ (hE0.keep hp cl0) (by first | exact hspan | simpa [isLate] using hspan)) fun u w8 ⟨⟨b9, e1, hb9, hm9⟩, e2⟩ a h => ⟨((hp.below e2).pre 1 rfl), ?_⟩)
   subst e1
   have hp := hp.keepF (hp.below e2) (F := mapAt (hE e st) b9) (D := fun k => k = b9) (fun w1 w2 hs ⟨es, cl, h1, h2⟩ => ⟨es, cl, (hs _ rfl).trans h1, h2⟩) hm9 (by rintro k rfl; exact ⟨hb9, hm9.lt⟩)
   refine tkm 6 h rfl ((hp).pre 1 rfl) rfl fun a h => ?_
   refine tkq 7 h rfl ((hp).pre 1 rfl) (fun W _ => ext h rfl rfl) fun a h => ?_
   refine tkq 8 h rfl ((hp).pre 1 rfl) (fun W _ => ext h rfl rfl) fun a h => ?_
   refine one 10 (by kernel_rfl) rfl (sta h hp rfl rfl 1 rfl sz105 rfl rfl fun w9 hp => ⟨((hp).pre 1 rfl), ?_⟩)
   refine tka 11 h rfl ((hp).pre 1 rfl) rfl fun a h => ?_
   refine dn (by kernel_rfl) ?_
   obtain ⟨hp9, hb8⟩ := Hp.toM (hp.pick [2, 0, 1] (by decide) rfl)
   exact ⟨b9, g3, hb8, h.sub ⟨rfl, rfl, rfl, rfl, rfl, rfl, trivial⟩, hp9⟩
  refine (all h hp zc105 fun a w10 g4 hg4 h hp => ⟨((hp).pre 1 rfl), ?_⟩)
  refine one 4 (by kernel_rfl) rfl (cal h rfl en69 (isSpan_e _ _ _) fun u w11 ⟨e1, e2⟩ a h => ⟨((e2 ▸ hp).pre 1 rfl), ?_⟩)
  subst e1
  subst e2
  refine one 5 (by kernel_rfl) rfl (cal h rfl en62 (asked_s x e s2 st _ _ (hE0.keep hp cl0) (by first | exact hspan | simpa [isLate] using hspan)) fun u w12 ⟨⟨b9, e1, hb9, hm9⟩, e2⟩ a h => ⟨((hp.below e2).pre 1 rfl), ?_⟩)
  subst e1
  have hp := hp.keepF (hp.below e2) (F := mapAt (hE e st) b9) (D := fun k => k = b9) (fun w1 w2 hs ⟨es, cl, h1, h2⟩ => ⟨es, cl, (hs _ rfl).trans h1, h2⟩) hm9 (by rintro k rfl; exact ⟨hb9, hm9.lt⟩)
  refine tkm 6 h rfl ((hp).pre 1 rfl) rfl fun a h => ?_
  refine tkq 7 h rfl ((hp).pre 1 rfl) (fun W _ => ext h rfl rfl) fun a h => ?_
  refine tkq 8 h rfl ((hp).pre 1 rfl) (fun W _ => ext h rfl rfl) fun a h => ?_
  refine one 10 (by kernel_rfl) rfl (sta h hp rfl rfl 1 rfl sz105 rfl rfl fun w13 hp => ⟨((hp).pre 1 rfl), ?_⟩)
  refine tka 11 h rfl ((hp).pre 1 rfl) rfl fun a h => ?_
  refine dn (by kernel_rfl) ?_
  obtain ⟨hp9, hb8⟩ := Hp.toM (hp.pick [2, 0, 1] (by decide) rfl)
  exact ⟨b9, g4, hb8, h.sub ⟨rfl, rfl, rfl, rfl, rfl, rfl, trivial⟩, hp9⟩
 rintro a w2 ⟨b, gE, hbw, h, hp⟩
 have hcl : Cl (cM (hE e st) b) w := clN hbw
 refine wp_seq ?_
 refine rg ?_
 refine wmv h rfl fun a h => ?_
 refine wvl h (nei h rfl rfl) fun a h => ?_
 refine wn ?_
 refine cnd1 h rfl (fun hb1 => ?_) (fun hb1 => ?_)
 ·exact absurd hb1 (by decide)
 refine skp ?_
 refine rg ?_
 refine wl (all h hp zc22 fun a w14 g5 hg5 h hp => ?_)
 refine wn ?_
 refine wp_seq ?_
 refine rg ?_
 refine wvl h (ldO (us := [_, _, _, _, _, _, _, _, _, _, _, _, _]) h hp rfl 1 rfl sz105 rfl ag105) fun a h => ?_
 refine wm2 h rfl rfl rfl rfl fun a h => ?_
 refine wl (cal h rfl en70 (foretold_s x e s2 st b d1 d2 _) fun u w15 ⟨⟨gka, gkb, gks, e1, hF, hD⟩, e2⟩ a h => ?_)
 subst e1
 have hp := hp.keepF (hp.below e2) (F := kqF x e s2 b d1 d2 gka gkb gks) (fun w1 w2 hs ⟨f1, f2, f3⟩ => ⟨(hs _ (.inl rfl)).trans f1, (hs _ (.inr (.inl rfl))).trans f2, (hs _ (.inr (.inr rfl))).trans f3⟩) hF hD
 refine wn ?_
 refine blk1 ?_
 have hp := hp.nilB 87 3
 have hlen := tell_len e st (a := max 1 d1) (b := d2) (n := 400) (by omega)
 have emax : max 1 d1 = d1 := by omega
 refine rngF h (hl := [.blk g1 (.cells #[x.b.v, .int .i64 e.nnum, .int .i64 e.nden, .int .i64 e.nstart, x.s.v, x.m.v, x.n.v, x.f.v, .int .i64 e.new, .int .i64 e.full, .int .i64 e.wide] 76 (0, 0)), .blk gE (.cells #[x.b.v, .int .i64 e.nnum, .int .i64 e.nden, .int .i64 e.nstart, x.s.v, x.m.v, x.n.v, x.f.v, .int .i64 e.new, .int .i64 e.full, .int .i64 e.wide, s2.v, .map (some b)] 105 (0, 0)), .blk g5 (.cells #[.slice none 0 0] 22 (0, 0)), .buf 87 3 (.slice none 0 0) 0 []]) (hp.pick [0, 1, 2, 4, 3] (by decide) rfl) rfl en106 (foretold_q x e s2 st b _ _ gka gkb gks hE0 hcl (by omega) (by omega)) (JJ := fun pre hl => ∃ s : SV, hl = [.blk g1 (.cells #[x.b.v, .int .i64 e.nnum, .int .i64 e.nden, .int .i64 e.nstart, x.s.v, x.m.v, x.n.v, x.f.v, .int .i64 e.new, .int .i64 e.full, .int .i64 e.wide] 76 (0, 0)), .blk gE (.cells #[x.b.v, .int .i64 e.nnum, .int .i64 e.nden, .int .i64 e.nstart, x.s.v, x.m.v, x.n.v, x.f.v, .int .i64 e.new, .int .i64 e.full, .int .i64 e.wide, s2.v, .map (some b)] 105 (0, 0)), .blk g5 (.cells #[s.v] 22 (0, 0)), .buf 87 3 s.v pre.length (pre.flatMap encM)]) (JX := fun _ _ _ => False) (⟨⟨none, 0, 0⟩, rfl⟩) (fun _ => rfl) (by decide) (by decide) ?_ ?_ ?_
 ·intro lr pre y hl qr qb w16 a hpre hJ hp h
  obtain ⟨s5, rfl⟩ := hJ
  have hlen9 := hpre.length_le
  rw [List.length_append] at hlen9
  simp only [List.length_cons, List.length_nil] at hlen9
  refine rg1I ?_
  refine wlI (stI (all h hp zc87 fun a w17 g6 hg6 h hp => ?_))
  refine wlI (stI (sta h hp rfl rfl 5 rfl sz87 rfl rfl fun w18 hp => ?_))
  refine wnI ?_
  refine ⟨⟨_, hp⟩, fun w19 hpp => ?_⟩
  have hp := hpp _ hp
  refine blk1I ?_
  refine rg1I ?_
  refine wlI (stI (vl h (ldo h hp rfl 2 rfl rfl ag22) fun a h => ?_))
  refine wlI (stI (vl h (ldO (us := [_, _, _]) h hp rfl 5 rfl sz87 rfl ag87) fun a h => ?_))
  refine wlI (stI (bsl h hp rfl (bs22_1_0 _ _ _) fun a w20 g7 hg7 h hp => ?_))
  refine wlI (stI (app1 3 h hp rfl rfl rfl ap22 6 rfl rfl rfl (by omega) (by omega) fun a w21 v h hp => ?_))
  refine wlI (stI (st1 h hp rfl rfl 2 rfl rfl sz22 rfl fun w22 hp => ?_))
  refine wnI' ?_
  try simp only [xqs, ↓reduceIte, Nat.reduceEqDiff]
  rw [show pre.flatMap encM ++ #[.int .i64 y.day, .bool y.full, .int .i64 y.far].toList = (pre ++ [y]).flatMap encM from by simp [encM], show pre.length + 1 = (pre ++ [y]).length from by simp] at hp
  exact ⟨_, ⟨v, rfl⟩, hp.pick [0, 1, 2, 3, 4] (by decide) rfl⟩
 ·intro D hl w23 a hJ hp h
  obtain ⟨s5, rfl⟩ := hJ
  try simp only [xqs, ↓reduceIte, Nat.reduceEqDiff]
  refine rg ?_
  refine wvl h (ldo h hp rfl 2 rfl rfl ag22) fun a h => ?_
  refine ws2 h rfl rfl rfl rfl fun a h => ?_
  refine wp_ret ?_
  try simp only [xqs]
  refine rm1_2 (i := 4) h hp rfl rfl fun w9 hp => ⟨(rvT h rfl), (rvT h rfl), ?_⟩
  exact ⟨_, rfl, ⟨s5, rfl, emax ▸ (hp.pick [0, 1, 2, 3] (by decide) rfl).frB (i := 3) rfl rfl rfl (fun _ _ => rfl)⟩, hp.belM hbw⟩
 intro D cd pre hl w24 a hpre hJ hp h
 exact hJ.elim
theorem Missed_s (x : EV) (e : Eng) (s2 : SV) (st : List Int) (d1 d2 lt : Int) (w : World) (hE0 : RdE w x e s2 st) (hspan : (inR d1 1 9000 && inR d2 d1 9000 && decide (d2 - d1 ≤ 400) && inR lt 0 30) = true) : Ret Tryz.prog 36 #[.agg #[x.b.v, .int .i64 e.nnum, .int .i64 e.nden, .int .i64 e.nstart, x.s.v, x.m.v, x.n.v, x.f.v, .int .i64 e.new, .int .i64 e.full, .int .i64 e.wide], s2.v, .int .i64 d1, .int .i64 d2, .int .i64 lt] w fun u w' => (∃ s : SV, u = .tuple #[s.v, .int .i64 0] ∧ Fr w w' encM 3 s.v (missed e st d1 d2 lt)) ∧ Below w.heap.size w w' := by
 have ok := eng_ok hE0.ok
 have hd := hspan
 simp only [inR, Bool.and_eq_true, decide_eq_true_eq] at hd
 have hp : Hp c0 w w [] := Hp.start trivial
 refine enter Tryz.func36 rfl (N := 35) rfl rfl fun a h => ?_
 refine rg ?_
 refine wl (box (cs := #[_, _, _, _, _, _, _, _, _, _, _]) h hp rfl rfl fun a w1 g1 hg1 h hp => ?_)
 refine ws2 h rfl rfl rfl rfl fun a h => ?_
 refine cutN (fun a w' => ∃ b gE : Nat, w.heap.size ≤ b ∧ Has [] 35 a [(1, s2.v), (2, .int .i64 d1), (3, .int .i64 d2), (4, .int .i64 lt), (5, .pointer (some ⟨g1, 0, none⟩)), (12, .pointer (some ⟨gE, 0, none⟩)), (13, .int .i64 0)] ∧ Hp (cM (hE e st) b) w w' [.blk g1 (.cells #[x.b.v, .int .i64 e.nnum, .int .i64 e.nden, .int .i64 e.nstart, x.s.v, x.m.v, x.n.v, x.f.v, .int .i64 e.new, .int .i64 e.full, .int .i64 e.wide] 76 (0, 0)), .blk gE (.cells #[x.b.v, .int .i64 e.nnum, .int .i64 e.nden, .int .i64 e.nstart, x.s.v, x.m.v, x.n.v, x.f.v, .int .i64 e.new, .int .i64 e.full, .int .i64 e.wide, s2.v, .map (some b)] 105 (0, 0))]) ?_ ?_
 ·refine rdh1 (n := 16) hp mixed rfl ?_
  have hp := hp.drew
  refine tkq 0 h rfl hp (fun W hp => ldO (us := [_, _, _, _, _, _, _, _, _, _, _]) h hp rfl 0 rfl sz76 rfl ag76) fun a h => ?_
  refine tkm 1 h rfl hp rfl fun a h => ?_
  refine tkm 2 h rfl hp rfl fun a h => ?_
  refine tkm 3 h rfl hp rfl fun a h => ?_
  refine two 4 13 (by kernel_rfl) rfl rfl ?_ ?_
  ·refine (cal h rfl en69 (isSpan_e _ _ _) fun u w3 ⟨e1, e2⟩ a h => ⟨e2 ▸ hp, ?_⟩)
   subst e1
   subst e2
   refine tkm 5 h rfl hp rfl fun a h => ?_
   refine split (t := 20) h rfl (fun hb1 => ?_) (fun hb1 => ?_)
   ·refine tk_on 6 h rfl (by kernel_rfl) (fun _ _ _ q => q) hp rfl rfl rfl rfl rfl hb1 (fun W _ => mov h rfl) fun a h => ?_
    refine two 7 13 (by kernel_rfl) rfl rfl ?_ ?_
    ·refine (stp_on h rfl rfl rfl hb1 (cal h rfl en71 (isLate_e _ _) fun u w4 ⟨e1, e2⟩ a h => ⟨e2 ▸ hp, ?_⟩))
     subst e1
     subst e2
     refine tkq 8 h rfl hp (fun W _ => pckT h rfl hb1 rfl) fun a h => ?_
     refine two 9 13 (by kernel_rfl) rfl rfl ?_ ?_
     ·refine (cal h rfl en62 (asked_s x e s2 st _ _ (hE0.keep hp cl0) (by first | exact hspan | simpa [isLate, hb1] using hspan)) fun u w5 ⟨⟨b9, e1, hb9, hm9⟩, e2⟩ a h => ⟨((hp.below e2).pre 1 rfl), ?_⟩)
      subst e1
      have hp := hp.keepF (hp.below e2) (F := mapAt (hE e st) b9) (D := fun k => k = b9) (fun w1 w2 hs ⟨es, cl, h1, h2⟩ => ⟨es, cl, (hs _ rfl).trans h1, h2⟩) hm9 (by rintro k rfl; exact ⟨hb9, hm9.lt⟩)
      refine tkm 10 h rfl ((hp).pre 1 rfl) rfl fun a h => ?_
      refine tkq 11 h rfl ((hp).pre 1 rfl) (fun W _ => ext h rfl rfl) fun a h => ?_
      refine tkq 12 h rfl ((hp).pre 1 rfl) (fun W _ => ext h rfl rfl) fun a h => ?_
      refine one 13 (by kernel_rfl) rfl (all h hp zc105 fun a w6 g2 hg2 h hp => ⟨((hp).pre 1 rfl), ?_⟩)
      refine one 14 (by kernel_rfl) rfl (sta h hp rfl rfl 2 rfl sz105 rfl rfl fun w7 hp => ⟨((hp).pre 1 rfl), ?_⟩)
      refine tka 15 h rfl ((hp).pre 1 rfl) rfl fun a h => ?_
      refine dn (by kernel_rfl) ?_
      obtain ⟨hp9, hb8⟩ := Hp.toM (hp.pick [1, 0, 2] (by decide) rfl)
      exact ⟨b9, g2, hb8, h.sub ⟨rfl, rfl, rfl, rfl, rfl, rfl, rfl, trivial⟩, hp9⟩
     refine (all h hp zc105 fun a w8 g3 hg3 h hp => ⟨((hp).pre 1 rfl), ?_⟩)
     refine one 9 (by kernel_rfl) rfl (cal h rfl en62 (asked_s x e s2 st _ _ (hE0.keep hp cl0) (by first | exact hspan | simpa [isLate, hb1] using hspan)) fun u w9 ⟨⟨b9, e1, hb9, hm9⟩, e2⟩ a h => ⟨((hp.below e2).pre 1 rfl), ?_⟩)
     subst e1
     have hp := hp.keepF (hp.below e2) (F := mapAt (hE e st) b9) (D := fun k => k = b9) (fun w1 w2 hs ⟨es, cl, h1, h2⟩ => ⟨es, cl, (hs _ rfl).trans h1, h2⟩) hm9 (by rintro k rfl; exact ⟨hb9, hm9.lt⟩)
     refine tkm 10 h rfl ((hp).pre 1 rfl) rfl fun a h => ?_
     refine tkq 11 h rfl ((hp).pre 1 rfl) (fun W _ => ext h rfl rfl) fun a h => ?_
     refine tkq 12 h rfl ((hp).pre 1 rfl) (fun W _ => ext h rfl rfl) fun a h => ?_
     refine one 14 (by kernel_rfl) rfl (sta h hp rfl rfl 1 rfl sz105 rfl rfl fun w10 hp => ⟨((hp).pre 1 rfl), ?_⟩)
     refine tka 15 h rfl ((hp).pre 1 rfl) rfl fun a h => ?_
     refine dn (by kernel_rfl) ?_
     obtain ⟨hp9, hb8⟩ := Hp.toM (hp.pick [2, 0, 1] (by decide) rfl)
     exact ⟨b9, g3, hb8, h.sub ⟨rfl, rfl, rfl, rfl, rfl, rfl, rfl, trivial⟩, hp9⟩
    refine (all h hp zc105 fun a w11 g4 hg4 h hp => ⟨((hp).pre 1 rfl), ?_⟩)
    refine one 7 (by kernel_rfl) rfl (stp_on h rfl rfl rfl hb1 (cal h rfl en71 (isLate_e _ _) fun u w12 ⟨e1, e2⟩ a h => ⟨((e2 ▸ hp).pre 1 rfl), ?_⟩))
    subst e1
    subst e2
    refine tkq 8 h rfl ((hp).pre 1 rfl) (fun W _ => pckT h rfl hb1 rfl) fun a h => ?_
    refine one 9 (by kernel_rfl) rfl (cal h rfl en62 (asked_s x e s2 st _ _ (hE0.keep hp cl0) (by first | exact hspan | simpa [isLate, hb1] using hspan)) fun u w13 ⟨⟨b9, e1, hb9, hm9⟩, e2⟩ a h => ⟨((hp.below e2).pre 1 rfl), ?_⟩)
    subst e1
    have hp := hp.keepF (hp.below e2) (F := mapAt (hE e st) b9) (D := fun k => k = b9) (fun w1 w2 hs ⟨es, cl, h1, h2⟩ => ⟨es, cl, (hs _ rfl).trans h1, h2⟩) hm9 (by rintro k rfl; exact ⟨hb9, hm9.lt⟩)
    refine tkm 10 h rfl ((hp).pre 1 rfl) rfl fun a h => ?_
    refine tkq 11 h rfl ((hp).pre 1 rfl) (fun W _ => ext h rfl rfl) fun a h => ?_
    refine tkq 12 h rfl ((hp).pre 1 rfl) (fun W _ => ext h rfl rfl) fun a h => ?_
    refine one 14 (by kernel_rfl) rfl (sta h hp rfl rfl 1 rfl sz105 rfl rfl fun w14 hp => ⟨((hp).pre 1 rfl), ?_⟩)
    refine tka 15 h rfl ((hp).pre 1 rfl) rfl fun a h => ?_
    refine dn (by kernel_rfl) ?_
    obtain ⟨hp9, hb8⟩ := Hp.toM (hp.pick [2, 0, 1] (by decide) rfl)
    exact ⟨b9, g4, hb8, h.sub ⟨rfl, rfl, rfl, rfl, rfl, rfl, rfl, trivial⟩, hp9⟩
   exact absurd hspan (by simp [hb1])
  refine (all h hp zc105 fun a w15 g5 hg5 h hp => ⟨((hp).pre 1 rfl), ?_⟩)
  refine one 4 (by kernel_rfl) rfl (cal h rfl en69 (isSpan_e _ _ _) fun u w16 ⟨e1, e2⟩ a h => ⟨((e2 ▸ hp).pre 1 rfl), ?_⟩)
  subst e1
  subst e2
  refine tkm 5 h rfl ((hp).pre 1 rfl) rfl fun a h => ?_
  refine split (t := 20) h rfl (fun hb2 => ?_) (fun hb2 => ?_)
  ·refine tk_on 6 h rfl (by kernel_rfl) (fun _ _ _ q => q) ((hp).pre 1 rfl) rfl rfl rfl rfl rfl hb2 (fun W _ => mov h rfl) fun a h => ?_
   refine one 7 (by kernel_rfl) rfl (stp_on h rfl rfl rfl hb2 (cal h rfl en71 (isLate_e _ _) fun u w17 ⟨e1, e2⟩ a h => ⟨((e2 ▸ hp).pre 1 rfl), ?_⟩))
   subst e1
   subst e2
   refine tkq 8 h rfl ((hp).pre 1 rfl) (fun W _ => pckT h rfl hb2 rfl) fun a h => ?_
   refine one 9 (by kernel_rfl) rfl (cal h rfl en62 (asked_s x e s2 st _ _ (hE0.keep hp cl0) (by first | exact hspan | simpa [isLate, hb2] using hspan)) fun u w18 ⟨⟨b9, e1, hb9, hm9⟩, e2⟩ a h => ⟨((hp.below e2).pre 1 rfl), ?_⟩)
   subst e1
   have hp := hp.keepF (hp.below e2) (F := mapAt (hE e st) b9) (D := fun k => k = b9) (fun w1 w2 hs ⟨es, cl, h1, h2⟩ => ⟨es, cl, (hs _ rfl).trans h1, h2⟩) hm9 (by rintro k rfl; exact ⟨hb9, hm9.lt⟩)
   refine tkm 10 h rfl ((hp).pre 1 rfl) rfl fun a h => ?_
   refine tkq 11 h rfl ((hp).pre 1 rfl) (fun W _ => ext h rfl rfl) fun a h => ?_
   refine tkq 12 h rfl ((hp).pre 1 rfl) (fun W _ => ext h rfl rfl) fun a h => ?_
   refine one 14 (by kernel_rfl) rfl (sta h hp rfl rfl 1 rfl sz105 rfl rfl fun w19 hp => ⟨((hp).pre 1 rfl), ?_⟩)
   refine tka 15 h rfl ((hp).pre 1 rfl) rfl fun a h => ?_
   refine dn (by kernel_rfl) ?_
   obtain ⟨hp9, hb8⟩ := Hp.toM (hp.pick [2, 0, 1] (by decide) rfl)
   exact ⟨b9, g5, hb8, h.sub ⟨rfl, rfl, rfl, rfl, rfl, rfl, rfl, trivial⟩, hp9⟩
  exact absurd hspan (by simp [hb2])
 rintro a w2 ⟨b, gE, hbw, h, hp⟩
 have hcl : Cl (cM (hE e st) b) w := clN hbw
 refine wp_seq ?_
 refine rg ?_
 refine wmv h rfl fun a h => ?_
 refine wvl h (nei h rfl rfl) fun a h => ?_
 refine wn ?_
 refine cnd1 h rfl (fun hb3 => ?_) (fun hb3 => ?_)
 ·exact absurd hb3 (by decide)
 refine skp ?_
 refine rg ?_
 refine wvl h (ldO (us := [_, _, _, _, _, _, _, _, _, _, _, _, _]) h hp rfl 1 rfl sz105 rfl ag105) fun a h => ?_
 refine wm3 h rfl rfl rfl rfl rfl rfl fun a h => ?_
 refine wl (cal h rfl en72 (missed_e x e s2 st b _ _ _ _ (by first | exact hE0.keep hp hcl | exact (hE0.keep hp hcl)) hp.inv (by omega) (by omega)) fun u w20 ⟨⟨s22, e1, hf⟩, e2, e3⟩ a h => ?_)
 subst e1
 have hp := hp.got (hp.grow e2 e3) (by decide) hf
 refine ws2 h rfl rfl rfl rfl fun a h => ?_
 refine wp_ret ?_
 try simp only [xqs]
 refine rt_2 h rfl (rvT h rfl) (rvT h rfl) ?_
 exact ⟨_, rfl, ⟨_, rfl, missed_max hd.1.1.1.1 ▸ hp.frR (i := 2) rfl⟩, hp.belM hbw⟩
end Go.Proofs.Ec
