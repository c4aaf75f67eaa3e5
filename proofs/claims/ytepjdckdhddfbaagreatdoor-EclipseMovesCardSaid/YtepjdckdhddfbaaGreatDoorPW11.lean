import Derived.Test.YtepjdckdhddfbaaGreatDoorProg
import Derived.Test.YtepjdckdhddfbaaGreatDoorPFa
import Derived.Test.YtepjdckdhddfbaaGreatDoorPQb
import Derived.Test.YtepjdckdhddfbaaGreatDoorPW10
set_option linter.unusedVariables false
set_option linter.unusedSimpArgs false
set_option maxRecDepth 4000
namespace Go.Proofs.Ec
open Go.RowKit Go.Proofs.Sx
open Ecl
theorem Within_s (x : EV) (e : Eng) (s2 : SV) (st : List Int) (d1 d2 : Int) (w : World) (hE0 : RdE w x e s2 st) (hspan : (inR d1 1 9000 && inR d2 d1 9000 && decide (d2 - d1 ≤ 400)) = true) : Ret Tryz.prog 37 #[.agg #[x.b.v, .int .i64 e.nnum, .int .i64 e.nden, .int .i64 e.nstart, x.s.v, x.m.v, x.n.v, x.f.v, .int .i64 e.new, .int .i64 e.full, .int .i64 e.wide], s2.v, .int .i64 d1, .int .i64 d2] w fun u w' => u = (match within e st d1 d2 with | some n => .tuple #[.int .i64 n, .int .i64 0] | none => .tuple #[.int .i64 0, .int .i64 5]) ∧ Below w.heap.size w w' := by
 have ok := eng_ok hE0.ok
 have hd := hspan
 simp only [inR, Bool.and_eq_true, decide_eq_true_eq] at hd
 have hp : Hp c0 w w [] := Hp.start trivial
 refine enter Tryz.func37 rfl (N := 37) rfl rfl fun a h => ?_
 refine rg ?_
 refine wl (box (cs := #[_, _, _, _, _, _, _, _, _, _, _]) h hp rfl rfl fun a w1 g1 hg1 h hp => ?_)
 refine ws2 h rfl rfl rfl rfl fun a h => ?_
 refine cutN (fun a w' => ∃ b gE : Nat, w.heap.size ≤ b ∧ Has [] 37 a [(1, s2.v), (2, .int .i64 d1), (3, .int .i64 d2), (4, .pointer (some ⟨g1, 0, none⟩)), (10, .pointer (some ⟨gE, 0, none⟩)), (11, .int .i64 0)] ∧ Hp (cM (hE e st) b) w w' [.blk g1 (.cells #[x.b.v, .int .i64 e.nnum, .int .i64 e.nden, .int .i64 e.nstart, x.s.v, x.m.v, x.n.v, x.f.v, .int .i64 e.new, .int .i64 e.full, .int .i64 e.wide] 76 (0, 0)), .blk gE (.cells #[x.b.v, .int .i64 e.nnum, .int .i64 e.nden, .int .i64 e.nstart, x.s.v, x.m.v, x.n.v, x.f.v, .int .i64 e.new, .int .i64 e.full, .int .i64 e.wide, s2.v, .map (some b)] 105 (0, 0))]) ?_ ?_
 ·refine rdh1 (n := 12) hp mixed rfl ?_
  have hp := hp.drew
  refine tkq 0 h rfl hp (fun W hp => ldO (us := [_, _, _, _, _, _, _, _, _, _, _]) h hp rfl 0 rfl sz76 rfl ag76) fun a h => ?_
  refine tkm 1 h rfl hp rfl fun a h => ?_
  refine tkm 2 h rfl hp rfl fun a h => ?_
  refine tkm 3 h rfl hp rfl fun a h => ?_
  refine two 4 9 (by kernel_rfl) rfl rfl ?_ ?_
  ·refine (cal h rfl en69 (isSpan_e _ _ _) fun u w3 ⟨e1, e2⟩ a h => ⟨e2 ▸ hp, ?_⟩)
   subst e1
   subst e2
   refine two 5 9 (by kernel_rfl) rfl rfl ?_ ?_
   ·refine (cal h rfl en62 (asked_s x e s2 st _ _ (hE0.keep hp cl0) (by first | exact hspan | simpa [isLate] using hspan)) fun u w4 ⟨⟨b9, e1, hb9, hm9⟩, e2⟩ a h => ⟨((hp.below e2).pre 1 rfl), ?_⟩)
    subst e1
    have hp := hp.keepF (hp.below e2) (F := mapAt (hE e st) b9) (D := fun k => k = b9) (fun w1 w2 hs ⟨es, cl, h1, h2⟩ => ⟨es, cl, (hs _ rfl).trans h1, h2⟩) hm9 (by rintro k rfl; exact ⟨hb9, hm9.lt⟩)
    refine tkm 6 h rfl ((hp).pre 1 rfl) rfl fun a h => ?_
    refine tkq 7 h rfl ((hp).pre 1 rfl) (fun W _ => ext h rfl rfl) fun a h => ?_
    refine tkq 8 h rfl ((hp).pre 1 rfl) (fun W _ => ext h rfl rfl) fun a h => ?_
    refine one 9 (by kernel_rfl) rfl (all h hp zc105 fun a w5 g2 hg2 h hp => ⟨((hp).pre 1 rfl), ?_⟩)
    refine one 10 (by kernel_rfl) rfl (sta h hp rfl rfl 2 rfl sz105 rfl rfl fun w6 hp => ⟨((hp).pre 1 rfl), ?_⟩)
    refine tka 11 h rfl ((hp).pre 1 rfl) rfl fun a h => ?_
    refine dn (by kernel_rfl) ?_
    obtain ⟨hp9, hb8⟩ := Hp.toM (hp.pick [1, 0, 2] (by decide) rfl)
    exact ⟨b9, g2, hb8, h.sub ⟨rfl, rfl, rfl, rfl, rfl, rfl, trivial⟩, hp9⟩
   refine (all h hp zc105 fun a w7 g3 hg3 h hp => ⟨((hp).pre 1 rfl), ?_⟩)
   refine one 5 (by kernel_rfl) rfl (cal h rfl en62 (asked_s x e s2 st _ _ (hE0.keep hp cl0) (by first | exact hspan | simpa [isLate] using hspan)) fun u w8 ⟨⟨b9, e1, hb9, hm9⟩, e2⟩ a h => ⟨((hp.below e2).pre 1 rfl), ?_⟩)
   subst e1
   have hp := hp.keepF (hp.below e2) (F := mapAt (hE e st) b9) (D := fun k => k = b9) (fun w1 w2 hs ⟨es, cl, h1, h2⟩ => ⟨es, cl, (hs _ rfl).trans h1, h2⟩) hm9 (by rintro k rfl; exact ⟨hb9, hm9.lt⟩)
   refine tkm 6 h rfl ((hp).pre 1 rfl) rfl fun a h => ?_
   refine tkq 7 h rfl ((hp).pre 1 rfl) (fun W _ => ext h rfl rfl) fun a h => ?_
   refine tkq 8 h rfl ((hp).pre 1 rfl) (fun W _ => ext h rfl rfl) fun a h => ?_
   refine one 10 (by kernel_rfl) rfl (sta h hp rfl rfl 1 rfl sz105 rfl rfl fun w9 hp => ⟨((hp).pre 1 rfl), ?_⟩)
   refine tka 11 h rfl ((hp).pre 1 rfl) rfl fun a h => ?_
   refine dn (by kernel_rfl) ?_
   obtain ⟨hp9, hb8⟩ := Hp.toM (hp.pick [2, 0, 1] (by decide) rfl)
   exact ⟨b9, g3, hb8, h.sub ⟨rfl, rfl, rfl, rfl, rfl, rfl, trivial⟩, hp9⟩
  refine (all h hp zc105 fun a w10 g4 hg4 h hp => ⟨((hp).pre 1 rfl), ?_⟩)
  refine one 4 (by kernel_rfl) rfl (cal h rfl en69 (isSpan_e _ _ _) fun u w11 ⟨e1, e2⟩ a h => ⟨((e2 ▸ hp).pre 1 rfl), ?_⟩)
  subst e1
  subst e2
  refine one 5 (by kernel_rfl) rfl (cal h rfl en62 (asked_s x e s2 st _ _ (hE0.keep hp cl0) (by first | exact hspan | simpa [isLate] using hspan)) fun u w12 ⟨⟨b9, e1, hb9, hm9⟩, e2⟩ a h => ⟨((hp.below e2).pre 1 rfl), ?_⟩)
  subst e1
  have hp := hp.keepF (hp.below e2) (F := mapAt (hE e st) b9) (D := fun k => k = b9) (fun w1 w2 hs ⟨es, cl, h1, h2⟩ => ⟨es, cl, (hs _ rfl).trans h1, h2⟩) hm9 (by rintro k rfl; exact ⟨hb9, hm9.lt⟩)
  refine tkm 6 h rfl ((hp).pre 1 rfl) rfl fun a h => ?_
  refine tkq 7 h rfl ((hp).pre 1 rfl) (fun W _ => ext h rfl rfl) fun a h => ?_
  refine tkq 8 h rfl ((hp).pre 1 rfl) (fun W _ => ext h rfl rfl) fun a h => ?_
  refine one 10 (by kernel_rfl) rfl (sta h hp rfl rfl 1 rfl sz105 rfl rfl fun w13 hp => ⟨((hp).pre 1 rfl), ?_⟩)
  refine tka 11 h rfl ((hp).pre 1 rfl) rfl fun a h => ?_
  refine dn (by kernel_rfl) ?_
  obtain ⟨hp9, hb8⟩ := Hp.toM (hp.pick [2, 0, 1] (by decide) rfl)
  exact ⟨b9, g4, hb8, h.sub ⟨rfl, rfl, rfl, rfl, rfl, rfl, trivial⟩, hp9⟩
 rintro a w2 ⟨b, gE, hbw, h, hp⟩
 have hcl : Cl (cM (hE e st) b) w := clN hbw
 refine wp_seq ?_
 refine rg ?_
 refine wmv h rfl fun a h => ?_
 refine wvl h (nei h rfl rfl) fun a h => ?_
 refine wn ?_
 refine cnd1 h rfl (fun hb1 => ?_) (fun hb1 => ?_)
 ·exact absurd hb1 (by decide)
 refine skp ?_
 refine wp_seq ?_
 refine rg ?_
 refine wmv h rfl fun a h => ?_
 refine wn ?_
 refine lp1 h [2, 3, 10, 23] (fun n f w' => ∃ k : Nat, k ≤ 31 ∧ n = 31 - k ∧ f = [(25, .int .i64 k)] ∧ Hp (cM (hE e st) b) w w' [.blk g1 (.cells #[x.b.v, .int .i64 e.nnum, .int .i64 e.nden, .int .i64 e.nstart, x.s.v, x.m.v, x.n.v, x.f.v, .int .i64 e.new, .int .i64 e.full, .int .i64 e.wide] 76 (0, 0)), .blk gE (.cells #[x.b.v, .int .i64 e.nnum, .int .i64 e.nden, .int .i64 e.nstart, x.s.v, x.m.v, x.n.v, x.f.v, .int .i64 e.new, .int .i64 e.full, .int .i64 e.wide, s2.v, .map (some b)] 105 (0, 0))] ∧ within e st d1 d2 = leastFrom (fun late => (missed e st d1 d2 late).isEmpty) (31 - k) k) (31) [(25, .int .i64 ((0 : Nat) : Int))] ⟨rfl, rfl, rfl, rfl, rfl, trivial⟩ ⟨0, by omega, rfl, rfl, hp, rfl⟩ ?_
 rintro n f a w14 ⟨k, hk, rfl, rfl, hp, hw⟩ h
 refine rg ?_
 refine wvl h (lss h rfl rfl) fun a h => ?_
 refine wn ?_
 refine cnd h rfl (fun hb2 => ?_) (fun hb2 => ?_)
 ·have hlt : k < 31 := by have := of_decide_eq_true hb2; omega
  refine skp ?_
  refine blk ?_
  refine rg ?_
  refine wmv h rfl fun a h => ?_
  refine wsn h rfl fun a h => ?_
  refine rg ?_
  refine wvl h (ldO (us := [_, _, _, _, _, _, _, _, _, _, _, _, _]) h hp rfl 1 rfl sz105 rfl ag105) fun a h => ?_
  refine wm3 h rfl rfl rfl rfl rfl rfl fun a h => ?_
  refine wl (cal h rfl en72 (missed_e x e s2 st b _ _ _ _ (hE0.keep hp hcl) hp.inv (by omega) (by omega)) fun u w15 ⟨⟨s22, e1, hf⟩, e2, e3⟩ a h => ?_)
  subst e1
  have hp := hp.got (hp.grow e2 e3) (by decide) hf
  refine wvl h (lenR h rfl Tryz.underlying22 (hp.rdF (i := 2) rfl)) fun a h => ?_
  refine wvl h (eqi h rfl rfl) fun a h => ?_
  refine wn ?_
  refine cnd1 h rfl (fun hb3 => ?_) (fun hb3 => ?_)
  ·have hz : (fun late => (missed e st d1 d2 late).isEmpty) ((k : Nat) : Int) = true := by show (missed e st d1 d2 k).isEmpty = true; rw [← missed_max hd.1.1.1, ← len0]; exact hb3
   refine rg ?_
   refine wmv h rfl fun a h => ?_
   refine ws2 h rfl rfl rfl rfl fun a h => ?_
   refine wp_ret ?_
   try simp only [xqs]
   refine rt_2 h rfl (rvT h rfl) (rvT h rfl) ?_
   exact ⟨_, rfl, by rw [hw, least_hit hlt hz], hp.belM hbw⟩
  have hz : (fun late => (missed e st d1 d2 late).isEmpty) ((k : Nat) : Int) = false := by show (missed e st d1 d2 k).isEmpty = false; rw [← missed_max hd.1.1.1, ← len0]; exact hb3
  refine wp_skip ?_
  refine rg1 ?_
  refine wvl h (add h rfl rfl (by omega)) fun a h => ?_
  refine wmv h rfl fun a h => ?_
  refine wn ?_
  exact ⟨_, _, (by omega), ⟨k + 1, by omega, rfl, rfl, hp.pre 2 rfl, by rw [hw]; exact least_go hlt hz⟩, h.sub ⟨rfl, rfl, rfl, rfl, rfl, trivial⟩⟩
 have hend : k = 31 := by have := of_decide_eq_false hb2; omega
 subst hend
 refine wp_exit ?_
 try simp only [xqs, ↓reduceIte, Nat.reduceEqDiff]
 refine rg ?_
 refine ws2 h rfl rfl rfl rfl fun a h => ?_
 refine wp_ret ?_
 try simp only [xqs]
 refine rt_2 h rfl (rvT h rfl) (rvT h rfl) ?_
 exact ⟨_, rfl, by rw [hw]; rfl, hp.belM hbw⟩
theorem Until_s (x : EV) (e : Eng) (s2 : SV) (st : List Int) (d1 d2 lt : Int) (w : World) (hE0 : RdE w x e s2 st) (hspan : (inR d1 1 9000 && inR d2 d1 9000 && decide (d2 - d1 ≤ 400) && inR lt 0 30) = true) : Ret Tryz.prog 38 #[.agg #[x.b.v, .int .i64 e.nnum, .int .i64 e.nden, .int .i64 e.nstart, x.s.v, x.m.v, x.n.v, x.f.v, .int .i64 e.new, .int .i64 e.full, .int .i64 e.wide], s2.v, .int .i64 d1, .int .i64 d2, .int .i64 lt] w fun u w' => u = (if until_ e st d1 d2 lt < d1 then .tuple #[.int .i64 0, .int .i64 5] else .tuple #[.int .i64 (until_ e st d1 d2 lt), .int .i64 0]) ∧ Below w.heap.size w w' := by
 have ok := eng_ok hE0.ok
 have hd := hspan
 simp only [inR, Bool.and_eq_true, decide_eq_true_eq] at hd
 have hp : Hp c0 w w [] := Hp.start trivial
 refine enter Tryz.func38 rfl (N := 51) rfl rfl fun a h => ?_
 refine rg ?_
 refine wl (box (cs := #[_, _, _, _, _, _, _, _, _, _, _]) h hp rfl rfl fun a w1 g1 hg1 h hp => ?_)
 refine ws2 h rfl rfl rfl rfl fun a h => ?_
 refine cutN (fun a w' => ∃ b gE : Nat, w.heap.size ≤ b ∧ Has [] 51 a [(1, s2.v), (2, .int .i64 d1), (3, .int .i64 d2), (4, .int .i64 lt), (5, .pointer (some ⟨g1, 0, none⟩)), (12, .pointer (some ⟨gE, 0, none⟩)), (13, .int .i64 0)] ∧ Hp (cM (hE e st) b) w w' [.blk g1 (.cells #[x.b.v, .int .i64 e.nnum, .int .i64 e.nden, .int .i64 e.nstart, x.s.v, x.m.v, x.n.v, x.f.v, .int .i64 e.new, .int .i64 e.full, .int .i64 e.wide] 76 (0, 0)), .blk gE (.cells #[x.b.v, .int .i64 e.nnum, .int .i64 e.nden, .int .i64 e.nstart, x.s.v, x.m.v, x.n.v, x.f.v, .int .i64 e.new, .int .i64 e.full, .int .i64 e.wide, s2.v, .map (some b)] 105 (0, 0))]) ?_ ?_
 ·refine rdh1 (n := 16) hp mixed rfl ?_
  have hp := hp.drew
  refine tkq 0 h rfl hp (fun W hp => ldO (us := [_, _, _, _, _, _, _, _, _, _, _]) h hp rfl 0 rfl sz76 rfl ag76) fun a h => ?_
  refine tkm 1 h rfl hp rfl fun a h => ?_
  refine tkm 2 h rfl hp rfl fun a h => ?_
  refine tkm 3 h rfl hp rfl fun a h => ?_
  refine two 4 13 (by kernel_rfl) rfl rfl ?_ ?_
  ·refine (cal h rfl en69 (isSpan_e _ _ _) fun u w3 ⟨e1, e2⟩ a h => ⟨e2 ▸ hp, ?_⟩)
   subst e1
   subst e2
   refine tkm 5 h rfl hp rfl fun a h => ?_
   refine split (t := 21) h rfl (fun hb1 => ?_) (fun hb1 => ?_)
   ·refine tk_on 6 h rfl (by kernel_rfl) (fun _ _ _ q => q) hp rfl rfl rfl rfl rfl hb1 (fun W _ => mov h rfl) fun a h => ?_
    refine two 7 13 (by kernel_rfl) rfl rfl ?_ ?_
    ·refine (stp_on h rfl rfl rfl hb1 (cal h rfl en71 (isLate_e _ _) fun u w4 ⟨e1, e2⟩ a h => ⟨e2 ▸ hp, ?_⟩))
     subst e1
     subst e2
     refine tkq 8 h rfl hp (fun W _ => pckT h rfl hb1 rfl) fun a h => ?_
     refine two 9 13 (by kernel_rfl) rfl rfl ?_ ?_
     ·refine (cal h rfl en62 (asked_s x e s2 st _ _ (hE0.keep hp cl0) (by first | exact hspan | simpa [isLate, hb1] using hspan)) fun u w5 ⟨⟨b9, e1, hb9, hm9⟩, e2⟩ a h => ⟨((hp.below e2).pre 1 rfl), ?_⟩)
      subst e1
      have hp := hp.keepF (hp.below e2) (F := mapAt (hE e st) b9) (D := fun k => k = b9) (fun w1 w2 hs ⟨es, cl, h1, h2⟩ => ⟨es, cl, (hs _ rfl).trans h1, h2⟩) hm9 (by rintro k rfl; exact ⟨hb9, hm9.lt⟩)
      refine tkm 10 h rfl ((hp).pre 1 rfl) rfl fun a h => ?_
      refine tkq 11 h rfl ((hp).pre 1 rfl) (fun W _ => ext h rfl rfl) fun a h => ?_
      refine tkq 12 h rfl ((hp).pre 1 rfl) (fun W _ => ext h rfl rfl) fun a h => ?_
      refine one 13 (by kernel_rfl) rfl (all h hp zc105 fun a w6 g2 hg2 h hp => ⟨((hp).pre 1 rfl), ?_⟩)
      refine one 14 (by kernel_rfl) rfl (sta h hp rfl rfl 2 rfl sz105 rfl rfl fun w7 hp => ⟨((hp).pre 1 rfl), ?_⟩)
      refine tka 15 h rfl ((hp).pre 1 rfl) rfl fun a h => ?_
      refine dn (by kernel_rfl) ?_
      obtain ⟨hp9, hb8⟩ := Hp.toM (hp.pick [1, 0, 2] (by decide) rfl)
      exact ⟨b9, g2, hb8, h.sub ⟨rfl, rfl, rfl, rfl, rfl, rfl, rfl, trivial⟩, hp9⟩
     refine (all h hp zc105 fun a w8 g3 hg3 h hp => ⟨((hp).pre 1 rfl), ?_⟩)
     refine one 9 (by kernel_rfl) rfl (cal h rfl en62 (asked_s x e s2 st _ _ (hE0.keep hp cl0) (by first | exact hspan | simpa [isLate, hb1] using hspan)) fun u w9 ⟨⟨b9, e1, hb9, hm9⟩, e2⟩ a h => ⟨((hp.below e2).pre 1 rfl), ?_⟩)
     subst e1
     have hp := hp.keepF (hp.below e2) (F := mapAt (hE e st) b9) (D := fun k => k = b9) (fun w1 w2 hs ⟨es, cl, h1, h2⟩ => ⟨es, cl, (hs _ rfl).trans h1, h2⟩) hm9 (by rintro k rfl; exact ⟨hb9, hm9.lt⟩)
     refine tkm 10 h rfl ((hp).pre 1 rfl) rfl fun a h => ?_
     refine tkq 11 h rfl ((hp).pre 1 rfl) (fun W _ => ext h rfl rfl) fun a h => ?_
     refine tkq 12 h rfl ((hp).pre 1 rfl) (fun W _ => ext h rfl rfl) fun a h => ?_
     refine one 14 (by kernel_rfl) rfl (sta h hp rfl rfl 1 rfl sz105 rfl rfl fun w10 hp => ⟨((hp).pre 1 rfl), ?_⟩)
     refine tka 15 h rfl ((hp).pre 1 rfl) rfl fun a h => ?_
     refine dn (by kernel_rfl) ?_
     obtain ⟨hp9, hb8⟩ := Hp.toM (hp.pick [2, 0, 1] (by decide) rfl)
     exact ⟨b9, g3, hb8, h.sub ⟨rfl, rfl, rfl, rfl, rfl, rfl, rfl, trivial⟩, hp9⟩
    refine (all h hp zc105 fun a w11 g4 hg4 h hp => ⟨((hp).pre 1 rfl), ?_⟩)
    refine one 7 (by kernel_rfl) rfl (stp_on h rfl rfl rfl hb1 (cal h rfl en71 (isLate_e _ _) fun u w12 ⟨e1, e2⟩ a h => ⟨((e2 ▸ hp).pre 1 rfl), ?_⟩))
    subst e1
    subst e2
    refine tkq 8 h rfl ((hp).pre 1 rfl) (fun W _ => pckT h rfl hb1 rfl) fun a h => ?_
    refine one 9 (by kernel_rfl) rfl (cal h rfl en62 (asked_s x e s2 st _ _ (hE0.keep hp cl0) (by first | exact hspan | simpa [isLate, hb1] using hspan)) fun u w13 ⟨⟨b9, e1, hb9, hm9⟩, e2⟩ a h => ⟨((hp.below e2).pre 1 rfl), ?_⟩)
    subst e1
    have hp := hp.keepF (hp.below e2) (F := mapAt (hE e st) b9) (D := fun k => k = b9) (fun w1 w2 hs ⟨es, cl, h1, h2⟩ => ⟨es, cl, (hs _ rfl).trans h1, h2⟩) hm9 (by rintro k rfl; exact ⟨hb9, hm9.lt⟩)
    refine tkm 10 h rfl ((hp).pre 1 rfl) rfl fun a h => ?_
    refine tkq 11 h rfl ((hp).pre 1 rfl) (fun W _ => ext h rfl rfl) fun a h => ?_
    refine tkq 12 h rfl ((hp).pre 1 rfl) (fun W _ => ext h rfl rfl) fun a h => ?_
    refine one 14 (by kernel_rfl) rfl (sta h hp rfl rfl 1 rfl sz105 rfl rfl fun w14 hp => ⟨((hp).pre 1 rfl), ?_⟩)
    refine tka 15 h rfl ((hp).pre 1 rfl) rfl fun a h => ?_
    refine dn (by kernel_rfl) ?_
    obtain ⟨hp9, hb8⟩ := Hp.toM (hp.pick [2, 0, 1] (by decide) rfl)
    exact ⟨b9, g4, hb8, h.sub ⟨rfl, rfl, rfl, rfl, rfl, rfl, rfl, trivial⟩, hp9⟩
   exact absurd hspan (by simp [hb1])
  refine (all h hp zc105 fun a w15 g5 hg5 h hp => ⟨((hp).pre 1 rfl), ?_⟩)
  refine one 4 (by kernel_rfl) rfl (cal h rfl en69 (isSpan_e _ _ _) fun u w16 ⟨e1, e2⟩ a h => ⟨((e2 ▸ hp).pre 1 rfl), ?_⟩)
  subst e1
  subst e2
  refine tkm 5 h rfl ((hp).pre 1 rfl) rfl fun a h => ?_
  refine split (t := 21) h rfl (fun hb2 => ?_) (fun hb2 => ?_)
  ·refine tk_on 6 h rfl (by kernel_rfl) (fun _ _ _ q => q) ((hp).pre 1 rfl) rfl rfl rfl rfl rfl hb2 (fun W _ => mov h rfl) fun a h => ?_
   refine one 7 (by kernel_rfl) rfl (stp_on h rfl rfl rfl hb2 (cal h rfl en71 (isLate_e _ _) fun u w17 ⟨e1, e2⟩ a h => ⟨((e2 ▸ hp).pre 1 rfl), ?_⟩))
   subst e1
   subst e2
   refine tkq 8 h rfl ((hp).pre 1 rfl) (fun W _ => pckT h rfl hb2 rfl) fun a h => ?_
   refine one 9 (by kernel_rfl) rfl (cal h rfl en62 (asked_s x e s2 st _ _ (hE0.keep hp cl0) (by first | exact hspan | simpa [isLate, hb2] using hspan)) fun u w18 ⟨⟨b9, e1, hb9, hm9⟩, e2⟩ a h => ⟨((hp.below e2).pre 1 rfl), ?_⟩)
   subst e1
   have hp := hp.keepF (hp.below e2) (F := mapAt (hE e st) b9) (D := fun k => k = b9) (fun w1 w2 hs ⟨es, cl, h1, h2⟩ => ⟨es, cl, (hs _ rfl).trans h1, h2⟩) hm9 (by rintro k rfl; exact ⟨hb9, hm9.lt⟩)
   refine tkm 10 h rfl ((hp).pre 1 rfl) rfl fun a h => ?_
   refine tkq 11 h rfl ((hp).pre 1 rfl) (fun W _ => ext h rfl rfl) fun a h => ?_
   refine tkq 12 h rfl ((hp).pre 1 rfl) (fun W _ => ext h rfl rfl) fun a h => ?_
   refine one 14 (by kernel_rfl) rfl (sta h hp rfl rfl 1 rfl sz105 rfl rfl fun w19 hp => ⟨((hp).pre 1 rfl), ?_⟩)
   refine tka 15 h rfl ((hp).pre 1 rfl) rfl fun a h => ?_
   refine dn (by kernel_rfl) ?_
   obtain ⟨hp9, hb8⟩ := Hp.toM (hp.pick [2, 0, 1] (by decide) rfl)
   exact ⟨b9, g5, hb8, h.sub ⟨rfl, rfl, rfl, rfl, rfl, rfl, rfl, trivial⟩, hp9⟩
  exact absurd hspan (by simp [hb2])
 rintro a w2 ⟨b, gE, hbw, h, hp⟩
 have hcl : Cl (cM (hE e st) b) w := clN hbw
 refine wp_seq ?_
 refine rg ?_
 refine wmv h rfl fun a h => ?_
 refine wvl h (nei h rfl rfl) fun a h => ?_
 refine wn ?_
 refine cnd1 h rfl (fun hb3 => ?_) (fun hb3 => ?_)
 ·exact absurd hb3 (by decide)
 refine skp ?_
 refine rg ?_
 refine wvl h (ldO (us := [_, _, _, _, _, _, _, _, _, _, _, _, _]) h hp rfl 1 rfl sz105 rfl ag105) fun a h => ?_
 refine wm3 h rfl rfl rfl rfl rfl rfl fun a h => ?_
 refine wl (cal h rfl en72 (missed_e x e s2 st b _ _ _ _ (hE0.keep hp hcl) hp.inv (by omega) (by omega)) fun u w20 ⟨⟨s22, e1, hf⟩, e2, e3⟩ a h => ?_)
 subst e1
 have hp := hp.got (hp.grow e2 e3) (by decide) hf
 refine wsn h rfl fun a h => ?_
 refine wp_seq ?_
 refine rg ?_
 refine wmv h rfl fun a h => ?_
 refine wvl h (lenR h rfl Tryz.underlying22 (hp.rdF (i := 2) rfl)) fun a h => ?_
 refine wvl h (eqi h rfl rfl) fun a h => ?_
 refine wn ?_
 refine cnd1 h rfl (fun hb4 => ?_) (fun hb4 => ?_)
 ·have hz : (missed e st d1 d2 lt) = [] := by rw [← List.isEmpty_iff, ← missed_max hd.1.1.1.1, ← len0]; exact hb4
  refine rg ?_
  refine wmv h rfl fun a h => ?_
  refine ws2 h rfl rfl rfl rfl fun a h => ?_
  refine wp_ret ?_
  try simp only [xqs]
  refine rt_2 h rfl (rvT h rfl) (rvT h rfl) ?_
  exact ⟨_, rfl, by rw [until_nil hz, if_neg (by omega)], hp.belM hbw⟩
 have hz : (missed e st d1 d2 lt).isEmpty = false := by rw [← missed_max hd.1.1.1.1, ← len0]; exact hb4
 rw [← missed_max hd.1.1.1.1] at hz
 have hl0 : 0 < ((skyAll e (max 1 d1) d2).filter (fun x => !told e st x lt)).length := by rw [List.length_pos_iff]; intro h0; rw [h0] at hz; cases hz
 obtain ⟨y, hy⟩ : ∃ y, ((skyAll e (max 1 d1) d2).filter (fun x => !told e st x lt))[0]? = some y := ⟨_, List.getElem?_eq_getElem hl0⟩
 have hyb := skyAll_mem (List.mem_filter.1 (List.mem_of_getElem? hy)).1
 have hun := until_cons (missed_max (e := e) (st := st) (b := d2) (late := lt) hd.1.1.1.1 ▸ hy)
 refine skp ?_
 refine wp_seq ?_
 refine rg ?_
 refine wmv h rfl fun a h => ?_
 refine wvl h (iadR (0) h rfl rfl Tryz.underlying22 sz87 (hp.rdF (i := 2) rfl) (rfl) (by omega)) fun a h => ?_
 refine wvl h (fad h rfl fo87_0) fun a h => ?_
 refine wvl h (ldF 0 h (hp.rdF (i := 2) rfl) hy rfl ag3 rfl) fun a h => ?_
 refine wmv h rfl fun a h => ?_
 refine wvl h (eqi h rfl rfl) fun a h => ?_
 refine wn ?_
 refine cnd1 h rfl (fun hb5 => ?_) (fun hb5 => ?_)
 ·have hyd := of_decide_eq_true hb5
  refine rg ?_
  refine ws2 h rfl rfl rfl rfl fun a h => ?_
  refine wp_ret ?_
  try simp only [xqs]
  refine rt_2 h rfl (rvT h rfl) (rvT h rfl) ?_
  exact ⟨_, rfl, by rw [hun, if_pos (by omega)], hp.belM hbw⟩
 have hyd := of_decide_eq_false hb5
 refine skp ?_
 refine rg ?_
 refine wmv h rfl fun a h => ?_
 refine wvl h (iadR (0) h rfl rfl Tryz.underlying22 sz87 (hp.rdF (i := 2) rfl) (rfl) (by omega)) fun a h => ?_
 refine wvl h (fad h rfl fo87_0) fun a h => ?_
 refine wvl h (ldF 0 h (hp.rdF (i := 2) rfl) hy rfl ag3 rfl) fun a h => ?_
 refine wvl h (sub h rfl rfl (by omega)) fun a h => ?_
 refine ws2 h rfl rfl rfl rfl fun a h => ?_
 refine wp_ret ?_
 try simp only [xqs]
 refine rt_2 h rfl (rvT h rfl) (rvT h rfl) ?_
 exact ⟨_, rfl, by rw [hun, if_neg (by omega)], hp.belM hbw⟩
set_option maxHeartbeats 2000000 in
theorem Widens_s (x : EV) (e : Eng) (s2 : SV) (st : List Int) (d1 d2 lt : Int) (w : World) (hE0 : RdE w x e s2 st) (hspan : (inR d1 1 9000 && inR d2 d1 9000 && decide (d2 - d1 ≤ 400) && inR lt 0 30) = true) : Ret Tryz.prog 39 #[.agg #[x.b.v, .int .i64 e.nnum, .int .i64 e.nden, .int .i64 e.nstart, x.s.v, x.m.v, x.n.v, x.f.v, .int .i64 e.new, .int .i64 e.full, .int .i64 e.wide], s2.v, .int .i64 d1, .int .i64 d2, .int .i64 lt] w fun u w' => u = (if widens e st d1 d2 lt ≤ 5400 then .tuple #[.int .i64 (widens e st d1 d2 lt), .int .i64 0] else .tuple #[.int .i64 0, .int .i64 5]) ∧ Below w.heap.size w w' := by
 have ok := eng_ok hE0.ok
 have hd := hspan
 simp only [inR, Bool.and_eq_true, decide_eq_true_eq] at hd
 have hlim := lim_bd ok
 have hp : Hp c0 w w [] := Hp.start trivial
 refine enter Tryz.func39 rfl (N := 83) rfl rfl fun a h => ?_
 refine rg ?_
 refine wl (box (cs := #[_, _, _, _, _, _, _, _, _, _, _]) h hp rfl rfl fun a w1 g1 hg1 h hp => ?_)
 refine ws2 h rfl rfl rfl rfl fun a h => ?_
 refine cutN (fun a w' => ∃ b gE : Nat, w.heap.size ≤ b ∧ Has [] 83 a [(1, s2.v), (2, .int .i64 d1), (3, .int .i64 d2), (4, .int .i64 lt), (5, .pointer (some ⟨g1, 0, none⟩)), (12, .pointer (some ⟨gE, 0, none⟩)), (13, .int .i64 0)] ∧ Hp (cM (hE e st) b) w w' [.blk g1 (.cells #[x.b.v, .int .i64 e.nnum, .int .i64 e.nden, .int .i64 e.nstart, x.s.v, x.m.v, x.n.v, x.f.v, .int .i64 e.new, .int .i64 e.full, .int .i64 e.wide] 76 (0, 0)), .blk gE (.cells #[x.b.v, .int .i64 e.nnum, .int .i64 e.nden, .int .i64 e.nstart, x.s.v, x.m.v, x.n.v, x.f.v, .int .i64 e.new, .int .i64 e.full, .int .i64 e.wide, s2.v, .map (some b)] 105 (0, 0))]) ?_ ?_
 ·refine rdh1 (n := 16) hp mixed rfl ?_
  have hp := hp.drew
  refine tkq 0 h rfl hp (fun W hp => ldO (us := [_, _, _, _, _, _, _, _, _, _, _]) h hp rfl 0 rfl sz76 rfl ag76) fun a h => ?_
  refine tkm 1 h rfl hp rfl fun a h => ?_
  refine tkm 2 h rfl hp rfl fun a h => ?_
  refine tkm 3 h rfl hp rfl fun a h => ?_
  refine two 4 13 (by kernel_rfl) rfl rfl ?_ ?_
  ·refine (cal h rfl en69 (isSpan_e _ _ _) fun u w3 ⟨e1, e2⟩ a h => ⟨e2 ▸ hp, ?_⟩)
   subst e1
   subst e2
   refine tkm 5 h rfl hp rfl fun a h => ?_
   refine split (t := 26) h rfl (fun hb1 => ?_) (fun hb1 => ?_)
   ·refine tk_on 6 h rfl (by kernel_rfl) (fun _ _ _ q => q) hp rfl rfl rfl rfl rfl hb1 (fun W _ => mov h rfl) fun a h => ?_
    refine two 7 13 (by kernel_rfl) rfl rfl ?_ ?_
    ·refine (stp_on h rfl rfl rfl hb1 (cal h rfl en71 (isLate_e _ _) fun u w4 ⟨e1, e2⟩ a h => ⟨e2 ▸ hp, ?_⟩))
     subst e1
     subst e2
     refine tkq 8 h rfl hp (fun W _ => pckT h rfl hb1 rfl) fun a h => ?_
     refine two 9 13 (by kernel_rfl) rfl rfl ?_ ?_
     ·refine (cal h rfl en62 (asked_s x e s2 st _ _ (hE0.keep hp cl0) (by first | exact hspan | simpa [isLate, hb1] using hspan)) fun u w5 ⟨⟨b9, e1, hb9, hm9⟩, e2⟩ a h => ⟨((hp.below e2).pre 1 rfl), ?_⟩)
      subst e1
      have hp := hp.keepF (hp.below e2) (F := mapAt (hE e st) b9) (D := fun k => k = b9) (fun w1 w2 hs ⟨es, cl, h1, h2⟩ => ⟨es, cl, (hs _ rfl).trans h1, h2⟩) hm9 (by rintro k rfl; exact ⟨hb9, hm9.lt⟩)
      refine tkm 10 h rfl ((hp).pre 1 rfl) rfl fun a h => ?_
      refine tkq 11 h rfl ((hp).pre 1 rfl) (fun W _ => ext h rfl rfl) fun a h => ?_
      refine tkq 12 h rfl ((hp).pre 1 rfl) (fun W _ => ext h rfl rfl) fun a h => ?_
      refine one 13 (by kernel_rfl) rfl (all h hp zc105 fun a w6 g2 hg2 h hp => ⟨((hp).pre 1 rfl), ?_⟩)
      refine one 14 (by kernel_rfl) rfl (sta h hp rfl rfl 2 rfl sz105 rfl rfl fun w7 hp => ⟨((hp).pre 1 rfl), ?_⟩)
      refine tka 15 h rfl ((hp).pre 1 rfl) rfl fun a h => ?_
      refine dn (by kernel_rfl) ?_
      obtain ⟨hp9, hb8⟩ := Hp.toM (hp.pick [1, 0, 2] (by decide) rfl)
      exact ⟨b9, g2, hb8, h.sub ⟨rfl, rfl, rfl, rfl, rfl, rfl, rfl, trivial⟩, hp9⟩
     refine (all h hp zc105 fun a w8 g3 hg3 h hp => ⟨((hp).pre 1 rfl), ?_⟩)
     refine one 9 (by kernel_rfl) rfl (cal h rfl en62 (asked_s x e s2 st _ _ (hE0.keep hp cl0) (by first | exact hspan | simpa [isLate, hb1] using hspan)) fun u w9 ⟨⟨b9, e1, hb9, hm9⟩, e2⟩ a h => ⟨((hp.below e2).pre 1 rfl), ?_⟩)
     subst e1
     have hp := hp.keepF (hp.below e2) (F := mapAt (hE e st) b9) (D := fun k => k = b9) (fun w1 w2 hs ⟨es, cl, h1, h2⟩ => ⟨es, cl, (hs _ rfl).trans h1, h2⟩) hm9 (by rintro k rfl; exact ⟨hb9, hm9.lt⟩)
     refine tkm 10 h rfl ((hp).pre 1 rfl) rfl fun a h => ?_
     refine tkq 11 h rfl ((hp).pre 1 rfl) (fun W _ => ext h rfl rfl) fun a h => ?_
     refine tkq 12 h rfl ((hp).pre 1 rfl) (fun W _ => ext h rfl rfl) fun a h => ?_
     refine one 14 (by kernel_rfl) rfl (sta h hp rfl rfl 1 rfl sz105 rfl rfl fun w10 hp => ⟨((hp).pre 1 rfl), ?_⟩)
     refine tka 15 h rfl ((hp).pre 1 rfl) rfl fun a h => ?_
     refine dn (by kernel_rfl) ?_
     obtain ⟨hp9, hb8⟩ := Hp.toM (hp.pick [2, 0, 1] (by decide) rfl)
     exact ⟨b9, g3, hb8, h.sub ⟨rfl, rfl, rfl, rfl, rfl, rfl, rfl, trivial⟩, hp9⟩
    refine (all h hp zc105 fun a w11 g4 hg4 h hp => ⟨((hp).pre 1 rfl), ?_⟩)
    refine one 7 (by kernel_rfl) rfl (stp_on h rfl rfl rfl hb1 (cal h rfl en71 (isLate_e _ _) fun u w12 ⟨e1, e2⟩ a h => ⟨((e2 ▸ hp).pre 1 rfl), ?_⟩))
    subst e1
    subst e2
    refine tkq 8 h rfl ((hp).pre 1 rfl) (fun W _ => pckT h rfl hb1 rfl) fun a h => ?_
    refine one 9 (by kernel_rfl) rfl (cal h rfl en62 (asked_s x e s2 st _ _ (hE0.keep hp cl0) (by first | exact hspan | simpa [isLate, hb1] using hspan)) fun u w13 ⟨⟨b9, e1, hb9, hm9⟩, e2⟩ a h => ⟨((hp.below e2).pre 1 rfl), ?_⟩)
    subst e1
    have hp := hp.keepF (hp.below e2) (F := mapAt (hE e st) b9) (D := fun k => k = b9) (fun w1 w2 hs ⟨es, cl, h1, h2⟩ => ⟨es, cl, (hs _ rfl).trans h1, h2⟩) hm9 (by rintro k rfl; exact ⟨hb9, hm9.lt⟩)
    refine tkm 10 h rfl ((hp).pre 1 rfl) rfl fun a h => ?_
    refine tkq 11 h rfl ((hp).pre 1 rfl) (fun W _ => ext h rfl rfl) fun a h => ?_
    refine tkq 12 h rfl ((hp).pre 1 rfl) (fun W _ => ext h rfl rfl) fun a h => ?_
    refine one 14 (by kernel_rfl) rfl (sta h hp rfl rfl 1 rfl sz105 rfl rfl fun w14 hp => ⟨((hp).pre 1 rfl), ?_⟩)
    refine tka 15 h rfl ((hp).pre 1 rfl) rfl fun a h => ?_
    refine dn (by kernel_rfl) ?_
    obtain ⟨hp9, hb8⟩ := Hp.toM (hp.pick [2, 0, 1] (by decide) rfl)
    exact ⟨b9, g4, hb8, h.sub ⟨rfl, rfl, rfl, rfl, rfl, rfl, rfl, trivial⟩, hp9⟩
   exact absurd hspan (by simp [hb1])
  refine (all h hp zc105 fun a w15 g5 hg5 h hp => ⟨((hp).pre 1 rfl), ?_⟩)
  refine one 4 (by kernel_rfl) rfl (cal h rfl en69 (isSpan_e _ _ _) fun u w16 ⟨e1, e2⟩ a h => ⟨((e2 ▸ hp).pre 1 rfl), ?_⟩)
  subst e1
  subst e2
  refine tkm 5 h rfl ((hp).pre 1 rfl) rfl fun a h => ?_
  refine split (t := 26) h rfl (fun hb2 => ?_) (fun hb2 => ?_)
  ·refine tk_on 6 h rfl (by kernel_rfl) (fun _ _ _ q => q) ((hp).pre 1 rfl) rfl rfl rfl rfl rfl hb2 (fun W _ => mov h rfl) fun a h => ?_
   refine one 7 (by kernel_rfl) rfl (stp_on h rfl rfl rfl hb2 (cal h rfl en71 (isLate_e _ _) fun u w17 ⟨e1, e2⟩ a h => ⟨((e2 ▸ hp).pre 1 rfl), ?_⟩))
   subst e1
   subst e2
   refine tkq 8 h rfl ((hp).pre 1 rfl) (fun W _ => pckT h rfl hb2 rfl) fun a h => ?_
   refine one 9 (by kernel_rfl) rfl (cal h rfl en62 (asked_s x e s2 st _ _ (hE0.keep hp cl0) (by first | exact hspan | simpa [isLate, hb2] using hspan)) fun u w18 ⟨⟨b9, e1, hb9, hm9⟩, e2⟩ a h => ⟨((hp.below e2).pre 1 rfl), ?_⟩)
   subst e1
   have hp := hp.keepF (hp.below e2) (F := mapAt (hE e st) b9) (D := fun k => k = b9) (fun w1 w2 hs ⟨es, cl, h1, h2⟩ => ⟨es, cl, (hs _ rfl).trans h1, h2⟩) hm9 (by rintro k rfl; exact ⟨hb9, hm9.lt⟩)
   refine tkm 10 h rfl ((hp).pre 1 rfl) rfl fun a h => ?_
   refine tkq 11 h rfl ((hp).pre 1 rfl) (fun W _ => ext h rfl rfl) fun a h => ?_
   refine tkq 12 h rfl ((hp).pre 1 rfl) (fun W _ => ext h rfl rfl) fun a h => ?_
   refine one 14 (by kernel_rfl) rfl (sta h hp rfl rfl 1 rfl sz105 rfl rfl fun w19 hp => ⟨((hp).pre 1 rfl), ?_⟩)
   refine tka 15 h rfl ((hp).pre 1 rfl) rfl fun a h => ?_
   refine dn (by kernel_rfl) ?_
   obtain ⟨hp9, hb8⟩ := Hp.toM (hp.pick [2, 0, 1] (by decide) rfl)
   exact ⟨b9, g5, hb8, h.sub ⟨rfl, rfl, rfl, rfl, rfl, rfl, rfl, trivial⟩, hp9⟩
  exact absurd hspan (by simp [hb2])
 rintro a w2 ⟨b, gE, hbw, h, hp⟩
 have hcl : Cl (cM (hE e st) b) w := clN hbw
 refine wp_seq ?_
 refine rg ?_
 refine wmv h rfl fun a h => ?_
 refine wvl h (nei h rfl rfl) fun a h => ?_
 refine wn ?_
 refine cnd1 h rfl (fun hb3 => ?_) (fun hb3 => ?_)
 ·exact absurd hb3 (by decide)
 refine skp ?_
 refine rg ?_
 refine wsn h rfl fun a h => ?_
 refine wp_seq ?_
 refine rg ?_
 refine wvl h (ldO (us := [_, _, _, _, _, _, _, _, _, _, _, _, _]) h hp rfl 1 rfl sz105 rfl ag105) fun a h => ?_
 refine wm2 h rfl rfl rfl rfl fun a h => ?_
 refine wl (cal h rfl en73 (real_e x e s2 st b _ _ _ (hE0.keep hp hcl) (by omega)) fun u w20 ⟨⟨s22, e1, hf⟩, e2⟩ a h => ?_)
 subst e1
 have hp := hp.got (hp.below e2) (by decide) hf
 refine wvl h (lenR h rfl Tryz.underlying22 (hp.rdF (i := 2) rfl)) fun a h => ?_
 refine wmv h rfl fun a h => ?_
 refine wn ?_
 refine lp1 h [4, 12, 34, 39, 40] (fun n f w' => ∃ k : Nat, ∃ z : Int, k ≤ (skyAll e (max 1 d1) d2).length ∧ n = (skyAll e (max 1 d1) d2).length - k ∧ f = [(41, .int .i64 k), (14, .int .i64 z)] ∧ Hp (cM (hE e st) b) w w' ([.blk g1 (.cells #[x.b.v, .int .i64 e.nnum, .int .i64 e.nden, .int .i64 e.nstart, x.s.v, x.m.v, x.n.v, x.f.v, .int .i64 e.new, .int .i64 e.full, .int .i64 e.wide] 76 (0, 0)), .blk gE (.cells #[x.b.v, .int .i64 e.nnum, .int .i64 e.nden, .int .i64 e.nstart, x.s.v, x.m.v, x.n.v, x.f.v, .int .i64 e.new, .int .i64 e.full, .int .i64 e.wide, s2.v, .map (some b)] 105 (0, 0)), rdE encM 3 s22.v (skyAll e (max 1 d1) d2)]) ∧ z = ((skyAll e (max 1 d1) d2).take k).foldl (fun z y => max z (leastWide e st lt y)) 0 ∧ 0 ≤ z ∧ z ≤ 10800) ((skyAll e (max 1 d1) d2).length) [(41, .int .i64 ((0 : Nat) : Int)), (14, .int .i64 0)] ⟨rfl, rfl, rfl, rfl, rfl, rfl, rfl, trivial⟩ ⟨0, 0, Nat.zero_le _, rfl, rfl, hp, rfl, by omega, by omega⟩ ?_
 rintro n f a w21 ⟨k, z, hk, rfl, rfl, hp, hz, hz0, hz1⟩ h
 have hfit := (hp.rdF (i := 2) rfl).fits
 refine rg ?_
 refine wvl h (lss h rfl rfl) fun a h => ?_
 refine wn ?_
 refine cnd h rfl (fun hb4 => ?_) (fun hb4 => ?_)
 ·have hlt : k < (skyAll e (max 1 d1) d2).length := by have := of_decide_eq_true hb4; omega
  obtain ⟨y, hy⟩ : ∃ y, (skyAll e (max 1 d1) d2)[k]? = some y := ⟨_, List.getElem?_eq_getElem hlt⟩
  refine skp ?_
  refine blk ?_
  refine rg ?_
  obtain ⟨yd, yf, yr⟩ := y
  have hyb := skyAll_mem (List.mem_of_getElem? hy)
  cases yf
  ·have hyb : max 1 d1 ≤ yd ∧ yd ≤ d2 := hyb
   refine wvl h (iadR (k) h rfl rfl Tryz.underlying22 sz87 (hp.rdF (i := 2) rfl) (rfl) (hlt)) fun a h => ?_
   refine wvl h (ldE h (hp.rdF (i := 2) rfl) hy rfl ag87 sz87) fun a h => ?_
   refine wl (all h hp zc87 fun a w22 g6 hg6 h hp => ?_)
   refine wl (sta h hp rfl rfl 3 rfl sz87 rfl rfl fun w23 hp => ?_)
   refine wn ?_
   refine rg ?_
   refine wvl h (fad h rfl fo87_1) fun a h => ?_
   refine wvl h (ldo h hp rfl 3 rfl rfl ag4) fun a h => ?_
   refine wl (cal h rfl en74 (phaseOf_false_e _) fun u w24 ⟨e1, e2⟩ a h => ?_)
   subst e1
   have hp := hp.below e2
   refine wsn h rfl fun a h => ?_
   refine rg ?_
   refine wsn h rfl fun a h => ?_
   refine wp_seq ?_
   refine rg ?_
   refine wvl h (fad h rfl fo87_0) fun a h => ?_
   refine wvl h (ldo h hp rfl 3 rfl rfl ag3) fun a h => ?_
   refine wmv h rfl fun a h => ?_
   refine wvl h (sub h rfl rfl (by omega)) fun a h => ?_
   refine wvl h (max_ h rfl rfl) fun a h => ?_
   refine wsn h rfl fun a h => ?_
   refine lp1 h [4, 12, 14, 16, 17, 34, 39, 40, 41, 42, 43, 44, 45, 46, 47, 48, 49, 50, 51, 52] (fun n f w' => ∃ j : Nat, n = (yd + lt + 1 - (max 1 (yd - lt) + j)).toNat ∧ (max 1 (yd - lt) + j ≤ yd + lt + 1 ∨ j = 0) ∧ f = [(18, .int .i64 ((daysN j (max 1 (yd - lt))).foldl (lwF e st false) 10800)), (19, .int .i64 (max 1 (yd - lt) + j))] ∧ Hp (cM (hE e st) b) w w' [.blk g1 (.cells #[x.b.v, .int .i64 e.nnum, .int .i64 e.nden, .int .i64 e.nstart, x.s.v, x.m.v, x.n.v, x.f.v, .int .i64 e.new, .int .i64 e.full, .int .i64 e.wide] 76 (0, 0)), .blk gE (.cells #[x.b.v, .int .i64 e.nnum, .int .i64 e.nden, .int .i64 e.nstart, x.s.v, x.m.v, x.n.v, x.f.v, .int .i64 e.new, .int .i64 e.full, .int .i64 e.wide, s2.v, .map (some b)] 105 (0, 0)), rdE encM 3 s22.v (skyAll e (max 1 d1) d2), .blk g6 (.cells #[.int .i64 yd, .bool false, .int .i64 yr] 87 (0, 0))]) ((yd + lt + 1 - max 1 (yd - lt)).toNat) [(18, .int .i64 10800), (19, .int .i64 (max 1 (yd - lt)))] ⟨rfl, rfl, rfl, rfl, rfl, rfl, rfl, rfl, rfl, rfl, rfl, rfl, rfl, rfl, rfl, rfl, rfl, rfl, rfl, rfl, rfl, rfl, trivial⟩ ⟨0, by simp, .inr rfl, by simp [daysN], hp⟩ ?_
   rintro n f a w25 ⟨j, rfl, hj, rfl, hp⟩ h
   refine wp_seq ?_
   refine rg ?_
   refine wmv h rfl fun a h => ?_
   refine wvl h (fad h rfl fo87_0) fun a h => ?_
   refine wvl h (ldo h hp rfl 3 rfl rfl ag3) fun a h => ?_
   refine wmv h rfl fun a h => ?_
   refine wvl h (add h rfl rfl (by omega)) fun a h => ?_
   refine wvl h (leq h rfl rfl) fun a h => ?_
   refine wn ?_
   refine cnd1 h rfl (fun hb5 => ?_) (fun hb5 => ?_)
   ·have hin := of_decide_eq_true hb5
    have hfb := far_bd (hands e st (max 1 (yd - lt) + j))
    have hlb := lw_bd e st false (daysN j (max 1 (yd - lt))) 10800 (by omega)
    refine skp ?_
    refine blk ?_
    refine rg ?_
    refine wvl h (ldO (us := [_, _, _, _, _, _, _, _, _, _, _, _, _]) h hp rfl 1 rfl sz105 rfl ag105) fun a h => ?_
    refine wm2 h rfl rfl rfl rfl fun a h => ?_
    refine wl (cal h rfl en75 (has_false_e x e s2 st b _ _ (hE0.keep hp hcl) hp.inv (by omega)) fun u w26 ⟨e1, e2, e3⟩ a h => ?_)
    subst e1
    have hp := hp.grow e2 e3
    refine wn ?_
    refine cnd1 h rfl (fun hb6 => ?_) (fun hb6 => ?_)
    ·have hcr : crossed (hands e st (max 1 (yd - lt) + j - 1)) (hands e st (max 1 (yd - lt) + j)) false = true := hb6
     refine rdh1 (n := 11) hp mixed rfl ?_
     have hp := hp.drew
     refine tkm 0 h rfl hp rfl fun a h => ?_
     refine tkq 1 h rfl hp (fun W hp => ldO (us := [_, _, _, _, _, _, _, _, _, _, _, _, _]) h hp rfl 1 rfl sz105 rfl ag105) fun a h => ?_
     refine tkm 2 h rfl hp rfl fun a h => ?_
     refine tkq 4 h rfl hp (fun W hp => ldO (us := [_, _, _, _, _, _, _, _, _, _, _, _, _]) h hp rfl 1 rfl sz105 rfl ag105) fun a h => ?_
     refine tkm 5 h rfl hp rfl fun a h => ?_
     refine one 3 (by kernel_rfl) rfl (cal h rfl en76 (far_e x e s2 st b _ _ (hE0.keep hp hcl) hp.inv (by omega)) fun u w27 ⟨e1, e2, e3⟩ a h => ⟨hp.grow e2 e3, ?_⟩)
     subst e1
     have hp := hp.grow e2 e3
     refine one 6 (by kernel_rfl) rfl (cal h rfl en77 (limit_false_e x e s2 st b _) fun u w28 ⟨e1, e2⟩ a h => ⟨hp.below e2, ?_⟩)
     subst e1
     have hp := hp.below e2
     refine tkq 7 h rfl hp (fun W _ => sub h rfl rfl (by omega)) fun a h => ?_
     refine tkq 8 h rfl hp (fun W _ => max_ h rfl rfl) fun a h => ?_
     refine tkq 9 h rfl hp (fun W _ => min_ h rfl rfl) fun a h => ?_
     refine tka 10 h rfl hp rfl fun a h => ?_
     refine dn (by kernel_rfl) ?_
     try simp only [xqs, ↓reduceIte, Nat.reduceEqDiff]
     refine rg1 ?_
     refine wmv h rfl fun a h => ?_
     refine wvl h (add h rfl rfl (by omega)) fun a h => ?_
     refine wsn h rfl fun a h => ?_
     exact ⟨_, [(18, .int .i64 (min ((daysN j (max 1 (yd - lt))).foldl (lwF e st false) 10800) (max 0 (handFar (hands e st (max 1 (yd - lt) + j)) - skyLimit e false)))), (19, .int .i64 (max 1 (yd - lt) + j + 1))], (by omega), ⟨j + 1, rfl, by omega, (by rw [lw_snoc]; simp [lwF, hcr, Int.add_assoc]), hp⟩, h.sub ⟨rfl, rfl, rfl, rfl, rfl, rfl, rfl, rfl, rfl, rfl, rfl, rfl, rfl, rfl, rfl, rfl, rfl, rfl, rfl, rfl, rfl, rfl, trivial⟩⟩
    have hcr : crossed (hands e st (max 1 (yd - lt) + j - 1)) (hands e st (max 1 (yd - lt) + j)) false = false := hb6
    refine wp_skip ?_
    refine rg1 ?_
    refine wmv h rfl fun a h => ?_
    refine wvl h (add h rfl rfl (by omega)) fun a h => ?_
    refine wsn h rfl fun a h => ?_
    exact ⟨_, [(18, .int .i64 ((daysN j (max 1 (yd - lt))).foldl (lwF e st false) 10800)), (19, .int .i64 (max 1 (yd - lt) + j + 1))], (by omega), ⟨j + 1, rfl, by omega, (by rw [lw_snoc]; simp [lwF, hcr, Int.add_assoc]), hp⟩, h.sub ⟨rfl, rfl, rfl, rfl, rfl, rfl, rfl, rfl, rfl, rfl, rfl, rfl, rfl, rfl, rfl, rfl, rfl, rfl, rfl, rfl, rfl, rfl, trivial⟩⟩
   have hout := of_decide_eq_false hb5
   have hlw := lw_end (e := e) (st := st) (lt := lt) (y := ⟨yd, false, yr⟩) (j := j) hout hj
   have hlb := lw_bd e st false (daysN j (max 1 (yd - lt))) 10800 (by omega)
   refine wp_exit ?_
   try simp only [xqs, ↓reduceIte, Nat.reduceEqDiff]
   refine rg1 ?_
   refine wm2 h rfl rfl rfl rfl fun a h => ?_
   refine wvl h (max_ h rfl rfl) fun a h => ?_
   refine wsg h rfl fun a h => ?_
   refine wn' ?_
   try simp only [xqs, ↓reduceIte, Nat.reduceEqDiff]
   refine rg1 ?_
   refine wvl h (add h rfl rfl (by omega)) fun a h => ?_
   refine wmv h rfl fun a h => ?_
   refine wn ?_
   exact ⟨_, _, (by omega), ⟨k + 1, _, by omega, rfl, rfl, hp.pre 3 rfl, by rw [wd_snoc hy, ← hlw, ← hz], by omega, by omega⟩, h.sub ⟨rfl, rfl, rfl, rfl, rfl, rfl, rfl, trivial⟩⟩
  have hyb : max 1 d1 ≤ yd ∧ yd ≤ d2 := hyb
  refine wvl h (iadR (k) h rfl rfl Tryz.underlying22 sz87 (hp.rdF (i := 2) rfl) (rfl) (hlt)) fun a h => ?_
  refine wvl h (ldE h (hp.rdF (i := 2) rfl) hy rfl ag87 sz87) fun a h => ?_
  refine wl (all h hp zc87 fun a w29 g7 hg7 h hp => ?_)
  refine wl (sta h hp rfl rfl 3 rfl sz87 rfl rfl fun w30 hp => ?_)
  refine wn ?_
  refine rg ?_
  refine wvl h (fad h rfl fo87_1) fun a h => ?_
  refine wvl h (ldo h hp rfl 3 rfl rfl ag4) fun a h => ?_
  refine wl (cal h rfl en74 (phaseOf_true_e _) fun u w31 ⟨e1, e2⟩ a h => ?_)
  subst e1
  have hp := hp.below e2
  refine wsn h rfl fun a h => ?_
  refine rg ?_
  refine wsn h rfl fun a h => ?_
  refine wp_seq ?_
  refine rg ?_
  refine wvl h (fad h rfl fo87_0) fun a h => ?_
  refine wvl h (ldo h hp rfl 3 rfl rfl ag3) fun a h => ?_
  refine wmv h rfl fun a h => ?_
  refine wvl h (sub h rfl rfl (by omega)) fun a h => ?_
  refine wvl h (max_ h rfl rfl) fun a h => ?_
  refine wsn h rfl fun a h => ?_
  refine lp1 h [4, 12, 14, 16, 17, 34, 39, 40, 41, 42, 43, 44, 45, 46, 47, 48, 49, 50, 51, 52] (fun n f w' => ∃ j : Nat, n = (yd + lt + 1 - (max 1 (yd - lt) + j)).toNat ∧ (max 1 (yd - lt) + j ≤ yd + lt + 1 ∨ j = 0) ∧ f = [(18, .int .i64 ((daysN j (max 1 (yd - lt))).foldl (lwF e st true) 10800)), (19, .int .i64 (max 1 (yd - lt) + j))] ∧ Hp (cM (hE e st) b) w w' [.blk g1 (.cells #[x.b.v, .int .i64 e.nnum, .int .i64 e.nden, .int .i64 e.nstart, x.s.v, x.m.v, x.n.v, x.f.v, .int .i64 e.new, .int .i64 e.full, .int .i64 e.wide] 76 (0, 0)), .blk gE (.cells #[x.b.v, .int .i64 e.nnum, .int .i64 e.nden, .int .i64 e.nstart, x.s.v, x.m.v, x.n.v, x.f.v, .int .i64 e.new, .int .i64 e.full, .int .i64 e.wide, s2.v, .map (some b)] 105 (0, 0)), rdE encM 3 s22.v (skyAll e (max 1 d1) d2), .blk g7 (.cells #[.int .i64 yd, .bool true, .int .i64 yr] 87 (0, 0))]) ((yd + lt + 1 - max 1 (yd - lt)).toNat) [(18, .int .i64 10800), (19, .int .i64 (max 1 (yd - lt)))] ⟨rfl, rfl, rfl, rfl, rfl, rfl, rfl, rfl, rfl, rfl, rfl, rfl, rfl, rfl, rfl, rfl, rfl, rfl, rfl, rfl, rfl, rfl, trivial⟩ ⟨0, by simp, .inr rfl, by simp [daysN], hp⟩ ?_
  rintro n f a w32 ⟨j, rfl, hj, rfl, hp⟩ h
  refine wp_seq ?_
  refine rg ?_
  refine wmv h rfl fun a h => ?_
  refine wvl h (fad h rfl fo87_0) fun a h => ?_
  refine wvl h (ldo h hp rfl 3 rfl rfl ag3) fun a h => ?_
  refine wmv h rfl fun a h => ?_
  refine wvl h (add h rfl rfl (by omega)) fun a h => ?_
  refine wvl h (leq h rfl rfl) fun a h => ?_
  refine wn ?_
  refine cnd1 h rfl (fun hb7 => ?_) (fun hb7 => ?_)
  ·have hin := of_decide_eq_true hb7
   have hfb := far_bd (hands e st (max 1 (yd - lt) + j))
   have hlb := lw_bd e st true (daysN j (max 1 (yd - lt))) 10800 (by omega)
   refine skp ?_
   refine blk ?_
   refine rg ?_
   refine wvl h (ldO (us := [_, _, _, _, _, _, _, _, _, _, _, _, _]) h hp rfl 1 rfl sz105 rfl ag105) fun a h => ?_
   refine wm2 h rfl rfl rfl rfl fun a h => ?_
   refine wl (cal h rfl en75 (has_true_e x e s2 st b _ _ (hE0.keep hp hcl) hp.inv (by omega)) fun u w33 ⟨e1, e2, e3⟩ a h => ?_)
   subst e1
   have hp := hp.grow e2 e3
   refine wn ?_
   refine cnd1 h rfl (fun hb8 => ?_) (fun hb8 => ?_)
   ·have hcr : crossed (hands e st (max 1 (yd - lt) + j - 1)) (hands e st (max 1 (yd - lt) + j)) true = true := hb8
    refine rdh1 (n := 11) hp mixed rfl ?_
    have hp := hp.drew
    refine tkm 0 h rfl hp rfl fun a h => ?_
    refine tkq 1 h rfl hp (fun W hp => ldO (us := [_, _, _, _, _, _, _, _, _, _, _, _, _]) h hp rfl 1 rfl sz105 rfl ag105) fun a h => ?_
    refine tkm 2 h rfl hp rfl fun a h => ?_
    refine tkq 4 h rfl hp (fun W hp => ldO (us := [_, _, _, _, _, _, _, _, _, _, _, _, _]) h hp rfl 1 rfl sz105 rfl ag105) fun a h => ?_
    refine tkm 5 h rfl hp rfl fun a h => ?_
    refine one 3 (by kernel_rfl) rfl (cal h rfl en76 (far_e x e s2 st b _ _ (hE0.keep hp hcl) hp.inv (by omega)) fun u w34 ⟨e1, e2, e3⟩ a h => ⟨hp.grow e2 e3, ?_⟩)
    subst e1
    have hp := hp.grow e2 e3
    refine one 6 (by kernel_rfl) rfl (cal h rfl en77 (limit_true_e x e s2 st b _) fun u w35 ⟨e1, e2⟩ a h => ⟨hp.below e2, ?_⟩)
    subst e1
    have hp := hp.below e2
    refine tkq 7 h rfl hp (fun W _ => sub h rfl rfl (by omega)) fun a h => ?_
    refine tkq 8 h rfl hp (fun W _ => max_ h rfl rfl) fun a h => ?_
    refine tkq 9 h rfl hp (fun W _ => min_ h rfl rfl) fun a h => ?_
    refine tka 10 h rfl hp rfl fun a h => ?_
    refine dn (by kernel_rfl) ?_
    try simp only [xqs, ↓reduceIte, Nat.reduceEqDiff]
    refine rg1 ?_
    refine wmv h rfl fun a h => ?_
    refine wvl h (add h rfl rfl (by omega)) fun a h => ?_
    refine wsn h rfl fun a h => ?_
    exact ⟨_, [(18, .int .i64 (min ((daysN j (max 1 (yd - lt))).foldl (lwF e st true) 10800) (max 0 (handFar (hands e st (max 1 (yd - lt) + j)) - skyLimit e true)))), (19, .int .i64 (max 1 (yd - lt) + j + 1))], (by omega), ⟨j + 1, rfl, by omega, (by rw [lw_snoc]; simp [lwF, hcr, Int.add_assoc]), hp⟩, h.sub ⟨rfl, rfl, rfl, rfl, rfl, rfl, rfl, rfl, rfl, rfl, rfl, rfl, rfl, rfl, rfl, rfl, rfl, rfl, rfl, rfl, rfl, rfl, trivial⟩⟩
   have hcr : crossed (hands e st (max 1 (yd - lt) + j - 1)) (hands e st (max 1 (yd - lt) + j)) true = false := hb8
   refine wp_skip ?_
   refine rg1 ?_
   refine wmv h rfl fun a h => ?_
   refine wvl h (add h rfl rfl (by omega)) fun a h => ?_
   refine wsn h rfl fun a h => ?_
   exact ⟨_, [(18, .int .i64 ((daysN j (max 1 (yd - lt))).foldl (lwF e st true) 10800)), (19, .int .i64 (max 1 (yd - lt) + j + 1))], (by omega), ⟨j + 1, rfl, by omega, (by rw [lw_snoc]; simp [lwF, hcr, Int.add_assoc]), hp⟩, h.sub ⟨rfl, rfl, rfl, rfl, rfl, rfl, rfl, rfl, rfl, rfl, rfl, rfl, rfl, rfl, rfl, rfl, rfl, rfl, rfl, rfl, rfl, rfl, trivial⟩⟩
  have hout := of_decide_eq_false hb7
  have hlw := lw_end (e := e) (st := st) (lt := lt) (y := ⟨yd, true, yr⟩) (j := j) hout hj
  have hlb := lw_bd e st true (daysN j (max 1 (yd - lt))) 10800 (by omega)
  refine wp_exit ?_
  try simp only [xqs, ↓reduceIte, Nat.reduceEqDiff]
  refine rg1 ?_
  refine wm2 h rfl rfl rfl rfl fun a h => ?_
  refine wvl h (max_ h rfl rfl) fun a h => ?_
  refine wsg h rfl fun a h => ?_
  refine wn' ?_
  try simp only [xqs, ↓reduceIte, Nat.reduceEqDiff]
  refine rg1 ?_
  refine wvl h (add h rfl rfl (by omega)) fun a h => ?_
  refine wmv h rfl fun a h => ?_
  refine wn ?_
  exact ⟨_, _, (by omega), ⟨k + 1, _, by omega, rfl, rfl, hp.pre 3 rfl, by rw [wd_snoc hy, ← hlw, ← hz], by omega, by omega⟩, h.sub ⟨rfl, rfl, rfl, rfl, rfl, rfl, rfl, trivial⟩⟩
 have hend : k = (skyAll e (max 1 d1) d2).length := by have := of_decide_eq_false hb4; omega
 subst hend
 rw [List.take_length, show max 1 d1 = d1 by omega] at hz
 have hz : z = widens e st d1 d2 lt := hz
 refine wp_exit ?_
 try simp only [xqs, ↓reduceIte, Nat.reduceEqDiff]
 refine wp_seq ?_
 refine rg ?_
 refine wmv h rfl fun a h => ?_
 refine wl (cal h rfl en78 (isLimit_e _ _) fun u w36 ⟨e1, e2⟩ a h => ?_)
 subst e1
 subst e2
 refine wvl h (not_ h rfl) fun a h => ?_
 refine wn ?_
 refine cnd1 h rfl (fun hb9 => ?_) (fun hb9 => ?_)
 ·have hli : ¬ z ≤ 5400 := fun h0 => by rw [isLimit_of ⟨hz0, h0⟩] at hb9; cases hb9
  refine rg ?_
  refine ws2 h rfl rfl rfl rfl fun a h => ?_
  refine wp_ret ?_
  try simp only [xqs]
  refine rt_2 h rfl (rvT h rfl) (rvT h rfl) ?_
  exact ⟨_, rfl, by rw [← hz, if_neg hli], hp.belM hbw⟩
 have hli : z ≤ 5400 := by simp only [isLimit, inR, Bool.not_eq_false, Bool.and_eq_true, decide_eq_true_eq, Bool.not_eq_eq_eq_not, Bool.not_false] at hb9; omega
 refine skp ?_
 refine rg ?_
 refine wmv h rfl fun a h => ?_
 refine ws2 h rfl rfl rfl rfl fun a h => ?_
 refine wp_ret ?_
 try simp only [xqs]
 refine rt_2 h rfl (rvT h rfl) (rvT h rfl) ?_
 exact ⟨_, rfl, by rw [← hz, if_pos hli], hp.belM hbw⟩
end Go.Proofs.Ec
