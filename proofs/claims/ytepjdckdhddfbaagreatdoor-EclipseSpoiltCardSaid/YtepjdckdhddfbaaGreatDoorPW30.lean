import Derived.Test.YtepjdckdhddfbaaGreatDoorProg
import Derived.Test.YtepjdckdhddfbaaGreatDoorPFa
import Derived.Test.YtepjdckdhddfbaaGreatDoorPQb
import Derived.Test.YtepjdckdhddfbaaGreatDoorPW29
set_option linter.unusedVariables false
set_option linter.unusedSimpArgs false
set_option maxRecDepth 4000
namespace Go.Proofs.Ec
open Go.RowKit Go.Proofs.Sx
open Ecl
theorem rdHeap {g t n : Nat} {w : World} {cs : Array Value} (ys : List Int) (h : w.heap[g]? = some (.cells cs t (0, 0))) (hc : cs.toList = ys.flatMap encI) (hn : n = ys.length) (hf : n ≤ 9223372036854775807) : Rd w encI 1 (SV.v ⟨some ⟨g, 0, none⟩, n, n⟩) ys := by
 subst hn
 refine ⟨⟨_, ys.length, rfl, Nat.le_refl _, fun _ => rfl⟩, hf, fun _ _ => rfl, fun i y j u hy hu => ?_⟩
 have := flat_at (ys := ys) (enc := encI) (sz := 1) (fun _ _ => rfl) i y j u hy hu
 rw [show (bk (SV.v ⟨some ⟨g, 0, none⟩, ys.length, ys.length⟩)) = g from rfl, show (of (SV.v ⟨some ⟨g, 0, none⟩, ys.length, ys.length⟩)) = 0 from rfl, Nat.zero_add, cell_of_row w g _ _ t (0, 0) h]
 rw [← hc] at this
 simpa using this
theorem toG {g1 ga gb gc g5 gd : Nat} {o1 o5 : Obj} {s1 s2 s3 : SV} {w w' : World} (hp : Hp c0 w w' [.blk g1 o1, .blk ga (.cells #[.int .i64 0] 3 (0, 0)), .blk gb (.cells #[.int .i64 0, .int .i64 300, .int .i64 0, .int .i64 (-300)] 3 (0, 0)), .blk gc (.cells #[.int .i64 360, .int .i64 1, .int .i64 0, .slice (some ⟨ga, 0, none⟩) 1 1, .int .i64 27, .int .i64 1, .int .i64 0, .slice (some ⟨gb, 0, none⟩) 4 4] 110 (0, 0)), .blk g5 o5]) (h15 : g1 < g5) (r1 : Rd w' encP 2 s1.v Ecl.G.sun) (b1 : g5 < bk s1.v) (r2 : Rd w' encP 2 s2.v Ecl.G.moon) (b2 : g5 < bk s2.v) (r3 : Rd w' encP 2 s3.v Ecl.G.node) (b3 : g5 < bk s3.v) (b4 : g5 < gd) (h4 : w'.heap[gd]? = some (.cells #[.int .i64 10, .int .i64 20, .int .i64 40] 3 (0, 0))) : Hp c0 w w' [.blk g1 o1, gE (gEV ga gb gc gd s1 s2 s3) Ecl.G] := by
 have hG : RdG w' (gEV ga gb gc gd s1 s2 s3) Ecl.G := ⟨⟨hp.rdA (i := 3) (gEV ga gb gc gd s1 s2 s3).bs rfl rfl rfl (Nat.le_refl _) (show 2 ≤ 9223372036854775807 by decide) (fun _ _ => rfl), rfl, fun y hy => by
  rcases List.mem_cons.1 hy with rfl | hy
  ·exact hp.rdA (i := 1) [0] rfl rfl rfl (Nat.le_refl _) (show 1 ≤ 9223372036854775807 by decide) (fun _ _ => rfl)
  ·rw [List.mem_singleton.1 hy]; exact hp.rdA (i := 2) [0, 300, 0, -300] rfl rfl rfl (Nat.le_refl _) (show 4 ≤ 9223372036854775807 by decide) (fun _ _ => rfl)⟩, r1, r2, r3, rdHeap [10, 20, 40] h4 rfl rfl (by decide)⟩
 have hne := (List.pairwise_cons.1 hp.ne).1
 have h5 := hp.bnd (i := 4) rfl
 have l1 := (r1.lt (by decide) (by decide)).1
 have l2 := (r2.lt (by decide) (by decide)).1
 have l3 := (r3.lt (by decide) (by decide)).1
 have l4 := (Array.getElem?_eq_some_iff.1 h4).1
 have ba := hp.bnd (i := 1) rfl
 have bb := hp.bnd (i := 2) rfl
 have bc := hp.bnd (i := 3) rfl
 have key : ∀ k, DG (gEV ga gb gc gd s1 s2 s3) k → (w.heap.size ≤ k ∧ k < w'.heap.size) ∧ k ≠ g1 := by
  intro k hk
  rcases hk with rfl | rfl | rfl | rfl | rfl | ⟨y, hy, rfl⟩
  ·exact ⟨bc, fun e => hne _ (.tail _ (.tail _ (.head _))) g1 rfl e.symm⟩
  ·exact ⟨⟨by show w.heap.size ≤ bk s1.v; omega, l1⟩, by show bk s1.v ≠ g1; omega⟩
  ·exact ⟨⟨by show w.heap.size ≤ bk s2.v; omega, l2⟩, by show bk s2.v ≠ g1; omega⟩
  ·exact ⟨⟨by show w.heap.size ≤ bk s3.v; omega, l3⟩, by show bk s3.v ≠ g1; omega⟩
  ·exact ⟨⟨by omega, l4⟩, by omega⟩
  ·rcases List.mem_cons.1 hy with rfl | hy
   ·exact ⟨ba, fun e => hne _ (.head _) g1 rfl e.symm⟩
   ·rw [List.mem_singleton.1 hy]; exact ⟨bb, fun e => hne _ (.tail _ (.head _)) g1 rfl e.symm⟩
 refine Hp.of hp.ext hp.inv (fun p hpm => ?_) (List.pairwise_cons.2 ⟨fun q hq k hk hkD => ?_, by simp⟩)
 ·rcases List.mem_cons.1 hpm with rfl | hpm
  ·exact hp.at' (by simp)
  rw [List.mem_singleton.1 hpm]
  exact ⟨fun w1 w2 hs hr => RdG.same hs hr, hG, fun k hk => ⟨(key k hk).1.1, (key k hk).1.2, fun e => e⟩⟩
 rw [List.mem_singleton.1 hq] at hkD
 exact (key k hkD).2 hk
theorem tr_sun {g : Nat} {w : World} (h : Rd w encI 1 (SV.v ⟨some ⟨g, 0, none⟩, 6, 6⟩) [4, 16, 4, 36, 4, 40]) : Ret Tryz.prog 65 #[.slice (some ⟨g, 0, none⟩) 6 6] w fun u w' => (∃ s' : SV, u = s'.v ∧ Fr w w' encP 2 s'.v Ecl.G.sun) ∧ Below w.heap.size w w' := by
 have := train_L ⟨some ⟨g, 0, none⟩, 6, 6⟩ [4, 16, 4, 36, 4, 40] w h (by decide)
 exact this
theorem tr_moon {g : Nat} {w : World} (h : Rd w encI 1 (SV.v ⟨some ⟨g, 0, none⟩, 4, 4⟩) [4, 11, 4, 39]) : Ret Tryz.prog 65 #[.slice (some ⟨g, 0, none⟩) 4 4] w fun u w' => (∃ s' : SV, u = s'.v ∧ Fr w w' encP 2 s'.v Ecl.G.moon) ∧ Below w.heap.size w w' := by
 have := train_L ⟨some ⟨g, 0, none⟩, 4, 4⟩ [4, 11, 4, 39] w h (by decide)
 exact this
theorem tr_node {g : Nat} {w : World} (h : Rd w encI 1 (SV.v ⟨some ⟨g, 0, none⟩, 6, 6⟩) [4, 32, 4, 60, 4, 60]) : Ret Tryz.prog 65 #[.slice (some ⟨g, 0, none⟩) 6 6] w fun u w' => (∃ s' : SV, u = s'.v ∧ Fr w w' encP 2 s'.v Ecl.G.node) ∧ Below w.heap.size w w' := by
 have := train_L ⟨some ⟨g, 0, none⟩, 6, 6⟩ [4, 32, 4, 60, 4, 60] w h (by decide)
 exact this
set_option maxHeartbeats 2000000 in
theorem G_L  (w : World) : Ret Tryz.prog 33 #[] w fun u w' => (∃ x : EV, u = .agg #[x.b.v, .int .i64 Ecl.G.nnum, .int .i64 Ecl.G.nden, .int .i64 Ecl.G.nstart, x.s.v, x.m.v, x.n.v, x.f.v, .int .i64 Ecl.G.new, .int .i64 Ecl.G.full, .int .i64 Ecl.G.wide] ∧ RdG w' x Ecl.G ∧ ∀ k, DG x k → w.heap.size ≤ k ∧ k < w'.heap.size) ∧ Below w.heap.size w w' := by
 have hp : Hp c0 w w [] := Hp.start trivial
 refine enter Tryz.func33 rfl (N := 21) rfl rfl fun a h => ?_
 refine rg ?_
 refine wl (all h hp zc76 fun a w1 g1 hg1 h hp => ?_)
 refine wn ?_
 refine rg ?_
 refine wvl h (bld h rfl (bl68_0_1 _ _ _)) fun a h => ?_
 refine wl (bsl h hp rfl (bs74_1_0 _) fun a w2 g2 hg2 h hp => ?_)
 refine wvl h (bld h rfl (bl110_0_2 _ _ _ _ _ _)) fun a h => ?_
 refine wvl h (bld h rfl (bl68_0_1 _ _ _)) fun a h => ?_
 refine wl (bsl h hp rfl (bs74_4_0_1_2_3 _ _ _ _) fun a w3 g3 hg3 h hp => ?_)
 refine wvl h (bld h rfl (bl110_0_2 _ _ _ _ _ _)) fun a h => ?_
 refine wl (bsl h hp rfl (bs66_2_0_1 _ _ _ _ _ _ _ _ _ _ _ _) fun a w4 g4 hg4 h hp => ?_)
 refine wvl h (bld h rfl (bl68_0_1 _ _ _)) fun a h => ?_
 refine wvl h (bld h rfl (bl70_0_1 _ _ _ _)) fun a h => ?_
 refine wvl h (bld h rfl (bl72_0_1 _ _ _ _ _ _ _)) fun a h => ?_
 have h1b := (hp.bnd (i := 0) rfl).2
 refine wl (all h hp zc72 fun a w5 g5 hg5 h hp => ?_)
 refine wl (sta h hp rfl rfl 4 rfl sz72 rfl rfl fun w6 hp => ?_)
 refine wn ?_
 refine cutN (fun a w' => ∃ x : EV, Has [] 21 a [(0, .pointer (some ⟨g1, 0, none⟩))] ∧ Hp c0 w w' [.blk g1 (.cells #[x.b.v, .int .i64 Ecl.G.nnum, .int .i64 Ecl.G.nden, .int .i64 Ecl.G.nstart, x.s.v, x.m.v, x.n.v, x.f.v, .int .i64 Ecl.G.new, .int .i64 Ecl.G.full, .int .i64 Ecl.G.wide] 76 (0, 0)), gE x Ecl.G]) ?_ ?_
 ·have h15 : g1 < g5 := by omega
  refine rdP1 (m := 8) (r := 2) (n := 10) [12, 13, 14, 15, 16, 17, 18, 19] [.val (.agg #[.slice (some ⟨g4, 0, none⟩) 2 2, .int .i64 1800, .int .i64 1, .int .i64 1000]), arrP g5 6 #[.int .i64 4, .int .i64 16, .int .i64 4, .int .i64 36, .int .i64 4, .int .i64 40] 3, slP g5 encP 2 Ecl.G.sun (by decide), arrP g5 4 #[.int .i64 4, .int .i64 11, .int .i64 4, .int .i64 39] 3, slP g5 encP 2 Ecl.G.moon (by decide), arrP g5 6 #[.int .i64 4, .int .i64 32, .int .i64 4, .int .i64 60, .int .i64 4, .int .i64 60] 3, slP g5 encP 2 Ecl.G.node (by decide), arrP g5 3 #[.int .i64 10, .int .i64 20, .int .i64 40] 3] [(0, .pointer (some ⟨g1, 0, none⟩)), (1, .pointer (some ⟨g5, 0, none⟩))] h ⟨rfl, rfl, trivial⟩ hp mixed rfl rfl rfl (by decide) rfl (by kernel_rfl) (by kernel_rfl) ⟨?_, ?_, ?_, ?_, ?_, ?_, ?_, ?_, trivial⟩ ?_
  ·intro a w8 h hp hd
   exact StepP.val h (ldO (us := [_, _, _, _]) h hp rfl 4 rfl sz72 rfl ag72) ⟨rfl, rfl, trivial⟩ rfl rfl rfl rfl rfl
  ·intro a w9 h hp hd
   have hb5 := (hp.bnd (i := 4) rfl).2
   have hq : Hp c0 w9 w9 [] := Hp.start trivial
   exact bsl h hq rfl (bs74_6_0_1_2_3_4_5 _ _ _ _ _ _) fun a w9 g9 hg9 h hq => ⟨hq.bel, h.sub ⟨rfl, rfl, trivial⟩, _, h.get 13 _ rfl, g9, by omega, rfl, hq.fact (i := 0) rfl⟩
  ·intro a w10 h hp hd
   have hb5 := (hp.bnd (i := 4) rfl).2
   obtain ⟨d0, _⟩ := hd
   obtain ⟨v0, hv0, ga, hga1, rfl, hga⟩ := d0 rfl
   have h := h.also (t := 13) hv0
   refine cal h rfl en65 (tr_sun (rdHeap [4, 16, 4, 36, 4, 40] hga rfl rfl (by decide))) fun u w9 ⟨⟨s9, e1, hf⟩, e2⟩ a h => ?_
   subst e1
   exact ⟨e2, h.sub ⟨rfl, rfl, trivial⟩, _, h.get 14 _ rfl, s9, rfl, hf.1, fun hl => by have := hf.2 hl; omega⟩
  ·intro a w11 h hp hd
   have hb5 := (hp.bnd (i := 4) rfl).2
   have hq : Hp c0 w11 w11 [] := Hp.start trivial
   exact bsl h hq rfl (bs74_4_0_1_2_3 _ _ _ _) fun a w9 g9 hg9 h hq => ⟨hq.bel, h.sub ⟨rfl, rfl, trivial⟩, _, h.get 15 _ rfl, g9, by omega, rfl, hq.fact (i := 0) rfl⟩
  ·intro a w12 h hp hd
   have hb5 := (hp.bnd (i := 4) rfl).2
   obtain ⟨d0, _⟩ := hd
   obtain ⟨v0, hv0, ga, hga1, rfl, hga⟩ := d0 rfl
   have h := h.also (t := 15) hv0
   refine cal h rfl en65 (tr_moon (rdHeap [4, 11, 4, 39] hga rfl rfl (by decide))) fun u w9 ⟨⟨s9, e1, hf⟩, e2⟩ a h => ?_
   subst e1
   exact ⟨e2, h.sub ⟨rfl, rfl, trivial⟩, _, h.get 16 _ rfl, s9, rfl, hf.1, fun hl => by have := hf.2 hl; omega⟩
  ·intro a w13 h hp hd
   have hb5 := (hp.bnd (i := 4) rfl).2
   have hq : Hp c0 w13 w13 [] := Hp.start trivial
   exact bsl h hq rfl (bs74_6_0_1_2_3_4_5 _ _ _ _ _ _) fun a w9 g9 hg9 h hq => ⟨hq.bel, h.sub ⟨rfl, rfl, trivial⟩, _, h.get 17 _ rfl, g9, by omega, rfl, hq.fact (i := 0) rfl⟩
  ·intro a w14 h hp hd
   have hb5 := (hp.bnd (i := 4) rfl).2
   obtain ⟨d0, _⟩ := hd
   obtain ⟨v0, hv0, ga, hga1, rfl, hga⟩ := d0 rfl
   have h := h.also (t := 17) hv0
   refine cal h rfl en65 (tr_node (rdHeap [4, 32, 4, 60, 4, 60] hga rfl rfl (by decide))) fun u w9 ⟨⟨s9, e1, hf⟩, e2⟩ a h => ?_
   subst e1
   exact ⟨e2, h.sub ⟨rfl, rfl, trivial⟩, _, h.get 18 _ rfl, s9, rfl, hf.1, fun hl => by have := hf.2 hl; omega⟩
  ·intro a w15 h hp hd
   have hb5 := (hp.bnd (i := 4) rfl).2
   have hq : Hp c0 w15 w15 [] := Hp.start trivial
   exact bsl h hq rfl (bs74_3_0_1_2 _ _ _) fun a w9 g9 hg9 h hq => ⟨hq.bel, h.sub ⟨rfl, rfl, trivial⟩, _, h.get 19 _ rfl, g9, by omega, rfl, hq.fact (i := 0) rfl⟩
  intro a w16 h hp hf
  obtain ⟨v0, hv0, e0⟩ := hf 0 (by decide)
  have e0 : v0 = .agg #[.slice (some ⟨g4, 0, none⟩) 2 2, .int .i64 1800, .int .i64 1, .int .i64 1000] := e0
  subst e0
  have h := h.also (t := 12) hv0
  obtain ⟨v1, hv1, s1, rfl, r1, b1⟩ := hf 2 (by decide)
  have h := h.also (t := 14) hv1
  obtain ⟨v2, hv2, s2, rfl, r2, b2⟩ := hf 4 (by decide)
  have h := h.also (t := 16) hv2
  obtain ⟨v3, hv3, s3, rfl, r3, b3⟩ := hf 6 (by decide)
  have h := h.also (t := 18) hv3
  obtain ⟨v4, hv4, gd, b4, rfl, h4⟩ := hf 7 (by decide)
  have h := h.also (t := 19) hv4
  have hp := toG hp h15 r1 (b1 (by decide)) r2 (b2 (by decide)) r3 (b3 (by decide)) b4 h4
  refine tkq 8 h rfl trivial (fun W _ => bld h rfl (bl76_0_1_2_3_4_5_6 _ _ _ _ _ _ _ _ _ _ _ _ _ _ _ _ _ _ _ _ _)) fun a h => ?_
  refine one 9 (by kernel_rfl) rfl (sta h hp rfl rfl 0 rfl sz76 rfl rfl fun w30 hp => ⟨trivial, ?_⟩)
  refine dn (by kernel_rfl) ?_
  try simp only [xqs, ↓reduceIte, Nat.reduceEqDiff]
  exact ⟨gEV g2 g3 g4 gd s1 s2 s3, h.sub ⟨rfl, trivial⟩, hp⟩
 rintro a w7 ⟨x, h, hp⟩
 refine wp_ret ?_
 try simp only [xqs]
 refine rt_1 h rfl (rvA h hp rfl 0 rfl ag76 sz76) ?_
 exact ⟨_, rfl, ⟨x, rfl, hp.fact (i := 1) rfl, fun k hk => by have := (hp.at' (p := gE x Ecl.G) (by simp)).2.2 k hk; exact ⟨this.1, this.2.1⟩⟩, hp.bel⟩
end Go.Proofs.Ec
