import Derived.Test.YtepjdckdhddfbaaGreatDoorProg
import Derived.Test.YtepjdckdhddfbaaGreatDoorPFa
import Derived.Test.YtepjdckdhddfbaaGreatDoorPQb
import Derived.Test.YtepjdckdhddfbaaGreatDoorPW30
import Derived.Test.YtepjdckdhddfbaaGreatDoorPW11
import Derived.Test.YtepjdckdhddfbaaGreatDoorPW15
import Derived.Test.YtepjdckdhddfbaaGreatDoorPW17
import Derived.Test.YtepjdckdhddfbaaGreatDoorPW21
import Derived.Test.YtepjdckdhddfbaaGreatDoorPW27
import Derived.Test.YtepjdckdhddfbaaGreatDoorPW29
import Derived.Test.YtepjdckdhddfbaaGreatDoorPQc
set_option linter.unusedVariables false
set_option linter.unusedSimpArgs false
set_option maxRecDepth 4000
namespace Go.Proofs.Ec
open Go.RowKit Go.Proofs.Sx
open Ecl
theorem H_L  (w : World) : Ret Tryz.prog 40 #[] w fun u w' => (∃ x : EV, u = .agg #[x.b.v, .int .i64 Ecl.H.nnum, .int .i64 Ecl.H.nden, .int .i64 Ecl.H.nstart, x.s.v, x.m.v, x.n.v, x.f.v, .int .i64 Ecl.H.new, .int .i64 Ecl.H.full, .int .i64 Ecl.H.wide] ∧ RdG w' x Ecl.H ∧ ∀ k, DG x k → w.heap.size ≤ k ∧ k < w'.heap.size) ∧ Below w.heap.size w w' := by
 have hp : Hp c0 w w [] := Hp.start trivial
 refine enter Tryz.func40 rfl (N := 6) rfl rfl fun a h => ?_
 refine rg ?_
 refine wl (all h hp zc76 fun a w1 g1 hg1 h hp => ?_)
 refine wn ?_
 refine rg ?_
 refine wl (cal h rfl en33 (G_L _) fun u w2 ⟨⟨x21, e1, hx, hxf⟩, e2⟩ a h => ?_)
 subst e1
 have hp := hp.keepF (hp.below e2) (F := fun W => RdG W x21 Ecl.G) (D := DG x21) (fun w1 w2 hs hr => RdG.same hs hr) hx hxf
 refine wl (all h hp zc76 fun a w3 g2 hg2 h hp => ?_)
 refine wl (sta h hp rfl rfl 2 rfl sz76 rfl rfl fun w4 hp => ?_)
 refine wn ?_
 refine rg ?_
 refine wvl h (fad h rfl fo76_5) fun a h => ?_
 refine wl (st1 h hp rfl rfl 2 rfl rfl sz3 rfl fun w5 hp => ?_)
 refine wvl h (fad h rfl fo76_6) fun a h => ?_
 refine wl (st1 h hp rfl rfl 2 rfl rfl sz3 rfl fun w6 hp => ?_)
 refine wn ?_
 refine rg ?_
 refine wvl h (ldO (us := [_, _, _, _, _, _, _, _, _, _, _]) h hp rfl 2 rfl sz76 rfl ag76) fun a h => ?_
 refine wl (sta h hp rfl rfl 0 rfl sz76 rfl rfl fun w7 hp => ?_)
 refine wn ?_
 refine wp_ret ?_
 try simp only [xqs]
 refine rt_1 h rfl (rvA h hp rfl 0 rfl ag76 sz76) ?_
 exact ⟨_, rfl, ⟨x21, rfl, (show RdG _ x21 Ecl.G from hp.fact (i := 1) rfl).of rfl rfl rfl rfl rfl, fun k hk => by have := (hp.at' (p := gE x21 Ecl.G) (by simp)).2.2 k hk; exact ⟨this.1, this.2.1⟩⟩, hp.bel⟩
theorem ok_G : isEngine Ecl.G = true := by decide +kernel
theorem ok_H : isEngine Ecl.H = true := by decide +kernel
theorem k_hands (x : EV) (w : World) (hG : RdG w x Ecl.G) : Ret Tryz.prog 32 #[.agg #[x.b.v, .int .i64 Ecl.G.nnum, .int .i64 Ecl.G.nden, .int .i64 Ecl.G.nstart, x.s.v, x.m.v, x.n.v, x.f.v, .int .i64 Ecl.G.new, .int .i64 Ecl.G.full, .int .i64 Ecl.G.wide], .slice none 0 0, .int .i64 15] w fun u w' => u = .tuple #[.agg #[.int .i64 900, .int .i64 12083, .int .i64 820], .int .i64 0] ∧ Below w.heap.size w w' := by
 have := Hands_s x Ecl.G ⟨none, 0, 0⟩ [] 15 w ⟨hG, Rd.nil, ok_G, rfl⟩ (by decide)
 simp only [g_hands] at this
 exact this
theorem k_off (x : EV) (w : World) (hG : RdG w x Ecl.G) : Ret Tryz.prog 34 #[.agg #[x.b.v, .int .i64 Ecl.G.nnum, .int .i64 Ecl.G.nden, .int .i64 Ecl.G.nstart, x.s.v, x.m.v, x.n.v, x.f.v, .int .i64 Ecl.G.new, .int .i64 Ecl.G.full, .int .i64 Ecl.G.wide], .slice none 0 0, .int .i64 15] w fun u w' => u = .tuple #[.agg #[.int .i64 0, .int .i64 83, .int .i64 0], .int .i64 0] ∧ Below w.heap.size w w' := by
 have := Off_s x Ecl.G ⟨none, 0, 0⟩ [] 15 w ⟨hG, Rd.nil, ok_G, rfl⟩ (by decide)
 simp only [g_off] at this
 exact this
theorem k_tell (x : EV) (w : World) (hG : RdG w x Ecl.G) : Ret Tryz.prog 35 #[.agg #[x.b.v, .int .i64 Ecl.G.nnum, .int .i64 Ecl.G.nden, .int .i64 Ecl.G.nstart, x.s.v, x.m.v, x.n.v, x.f.v, .int .i64 Ecl.G.new, .int .i64 Ecl.G.full, .int .i64 Ecl.G.wide], .slice none 0 0, .int .i64 1, .int .i64 44] w fun u w' => (∃ s : SV, u = .tuple #[s.v, .int .i64 0] ∧ Fr w w' encM 3 s.v ([⟨15, true, 463⟩, ⟨29, false, 1110⟩] : List Ecl.Mark)) ∧ Below w.heap.size w w' := by
 have := Foretells_s x Ecl.G ⟨none, 0, 0⟩ [] 1 44 w ⟨hG, Rd.nil, ok_G, rfl⟩ (by decide)
 rw [g_tell] at this
 exact this
theorem k_missed (x : EV) (w : World) (hG : RdG w x Ecl.G) : Ret Tryz.prog 36 #[.agg #[x.b.v, .int .i64 Ecl.G.nnum, .int .i64 Ecl.G.nden, .int .i64 Ecl.G.nstart, x.s.v, x.m.v, x.n.v, x.f.v, .int .i64 Ecl.G.new, .int .i64 Ecl.G.full, .int .i64 Ecl.G.wide], .slice none 0 0, .int .i64 1, .int .i64 44, .int .i64 0] w fun u w' => (∃ s : SV, u = .tuple #[s.v, .int .i64 0] ∧ Fr w w' encM 3 s.v ([⟨30, false, 1893⟩] : List Ecl.Mark)) ∧ Below w.heap.size w w' := by
 have := Missed_s x Ecl.G ⟨none, 0, 0⟩ [] 1 44 0 w ⟨hG, Rd.nil, ok_G, rfl⟩ (by decide)
 rw [g_missed] at this
 exact this
theorem k_within (x : EV) (w : World) (hG : RdG w x Ecl.G) : Ret Tryz.prog 37 #[.agg #[x.b.v, .int .i64 Ecl.G.nnum, .int .i64 Ecl.G.nden, .int .i64 Ecl.G.nstart, x.s.v, x.m.v, x.n.v, x.f.v, .int .i64 Ecl.G.new, .int .i64 Ecl.G.full, .int .i64 Ecl.G.wide], .slice none 0 0, .int .i64 1, .int .i64 44] w fun u w' => u = .tuple #[.int .i64 1, .int .i64 0] ∧ Below w.heap.size w w' := by
 have := Within_s x Ecl.G ⟨none, 0, 0⟩ [] 1 44 w ⟨hG, Rd.nil, ok_G, rfl⟩ (by decide)
 rw [g_within] at this
 exact this
theorem k_until (x : EV) (w : World) (hG : RdG w x Ecl.G) : Ret Tryz.prog 38 #[.agg #[x.b.v, .int .i64 Ecl.G.nnum, .int .i64 Ecl.G.nden, .int .i64 Ecl.G.nstart, x.s.v, x.m.v, x.n.v, x.f.v, .int .i64 Ecl.G.new, .int .i64 Ecl.G.full, .int .i64 Ecl.G.wide], .slice none 0 0, .int .i64 1, .int .i64 44, .int .i64 0] w fun u w' => u = .tuple #[.int .i64 29, .int .i64 0] ∧ Below w.heap.size w w' := by
 have := Until_s x Ecl.G ⟨none, 0, 0⟩ [] 1 44 0 w ⟨hG, Rd.nil, ok_G, rfl⟩ (by decide)
 rw [g_until] at this
 exact this
theorem k_widens (x : EV) (w : World) (hG : RdG w x Ecl.H) : Ret Tryz.prog 39 #[.agg #[x.b.v, .int .i64 Ecl.H.nnum, .int .i64 Ecl.H.nden, .int .i64 Ecl.H.nstart, x.s.v, x.m.v, x.n.v, x.f.v, .int .i64 Ecl.H.new, .int .i64 Ecl.H.full, .int .i64 Ecl.H.wide], .slice none 0 0, .int .i64 1, .int .i64 44, .int .i64 0] w fun u w' => u = .tuple #[.int .i64 150, .int .i64 0] ∧ Below w.heap.size w w' := by
 have := Widens_s x Ecl.H ⟨none, 0, 0⟩ [] 1 44 0 w ⟨hG, Rd.nil, ok_H, rfl⟩ (by decide)
 rw [g_widens] at this
 exact this
theorem k_settings (x : EV) (w : World) (hG : RdG w x Ecl.G) : Ret Tryz.prog 41 #[.agg #[x.b.v, .int .i64 Ecl.G.nnum, .int .i64 Ecl.G.nden, .int .i64 Ecl.G.nstart, x.s.v, x.m.v, x.n.v, x.f.v, .int .i64 Ecl.G.new, .int .i64 Ecl.G.full, .int .i64 Ecl.G.wide], .int .i64 1, .int .i64 44, .int .i64 0] w fun u w' => (∃ s : SV, u = .tuple #[s.v, .int .i64 0] ∧ Fr w w' encI 1 s.v ([0] : List Int)) ∧ Below w.heap.size w w' := by
 have := Settings_s x Ecl.G 1 44 0 w hG ok_G (by decide)
 rw [g_settings] at this
 exact this
theorem k_dark (s : SV) (w : World) (hR : Rd w encL 3 s.v ([⟨10, 0, 3⟩, ⟨20, 0, 4⟩, ⟨20, 8, 3⟩] : List Ball)) : Ret Tryz.prog 19 #[s.v] w fun u w' => (∃ s : SV, u = .tuple #[s.v, .int .i64 0] ∧ Fr w w' encI 1 s.v ([1, 3, 2] : List Int)) ∧ Below w.heap.size w w' := by
 refine (Dark_e s _ w hR).mono ?_
 rintro e w' ⟨u, rfl, h | h, hb⟩
 ·refine ⟨u, rfl, ?_, hb⟩
  have hd : dark ([⟨10, 0, 3⟩, ⟨20, 0, 4⟩, ⟨20, 8, 3⟩] : List Ball) = [1, 3, 2] := by decide
  rw [hd] at h
  exact h.2
 exact absurd h.1 (by decide)
theorem k_read (w : World) (hG : Glb w) : Ret Tryz.prog 13 #[.string (bs textK)] w fun u w' => (∃ s : SV, u = .tuple #[s.v, .int .i64 0] ∧ Fr w w' encM 3 s.v rowK) ∧ Below w.heap.size w w' := by
 have := Read_e textK w hG
 rw [read_K.1, read_K.2] at this
 exact this
set_option maxHeartbeats 4000000 in
theorem known_L  (w : World) (hGl : Glb w) : Ret Tryz.prog 10 #[] w fun u w' => u = .bool true ∧ Below w.heap.size w w' := by
 have hp : Hp c0 w w [] := Hp.start trivial
 refine enter Tryz.func10 rfl (N := 156) rfl rfl fun a h => ?_
 refine rg ?_
 refine wsn h rfl fun a h => ?_
 refine rg ?_
 refine wl (cal h rfl en33 (G_L _) fun u w1 ⟨⟨x20, e1, hx, hxf⟩, e2⟩ a h => ?_)
 subst e1
 have hp := hp.keepF (hp.below e2) (F := fun W => RdG W x20 Ecl.G) (D := DG x20) (fun w1 w2 hs hr => RdG.same hs hr) hx hxf
 refine wl (cal h rfl en32 (k_hands _ _ (show RdG _ x20 Ecl.G from hp.fact (i := 0) rfl)) fun u w2 ⟨e1, e2⟩ a h => ?_)
 subst e1
 have hp := hp.below e2
 refine wmv h rfl fun a h => ?_
 refine wvl h (ext h rfl rfl) fun a h => ?_
 refine wvl h (ext h rfl rfl) fun a h => ?_
 refine wl (all h hp zc63 fun a w3 g1 hg1 h hp => ?_)
 refine wl (sta h hp rfl rfl 1 rfl sz63 rfl rfl fun w4 hp => ?_)
 refine wsn h rfl fun a h => ?_
 refine rg ?_
 refine wl (cal h rfl en33 (G_L _) fun u w5 ⟨⟨x22, e1, hx, hxf⟩, e2⟩ a h => ?_)
 subst e1
 have hp := hp.keepF (hp.below e2) (F := fun W => RdG W x22 Ecl.G) (D := DG x22) (fun w1 w2 hs hr => RdG.same hs hr) hx hxf
 refine wl (cal h rfl en34 (k_off _ _ (show RdG _ x22 Ecl.G from hp.fact (i := 2) rfl)) fun u w6 ⟨e1, e2⟩ a h => ?_)
 subst e1
 have hp := hp.below e2
 refine wmv h rfl fun a h => ?_
 refine wvl h (ext h rfl rfl) fun a h => ?_
 refine wvl h (ext h rfl rfl) fun a h => ?_
 refine wl (all h hp zc63 fun a w7 g2 hg2 h hp => ?_)
 refine wl (sta h hp rfl rfl 3 rfl sz63 rfl rfl fun w8 hp => ?_)
 refine wsn h rfl fun a h => ?_
 refine rg ?_
 refine wl (cal h rfl en33 (G_L _) fun u w9 ⟨⟨x24, e1, hx, hxf⟩, e2⟩ a h => ?_)
 subst e1
 have hp := hp.keepF (hp.below e2) (F := fun W => RdG W x24 Ecl.G) (D := DG x24) (fun w1 w2 hs hr => RdG.same hs hr) hx hxf
 refine wl (cal h rfl en35 (k_tell _ _ (show RdG _ x24 Ecl.G from hp.fact (i := 4) rfl)) fun u w10 ⟨⟨s25, e1, hf⟩, e2⟩ a h => ?_)
 subst e1
 have hp := hp.got (hp.below e2) (by decide) hf
 refine wmv h rfl fun a h => ?_
 refine wvl h (ext h rfl rfl) fun a h => ?_
 refine wvl h (ext h rfl rfl) fun a h => ?_
 refine ws2 h rfl rfl rfl rfl fun a h => ?_
 refine rg ?_
 try simp only [List.nil_append, List.cons_append, List.set_cons_zero, List.set_cons_succ] at hp
 refine wl (cal h rfl en33 (G_L _) fun u w11 ⟨⟨x26, e1, hx, hxf⟩, e2⟩ a h => ?_)
 subst e1
 have hp := hp.keepF (hp.below e2) (F := fun W => RdG W x26 Ecl.G) (D := DG x26) (fun w1 w2 hs hr => RdG.same hs hr) hx hxf
 refine wl (cal h rfl en36 (k_missed _ _ (show RdG _ x26 Ecl.G from hp.fact (i := 6) rfl)) fun u w12 ⟨⟨s27, e1, hf⟩, e2⟩ a h => ?_)
 subst e1
 have hp := hp.got (hp.below e2) (by decide) hf
 refine wmv h rfl fun a h => ?_
 refine wvl h (ext h rfl rfl) fun a h => ?_
 refine wvl h (ext h rfl rfl) fun a h => ?_
 refine ws2 h rfl rfl rfl rfl fun a h => ?_
 refine rg ?_
 refine wl (cal h rfl en33 (G_L _) fun u w13 ⟨⟨x28, e1, hx, hxf⟩, e2⟩ a h => ?_)
 subst e1
 have hp := hp.keepF (hp.below e2) (F := fun W => RdG W x28 Ecl.G) (D := DG x28) (fun w1 w2 hs hr => RdG.same hs hr) hx hxf
 refine wl (cal h rfl en37 (k_within _ _ (show RdG _ x28 Ecl.G from hp.fact (i := 8) rfl)) fun u w14 ⟨e1, e2⟩ a h => ?_)
 subst e1
 have hp := hp.below e2
 refine wmv h rfl fun a h => ?_
 refine wvl h (ext h rfl rfl) fun a h => ?_
 refine wvl h (ext h rfl rfl) fun a h => ?_
 refine ws2 h rfl rfl rfl rfl fun a h => ?_
 refine rg ?_
 try simp only [List.nil_append, List.cons_append, List.set_cons_zero, List.set_cons_succ] at hp
 refine wl (cal h rfl en33 (G_L _) fun u w15 ⟨⟨x29, e1, hx, hxf⟩, e2⟩ a h => ?_)
 subst e1
 have hp := hp.keepF (hp.below e2) (F := fun W => RdG W x29 Ecl.G) (D := DG x29) (fun w1 w2 hs hr => RdG.same hs hr) hx hxf
 refine wl (cal h rfl en38 (k_until _ _ (show RdG _ x29 Ecl.G from hp.fact (i := 9) rfl)) fun u w16 ⟨e1, e2⟩ a h => ?_)
 subst e1
 have hp := hp.below e2
 refine wmv h rfl fun a h => ?_
 refine wvl h (ext h rfl rfl) fun a h => ?_
 refine wvl h (ext h rfl rfl) fun a h => ?_
 refine ws2 h rfl rfl rfl rfl fun a h => ?_
 refine rg ?_
 refine wl (cal h rfl en40 (H_L _) fun u w17 ⟨⟨x30, e1, hx, hxf⟩, e2⟩ a h => ?_)
 subst e1
 have hp := hp.keepF (hp.below e2) (F := fun W => RdG W x30 Ecl.H) (D := DG x30) (fun w1 w2 hs hr => RdG.same hs hr) hx hxf
 refine wl (cal h rfl en39 (k_widens _ _ (show RdG _ x30 Ecl.H from hp.fact (i := 10) rfl)) fun u w18 ⟨e1, e2⟩ a h => ?_)
 subst e1
 have hp := hp.below e2
 refine wmv h rfl fun a h => ?_
 refine wvl h (ext h rfl rfl) fun a h => ?_
 refine wvl h (ext h rfl rfl) fun a h => ?_
 refine ws2 h rfl rfl rfl rfl fun a h => ?_
 refine rg ?_
 try simp only [List.nil_append, List.cons_append, List.set_cons_zero, List.set_cons_succ] at hp
 refine wl (cal h rfl en33 (G_L _) fun u w19 ⟨⟨x31, e1, hx, hxf⟩, e2⟩ a h => ?_)
 subst e1
 have hp := hp.keepF (hp.below e2) (F := fun W => RdG W x31 Ecl.G) (D := DG x31) (fun w1 w2 hs hr => RdG.same hs hr) hx hxf
 refine wl (cal h rfl en41 (k_settings _ _ (show RdG _ x31 Ecl.G from hp.fact (i := 11) rfl)) fun u w20 ⟨⟨s32, e1, hf⟩, e2⟩ a h => ?_)
 subst e1
 have hp := hp.got (hp.below e2) (by decide) hf
 refine wmv h rfl fun a h => ?_
 refine wvl h (ext h rfl rfl) fun a h => ?_
 refine wvl h (ext h rfl rfl) fun a h => ?_
 refine ws2 h rfl rfl rfl rfl fun a h => ?_
 refine rg ?_
 refine wl (cal h rfl en42 (B_L _) fun u w21 ⟨⟨s33, e1, hf⟩, e2⟩ a h => ?_)
 subst e1
 have hp := hp.got (hp.below e2) (by decide) hf
 refine wl (cal h rfl en19 (k_dark _ _ (hp.rdF (i := 13) rfl)) fun u w22 ⟨⟨s34, e1, hf⟩, e2⟩ a h => ?_)
 subst e1
 have hp := hp.got (hp.below e2) (by decide) hf
 refine wmv h rfl fun a h => ?_
 refine wvl h (ext h rfl rfl) fun a h => ?_
 refine wvl h (ext h rfl rfl) fun a h => ?_
 refine ws2 h rfl rfl rfl rfl fun a h => ?_
 refine rg ?_
 try simp only [List.nil_append, List.cons_append, List.set_cons_zero, List.set_cons_succ] at hp
 refine wl (cal h rfl en13 (k_read _ (hGl.keep hp)) fun u w23 ⟨⟨s35, e1, hf⟩, e2⟩ a h => ?_)
 subst e1
 have hp := hp.got (hp.below e2) (by decide) hf
 refine wmv h rfl fun a h => ?_
 refine wvl h (ext h rfl rfl) fun a h => ?_
 refine wvl h (ext h rfl rfl) fun a h => ?_
 refine ws2 h rfl rfl rfl rfl fun a h => ?_
 refine wp_seq ?_
 refine rg ?_
 try simp only [List.nil_append, List.cons_append, List.set_cons_zero, List.set_cons_succ] at hp
 refine wmv h rfl fun a h => ?_
 refine wvl h (nei h rfl rfl) fun a h => ?_
 refine wmv h rfl fun a h => ?_
 refine split (t := 72) h rfl (fun hb1 => ?_) (fun hb1 => ?_)
 ·exact absurd hb1 (by decide)
 refine wl (stp_on h rfl rfl rfl hb1 (vl h (mov h rfl) fun a h => ?_))
 refine wl (stp_on h rfl rfl rfl hb1 (vl h (nei h rfl rfl) fun a h => ?_))
 refine wvl h (pckF h rfl hb1 rfl) fun a h => ?_
 refine wmv h rfl fun a h => ?_
 refine split (t := 76) h rfl (fun hb2 => ?_) (fun hb2 => ?_)
 ·exact absurd hb2 (by decide)
 refine wl (stp_on h rfl rfl rfl hb2 (vl h (mov h rfl) fun a h => ?_))
 refine wl (stp_on h rfl rfl rfl hb2 (vl h (nei h rfl rfl) fun a h => ?_))
 refine wvl h (pckF h rfl hb2 rfl) fun a h => ?_
 refine wmv h rfl fun a h => ?_
 refine split (t := 80) h rfl (fun hb3 => ?_) (fun hb3 => ?_)
 ·exact absurd hb3 (by decide)
 refine wl (stp_on h rfl rfl rfl hb3 (vl h (mov h rfl) fun a h => ?_))
 refine wl (stp_on h rfl rfl rfl hb3 (vl h (nei h rfl rfl) fun a h => ?_))
 refine wvl h (pckF h rfl hb3 rfl) fun a h => ?_
 refine wmv h rfl fun a h => ?_
 refine split (t := 84) h rfl (fun hb4 => ?_) (fun hb4 => ?_)
 ·exact absurd hb4 (by decide)
 refine wl (stp_on h rfl rfl rfl hb4 (vl h (mov h rfl) fun a h => ?_))
 refine wl (stp_on h rfl rfl rfl hb4 (vl h (nei h rfl rfl) fun a h => ?_))
 refine wvl h (pckF h rfl hb4 rfl) fun a h => ?_
 refine wmv h rfl fun a h => ?_
 refine split (t := 88) h rfl (fun hb5 => ?_) (fun hb5 => ?_)
 ·exact absurd hb5 (by decide)
 refine wl (stp_on h rfl rfl rfl hb5 (vl h (mov h rfl) fun a h => ?_))
 refine wl (stp_on h rfl rfl rfl hb5 (vl h (nei h rfl rfl) fun a h => ?_))
 refine wvl h (pckF h rfl hb5 rfl) fun a h => ?_
 refine wmv h rfl fun a h => ?_
 refine split (t := 92) h rfl (fun hb6 => ?_) (fun hb6 => ?_)
 ·exact absurd hb6 (by decide)
 refine wl (stp_on h rfl rfl rfl hb6 (vl h (mov h rfl) fun a h => ?_))
 refine wl (stp_on h rfl rfl rfl hb6 (vl h (nei h rfl rfl) fun a h => ?_))
 refine wvl h (pckF h rfl hb6 rfl) fun a h => ?_
 refine wmv h rfl fun a h => ?_
 refine split (t := 96) h rfl (fun hb7 => ?_) (fun hb7 => ?_)
 ·exact absurd hb7 (by decide)
 refine wl (stp_on h rfl rfl rfl hb7 (vl h (mov h rfl) fun a h => ?_))
 refine wl (stp_on h rfl rfl rfl hb7 (vl h (nei h rfl rfl) fun a h => ?_))
 refine wvl h (pckF h rfl hb7 rfl) fun a h => ?_
 refine wmv h rfl fun a h => ?_
 refine split (t := 100) h rfl (fun hb8 => ?_) (fun hb8 => ?_)
 ·exact absurd hb8 (by decide)
 refine wl (stp_on h rfl rfl rfl hb8 (vl h (mov h rfl) fun a h => ?_))
 refine wl (stp_on h rfl rfl rfl hb8 (vl h (nei h rfl rfl) fun a h => ?_))
 refine wvl h (pckF h rfl hb8 rfl) fun a h => ?_
 refine wmv h rfl fun a h => ?_
 refine split (t := 104) h rfl (fun hb9 => ?_) (fun hb9 => ?_)
 ·exact absurd hb9 (by decide)
 refine wl (stp_on h rfl rfl rfl hb9 (vl h (mov h rfl) fun a h => ?_))
 refine wl (stp_on h rfl rfl rfl hb9 (vl h (nei h rfl rfl) fun a h => ?_))
 refine wvl h (pckF h rfl hb9 rfl) fun a h => ?_
 refine wn ?_
 refine cnd1 h rfl (fun hb10 => ?_) (fun hb10 => ?_)
 ·exact absurd hb10 (by decide)
 refine skp ?_
 refine wp_seq ?_
 refine rg ?_
 try simp only [List.nil_append, List.cons_append, List.set_cons_zero, List.set_cons_succ] at hp
 refine wvl h (ldO (us := [_, _, _]) h hp rfl 1 rfl sz63 rfl ag63) fun a h => ?_
 refine wvl h (bld h rfl (bl63_0_1_2 _ _ _ _)) fun a h => ?_
 refine wvl h (neS h rfl rfl (by kernel_rfl) (eqs63 _ _ _ _ _ _)) fun a h => ?_
 refine wmv h rfl fun a h => ?_
 refine split (t := 111) h rfl (fun hb11 => ?_) (fun hb11 => ?_)
 ·exact absurd hb11 (by decide)
 refine wl (stp_on h rfl rfl rfl hb11 (vl h (ldO (us := [_, _, _]) h hp rfl 3 rfl sz63 rfl ag63) fun a h => ?_))
 refine wl (stp_on h rfl rfl rfl hb11 (vl h (bld h rfl (bl63_1 _ _)) fun a h => ?_))
 refine wl (stp_on h rfl rfl rfl hb11 (vl h (neS h rfl rfl (by kernel_rfl) (eqs63 _ _ _ _ _ _)) fun a h => ?_))
 refine wvl h (pckF h rfl hb11 rfl) fun a h => ?_
 refine wmv h rfl fun a h => ?_
 refine split (t := 116) h rfl (fun hb12 => ?_) (fun hb12 => ?_)
 ·exact absurd hb12 (by decide)
 refine wl (stp_on h rfl rfl rfl hb12 (vl h (mov h rfl) fun a h => ?_))
 refine wl (stp_on h rfl rfl rfl hb12 (vl h (bld h rfl (bl87_0_1_2 _ _ _ _)) fun a h => ?_))
 refine wl (stp_on h rfl rfl rfl hb12 (vl h (bld h rfl (bl87_0_2 _ _ _)) fun a h => ?_))
 refine wl (stp_on h rfl rfl rfl hb12 (bsl h hp rfl (bs22_2_0_1 _ _ _ _ _ _) fun a w24 g3 hg3 h hp => ?_))
 refine wl (stp_on h rfl rfl rfl hb12 (cal h rfl en15 (SameEclipses_S _ ⟨some ⟨g3, 0, none⟩, 2, 2⟩ _ _ _ (hp.rdF (i := 5) rfl) (hp.rdA (i := 16) ([⟨15, true, 463⟩, ⟨29, false, 1110⟩] : List Ecl.Mark) rfl rfl rfl (Nat.le_refl _) (show 2 ≤ 9223372036854775807 by decide) (fun _ _ => rfl))) fun u w25 ⟨e1, e2⟩ a h => ?_))
 subst e1
 have hp := hp.below e2
 try simp only [List.nil_append, List.cons_append, List.set_cons_zero, List.set_cons_succ] at hp
 refine wl (stp_on h rfl rfl rfl hb12 (vl h (not_ h rfl) fun a h => ?_))
 refine wvl h (pckF h rfl hb12 rfl) fun a h => ?_
 refine wmv h rfl fun a h => ?_
 refine split (t := 124) h rfl (fun hb13 => ?_) (fun hb13 => ?_)
 ·exact absurd hb13 (by decide)
 refine wl (stp_on h rfl rfl rfl hb13 (vl h (mov h rfl) fun a h => ?_))
 refine wl (stp_on h rfl rfl rfl hb13 (vl h (bld h rfl (bl87_0_2 _ _ _)) fun a h => ?_))
 refine wl (stp_on h rfl rfl rfl hb13 (bsl h hp rfl (bs22_1_0 _ _ _) fun a w26 g4 hg4 h hp => ?_))
 refine wl (stp_on h rfl rfl rfl hb13 (cal h rfl en15 (SameEclipses_S _ ⟨some ⟨g4, 0, none⟩, 1, 1⟩ _ _ _ (hp.rdF (i := 7) rfl) (hp.rdA (i := 17) ([⟨30, false, 1893⟩] : List Ecl.Mark) rfl rfl rfl (Nat.le_refl _) (show 1 ≤ 9223372036854775807 by decide) (fun _ _ => rfl))) fun u w27 ⟨e1, e2⟩ a h => ?_))
 subst e1
 have hp := hp.below e2
 refine wl (stp_on h rfl rfl rfl hb13 (vl h (not_ h rfl) fun a h => ?_))
 refine wvl h (pckF h rfl hb13 rfl) fun a h => ?_
 refine wn ?_
 refine cnd1 h rfl (fun hb14 => ?_) (fun hb14 => ?_)
 ·exact absurd hb14 (by decide)
 refine skp ?_
 refine rg ?_
 try simp only [List.nil_append, List.cons_append, List.set_cons_zero, List.set_cons_succ] at hp
 refine wmv h rfl fun a h => ?_
 refine wvl h (eqi h rfl rfl) fun a h => ?_
 refine wmv h rfl fun a h => ?_
 refine split (t := 133) h rfl (fun hb15 => ?_) (fun hb15 => ?_)
 ·refine wl (stp_on h rfl rfl rfl hb15 (vl h (mov h rfl) fun a h => ?_))
  refine wl (stp_on h rfl rfl rfl hb15 (vl h (eqi h rfl rfl) fun a h => ?_))
  refine wvl h (pckT h rfl hb15 rfl) fun a h => ?_
  refine wmv h rfl fun a h => ?_
  refine split (t := 137) h rfl (fun hb16 => ?_) (fun hb16 => ?_)
  ·refine wl (stp_on h rfl rfl rfl hb16 (vl h (mov h rfl) fun a h => ?_))
   refine wl (stp_on h rfl rfl rfl hb16 (vl h (eqi h rfl rfl) fun a h => ?_))
   refine wvl h (pckT h rfl hb16 rfl) fun a h => ?_
   refine wmv h rfl fun a h => ?_
   refine split (t := 141) h rfl (fun hb17 => ?_) (fun hb17 => ?_)
   ·refine wl (stp_on h rfl rfl rfl hb17 (vl h (mov h rfl) fun a h => ?_))
    refine wl (stp_on h rfl rfl rfl hb17 (bsl h hp rfl (bs74_1_0 _) fun a w28 g5 hg5 h hp => ?_))
    refine wl (stp_on h rfl rfl rfl hb17 (cal h rfl en43 (Same_S _ ⟨some ⟨g5, 0, none⟩, 1, 1⟩ _ _ _ (hp.rdF (i := 12) rfl) (hp.rdA (i := 18) ([0] : List Int) rfl rfl rfl (Nat.le_refl _) (show 1 ≤ 9223372036854775807 by decide) (fun _ _ => rfl))) fun u w29 ⟨e1, e2⟩ a h => ?_))
    subst e1
    have hp := hp.below e2
    refine wvl h (pckT h rfl hb17 rfl) fun a h => ?_
    refine wmv h rfl fun a h => ?_
    refine split (t := 146) h rfl (fun hb18 => ?_) (fun hb18 => ?_)
    ·refine wl (stp_on h rfl rfl rfl hb18 (vl h (mov h rfl) fun a h => ?_))
     refine wl (stp_on h rfl rfl rfl hb18 (bsl h hp rfl (bs42_3_0_1_2 _ _ _) fun a w30 g6 hg6 h hp => ?_))
     refine wl (stp_on h rfl rfl rfl hb18 (cal h rfl en21 (SameWords_R _ ⟨some ⟨g6, 0, none⟩, 3, 3⟩ _ _ _ (hp.rdF (i := 14) rfl) (hp.rdA (i := 19) ([1, 3, 2] : List Int) rfl rfl rfl (Nat.le_refl _) (show 3 ≤ 9223372036854775807 by decide) (fun _ _ => rfl))) fun u w31 ⟨e1, e2⟩ a h => ?_))
     subst e1
     have hp := hp.below e2
     refine wvl h (pckT h rfl hb18 rfl) fun a h => ?_
     refine wmv h rfl fun a h => ?_
     refine split (t := 151) h rfl (fun hb19 => ?_) (fun hb19 => ?_)
     ·refine wl (stp_on h rfl rfl rfl hb19 (vl h (mov h rfl) fun a h => ?_))
      refine wl (stp_on h rfl rfl rfl hb19 (cal h rfl en14 (Print_R _ rowK _ (hp.rdF (i := 15) rfl) ⟨by decide, by decide⟩) fun u w32 ⟨e1, e2⟩ a h => ?_))
      subst e1
      have hp := hp.below e2
      refine wl (stp_on h rfl rfl rfl hb19 (vl h (seB h rfl rfl) fun a h => ?_))
      refine wvl h (pckT h rfl hb19 rfl) fun a h => ?_
      refine wsn h rfl fun a h => ?_
      refine wp_ret ?_
      try simp only [xqs]
      refine rt_1 h rfl (rvT h rfl) ?_
      exact ⟨_, rfl, by rw [text_K]; rfl, hp.bel⟩
     exact absurd hb19 (by decide)
    exact absurd hb18 (by decide)
   exact absurd hb17 (by decide)
  exact absurd hb16 (by decide)
 exact absurd hb15 (by decide)
end Go.Proofs.Ec
