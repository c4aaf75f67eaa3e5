import Derived.Test.YtepjdckdhddfbaaGreatDoorProg
import Derived.Test.YtepjdckdhddfbaaGreatDoorPFa
import Derived.Test.YtepjdckdhddfbaaGreatDoorPQb
import Derived.Test.YtepjdckdhddfbaaGreatDoorPQc
import Derived.Test.YtepjdckdhddfbaaGreatDoorPW6
set_option linter.unusedVariables false
set_option linter.unusedSimpArgs false
set_option maxRecDepth 4000
namespace Go.Proofs.Ec
open Go.RowKit Go.Proofs.Sx
open Ecl
theorem around_e (n : Int) (w : World) (hn : -9000000000000000000 ≤ n ∧ n ≤ 9000000000000000000) : Ret Tryz.prog 105 #[.int .i64 n] w fun u w1 => u = .int .i64 (around n) ∧ w1 = w := by
 refine enter Tryz.func105 rfl (N := 7) rfl rfl fun a h => ?_
 refine rg ?_
 refine wsn h rfl fun a h => ?_
 refine rg ?_
 refine wmv h rfl fun a h => ?_
 refine wvl h (rem h rfl rfl (by omega)) fun a h => ?_
 have hm := tmod_lo n
 refine wvl h (add h rfl rfl (by omega)) fun a h => ?_
 refine wvl h (rem0 h rfl rfl (by omega) (by omega)) fun a h => ?_
 refine wsn h rfl fun a h => ?_
 refine wp_ret ?_
 try simp only [xqs]
 refine rt_1 h rfl (rvT h rfl) ?_
 exact ⟨_, rfl, by rw [around_go], rfl⟩
theorem signed_e (n : Int) (w : World) (hn : -8000000000000000000 ≤ n ∧ n ≤ 8000000000000000000) : Ret Tryz.prog 68 #[.int .i64 n] w fun u w1 => u = .int .i64 (signed n) ∧ w1 = w := by
 refine enter Tryz.func68 rfl (N := 7) rfl rfl fun a h => ?_
 refine rg ?_
 refine wsn h rfl fun a h => ?_
 refine rg ?_
 refine wmv h rfl fun a h => ?_
 refine wvl h (add h rfl rfl (by omega)) fun a h => ?_
 refine wl (cal h rfl en105 (around_e _ _ (by omega)) fun u w1 ⟨e1, e2⟩ a h => ?_)
 subst e1
 subst e2
 have hm := around_bd (n + 10800)
 refine wvl h (sub h rfl rfl (by omega)) fun a h => ?_
 refine wsn h rfl fun a h => ?_
 refine wp_ret ?_
 try simp only [xqs]
 refine rt_1 h rfl (rvT h rfl) ?_
 exact ⟨_, rfl, rfl, rfl⟩
theorem shown_e (x : EV) (e : Eng) (s2 : SV) (st : List Int) (b : Nat) (s : SV) (l : List (Int × Int)) (pn pd t : Int) (w : World) (hE0 : RdE w x e s2 st) (hR : Rd w encP 2 s.v l) (hT : isTrain l = true) (hfr : (inR pd 0 50000 && inR pn 1 50000) = true) (ht : 0 ≤ t ∧ t ≤ 10000) : Ret Tryz.prog 119 #[.agg #[x.b.v, .int .i64 e.nnum, .int .i64 e.nden, .int .i64 e.nstart, x.s.v, x.m.v, x.n.v, x.f.v, .int .i64 e.new, .int .i64 e.full, .int .i64 e.wide, s2.v, .map (some b)], s.v, .agg #[.int .i64 pn, .int .i64 pd], .int .i64 t] w fun u w' => u = .int .i64 (shown l pd pn e.feasts st t) ∧ Below w.heap.size w w' := by
 have ok := eng_ok hE0.ok
 have hfe := ok.feasts
 have hset := isSet_rise hE0.set
 have ht2 : inR t 0 10000 = true := by simp only [inR, Bool.and_eq_true, decide_eq_true_eq]; omega
 have hp : Hp c0 w w [] := Hp.start trivial
 refine enter Tryz.func119 rfl (N := 28) rfl rfl fun a h => ?_
 refine rg ?_
 refine wl (box (cs := #[_, _, _, _, _, _, _, _, _, _, _, _, _]) h hp rfl rfl fun a w1 g1 hg1 h hp => ?_)
 refine wl (box (cs := #[_, _]) h hp rfl rfl fun a w2 g2 hg2 h hp => ?_)
 refine wsn h rfl fun a h => ?_
 refine rg ?_
 refine wmv h rfl fun a h => ?_
 refine wvl h (fad h rfl fo68_1) fun a h => ?_
 refine wvl h (ldo h hp rfl 1 rfl rfl ag3) fun a h => ?_
 refine wvl h (fad h rfl fo68_0) fun a h => ?_
 refine wvl h (ldo h hp rfl 1 rfl rfl ag3) fun a h => ?_
 refine wvl h (bld h rfl (bl169_0_1 _ _ _)) fun a h => ?_
 refine wvl h (fad h rfl fo105_0) fun a h => ?_
 refine wvl h (fad h rfl fo76_4) fun a h => ?_
 refine wvl h (ldo h hp rfl 0 rfl rfl ag74) fun a h => ?_
 refine wvl h (fad h rfl fo105_1) fun a h => ?_
 refine wvl h (ldo h hp rfl 0 rfl rfl ag74) fun a h => ?_
 refine wmv h rfl fun a h => ?_
 refine wl (cal h rfl en146 (Shown_t _ _ _ _ _ _ _ _ _ _ (hR.keep (by decide) hp cl0) (hE0.keep hp cl0).g.f (hE0.keep hp cl0).s (by assumption) (by assumption) (by assumption) (by assumption) (by assumption)) fun u w3 ⟨e1, e2⟩ a h => ?_)
 subst e1
 have hp := hp.below e2
 refine wmv h rfl fun a h => ?_
 refine wvl h (ext h rfl rfl) fun a h => ?_
 refine wvl h (ext h rfl rfl) fun a h => ?_
 refine ws2 h rfl rfl rfl rfl fun a h => ?_
 refine rg ?_
 refine wmv h rfl fun a h => ?_
 refine wsn h rfl fun a h => ?_
 refine wp_ret ?_
 try simp only [xqs]
 refine rt_1 h rfl (rvT h rfl) ?_
 exact ⟨_, rfl, rfl, hp.ext.below⟩
theorem sun_e (x : EV) (e : Eng) (s2 : SV) (st : List Int) (b : Nat) (t : Int) (w : World) (hE0 : RdE w x e s2 st) (ht : 0 ≤ t ∧ t ≤ 10000) : Ret Tryz.prog 96 #[.agg #[x.b.v, .int .i64 e.nnum, .int .i64 e.nden, .int .i64 e.nstart, x.s.v, x.m.v, x.n.v, x.f.v, .int .i64 e.new, .int .i64 e.full, .int .i64 e.wide, s2.v, .map (some b)], .int .i64 t] w fun u w' => u = .int .i64 (hands e st t).sun ∧ Below w.heap.size w w' := by
 have ok := eng_ok hE0.ok
 obtain ⟨hbl, b0, b1, hb0, hb1, e0, e1, v0, v1⟩ := sky2 hE0.g.sky ok.sky
 obtain ⟨k1, k2, k3, k4, k5, k6⟩ := body_bd v0
 have hfr := period_fr k1 k2
 have hsh := shown_bd ok.sun (fn := b0.1.den) (fd := b0.1.num) (by omega) e.feasts st t
 have hcl : Cl c0 w := cl0
 have hp : Hp c0 w w [] := Hp.start trivial
 refine enter Tryz.func96 rfl (N := 24) rfl rfl fun a h => ?_
 refine rg ?_
 refine wl (box (cs := #[_, _, _, _, _, _, _, _, _, _, _, _, _]) h hp rfl rfl fun a w1 g1 hg1 h hp => ?_)
 refine wsn h rfl fun a h => ?_
 refine rg ?_
 refine wvl h (fad h rfl fo105_0) fun a h => ?_
 refine wvl h (fad h rfl fo76_0) fun a h => ?_
 refine wvl h (fad h rfl fo72_0) fun a h => ?_
 refine wvl h (ldo h hp rfl 0 rfl rfl ag66) fun a h => ?_
 refine wvl h (iadR (0) h rfl rfl Tryz.underlying66 sz110 (hE0.keep hp hcl).g.sky.b (rfl) (by omega)) fun a h => ?_
 refine wvl h (ldE h (hE0.keep hp hcl).g.sky.b hb0 rfl ag110 sz110) fun a h => ?_
 refine wl (all h hp zc110 fun a w2 g2 hg2 h hp => ?_)
 refine wl (sta h hp rfl rfl 1 rfl sz110 rfl rfl fun w3 hp => ?_)
 refine wn ?_
 refine rdh (n := 13) hp mixed rfl ?_
 have hp := hp.drew
 refine tkq 0 h rfl hp (fun W _ => fad h rfl fo110_1) fun a h => ?_
 refine tkq 1 h rfl hp (fun W hp => ldo h hp rfl 1 rfl rfl ag3) fun a h => ?_
 refine tkq 2 h rfl hp (fun W hp => ldO (us := [_, _, _, _, _, _, _, _, _, _, _, _, _]) h hp rfl 0 rfl sz105 rfl ag105) fun a h => ?_
 refine tkq 3 h rfl hp (fun W _ => fad h rfl fo105_0) fun a h => ?_
 refine tkq 4 h rfl hp (fun W _ => fad h rfl fo76_1) fun a h => ?_
 refine tkq 5 h rfl hp (fun W hp => ldo h hp rfl 0 rfl rfl ag73) fun a h => ?_
 refine tkq 6 h rfl hp (fun W _ => fad h rfl fo110_0) fun a h => ?_
 refine tkq 7 h rfl hp (fun W hp => ldO (us := [_, _]) h hp rfl 1 rfl sz68 rfl ag68) fun a h => ?_
 refine tkm 8 h rfl hp rfl fun a h => ?_
 refine one 9 (by kernel_rfl) rfl (cal h rfl en119 (shown_e x e s2 st b _ _ _ _ _ _ (by first | exact hE0.keep hp hcl | exact (hE0.keep hp hcl)) (hE0.keep hp hcl).g.s ok.sun hfr ht) fun u w4 ⟨e1, e2⟩ a h => ⟨hp.below e2, ?_⟩)
 subst e1
 have hp := hp.below e2
 refine tkq 10 h rfl hp (fun W _ => add h rfl rfl (by omega)) fun a h => ?_
 refine one 11 (by kernel_rfl) rfl (cal h rfl en105 (around_e _ _ (by omega)) fun u w5 ⟨e1, e2⟩ a h => ⟨e2 ▸ hp, ?_⟩)
 subst e1
 subst e2
 refine tka 12 h rfl hp rfl fun a h => ?_
 refine dn (by kernel_rfl) ?_
 refine wp_ret ?_
 try simp only [xqs]
 refine rt_1 h rfl (rvT h rfl) ?_
 exact ⟨_, rfl, by rw [hands, e0], hp.bel⟩
theorem moon_e (x : EV) (e : Eng) (s2 : SV) (st : List Int) (b : Nat) (t : Int) (w : World) (hE0 : RdE w x e s2 st) (ht : 0 ≤ t ∧ t ≤ 10000) : Ret Tryz.prog 97 #[.agg #[x.b.v, .int .i64 e.nnum, .int .i64 e.nden, .int .i64 e.nstart, x.s.v, x.m.v, x.n.v, x.f.v, .int .i64 e.new, .int .i64 e.full, .int .i64 e.wide, s2.v, .map (some b)], .int .i64 t] w fun u w' => u = .int .i64 (hands e st t).moon ∧ Below w.heap.size w w' := by
 have ok := eng_ok hE0.ok
 obtain ⟨hbl, b0, b1, hb0, hb1, e0, e1, v0, v1⟩ := sky2 hE0.g.sky ok.sky
 obtain ⟨k1, k2, k3, k4, k5, k6⟩ := body_bd v1
 have hfr := period_fr k1 k2
 have hsh := shown_bd ok.moon (fn := b1.1.den) (fd := b1.1.num) (by omega) e.feasts st t
 have hcl : Cl c0 w := cl0
 have hp : Hp c0 w w [] := Hp.start trivial
 refine enter Tryz.func97 rfl (N := 24) rfl rfl fun a h => ?_
 refine rg ?_
 refine wl (box (cs := #[_, _, _, _, _, _, _, _, _, _, _, _, _]) h hp rfl rfl fun a w1 g1 hg1 h hp => ?_)
 refine wsn h rfl fun a h => ?_
 refine rg ?_
 refine wvl h (fad h rfl fo105_0) fun a h => ?_
 refine wvl h (fad h rfl fo76_0) fun a h => ?_
 refine wvl h (fad h rfl fo72_0) fun a h => ?_
 refine wvl h (ldo h hp rfl 0 rfl rfl ag66) fun a h => ?_
 refine wvl h (iadR (1) h rfl rfl Tryz.underlying66 sz110 (hE0.keep hp hcl).g.sky.b (rfl) (by omega)) fun a h => ?_
 refine wvl h (ldE h (hE0.keep hp hcl).g.sky.b hb1 rfl ag110 sz110) fun a h => ?_
 refine wl (all h hp zc110 fun a w2 g2 hg2 h hp => ?_)
 refine wl (sta h hp rfl rfl 1 rfl sz110 rfl rfl fun w3 hp => ?_)
 refine wn ?_
 refine rdh (n := 13) hp mixed rfl ?_
 have hp := hp.drew
 refine tkq 0 h rfl hp (fun W _ => fad h rfl fo110_1) fun a h => ?_
 refine tkq 1 h rfl hp (fun W hp => ldo h hp rfl 1 rfl rfl ag3) fun a h => ?_
 refine tkq 2 h rfl hp (fun W hp => ldO (us := [_, _, _, _, _, _, _, _, _, _, _, _, _]) h hp rfl 0 rfl sz105 rfl ag105) fun a h => ?_
 refine tkq 3 h rfl hp (fun W _ => fad h rfl fo105_0) fun a h => ?_
 refine tkq 4 h rfl hp (fun W _ => fad h rfl fo76_2) fun a h => ?_
 refine tkq 5 h rfl hp (fun W hp => ldo h hp rfl 0 rfl rfl ag73) fun a h => ?_
 refine tkq 6 h rfl hp (fun W _ => fad h rfl fo110_0) fun a h => ?_
 refine tkq 7 h rfl hp (fun W hp => ldO (us := [_, _]) h hp rfl 1 rfl sz68 rfl ag68) fun a h => ?_
 refine tkm 8 h rfl hp rfl fun a h => ?_
 refine one 9 (by kernel_rfl) rfl (cal h rfl en119 (shown_e x e s2 st b _ _ _ _ _ _ (by first | exact hE0.keep hp hcl | exact (hE0.keep hp hcl)) (hE0.keep hp hcl).g.m ok.moon hfr ht) fun u w4 ⟨e1, e2⟩ a h => ⟨hp.below e2, ?_⟩)
 subst e1
 have hp := hp.below e2
 refine tkq 10 h rfl hp (fun W _ => add h rfl rfl (by omega)) fun a h => ?_
 refine one 11 (by kernel_rfl) rfl (cal h rfl en105 (around_e _ _ (by omega)) fun u w5 ⟨e1, e2⟩ a h => ⟨e2 ▸ hp, ?_⟩)
 subst e1
 subst e2
 refine tka 12 h rfl hp rfl fun a h => ?_
 refine dn (by kernel_rfl) ?_
 refine wp_ret ?_
 try simp only [xqs]
 refine rt_1 h rfl (rvT h rfl) ?_
 exact ⟨_, rfl, by rw [hands, e1], hp.bel⟩
theorem node_e (x : EV) (e : Eng) (s2 : SV) (st : List Int) (b : Nat) (t : Int) (w : World) (hE0 : RdE w x e s2 st) (ht : 0 ≤ t ∧ t ≤ 10000) : Ret Tryz.prog 98 #[.agg #[x.b.v, .int .i64 e.nnum, .int .i64 e.nden, .int .i64 e.nstart, x.s.v, x.m.v, x.n.v, x.f.v, .int .i64 e.new, .int .i64 e.full, .int .i64 e.wide, s2.v, .map (some b)], .int .i64 t] w fun u w' => u = .int .i64 (hands e st t).node ∧ Below w.heap.size w w' := by
 have ok := eng_ok hE0.ok
 obtain ⟨k1, k2, k3, -⟩ := sky_bd ok.sky
 have hfr := period_fr k1 k2
 have hsh := shown_bd ok.node (fn := e.nden) (fd := e.nnum) (by omega) e.feasts st t
 have hcl : Cl c0 w := cl0
 have hp : Hp c0 w w [] := Hp.start trivial
 refine enter Tryz.func98 rfl (N := 23) rfl rfl fun a h => ?_
 refine rg ?_
 refine wl (box (cs := #[_, _, _, _, _, _, _, _, _, _, _, _, _]) h hp rfl rfl fun a w1 g1 hg1 h hp => ?_)
 refine wsn h rfl fun a h => ?_
 refine rdh (n := 19) hp mixed rfl ?_
 have hp := hp.drew
 refine tkq 0 h rfl hp (fun W _ => fad h rfl fo105_0) fun a h => ?_
 refine tkq 1 h rfl hp (fun W _ => fad h rfl fo76_0) fun a h => ?_
 refine tkq 2 h rfl hp (fun W _ => fad h rfl fo72_1) fun a h => ?_
 refine tkq 3 h rfl hp (fun W _ => fad h rfl fo70_1) fun a h => ?_
 refine tkq 4 h rfl hp (fun W hp => ldo h hp rfl 0 rfl rfl ag3) fun a h => ?_
 refine tkq 5 h rfl hp (fun W hp => ldO (us := [_, _, _, _, _, _, _, _, _, _, _, _, _]) h hp rfl 0 rfl sz105 rfl ag105) fun a h => ?_
 refine tkq 6 h rfl hp (fun W _ => fad h rfl fo105_0) fun a h => ?_
 refine tkq 7 h rfl hp (fun W _ => fad h rfl fo76_3) fun a h => ?_
 refine tkq 8 h rfl hp (fun W hp => ldo h hp rfl 0 rfl rfl ag73) fun a h => ?_
 refine tkq 9 h rfl hp (fun W _ => fad h rfl fo105_0) fun a h => ?_
 refine tkq 10 h rfl hp (fun W _ => fad h rfl fo76_0) fun a h => ?_
 refine tkq 11 h rfl hp (fun W _ => fad h rfl fo72_1) fun a h => ?_
 refine tkq 12 h rfl hp (fun W _ => fad h rfl fo70_0) fun a h => ?_
 refine tkq 13 h rfl hp (fun W hp => ldO (us := [_, _]) h hp rfl 0 rfl sz68 rfl ag68) fun a h => ?_
 refine tkm 14 h rfl hp rfl fun a h => ?_
 refine one 15 (by kernel_rfl) rfl (cal h rfl en119 (shown_e x e s2 st b _ _ _ _ _ _ (by first | exact hE0.keep hp hcl | exact (hE0.keep hp hcl)) (hE0.keep hp hcl).g.n ok.node hfr ht) fun u w2 ⟨e1, e2⟩ a h => ⟨hp.below e2, ?_⟩)
 subst e1
 have hp := hp.below e2
 refine tkq 16 h rfl hp (fun W _ => sub h rfl rfl (by omega)) fun a h => ?_
 refine one 17 (by kernel_rfl) rfl (cal h rfl en105 (around_e _ _ (by omega)) fun u w3 ⟨e1, e2⟩ a h => ⟨e2 ▸ hp, ?_⟩)
 subst e1
 subst e2
 refine tka 18 h rfl hp rfl fun a h => ?_
 refine dn (by kernel_rfl) ?_
 refine wp_ret ?_
 try simp only [xqs]
 refine rt_1 h rfl (rvT h rfl) ?_
 exact ⟨_, rfl, rfl, hp.bel⟩
theorem at_e (x : EV) (e : Eng) (s2 : SV) (st : List Int) (b : Nat) (t : Int) (w : World) (hE0 : RdE w x e s2 st) (hM : mapAt (hE e st) b w) (ht : 0 ≤ t ∧ t ≤ 10000) : Ret Tryz.prog 64 #[.agg #[x.b.v, .int .i64 e.nnum, .int .i64 e.nden, .int .i64 e.nstart, x.s.v, x.m.v, x.n.v, x.f.v, .int .i64 e.new, .int .i64 e.full, .int .i64 e.wide, s2.v, .map (some b)], .int .i64 t] w fun u w' => u = .agg #[.int .i64 (hands e st t).sun, .int .i64 (hands e st t).moon, .int .i64 (hands e st t).node] ∧ Ext (fun k => k = b) w w' ∧ mapAt (hE e st) b w' := by
 have hp : Hp (cM (hE e st) b) w w [] := Hp.start hM
 have hcl := clM hM
 have ok := eng_ok hE0.ok
 refine enter Tryz.func64 rfl (N := 49) rfl rfl fun a h => ?_
 refine rg ?_
 refine wl (box (cs := #[_, _, _, _, _, _, _, _, _, _, _, _, _]) h hp rfl rfl fun a w1 g1 hg1 h hp => ?_)
 refine wl (all h hp zc63 fun a w2 g2 hg2 h hp => ?_)
 refine wn ?_
 refine wp_seq ?_
 refine rg ?_
 refine wvl h (fad h rfl fo105_2) fun a h => ?_
 refine wvl h (ldo h hp rfl 0 rfl rfl ag103) fun a h => ?_
 refine wmv h rfl fun a h => ?_
 refine wl (mpl h hp rfl rfl Tryz.underlying3 Tryz.underlying103 zv63 (fun a h => ?_) (fun a h => ?_))
 ·refine wmv h rfl fun a h => ?_
  refine wvl h (ext h rfl rfl) fun a h => ?_
  refine wvl h (ext h rfl rfl) fun a h => ?_
  refine wl (all h hp zc63 fun a w3 g3 hg3 h hp => ?_)
  refine wl (sta h hp rfl rfl 2 rfl sz63 rfl rfl fun w4 hp => ?_)
  refine wsn h rfl fun a h => ?_
  refine rg ?_
  refine wmv h rfl fun a h => ?_
  refine wn ?_
  refine cnd1 h rfl (fun _ => ?_) (fun e => nomatch e)
  refine rg ?_
  refine wvl h (ldO (us := [_, _, _]) h hp rfl 2 rfl sz63 rfl ag63) fun a h => ?_
  refine wl (sta h hp rfl rfl 1 rfl sz63 rfl rfl fun w5 hp => ?_)
  refine wn ?_
  refine wp_ret ?_
  try simp only [xqs]
  refine rt_1 h rfl (rvA h hp rfl 1 rfl ag63 sz63) ?_
  exact ⟨_, rfl, rfl, hp.ext, hp.inv⟩
 refine wmv h rfl fun a h => ?_
 refine wvl h (ext h rfl rfl) fun a h => ?_
 refine wvl h (ext h rfl rfl) fun a h => ?_
 refine wl (all h hp zc63 fun a w6 g4 hg4 h hp => ?_)
 refine wl (sta h hp rfl rfl 2 rfl sz63 rfl rfl fun w7 hp => ?_)
 refine wsn h rfl fun a h => ?_
 refine rg ?_
 refine wmv h rfl fun a h => ?_
 refine wn ?_
 refine cnd1 h rfl (fun e => nomatch e) (fun _ => ?_)
 refine skp ?_
 refine rg ?_
 refine wl (all h hp zc140 fun a w8 g5 hg5 h hp => ?_)
 refine wn ?_
 refine wp_seq ?_
 refine rg ?_
 refine wvl h (ldO (us := [_, _, _, _, _, _, _, _, _, _, _, _, _]) h hp rfl 0 rfl sz105 rfl ag105) fun a h => ?_
 refine wvl h (mkf h rfl rfl) fun a h => ?_
 refine wvl h (ldO (us := [_, _, _, _, _, _, _, _, _, _, _, _, _]) h hp rfl 0 rfl sz105 rfl ag105) fun a h => ?_
 refine wvl h (mkf h rfl rfl) fun a h => ?_
 refine wvl h (ldO (us := [_, _, _, _, _, _, _, _, _, _, _, _, _]) h hp rfl 0 rfl sz105 rfl ag105) fun a h => ?_
 refine wvl h (mkf h rfl rfl) fun a h => ?_
 refine wvl h (bld h rfl (bl141_0_1_2 _ _ _ _ _ _ _ _ _ _)) fun a h => ?_
 refine wmv h rfl fun a h => ?_
 refine wn ?_
 refine lp1 h [1, 2, 4, 7, 18, 26] (fun n f w' => ∃ k : Nat, k ≤ 3 ∧ n = 3 - k ∧ f = [(27, .int .i64 k)] ∧ Hp (cM (hE e st) b) w w' ([.blk g1 (.cells #[x.b.v, .int .i64 e.nnum, .int .i64 e.nden, .int .i64 e.nstart, x.s.v, x.m.v, x.n.v, x.f.v, .int .i64 e.new, .int .i64 e.full, .int .i64 e.wide, s2.v, .map (some b)] 105 (0, 0)), .blk g2 (.cells #[.int .i64 0, .int .i64 0, .int .i64 0] 63 (0, 0)), .blk g4 (.cells #[.int .i64 0, .int .i64 0, .int .i64 0] 63 (0, 0)), .blk g5 (.cells #[.int .i64 (bif Nat.blt 0 k then (hands e st t).sun else 0), .int .i64 (bif Nat.blt 1 k then (hands e st t).moon else 0), .int .i64 (bif Nat.blt 2 k then (hands e st t).node else 0)] 140 (0, 0))])) (3) [(27, .int .i64 ((0 : Nat) : Int))] ⟨rfl, rfl, rfl, rfl, rfl, rfl, rfl, trivial⟩ ⟨0, by omega, rfl, rfl, hp⟩ ?_
 rintro n f a w9 ⟨k, hk, rfl, rfl, hp⟩ h
 refine rg ?_
 refine wvl h (lss h rfl rfl) fun a h => ?_
 refine wn ?_
 refine cnd h rfl (fun hb1 => ?_) (fun hb1 => ?_)
 ·have hlt : k < 3 := by have := of_decide_eq_true hb1; omega
  refine skp ?_
  refine blk ?_
  refine rg ?_
  rcases (by omega : k = 0 ∨ k = 1 ∨ k = 2) with rfl | rfl | rfl
  ·refine wmv h rfl fun a h => ?_
   refine wvl h (ixv h rfl rfl (ix141_0 _ _ _ _ _ _ _ _ _ _)) fun a h => ?_
   refine ws2 h rfl rfl rfl rfl fun a h => ?_
   refine rg1 ?_
   refine wm3 h rfl rfl rfl rfl rfl rfl fun a h => ?_
   refine wl (calv h rfl rfl (en96) (sun_e x e s2 st b t _ (hE0.keep hp hcl) ht) fun u w10 ⟨e1, e2⟩ a h => ?_)
   subst e1
   have hp := hp.below e2
   refine wvl h (iaa h rfl rfl Tryz.underlying140 sz3 (by omega) (by omega)) fun a h => ?_
   refine wl (st1 h hp rfl rfl 3 rfl rfl sz3 rfl fun w11 hp => ?_)
   refine wn' ?_
   try simp only [xqs, ↓reduceIte, Nat.reduceEqDiff]
   refine rg1 ?_
   refine wvl h (add h rfl rfl (by omega)) fun a h => ?_
   refine wmv h rfl fun a h => ?_
   refine wn ?_
   exact ⟨_, _, (by omega), ⟨1, by omega, rfl, rfl, hp⟩, h.sub ⟨rfl, rfl, rfl, rfl, rfl, rfl, rfl, trivial⟩⟩
  ·refine wmv h rfl fun a h => ?_
   refine wvl h (ixv h rfl rfl (ix141_1 _ _ _ _ _ _ _ _ _ _)) fun a h => ?_
   refine ws2 h rfl rfl rfl rfl fun a h => ?_
   refine rg1 ?_
   refine wm3 h rfl rfl rfl rfl rfl rfl fun a h => ?_
   refine wl (calv h rfl rfl (en97) (moon_e x e s2 st b t _ (hE0.keep hp hcl) ht) fun u w12 ⟨e1, e2⟩ a h => ?_)
   subst e1
   have hp := hp.below e2
   refine wvl h (iaa h rfl rfl Tryz.underlying140 sz3 (by omega) (by omega)) fun a h => ?_
   refine wl (st1 h hp rfl rfl 3 rfl rfl sz3 rfl fun w13 hp => ?_)
   refine wn' ?_
   try simp only [xqs, ↓reduceIte, Nat.reduceEqDiff]
   refine rg1 ?_
   refine wvl h (add h rfl rfl (by omega)) fun a h => ?_
   refine wmv h rfl fun a h => ?_
   refine wn ?_
   exact ⟨_, _, (by omega), ⟨2, by omega, rfl, rfl, hp⟩, h.sub ⟨rfl, rfl, rfl, rfl, rfl, rfl, rfl, trivial⟩⟩
  refine wmv h rfl fun a h => ?_
  refine wvl h (ixv h rfl rfl (ix141_2 _ _ _ _ _ _ _ _ _ _)) fun a h => ?_
  refine ws2 h rfl rfl rfl rfl fun a h => ?_
  refine rg1 ?_
  refine wm3 h rfl rfl rfl rfl rfl rfl fun a h => ?_
  refine wl (calv h rfl rfl (en98) (node_e x e s2 st b t _ (hE0.keep hp hcl) ht) fun u w14 ⟨e1, e2⟩ a h => ?_)
  subst e1
  have hp := hp.below e2
  refine wvl h (iaa h rfl rfl Tryz.underlying140 sz3 (by omega) (by omega)) fun a h => ?_
  refine wl (st1 h hp rfl rfl 3 rfl rfl sz3 rfl fun w15 hp => ?_)
  refine wn' ?_
  try simp only [xqs, ↓reduceIte, Nat.reduceEqDiff]
  refine rg1 ?_
  refine wvl h (add h rfl rfl (by omega)) fun a h => ?_
  refine wmv h rfl fun a h => ?_
  refine wn ?_
  exact ⟨_, _, (by omega), ⟨3, by omega, rfl, rfl, hp⟩, h.sub ⟨rfl, rfl, rfl, rfl, rfl, rfl, rfl, trivial⟩⟩
 have hend : k = 3 := by have := of_decide_eq_false hb1; omega
 subst hend
 refine wp_exit ?_
 try simp only [xqs, ↓reduceIte, Nat.reduceEqDiff]
 refine rg ?_
 refine wvl h (iaa h rfl rfl Tryz.underlying140 sz3 (by omega) (by omega)) fun a h => ?_
 refine wvl h (ldo h hp rfl 3 rfl rfl ag3) fun a h => ?_
 refine wvl h (iaa h rfl rfl Tryz.underlying140 sz3 (by omega) (by omega)) fun a h => ?_
 refine wvl h (ldo h hp rfl 3 rfl rfl ag3) fun a h => ?_
 refine wvl h (iaa h rfl rfl Tryz.underlying140 sz3 (by omega) (by omega)) fun a h => ?_
 refine wvl h (ldo h hp rfl 3 rfl rfl ag3) fun a h => ?_
 refine wvl h (bld h rfl (bl63_0_1_2 _ _ _ _)) fun a h => ?_
 refine wl (all h hp zc63 fun a w16 g6 hg6 h hp => ?_)
 refine wl (sta h hp rfl rfl 4 rfl sz63 rfl rfl fun w17 hp => ?_)
 refine wn ?_
 refine rg ?_
 refine wvl h (fad h rfl fo105_2) fun a h => ?_
 refine wvl h (ldo h hp rfl 0 rfl rfl ag103) fun a h => ?_
 refine wmv h rfl fun a h => ?_
 refine wvl h (ldO (us := [_, _, _]) h hp rfl 4 rfl sz63 rfl ag63) fun a h => ?_
 refine wl (mps h hp rfl rfl rfl Tryz.underlying3 Tryz.underlying103 fun w18 hp => ?_)
 refine wn ?_
 refine rg ?_
 refine wvl h (ldO (us := [_, _, _]) h hp rfl 4 rfl sz63 rfl ag63) fun a h => ?_
 refine wl (sta h hp rfl rfl 1 rfl sz63 rfl rfl fun w19 hp => ?_)
 refine wn ?_
 refine wp_ret ?_
 try simp only [xqs]
 refine rt_1 h rfl (rvA h hp rfl 1 rfl ag63 sz63) ?_
 exact ⟨_, rfl, rfl, hp.ext, hp.inv⟩
theorem lead_e (x : EV) (e : Eng) (s2 : SV) (st : List Int) (b : Nat) (t : Int) (w : World) (hE0 : RdE w x e s2 st) (hM : mapAt (hE e st) b w) (ht : 0 ≤ t ∧ t ≤ 10000) : Ret Tryz.prog 109 #[.agg #[x.b.v, .int .i64 e.nnum, .int .i64 e.nden, .int .i64 e.nstart, x.s.v, x.m.v, x.n.v, x.f.v, .int .i64 e.new, .int .i64 e.full, .int .i64 e.wide, s2.v, .map (some b)], .int .i64 t] w fun u w' => u = .int .i64 (lead (hands e st t)) ∧ Ext (fun k => k = b) w w' ∧ mapAt (hE e st) b w' := by
 have hp : Hp (cM (hE e st) b) w w [] := Hp.start hM
 have hcl := clM hM
 have ok := eng_ok hE0.ok
 refine enter Tryz.func109 rfl (N := 15) rfl rfl fun a h => ?_
 refine rg ?_
 refine wl (box (cs := #[_, _, _, _, _, _, _, _, _, _, _, _, _]) h hp rfl rfl fun a w1 g1 hg1 h hp => ?_)
 refine wsn h rfl fun a h => ?_
 refine rg ?_
 refine wvl h (ldO (us := [_, _, _, _, _, _, _, _, _, _, _, _, _]) h hp rfl 0 rfl sz105 rfl ag105) fun a h => ?_
 refine wmv h rfl fun a h => ?_
 refine wl (cal h rfl en64 (at_e x e s2 st b _ _ (by first | exact hE0.keep hp hcl | exact (hE0.keep hp hcl)) hp.inv (by omega)) fun u w2 ⟨e1, e2, e3⟩ a h => ?_)
 subst e1
 have hp := hp.grow e2 e3
 refine wl (all h hp zc63 fun a w3 g2 hg2 h hp => ?_)
 refine wl (sta h hp rfl rfl 1 rfl sz63 rfl rfl fun w4 hp => ?_)
 refine wn ?_
 refine rg ?_
 have hbd := hands_bd e st t
 refine wvl h (fad h rfl fo63_1) fun a h => ?_
 refine wvl h (ldo h hp rfl 1 rfl rfl ag3) fun a h => ?_
 refine wvl h (fad h rfl fo63_0) fun a h => ?_
 refine wvl h (ldo h hp rfl 1 rfl rfl ag3) fun a h => ?_
 refine wvl h (sub h rfl rfl (by omega)) fun a h => ?_
 refine wl (cal h rfl en105 (around_e _ _ (by omega)) fun u w5 ⟨e1, e2⟩ a h => ?_)
 subst e1
 subst e2
 refine wsn h rfl fun a h => ?_
 refine wp_ret ?_
 try simp only [xqs]
 refine rt_1 h rfl (rvT h rfl) ?_
 exact ⟨_, rfl, rfl, hp.ext, hp.inv⟩
theorem far_e (x : EV) (e : Eng) (s2 : SV) (st : List Int) (b : Nat) (t : Int) (w : World) (hE0 : RdE w x e s2 st) (hM : mapAt (hE e st) b w) (ht : 0 ≤ t ∧ t ≤ 10000) : Ret Tryz.prog 76 #[.agg #[x.b.v, .int .i64 e.nnum, .int .i64 e.nden, .int .i64 e.nstart, x.s.v, x.m.v, x.n.v, x.f.v, .int .i64 e.new, .int .i64 e.full, .int .i64 e.wide, s2.v, .map (some b)], .int .i64 t] w fun u w' => u = .int .i64 (handFar (hands e st t)) ∧ Ext (fun k => k = b) w w' ∧ mapAt (hE e st) b w' := by
 have hp : Hp (cM (hE e st) b) w w [] := Hp.start hM
 have hcl := clM hM
 have ok := eng_ok hE0.ok
 refine enter Tryz.func76 rfl (N := 21) rfl rfl fun a h => ?_
 refine rg ?_
 refine wl (box (cs := #[_, _, _, _, _, _, _, _, _, _, _, _, _]) h hp rfl rfl fun a w1 g1 hg1 h hp => ?_)
 refine wsn h rfl fun a h => ?_
 refine rg ?_
 refine wvl h (ldO (us := [_, _, _, _, _, _, _, _, _, _, _, _, _]) h hp rfl 0 rfl sz105 rfl ag105) fun a h => ?_
 refine wmv h rfl fun a h => ?_
 refine wl (cal h rfl en64 (at_e x e s2 st b _ _ (by first | exact hE0.keep hp hcl | exact (hE0.keep hp hcl)) hp.inv (by omega)) fun u w2 ⟨e1, e2, e3⟩ a h => ?_)
 subst e1
 have hp := hp.grow e2 e3
 refine wl (all h hp zc63 fun a w3 g2 hg2 h hp => ?_)
 refine wl (sta h hp rfl rfl 1 rfl sz63 rfl rfl fun w4 hp => ?_)
 refine wn ?_
 refine rg ?_
 have hbd := hands_bd e st t
 refine wvl h (fad h rfl fo63_1) fun a h => ?_
 refine wvl h (ldo h hp rfl 1 rfl rfl ag3) fun a h => ?_
 refine wvl h (fad h rfl fo63_2) fun a h => ?_
 refine wvl h (ldo h hp rfl 1 rfl rfl ag3) fun a h => ?_
 refine wvl h (sub h rfl rfl (by omega)) fun a h => ?_
 refine wl (cal h rfl en105 (around_e _ _ (by omega)) fun u w5 ⟨e1, e2⟩ a h => ?_)
 subst e1
 subst e2
 have har := around_bd ((hands e st t).moon - (hands e st t).node)
 refine wvl h (rem0 h rfl rfl (by omega) (by omega)) fun a h => ?_
 refine wsn h rfl fun a h => ?_
 refine rg ?_
 refine wm2 h rfl rfl rfl rfl fun a h => ?_
 refine wvl h (sub h rfl rfl (by omega)) fun a h => ?_
 refine wvl h (min_ h rfl rfl) fun a h => ?_
 refine wsn h rfl fun a h => ?_
 refine wp_ret ?_
 try simp only [xqs]
 refine rt_1 h rfl (rvT h rfl) ?_
 exact ⟨_, rfl, by rw [handFar, farOf_around0], hp.ext, hp.inv⟩
theorem full_newMoon_e  (w : World) : Ret Tryz.prog 211 #[.agg #[]] w fun u w' => u = .bool false ∧ Below w.heap.size w w' := by
 have hp : Hp c0 w w [] := Hp.start trivial
 refine enter Tryz.func211 rfl (N := 3) rfl rfl fun a h => ?_
 refine rg ?_
 refine wl (box (cs := #[]) h hp rfl rfl fun a w1 g1 hg1 h hp => ?_)
 refine wsn h rfl fun a h => ?_
 refine rg ?_
 refine wsn h rfl fun a h => ?_
 refine wp_ret ?_
 try simp only [xqs]
 refine rt_1 h rfl (rvT h rfl) ?_
 exact ⟨_, rfl, rfl, hp.ext.below⟩
theorem phaseOf_false_e  (w : World) : Ret Tryz.prog 74 #[.bool false] w fun u w' => u = .iface 151 (.agg #[]) ∧ Below w.heap.size w w' := by
 have hp : Hp c0 w w [] := Hp.start trivial
 refine enter Tryz.func74 rfl (N := 8) rfl rfl fun a h => ?_
 refine rg ?_
 refine wsn h rfl fun a h => ?_
 refine wp_seq ?_
 refine rg ?_
 refine wmv h rfl fun a h => ?_
 refine wn ?_
 refine cnd1 h rfl (fun e => nomatch e) (fun _ => ?_)
 refine skp ?_
 refine rg ?_
 refine wvl h (bld h rfl (bl151_ _)) fun a h => ?_
 refine wvl h (mki h rfl (by kernel_rfl)) fun a h => ?_
 refine wsn h rfl fun a h => ?_
 refine wp_ret ?_
 try simp only [xqs]
 refine rt_1 h rfl (rvT h rfl) ?_
 exact ⟨_, rfl, rfl, hp.ext.below⟩
theorem has_false_e (x : EV) (e : Eng) (s2 : SV) (st : List Int) (b : Nat) (t : Int) (w : World) (hE0 : RdE w x e s2 st) (hM : mapAt (hE e st) b w) (ht : 1 ≤ t ∧ t ≤ 10000) : Ret Tryz.prog 75 #[.agg #[x.b.v, .int .i64 e.nnum, .int .i64 e.nden, .int .i64 e.nstart, x.s.v, x.m.v, x.n.v, x.f.v, .int .i64 e.new, .int .i64 e.full, .int .i64 e.wide, s2.v, .map (some b)], .iface 151 (.agg #[]), .int .i64 t] w fun u w' => u = .bool (crossed (hands e st (t - 1)) (hands e st t) false) ∧ Ext (fun k => k = b) w w' ∧ mapAt (hE e st) b w' := by
 have hp : Hp (cM (hE e st) b) w w [] := Hp.start hM
 have hcl := clM hM
 have ok := eng_ok hE0.ok
 refine enter Tryz.func75 rfl (N := 34) rfl rfl fun a h => ?_
 refine rg ?_
 refine wl (box (cs := #[_, _, _, _, _, _, _, _, _, _, _, _, _]) h hp rfl rfl fun a w1 g1 hg1 h hp => ?_)
 refine wsn h rfl fun a h => ?_
 refine rg ?_
 refine wvl h (ldO (us := [_, _, _, _, _, _, _, _, _, _, _, _, _]) h hp rfl 0 rfl sz105 rfl ag105) fun a h => ?_
 refine wmv h rfl fun a h => ?_
 refine wvl h (sub h rfl rfl (by omega)) fun a h => ?_
 refine wl (cal h rfl en109 (lead_e x e s2 st b _ _ (by first | exact hE0.keep hp hcl | exact (hE0.keep hp hcl)) hp.inv (by omega)) fun u w2 ⟨e1, e2, e3⟩ a h => ?_)
 subst e1
 have hp := hp.grow e2 e3
 refine wsn h rfl fun a h => ?_
 refine rg ?_
 refine wvl h (ldO (us := [_, _, _, _, _, _, _, _, _, _, _, _, _]) h hp rfl 0 rfl sz105 rfl ag105) fun a h => ?_
 refine wmv h rfl fun a h => ?_
 refine wl (cal h rfl en109 (lead_e x e s2 st b _ _ (by first | exact hE0.keep hp hcl | exact (hE0.keep hp hcl)) hp.inv (by omega)) fun u w3 ⟨e1, e2, e3⟩ a h => ?_)
 subst e1
 have hp := hp.grow e2 e3
 refine wmv h rfl fun a h => ?_
 have la := lead_bd (hands e st (t - 1))
 have lb := lead_bd (hands e st t)
 refine wvl h (sub h rfl rfl (by omega)) fun a h => ?_
 refine wl (cal h rfl en68 (signed_e _ _ (by omega)) fun u w4 ⟨e1, e2⟩ a h => ?_)
 subst e1
 subst e2
 refine wsn h rfl fun a h => ?_
 refine wp_seq ?_
 refine rg ?_
 refine wmv h rfl fun a h => ?_
 refine wn ?_
 refine blk1 ?_
 refine rg ?_
 refine wvl h (tya h rfl (ta151_121_152 _)) fun a h => ?_
 refine wvl h (ext h rfl rfl) fun a h => ?_
 refine wvl h (ext h rfl rfl) fun a h => ?_
 refine wn ?_
 refine cnd1 h rfl (fun e => nomatch e) (fun _ => ?_)
 refine wp_skip ?_
 refine rg ?_
 have hsg := signed_bd (lead (hands e st t) - lead (hands e st (t - 1)))
 have har := around_bd (lead (hands e st (t - 1)) - 10800)
 refine wmv h rfl fun a h => ?_
 refine wvl h (gtr h rfl rfl) fun a h => ?_
 refine wmv h rfl fun a h => ?_
 refine split (t := 28) h rfl (fun hb1 => ?_) (fun hb1 => ?_)
 ·refine wl (stp_on h rfl rfl rfl hb1 (vl h (mov h rfl) fun a h => ?_))
  refine wl (stp_on h rfl rfl rfl hb1 (vl h (mov h rfl) fun a h => ?_))
  refine wl (stp_on h rfl rfl rfl hb1 (vl h (add h rfl rfl (by omega)) fun a h => ?_))
  refine wl (stp_on h rfl rfl rfl hb1 (vl h (geq h rfl rfl) fun a h => ?_))
  refine wvl h (pckT h rfl hb1 rfl) fun a h => ?_
  refine wsn h rfl fun a h => ?_
  refine wp_ret ?_
  try simp only [xqs]
  refine rt_1 h rfl (rvT h rfl) ?_
  exact ⟨_, rfl, by simp only [crossed, hb1]; simp, hp.ext, hp.inv⟩
 refine wl (stp_off h rfl rfl rfl rfl rfl hb1 fun a h => ?_)
 refine wl (stp_off h rfl rfl rfl rfl rfl hb1 fun a h => ?_)
 refine wl (stp_off h rfl rfl rfl rfl rfl hb1 fun a h => ?_)
 refine wl (stp_off h rfl rfl rfl rfl rfl hb1 fun a h => ?_)
 refine wvl h (pckF h rfl hb1 rfl) fun a h => ?_
 refine wsn h rfl fun a h => ?_
 refine wp_ret ?_
 try simp only [xqs]
 refine rt_1 h rfl (rvT h rfl) ?_
 exact ⟨_, rfl, by simp only [crossed, hb1]; simp, hp.ext, hp.inv⟩
theorem limit_false_e (x : EV) (e : Eng) (s2 : SV) (st : List Int) (b : Nat) (w : World) : Ret Tryz.prog 77 #[.agg #[x.b.v, .int .i64 e.nnum, .int .i64 e.nden, .int .i64 e.nstart, x.s.v, x.m.v, x.n.v, x.f.v, .int .i64 e.new, .int .i64 e.full, .int .i64 e.wide, s2.v, .map (some b)], .iface 151 (.agg #[])] w fun u w' => u = .int .i64 (skyLimit e false) ∧ Below w.heap.size w w' := by
 have hp : Hp c0 w w [] := Hp.start trivial
 have hcl : Cl c0 w := cl0
 refine enter Tryz.func77 rfl (N := 13) rfl rfl fun a h => ?_
 refine rg ?_
 refine wl (box (cs := #[_, _, _, _, _, _, _, _, _, _, _, _, _]) h hp rfl rfl fun a w1 g1 hg1 h hp => ?_)
 refine wsn h rfl fun a h => ?_
 refine wp_seq ?_
 refine rg ?_
 refine wmv h rfl fun a h => ?_
 refine wl (ivk h rfl cm151_211 (full_newMoon_e _) fun u w2 ⟨e1, e2⟩ a h => ?_)
 subst e1
 have hp := hp.below e2
 refine wn ?_
 refine cnd1 h rfl (fun e => nomatch e) (fun _ => ?_)
 refine skp ?_
 refine rg ?_
 refine wvl h (fad h rfl fo105_0) fun a h => ?_
 refine wvl h (fad h rfl fo76_5) fun a h => ?_
 refine wvl h (ldo h hp rfl 0 rfl rfl ag3) fun a h => ?_
 refine wsn h rfl fun a h => ?_
 refine wp_ret ?_
 try simp only [xqs]
 refine rt_1 h rfl (rvT h rfl) ?_
 exact ⟨_, rfl, rfl, hp.bel⟩
theorem full_fullMoon_e  (w : World) : Ret Tryz.prog 212 #[.agg #[]] w fun u w' => u = .bool true ∧ Below w.heap.size w w' := by
 have hp : Hp c0 w w [] := Hp.start trivial
 refine enter Tryz.func212 rfl (N := 3) rfl rfl fun a h => ?_
 refine rg ?_
 refine wl (box (cs := #[]) h hp rfl rfl fun a w1 g1 hg1 h hp => ?_)
 refine wsn h rfl fun a h => ?_
 refine rg ?_
 refine wsn h rfl fun a h => ?_
 refine wp_ret ?_
 try simp only [xqs]
 refine rt_1 h rfl (rvT h rfl) ?_
 exact ⟨_, rfl, rfl, hp.ext.below⟩
theorem phaseOf_true_e  (w : World) : Ret Tryz.prog 74 #[.bool true] w fun u w' => u = .iface 152 (.agg #[]) ∧ Below w.heap.size w w' := by
 have hp : Hp c0 w w [] := Hp.start trivial
 refine enter Tryz.func74 rfl (N := 8) rfl rfl fun a h => ?_
 refine rg ?_
 refine wsn h rfl fun a h => ?_
 refine wp_seq ?_
 refine rg ?_
 refine wmv h rfl fun a h => ?_
 refine wn ?_
 refine cnd1 h rfl (fun _ => ?_) (fun e => nomatch e)
 refine rg ?_
 refine wvl h (bld h rfl (bl152_ _)) fun a h => ?_
 refine wvl h (mki h rfl (by kernel_rfl)) fun a h => ?_
 refine wsn h rfl fun a h => ?_
 refine wp_ret ?_
 try simp only [xqs]
 refine rt_1 h rfl (rvT h rfl) ?_
 exact ⟨_, rfl, rfl, hp.ext.below⟩
theorem has_true_e (x : EV) (e : Eng) (s2 : SV) (st : List Int) (b : Nat) (t : Int) (w : World) (hE0 : RdE w x e s2 st) (hM : mapAt (hE e st) b w) (ht : 1 ≤ t ∧ t ≤ 10000) : Ret Tryz.prog 75 #[.agg #[x.b.v, .int .i64 e.nnum, .int .i64 e.nden, .int .i64 e.nstart, x.s.v, x.m.v, x.n.v, x.f.v, .int .i64 e.new, .int .i64 e.full, .int .i64 e.wide, s2.v, .map (some b)], .iface 152 (.agg #[]), .int .i64 t] w fun u w' => u = .bool (crossed (hands e st (t - 1)) (hands e st t) true) ∧ Ext (fun k => k = b) w w' ∧ mapAt (hE e st) b w' := by
 have hp : Hp (cM (hE e st) b) w w [] := Hp.start hM
 have hcl := clM hM
 have ok := eng_ok hE0.ok
 refine enter Tryz.func75 rfl (N := 34) rfl rfl fun a h => ?_
 refine rg ?_
 refine wl (box (cs := #[_, _, _, _, _, _, _, _, _, _, _, _, _]) h hp rfl rfl fun a w1 g1 hg1 h hp => ?_)
 refine wsn h rfl fun a h => ?_
 refine rg ?_
 refine wvl h (ldO (us := [_, _, _, _, _, _, _, _, _, _, _, _, _]) h hp rfl 0 rfl sz105 rfl ag105) fun a h => ?_
 refine wmv h rfl fun a h => ?_
 refine wvl h (sub h rfl rfl (by omega)) fun a h => ?_
 refine wl (cal h rfl en109 (lead_e x e s2 st b _ _ (by first | exact hE0.keep hp hcl | exact (hE0.keep hp hcl)) hp.inv (by omega)) fun u w2 ⟨e1, e2, e3⟩ a h => ?_)
 subst e1
 have hp := hp.grow e2 e3
 refine wsn h rfl fun a h => ?_
 refine rg ?_
 refine wvl h (ldO (us := [_, _, _, _, _, _, _, _, _, _, _, _, _]) h hp rfl 0 rfl sz105 rfl ag105) fun a h => ?_
 refine wmv h rfl fun a h => ?_
 refine wl (cal h rfl en109 (lead_e x e s2 st b _ _ (by first | exact hE0.keep hp hcl | exact (hE0.keep hp hcl)) hp.inv (by omega)) fun u w3 ⟨e1, e2, e3⟩ a h => ?_)
 subst e1
 have hp := hp.grow e2 e3
 refine wmv h rfl fun a h => ?_
 have la := lead_bd (hands e st (t - 1))
 have lb := lead_bd (hands e st t)
 refine wvl h (sub h rfl rfl (by omega)) fun a h => ?_
 refine wl (cal h rfl en68 (signed_e _ _ (by omega)) fun u w4 ⟨e1, e2⟩ a h => ?_)
 subst e1
 subst e2
 refine wsn h rfl fun a h => ?_
 refine wp_seq ?_
 refine rg ?_
 refine wmv h rfl fun a h => ?_
 refine wn ?_
 refine blk1 ?_
 refine rg ?_
 refine wvl h (tya h rfl (ta152_121_152 _)) fun a h => ?_
 refine wvl h (ext h rfl rfl) fun a h => ?_
 refine wvl h (ext h rfl rfl) fun a h => ?_
 refine wn ?_
 refine cnd1 h rfl (fun _ => ?_) (fun e => nomatch e)
 refine rg1 ?_
 refine wmv h rfl fun a h => ?_
 refine wvl h (sub h rfl rfl (by omega)) fun a h => ?_
 refine wl (cal h rfl en105 (around_e _ _ (by omega)) fun u w5 ⟨e1, e2⟩ a h => ?_)
 subst e1
 subst e2
 refine wsg h rfl fun a h => ?_
 refine wn' ?_
 try simp only [xqs, ↓reduceIte, Nat.reduceEqDiff]
 refine rg ?_
 have hsg := signed_bd (lead (hands e st t) - lead (hands e st (t - 1)))
 have har := around_bd (lead (hands e st (t - 1)) - 10800)
 refine wmv h rfl fun a h => ?_
 refine wvl h (gtr h rfl rfl) fun a h => ?_
 refine wmv h rfl fun a h => ?_
 refine split (t := 28) h rfl (fun hb1 => ?_) (fun hb1 => ?_)
 ·refine wl (stp_on h rfl rfl rfl hb1 (vl h (mov h rfl) fun a h => ?_))
  refine wl (stp_on h rfl rfl rfl hb1 (vl h (mov h rfl) fun a h => ?_))
  refine wl (stp_on h rfl rfl rfl hb1 (vl h (add h rfl rfl (by omega)) fun a h => ?_))
  refine wl (stp_on h rfl rfl rfl hb1 (vl h (geq h rfl rfl) fun a h => ?_))
  refine wvl h (pckT h rfl hb1 rfl) fun a h => ?_
  refine wsn h rfl fun a h => ?_
  refine wp_ret ?_
  try simp only [xqs]
  refine rt_1 h rfl (rvT h rfl) ?_
  exact ⟨_, rfl, by simp only [crossed, hb1]; simp, hp.ext, hp.inv⟩
 refine wl (stp_off h rfl rfl rfl rfl rfl hb1 fun a h => ?_)
 refine wl (stp_off h rfl rfl rfl rfl rfl hb1 fun a h => ?_)
 refine wl (stp_off h rfl rfl rfl rfl rfl hb1 fun a h => ?_)
 refine wl (stp_off h rfl rfl rfl rfl rfl hb1 fun a h => ?_)
 refine wvl h (pckF h rfl hb1 rfl) fun a h => ?_
 refine wsn h rfl fun a h => ?_
 refine wp_ret ?_
 try simp only [xqs]
 refine rt_1 h rfl (rvT h rfl) ?_
 exact ⟨_, rfl, by simp only [crossed, hb1]; simp, hp.ext, hp.inv⟩
theorem limit_true_e (x : EV) (e : Eng) (s2 : SV) (st : List Int) (b : Nat) (w : World) : Ret Tryz.prog 77 #[.agg #[x.b.v, .int .i64 e.nnum, .int .i64 e.nden, .int .i64 e.nstart, x.s.v, x.m.v, x.n.v, x.f.v, .int .i64 e.new, .int .i64 e.full, .int .i64 e.wide, s2.v, .map (some b)], .iface 152 (.agg #[])] w fun u w' => u = .int .i64 (skyLimit e true) ∧ Below w.heap.size w w' := by
 have hp : Hp c0 w w [] := Hp.start trivial
 have hcl : Cl c0 w := cl0
 refine enter Tryz.func77 rfl (N := 13) rfl rfl fun a h => ?_
 refine rg ?_
 refine wl (box (cs := #[_, _, _, _, _, _, _, _, _, _, _, _, _]) h hp rfl rfl fun a w1 g1 hg1 h hp => ?_)
 refine wsn h rfl fun a h => ?_
 refine wp_seq ?_
 refine rg ?_
 refine wmv h rfl fun a h => ?_
 refine wl (ivk h rfl cm152_212 (full_fullMoon_e _) fun u w2 ⟨e1, e2⟩ a h => ?_)
 subst e1
 have hp := hp.below e2
 refine wn ?_
 refine cnd1 h rfl (fun _ => ?_) (fun e => nomatch e)
 refine rg ?_
 refine wvl h (fad h rfl fo105_0) fun a h => ?_
 refine wvl h (fad h rfl fo76_6) fun a h => ?_
 refine wvl h (ldo h hp rfl 0 rfl rfl ag3) fun a h => ?_
 refine wsn h rfl fun a h => ?_
 refine wp_ret ?_
 try simp only [xqs]
 refine rt_1 h rfl (rvT h rfl) ?_
 exact ⟨_, rfl, rfl, hp.bel⟩
end Go.Proofs.Ec
