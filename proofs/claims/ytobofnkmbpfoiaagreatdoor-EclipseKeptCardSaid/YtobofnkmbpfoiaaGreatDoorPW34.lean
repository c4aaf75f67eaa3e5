import Derived.Test.YtobofnkmbpfoiaaGreatDoorProg
import Derived.Test.YtobofnkmbpfoiaaGreatDoorPFa
import Derived.Test.YtobofnkmbpfoiaaGreatDoorPQb
import Derived.Test.YtobofnkmbpfoiaaGreatDoorPW31
import Derived.Test.YtobofnkmbpfoiaaGreatDoorPQa
import Derived.Test.YtobofnkmbpfoiaaGreatDoorPKp
import Derived.Test.YtobofnkmbpfoiaaGreatDoorPW22
set_option linter.unusedVariables false
set_option linter.unusedSimpArgs false
set_option maxRecDepth 4000
namespace Go.Proofs.Ec
open Go.RowKit Go.Proofs.Sx
open Ecl
theorem set_at {e : Eng} {st : List Int} {y : Int} (hs : isSet e st = true) (hy : y ∈ st) : 0 ≤ y ∧ y < (e.feasts.length : Int) ∧ ∃ z, e.feasts[y.toNat]? = some z ∧ at0 e.feasts y = z := by
 have := ((isSet_iff e st).1 hs).2 y hy
 have h : y.toNat < e.feasts.length := by omega
 exact ⟨by omega, by omega, e.feasts[y.toNat], List.getElem?_eq_getElem h, by unfold at0; rw [List.getD_eq_getElem?_getD, List.getElem?_eq_getElem h]; rfl⟩
set_option maxHeartbeats 4000000 in
theorem EclipseKept_L (x : EV) (e : Eng) (s2 : SV) (st : List Int) (t lm : Int) (w : World) (hG : RdG w x e) (hS2 : Rd w encI 1 s2.v st) (hGl : Glb w) : Ret Tryz.prog 3 #[.agg #[x.b.v, .int .i64 e.nnum, .int .i64 e.nden, .int .i64 e.nstart, x.s.v, x.m.v, x.n.v, x.f.v, .int .i64 e.new, .int .i64 e.full, .int .i64 e.wide], s2.v, .int .i64 t, .int .i64 lm] w fun u w' => u = .bool true ∧ Below w.heap.size w w' := by
 have hp : Hp c0 w w [] := Hp.start trivial
 refine enter Tryz.func3 rfl (N := 161) rfl rfl fun a h => ?_
 refine rg ?_
 refine wl (box (cs := #[_, _, _, _, _, _, _, _, _, _, _]) h hp rfl rfl fun a w1 g1 hg1 h hp => ?_)
 refine wsn h rfl fun a h => ?_
 refine wp_seq ?_
 refine rg ?_
 refine wvl h (ldO (us := [_, _, _, _, _, _, _, _, _, _, _]) h hp rfl 0 rfl sz32 rfl ag32) fun a h => ?_
 refine wmv h rfl fun a h => ?_
 refine wl (cal h rfl en15 (short_L x e s2 st _ (hG.keep hp cl0) (hS2.keep (by decide) hp cl0)) fun u w2 ⟨⟨bsh, e1⟩, e2⟩ a h => ?_)
 subst e1
 have hp := hp.below e2
 refine wvl h (not_ h rfl) fun a h => ?_
 refine wmv h rfl fun a h => ?_
 refine split (t := 21) h rfl (fun hb1 => ?_) (fun hb1 => ?_)
 ·refine wl (stp_off h rfl rfl rfl rfl rfl hb1 fun a h => ?_)
  refine wl (stp_off h rfl rfl rfl rfl rfl hb1 fun a h => ?_)
  refine wl (stp_off h rfl rfl rfl rfl rfl hb1 fun a h => ?_)
  refine wvl h (pckT h rfl hb1 rfl) fun a h => ?_
  refine wmv h rfl fun a h => ?_
  refine wl (stp_off h rfl rfl rfl rfl rfl rfl fun a h => ?_)
  refine wl (stp_off h rfl rfl rfl rfl rfl rfl fun a h => ?_)
  refine wl (stp_off h rfl rfl rfl rfl rfl rfl fun a h => ?_)
  refine wl (stp_off h rfl rfl rfl rfl rfl rfl fun a h => ?_)
  refine wl (stp_off h rfl rfl rfl rfl rfl rfl fun a h => ?_)
  refine wvl h (pckT h rfl rfl rfl) fun a h => ?_
  refine wmv h rfl fun a h => ?_
  refine wl (stp_off h rfl rfl rfl rfl rfl rfl fun a h => ?_)
  refine wl (stp_off h rfl rfl rfl rfl rfl rfl fun a h => ?_)
  refine wl (stp_off h rfl rfl rfl rfl rfl rfl fun a h => ?_)
  refine wvl h (pckT h rfl rfl rfl) fun a h => ?_
  refine wmv h rfl fun a h => ?_
  refine wl (stp_off h rfl rfl rfl rfl rfl rfl fun a h => ?_)
  refine wl (stp_off h rfl rfl rfl rfl rfl rfl fun a h => ?_)
  refine wl (stp_off h rfl rfl rfl rfl rfl rfl fun a h => ?_)
  refine wvl h (pckT h rfl rfl rfl) fun a h => ?_
  refine wn ?_
  refine cnd1 h rfl (fun _ => ?_) (fun e => nomatch e)
  refine rg ?_
  refine wl (cal h rfl en20 (known_L _ (hGl.keep hp)) fun u w3 ⟨e1, e2⟩ a h => ?_)
  subst e1
  have hp := hp.below e2
  refine wsn h rfl fun a h => ?_
  refine wp_ret ?_
  try simp only [xqs]
  refine rt_1 h rfl (rvT h rfl) ?_
  exact ⟨_, rfl, rfl, hp.bel⟩
 have hn0 := hb1
 refine wl (stp_on h rfl rfl rfl hb1 (vl h (ldO (us := [_, _, _, _, _, _, _, _, _, _, _]) h hp rfl 0 rfl sz32 rfl ag32) fun a h => ?_))
 refine wl (stp_on h rfl rfl rfl hb1 (cal h rfl en16 (Engine_R x e _ (by first | exact hG.keep hp cl0 | exact (hE0.keep hp cl0).g)) fun u w4 ⟨e1, e2⟩ a h => ?_))
 subst e1
 have hp := hp.below e2
 refine wl (stp_on h rfl rfl rfl hb1 (vl h (not_ h rfl) fun a h => ?_))
 refine wvl h (pckF h rfl hb1 rfl) fun a h => ?_
 refine wmv h rfl fun a h => ?_
 refine split (t := 26) h rfl (fun hb2 => ?_) (fun hb2 => ?_)
 ·refine wl (stp_off h rfl rfl rfl rfl rfl hb2 fun a h => ?_)
  refine wl (stp_off h rfl rfl rfl rfl rfl hb2 fun a h => ?_)
  refine wl (stp_off h rfl rfl rfl rfl rfl hb2 fun a h => ?_)
  refine wl (stp_off h rfl rfl rfl rfl rfl hb2 fun a h => ?_)
  refine wl (stp_off h rfl rfl rfl rfl rfl hb2 fun a h => ?_)
  refine wvl h (pckT h rfl hb2 rfl) fun a h => ?_
  refine wmv h rfl fun a h => ?_
  refine wl (stp_off h rfl rfl rfl rfl rfl rfl fun a h => ?_)
  refine wl (stp_off h rfl rfl rfl rfl rfl rfl fun a h => ?_)
  refine wl (stp_off h rfl rfl rfl rfl rfl rfl fun a h => ?_)
  refine wvl h (pckT h rfl rfl rfl) fun a h => ?_
  refine wmv h rfl fun a h => ?_
  refine wl (stp_off h rfl rfl rfl rfl rfl rfl fun a h => ?_)
  refine wl (stp_off h rfl rfl rfl rfl rfl rfl fun a h => ?_)
  refine wl (stp_off h rfl rfl rfl rfl rfl rfl fun a h => ?_)
  refine wvl h (pckT h rfl rfl rfl) fun a h => ?_
  refine wn ?_
  refine cnd1 h rfl (fun _ => ?_) (fun e => nomatch e)
  refine rg ?_
  refine wl (cal h rfl en20 (known_L _ (hGl.keep hp)) fun u w5 ⟨e1, e2⟩ a h => ?_)
  subst e1
  have hp := hp.below e2
  refine wsn h rfl fun a h => ?_
  refine wp_ret ?_
  try simp only [xqs]
  refine rt_1 h rfl (rvT h rfl) ?_
  exact ⟨_, rfl, rfl, hp.bel⟩
 have hn1 := hb2
 refine wl (stp_on h rfl rfl rfl hb2 (vl h (fad h rfl fo32_4) fun a h => ?_))
 refine wl (stp_on h rfl rfl rfl hb2 (vl h (ldo h hp rfl 0 rfl rfl ag30) fun a h => ?_))
 refine wl (stp_on h rfl rfl rfl hb2 (vl h (mov h rfl) fun a h => ?_))
 refine wl (stp_on h rfl rfl rfl hb2 (cal h rfl en17 (Set_T _ _ _ _ _ (hS2.keep (by decide) hp cl0) (hG.keep hp cl0).f) fun u w6 ⟨e1, e2⟩ a h => ?_))
 subst e1
 have hp := hp.below e2
 refine wl (stp_on h rfl rfl rfl hb2 (vl h (not_ h rfl) fun a h => ?_))
 refine wvl h (pckF h rfl hb2 rfl) fun a h => ?_
 refine wmv h rfl fun a h => ?_
 refine split (t := 33) h rfl (fun hb3 => ?_) (fun hb3 => ?_)
 ·refine wl (stp_off h rfl rfl rfl rfl rfl hb3 fun a h => ?_)
  refine wl (stp_off h rfl rfl rfl rfl rfl hb3 fun a h => ?_)
  refine wl (stp_off h rfl rfl rfl rfl rfl hb3 fun a h => ?_)
  refine wvl h (pckT h rfl hb3 rfl) fun a h => ?_
  refine wmv h rfl fun a h => ?_
  refine wl (stp_off h rfl rfl rfl rfl rfl rfl fun a h => ?_)
  refine wl (stp_off h rfl rfl rfl rfl rfl rfl fun a h => ?_)
  refine wl (stp_off h rfl rfl rfl rfl rfl rfl fun a h => ?_)
  refine wvl h (pckT h rfl rfl rfl) fun a h => ?_
  refine wn ?_
  refine cnd1 h rfl (fun _ => ?_) (fun e => nomatch e)
  refine rg ?_
  refine wl (cal h rfl en20 (known_L _ (hGl.keep hp)) fun u w7 ⟨e1, e2⟩ a h => ?_)
  subst e1
  have hp := hp.below e2
  refine wsn h rfl fun a h => ?_
  refine wp_ret ?_
  try simp only [xqs]
  refine rt_1 h rfl (rvT h rfl) ?_
  exact ⟨_, rfl, rfl, hp.bel⟩
 have hn2 := hb3
 refine wl (stp_on h rfl rfl rfl hb3 (vl h (mov h rfl) fun a h => ?_))
 refine wl (stp_on h rfl rfl rfl hb3 (cal h rfl en18 (Day_R _ _) fun u w8 ⟨e1, e2⟩ a h => ?_))
 subst e1
 subst e2
 refine wl (stp_on h rfl rfl rfl hb3 (vl h (not_ h rfl) fun a h => ?_))
 refine wvl h (pckF h rfl hb3 rfl) fun a h => ?_
 refine wmv h rfl fun a h => ?_
 refine split (t := 38) h rfl (fun hb4 => ?_) (fun hb4 => ?_)
 ·refine wl (stp_off h rfl rfl rfl rfl rfl hb4 fun a h => ?_)
  refine wl (stp_off h rfl rfl rfl rfl rfl hb4 fun a h => ?_)
  refine wl (stp_off h rfl rfl rfl rfl rfl hb4 fun a h => ?_)
  refine wvl h (pckT h rfl hb4 rfl) fun a h => ?_
  refine wn ?_
  refine cnd1 h rfl (fun _ => ?_) (fun e => nomatch e)
  refine rg ?_
  refine wl (cal h rfl en20 (known_L _ (hGl.keep hp)) fun u w9 ⟨e1, e2⟩ a h => ?_)
  subst e1
  have hp := hp.below e2
  refine wsn h rfl fun a h => ?_
  refine wp_ret ?_
  try simp only [xqs]
  refine rt_1 h rfl (rvT h rfl) ?_
  exact ⟨_, rfl, rfl, hp.bel⟩
 have hn3 := hb4
 refine wl (stp_on h rfl rfl rfl hb4 (vl h (mov h rfl) fun a h => ?_))
 refine wl (stp_on h rfl rfl rfl hb4 (cal h rfl en19 (Limit_T _ _) fun u w10 ⟨e1, e2⟩ a h => ?_))
 subst e1
 subst e2
 refine wl (stp_on h rfl rfl rfl hb4 (vl h (not_ h rfl) fun a h => ?_))
 refine wvl h (pckF h rfl hb4 rfl) fun a h => ?_
 refine wn ?_
 refine cnd1 h rfl (fun hb5 => ?_) (fun hb5 => ?_)
 ·refine rg ?_
  refine wl (cal h rfl en20 (known_L _ (hGl.keep hp)) fun u w11 ⟨e1, e2⟩ a h => ?_)
  subst e1
  have hp := hp.below e2
  refine wsn h rfl fun a h => ?_
  refine wp_ret ?_
  try simp only [xqs]
  refine rt_1 h rfl (rvT h rfl) ?_
  exact ⟨_, rfl, rfl, hp.bel⟩
 have hn4 := hb5
 have hen : isEngine e = true := by simpa using hn1
 have hse : isSet e st = true := by simpa [isSet] using hn2
 have hE0 : RdE w x e s2 st := ⟨hG, hS2, hen, hse⟩
 have ok := eng_ok hen
 have hlN := ok.new
 have hlF := ok.full
 have hlW := ok.wide
 have hda : isDay t = true := by simpa using hn3
 have hld := hda
 simp only [isDay, inR, Bool.and_eq_true, decide_eq_true_eq] at hld
 have hlm : 0 ≤ lm ∧ lm ≤ 10800 := by simpa [inR] using hn4
 have hgd := eng_good ok
 obtain ⟨hbl, b0, b1, hB0, hB1, e0, e1, v0, v1⟩ := sky2 hG.sky ok.sky
 obtain ⟨c1, c2, -, c4, -⟩ := body_bd v0
 obtain ⟨c5, c6, -, c8, -⟩ := body_bd v1
 obtain ⟨c9, c10, c11, -⟩ := sky_bd ok.sky
 have hfe := ok.feasts
 have f0 := period_fr c1 c2
 have f1 := period_fr c5 c6
 have f2 := period_fr c9 c10
 have t1 := ok.sun
 have t2 := ok.moon
 have t3 := ok.node
 have hoS := off_sun hgd st t
 have hoM := off_moon hgd st t
 have hoN := off_node hgd st t
 rw [e0] at hoS
 rw [e1] at hoM
 have hsF := set_feasts ok.feasts hse
 refine skp ?_
 refine rg ?_
 refine wvl h (ldO (us := [_, _, _, _, _, _, _, _, _, _, _]) h hp rfl 0 rfl sz32 rfl ag32) fun a h => ?_
 refine wm2 h rfl rfl rfl rfl fun a h => ?_
 refine wl (cal h rfl en21 (Off_s x e s2 st _ _ (hE0.keep hp cl0) hda) fun u w12 ⟨e1, e2⟩ a h => ?_)
 subst e1
 have hp := hp.below e2
 refine wmv h rfl fun a h => ?_
 refine wvl h (ext h rfl rfl) fun a h => ?_
 refine wvl h (ext h rfl rfl) fun a h => ?_
 refine wl (all h hp zc39 fun a w13 g2 hg2 h hp => ?_)
 refine wl (sta h hp rfl rfl 1 rfl sz39 rfl rfl fun w14 hp => ?_)
 refine wsn h rfl fun a h => ?_
 refine wp_seq ?_
 refine rg ?_
 refine wmv h rfl fun a h => ?_
 refine wvl h (nei h rfl rfl) fun a h => ?_
 refine wn ?_
 refine cnd1 h rfl (fun hb6 => ?_) (fun hb6 => ?_)
 ·exact absurd hb6 (by first | decide | (simp; done))
 refine skp ?_
 refine cutN (fun a w' => ∃ ga gb gc : Nat, Has [] 161 a [(1, s2.v), (2, .int .i64 t), (3, .int .i64 lm), (4, .pointer (some ⟨g1, 0, none⟩)), (9, .pointer (some ⟨g2, 0, none⟩)), (11, .pointer (some ⟨ga, 0, none⟩)), (12, .pointer (some ⟨gb, 0, none⟩)), (13, .pointer (some ⟨gc, 0, none⟩))] ∧ Hp c0 w w' [.blk g1 (.cells #[x.b.v, .int .i64 e.nnum, .int .i64 e.nden, .int .i64 e.nstart, x.s.v, x.m.v, x.n.v, x.f.v, .int .i64 e.new, .int .i64 e.full, .int .i64 e.wide] 32 (0, 0)), .blk g2 (.cells #[.int .i64 (off e st t).sun, .int .i64 (off e st t).moon, .int .i64 (off e st t).node] 39 (0, 0)), .blk ga (.cells #[.int .i64 b0.1.den, .int .i64 b0.1.num] 43 (0, 0)), .blk gb (.cells #[.int .i64 b1.1.den, .int .i64 b1.1.num] 43 (0, 0)), .blk gc (.cells #[.int .i64 e.nden, .int .i64 e.nnum] 43 (0, 0))]) ?_ ?_
 ·refine rdh1 (n := 25) hp mixed rfl ?_
  have hp := hp.drew
  refine tkq 0 h rfl hp (fun W _ => fad h rfl fo32_0) fun a h => ?_
  refine tkq 1 h rfl hp (fun W _ => fad h rfl fo28_0) fun a h => ?_
  refine tkq 2 h rfl hp (fun W hp => ldo h hp rfl 0 rfl rfl ag22) fun a h => ?_
  refine tkq 3 h rfl hp (fun W hp => iadR (0) h rfl rfl Tryz.underlying22 sz46 (hG.keep hp cl0).sky.b (rfl) (by omega)) fun a h => ?_
  refine tkq 4 h rfl hp (fun W _ => fad h rfl fo46_0) fun a h => ?_
  refine tkq 5 h rfl hp (fun W hp => ldFn 0 [_, _] h (hG.keep hp cl0).sky.b hB0 rfl ag24 sz24 rfl) fun a h => ?_
  refine tkq 7 h rfl hp (fun W _ => fad h rfl fo32_0) fun a h => ?_
  refine tkq 8 h rfl hp (fun W _ => fad h rfl fo28_0) fun a h => ?_
  refine tkq 9 h rfl hp (fun W hp => ldo h hp rfl 0 rfl rfl ag22) fun a h => ?_
  refine tkq 10 h rfl hp (fun W hp => iadR (1) h rfl rfl Tryz.underlying22 sz46 (hG.keep hp cl0).sky.b (rfl) (by omega)) fun a h => ?_
  refine tkq 11 h rfl hp (fun W _ => fad h rfl fo46_0) fun a h => ?_
  refine tkq 12 h rfl hp (fun W hp => ldFn 0 [_, _] h (hG.keep hp cl0).sky.b hB1 rfl ag24 sz24 rfl) fun a h => ?_
  refine tkq 14 h rfl hp (fun W _ => fad h rfl fo32_0) fun a h => ?_
  refine tkq 15 h rfl hp (fun W _ => fad h rfl fo28_1) fun a h => ?_
  refine tkq 16 h rfl hp (fun W _ => fad h rfl fo26_0) fun a h => ?_
  refine tkq 17 h rfl hp (fun W hp => ldO (us := [_, _]) h hp rfl 0 rfl sz24 rfl ag24) fun a h => ?_
  refine rdR (r := 3) (fu := 12) [6, 13, 18, 19, 20, 21] [(6, some (.agg #[.int .i64 b0.1.den, .int .i64 b0.1.num])), (13, some (.agg #[.int .i64 b1.1.den, .int .i64 b1.1.num])), (18, some (.agg #[.int .i64 e.nden, .int .i64 e.nnum])), (19, none), (20, none), (21, none)] #[.int .i64 0, .int .i64 0] 43 [(1, s2.v), (2, .int .i64 t), (3, .int .i64 lm), (4, .pointer (some ⟨g1, 0, none⟩)), (9, .pointer (some ⟨g2, 0, none⟩)), (58, .agg #[.int .i64 b0.1.num, .int .i64 b0.1.den]), (65, .agg #[.int .i64 b1.1.num, .int .i64 b1.1.den]), (70, .agg #[.int .i64 e.nnum, .int .i64 e.nden])] h ⟨rfl, rfl, rfl, rfl, rfl, rfl, rfl, rfl, trivial⟩ hp (by kernel_rfl) (by decide) ⟨⟨_, rfl, ?_⟩, ⟨_, rfl, ?_⟩, ⟨_, rfl, ?_⟩, ⟨_, rfl, ?_⟩, ⟨_, rfl, ?_⟩, ⟨_, rfl, ?_⟩, trivial⟩ ?_
  ·intro a w16 h hp
   refine cal h rfl en22 (Target_R _ _ _) fun u w9 ⟨e1, e2⟩ a h => ?_
   subst e1
   exact ⟨e2, h.sub ⟨rfl, rfl, rfl, rfl, rfl, rfl, rfl, rfl, trivial⟩, _, h.get 59 _ rfl, rfl, fun q => nomatch (show some (some _) = (some none : Option (Option Value)) from q)⟩
  ·intro a w17 h hp
   refine cal h rfl en22 (Target_R _ _ _) fun u w9 ⟨e1, e2⟩ a h => ?_
   subst e1
   exact ⟨e2, h.sub ⟨rfl, rfl, rfl, rfl, rfl, rfl, rfl, rfl, trivial⟩, _, h.get 66 _ rfl, rfl, fun q => nomatch (show some (some _) = (some none : Option (Option Value)) from q)⟩
  ·intro a w18 h hp
   refine cal h rfl en22 (Target_R _ _ _) fun u w9 ⟨e1, e2⟩ a h => ?_
   subst e1
   exact ⟨e2, h.sub ⟨rfl, rfl, rfl, rfl, rfl, rfl, rfl, rfl, trivial⟩, _, h.get 71 _ rfl, rfl, fun q => nomatch (show some (some _) = (some none : Option (Option Value)) from q)⟩
  ·intro a w19 h hp
   exact all h (Hp.start (c := c0) trivial) zc43 fun a w9 g9 hg9 h hq => ⟨hq.bel, h.sub ⟨rfl, rfl, rfl, rfl, rfl, rfl, rfl, rfl, trivial⟩, _, h.get 11 _ rfl, ⟨g9, rfl, Nat.le_trans hp.size hg9, hp.fresh (q := .blk g9 _) (by rintro k rfl; exact hg9), hq.fact (i := 0) rfl⟩, fun _ => ⟨g9, rfl, hg9⟩⟩
  ·intro a w20 h hp
   exact all h (Hp.start (c := c0) trivial) zc43 fun a w9 g9 hg9 h hq => ⟨hq.bel, h.sub ⟨rfl, rfl, rfl, rfl, rfl, rfl, rfl, rfl, trivial⟩, _, h.get 12 _ rfl, ⟨g9, rfl, Nat.le_trans hp.size hg9, hp.fresh (q := .blk g9 _) (by rintro k rfl; exact hg9), hq.fact (i := 0) rfl⟩, fun _ => ⟨g9, rfl, hg9⟩⟩
  ·intro a w21 h hp
   exact all h (Hp.start (c := c0) trivial) zc43 fun a w9 g9 hg9 h hq => ⟨hq.bel, h.sub ⟨rfl, rfl, rfl, rfl, rfl, rfl, rfl, rfl, trivial⟩, _, h.get 13 _ rfl, ⟨g9, rfl, Nat.le_trans hp.size hg9, hp.fresh (q := .blk g9 _) (by rintro k rfl; exact hg9), hq.fact (i := 0) rfl⟩, fun _ => ⟨g9, rfl, hg9⟩⟩
  intro a w22 h hp hf hr
  obtain ⟨v0, hv0, ev0⟩ := hf 6 (by decide)
  have ev0 : v0 = .agg #[.int .i64 b0.1.den, .int .i64 b0.1.num] := ev0
  subst ev0
  have h := h.also (t := 59) hv0
  obtain ⟨v1, hv1, ev1⟩ := hf 13 (by decide)
  have ev1 : v1 = .agg #[.int .i64 b1.1.den, .int .i64 b1.1.num] := ev1
  subst ev1
  have h := h.also (t := 66) hv1
  obtain ⟨v2, hv2, ev2⟩ := hf 18 (by decide)
  have ev2 : v2 = .agg #[.int .i64 e.nden, .int .i64 e.nnum] := ev2
  subst ev2
  have h := h.also (t := 71) hv2
  obtain ⟨v3, hv3, ev3⟩ := hf 19 (by decide)
  obtain ⟨ga, rfl, bga, pga, fga⟩ := ev3
  have h := h.also (t := 11) hv3
  obtain ⟨v4, hv4, ev4⟩ := hf 20 (by decide)
  obtain ⟨gb, rfl, bgb, pgb, fgb⟩ := ev4
  have h := h.also (t := 12) hv4
  obtain ⟨v5, hv5, ev5⟩ := hf 21 (by decide)
  obtain ⟨gc, rfl, bgc, pgc, fgc⟩ := ev5
  have h := h.also (t := 13) hv5
  have ngagb : ga ≠ gb := hr 19 (by decide) 20 (by decide) (by decide) _ _ hv3 hv4 rfl rfl _ _ rfl rfl
  have ngagc : ga ≠ gc := hr 19 (by decide) 21 (by decide) (by decide) _ _ hv3 hv5 rfl rfl _ _ rfl rfl
  have ngbgc : gb ≠ gc := hr 20 (by decide) 21 (by decide) (by decide) _ _ hv4 hv5 rfl rfl _ _ rfl rfl
  have hp := hp.add3 pga pgb pgc bga bgb bgc fga fgb fgc ngagb ngagc ngbgc
  refine one 22 (by kernel_rfl) rfl (sta h hp rfl rfl 2 rfl sz43 rfl rfl fun w23 hp => ⟨((hp).pre 2 rfl), ?_⟩)
  refine one 23 (by kernel_rfl) rfl (sta h hp rfl rfl 3 rfl sz43 rfl rfl fun w24 hp => ⟨((hp).pre 2 rfl), ?_⟩)
  refine one 24 (by kernel_rfl) rfl (sta h hp rfl rfl 4 rfl sz43 rfl rfl fun w25 hp => ⟨((hp).pre 2 rfl), ?_⟩)
  refine dn (by kernel_rfl) ?_
  exact ⟨ga, gb, gc, h.sub ⟨rfl, rfl, rfl, rfl, rfl, rfl, rfl, rfl, trivial⟩, hp.pick [0, 1, 2, 3, 4] (by decide) rfl⟩
 rintro a w15 ⟨ga, gb, gc, h, hp⟩
 refine wp_seq ?_
 refine rg ?_
 refine wvl h (fad h rfl fo32_1) fun a h => ?_
 refine wvl h (ldo h hp rfl 0 rfl rfl ag29) fun a h => ?_
 refine wvl h (ldO (us := [_, _]) h hp rfl 2 rfl sz43 rfl ag43) fun a h => ?_
 refine wmv h rfl fun a h => ?_
 refine wvl h (fad h rfl fo32_4) fun a h => ?_
 refine wvl h (ldo h hp rfl 0 rfl rfl ag30) fun a h => ?_
 refine wm2 h rfl rfl rfl rfl fun a h => ?_
 refine wl (cal h rfl en23 (Keeps_T _ _ _ _ _ _ _ _ _ _ _ (hE0.keep hp cl0).g.s (hE0.keep hp cl0).g.f (hE0.keep hp cl0).s hfe (isSet_rise hse) t1 f0 hlm (by omega)) fun u w26 ⟨e1, e2⟩ a h => ?_)
 subst e1
 have hp := hp.below e2
 refine wmv h rfl fun a h => ?_
 refine split (t := 81) h rfl (fun hb7 => ?_) (fun hb7 => ?_)
 ·have hk1 := hb7
  refine wl (stp_on h rfl rfl rfl hb7 (vl h (fad h rfl fo39_0) fun a h => ?_))
  refine wl (stp_on h rfl rfl rfl hb7 (vl h (ldo h hp rfl 1 rfl rfl ag3) fun a h => ?_))
  refine wl (stp_on h rfl rfl rfl hb7 (vl h (mov h rfl) fun a h => ?_))
  refine wl (stp_on h rfl rfl rfl hb7 (cal h rfl en24 (kept_L _ _ _ (by omega)) fun u w27 ⟨e1, e2⟩ a h => ?_))
  subst e1
  subst e2
  refine wl (stp_on h rfl rfl rfl hb7 (vl h (not_ h rfl) fun a h => ?_))
  refine wvl h (pckT h rfl hb7 rfl) fun a h => ?_
  refine wmv h rfl fun a h => ?_
  refine split (t := 88) h rfl (fun hb8 => ?_) (fun hb8 => ?_)
  ·exact absurd hb8 (by first | decide | (rw [hoS]; first | (have hq9 := kept_off (near_of_keeps hfe hse hgd.s0 (by omega) hlm.1 hld.1 (Int.le_refl _) hk1) hlm.1 hlm.2; simp [hq9]; done) | (have hq9 := kept_off (near_of_keeps hfe hse hgd.s0 (by omega) hlm.1 hld.1 (Int.le_refl _) hk1).symm hlm.1 hlm.2; simp [hq9]; done)))
  refine wl (stp_on h rfl rfl rfl hb8 (vl h (fad h rfl fo32_2) fun a h => ?_))
  refine wl (stp_on h rfl rfl rfl hb8 (vl h (ldo h hp rfl 0 rfl rfl ag29) fun a h => ?_))
  refine wl (stp_on h rfl rfl rfl hb8 (vl h (ldO (us := [_, _]) h hp rfl 3 rfl sz43 rfl ag43) fun a h => ?_))
  refine wl (stp_on h rfl rfl rfl hb8 (vl h (mov h rfl) fun a h => ?_))
  refine wl (stp_on h rfl rfl rfl hb8 (vl h (fad h rfl fo32_4) fun a h => ?_))
  refine wl (stp_on h rfl rfl rfl hb8 (vl h (ldo h hp rfl 0 rfl rfl ag30) fun a h => ?_))
  refine wl (stp_on h rfl rfl rfl hb8 (vl h (mov h rfl) fun a h => ?_))
  refine wl (stp_on h rfl rfl rfl hb8 (vl h (mov h rfl) fun a h => ?_))
  refine wl (stp_on h rfl rfl rfl hb8 (cal h rfl en23 (Keeps_T _ _ _ _ _ _ _ _ _ _ _ (hE0.keep hp cl0).g.m (hE0.keep hp cl0).g.f (hE0.keep hp cl0).s hfe (isSet_rise hse) t2 f1 hlm (by omega)) fun u w28 ⟨e1, e2⟩ a h => ?_))
  subst e1
  have hp := hp.below e2
  refine wl (stp_on h rfl rfl rfl hb8 (vl h (mov h rfl) fun a h => ?_))
  refine split (t := 98) h rfl (fun hb9 => ?_) (fun hb9 => ?_)
  ·have hk2 := hb9
   refine wl (stp_on h rfl rfl rfl hb9 (vl h (fad h rfl fo39_1) fun a h => ?_))
   refine wl (stp_on h rfl rfl rfl hb9 (vl h (ldo h hp rfl 1 rfl rfl ag3) fun a h => ?_))
   refine wl (stp_on h rfl rfl rfl hb9 (vl h (mov h rfl) fun a h => ?_))
   refine wl (stp_on h rfl rfl rfl hb9 (cal h rfl en24 (kept_L _ _ _ (by omega)) fun u w29 ⟨e1, e2⟩ a h => ?_))
   subst e1
   subst e2
   refine wl (stp_on h rfl rfl rfl hb9 (vl h (not_ h rfl) fun a h => ?_))
   refine wl (stp_on h rfl rfl rfl hb8 (vl h (pckT h rfl hb9 rfl) fun a h => ?_))
   refine wvl h (pckF h rfl hb8 rfl) fun a h => ?_
   refine wmv h rfl fun a h => ?_
   refine split (t := 106) h rfl (fun hb10 => ?_) (fun hb10 => ?_)
   ·exact absurd hb10 (by first | decide | (rw [hoM]; first | (have hq9 := kept_off (near_of_keeps hfe hse hgd.m0 (by omega) hlm.1 hld.1 (Int.le_refl _) hk2) hlm.1 hlm.2; simp [hq9]; done) | (have hq9 := kept_off (near_of_keeps hfe hse hgd.m0 (by omega) hlm.1 hld.1 (Int.le_refl _) hk2).symm hlm.1 hlm.2; simp [hq9]; done)))
   refine wl (stp_on h rfl rfl rfl hb10 (vl h (fad h rfl fo32_3) fun a h => ?_))
   refine wl (stp_on h rfl rfl rfl hb10 (vl h (ldo h hp rfl 0 rfl rfl ag29) fun a h => ?_))
   refine wl (stp_on h rfl rfl rfl hb10 (vl h (ldO (us := [_, _]) h hp rfl 4 rfl sz43 rfl ag43) fun a h => ?_))
   refine wl (stp_on h rfl rfl rfl hb10 (vl h (mov h rfl) fun a h => ?_))
   refine wl (stp_on h rfl rfl rfl hb10 (vl h (fad h rfl fo32_4) fun a h => ?_))
   refine wl (stp_on h rfl rfl rfl hb10 (vl h (ldo h hp rfl 0 rfl rfl ag30) fun a h => ?_))
   refine wl (stp_on h rfl rfl rfl hb10 (vl h (mov h rfl) fun a h => ?_))
   refine wl (stp_on h rfl rfl rfl hb10 (vl h (mov h rfl) fun a h => ?_))
   refine wl (stp_on h rfl rfl rfl hb10 (cal h rfl en23 (Keeps_T _ _ _ _ _ _ _ _ _ _ _ (hE0.keep hp cl0).g.n (hE0.keep hp cl0).g.f (hE0.keep hp cl0).s hfe (isSet_rise hse) t3 f2 hlm (by omega)) fun u w30 ⟨e1, e2⟩ a h => ?_))
   subst e1
   have hp := hp.below e2
   refine wl (stp_on h rfl rfl rfl hb10 (vl h (mov h rfl) fun a h => ?_))
   refine split (t := 116) h rfl (fun hb11 => ?_) (fun hb11 => ?_)
   ·have hk3 := hb11
    refine wl (stp_on h rfl rfl rfl hb11 (vl h (fad h rfl fo39_2) fun a h => ?_))
    refine wl (stp_on h rfl rfl rfl hb11 (vl h (ldo h hp rfl 1 rfl rfl ag3) fun a h => ?_))
    refine wl (stp_on h rfl rfl rfl hb11 (vl h (mov h rfl) fun a h => ?_))
    refine wl (stp_on h rfl rfl rfl hb11 (cal h rfl en24 (kept_L _ _ _ (by omega)) fun u w31 ⟨e1, e2⟩ a h => ?_))
    subst e1
    subst e2
    refine wl (stp_on h rfl rfl rfl hb11 (vl h (not_ h rfl) fun a h => ?_))
    refine wl (stp_on h rfl rfl rfl hb10 (vl h (pckT h rfl hb11 rfl) fun a h => ?_))
    refine wvl h (pckF h rfl hb10 rfl) fun a h => ?_
    refine wn ?_
    refine cnd1 h rfl (fun hb12 => ?_) (fun hb12 => ?_)
    ·exact absurd hb12 (by first | decide | (rw [hoN]; first | (have hq9 := kept_off (near_of_keeps hfe hse hgd.n0 (by omega) hlm.1 hld.1 (Int.le_refl _) hk3) hlm.1 hlm.2; simp [hq9]; done) | (have hq9 := kept_off (near_of_keeps hfe hse hgd.n0 (by omega) hlm.1 hld.1 (Int.le_refl _) hk3).symm hlm.1 hlm.2; simp [hq9]; done)))
    refine skp ?_
    refine wp_seq ?_
    refine rg ?_
    refine wsn h rfl fun a h => ?_
    refine lp1 h [1, 4, 123] (fun n f w' => ∃ k : Nat, k ≤ st.length ∧ n = st.length - k ∧ f = [(14, .int .i64 k)] ∧ Hp c0 w w' ([.blk g1 (.cells #[x.b.v, .int .i64 e.nnum, .int .i64 e.nden, .int .i64 e.nstart, x.s.v, x.m.v, x.n.v, x.f.v, .int .i64 e.new, .int .i64 e.full, .int .i64 e.wide] 32 (0, 0)), .blk g2 (.cells #[.int .i64 (off e st t).sun, .int .i64 (off e st t).moon, .int .i64 (off e st t).node] 39 (0, 0)), .blk ga (.cells #[.int .i64 b0.1.den, .int .i64 b0.1.num] 43 (0, 0)), .blk gb (.cells #[.int .i64 b1.1.den, .int .i64 b1.1.num] 43 (0, 0)), .blk gc (.cells #[.int .i64 e.nden, .int .i64 e.nnum] 43 (0, 0))]) ∧ True) (st.length) [(14, .int .i64 ((0 : Nat) : Int))] ⟨rfl, rfl, rfl, rfl, trivial⟩ ⟨0, Nat.zero_le _, rfl, rfl, hp, trivial⟩ ?_
    rintro n f a w32 ⟨k, hk, rfl, rfl, hp, _⟩ h
    have hfit := hS2.fits
    refine wp_seq ?_
    refine rg ?_
    refine wm2 h rfl rfl rfl rfl fun a h => ?_
    refine wvl h (lenR h rfl Tryz.underlying30 (hS2.keep (by decide) hp cl0)) fun a h => ?_
    refine wvl h (lss h rfl rfl) fun a h => ?_
    refine wn ?_
    refine cnd1 h rfl (fun hb13 => ?_) (fun hb13 => ?_)
    ·have hlt : k < st.length := by have := of_decide_eq_true hb13; omega
     obtain ⟨y, hy⟩ : ∃ y, st[k]? = some y := ⟨_, List.getElem?_eq_getElem hlt⟩
     obtain ⟨hy0, hy1, z, hz, hz0⟩ := set_at hse (List.mem_of_getElem? hy)
     have hzb := hsF.2 _ (List.mem_map_of_mem (f := at0 e.feasts) (List.mem_of_getElem? hy))
     have hos := off_set ok hse (List.mem_of_getElem? hy)
     rw [hz0] at hzb hos
     refine skp ?_
     refine blk ?_
     refine wp_seq ?_
     refine rdh (n := 9) hp mixed rfl ?_
     have hp := hp.drew
     refine tkq 0 h rfl hp (fun W _ => fad h rfl fo32_4) fun a h => ?_
     refine tkq 1 h rfl hp (fun W hp => ldo h hp rfl 0 rfl rfl ag30) fun a h => ?_
     refine tkm 2 h rfl hp rfl fun a h => ?_
     refine tkm 3 h rfl hp rfl fun a h => ?_
     refine tkq 4 h rfl hp (fun W hp => iadR (k) h rfl rfl Tryz.underlying30 sz3 (hS2.keep (by decide) hp cl0) (rfl) (hlt)) fun a h => ?_
     refine tkq 5 h rfl hp (fun W hp => ld0 h (hS2.keep (by decide) hp cl0) hy rfl ag3 rfl) fun a h => ?_
     refine tkq 6 h rfl hp (fun W hp => iadR (y.toNat) h rfl rfl Tryz.underlying30 sz3 (hG.keep hp cl0).f (by omega) (by omega)) fun a h => ?_
     refine tkq 7 h rfl hp (fun W hp => ld0 h (hG.keep hp cl0).f hz rfl ag3 rfl) fun a h => ?_
     refine tkq 8 h rfl hp (fun W _ => gtr h rfl rfl) fun a h => ?_
     refine dn (by kernel_rfl) ?_
     refine cnd1 h rfl (fun hb14 => ?_) (fun hb14 => ?_)
     ·refine wp_exit ?_
      try simp only [xqs, ↓reduceIte, Nat.reduceEqDiff]
      refine rg1 ?_
      refine wmv h rfl fun a h => ?_
      refine wvl h (add h rfl rfl (by omega)) fun a h => ?_
      refine wsn h rfl fun a h => ?_
      exact ⟨_, _, (by omega), ⟨k + 1, by omega, rfl, rfl, hp.pre 5 rfl, trivial⟩, h.sub ⟨rfl, rfl, rfl, rfl, trivial⟩⟩
     have hzd : isDay z = true := by have := of_decide_eq_false hb14; simp only [isDay, inR, Bool.and_eq_true, decide_eq_true_eq]; omega
     refine skp ?_
     refine rdh (n := 17) hp mixed rfl ?_
     have hp := hp.drew
     refine tkq 0 h rfl hp (fun W hp => ldO (us := [_, _, _, _, _, _, _, _, _, _, _]) h hp rfl 0 rfl sz32 rfl ag32) fun a h => ?_
     refine tkm 1 h rfl hp rfl fun a h => ?_
     refine tkq 2 h rfl hp (fun W _ => fad h rfl fo32_4) fun a h => ?_
     refine tkq 3 h rfl hp (fun W hp => ldo h hp rfl 0 rfl rfl ag30) fun a h => ?_
     refine tkm 4 h rfl hp rfl fun a h => ?_
     refine tkm 5 h rfl hp rfl fun a h => ?_
     refine tkq 6 h rfl hp (fun W hp => iadR (k) h rfl rfl Tryz.underlying30 sz3 (hS2.keep (by decide) hp cl0) (rfl) (hlt)) fun a h => ?_
     refine tkq 7 h rfl hp (fun W hp => ld0 h (hS2.keep (by decide) hp cl0) hy rfl ag3 rfl) fun a h => ?_
     refine tkq 8 h rfl hp (fun W hp => iadR (y.toNat) h rfl rfl Tryz.underlying30 sz3 (hG.keep hp cl0).f (by omega) (by omega)) fun a h => ?_
     refine tkq 9 h rfl hp (fun W hp => ld0 h (hG.keep hp cl0).f hz rfl ag3 rfl) fun a h => ?_
     refine two 10 14 (by kernel_rfl) rfl rfl ?_ ?_
     ·refine (cal h rfl en21 (Off_s x e s2 st z _ (hE0.keep hp cl0) hzd) fun u w33 ⟨e1, e2⟩ a h => ⟨hp.below e2, ?_⟩)
      subst e1
      have hp := hp.below e2
      refine tkm 11 h rfl hp rfl fun a h => ?_
      refine tkq 12 h rfl hp (fun W _ => ext h rfl rfl) fun a h => ?_
      refine tkq 13 h rfl hp (fun W _ => ext h rfl rfl) fun a h => ?_
      refine one 14 (by kernel_rfl) rfl (all h hp zc39 fun a w34 g3 hg3 h hp => ⟨((hp).pre 5 rfl), ?_⟩)
      refine one 15 (by kernel_rfl) rfl (sta h hp rfl rfl 5 rfl sz39 rfl rfl fun w35 hp => ⟨((hp).pre 5 rfl), ?_⟩)
      refine tka 16 h rfl ((hp).pre 5 rfl) rfl fun a h => ?_
      refine dn (by kernel_rfl) ?_
      refine rg ?_
      refine wmv h rfl fun a h => ?_
      refine wvl h (nei h rfl rfl) fun a h => ?_
      refine wmv h rfl fun a h => ?_
      refine split (t := 155) h rfl (fun hb15 => ?_) (fun hb15 => ?_)
      ·exact absurd hb15 (by first | decide | (simp; done))
      refine wl (stp_on h rfl rfl rfl hb15 (vl h (ldO (us := [_, _, _]) h hp rfl 5 rfl sz39 rfl ag39) fun a h => ?_))
      refine wl (stp_on h rfl rfl rfl hb15 (vl h (bld h rfl (bl39_ _)) fun a h => ?_))
      refine wl (stp_on h rfl rfl rfl hb15 (vl h (neS h rfl rfl (by kernel_rfl) (eqs39 _ _ _ _ _ _)) fun a h => ?_))
      refine wvl h (pckF h rfl hb15 rfl) fun a h => ?_
      refine wn ?_
      refine cnd1 h rfl (fun hb16 => ?_) (fun hb16 => ?_)
      ·exact absurd hb16 (by rw [hos]; first | decide | simp)
      refine wp_skip ?_
      refine rg1 ?_
      refine wmv h rfl fun a h => ?_
      refine wvl h (add h rfl rfl (by omega)) fun a h => ?_
      refine wsn h rfl fun a h => ?_
      exact ⟨_, _, (by omega), ⟨k + 1, by omega, rfl, rfl, hp.pre 5 rfl, trivial⟩, h.sub ⟨rfl, rfl, rfl, rfl, trivial⟩⟩
     refine (all h hp zc39 fun a w36 g4 hg4 h hp => ⟨((hp).pre 5 rfl), ?_⟩)
     refine one 10 (by kernel_rfl) rfl (cal h rfl en21 (Off_s x e s2 st z _ (hE0.keep hp cl0) hzd) fun u w37 ⟨e1, e2⟩ a h => ⟨((hp.below e2).pre 5 rfl), ?_⟩)
     subst e1
     have hp := hp.below e2
     refine tkm 11 h rfl ((hp).pre 5 rfl) rfl fun a h => ?_
     refine tkq 12 h rfl ((hp).pre 5 rfl) (fun W _ => ext h rfl rfl) fun a h => ?_
     refine tkq 13 h rfl ((hp).pre 5 rfl) (fun W _ => ext h rfl rfl) fun a h => ?_
     refine one 15 (by kernel_rfl) rfl (sta h hp rfl rfl 5 rfl sz39 rfl rfl fun w38 hp => ⟨((hp).pre 5 rfl), ?_⟩)
     refine tka 16 h rfl ((hp).pre 5 rfl) rfl fun a h => ?_
     refine dn (by kernel_rfl) ?_
     refine rg ?_
     refine wmv h rfl fun a h => ?_
     refine wvl h (nei h rfl rfl) fun a h => ?_
     refine wmv h rfl fun a h => ?_
     refine split (t := 155) h rfl (fun hb17 => ?_) (fun hb17 => ?_)
     ·exact absurd hb17 (by first | decide | (simp; done))
     refine wl (stp_on h rfl rfl rfl hb17 (vl h (ldO (us := [_, _, _]) h hp rfl 5 rfl sz39 rfl ag39) fun a h => ?_))
     refine wl (stp_on h rfl rfl rfl hb17 (vl h (bld h rfl (bl39_ _)) fun a h => ?_))
     refine wl (stp_on h rfl rfl rfl hb17 (vl h (neS h rfl rfl (by kernel_rfl) (eqs39 _ _ _ _ _ _)) fun a h => ?_))
     refine wvl h (pckF h rfl hb17 rfl) fun a h => ?_
     refine wn ?_
     refine cnd1 h rfl (fun hb18 => ?_) (fun hb18 => ?_)
     ·exact absurd hb18 (by rw [hos]; first | decide | simp)
     refine wp_skip ?_
     refine rg1 ?_
     refine wmv h rfl fun a h => ?_
     refine wvl h (add h rfl rfl (by omega)) fun a h => ?_
     refine wsn h rfl fun a h => ?_
     exact ⟨_, _, (by omega), ⟨k + 1, by omega, rfl, rfl, hp.pre 5 rfl, trivial⟩, h.sub ⟨rfl, rfl, rfl, rfl, trivial⟩⟩
    refine wp_exit ?_
    try simp only [xqs, ↓reduceIte, Nat.reduceEqDiff]
    refine rg ?_
    refine wl (cal h rfl en20 (known_L _ (hGl.keep hp)) fun u w39 ⟨e1, e2⟩ a h => ?_)
    subst e1
    have hp := hp.below e2
    refine wsn h rfl fun a h => ?_
    refine wp_ret ?_
    try simp only [xqs]
    refine rt_1 h rfl (rvT h rfl) ?_
    exact ⟨_, rfl, rfl, hp.bel⟩
   refine wl (stp_off h rfl rfl rfl rfl rfl hb11 fun a h => ?_)
   refine wl (stp_off h rfl rfl rfl rfl rfl hb11 fun a h => ?_)
   refine wl (stp_off h rfl rfl rfl rfl rfl hb11 fun a h => ?_)
   refine wl (stp_off h rfl rfl rfl rfl rfl hb11 fun a h => ?_)
   refine wl (stp_off h rfl rfl rfl rfl rfl hb11 fun a h => ?_)
   refine wl (stp_on h rfl rfl rfl hb10 (vl h (pckF h rfl hb11 rfl) fun a h => ?_))
   refine wvl h (pckF h rfl hb10 rfl) fun a h => ?_
   refine wn ?_
   refine cnd1 h rfl (fun e => nomatch e) (fun _ => ?_)
   refine skp ?_
   refine wp_seq ?_
   refine rg ?_
   refine wsn h rfl fun a h => ?_
   refine lp1 h [1, 4, 123] (fun n f w' => ∃ k : Nat, k ≤ st.length ∧ n = st.length - k ∧ f = [(14, .int .i64 k)] ∧ Hp c0 w w' ([.blk g1 (.cells #[x.b.v, .int .i64 e.nnum, .int .i64 e.nden, .int .i64 e.nstart, x.s.v, x.m.v, x.n.v, x.f.v, .int .i64 e.new, .int .i64 e.full, .int .i64 e.wide] 32 (0, 0)), .blk g2 (.cells #[.int .i64 (off e st t).sun, .int .i64 (off e st t).moon, .int .i64 (off e st t).node] 39 (0, 0)), .blk ga (.cells #[.int .i64 b0.1.den, .int .i64 b0.1.num] 43 (0, 0)), .blk gb (.cells #[.int .i64 b1.1.den, .int .i64 b1.1.num] 43 (0, 0)), .blk gc (.cells #[.int .i64 e.nden, .int .i64 e.nnum] 43 (0, 0))]) ∧ True) (st.length) [(14, .int .i64 ((0 : Nat) : Int))] ⟨rfl, rfl, rfl, rfl, trivial⟩ ⟨0, Nat.zero_le _, rfl, rfl, hp, trivial⟩ ?_
   rintro n f a w40 ⟨k, hk, rfl, rfl, hp, _⟩ h
   have hfit := hS2.fits
   refine wp_seq ?_
   refine rg ?_
   refine wm2 h rfl rfl rfl rfl fun a h => ?_
   refine wvl h (lenR h rfl Tryz.underlying30 (hS2.keep (by decide) hp cl0)) fun a h => ?_
   refine wvl h (lss h rfl rfl) fun a h => ?_
   refine wn ?_
   refine cnd1 h rfl (fun hb19 => ?_) (fun hb19 => ?_)
   ·have hlt : k < st.length := by have := of_decide_eq_true hb19; omega
    obtain ⟨y, hy⟩ : ∃ y, st[k]? = some y := ⟨_, List.getElem?_eq_getElem hlt⟩
    obtain ⟨hy0, hy1, z, hz, hz0⟩ := set_at hse (List.mem_of_getElem? hy)
    have hzb := hsF.2 _ (List.mem_map_of_mem (f := at0 e.feasts) (List.mem_of_getElem? hy))
    have hos := off_set ok hse (List.mem_of_getElem? hy)
    rw [hz0] at hzb hos
    refine skp ?_
    refine blk ?_
    refine wp_seq ?_
    refine rdh (n := 9) hp mixed rfl ?_
    have hp := hp.drew
    refine tkq 0 h rfl hp (fun W _ => fad h rfl fo32_4) fun a h => ?_
    refine tkq 1 h rfl hp (fun W hp => ldo h hp rfl 0 rfl rfl ag30) fun a h => ?_
    refine tkm 2 h rfl hp rfl fun a h => ?_
    refine tkm 3 h rfl hp rfl fun a h => ?_
    refine tkq 4 h rfl hp (fun W hp => iadR (k) h rfl rfl Tryz.underlying30 sz3 (hS2.keep (by decide) hp cl0) (rfl) (hlt)) fun a h => ?_
    refine tkq 5 h rfl hp (fun W hp => ld0 h (hS2.keep (by decide) hp cl0) hy rfl ag3 rfl) fun a h => ?_
    refine tkq 6 h rfl hp (fun W hp => iadR (y.toNat) h rfl rfl Tryz.underlying30 sz3 (hG.keep hp cl0).f (by omega) (by omega)) fun a h => ?_
    refine tkq 7 h rfl hp (fun W hp => ld0 h (hG.keep hp cl0).f hz rfl ag3 rfl) fun a h => ?_
    refine tkq 8 h rfl hp (fun W _ => gtr h rfl rfl) fun a h => ?_
    refine dn (by kernel_rfl) ?_
    refine cnd1 h rfl (fun hb20 => ?_) (fun hb20 => ?_)
    ·refine wp_exit ?_
     try simp only [xqs, ↓reduceIte, Nat.reduceEqDiff]
     refine rg1 ?_
     refine wmv h rfl fun a h => ?_
     refine wvl h (add h rfl rfl (by omega)) fun a h => ?_
     refine wsn h rfl fun a h => ?_
     exact ⟨_, _, (by omega), ⟨k + 1, by omega, rfl, rfl, hp.pre 5 rfl, trivial⟩, h.sub ⟨rfl, rfl, rfl, rfl, trivial⟩⟩
    have hzd : isDay z = true := by have := of_decide_eq_false hb20; simp only [isDay, inR, Bool.and_eq_true, decide_eq_true_eq]; omega
    refine skp ?_
    refine rdh (n := 17) hp mixed rfl ?_
    have hp := hp.drew
    refine tkq 0 h rfl hp (fun W hp => ldO (us := [_, _, _, _, _, _, _, _, _, _, _]) h hp rfl 0 rfl sz32 rfl ag32) fun a h => ?_
    refine tkm 1 h rfl hp rfl fun a h => ?_
    refine tkq 2 h rfl hp (fun W _ => fad h rfl fo32_4) fun a h => ?_
    refine tkq 3 h rfl hp (fun W hp => ldo h hp rfl 0 rfl rfl ag30) fun a h => ?_
    refine tkm 4 h rfl hp rfl fun a h => ?_
    refine tkm 5 h rfl hp rfl fun a h => ?_
    refine tkq 6 h rfl hp (fun W hp => iadR (k) h rfl rfl Tryz.underlying30 sz3 (hS2.keep (by decide) hp cl0) (rfl) (hlt)) fun a h => ?_
    refine tkq 7 h rfl hp (fun W hp => ld0 h (hS2.keep (by decide) hp cl0) hy rfl ag3 rfl) fun a h => ?_
    refine tkq 8 h rfl hp (fun W hp => iadR (y.toNat) h rfl rfl Tryz.underlying30 sz3 (hG.keep hp cl0).f (by omega) (by omega)) fun a h => ?_
    refine tkq 9 h rfl hp (fun W hp => ld0 h (hG.keep hp cl0).f hz rfl ag3 rfl) fun a h => ?_
    refine two 10 14 (by kernel_rfl) rfl rfl ?_ ?_
    ·refine (cal h rfl en21 (Off_s x e s2 st z _ (hE0.keep hp cl0) hzd) fun u w41 ⟨e1, e2⟩ a h => ⟨hp.below e2, ?_⟩)
     subst e1
     have hp := hp.below e2
     refine tkm 11 h rfl hp rfl fun a h => ?_
     refine tkq 12 h rfl hp (fun W _ => ext h rfl rfl) fun a h => ?_
     refine tkq 13 h rfl hp (fun W _ => ext h rfl rfl) fun a h => ?_
     refine one 14 (by kernel_rfl) rfl (all h hp zc39 fun a w42 g5 hg5 h hp => ⟨((hp).pre 5 rfl), ?_⟩)
     refine one 15 (by kernel_rfl) rfl (sta h hp rfl rfl 5 rfl sz39 rfl rfl fun w43 hp => ⟨((hp).pre 5 rfl), ?_⟩)
     refine tka 16 h rfl ((hp).pre 5 rfl) rfl fun a h => ?_
     refine dn (by kernel_rfl) ?_
     refine rg ?_
     refine wmv h rfl fun a h => ?_
     refine wvl h (nei h rfl rfl) fun a h => ?_
     refine wmv h rfl fun a h => ?_
     refine split (t := 155) h rfl (fun hb21 => ?_) (fun hb21 => ?_)
     ·exact absurd hb21 (by first | decide | (simp; done))
     refine wl (stp_on h rfl rfl rfl hb21 (vl h (ldO (us := [_, _, _]) h hp rfl 5 rfl sz39 rfl ag39) fun a h => ?_))
     refine wl (stp_on h rfl rfl rfl hb21 (vl h (bld h rfl (bl39_ _)) fun a h => ?_))
     refine wl (stp_on h rfl rfl rfl hb21 (vl h (neS h rfl rfl (by kernel_rfl) (eqs39 _ _ _ _ _ _)) fun a h => ?_))
     refine wvl h (pckF h rfl hb21 rfl) fun a h => ?_
     refine wn ?_
     refine cnd1 h rfl (fun hb22 => ?_) (fun hb22 => ?_)
     ·exact absurd hb22 (by rw [hos]; first | decide | simp)
     refine wp_skip ?_
     refine rg1 ?_
     refine wmv h rfl fun a h => ?_
     refine wvl h (add h rfl rfl (by omega)) fun a h => ?_
     refine wsn h rfl fun a h => ?_
     exact ⟨_, _, (by omega), ⟨k + 1, by omega, rfl, rfl, hp.pre 5 rfl, trivial⟩, h.sub ⟨rfl, rfl, rfl, rfl, trivial⟩⟩
    refine (all h hp zc39 fun a w44 g6 hg6 h hp => ⟨((hp).pre 5 rfl), ?_⟩)
    refine one 10 (by kernel_rfl) rfl (cal h rfl en21 (Off_s x e s2 st z _ (hE0.keep hp cl0) hzd) fun u w45 ⟨e1, e2⟩ a h => ⟨((hp.below e2).pre 5 rfl), ?_⟩)
    subst e1
    have hp := hp.below e2
    refine tkm 11 h rfl ((hp).pre 5 rfl) rfl fun a h => ?_
    refine tkq 12 h rfl ((hp).pre 5 rfl) (fun W _ => ext h rfl rfl) fun a h => ?_
    refine tkq 13 h rfl ((hp).pre 5 rfl) (fun W _ => ext h rfl rfl) fun a h => ?_
    refine one 15 (by kernel_rfl) rfl (sta h hp rfl rfl 5 rfl sz39 rfl rfl fun w46 hp => ⟨((hp).pre 5 rfl), ?_⟩)
    refine tka 16 h rfl ((hp).pre 5 rfl) rfl fun a h => ?_
    refine dn (by kernel_rfl) ?_
    refine rg ?_
    refine wmv h rfl fun a h => ?_
    refine wvl h (nei h rfl rfl) fun a h => ?_
    refine wmv h rfl fun a h => ?_
    refine split (t := 155) h rfl (fun hb23 => ?_) (fun hb23 => ?_)
    ·exact absurd hb23 (by first | decide | (simp; done))
    refine wl (stp_on h rfl rfl rfl hb23 (vl h (ldO (us := [_, _, _]) h hp rfl 5 rfl sz39 rfl ag39) fun a h => ?_))
    refine wl (stp_on h rfl rfl rfl hb23 (vl h (bld h rfl (bl39_ _)) fun a h => ?_))
    refine wl (stp_on h rfl rfl rfl hb23 (vl h (neS h rfl rfl (by kernel_rfl) (eqs39 _ _ _ _ _ _)) fun a h => ?_))
    refine wvl h (pckF h rfl hb23 rfl) fun a h => ?_
    refine wn ?_
    refine cnd1 h rfl (fun hb24 => ?_) (fun hb24 => ?_)
    ·exact absurd hb24 (by rw [hos]; first | decide | simp)
    refine wp_skip ?_
    refine rg1 ?_
    refine wmv h rfl fun a h => ?_
    refine wvl h (add h rfl rfl (by omega)) fun a h => ?_
    refine wsn h rfl fun a h => ?_
    exact ⟨_, _, (by omega), ⟨k + 1, by omega, rfl, rfl, hp.pre 5 rfl, trivial⟩, h.sub ⟨rfl, rfl, rfl, rfl, trivial⟩⟩
   refine wp_exit ?_
   try simp only [xqs, ↓reduceIte, Nat.reduceEqDiff]
   refine rg ?_
   refine wl (cal h rfl en20 (known_L _ (hGl.keep hp)) fun u w47 ⟨e1, e2⟩ a h => ?_)
   subst e1
   have hp := hp.below e2
   refine wsn h rfl fun a h => ?_
   refine wp_ret ?_
   try simp only [xqs]
   refine rt_1 h rfl (rvT h rfl) ?_
   exact ⟨_, rfl, rfl, hp.bel⟩
  refine wl (stp_off h rfl rfl rfl rfl rfl hb9 fun a h => ?_)
  refine wl (stp_off h rfl rfl rfl rfl rfl hb9 fun a h => ?_)
  refine wl (stp_off h rfl rfl rfl rfl rfl hb9 fun a h => ?_)
  refine wl (stp_off h rfl rfl rfl rfl rfl hb9 fun a h => ?_)
  refine wl (stp_off h rfl rfl rfl rfl rfl hb9 fun a h => ?_)
  refine wl (stp_on h rfl rfl rfl hb8 (vl h (pckF h rfl hb9 rfl) fun a h => ?_))
  refine wvl h (pckF h rfl hb8 rfl) fun a h => ?_
  refine wmv h rfl fun a h => ?_
  refine wl (stp_on h rfl rfl rfl rfl (vl h (fad h rfl fo32_3) fun a h => ?_))
  refine wl (stp_on h rfl rfl rfl rfl (vl h (ldo h hp rfl 0 rfl rfl ag29) fun a h => ?_))
  refine wl (stp_on h rfl rfl rfl rfl (vl h (ldO (us := [_, _]) h hp rfl 4 rfl sz43 rfl ag43) fun a h => ?_))
  refine wl (stp_on h rfl rfl rfl rfl (vl h (mov h rfl) fun a h => ?_))
  refine wl (stp_on h rfl rfl rfl rfl (vl h (fad h rfl fo32_4) fun a h => ?_))
  refine wl (stp_on h rfl rfl rfl rfl (vl h (ldo h hp rfl 0 rfl rfl ag30) fun a h => ?_))
  refine wl (stp_on h rfl rfl rfl rfl (vl h (mov h rfl) fun a h => ?_))
  refine wl (stp_on h rfl rfl rfl rfl (vl h (mov h rfl) fun a h => ?_))
  refine wl (stp_on h rfl rfl rfl rfl (cal h rfl en23 (Keeps_T _ _ _ _ _ _ _ _ _ _ _ (hE0.keep hp cl0).g.n (hE0.keep hp cl0).g.f (hE0.keep hp cl0).s hfe (isSet_rise hse) t3 f2 hlm (by omega)) fun u w48 ⟨e1, e2⟩ a h => ?_))
  subst e1
  have hp := hp.below e2
  refine wl (stp_on h rfl rfl rfl rfl (vl h (mov h rfl) fun a h => ?_))
  refine split (t := 116) h rfl (fun hb25 => ?_) (fun hb25 => ?_)
  ·have hk3 := hb25
   refine wl (stp_on h rfl rfl rfl hb25 (vl h (fad h rfl fo39_2) fun a h => ?_))
   refine wl (stp_on h rfl rfl rfl hb25 (vl h (ldo h hp rfl 1 rfl rfl ag3) fun a h => ?_))
   refine wl (stp_on h rfl rfl rfl hb25 (vl h (mov h rfl) fun a h => ?_))
   refine wl (stp_on h rfl rfl rfl hb25 (cal h rfl en24 (kept_L _ _ _ (by omega)) fun u w49 ⟨e1, e2⟩ a h => ?_))
   subst e1
   subst e2
   refine wl (stp_on h rfl rfl rfl hb25 (vl h (not_ h rfl) fun a h => ?_))
   refine wl (stp_on h rfl rfl rfl rfl (vl h (pckT h rfl hb25 rfl) fun a h => ?_))
   refine wvl h (pckF h rfl rfl rfl) fun a h => ?_
   refine wn ?_
   refine cnd1 h rfl (fun hb26 => ?_) (fun hb26 => ?_)
   ·exact absurd hb26 (by first | decide | (rw [hoN]; first | (have hq9 := kept_off (near_of_keeps hfe hse hgd.n0 (by omega) hlm.1 hld.1 (Int.le_refl _) hk3) hlm.1 hlm.2; simp [hq9]; done) | (have hq9 := kept_off (near_of_keeps hfe hse hgd.n0 (by omega) hlm.1 hld.1 (Int.le_refl _) hk3).symm hlm.1 hlm.2; simp [hq9]; done)))
   refine skp ?_
   refine wp_seq ?_
   refine rg ?_
   refine wsn h rfl fun a h => ?_
   refine lp1 h [1, 4, 123] (fun n f w' => ∃ k : Nat, k ≤ st.length ∧ n = st.length - k ∧ f = [(14, .int .i64 k)] ∧ Hp c0 w w' ([.blk g1 (.cells #[x.b.v, .int .i64 e.nnum, .int .i64 e.nden, .int .i64 e.nstart, x.s.v, x.m.v, x.n.v, x.f.v, .int .i64 e.new, .int .i64 e.full, .int .i64 e.wide] 32 (0, 0)), .blk g2 (.cells #[.int .i64 (off e st t).sun, .int .i64 (off e st t).moon, .int .i64 (off e st t).node] 39 (0, 0)), .blk ga (.cells #[.int .i64 b0.1.den, .int .i64 b0.1.num] 43 (0, 0)), .blk gb (.cells #[.int .i64 b1.1.den, .int .i64 b1.1.num] 43 (0, 0)), .blk gc (.cells #[.int .i64 e.nden, .int .i64 e.nnum] 43 (0, 0))]) ∧ True) (st.length) [(14, .int .i64 ((0 : Nat) : Int))] ⟨rfl, rfl, rfl, rfl, trivial⟩ ⟨0, Nat.zero_le _, rfl, rfl, hp, trivial⟩ ?_
   rintro n f a w50 ⟨k, hk, rfl, rfl, hp, _⟩ h
   have hfit := hS2.fits
   refine wp_seq ?_
   refine rg ?_
   refine wm2 h rfl rfl rfl rfl fun a h => ?_
   refine wvl h (lenR h rfl Tryz.underlying30 (hS2.keep (by decide) hp cl0)) fun a h => ?_
   refine wvl h (lss h rfl rfl) fun a h => ?_
   refine wn ?_
   refine cnd1 h rfl (fun hb27 => ?_) (fun hb27 => ?_)
   ·have hlt : k < st.length := by have := of_decide_eq_true hb27; omega
    obtain ⟨y, hy⟩ : ∃ y, st[k]? = some y := ⟨_, List.getElem?_eq_getElem hlt⟩
    obtain ⟨hy0, hy1, z, hz, hz0⟩ := set_at hse (List.mem_of_getElem? hy)
    have hzb := hsF.2 _ (List.mem_map_of_mem (f := at0 e.feasts) (List.mem_of_getElem? hy))
    have hos := off_set ok hse (List.mem_of_getElem? hy)
    rw [hz0] at hzb hos
    refine skp ?_
    refine blk ?_
    refine wp_seq ?_
    refine rdh (n := 9) hp mixed rfl ?_
    have hp := hp.drew
    refine tkq 0 h rfl hp (fun W _ => fad h rfl fo32_4) fun a h => ?_
    refine tkq 1 h rfl hp (fun W hp => ldo h hp rfl 0 rfl rfl ag30) fun a h => ?_
    refine tkm 2 h rfl hp rfl fun a h => ?_
    refine tkm 3 h rfl hp rfl fun a h => ?_
    refine tkq 4 h rfl hp (fun W hp => iadR (k) h rfl rfl Tryz.underlying30 sz3 (hS2.keep (by decide) hp cl0) (rfl) (hlt)) fun a h => ?_
    refine tkq 5 h rfl hp (fun W hp => ld0 h (hS2.keep (by decide) hp cl0) hy rfl ag3 rfl) fun a h => ?_
    refine tkq 6 h rfl hp (fun W hp => iadR (y.toNat) h rfl rfl Tryz.underlying30 sz3 (hG.keep hp cl0).f (by omega) (by omega)) fun a h => ?_
    refine tkq 7 h rfl hp (fun W hp => ld0 h (hG.keep hp cl0).f hz rfl ag3 rfl) fun a h => ?_
    refine tkq 8 h rfl hp (fun W _ => gtr h rfl rfl) fun a h => ?_
    refine dn (by kernel_rfl) ?_
    refine cnd1 h rfl (fun hb28 => ?_) (fun hb28 => ?_)
    ·refine wp_exit ?_
     try simp only [xqs, ↓reduceIte, Nat.reduceEqDiff]
     refine rg1 ?_
     refine wmv h rfl fun a h => ?_
     refine wvl h (add h rfl rfl (by omega)) fun a h => ?_
     refine wsn h rfl fun a h => ?_
     exact ⟨_, _, (by omega), ⟨k + 1, by omega, rfl, rfl, hp.pre 5 rfl, trivial⟩, h.sub ⟨rfl, rfl, rfl, rfl, trivial⟩⟩
    have hzd : isDay z = true := by have := of_decide_eq_false hb28; simp only [isDay, inR, Bool.and_eq_true, decide_eq_true_eq]; omega
    refine skp ?_
    refine rdh (n := 17) hp mixed rfl ?_
    have hp := hp.drew
    refine tkq 0 h rfl hp (fun W hp => ldO (us := [_, _, _, _, _, _, _, _, _, _, _]) h hp rfl 0 rfl sz32 rfl ag32) fun a h => ?_
    refine tkm 1 h rfl hp rfl fun a h => ?_
    refine tkq 2 h rfl hp (fun W _ => fad h rfl fo32_4) fun a h => ?_
    refine tkq 3 h rfl hp (fun W hp => ldo h hp rfl 0 rfl rfl ag30) fun a h => ?_
    refine tkm 4 h rfl hp rfl fun a h => ?_
    refine tkm 5 h rfl hp rfl fun a h => ?_
    refine tkq 6 h rfl hp (fun W hp => iadR (k) h rfl rfl Tryz.underlying30 sz3 (hS2.keep (by decide) hp cl0) (rfl) (hlt)) fun a h => ?_
    refine tkq 7 h rfl hp (fun W hp => ld0 h (hS2.keep (by decide) hp cl0) hy rfl ag3 rfl) fun a h => ?_
    refine tkq 8 h rfl hp (fun W hp => iadR (y.toNat) h rfl rfl Tryz.underlying30 sz3 (hG.keep hp cl0).f (by omega) (by omega)) fun a h => ?_
    refine tkq 9 h rfl hp (fun W hp => ld0 h (hG.keep hp cl0).f hz rfl ag3 rfl) fun a h => ?_
    refine two 10 14 (by kernel_rfl) rfl rfl ?_ ?_
    ·refine (cal h rfl en21 (Off_s x e s2 st z _ (hE0.keep hp cl0) hzd) fun u w51 ⟨e1, e2⟩ a h => ⟨hp.below e2, ?_⟩)
     subst e1
     have hp := hp.below e2
     refine tkm 11 h rfl hp rfl fun a h => ?_
     refine tkq 12 h rfl hp (fun W _ => ext h rfl rfl) fun a h => ?_
     refine tkq 13 h rfl hp (fun W _ => ext h rfl rfl) fun a h => ?_
     refine one 14 (by kernel_rfl) rfl (all h hp zc39 fun a w52 g7 hg7 h hp => ⟨((hp).pre 5 rfl), ?_⟩)
     refine one 15 (by kernel_rfl) rfl (sta h hp rfl rfl 5 rfl sz39 rfl rfl fun w53 hp => ⟨((hp).pre 5 rfl), ?_⟩)
     refine tka 16 h rfl ((hp).pre 5 rfl) rfl fun a h => ?_
     refine dn (by kernel_rfl) ?_
     refine rg ?_
     refine wmv h rfl fun a h => ?_
     refine wvl h (nei h rfl rfl) fun a h => ?_
     refine wmv h rfl fun a h => ?_
     refine split (t := 155) h rfl (fun hb29 => ?_) (fun hb29 => ?_)
     ·exact absurd hb29 (by first | decide | (simp; done))
     refine wl (stp_on h rfl rfl rfl hb29 (vl h (ldO (us := [_, _, _]) h hp rfl 5 rfl sz39 rfl ag39) fun a h => ?_))
     refine wl (stp_on h rfl rfl rfl hb29 (vl h (bld h rfl (bl39_ _)) fun a h => ?_))
     refine wl (stp_on h rfl rfl rfl hb29 (vl h (neS h rfl rfl (by kernel_rfl) (eqs39 _ _ _ _ _ _)) fun a h => ?_))
     refine wvl h (pckF h rfl hb29 rfl) fun a h => ?_
     refine wn ?_
     refine cnd1 h rfl (fun hb30 => ?_) (fun hb30 => ?_)
     ·exact absurd hb30 (by rw [hos]; first | decide | simp)
     refine wp_skip ?_
     refine rg1 ?_
     refine wmv h rfl fun a h => ?_
     refine wvl h (add h rfl rfl (by omega)) fun a h => ?_
     refine wsn h rfl fun a h => ?_
     exact ⟨_, _, (by omega), ⟨k + 1, by omega, rfl, rfl, hp.pre 5 rfl, trivial⟩, h.sub ⟨rfl, rfl, rfl, rfl, trivial⟩⟩
    refine (all h hp zc39 fun a w54 g8 hg8 h hp => ⟨((hp).pre 5 rfl), ?_⟩)
    refine one 10 (by kernel_rfl) rfl (cal h rfl en21 (Off_s x e s2 st z _ (hE0.keep hp cl0) hzd) fun u w55 ⟨e1, e2⟩ a h => ⟨((hp.below e2).pre 5 rfl), ?_⟩)
    subst e1
    have hp := hp.below e2
    refine tkm 11 h rfl ((hp).pre 5 rfl) rfl fun a h => ?_
    refine tkq 12 h rfl ((hp).pre 5 rfl) (fun W _ => ext h rfl rfl) fun a h => ?_
    refine tkq 13 h rfl ((hp).pre 5 rfl) (fun W _ => ext h rfl rfl) fun a h => ?_
    refine one 15 (by kernel_rfl) rfl (sta h hp rfl rfl 5 rfl sz39 rfl rfl fun w56 hp => ⟨((hp).pre 5 rfl), ?_⟩)
    refine tka 16 h rfl ((hp).pre 5 rfl) rfl fun a h => ?_
    refine dn (by kernel_rfl) ?_
    refine rg ?_
    refine wmv h rfl fun a h => ?_
    refine wvl h (nei h rfl rfl) fun a h => ?_
    refine wmv h rfl fun a h => ?_
    refine split (t := 155) h rfl (fun hb31 => ?_) (fun hb31 => ?_)
    ·exact absurd hb31 (by first | decide | (simp; done))
    refine wl (stp_on h rfl rfl rfl hb31 (vl h (ldO (us := [_, _, _]) h hp rfl 5 rfl sz39 rfl ag39) fun a h => ?_))
    refine wl (stp_on h rfl rfl rfl hb31 (vl h (bld h rfl (bl39_ _)) fun a h => ?_))
    refine wl (stp_on h rfl rfl rfl hb31 (vl h (neS h rfl rfl (by kernel_rfl) (eqs39 _ _ _ _ _ _)) fun a h => ?_))
    refine wvl h (pckF h rfl hb31 rfl) fun a h => ?_
    refine wn ?_
    refine cnd1 h rfl (fun hb32 => ?_) (fun hb32 => ?_)
    ·exact absurd hb32 (by rw [hos]; first | decide | simp)
    refine wp_skip ?_
    refine rg1 ?_
    refine wmv h rfl fun a h => ?_
    refine wvl h (add h rfl rfl (by omega)) fun a h => ?_
    refine wsn h rfl fun a h => ?_
    exact ⟨_, _, (by omega), ⟨k + 1, by omega, rfl, rfl, hp.pre 5 rfl, trivial⟩, h.sub ⟨rfl, rfl, rfl, rfl, trivial⟩⟩
   refine wp_exit ?_
   try simp only [xqs, ↓reduceIte, Nat.reduceEqDiff]
   refine rg ?_
   refine wl (cal h rfl en20 (known_L _ (hGl.keep hp)) fun u w57 ⟨e1, e2⟩ a h => ?_)
   subst e1
   have hp := hp.below e2
   refine wsn h rfl fun a h => ?_
   refine wp_ret ?_
   try simp only [xqs]
   refine rt_1 h rfl (rvT h rfl) ?_
   exact ⟨_, rfl, rfl, hp.bel⟩
  refine wl (stp_off h rfl rfl rfl rfl rfl hb25 fun a h => ?_)
  refine wl (stp_off h rfl rfl rfl rfl rfl hb25 fun a h => ?_)
  refine wl (stp_off h rfl rfl rfl rfl rfl hb25 fun a h => ?_)
  refine wl (stp_off h rfl rfl rfl rfl rfl hb25 fun a h => ?_)
  refine wl (stp_off h rfl rfl rfl rfl rfl hb25 fun a h => ?_)
  refine wl (stp_on h rfl rfl rfl rfl (vl h (pckF h rfl hb25 rfl) fun a h => ?_))
  refine wvl h (pckF h rfl rfl rfl) fun a h => ?_
  refine wn ?_
  refine cnd1 h rfl (fun e => nomatch e) (fun _ => ?_)
  refine skp ?_
  refine wp_seq ?_
  refine rg ?_
  refine wsn h rfl fun a h => ?_
  refine lp1 h [1, 4, 123] (fun n f w' => ∃ k : Nat, k ≤ st.length ∧ n = st.length - k ∧ f = [(14, .int .i64 k)] ∧ Hp c0 w w' ([.blk g1 (.cells #[x.b.v, .int .i64 e.nnum, .int .i64 e.nden, .int .i64 e.nstart, x.s.v, x.m.v, x.n.v, x.f.v, .int .i64 e.new, .int .i64 e.full, .int .i64 e.wide] 32 (0, 0)), .blk g2 (.cells #[.int .i64 (off e st t).sun, .int .i64 (off e st t).moon, .int .i64 (off e st t).node] 39 (0, 0)), .blk ga (.cells #[.int .i64 b0.1.den, .int .i64 b0.1.num] 43 (0, 0)), .blk gb (.cells #[.int .i64 b1.1.den, .int .i64 b1.1.num] 43 (0, 0)), .blk gc (.cells #[.int .i64 e.nden, .int .i64 e.nnum] 43 (0, 0))]) ∧ True) (st.length) [(14, .int .i64 ((0 : Nat) : Int))] ⟨rfl, rfl, rfl, rfl, trivial⟩ ⟨0, Nat.zero_le _, rfl, rfl, hp, trivial⟩ ?_
  rintro n f a w58 ⟨k, hk, rfl, rfl, hp, _⟩ h
  have hfit := hS2.fits
  refine wp_seq ?_
  refine rg ?_
  refine wm2 h rfl rfl rfl rfl fun a h => ?_
  refine wvl h (lenR h rfl Tryz.underlying30 (hS2.keep (by decide) hp cl0)) fun a h => ?_
  refine wvl h (lss h rfl rfl) fun a h => ?_
  refine wn ?_
  refine cnd1 h rfl (fun hb33 => ?_) (fun hb33 => ?_)
  ·have hlt : k < st.length := by have := of_decide_eq_true hb33; omega
   obtain ⟨y, hy⟩ : ∃ y, st[k]? = some y := ⟨_, List.getElem?_eq_getElem hlt⟩
   obtain ⟨hy0, hy1, z, hz, hz0⟩ := set_at hse (List.mem_of_getElem? hy)
   have hzb := hsF.2 _ (List.mem_map_of_mem (f := at0 e.feasts) (List.mem_of_getElem? hy))
   have hos := off_set ok hse (List.mem_of_getElem? hy)
   rw [hz0] at hzb hos
   refine skp ?_
   refine blk ?_
   refine wp_seq ?_
   refine rdh (n := 9) hp mixed rfl ?_
   have hp := hp.drew
   refine tkq 0 h rfl hp (fun W _ => fad h rfl fo32_4) fun a h => ?_
   refine tkq 1 h rfl hp (fun W hp => ldo h hp rfl 0 rfl rfl ag30) fun a h => ?_
   refine tkm 2 h rfl hp rfl fun a h => ?_
   refine tkm 3 h rfl hp rfl fun a h => ?_
   refine tkq 4 h rfl hp (fun W hp => iadR (k) h rfl rfl Tryz.underlying30 sz3 (hS2.keep (by decide) hp cl0) (rfl) (hlt)) fun a h => ?_
   refine tkq 5 h rfl hp (fun W hp => ld0 h (hS2.keep (by decide) hp cl0) hy rfl ag3 rfl) fun a h => ?_
   refine tkq 6 h rfl hp (fun W hp => iadR (y.toNat) h rfl rfl Tryz.underlying30 sz3 (hG.keep hp cl0).f (by omega) (by omega)) fun a h => ?_
   refine tkq 7 h rfl hp (fun W hp => ld0 h (hG.keep hp cl0).f hz rfl ag3 rfl) fun a h => ?_
   refine tkq 8 h rfl hp (fun W _ => gtr h rfl rfl) fun a h => ?_
   refine dn (by kernel_rfl) ?_
   refine cnd1 h rfl (fun hb34 => ?_) (fun hb34 => ?_)
   ·refine wp_exit ?_
    try simp only [xqs, ↓reduceIte, Nat.reduceEqDiff]
    refine rg1 ?_
    refine wmv h rfl fun a h => ?_
    refine wvl h (add h rfl rfl (by omega)) fun a h => ?_
    refine wsn h rfl fun a h => ?_
    exact ⟨_, _, (by omega), ⟨k + 1, by omega, rfl, rfl, hp.pre 5 rfl, trivial⟩, h.sub ⟨rfl, rfl, rfl, rfl, trivial⟩⟩
   have hzd : isDay z = true := by have := of_decide_eq_false hb34; simp only [isDay, inR, Bool.and_eq_true, decide_eq_true_eq]; omega
   refine skp ?_
   refine rdh (n := 17) hp mixed rfl ?_
   have hp := hp.drew
   refine tkq 0 h rfl hp (fun W hp => ldO (us := [_, _, _, _, _, _, _, _, _, _, _]) h hp rfl 0 rfl sz32 rfl ag32) fun a h => ?_
   refine tkm 1 h rfl hp rfl fun a h => ?_
   refine tkq 2 h rfl hp (fun W _ => fad h rfl fo32_4) fun a h => ?_
   refine tkq 3 h rfl hp (fun W hp => ldo h hp rfl 0 rfl rfl ag30) fun a h => ?_
   refine tkm 4 h rfl hp rfl fun a h => ?_
   refine tkm 5 h rfl hp rfl fun a h => ?_
   refine tkq 6 h rfl hp (fun W hp => iadR (k) h rfl rfl Tryz.underlying30 sz3 (hS2.keep (by decide) hp cl0) (rfl) (hlt)) fun a h => ?_
   refine tkq 7 h rfl hp (fun W hp => ld0 h (hS2.keep (by decide) hp cl0) hy rfl ag3 rfl) fun a h => ?_
   refine tkq 8 h rfl hp (fun W hp => iadR (y.toNat) h rfl rfl Tryz.underlying30 sz3 (hG.keep hp cl0).f (by omega) (by omega)) fun a h => ?_
   refine tkq 9 h rfl hp (fun W hp => ld0 h (hG.keep hp cl0).f hz rfl ag3 rfl) fun a h => ?_
   refine two 10 14 (by kernel_rfl) rfl rfl ?_ ?_
   ·refine (cal h rfl en21 (Off_s x e s2 st z _ (hE0.keep hp cl0) hzd) fun u w59 ⟨e1, e2⟩ a h => ⟨hp.below e2, ?_⟩)
    subst e1
    have hp := hp.below e2
    refine tkm 11 h rfl hp rfl fun a h => ?_
    refine tkq 12 h rfl hp (fun W _ => ext h rfl rfl) fun a h => ?_
    refine tkq 13 h rfl hp (fun W _ => ext h rfl rfl) fun a h => ?_
    refine one 14 (by kernel_rfl) rfl (all h hp zc39 fun a w60 g9 hg9 h hp => ⟨((hp).pre 5 rfl), ?_⟩)
    refine one 15 (by kernel_rfl) rfl (sta h hp rfl rfl 5 rfl sz39 rfl rfl fun w61 hp => ⟨((hp).pre 5 rfl), ?_⟩)
    refine tka 16 h rfl ((hp).pre 5 rfl) rfl fun a h => ?_
    refine dn (by kernel_rfl) ?_
    refine rg ?_
    refine wmv h rfl fun a h => ?_
    refine wvl h (nei h rfl rfl) fun a h => ?_
    refine wmv h rfl fun a h => ?_
    refine split (t := 155) h rfl (fun hb35 => ?_) (fun hb35 => ?_)
    ·exact absurd hb35 (by first | decide | (simp; done))
    refine wl (stp_on h rfl rfl rfl hb35 (vl h (ldO (us := [_, _, _]) h hp rfl 5 rfl sz39 rfl ag39) fun a h => ?_))
    refine wl (stp_on h rfl rfl rfl hb35 (vl h (bld h rfl (bl39_ _)) fun a h => ?_))
    refine wl (stp_on h rfl rfl rfl hb35 (vl h (neS h rfl rfl (by kernel_rfl) (eqs39 _ _ _ _ _ _)) fun a h => ?_))
    refine wvl h (pckF h rfl hb35 rfl) fun a h => ?_
    refine wn ?_
    refine cnd1 h rfl (fun hb36 => ?_) (fun hb36 => ?_)
    ·exact absurd hb36 (by rw [hos]; first | decide | simp)
    refine wp_skip ?_
    refine rg1 ?_
    refine wmv h rfl fun a h => ?_
    refine wvl h (add h rfl rfl (by omega)) fun a h => ?_
    refine wsn h rfl fun a h => ?_
    exact ⟨_, _, (by omega), ⟨k + 1, by omega, rfl, rfl, hp.pre 5 rfl, trivial⟩, h.sub ⟨rfl, rfl, rfl, rfl, trivial⟩⟩
   refine (all h hp zc39 fun a w62 g10 hg10 h hp => ⟨((hp).pre 5 rfl), ?_⟩)
   refine one 10 (by kernel_rfl) rfl (cal h rfl en21 (Off_s x e s2 st z _ (hE0.keep hp cl0) hzd) fun u w63 ⟨e1, e2⟩ a h => ⟨((hp.below e2).pre 5 rfl), ?_⟩)
   subst e1
   have hp := hp.below e2
   refine tkm 11 h rfl ((hp).pre 5 rfl) rfl fun a h => ?_
   refine tkq 12 h rfl ((hp).pre 5 rfl) (fun W _ => ext h rfl rfl) fun a h => ?_
   refine tkq 13 h rfl ((hp).pre 5 rfl) (fun W _ => ext h rfl rfl) fun a h => ?_
   refine one 15 (by kernel_rfl) rfl (sta h hp rfl rfl 5 rfl sz39 rfl rfl fun w64 hp => ⟨((hp).pre 5 rfl), ?_⟩)
   refine tka 16 h rfl ((hp).pre 5 rfl) rfl fun a h => ?_
   refine dn (by kernel_rfl) ?_
   refine rg ?_
   refine wmv h rfl fun a h => ?_
   refine wvl h (nei h rfl rfl) fun a h => ?_
   refine wmv h rfl fun a h => ?_
   refine split (t := 155) h rfl (fun hb37 => ?_) (fun hb37 => ?_)
   ·exact absurd hb37 (by first | decide | (simp; done))
   refine wl (stp_on h rfl rfl rfl hb37 (vl h (ldO (us := [_, _, _]) h hp rfl 5 rfl sz39 rfl ag39) fun a h => ?_))
   refine wl (stp_on h rfl rfl rfl hb37 (vl h (bld h rfl (bl39_ _)) fun a h => ?_))
   refine wl (stp_on h rfl rfl rfl hb37 (vl h (neS h rfl rfl (by kernel_rfl) (eqs39 _ _ _ _ _ _)) fun a h => ?_))
   refine wvl h (pckF h rfl hb37 rfl) fun a h => ?_
   refine wn ?_
   refine cnd1 h rfl (fun hb38 => ?_) (fun hb38 => ?_)
   ·exact absurd hb38 (by rw [hos]; first | decide | simp)
   refine wp_skip ?_
   refine rg1 ?_
   refine wmv h rfl fun a h => ?_
   refine wvl h (add h rfl rfl (by omega)) fun a h => ?_
   refine wsn h rfl fun a h => ?_
   exact ⟨_, _, (by omega), ⟨k + 1, by omega, rfl, rfl, hp.pre 5 rfl, trivial⟩, h.sub ⟨rfl, rfl, rfl, rfl, trivial⟩⟩
  refine wp_exit ?_
  try simp only [xqs, ↓reduceIte, Nat.reduceEqDiff]
  refine rg ?_
  refine wl (cal h rfl en20 (known_L _ (hGl.keep hp)) fun u w65 ⟨e1, e2⟩ a h => ?_)
  subst e1
  have hp := hp.below e2
  refine wsn h rfl fun a h => ?_
  refine wp_ret ?_
  try simp only [xqs]
  refine rt_1 h rfl (rvT h rfl) ?_
  exact ⟨_, rfl, rfl, hp.bel⟩
 refine wl (stp_off h rfl rfl rfl rfl rfl hb7 fun a h => ?_)
 refine wl (stp_off h rfl rfl rfl rfl rfl hb7 fun a h => ?_)
 refine wl (stp_off h rfl rfl rfl rfl rfl hb7 fun a h => ?_)
 refine wl (stp_off h rfl rfl rfl rfl rfl hb7 fun a h => ?_)
 refine wl (stp_off h rfl rfl rfl rfl rfl hb7 fun a h => ?_)
 refine wvl h (pckF h rfl hb7 rfl) fun a h => ?_
 refine wmv h rfl fun a h => ?_
 refine wl (stp_on h rfl rfl rfl rfl (vl h (fad h rfl fo32_2) fun a h => ?_))
 refine wl (stp_on h rfl rfl rfl rfl (vl h (ldo h hp rfl 0 rfl rfl ag29) fun a h => ?_))
 refine wl (stp_on h rfl rfl rfl rfl (vl h (ldO (us := [_, _]) h hp rfl 3 rfl sz43 rfl ag43) fun a h => ?_))
 refine wl (stp_on h rfl rfl rfl rfl (vl h (mov h rfl) fun a h => ?_))
 refine wl (stp_on h rfl rfl rfl rfl (vl h (fad h rfl fo32_4) fun a h => ?_))
 refine wl (stp_on h rfl rfl rfl rfl (vl h (ldo h hp rfl 0 rfl rfl ag30) fun a h => ?_))
 refine wl (stp_on h rfl rfl rfl rfl (vl h (mov h rfl) fun a h => ?_))
 refine wl (stp_on h rfl rfl rfl rfl (vl h (mov h rfl) fun a h => ?_))
 refine wl (stp_on h rfl rfl rfl rfl (cal h rfl en23 (Keeps_T _ _ _ _ _ _ _ _ _ _ _ (hE0.keep hp cl0).g.m (hE0.keep hp cl0).g.f (hE0.keep hp cl0).s hfe (isSet_rise hse) t2 f1 hlm (by omega)) fun u w66 ⟨e1, e2⟩ a h => ?_))
 subst e1
 have hp := hp.below e2
 refine wl (stp_on h rfl rfl rfl rfl (vl h (mov h rfl) fun a h => ?_))
 refine split (t := 98) h rfl (fun hb39 => ?_) (fun hb39 => ?_)
 ·have hk2 := hb39
  refine wl (stp_on h rfl rfl rfl hb39 (vl h (fad h rfl fo39_1) fun a h => ?_))
  refine wl (stp_on h rfl rfl rfl hb39 (vl h (ldo h hp rfl 1 rfl rfl ag3) fun a h => ?_))
  refine wl (stp_on h rfl rfl rfl hb39 (vl h (mov h rfl) fun a h => ?_))
  refine wl (stp_on h rfl rfl rfl hb39 (cal h rfl en24 (kept_L _ _ _ (by omega)) fun u w67 ⟨e1, e2⟩ a h => ?_))
  subst e1
  subst e2
  refine wl (stp_on h rfl rfl rfl hb39 (vl h (not_ h rfl) fun a h => ?_))
  refine wl (stp_on h rfl rfl rfl rfl (vl h (pckT h rfl hb39 rfl) fun a h => ?_))
  refine wvl h (pckF h rfl rfl rfl) fun a h => ?_
  refine wmv h rfl fun a h => ?_
  refine split (t := 106) h rfl (fun hb40 => ?_) (fun hb40 => ?_)
  ·exact absurd hb40 (by first | decide | (rw [hoM]; first | (have hq9 := kept_off (near_of_keeps hfe hse hgd.m0 (by omega) hlm.1 hld.1 (Int.le_refl _) hk2) hlm.1 hlm.2; simp [hq9]; done) | (have hq9 := kept_off (near_of_keeps hfe hse hgd.m0 (by omega) hlm.1 hld.1 (Int.le_refl _) hk2).symm hlm.1 hlm.2; simp [hq9]; done)))
  refine wl (stp_on h rfl rfl rfl hb40 (vl h (fad h rfl fo32_3) fun a h => ?_))
  refine wl (stp_on h rfl rfl rfl hb40 (vl h (ldo h hp rfl 0 rfl rfl ag29) fun a h => ?_))
  refine wl (stp_on h rfl rfl rfl hb40 (vl h (ldO (us := [_, _]) h hp rfl 4 rfl sz43 rfl ag43) fun a h => ?_))
  refine wl (stp_on h rfl rfl rfl hb40 (vl h (mov h rfl) fun a h => ?_))
  refine wl (stp_on h rfl rfl rfl hb40 (vl h (fad h rfl fo32_4) fun a h => ?_))
  refine wl (stp_on h rfl rfl rfl hb40 (vl h (ldo h hp rfl 0 rfl rfl ag30) fun a h => ?_))
  refine wl (stp_on h rfl rfl rfl hb40 (vl h (mov h rfl) fun a h => ?_))
  refine wl (stp_on h rfl rfl rfl hb40 (vl h (mov h rfl) fun a h => ?_))
  refine wl (stp_on h rfl rfl rfl hb40 (cal h rfl en23 (Keeps_T _ _ _ _ _ _ _ _ _ _ _ (hE0.keep hp cl0).g.n (hE0.keep hp cl0).g.f (hE0.keep hp cl0).s hfe (isSet_rise hse) t3 f2 hlm (by omega)) fun u w68 ⟨e1, e2⟩ a h => ?_))
  subst e1
  have hp := hp.below e2
  refine wl (stp_on h rfl rfl rfl hb40 (vl h (mov h rfl) fun a h => ?_))
  refine split (t := 116) h rfl (fun hb41 => ?_) (fun hb41 => ?_)
  ·have hk3 := hb41
   refine wl (stp_on h rfl rfl rfl hb41 (vl h (fad h rfl fo39_2) fun a h => ?_))
   refine wl (stp_on h rfl rfl rfl hb41 (vl h (ldo h hp rfl 1 rfl rfl ag3) fun a h => ?_))
   refine wl (stp_on h rfl rfl rfl hb41 (vl h (mov h rfl) fun a h => ?_))
   refine wl (stp_on h rfl rfl rfl hb41 (cal h rfl en24 (kept_L _ _ _ (by omega)) fun u w69 ⟨e1, e2⟩ a h => ?_))
   subst e1
   subst e2
   refine wl (stp_on h rfl rfl rfl hb41 (vl h (not_ h rfl) fun a h => ?_))
   refine wl (stp_on h rfl rfl rfl hb40 (vl h (pckT h rfl hb41 rfl) fun a h => ?_))
   refine wvl h (pckF h rfl hb40 rfl) fun a h => ?_
   refine wn ?_
   refine cnd1 h rfl (fun hb42 => ?_) (fun hb42 => ?_)
   ·exact absurd hb42 (by first | decide | (rw [hoN]; first | (have hq9 := kept_off (near_of_keeps hfe hse hgd.n0 (by omega) hlm.1 hld.1 (Int.le_refl _) hk3) hlm.1 hlm.2; simp [hq9]; done) | (have hq9 := kept_off (near_of_keeps hfe hse hgd.n0 (by omega) hlm.1 hld.1 (Int.le_refl _) hk3).symm hlm.1 hlm.2; simp [hq9]; done)))
   refine skp ?_
   refine wp_seq ?_
   refine rg ?_
   refine wsn h rfl fun a h => ?_
   refine lp1 h [1, 4, 123] (fun n f w' => ∃ k : Nat, k ≤ st.length ∧ n = st.length - k ∧ f = [(14, .int .i64 k)] ∧ Hp c0 w w' ([.blk g1 (.cells #[x.b.v, .int .i64 e.nnum, .int .i64 e.nden, .int .i64 e.nstart, x.s.v, x.m.v, x.n.v, x.f.v, .int .i64 e.new, .int .i64 e.full, .int .i64 e.wide] 32 (0, 0)), .blk g2 (.cells #[.int .i64 (off e st t).sun, .int .i64 (off e st t).moon, .int .i64 (off e st t).node] 39 (0, 0)), .blk ga (.cells #[.int .i64 b0.1.den, .int .i64 b0.1.num] 43 (0, 0)), .blk gb (.cells #[.int .i64 b1.1.den, .int .i64 b1.1.num] 43 (0, 0)), .blk gc (.cells #[.int .i64 e.nden, .int .i64 e.nnum] 43 (0, 0))]) ∧ True) (st.length) [(14, .int .i64 ((0 : Nat) : Int))] ⟨rfl, rfl, rfl, rfl, trivial⟩ ⟨0, Nat.zero_le _, rfl, rfl, hp, trivial⟩ ?_
   rintro n f a w70 ⟨k, hk, rfl, rfl, hp, _⟩ h
   have hfit := hS2.fits
   refine wp_seq ?_
   refine rg ?_
   refine wm2 h rfl rfl rfl rfl fun a h => ?_
   refine wvl h (lenR h rfl Tryz.underlying30 (hS2.keep (by decide) hp cl0)) fun a h => ?_
   refine wvl h (lss h rfl rfl) fun a h => ?_
   refine wn ?_
   refine cnd1 h rfl (fun hb43 => ?_) (fun hb43 => ?_)
   ·have hlt : k < st.length := by have := of_decide_eq_true hb43; omega
    obtain ⟨y, hy⟩ : ∃ y, st[k]? = some y := ⟨_, List.getElem?_eq_getElem hlt⟩
    obtain ⟨hy0, hy1, z, hz, hz0⟩ := set_at hse (List.mem_of_getElem? hy)
    have hzb := hsF.2 _ (List.mem_map_of_mem (f := at0 e.feasts) (List.mem_of_getElem? hy))
    have hos := off_set ok hse (List.mem_of_getElem? hy)
    rw [hz0] at hzb hos
    refine skp ?_
    refine blk ?_
    refine wp_seq ?_
    refine rdh (n := 9) hp mixed rfl ?_
    have hp := hp.drew
    refine tkq 0 h rfl hp (fun W _ => fad h rfl fo32_4) fun a h => ?_
    refine tkq 1 h rfl hp (fun W hp => ldo h hp rfl 0 rfl rfl ag30) fun a h => ?_
    refine tkm 2 h rfl hp rfl fun a h => ?_
    refine tkm 3 h rfl hp rfl fun a h => ?_
    refine tkq 4 h rfl hp (fun W hp => iadR (k) h rfl rfl Tryz.underlying30 sz3 (hS2.keep (by decide) hp cl0) (rfl) (hlt)) fun a h => ?_
    refine tkq 5 h rfl hp (fun W hp => ld0 h (hS2.keep (by decide) hp cl0) hy rfl ag3 rfl) fun a h => ?_
    refine tkq 6 h rfl hp (fun W hp => iadR (y.toNat) h rfl rfl Tryz.underlying30 sz3 (hG.keep hp cl0).f (by omega) (by omega)) fun a h => ?_
    refine tkq 7 h rfl hp (fun W hp => ld0 h (hG.keep hp cl0).f hz rfl ag3 rfl) fun a h => ?_
    refine tkq 8 h rfl hp (fun W _ => gtr h rfl rfl) fun a h => ?_
    refine dn (by kernel_rfl) ?_
    refine cnd1 h rfl (fun hb44 => ?_) (fun hb44 => ?_)
    ·refine wp_exit ?_
     try simp only [xqs, ↓reduceIte, Nat.reduceEqDiff]
     refine rg1 ?_
     refine wmv h rfl fun a h => ?_
     refine wvl h (add h rfl rfl (by omega)) fun a h => ?_
     refine wsn h rfl fun a h => ?_
     exact ⟨_, _, (by omega), ⟨k + 1, by omega, rfl, rfl, hp.pre 5 rfl, trivial⟩, h.sub ⟨rfl, rfl, rfl, rfl, trivial⟩⟩
    have hzd : isDay z = true := by have := of_decide_eq_false hb44; simp only [isDay, inR, Bool.and_eq_true, decide_eq_true_eq]; omega
    refine skp ?_
    refine rdh (n := 17) hp mixed rfl ?_
    have hp := hp.drew
    refine tkq 0 h rfl hp (fun W hp => ldO (us := [_, _, _, _, _, _, _, _, _, _, _]) h hp rfl 0 rfl sz32 rfl ag32) fun a h => ?_
    refine tkm 1 h rfl hp rfl fun a h => ?_
    refine tkq 2 h rfl hp (fun W _ => fad h rfl fo32_4) fun a h => ?_
    refine tkq 3 h rfl hp (fun W hp => ldo h hp rfl 0 rfl rfl ag30) fun a h => ?_
    refine tkm 4 h rfl hp rfl fun a h => ?_
    refine tkm 5 h rfl hp rfl fun a h => ?_
    refine tkq 6 h rfl hp (fun W hp => iadR (k) h rfl rfl Tryz.underlying30 sz3 (hS2.keep (by decide) hp cl0) (rfl) (hlt)) fun a h => ?_
    refine tkq 7 h rfl hp (fun W hp => ld0 h (hS2.keep (by decide) hp cl0) hy rfl ag3 rfl) fun a h => ?_
    refine tkq 8 h rfl hp (fun W hp => iadR (y.toNat) h rfl rfl Tryz.underlying30 sz3 (hG.keep hp cl0).f (by omega) (by omega)) fun a h => ?_
    refine tkq 9 h rfl hp (fun W hp => ld0 h (hG.keep hp cl0).f hz rfl ag3 rfl) fun a h => ?_
    refine two 10 14 (by kernel_rfl) rfl rfl ?_ ?_
    ·refine (cal h rfl en21 (Off_s x e s2 st z _ (hE0.keep hp cl0) hzd) fun u w71 ⟨e1, e2⟩ a h => ⟨hp.below e2, ?_⟩)
     subst e1
     have hp := hp.below e2
     refine tkm 11 h rfl hp rfl fun a h => ?_
     refine tkq 12 h rfl hp (fun W _ => ext h rfl rfl) fun a h => ?_
     refine tkq 13 h rfl hp (fun W _ => ext h rfl rfl) fun a h => ?_
     refine one 14 (by kernel_rfl) rfl (all h hp zc39 fun a w72 g11 hg11 h hp => ⟨((hp).pre 5 rfl), ?_⟩)
     refine one 15 (by kernel_rfl) rfl (sta h hp rfl rfl 5 rfl sz39 rfl rfl fun w73 hp => ⟨((hp).pre 5 rfl), ?_⟩)
     refine tka 16 h rfl ((hp).pre 5 rfl) rfl fun a h => ?_
     refine dn (by kernel_rfl) ?_
     refine rg ?_
     refine wmv h rfl fun a h => ?_
     refine wvl h (nei h rfl rfl) fun a h => ?_
     refine wmv h rfl fun a h => ?_
     refine split (t := 155) h rfl (fun hb45 => ?_) (fun hb45 => ?_)
     ·exact absurd hb45 (by first | decide | (simp; done))
     refine wl (stp_on h rfl rfl rfl hb45 (vl h (ldO (us := [_, _, _]) h hp rfl 5 rfl sz39 rfl ag39) fun a h => ?_))
     refine wl (stp_on h rfl rfl rfl hb45 (vl h (bld h rfl (bl39_ _)) fun a h => ?_))
     refine wl (stp_on h rfl rfl rfl hb45 (vl h (neS h rfl rfl (by kernel_rfl) (eqs39 _ _ _ _ _ _)) fun a h => ?_))
     refine wvl h (pckF h rfl hb45 rfl) fun a h => ?_
     refine wn ?_
     refine cnd1 h rfl (fun hb46 => ?_) (fun hb46 => ?_)
     ·exact absurd hb46 (by rw [hos]; first | decide | simp)
     refine wp_skip ?_
     refine rg1 ?_
     refine wmv h rfl fun a h => ?_
     refine wvl h (add h rfl rfl (by omega)) fun a h => ?_
     refine wsn h rfl fun a h => ?_
     exact ⟨_, _, (by omega), ⟨k + 1, by omega, rfl, rfl, hp.pre 5 rfl, trivial⟩, h.sub ⟨rfl, rfl, rfl, rfl, trivial⟩⟩
    refine (all h hp zc39 fun a w74 g12 hg12 h hp => ⟨((hp).pre 5 rfl), ?_⟩)
    refine one 10 (by kernel_rfl) rfl (cal h rfl en21 (Off_s x e s2 st z _ (hE0.keep hp cl0) hzd) fun u w75 ⟨e1, e2⟩ a h => ⟨((hp.below e2).pre 5 rfl), ?_⟩)
    subst e1
    have hp := hp.below e2
    refine tkm 11 h rfl ((hp).pre 5 rfl) rfl fun a h => ?_
    refine tkq 12 h rfl ((hp).pre 5 rfl) (fun W _ => ext h rfl rfl) fun a h => ?_
    refine tkq 13 h rfl ((hp).pre 5 rfl) (fun W _ => ext h rfl rfl) fun a h => ?_
    refine one 15 (by kernel_rfl) rfl (sta h hp rfl rfl 5 rfl sz39 rfl rfl fun w76 hp => ⟨((hp).pre 5 rfl), ?_⟩)
    refine tka 16 h rfl ((hp).pre 5 rfl) rfl fun a h => ?_
    refine dn (by kernel_rfl) ?_
    refine rg ?_
    refine wmv h rfl fun a h => ?_
    refine wvl h (nei h rfl rfl) fun a h => ?_
    refine wmv h rfl fun a h => ?_
    refine split (t := 155) h rfl (fun hb47 => ?_) (fun hb47 => ?_)
    ·exact absurd hb47 (by first | decide | (simp; done))
    refine wl (stp_on h rfl rfl rfl hb47 (vl h (ldO (us := [_, _, _]) h hp rfl 5 rfl sz39 rfl ag39) fun a h => ?_))
    refine wl (stp_on h rfl rfl rfl hb47 (vl h (bld h rfl (bl39_ _)) fun a h => ?_))
    refine wl (stp_on h rfl rfl rfl hb47 (vl h (neS h rfl rfl (by kernel_rfl) (eqs39 _ _ _ _ _ _)) fun a h => ?_))
    refine wvl h (pckF h rfl hb47 rfl) fun a h => ?_
    refine wn ?_
    refine cnd1 h rfl (fun hb48 => ?_) (fun hb48 => ?_)
    ·exact absurd hb48 (by rw [hos]; first | decide | simp)
    refine wp_skip ?_
    refine rg1 ?_
    refine wmv h rfl fun a h => ?_
    refine wvl h (add h rfl rfl (by omega)) fun a h => ?_
    refine wsn h rfl fun a h => ?_
    exact ⟨_, _, (by omega), ⟨k + 1, by omega, rfl, rfl, hp.pre 5 rfl, trivial⟩, h.sub ⟨rfl, rfl, rfl, rfl, trivial⟩⟩
   refine wp_exit ?_
   try simp only [xqs, ↓reduceIte, Nat.reduceEqDiff]
   refine rg ?_
   refine wl (cal h rfl en20 (known_L _ (hGl.keep hp)) fun u w77 ⟨e1, e2⟩ a h => ?_)
   subst e1
   have hp := hp.below e2
   refine wsn h rfl fun a h => ?_
   refine wp_ret ?_
   try simp only [xqs]
   refine rt_1 h rfl (rvT h rfl) ?_
   exact ⟨_, rfl, rfl, hp.bel⟩
  refine wl (stp_off h rfl rfl rfl rfl rfl hb41 fun a h => ?_)
  refine wl (stp_off h rfl rfl rfl rfl rfl hb41 fun a h => ?_)
  refine wl (stp_off h rfl rfl rfl rfl rfl hb41 fun a h => ?_)
  refine wl (stp_off h rfl rfl rfl rfl rfl hb41 fun a h => ?_)
  refine wl (stp_off h rfl rfl rfl rfl rfl hb41 fun a h => ?_)
  refine wl (stp_on h rfl rfl rfl hb40 (vl h (pckF h rfl hb41 rfl) fun a h => ?_))
  refine wvl h (pckF h rfl hb40 rfl) fun a h => ?_
  refine wn ?_
  refine cnd1 h rfl (fun e => nomatch e) (fun _ => ?_)
  refine skp ?_
  refine wp_seq ?_
  refine rg ?_
  refine wsn h rfl fun a h => ?_
  refine lp1 h [1, 4, 123] (fun n f w' => ∃ k : Nat, k ≤ st.length ∧ n = st.length - k ∧ f = [(14, .int .i64 k)] ∧ Hp c0 w w' ([.blk g1 (.cells #[x.b.v, .int .i64 e.nnum, .int .i64 e.nden, .int .i64 e.nstart, x.s.v, x.m.v, x.n.v, x.f.v, .int .i64 e.new, .int .i64 e.full, .int .i64 e.wide] 32 (0, 0)), .blk g2 (.cells #[.int .i64 (off e st t).sun, .int .i64 (off e st t).moon, .int .i64 (off e st t).node] 39 (0, 0)), .blk ga (.cells #[.int .i64 b0.1.den, .int .i64 b0.1.num] 43 (0, 0)), .blk gb (.cells #[.int .i64 b1.1.den, .int .i64 b1.1.num] 43 (0, 0)), .blk gc (.cells #[.int .i64 e.nden, .int .i64 e.nnum] 43 (0, 0))]) ∧ True) (st.length) [(14, .int .i64 ((0 : Nat) : Int))] ⟨rfl, rfl, rfl, rfl, trivial⟩ ⟨0, Nat.zero_le _, rfl, rfl, hp, trivial⟩ ?_
  rintro n f a w78 ⟨k, hk, rfl, rfl, hp, _⟩ h
  have hfit := hS2.fits
  refine wp_seq ?_
  refine rg ?_
  refine wm2 h rfl rfl rfl rfl fun a h => ?_
  refine wvl h (lenR h rfl Tryz.underlying30 (hS2.keep (by decide) hp cl0)) fun a h => ?_
  refine wvl h (lss h rfl rfl) fun a h => ?_
  refine wn ?_
  refine cnd1 h rfl (fun hb49 => ?_) (fun hb49 => ?_)
  ·have hlt : k < st.length := by have := of_decide_eq_true hb49; omega
   obtain ⟨y, hy⟩ : ∃ y, st[k]? = some y := ⟨_, List.getElem?_eq_getElem hlt⟩
   obtain ⟨hy0, hy1, z, hz, hz0⟩ := set_at hse (List.mem_of_getElem? hy)
   have hzb := hsF.2 _ (List.mem_map_of_mem (f := at0 e.feasts) (List.mem_of_getElem? hy))
   have hos := off_set ok hse (List.mem_of_getElem? hy)
   rw [hz0] at hzb hos
   refine skp ?_
   refine blk ?_
   refine wp_seq ?_
   refine rdh (n := 9) hp mixed rfl ?_
   have hp := hp.drew
   refine tkq 0 h rfl hp (fun W _ => fad h rfl fo32_4) fun a h => ?_
   refine tkq 1 h rfl hp (fun W hp => ldo h hp rfl 0 rfl rfl ag30) fun a h => ?_
   refine tkm 2 h rfl hp rfl fun a h => ?_
   refine tkm 3 h rfl hp rfl fun a h => ?_
   refine tkq 4 h rfl hp (fun W hp => iadR (k) h rfl rfl Tryz.underlying30 sz3 (hS2.keep (by decide) hp cl0) (rfl) (hlt)) fun a h => ?_
   refine tkq 5 h rfl hp (fun W hp => ld0 h (hS2.keep (by decide) hp cl0) hy rfl ag3 rfl) fun a h => ?_
   refine tkq 6 h rfl hp (fun W hp => iadR (y.toNat) h rfl rfl Tryz.underlying30 sz3 (hG.keep hp cl0).f (by omega) (by omega)) fun a h => ?_
   refine tkq 7 h rfl hp (fun W hp => ld0 h (hG.keep hp cl0).f hz rfl ag3 rfl) fun a h => ?_
   refine tkq 8 h rfl hp (fun W _ => gtr h rfl rfl) fun a h => ?_
   refine dn (by kernel_rfl) ?_
   refine cnd1 h rfl (fun hb50 => ?_) (fun hb50 => ?_)
   ·refine wp_exit ?_
    try simp only [xqs, ↓reduceIte, Nat.reduceEqDiff]
    refine rg1 ?_
    refine wmv h rfl fun a h => ?_
    refine wvl h (add h rfl rfl (by omega)) fun a h => ?_
    refine wsn h rfl fun a h => ?_
    exact ⟨_, _, (by omega), ⟨k + 1, by omega, rfl, rfl, hp.pre 5 rfl, trivial⟩, h.sub ⟨rfl, rfl, rfl, rfl, trivial⟩⟩
   have hzd : isDay z = true := by have := of_decide_eq_false hb50; simp only [isDay, inR, Bool.and_eq_true, decide_eq_true_eq]; omega
   refine skp ?_
   refine rdh (n := 17) hp mixed rfl ?_
   have hp := hp.drew
   refine tkq 0 h rfl hp (fun W hp => ldO (us := [_, _, _, _, _, _, _, _, _, _, _]) h hp rfl 0 rfl sz32 rfl ag32) fun a h => ?_
   refine tkm 1 h rfl hp rfl fun a h => ?_
   refine tkq 2 h rfl hp (fun W _ => fad h rfl fo32_4) fun a h => ?_
   refine tkq 3 h rfl hp (fun W hp => ldo h hp rfl 0 rfl rfl ag30) fun a h => ?_
   refine tkm 4 h rfl hp rfl fun a h => ?_
   refine tkm 5 h rfl hp rfl fun a h => ?_
   refine tkq 6 h rfl hp (fun W hp => iadR (k) h rfl rfl Tryz.underlying30 sz3 (hS2.keep (by decide) hp cl0) (rfl) (hlt)) fun a h => ?_
   refine tkq 7 h rfl hp (fun W hp => ld0 h (hS2.keep (by decide) hp cl0) hy rfl ag3 rfl) fun a h => ?_
   refine tkq 8 h rfl hp (fun W hp => iadR (y.toNat) h rfl rfl Tryz.underlying30 sz3 (hG.keep hp cl0).f (by omega) (by omega)) fun a h => ?_
   refine tkq 9 h rfl hp (fun W hp => ld0 h (hG.keep hp cl0).f hz rfl ag3 rfl) fun a h => ?_
   refine two 10 14 (by kernel_rfl) rfl rfl ?_ ?_
   ·refine (cal h rfl en21 (Off_s x e s2 st z _ (hE0.keep hp cl0) hzd) fun u w79 ⟨e1, e2⟩ a h => ⟨hp.below e2, ?_⟩)
    subst e1
    have hp := hp.below e2
    refine tkm 11 h rfl hp rfl fun a h => ?_
    refine tkq 12 h rfl hp (fun W _ => ext h rfl rfl) fun a h => ?_
    refine tkq 13 h rfl hp (fun W _ => ext h rfl rfl) fun a h => ?_
    refine one 14 (by kernel_rfl) rfl (all h hp zc39 fun a w80 g13 hg13 h hp => ⟨((hp).pre 5 rfl), ?_⟩)
    refine one 15 (by kernel_rfl) rfl (sta h hp rfl rfl 5 rfl sz39 rfl rfl fun w81 hp => ⟨((hp).pre 5 rfl), ?_⟩)
    refine tka 16 h rfl ((hp).pre 5 rfl) rfl fun a h => ?_
    refine dn (by kernel_rfl) ?_
    refine rg ?_
    refine wmv h rfl fun a h => ?_
    refine wvl h (nei h rfl rfl) fun a h => ?_
    refine wmv h rfl fun a h => ?_
    refine split (t := 155) h rfl (fun hb51 => ?_) (fun hb51 => ?_)
    ·exact absurd hb51 (by first | decide | (simp; done))
    refine wl (stp_on h rfl rfl rfl hb51 (vl h (ldO (us := [_, _, _]) h hp rfl 5 rfl sz39 rfl ag39) fun a h => ?_))
    refine wl (stp_on h rfl rfl rfl hb51 (vl h (bld h rfl (bl39_ _)) fun a h => ?_))
    refine wl (stp_on h rfl rfl rfl hb51 (vl h (neS h rfl rfl (by kernel_rfl) (eqs39 _ _ _ _ _ _)) fun a h => ?_))
    refine wvl h (pckF h rfl hb51 rfl) fun a h => ?_
    refine wn ?_
    refine cnd1 h rfl (fun hb52 => ?_) (fun hb52 => ?_)
    ·exact absurd hb52 (by rw [hos]; first | decide | simp)
    refine wp_skip ?_
    refine rg1 ?_
    refine wmv h rfl fun a h => ?_
    refine wvl h (add h rfl rfl (by omega)) fun a h => ?_
    refine wsn h rfl fun a h => ?_
    exact ⟨_, _, (by omega), ⟨k + 1, by omega, rfl, rfl, hp.pre 5 rfl, trivial⟩, h.sub ⟨rfl, rfl, rfl, rfl, trivial⟩⟩
   refine (all h hp zc39 fun a w82 g14 hg14 h hp => ⟨((hp).pre 5 rfl), ?_⟩)
   refine one 10 (by kernel_rfl) rfl (cal h rfl en21 (Off_s x e s2 st z _ (hE0.keep hp cl0) hzd) fun u w83 ⟨e1, e2⟩ a h => ⟨((hp.below e2).pre 5 rfl), ?_⟩)
   subst e1
   have hp := hp.below e2
   refine tkm 11 h rfl ((hp).pre 5 rfl) rfl fun a h => ?_
   refine tkq 12 h rfl ((hp).pre 5 rfl) (fun W _ => ext h rfl rfl) fun a h => ?_
   refine tkq 13 h rfl ((hp).pre 5 rfl) (fun W _ => ext h rfl rfl) fun a h => ?_
   refine one 15 (by kernel_rfl) rfl (sta h hp rfl rfl 5 rfl sz39 rfl rfl fun w84 hp => ⟨((hp).pre 5 rfl), ?_⟩)
   refine tka 16 h rfl ((hp).pre 5 rfl) rfl fun a h => ?_
   refine dn (by kernel_rfl) ?_
   refine rg ?_
   refine wmv h rfl fun a h => ?_
   refine wvl h (nei h rfl rfl) fun a h => ?_
   refine wmv h rfl fun a h => ?_
   refine split (t := 155) h rfl (fun hb53 => ?_) (fun hb53 => ?_)
   ·exact absurd hb53 (by first | decide | (simp; done))
   refine wl (stp_on h rfl rfl rfl hb53 (vl h (ldO (us := [_, _, _]) h hp rfl 5 rfl sz39 rfl ag39) fun a h => ?_))
   refine wl (stp_on h rfl rfl rfl hb53 (vl h (bld h rfl (bl39_ _)) fun a h => ?_))
   refine wl (stp_on h rfl rfl rfl hb53 (vl h (neS h rfl rfl (by kernel_rfl) (eqs39 _ _ _ _ _ _)) fun a h => ?_))
   refine wvl h (pckF h rfl hb53 rfl) fun a h => ?_
   refine wn ?_
   refine cnd1 h rfl (fun hb54 => ?_) (fun hb54 => ?_)
   ·exact absurd hb54 (by rw [hos]; first | decide | simp)
   refine wp_skip ?_
   refine rg1 ?_
   refine wmv h rfl fun a h => ?_
   refine wvl h (add h rfl rfl (by omega)) fun a h => ?_
   refine wsn h rfl fun a h => ?_
   exact ⟨_, _, (by omega), ⟨k + 1, by omega, rfl, rfl, hp.pre 5 rfl, trivial⟩, h.sub ⟨rfl, rfl, rfl, rfl, trivial⟩⟩
  refine wp_exit ?_
  try simp only [xqs, ↓reduceIte, Nat.reduceEqDiff]
  refine rg ?_
  refine wl (cal h rfl en20 (known_L _ (hGl.keep hp)) fun u w85 ⟨e1, e2⟩ a h => ?_)
  subst e1
  have hp := hp.below e2
  refine wsn h rfl fun a h => ?_
  refine wp_ret ?_
  try simp only [xqs]
  refine rt_1 h rfl (rvT h rfl) ?_
  exact ⟨_, rfl, rfl, hp.bel⟩
 refine wl (stp_off h rfl rfl rfl rfl rfl hb39 fun a h => ?_)
 refine wl (stp_off h rfl rfl rfl rfl rfl hb39 fun a h => ?_)
 refine wl (stp_off h rfl rfl rfl rfl rfl hb39 fun a h => ?_)
 refine wl (stp_off h rfl rfl rfl rfl rfl hb39 fun a h => ?_)
 refine wl (stp_off h rfl rfl rfl rfl rfl hb39 fun a h => ?_)
 refine wl (stp_on h rfl rfl rfl rfl (vl h (pckF h rfl hb39 rfl) fun a h => ?_))
 refine wvl h (pckF h rfl rfl rfl) fun a h => ?_
 refine wmv h rfl fun a h => ?_
 refine wl (stp_on h rfl rfl rfl rfl (vl h (fad h rfl fo32_3) fun a h => ?_))
 refine wl (stp_on h rfl rfl rfl rfl (vl h (ldo h hp rfl 0 rfl rfl ag29) fun a h => ?_))
 refine wl (stp_on h rfl rfl rfl rfl (vl h (ldO (us := [_, _]) h hp rfl 4 rfl sz43 rfl ag43) fun a h => ?_))
 refine wl (stp_on h rfl rfl rfl rfl (vl h (mov h rfl) fun a h => ?_))
 refine wl (stp_on h rfl rfl rfl rfl (vl h (fad h rfl fo32_4) fun a h => ?_))
 refine wl (stp_on h rfl rfl rfl rfl (vl h (ldo h hp rfl 0 rfl rfl ag30) fun a h => ?_))
 refine wl (stp_on h rfl rfl rfl rfl (vl h (mov h rfl) fun a h => ?_))
 refine wl (stp_on h rfl rfl rfl rfl (vl h (mov h rfl) fun a h => ?_))
 refine wl (stp_on h rfl rfl rfl rfl (cal h rfl en23 (Keeps_T _ _ _ _ _ _ _ _ _ _ _ (hE0.keep hp cl0).g.n (hE0.keep hp cl0).g.f (hE0.keep hp cl0).s hfe (isSet_rise hse) t3 f2 hlm (by omega)) fun u w86 ⟨e1, e2⟩ a h => ?_))
 subst e1
 have hp := hp.below e2
 refine wl (stp_on h rfl rfl rfl rfl (vl h (mov h rfl) fun a h => ?_))
 refine split (t := 116) h rfl (fun hb55 => ?_) (fun hb55 => ?_)
 ·have hk3 := hb55
  refine wl (stp_on h rfl rfl rfl hb55 (vl h (fad h rfl fo39_2) fun a h => ?_))
  refine wl (stp_on h rfl rfl rfl hb55 (vl h (ldo h hp rfl 1 rfl rfl ag3) fun a h => ?_))
  refine wl (stp_on h rfl rfl rfl hb55 (vl h (mov h rfl) fun a h => ?_))
  refine wl (stp_on h rfl rfl rfl hb55 (cal h rfl en24 (kept_L _ _ _ (by omega)) fun u w87 ⟨e1, e2⟩ a h => ?_))
  subst e1
  subst e2
  refine wl (stp_on h rfl rfl rfl hb55 (vl h (not_ h rfl) fun a h => ?_))
  refine wl (stp_on h rfl rfl rfl rfl (vl h (pckT h rfl hb55 rfl) fun a h => ?_))
  refine wvl h (pckF h rfl rfl rfl) fun a h => ?_
  refine wn ?_
  refine cnd1 h rfl (fun hb56 => ?_) (fun hb56 => ?_)
  ·exact absurd hb56 (by first | decide | (rw [hoN]; first | (have hq9 := kept_off (near_of_keeps hfe hse hgd.n0 (by omega) hlm.1 hld.1 (Int.le_refl _) hk3) hlm.1 hlm.2; simp [hq9]; done) | (have hq9 := kept_off (near_of_keeps hfe hse hgd.n0 (by omega) hlm.1 hld.1 (Int.le_refl _) hk3).symm hlm.1 hlm.2; simp [hq9]; done)))
  refine skp ?_
  refine wp_seq ?_
  refine rg ?_
  refine wsn h rfl fun a h => ?_
  refine lp1 h [1, 4, 123] (fun n f w' => ∃ k : Nat, k ≤ st.length ∧ n = st.length - k ∧ f = [(14, .int .i64 k)] ∧ Hp c0 w w' ([.blk g1 (.cells #[x.b.v, .int .i64 e.nnum, .int .i64 e.nden, .int .i64 e.nstart, x.s.v, x.m.v, x.n.v, x.f.v, .int .i64 e.new, .int .i64 e.full, .int .i64 e.wide] 32 (0, 0)), .blk g2 (.cells #[.int .i64 (off e st t).sun, .int .i64 (off e st t).moon, .int .i64 (off e st t).node] 39 (0, 0)), .blk ga (.cells #[.int .i64 b0.1.den, .int .i64 b0.1.num] 43 (0, 0)), .blk gb (.cells #[.int .i64 b1.1.den, .int .i64 b1.1.num] 43 (0, 0)), .blk gc (.cells #[.int .i64 e.nden, .int .i64 e.nnum] 43 (0, 0))]) ∧ True) (st.length) [(14, .int .i64 ((0 : Nat) : Int))] ⟨rfl, rfl, rfl, rfl, trivial⟩ ⟨0, Nat.zero_le _, rfl, rfl, hp, trivial⟩ ?_
  rintro n f a w88 ⟨k, hk, rfl, rfl, hp, _⟩ h
  have hfit := hS2.fits
  refine wp_seq ?_
  refine rg ?_
  refine wm2 h rfl rfl rfl rfl fun a h => ?_
  refine wvl h (lenR h rfl Tryz.underlying30 (hS2.keep (by decide) hp cl0)) fun a h => ?_
  refine wvl h (lss h rfl rfl) fun a h => ?_
  refine wn ?_
  refine cnd1 h rfl (fun hb57 => ?_) (fun hb57 => ?_)
  ·have hlt : k < st.length := by have := of_decide_eq_true hb57; omega
   obtain ⟨y, hy⟩ : ∃ y, st[k]? = some y := ⟨_, List.getElem?_eq_getElem hlt⟩
   obtain ⟨hy0, hy1, z, hz, hz0⟩ := set_at hse (List.mem_of_getElem? hy)
   have hzb := hsF.2 _ (List.mem_map_of_mem (f := at0 e.feasts) (List.mem_of_getElem? hy))
   have hos := off_set ok hse (List.mem_of_getElem? hy)
   rw [hz0] at hzb hos
   refine skp ?_
   refine blk ?_
   refine wp_seq ?_
   refine rdh (n := 9) hp mixed rfl ?_
   have hp := hp.drew
   refine tkq 0 h rfl hp (fun W _ => fad h rfl fo32_4) fun a h => ?_
   refine tkq 1 h rfl hp (fun W hp => ldo h hp rfl 0 rfl rfl ag30) fun a h => ?_
   refine tkm 2 h rfl hp rfl fun a h => ?_
   refine tkm 3 h rfl hp rfl fun a h => ?_
   refine tkq 4 h rfl hp (fun W hp => iadR (k) h rfl rfl Tryz.underlying30 sz3 (hS2.keep (by decide) hp cl0) (rfl) (hlt)) fun a h => ?_
   refine tkq 5 h rfl hp (fun W hp => ld0 h (hS2.keep (by decide) hp cl0) hy rfl ag3 rfl) fun a h => ?_
   refine tkq 6 h rfl hp (fun W hp => iadR (y.toNat) h rfl rfl Tryz.underlying30 sz3 (hG.keep hp cl0).f (by omega) (by omega)) fun a h => ?_
   refine tkq 7 h rfl hp (fun W hp => ld0 h (hG.keep hp cl0).f hz rfl ag3 rfl) fun a h => ?_
   refine tkq 8 h rfl hp (fun W _ => gtr h rfl rfl) fun a h => ?_
   refine dn (by kernel_rfl) ?_
   refine cnd1 h rfl (fun hb58 => ?_) (fun hb58 => ?_)
   ·refine wp_exit ?_
    try simp only [xqs, ↓reduceIte, Nat.reduceEqDiff]
    refine rg1 ?_
    refine wmv h rfl fun a h => ?_
    refine wvl h (add h rfl rfl (by omega)) fun a h => ?_
    refine wsn h rfl fun a h => ?_
    exact ⟨_, _, (by omega), ⟨k + 1, by omega, rfl, rfl, hp.pre 5 rfl, trivial⟩, h.sub ⟨rfl, rfl, rfl, rfl, trivial⟩⟩
   have hzd : isDay z = true := by have := of_decide_eq_false hb58; simp only [isDay, inR, Bool.and_eq_true, decide_eq_true_eq]; omega
   refine skp ?_
   refine rdh (n := 17) hp mixed rfl ?_
   have hp := hp.drew
   refine tkq 0 h rfl hp (fun W hp => ldO (us := [_, _, _, _, _, _, _, _, _, _, _]) h hp rfl 0 rfl sz32 rfl ag32) fun a h => ?_
   refine tkm 1 h rfl hp rfl fun a h => ?_
   refine tkq 2 h rfl hp (fun W _ => fad h rfl fo32_4) fun a h => ?_
   refine tkq 3 h rfl hp (fun W hp => ldo h hp rfl 0 rfl rfl ag30) fun a h => ?_
   refine tkm 4 h rfl hp rfl fun a h => ?_
   refine tkm 5 h rfl hp rfl fun a h => ?_
   refine tkq 6 h rfl hp (fun W hp => iadR (k) h rfl rfl Tryz.underlying30 sz3 (hS2.keep (by decide) hp cl0) (rfl) (hlt)) fun a h => ?_
   refine tkq 7 h rfl hp (fun W hp => ld0 h (hS2.keep (by decide) hp cl0) hy rfl ag3 rfl) fun a h => ?_
   refine tkq 8 h rfl hp (fun W hp => iadR (y.toNat) h rfl rfl Tryz.underlying30 sz3 (hG.keep hp cl0).f (by omega) (by omega)) fun a h => ?_
   refine tkq 9 h rfl hp (fun W hp => ld0 h (hG.keep hp cl0).f hz rfl ag3 rfl) fun a h => ?_
   refine two 10 14 (by kernel_rfl) rfl rfl ?_ ?_
   ·refine (cal h rfl en21 (Off_s x e s2 st z _ (hE0.keep hp cl0) hzd) fun u w89 ⟨e1, e2⟩ a h => ⟨hp.below e2, ?_⟩)
    subst e1
    have hp := hp.below e2
    refine tkm 11 h rfl hp rfl fun a h => ?_
    refine tkq 12 h rfl hp (fun W _ => ext h rfl rfl) fun a h => ?_
    refine tkq 13 h rfl hp (fun W _ => ext h rfl rfl) fun a h => ?_
    refine one 14 (by kernel_rfl) rfl (all h hp zc39 fun a w90 g15 hg15 h hp => ⟨((hp).pre 5 rfl), ?_⟩)
    refine one 15 (by kernel_rfl) rfl (sta h hp rfl rfl 5 rfl sz39 rfl rfl fun w91 hp => ⟨((hp).pre 5 rfl), ?_⟩)
    refine tka 16 h rfl ((hp).pre 5 rfl) rfl fun a h => ?_
    refine dn (by kernel_rfl) ?_
    refine rg ?_
    refine wmv h rfl fun a h => ?_
    refine wvl h (nei h rfl rfl) fun a h => ?_
    refine wmv h rfl fun a h => ?_
    refine split (t := 155) h rfl (fun hb59 => ?_) (fun hb59 => ?_)
    ·exact absurd hb59 (by first | decide | (simp; done))
    refine wl (stp_on h rfl rfl rfl hb59 (vl h (ldO (us := [_, _, _]) h hp rfl 5 rfl sz39 rfl ag39) fun a h => ?_))
    refine wl (stp_on h rfl rfl rfl hb59 (vl h (bld h rfl (bl39_ _)) fun a h => ?_))
    refine wl (stp_on h rfl rfl rfl hb59 (vl h (neS h rfl rfl (by kernel_rfl) (eqs39 _ _ _ _ _ _)) fun a h => ?_))
    refine wvl h (pckF h rfl hb59 rfl) fun a h => ?_
    refine wn ?_
    refine cnd1 h rfl (fun hb60 => ?_) (fun hb60 => ?_)
    ·exact absurd hb60 (by rw [hos]; first | decide | simp)
    refine wp_skip ?_
    refine rg1 ?_
    refine wmv h rfl fun a h => ?_
    refine wvl h (add h rfl rfl (by omega)) fun a h => ?_
    refine wsn h rfl fun a h => ?_
    exact ⟨_, _, (by omega), ⟨k + 1, by omega, rfl, rfl, hp.pre 5 rfl, trivial⟩, h.sub ⟨rfl, rfl, rfl, rfl, trivial⟩⟩
   refine (all h hp zc39 fun a w92 g16 hg16 h hp => ⟨((hp).pre 5 rfl), ?_⟩)
   refine one 10 (by kernel_rfl) rfl (cal h rfl en21 (Off_s x e s2 st z _ (hE0.keep hp cl0) hzd) fun u w93 ⟨e1, e2⟩ a h => ⟨((hp.below e2).pre 5 rfl), ?_⟩)
   subst e1
   have hp := hp.below e2
   refine tkm 11 h rfl ((hp).pre 5 rfl) rfl fun a h => ?_
   refine tkq 12 h rfl ((hp).pre 5 rfl) (fun W _ => ext h rfl rfl) fun a h => ?_
   refine tkq 13 h rfl ((hp).pre 5 rfl) (fun W _ => ext h rfl rfl) fun a h => ?_
   refine one 15 (by kernel_rfl) rfl (sta h hp rfl rfl 5 rfl sz39 rfl rfl fun w94 hp => ⟨((hp).pre 5 rfl), ?_⟩)
   refine tka 16 h rfl ((hp).pre 5 rfl) rfl fun a h => ?_
   refine dn (by kernel_rfl) ?_
   refine rg ?_
   refine wmv h rfl fun a h => ?_
   refine wvl h (nei h rfl rfl) fun a h => ?_
   refine wmv h rfl fun a h => ?_
   refine split (t := 155) h rfl (fun hb61 => ?_) (fun hb61 => ?_)
   ·exact absurd hb61 (by first | decide | (simp; done))
   refine wl (stp_on h rfl rfl rfl hb61 (vl h (ldO (us := [_, _, _]) h hp rfl 5 rfl sz39 rfl ag39) fun a h => ?_))
   refine wl (stp_on h rfl rfl rfl hb61 (vl h (bld h rfl (bl39_ _)) fun a h => ?_))
   refine wl (stp_on h rfl rfl rfl hb61 (vl h (neS h rfl rfl (by kernel_rfl) (eqs39 _ _ _ _ _ _)) fun a h => ?_))
   refine wvl h (pckF h rfl hb61 rfl) fun a h => ?_
   refine wn ?_
   refine cnd1 h rfl (fun hb62 => ?_) (fun hb62 => ?_)
   ·exact absurd hb62 (by rw [hos]; first | decide | simp)
   refine wp_skip ?_
   refine rg1 ?_
   refine wmv h rfl fun a h => ?_
   refine wvl h (add h rfl rfl (by omega)) fun a h => ?_
   refine wsn h rfl fun a h => ?_
   exact ⟨_, _, (by omega), ⟨k + 1, by omega, rfl, rfl, hp.pre 5 rfl, trivial⟩, h.sub ⟨rfl, rfl, rfl, rfl, trivial⟩⟩
  refine wp_exit ?_
  try simp only [xqs, ↓reduceIte, Nat.reduceEqDiff]
  refine rg ?_
  refine wl (cal h rfl en20 (known_L _ (hGl.keep hp)) fun u w95 ⟨e1, e2⟩ a h => ?_)
  subst e1
  have hp := hp.below e2
  refine wsn h rfl fun a h => ?_
  refine wp_ret ?_
  try simp only [xqs]
  refine rt_1 h rfl (rvT h rfl) ?_
  exact ⟨_, rfl, rfl, hp.bel⟩
 refine wl (stp_off h rfl rfl rfl rfl rfl hb55 fun a h => ?_)
 refine wl (stp_off h rfl rfl rfl rfl rfl hb55 fun a h => ?_)
 refine wl (stp_off h rfl rfl rfl rfl rfl hb55 fun a h => ?_)
 refine wl (stp_off h rfl rfl rfl rfl rfl hb55 fun a h => ?_)
 refine wl (stp_off h rfl rfl rfl rfl rfl hb55 fun a h => ?_)
 refine wl (stp_on h rfl rfl rfl rfl (vl h (pckF h rfl hb55 rfl) fun a h => ?_))
 refine wvl h (pckF h rfl rfl rfl) fun a h => ?_
 refine wn ?_
 refine cnd1 h rfl (fun e => nomatch e) (fun _ => ?_)
 refine skp ?_
 refine wp_seq ?_
 refine rg ?_
 refine wsn h rfl fun a h => ?_
 refine lp1 h [1, 4, 123] (fun n f w' => ∃ k : Nat, k ≤ st.length ∧ n = st.length - k ∧ f = [(14, .int .i64 k)] ∧ Hp c0 w w' ([.blk g1 (.cells #[x.b.v, .int .i64 e.nnum, .int .i64 e.nden, .int .i64 e.nstart, x.s.v, x.m.v, x.n.v, x.f.v, .int .i64 e.new, .int .i64 e.full, .int .i64 e.wide] 32 (0, 0)), .blk g2 (.cells #[.int .i64 (off e st t).sun, .int .i64 (off e st t).moon, .int .i64 (off e st t).node] 39 (0, 0)), .blk ga (.cells #[.int .i64 b0.1.den, .int .i64 b0.1.num] 43 (0, 0)), .blk gb (.cells #[.int .i64 b1.1.den, .int .i64 b1.1.num] 43 (0, 0)), .blk gc (.cells #[.int .i64 e.nden, .int .i64 e.nnum] 43 (0, 0))]) ∧ True) (st.length) [(14, .int .i64 ((0 : Nat) : Int))] ⟨rfl, rfl, rfl, rfl, trivial⟩ ⟨0, Nat.zero_le _, rfl, rfl, hp, trivial⟩ ?_
 rintro n f a w96 ⟨k, hk, rfl, rfl, hp, _⟩ h
 have hfit := hS2.fits
 refine wp_seq ?_
 refine rg ?_
 refine wm2 h rfl rfl rfl rfl fun a h => ?_
 refine wvl h (lenR h rfl Tryz.underlying30 (hS2.keep (by decide) hp cl0)) fun a h => ?_
 refine wvl h (lss h rfl rfl) fun a h => ?_
 refine wn ?_
 refine cnd1 h rfl (fun hb63 => ?_) (fun hb63 => ?_)
 ·have hlt : k < st.length := by have := of_decide_eq_true hb63; omega
  obtain ⟨y, hy⟩ : ∃ y, st[k]? = some y := ⟨_, List.getElem?_eq_getElem hlt⟩
  obtain ⟨hy0, hy1, z, hz, hz0⟩ := set_at hse (List.mem_of_getElem? hy)
  have hzb := hsF.2 _ (List.mem_map_of_mem (f := at0 e.feasts) (List.mem_of_getElem? hy))
  have hos := off_set ok hse (List.mem_of_getElem? hy)
  rw [hz0] at hzb hos
  refine skp ?_
  refine blk ?_
  refine wp_seq ?_
  refine rdh (n := 9) hp mixed rfl ?_
  have hp := hp.drew
  refine tkq 0 h rfl hp (fun W _ => fad h rfl fo32_4) fun a h => ?_
  refine tkq 1 h rfl hp (fun W hp => ldo h hp rfl 0 rfl rfl ag30) fun a h => ?_
  refine tkm 2 h rfl hp rfl fun a h => ?_
  refine tkm 3 h rfl hp rfl fun a h => ?_
  refine tkq 4 h rfl hp (fun W hp => iadR (k) h rfl rfl Tryz.underlying30 sz3 (hS2.keep (by decide) hp cl0) (rfl) (hlt)) fun a h => ?_
  refine tkq 5 h rfl hp (fun W hp => ld0 h (hS2.keep (by decide) hp cl0) hy rfl ag3 rfl) fun a h => ?_
  refine tkq 6 h rfl hp (fun W hp => iadR (y.toNat) h rfl rfl Tryz.underlying30 sz3 (hG.keep hp cl0).f (by omega) (by omega)) fun a h => ?_
  refine tkq 7 h rfl hp (fun W hp => ld0 h (hG.keep hp cl0).f hz rfl ag3 rfl) fun a h => ?_
  refine tkq 8 h rfl hp (fun W _ => gtr h rfl rfl) fun a h => ?_
  refine dn (by kernel_rfl) ?_
  refine cnd1 h rfl (fun hb64 => ?_) (fun hb64 => ?_)
  ·refine wp_exit ?_
   try simp only [xqs, ↓reduceIte, Nat.reduceEqDiff]
   refine rg1 ?_
   refine wmv h rfl fun a h => ?_
   refine wvl h (add h rfl rfl (by omega)) fun a h => ?_
   refine wsn h rfl fun a h => ?_
   exact ⟨_, _, (by omega), ⟨k + 1, by omega, rfl, rfl, hp.pre 5 rfl, trivial⟩, h.sub ⟨rfl, rfl, rfl, rfl, trivial⟩⟩
  have hzd : isDay z = true := by have := of_decide_eq_false hb64; simp only [isDay, inR, Bool.and_eq_true, decide_eq_true_eq]; omega
  refine skp ?_
  refine rdh (n := 17) hp mixed rfl ?_
  have hp := hp.drew
  refine tkq 0 h rfl hp (fun W hp => ldO (us := [_, _, _, _, _, _, _, _, _, _, _]) h hp rfl 0 rfl sz32 rfl ag32) fun a h => ?_
  refine tkm 1 h rfl hp rfl fun a h => ?_
  refine tkq 2 h rfl hp (fun W _ => fad h rfl fo32_4) fun a h => ?_
  refine tkq 3 h rfl hp (fun W hp => ldo h hp rfl 0 rfl rfl ag30) fun a h => ?_
  refine tkm 4 h rfl hp rfl fun a h => ?_
  refine tkm 5 h rfl hp rfl fun a h => ?_
  refine tkq 6 h rfl hp (fun W hp => iadR (k) h rfl rfl Tryz.underlying30 sz3 (hS2.keep (by decide) hp cl0) (rfl) (hlt)) fun a h => ?_
  refine tkq 7 h rfl hp (fun W hp => ld0 h (hS2.keep (by decide) hp cl0) hy rfl ag3 rfl) fun a h => ?_
  refine tkq 8 h rfl hp (fun W hp => iadR (y.toNat) h rfl rfl Tryz.underlying30 sz3 (hG.keep hp cl0).f (by omega) (by omega)) fun a h => ?_
  refine tkq 9 h rfl hp (fun W hp => ld0 h (hG.keep hp cl0).f hz rfl ag3 rfl) fun a h => ?_
  refine two 10 14 (by kernel_rfl) rfl rfl ?_ ?_
  ·refine (cal h rfl en21 (Off_s x e s2 st z _ (hE0.keep hp cl0) hzd) fun u w97 ⟨e1, e2⟩ a h => ⟨hp.below e2, ?_⟩)
   subst e1
   have hp := hp.below e2
   refine tkm 11 h rfl hp rfl fun a h => ?_
   refine tkq 12 h rfl hp (fun W _ => ext h rfl rfl) fun a h => ?_
   refine tkq 13 h rfl hp (fun W _ => ext h rfl rfl) fun a h => ?_
   refine one 14 (by kernel_rfl) rfl (all h hp zc39 fun a w98 g17 hg17 h hp => ⟨((hp).pre 5 rfl), ?_⟩)
   refine one 15 (by kernel_rfl) rfl (sta h hp rfl rfl 5 rfl sz39 rfl rfl fun w99 hp => ⟨((hp).pre 5 rfl), ?_⟩)
   refine tka 16 h rfl ((hp).pre 5 rfl) rfl fun a h => ?_
   refine dn (by kernel_rfl) ?_
   refine rg ?_
   refine wmv h rfl fun a h => ?_
   refine wvl h (nei h rfl rfl) fun a h => ?_
   refine wmv h rfl fun a h => ?_
   refine split (t := 155) h rfl (fun hb65 => ?_) (fun hb65 => ?_)
   ·exact absurd hb65 (by first | decide | (simp; done))
   refine wl (stp_on h rfl rfl rfl hb65 (vl h (ldO (us := [_, _, _]) h hp rfl 5 rfl sz39 rfl ag39) fun a h => ?_))
   refine wl (stp_on h rfl rfl rfl hb65 (vl h (bld h rfl (bl39_ _)) fun a h => ?_))
   refine wl (stp_on h rfl rfl rfl hb65 (vl h (neS h rfl rfl (by kernel_rfl) (eqs39 _ _ _ _ _ _)) fun a h => ?_))
   refine wvl h (pckF h rfl hb65 rfl) fun a h => ?_
   refine wn ?_
   refine cnd1 h rfl (fun hb66 => ?_) (fun hb66 => ?_)
   ·exact absurd hb66 (by rw [hos]; first | decide | simp)
   refine wp_skip ?_
   refine rg1 ?_
   refine wmv h rfl fun a h => ?_
   refine wvl h (add h rfl rfl (by omega)) fun a h => ?_
   refine wsn h rfl fun a h => ?_
   exact ⟨_, _, (by omega), ⟨k + 1, by omega, rfl, rfl, hp.pre 5 rfl, trivial⟩, h.sub ⟨rfl, rfl, rfl, rfl, trivial⟩⟩
  refine (all h hp zc39 fun a w100 g18 hg18 h hp => ⟨((hp).pre 5 rfl), ?_⟩)
  refine one 10 (by kernel_rfl) rfl (cal h rfl en21 (Off_s x e s2 st z _ (hE0.keep hp cl0) hzd) fun u w101 ⟨e1, e2⟩ a h => ⟨((hp.below e2).pre 5 rfl), ?_⟩)
  subst e1
  have hp := hp.below e2
  refine tkm 11 h rfl ((hp).pre 5 rfl) rfl fun a h => ?_
  refine tkq 12 h rfl ((hp).pre 5 rfl) (fun W _ => ext h rfl rfl) fun a h => ?_
  refine tkq 13 h rfl ((hp).pre 5 rfl) (fun W _ => ext h rfl rfl) fun a h => ?_
  refine one 15 (by kernel_rfl) rfl (sta h hp rfl rfl 5 rfl sz39 rfl rfl fun w102 hp => ⟨((hp).pre 5 rfl), ?_⟩)
  refine tka 16 h rfl ((hp).pre 5 rfl) rfl fun a h => ?_
  refine dn (by kernel_rfl) ?_
  refine rg ?_
  refine wmv h rfl fun a h => ?_
  refine wvl h (nei h rfl rfl) fun a h => ?_
  refine wmv h rfl fun a h => ?_
  refine split (t := 155) h rfl (fun hb67 => ?_) (fun hb67 => ?_)
  ·exact absurd hb67 (by first | decide | (simp; done))
  refine wl (stp_on h rfl rfl rfl hb67 (vl h (ldO (us := [_, _, _]) h hp rfl 5 rfl sz39 rfl ag39) fun a h => ?_))
  refine wl (stp_on h rfl rfl rfl hb67 (vl h (bld h rfl (bl39_ _)) fun a h => ?_))
  refine wl (stp_on h rfl rfl rfl hb67 (vl h (neS h rfl rfl (by kernel_rfl) (eqs39 _ _ _ _ _ _)) fun a h => ?_))
  refine wvl h (pckF h rfl hb67 rfl) fun a h => ?_
  refine wn ?_
  refine cnd1 h rfl (fun hb68 => ?_) (fun hb68 => ?_)
  ·exact absurd hb68 (by rw [hos]; first | decide | simp)
  refine wp_skip ?_
  refine rg1 ?_
  refine wmv h rfl fun a h => ?_
  refine wvl h (add h rfl rfl (by omega)) fun a h => ?_
  refine wsn h rfl fun a h => ?_
  exact ⟨_, _, (by omega), ⟨k + 1, by omega, rfl, rfl, hp.pre 5 rfl, trivial⟩, h.sub ⟨rfl, rfl, rfl, rfl, trivial⟩⟩
 refine wp_exit ?_
 try simp only [xqs, ↓reduceIte, Nat.reduceEqDiff]
 refine rg ?_
 refine wl (cal h rfl en20 (known_L _ (hGl.keep hp)) fun u w103 ⟨e1, e2⟩ a h => ?_)
 subst e1
 have hp := hp.below e2
 refine wsn h rfl fun a h => ?_
 refine wp_ret ?_
 try simp only [xqs]
 refine rt_1 h rfl (rvT h rfl) ?_
 exact ⟨_, rfl, rfl, hp.bel⟩
end Go.Proofs.Ec
