import Derived.Test.YtepjdckdhddfbaaGreatDoorProg
import Derived.Test.YtepjdckdhddfbaaGreatDoorPFa
import Derived.Test.YtepjdckdhddfbaaGreatDoorPQb
import Derived.Test.YtepjdckdhddfbaaGreatDoorPW14
set_option linter.unusedVariables false
set_option linter.unusedSimpArgs false
set_option maxRecDepth 4000
namespace Go.Proofs.Ec
open Go.RowKit Go.Proofs.Sx
open Ecl
theorem Settings_s (x : EV) (e : Eng) (d1 d2 lt : Int) (w : World) (hG : RdG w x e) (hok : isEngine e = true) (hspan : (inR d1 1 9000 && inR d2 d1 9000 && decide (d2 - d1 ≤ 400) && inR lt 0 30) = true) : Ret Tryz.prog 41 #[.agg #[x.b.v, .int .i64 e.nnum, .int .i64 e.nden, .int .i64 e.nstart, x.s.v, x.m.v, x.n.v, x.f.v, .int .i64 e.new, .int .i64 e.full, .int .i64 e.wide], .int .i64 d1, .int .i64 d2, .int .i64 lt] w fun u w' => (match settings e d1 d2 lt with | some l => ∃ s : SV, u = .tuple #[s.v, .int .i64 0] ∧ Fr w w' encI 1 s.v l | none => u = .tuple #[.slice none 0 0, .int .i64 5]) ∧ Below w.heap.size w w' := by
 have ok := eng_ok hok
 have hf8 : e.feasts.length ≤ 8 := by have := ok.feasts; simp only [Bool.and_eq_true, decide_eq_true_eq] at this; exact this.2
 have hpw : 2 ^ e.feasts.length ≤ 2 ^ 8 := Nat.pow_le_pow_right (by decide) hf8
 have hp : Hp c0 w w [] := Hp.start trivial
 refine enter Tryz.func41 rfl (N := 42) rfl rfl fun a h => ?_
 refine rg ?_
 refine wl (box (cs := #[_, _, _, _, _, _, _, _, _, _, _]) h hp rfl rfl fun a w1 g1 hg1 h hp => ?_)
 refine wl (box (cs := #[_]) h hp rfl rfl fun a w2 g2 hg2 h hp => ?_)
 refine wl (box (cs := #[_]) h hp rfl rfl fun a w3 g3 hg3 h hp => ?_)
 refine wl (box (cs := #[_]) h hp rfl rfl fun a w4 g4 hg4 h hp => ?_)
 refine ws2 h rfl rfl rfl rfl fun a h => ?_
 refine wp_seq ?_
 refine cutN (fun a w' => Has [] 42 a [(4, .pointer (some ⟨g1, 0, none⟩)), (5, .pointer (some ⟨g2, 0, none⟩)), (6, .pointer (some ⟨g3, 0, none⟩)), (7, .pointer (some ⟨g4, 0, none⟩)), (11, .int .i64 0)] ∧ Hp c0 w w' [.blk g1 (.cells #[x.b.v, .int .i64 e.nnum, .int .i64 e.nden, .int .i64 e.nstart, x.s.v, x.m.v, x.n.v, x.f.v, .int .i64 e.new, .int .i64 e.full, .int .i64 e.wide] 76 (0, 0)), .blk g2 (.cells #[.int .i64 d1] 3 (0, 0)), .blk g3 (.cells #[.int .i64 d2] 3 (0, 0)), .blk g4 (.cells #[.int .i64 lt] 3 (0, 0))]) ?_ ?_
 ·refine rdh1 (n := 15) hp mixed rfl ?_
  have hp := hp.drew
  refine tkq 0 h rfl hp (fun W hp => ldO (us := [_, _, _, _, _, _, _, _, _, _, _]) h hp rfl 0 rfl sz76 rfl ag76) fun a h => ?_
  refine tkq 1 h rfl hp (fun W hp => ldo h hp rfl 1 rfl rfl ag3) fun a h => ?_
  refine tkq 2 h rfl hp (fun W hp => ldo h hp rfl 2 rfl rfl ag3) fun a h => ?_
  refine two 3 12 (by kernel_rfl) rfl rfl ?_ ?_
  ·refine (cal h rfl en69 (isSpan_e _ _ _) fun u w6 ⟨e1, e2⟩ a h => ⟨e2 ▸ hp, ?_⟩)
   subst e1
   subst e2
   refine tkm 4 h rfl hp rfl fun a h => ?_
   refine split (t := 21) h rfl (fun hb1 => ?_) (fun hb1 => ?_)
   ·refine tk_on 5 h rfl (by kernel_rfl) (fun _ _ _ q => q) hp rfl rfl rfl rfl rfl hb1 (fun W hp => ldo h hp rfl 3 rfl rfl ag3) fun a h => ?_
    refine two 6 12 (by kernel_rfl) rfl rfl ?_ ?_
    ·refine (stp_on h rfl rfl rfl hb1 (cal h rfl en71 (isLate_e _ _) fun u w7 ⟨e1, e2⟩ a h => ⟨e2 ▸ hp, ?_⟩))
     subst e1
     subst e2
     refine tkq 7 h rfl hp (fun W _ => pckT h rfl hb1 rfl) fun a h => ?_
     refine two 8 12 (by kernel_rfl) rfl rfl ?_ ?_
     ·refine (cal h rfl en62 (asked_s x e (⟨none, 0, 0⟩ : SV) [] _ _ ⟨hG.keep hp cl0, Rd.nil, hok, rfl⟩ (by first | exact hspan | simpa [isLate, hb1] using hspan)) fun u w8 ⟨⟨b9, e1, hb9, hm9⟩, e2⟩ a h => ⟨hp.below e2, ?_⟩)
      subst e1
      have hp := hp.below e2
      refine tkm 9 h rfl hp rfl fun a h => ?_
      refine tkq 10 h rfl hp (fun W _ => ext h rfl rfl) fun a h => ?_
      refine tkq 11 h rfl hp (fun W _ => ext h rfl rfl) fun a h => ?_
      refine one 12 (by kernel_rfl) rfl (all h hp zc105 fun a w9 g5 hg5 h hp => ⟨((hp).pre 4 rfl), ?_⟩)
      refine one 13 (by kernel_rfl) rfl (sta h hp rfl rfl 4 rfl sz105 rfl rfl fun w10 hp => ⟨((hp).pre 4 rfl), ?_⟩)
      refine tka 14 h rfl ((hp).pre 4 rfl) rfl fun a h => ?_
      refine dn (by kernel_rfl) ?_
      exact ⟨h.sub ⟨rfl, rfl, rfl, rfl, rfl, trivial⟩, hp.pre 4 rfl⟩
     refine (all h hp zc105 fun a w11 g6 hg6 h hp => ⟨((hp).pre 4 rfl), ?_⟩)
     refine one 8 (by kernel_rfl) rfl (cal h rfl en62 (asked_s x e (⟨none, 0, 0⟩ : SV) [] _ _ ⟨hG.keep hp cl0, Rd.nil, hok, rfl⟩ (by first | exact hspan | simpa [isLate, hb1] using hspan)) fun u w12 ⟨⟨b9, e1, hb9, hm9⟩, e2⟩ a h => ⟨((hp.below e2).pre 4 rfl), ?_⟩)
     subst e1
     have hp := hp.below e2
     refine tkm 9 h rfl ((hp).pre 4 rfl) rfl fun a h => ?_
     refine tkq 10 h rfl ((hp).pre 4 rfl) (fun W _ => ext h rfl rfl) fun a h => ?_
     refine tkq 11 h rfl ((hp).pre 4 rfl) (fun W _ => ext h rfl rfl) fun a h => ?_
     refine one 13 (by kernel_rfl) rfl (sta h hp rfl rfl 4 rfl sz105 rfl rfl fun w13 hp => ⟨((hp).pre 4 rfl), ?_⟩)
     refine tka 14 h rfl ((hp).pre 4 rfl) rfl fun a h => ?_
     refine dn (by kernel_rfl) ?_
     exact ⟨h.sub ⟨rfl, rfl, rfl, rfl, rfl, trivial⟩, hp.pre 4 rfl⟩
    refine (all h hp zc105 fun a w14 g7 hg7 h hp => ⟨((hp).pre 4 rfl), ?_⟩)
    refine one 6 (by kernel_rfl) rfl (stp_on h rfl rfl rfl hb1 (cal h rfl en71 (isLate_e _ _) fun u w15 ⟨e1, e2⟩ a h => ⟨((e2 ▸ hp).pre 4 rfl), ?_⟩))
    subst e1
    subst e2
    refine tkq 7 h rfl ((hp).pre 4 rfl) (fun W _ => pckT h rfl hb1 rfl) fun a h => ?_
    refine one 8 (by kernel_rfl) rfl (cal h rfl en62 (asked_s x e (⟨none, 0, 0⟩ : SV) [] _ _ ⟨hG.keep hp cl0, Rd.nil, hok, rfl⟩ (by first | exact hspan | simpa [isLate, hb1] using hspan)) fun u w16 ⟨⟨b9, e1, hb9, hm9⟩, e2⟩ a h => ⟨((hp.below e2).pre 4 rfl), ?_⟩)
    subst e1
    have hp := hp.below e2
    refine tkm 9 h rfl ((hp).pre 4 rfl) rfl fun a h => ?_
    refine tkq 10 h rfl ((hp).pre 4 rfl) (fun W _ => ext h rfl rfl) fun a h => ?_
    refine tkq 11 h rfl ((hp).pre 4 rfl) (fun W _ => ext h rfl rfl) fun a h => ?_
    refine one 13 (by kernel_rfl) rfl (sta h hp rfl rfl 4 rfl sz105 rfl rfl fun w17 hp => ⟨((hp).pre 4 rfl), ?_⟩)
    refine tka 14 h rfl ((hp).pre 4 rfl) rfl fun a h => ?_
    refine dn (by kernel_rfl) ?_
    exact ⟨h.sub ⟨rfl, rfl, rfl, rfl, rfl, trivial⟩, hp.pre 4 rfl⟩
   exact absurd hspan (by simp [hb1])
  refine (all h hp zc105 fun a w18 g8 hg8 h hp => ⟨((hp).pre 4 rfl), ?_⟩)
  refine one 3 (by kernel_rfl) rfl (cal h rfl en69 (isSpan_e _ _ _) fun u w19 ⟨e1, e2⟩ a h => ⟨((e2 ▸ hp).pre 4 rfl), ?_⟩)
  subst e1
  subst e2
  refine tkm 4 h rfl ((hp).pre 4 rfl) rfl fun a h => ?_
  refine split (t := 21) h rfl (fun hb2 => ?_) (fun hb2 => ?_)
  ·refine tk_on 5 h rfl (by kernel_rfl) (fun _ _ _ q => q) ((hp).pre 4 rfl) rfl rfl rfl rfl rfl hb2 (fun W hp => ldo h hp rfl 3 rfl rfl ag3) fun a h => ?_
   refine one 6 (by kernel_rfl) rfl (stp_on h rfl rfl rfl hb2 (cal h rfl en71 (isLate_e _ _) fun u w20 ⟨e1, e2⟩ a h => ⟨((e2 ▸ hp).pre 4 rfl), ?_⟩))
   subst e1
   subst e2
   refine tkq 7 h rfl ((hp).pre 4 rfl) (fun W _ => pckT h rfl hb2 rfl) fun a h => ?_
   refine one 8 (by kernel_rfl) rfl (cal h rfl en62 (asked_s x e (⟨none, 0, 0⟩ : SV) [] _ _ ⟨hG.keep hp cl0, Rd.nil, hok, rfl⟩ (by first | exact hspan | simpa [isLate, hb2] using hspan)) fun u w21 ⟨⟨b9, e1, hb9, hm9⟩, e2⟩ a h => ⟨((hp.below e2).pre 4 rfl), ?_⟩)
   subst e1
   have hp := hp.below e2
   refine tkm 9 h rfl ((hp).pre 4 rfl) rfl fun a h => ?_
   refine tkq 10 h rfl ((hp).pre 4 rfl) (fun W _ => ext h rfl rfl) fun a h => ?_
   refine tkq 11 h rfl ((hp).pre 4 rfl) (fun W _ => ext h rfl rfl) fun a h => ?_
   refine one 13 (by kernel_rfl) rfl (sta h hp rfl rfl 4 rfl sz105 rfl rfl fun w22 hp => ⟨((hp).pre 4 rfl), ?_⟩)
   refine tka 14 h rfl ((hp).pre 4 rfl) rfl fun a h => ?_
   refine dn (by kernel_rfl) ?_
   exact ⟨h.sub ⟨rfl, rfl, rfl, rfl, rfl, trivial⟩, hp.pre 4 rfl⟩
  exact absurd hspan (by simp [hb2])
 rintro a w5 ⟨h, hp⟩
 refine rg ?_
 refine wmv h rfl fun a h => ?_
 refine wvl h (nei h rfl rfl) fun a h => ?_
 refine wn ?_
 refine cnd1 h rfl (fun hb3 => ?_) (fun hb3 => ?_)
 ·exact absurd hb3 (by decide)
 refine skp ?_
 refine rg ?_
 refine wl (all h hp zc125 fun a w23 g9 hg9 h hp => ?_)
 refine wn ?_
 refine rg ?_
 refine wl (all h hp zc126 fun a w24 g10 hg10 h hp => ?_)
 refine wn ?_
 refine rg ?_
 refine wvl h (mkf h rfl rfl) fun a h => ?_
 refine wl (st1 h hp rfl rfl 5 rfl rfl sz126 rfl fun w25 hp => ?_)
 refine wn ?_
 refine rg ?_
 refine wvl h (ldo h hp rfl 5 rfl rfl ag126) fun a h => ?_
 have hp := (hp.nilB 74 1).nilB 3 1
 have hp := Hp.rds hp
 have hp := Hp.intoPool (s := (⟨none, 0, 0⟩ : SV)) (ys := []) (hp.pick [8, 0, 1, 6, 2, 3, 4, 5, 7] (by decide) rfl) rfl rfl
 refine wl (calv h rfl rfl en79 (search x e d1 d2 lt w g1 g10 g2 g3 g4 g9 hG hok hspan e.feasts.length 0 (⟨none, 0, 0⟩ : SV) [] [((⟨none, 0, 0⟩ : SV), [])] [] (⟨none, 0, 0⟩ : SV) _ (by omega) (by simp) (List.mem_singleton_self _) (by simp) (fun r hr => (isSet_iff e _).2 (mem_sets.1 hr)) (by show 0 + 2 ^ e.feasts.length ≤ 1000; omega) hp) fun u w26 ⟨e1, pool1, ps1, al1, hm1, hq1, he1, hp⟩ a h => ?_)
 subst e1
 have hst : bestOf (ps1.map (·.2)) = settings e d1 d2 lt := by rw [he1]; simp [settings]
 refine wn ?_
 refine rg ?_
 refine wvl h (ldo h hp rfl 6 rfl rfl ag125) fun a h => ?_
 refine wl (cal h rfl en81 (best_e al1 ps1 _ (hp.rdB (i := 7) rfl rfl rfl (fun _ _ => rfl)) (fun p hp9 => Hp.poolR hp (i := 0) rfl (hq1 p hp9))) fun u w27 ⟨hbest, e2⟩ a h => ?_)
 have hp := hp.below e2
 rcases hbest with ⟨hps0, rfl⟩ | ⟨p9, hp9, rfl, hbb⟩
 ·refine wmv h rfl fun a h => ?_
  refine wvl h (ext h rfl rfl) fun a h => ?_
  refine wvl h (ext h rfl rfl) fun a h => ?_
  refine ws2 h rfl rfl rfl rfl fun a h => ?_
  refine wp_seq ?_
  refine rg ?_
  refine wmv h rfl fun a h => ?_
  refine wvl h (not_ h rfl) fun a h => ?_
  refine wn ?_
  refine cnd1 h rfl (fun hb4 => ?_) (fun hb4 => ?_)
  ·refine rg ?_
   refine ws2 h rfl rfl rfl rfl fun a h => ?_
   refine wp_ret ?_
   try simp only [xqs]
   refine rt_2 h rfl (rvT h rfl) (rvT h rfl) ?_
   have e9 : settings e d1 d2 lt = none := by rw [← hst, hps0]; rfl
   refine ⟨_, rfl, ?_, hp.bel⟩
   rw [e9]
  exact absurd hb4 (by decide)
 refine wmv h rfl fun a h => ?_
 refine wvl h (ext h rfl rfl) fun a h => ?_
 refine wvl h (ext h rfl rfl) fun a h => ?_
 refine ws2 h rfl rfl rfl rfl fun a h => ?_
 refine wp_seq ?_
 refine rg ?_
 refine wmv h rfl fun a h => ?_
 refine wvl h (not_ h rfl) fun a h => ?_
 refine wn ?_
 refine cnd1 h rfl (fun hb5 => ?_) (fun hb5 => ?_)
 ·exact absurd hb5 (by decide)
 refine skp ?_
 refine rg ?_
 refine wmv h rfl fun a h => ?_
 refine ws2 h rfl rfl rfl rfl fun a h => ?_
 refine wp_ret ?_
 try simp only [xqs]
 refine rt_2 h rfl (rvT h rfl) (rvT h rfl) ?_
 have e9 : settings e d1 d2 lt = some p9.2 := by rw [← hst, hbb]
 refine ⟨_, rfl, ?_, hp.bel⟩
 rw [e9]
 exact ⟨p9.1, rfl, ⟨Hp.poolR hp (i := 0) rfl (hq1 p9 hp9), fun hl => ((hp.at' (p := rdsE pool1) (by simp)).2.2 _ ⟨p9, hq1 p9 hp9, hl, rfl⟩).1⟩⟩
end Go.Proofs.Ec
