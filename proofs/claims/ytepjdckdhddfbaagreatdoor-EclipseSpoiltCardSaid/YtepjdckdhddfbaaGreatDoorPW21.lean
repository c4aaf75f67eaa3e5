import Derived.Test.YtepjdckdhddfbaaGreatDoorProg
import Derived.Test.YtepjdckdhddfbaaGreatDoorPFa
import Derived.Test.YtepjdckdhddfbaaGreatDoorPQb
import Derived.Test.YtepjdckdhddfbaaGreatDoorPW20
set_option linter.unusedVariables false
set_option linter.unusedSimpArgs false
set_option maxRecDepth 4000
namespace Go.Proofs.Ec
open Go.RowKit Go.Proofs.Sx
open Ecl
set_option maxHeartbeats 2000000 in
theorem parsed_e (s : Bs) (w : World) (hG : Glb w) (hsl : s.length ≤ 400) : RetP Tryz.prog 49 #[.string (bs s)] w (fun u w' => (∃ (out : List Ecl.Mark) (s' : SV), u = s'.v ∧ Fr w w' encM 3 s'.v out ∧ parse s = some out) ∧ Below w.heap.size w w') (fun v w' => ((∃ why : ByteArray, v = .iface 92 (.agg #[.string why])) ∧ parse s = none) ∧ Below w.heap.size w w') := by
 have hp : Hp c0 w w [] := Hp.start trivial
 refine enter Tryz.func49 rfl (N := 75) rfl rfl fun a h => ?_
 refine rg ?_
 refine wsn h rfl fun a h => ?_
 refine rg ?_
 refine wmv h rfl fun a h => ?_
 refine wl (cal h rfl en90 (split_e s 10 _ (by omega) (hG.keep hp)) fun u w1 ⟨⟨s20, e1, hf⟩, e2⟩ a h => ?_)
 subst e1
 have hp := hp.got (hp.below e2) (by decide) hf
 refine wsn h rfl fun a h => ?_
 refine rg ?_
 refine wmv h rfl fun a h => ?_
 refine wvl h (lenR h rfl Tryz.underlying95 (hp.rdF (i := 0) rfl)) fun a h => ?_
 refine wvl h (geq h rfl rfl) fun a h => ?_
 refine wmv h rfl fun a h => ?_
 refine wl (calP h rfl en91 (sure_e _ _ _) (fun u w2 ⟨⟨e1, hsu⟩, e2⟩ a h => ?_) (fun v w9 ⟨⟨e8, hsu⟩, e9⟩ => by subst e8; exact ⟨h.defs, .inr ⟨_, rfl, ⟨⟨_, rfl⟩, by exact parse_short (by have := of_decide_eq_false hsu; omega)⟩, (hp.below e9).bel⟩⟩))
 subst e1
 have hp := hp.below e2
 have h3 : 3 ≤ (splitL 10 s).length := by have := of_decide_eq_true hsu; omega
 refine wn ?_
 refine rg ?_
 refine wsn h rfl fun a h => ?_
 refine wp_seq ?_
 refine rg ?_
 have hf9 := splitL_len 10 s
 refine wm2 h rfl rfl rfl rfl fun a h => ?_
 refine wvl h (lenR h rfl Tryz.underlying95 (hp.rdF (i := 0) rfl)) fun a h => ?_
 refine wvl h (sub h rfl rfl (by omega)) fun a h => ?_
 refine wvl h (slcLH (1) ((splitL 10 s).length - 2) h rfl rfl rfl Tryz.underlying95 sz9 (hp.rdF (i := 0) rfl) (rfl) ((by omega)) (by omega) (by omega)) fun a h => ?_
 refine wvl h (lenR h rfl Tryz.underlying95 (show Rd _ encT 1 _ (partsOf s) from (hp.rdF (i := 0) rfl).cut (i := 1) (j := (splitL 10 s).length - 2) (by omega) (by omega))) fun a h => ?_
 refine wmv h rfl fun a h => ?_
 refine wn ?_
 have hp := hp.nilB 87 3
 refine lp1 h [0, 2, 21, 22] (fun n f w' => ∃ k : Nat, ∃ out : List Ecl.Mark, ∃ s1 : SV, k ≤ (partsOf s).length ∧ n = (partsOf s).length - k ∧ f = [(23, .int .i64 k), (4, s1.v)] ∧ Hp c0 w w' ([rdE encT 1 s20.v (splitL 10 s), .buf 87 3 s1.v out.length (out.flatMap encM)]) ∧ rowsOf ((partsOf s).take k) = some out) ((partsOf s).length) [(23, .int .i64 ((0 : Nat) : Int)), (4, .slice none 0 0)] ⟨rfl, rfl, rfl, rfl, rfl, rfl, trivial⟩ ⟨0, [], ⟨none, 0, 0⟩, Nat.zero_le _, rfl, rfl, hp, rfl⟩ ?_
 rintro n f a w3 ⟨k, out, s1, hk, rfl, rfl, hp, hI⟩ h
 have hfit := (show Rd _ encT 1 _ (partsOf s) from (hp.rdF (i := 0) rfl).cut (i := 1) (j := (splitL 10 s).length - 2) (by omega) (by omega)).fits
 refine rg ?_
 refine wvl h (lss h rfl rfl) fun a h => ?_
 refine wn ?_
 refine cnd h rfl (fun hb1 => ?_) (fun hb1 => ?_)
 ·have hlt : k < (partsOf s).length := by have := of_decide_eq_true hb1; omega
  obtain ⟨y, hy⟩ : ∃ y, (partsOf s)[k]? = some y := ⟨_, List.getElem?_eq_getElem hlt⟩
  have hyl := parts_mem (List.mem_of_getElem? hy)
  have hol := (rows_len _ _ hI).1
  rw [List.length_take] at hol
  have hpl := parts_len s
  refine skp ?_
  refine blk ?_
  refine rg ?_
  refine wvl h (iadR (k) h rfl rfl Tryz.underlying95 sz9 (show Rd _ encT 1 _ (partsOf s) from (hp.rdF (i := 0) rfl).cut (i := 1) (j := (splitL 10 s).length - 2) (by omega) (by omega)) (rfl) (hlt)) fun a h => ?_
  refine wvl h (ld0 h (show Rd _ encT 1 _ (partsOf s) from (hp.rdF (i := 0) rfl).cut (i := 1) (j := (splitL 10 s).length - 2) (by omega) (by omega)) hy rfl ag9 rfl) fun a h => ?_
  refine wsn h rfl fun a h => ?_
  refine rg ?_
  refine wmv h rfl fun a h => ?_
  refine wl (cal h rfl en90 (split_e y 32 _ (by omega) (hG.keep hp)) fun u w4 ⟨⟨s22, e1, hf⟩, e2⟩ a h => ?_)
  subst e1
  have hp := hp.got (hp.below e2) (by decide) hf
  refine wsn h rfl fun a h => ?_
  refine rdh (n := 19) hp mixed rfl ?_
  have hp := hp.drew
  refine tkm 0 h rfl hp rfl fun a h => ?_
  refine tkq 1 h rfl hp (fun W hp => lenR h rfl Tryz.underlying95 (hp.rdF (i := 2) rfl)) fun a h => ?_
  refine tkq 2 h rfl hp (fun W _ => eqi h rfl rfl) fun a h => ?_
  refine tkm 3 h rfl hp rfl fun a h => ?_
  refine split (t := 32) h rfl (fun hb2 => ?_) (fun hb2 => ?_)
  ·have hw3 : (splitL 32 y).length = 3 := by have := of_decide_eq_true hb2; omega
   obtain ⟨wa, wb, wc, hwa, hwb, hwc, hrow⟩ := row3 hw3
   refine tk_on 4 h rfl (by kernel_rfl) (fun _ _ _ q => q) hp rfl rfl rfl rfl rfl hb2 (fun W _ => mov h rfl) fun a h => ?_
   refine tk_on 5 h rfl (by kernel_rfl) (fun _ _ _ q => q) hp rfl rfl rfl rfl rfl hb2 (fun W hp => iadR (0) h rfl rfl Tryz.underlying95 sz9 (show Rd _ encT 1 s22.v (splitL 32 y) from by first | exact hp.rdF (i := 2) rfl | exact hp.rdF (i := 1) rfl) (rfl) (by omega)) fun a h => ?_
   refine tk_on 6 h rfl (by kernel_rfl) (fun _ _ _ q => q) hp rfl rfl rfl rfl rfl hb2 (fun W hp => ld0 h (show Rd _ encT 1 s22.v (splitL 32 y) from by first | exact hp.rdF (i := 2) rfl | exact hp.rdF (i := 1) rfl) hwa rfl ag9 rfl) fun a h => ?_
   refine tkm 17 h rfl hp rfl fun a h => ?_
   refine one 7 (by kernel_rfl) rfl (stp_on h rfl rfl rfl hb2 (cal h rfl en87 (word_e _ _) fun u w5 ⟨e1, e2⟩ a h => ⟨hp.below e2, ?_⟩))
   subst e1
   have hp := hp.below e2
   refine tk_on 8 h rfl (by kernel_rfl) (fun _ _ _ q => q) hp rfl rfl rfl rfl rfl hb2 (fun W _ => seB h rfl rfl) fun a h => ?_
   refine tk_on 9 h rfl (by kernel_rfl) (fun _ _ _ q => q) hp rfl rfl rfl rfl rfl hb2 (fun W _ => mov h rfl) fun a h => ?_
   refine split (t := 38) h rfl (fun hb3 => ?_) (fun hb3 => ?_)
   ·have hA : (wa == wFull) = true := hb3
    refine tkG 10 h rfl hp rfl rfl rfl hb3 fun a h => ?_
    refine tkG 11 h rfl hp rfl rfl rfl hb3 fun a h => ?_
    refine tkG 12 h rfl hp rfl rfl rfl hb3 fun a h => ?_
    refine tkG 13 h rfl hp rfl rfl rfl hb3 fun a h => ?_
    refine tkG 14 h rfl hp rfl rfl rfl hb3 fun a h => ?_
    refine tk_on 15 h rfl (by kernel_rfl) (fun _ _ _ q => q) hp rfl rfl rfl rfl rfl hb2 (fun W _ => pckT h rfl hb3 rfl) fun a h => ?_
    refine tkq 16 h rfl hp (fun W _ => pckT h rfl hb2 rfl) fun a h => ?_
    refine one 18 (by kernel_rfl) rfl (calP h rfl en91 (sure_e _ _ _) (fun u w6 ⟨⟨e1, hsu⟩, e2⟩ a h => ⟨hp.below e2, ?_⟩) (fun v w9 ⟨⟨e8, hsu⟩, e9⟩ => by subst e8; exact ⟨h.defs, .inr ⟨_, rfl, ⟨⟨_, rfl⟩, by exact absurd hsu (by decide)⟩, (hp.below e9).bel⟩⟩))
    subst e1
    have hp := hp.below e2
    have hgood : (wa == wFull || wa == wNew) = true := by rw [hA]; rfl
    refine dn (by kernel_rfl) ?_
    refine rg ?_
    refine wmv h rfl fun a h => ?_
    refine wvl h (iadR (1) h rfl rfl Tryz.underlying95 sz9 (show Rd _ encT 1 s22.v (splitL 32 y) from by first | exact hp.rdF (i := 2) rfl | exact hp.rdF (i := 1) rfl) (rfl) (by omega)) fun a h => ?_
    refine wvl h (ld0 h (show Rd _ encT 1 s22.v (splitL 32 y) from by first | exact hp.rdF (i := 2) rfl | exact hp.rdF (i := 1) rfl) hwb rfl ag9 rfl) fun a h => ?_
    refine wl (calP h rfl en92 (number_e wb _ (hG.keep hp)) (fun u w7 ⟨⟨e1, hnb⟩, e2⟩ a h => ?_) (fun v w9 ⟨⟨e8, hno⟩, e9⟩ => by subst e8; exact ⟨h.defs, .inr ⟨_, rfl, ⟨⟨_, rfl⟩, parse_no h3 (rows_bad hy (by rw [hrow, hgood, hno]; simp))⟩, (hp.below e9).bel⟩⟩))
    subst e1
    have hp := hp.below e2
    refine wsn h rfl fun a h => ?_
    refine rg ?_
    refine wmv h rfl fun a h => ?_
    refine wvl h (iadR (2) h rfl rfl Tryz.underlying95 sz9 (show Rd _ encT 1 s22.v (splitL 32 y) from by first | exact hp.rdF (i := 2) rfl | exact hp.rdF (i := 1) rfl) (rfl) (by omega)) fun a h => ?_
    refine wvl h (ld0 h (show Rd _ encT 1 s22.v (splitL 32 y) from by first | exact hp.rdF (i := 2) rfl | exact hp.rdF (i := 1) rfl) hwc rfl ag9 rfl) fun a h => ?_
    refine wl (calP h rfl en92 (number_e wc _ (hG.keep hp)) (fun u w8 ⟨⟨e1, hnc⟩, e2⟩ a h => ?_) (fun v w9 ⟨⟨e8, hno⟩, e9⟩ => by subst e8; exact ⟨h.defs, .inr ⟨_, rfl, ⟨⟨_, rfl⟩, parse_no h3 (rows_bad hy (by rw [hrow, hgood, hno]; simp))⟩, (hp.below e9).bel⟩⟩))
    subst e1
    have hp := hp.below e2
    refine wsn h rfl fun a h => ?_
    refine rdh1 (n := 12) ((hp).pick [0, 2] (by decide) rfl) mixed rfl ?_
    have hp := hp.drew
    refine tkm 0 h rfl ((hp).pick [0, 2] (by decide) rfl) rfl fun a h => ?_
    refine tkm 1 h rfl ((hp).pick [0, 2] (by decide) rfl) rfl fun a h => ?_
    refine tkm 2 h rfl ((hp).pick [0, 2] (by decide) rfl) rfl fun a h => ?_
    refine tkq 3 h rfl ((hp).pick [0, 2] (by decide) rfl) (fun W hp => iadR (0) h rfl rfl Tryz.underlying95 sz9 (show Rd _ encT 1 s22.v (splitL 32 y) from by first | exact hp.rdF (i := 2) rfl | exact hp.rdF (i := 1) rfl) (rfl) (by omega)) fun a h => ?_
    refine tkq 4 h rfl ((hp).pick [0, 2] (by decide) rfl) (fun W hp => ld0 h (show Rd _ encT 1 s22.v (splitL 32 y) from by first | exact hp.rdF (i := 2) rfl | exact hp.rdF (i := 1) rfl) hwa rfl ag9 rfl) fun a h => ?_
    refine tkm 7 h rfl ((hp).pick [0, 2] (by decide) rfl) rfl fun a h => ?_
    refine one 5 (by kernel_rfl) rfl (cal h rfl en87 (word_e _ _) fun u w9 ⟨e1, e2⟩ a h => ⟨((hp.below e2).pick [0, 2] (by decide) rfl), ?_⟩)
    subst e1
    have hp := hp.below e2
    refine tkq 6 h rfl ((hp).pick [0, 2] (by decide) rfl) (fun W _ => seB h rfl rfl) fun a h => ?_
    refine tkq 8 h rfl ((hp).pick [0, 2] (by decide) rfl) (fun W _ => bld h rfl (bl87_0_1_2 _ _ _ _)) fun a h => ?_
    refine one 9 (by kernel_rfl) rfl (bsl h hp rfl (bs22_1_0 _ _ _) fun a w10 g1 hg1 h hp => ⟨((hp).pick [0, 2] (by decide) rfl), ?_⟩)
    refine one 10 (by kernel_rfl) rfl (app1 1 h hp rfl rfl rfl ap22 3 rfl rfl rfl (by omega) (by omega) fun a w11 v h hp => ⟨((hp).pick [0, 2] (by decide) rfl), ?_⟩)
    refine tka 11 h rfl ((hp).pick [0, 2] (by decide) rfl) rfl fun a h => ?_
    refine dn (by kernel_rfl) ?_
    try simp only [xqs, ↓reduceIte, Nat.reduceEqDiff]
    refine rg1 ?_
    have hrow2 : rowOf (splitL 32 y) = some ⟨numVal wb 0, wa == wFull, numVal wc 0⟩ := by rw [hrow, hgood, hnb, hnc]; rfl
    refine wvl h (add h rfl rfl (by omega)) fun a h => ?_
    refine wmv h rfl fun a h => ?_
    refine wn ?_
    exact ⟨_, _, (by omega), ⟨k + 1, out ++ [⟨numVal wb 0, wa == wFull, numVal wc 0⟩], _, by omega, rfl, rfl, hp.pre 2 (by simp [encM]; rfl), by rw [take_snoc hy]; exact rows_app _ _ _ _ hI hrow2⟩, h.sub ⟨rfl, rfl, rfl, rfl, rfl, rfl, trivial⟩⟩
   have hA : (wa == wFull) = false := hb3
   refine tk_on 10 h rfl (by kernel_rfl) (fun _ _ _ q => q) hp rfl rfl rfl rfl rfl hb3 (fun W _ => mov h rfl) fun a h => ?_
   refine tk_on 11 h rfl (by kernel_rfl) (fun _ _ _ q => q) hp rfl rfl rfl rfl rfl hb3 (fun W hp => iadR (0) h rfl rfl Tryz.underlying95 sz9 (show Rd _ encT 1 s22.v (splitL 32 y) from by first | exact hp.rdF (i := 2) rfl | exact hp.rdF (i := 1) rfl) (rfl) (by omega)) fun a h => ?_
   refine tk_on 12 h rfl (by kernel_rfl) (fun _ _ _ q => q) hp rfl rfl rfl rfl rfl hb3 (fun W hp => ld0 h (show Rd _ encT 1 s22.v (splitL 32 y) from by first | exact hp.rdF (i := 2) rfl | exact hp.rdF (i := 1) rfl) hwa rfl ag9 rfl) fun a h => ?_
   refine one 13 (by kernel_rfl) rfl (stp_on h rfl rfl rfl hb3 (cal h rfl en87 (word_e _ _) fun u w12 ⟨e1, e2⟩ a h => ⟨hp.below e2, ?_⟩))
   subst e1
   have hp := hp.below e2
   refine tk_on 14 h rfl (by kernel_rfl) (fun _ _ _ q => q) hp rfl rfl rfl rfl rfl hb3 (fun W _ => seB h rfl rfl) fun a h => ?_
   refine tk_on 15 h rfl (by kernel_rfl) (fun _ _ _ q => q) hp rfl rfl rfl rfl rfl hb2 (fun W _ => pckF h rfl hb3 rfl) fun a h => ?_
   refine tkq 16 h rfl hp (fun W _ => pckT h rfl hb2 rfl) fun a h => ?_
   refine one 18 (by kernel_rfl) rfl (calP h rfl en91 (sure_e _ _ _) (fun u w13 ⟨⟨e1, hsu⟩, e2⟩ a h => ⟨hp.below e2, ?_⟩) (fun v w9 ⟨⟨e8, hsu⟩, e9⟩ => by subst e8; exact ⟨h.defs, .inr ⟨_, rfl, ⟨⟨_, rfl⟩, by exact parse_no h3 (rows_bad hy (by rw [hrow, hA, show (wa == wNew) = false from hsu]; simp))⟩, (hp.below e9).bel⟩⟩))
   subst e1
   have hp := hp.below e2
   have hgood : (wa == wFull || wa == wNew) = true := by rw [hA, show (wa == wNew) = true from hsu]; rfl
   refine dn (by kernel_rfl) ?_
   refine rg ?_
   refine wmv h rfl fun a h => ?_
   refine wvl h (iadR (1) h rfl rfl Tryz.underlying95 sz9 (show Rd _ encT 1 s22.v (splitL 32 y) from by first | exact hp.rdF (i := 2) rfl | exact hp.rdF (i := 1) rfl) (rfl) (by omega)) fun a h => ?_
   refine wvl h (ld0 h (show Rd _ encT 1 s22.v (splitL 32 y) from by first | exact hp.rdF (i := 2) rfl | exact hp.rdF (i := 1) rfl) hwb rfl ag9 rfl) fun a h => ?_
   refine wl (calP h rfl en92 (number_e wb _ (hG.keep hp)) (fun u w14 ⟨⟨e1, hnb⟩, e2⟩ a h => ?_) (fun v w9 ⟨⟨e8, hno⟩, e9⟩ => by subst e8; exact ⟨h.defs, .inr ⟨_, rfl, ⟨⟨_, rfl⟩, parse_no h3 (rows_bad hy (by rw [hrow, hgood, hno]; simp))⟩, (hp.below e9).bel⟩⟩))
   subst e1
   have hp := hp.below e2
   refine wsn h rfl fun a h => ?_
   refine rg ?_
   refine wmv h rfl fun a h => ?_
   refine wvl h (iadR (2) h rfl rfl Tryz.underlying95 sz9 (show Rd _ encT 1 s22.v (splitL 32 y) from by first | exact hp.rdF (i := 2) rfl | exact hp.rdF (i := 1) rfl) (rfl) (by omega)) fun a h => ?_
   refine wvl h (ld0 h (show Rd _ encT 1 s22.v (splitL 32 y) from by first | exact hp.rdF (i := 2) rfl | exact hp.rdF (i := 1) rfl) hwc rfl ag9 rfl) fun a h => ?_
   refine wl (calP h rfl en92 (number_e wc _ (hG.keep hp)) (fun u w15 ⟨⟨e1, hnc⟩, e2⟩ a h => ?_) (fun v w9 ⟨⟨e8, hno⟩, e9⟩ => by subst e8; exact ⟨h.defs, .inr ⟨_, rfl, ⟨⟨_, rfl⟩, parse_no h3 (rows_bad hy (by rw [hrow, hgood, hno]; simp))⟩, (hp.below e9).bel⟩⟩))
   subst e1
   have hp := hp.below e2
   refine wsn h rfl fun a h => ?_
   refine rdh1 (n := 12) ((hp).pick [0, 2] (by decide) rfl) mixed rfl ?_
   have hp := hp.drew
   refine tkm 0 h rfl ((hp).pick [0, 2] (by decide) rfl) rfl fun a h => ?_
   refine tkm 1 h rfl ((hp).pick [0, 2] (by decide) rfl) rfl fun a h => ?_
   refine tkm 2 h rfl ((hp).pick [0, 2] (by decide) rfl) rfl fun a h => ?_
   refine tkq 3 h rfl ((hp).pick [0, 2] (by decide) rfl) (fun W hp => iadR (0) h rfl rfl Tryz.underlying95 sz9 (show Rd _ encT 1 s22.v (splitL 32 y) from by first | exact hp.rdF (i := 2) rfl | exact hp.rdF (i := 1) rfl) (rfl) (by omega)) fun a h => ?_
   refine tkq 4 h rfl ((hp).pick [0, 2] (by decide) rfl) (fun W hp => ld0 h (show Rd _ encT 1 s22.v (splitL 32 y) from by first | exact hp.rdF (i := 2) rfl | exact hp.rdF (i := 1) rfl) hwa rfl ag9 rfl) fun a h => ?_
   refine tkm 7 h rfl ((hp).pick [0, 2] (by decide) rfl) rfl fun a h => ?_
   refine one 5 (by kernel_rfl) rfl (cal h rfl en87 (word_e _ _) fun u w16 ⟨e1, e2⟩ a h => ⟨((hp.below e2).pick [0, 2] (by decide) rfl), ?_⟩)
   subst e1
   have hp := hp.below e2
   refine tkq 6 h rfl ((hp).pick [0, 2] (by decide) rfl) (fun W _ => seB h rfl rfl) fun a h => ?_
   refine tkq 8 h rfl ((hp).pick [0, 2] (by decide) rfl) (fun W _ => bld h rfl (bl87_0_1_2 _ _ _ _)) fun a h => ?_
   refine one 9 (by kernel_rfl) rfl (bsl h hp rfl (bs22_1_0 _ _ _) fun a w17 g2 hg2 h hp => ⟨((hp).pick [0, 2] (by decide) rfl), ?_⟩)
   refine one 10 (by kernel_rfl) rfl (app1 1 h hp rfl rfl rfl ap22 3 rfl rfl rfl (by omega) (by omega) fun a w18 v h hp => ⟨((hp).pick [0, 2] (by decide) rfl), ?_⟩)
   refine tka 11 h rfl ((hp).pick [0, 2] (by decide) rfl) rfl fun a h => ?_
   refine dn (by kernel_rfl) ?_
   try simp only [xqs, ↓reduceIte, Nat.reduceEqDiff]
   refine rg1 ?_
   have hrow2 : rowOf (splitL 32 y) = some ⟨numVal wb 0, wa == wFull, numVal wc 0⟩ := by rw [hrow, hgood, hnb, hnc]; rfl
   refine wvl h (add h rfl rfl (by omega)) fun a h => ?_
   refine wmv h rfl fun a h => ?_
   refine wn ?_
   exact ⟨_, _, (by omega), ⟨k + 1, out ++ [⟨numVal wb 0, wa == wFull, numVal wc 0⟩], _, by omega, rfl, rfl, hp.pre 2 (by simp [encM]; rfl), by rw [take_snoc hy]; exact rows_app _ _ _ _ hI hrow2⟩, h.sub ⟨rfl, rfl, rfl, rfl, rfl, rfl, trivial⟩⟩
  have hrow := row_no (W := splitL 32 y) (by have := of_decide_eq_false hb2; omega)
  refine tkG 4 h rfl hp rfl rfl rfl hb2 fun a h => ?_
  refine tkG 5 h rfl hp rfl rfl rfl hb2 fun a h => ?_
  refine tkG 6 h rfl hp rfl rfl rfl hb2 fun a h => ?_
  refine tkG 7 h rfl hp rfl rfl rfl hb2 fun a h => ?_
  refine tkG 8 h rfl hp rfl rfl rfl hb2 fun a h => ?_
  refine tkG 9 h rfl hp rfl rfl rfl hb2 fun a h => ?_
  refine tk_un 10 h rfl (by kernel_rfl) (fun _ _ _ q => q) hp rfl rfl rfl rfl rfl fun a h => ?_
  refine tk_un 11 h rfl (by kernel_rfl) (fun _ _ _ q => q) hp rfl rfl rfl rfl rfl fun a h => ?_
  refine tk_un 12 h rfl (by kernel_rfl) (fun _ _ _ q => q) hp rfl rfl rfl rfl rfl fun a h => ?_
  refine tk_un 13 h rfl (by kernel_rfl) (fun _ _ _ q => q) hp rfl rfl rfl rfl rfl fun a h => ?_
  refine tk_un 14 h rfl (by kernel_rfl) (fun _ _ _ q => q) hp rfl rfl rfl rfl rfl fun a h => ?_
  refine tkG 15 h rfl hp rfl rfl rfl hb2 fun a h => ?_
  refine tkq 16 h rfl hp (fun W _ => pckF h rfl hb2 rfl) fun a h => ?_
  refine tkm 17 h rfl hp rfl fun a h => ?_
  refine one 18 (by kernel_rfl) rfl (calP h rfl en91 (sure_e _ _ _) (fun u w19 ⟨⟨e1, hsu⟩, e2⟩ a h => ⟨hp.below e2, ?_⟩) (fun v w9 ⟨⟨e8, hsu⟩, e9⟩ => by subst e8; exact ⟨h.defs, .inr ⟨_, rfl, ⟨⟨_, rfl⟩, by exact parse_no h3 (rows_bad hy hrow)⟩, (hp.below e9).bel⟩⟩))
  subst e1
  have hp := hp.below e2
  exact absurd hsu (by decide)
 have hend : k = (partsOf s).length := by have := of_decide_eq_false hb1; omega
 subst hend
 rw [List.take_length] at hI
 refine wp_exit ?_
 try simp only [xqs, ↓reduceIte, Nat.reduceEqDiff]
 refine rg ?_
 have hpl := parts_len s
 have hrl := rows_len _ _ hI
 have hSm : Small out := ⟨by omega, hrl.2⟩
 refine wmv h rfl fun a h => ?_
 refine wl (cal h rfl en45 (text_e _ _ _ (hp.rdB (i := 1) (ys := out) rfl rfl rfl (fun _ _ => rfl)) (hG.keep hp) hSm) fun u w20 ⟨e1, e2⟩ a h => ?_)
 subst e1
 have hp := hp.below e2
 refine wmv h rfl fun a h => ?_
 refine wvl h (seB h rfl rfl) fun a h => ?_
 refine wmv h rfl fun a h => ?_
 refine wl (calP h rfl en91 (sure_e _ _ _) (fun u w21 ⟨⟨e1, hsu⟩, e2⟩ a h => ?_) (fun v w9 ⟨⟨e8, hsu⟩, e9⟩ => by subst e8; exact ⟨h.defs, .inr ⟨_, rfl, ⟨⟨_, rfl⟩, by rw [parse_some h3 hI, hsu]; rfl⟩, (hp.below e9).bel⟩⟩))
 subst e1
 have hp := hp.below e2
 have hpar : parse s = some out := by rw [parse_some h3 hI, hsu]; rfl
 refine wn ?_
 refine rg ?_
 refine wmv h rfl fun a h => ?_
 refine wsn h rfl fun a h => ?_
 refine wp_ret ?_
 try simp only [xqs]
 refine rt_1 h rfl (rvT h rfl) ?_
 exact .inl ⟨_, rfl, ⟨out, s1, rfl, hp.frB (i := 1) rfl rfl rfl (fun _ _ => rfl), hpar⟩, hp.bel⟩
theorem read1_ret {c : Cx} {w0 : World} {hl : HL} (ga gb : Nat) (v : Value) (n0 : Int) (why : ByteArray) (w : World) (hp : Hp c w0 w (.blk ga (.cells #[v] 22 (0, 0)) :: .blk gb (.cells #[.int .i64 n0] 24 (0, 0)) :: hl)) : CallsD Tryz.prog 48 #[.pointer (some ⟨ga, 0, none⟩), .pointer (some ⟨gb, 0, none⟩)] .returning w fun e u' w' => (∃ v, e = .returned v) ∧ settle u' = .returning ∧ Hp c w0 w' (.blk ga (.cells #[v] 22 (0, 0)) :: .blk gb (.cells #[.int .i64 n0] 24 (0, 0)) :: hl) := by
 refine enterR (N := 11) (G := fun w' => Hp c w0 w' (.blk ga (.cells #[v] 22 (0, 0)) :: .blk gb (.cells #[.int .i64 n0] 24 (0, 0)) :: hl)) (none) Tryz.func48 rfl rfl rfl rfl rfl fun a h => ?_
 refine blk1 ?_
 refine rg ?_
 refine wvl h (eqN0 h rfl rfl Tryz.underlying20) fun a h => ?_
 refine wn ?_
 refine cnd1 h rfl (fun _ => ?_) (fun e => nomatch e)
 refine rg1 ?_
 refine wsg h rfl fun a h => ?_
 refine wn' ?_
 try simp only [xqs, ↓reduceIte, Nat.reduceEqDiff]
 exact ⟨by simp, h.defs, hp⟩
theorem read1_pan {c : Cx} {w0 : World} {hl : HL} (ga gb : Nat) (v : Value) (n0 : Int) (why : ByteArray) (w : World) (hp : Hp c w0 w (.blk ga (.cells #[v] 22 (0, 0)) :: .blk gb (.cells #[.int .i64 n0] 24 (0, 0)) :: hl)) : CallsD Tryz.prog 48 #[.pointer (some ⟨ga, 0, none⟩), .pointer (some ⟨gb, 0, none⟩)] (.panicking [{ v := .iface 92 (.agg #[.string why]), recovered := false }]) w fun e u' w' => (∃ v, e = .returned v) ∧ settle u' = .returning ∧ Hp c w0 w' (.blk ga (.cells #[.slice none 0 0] 22 (0, 0)) :: .blk gb (.cells #[.int .i64 4] 24 (0, 0)) :: hl) := by
 refine enterR (N := 11) (G := fun w' => Hp c w0 w' (.blk ga (.cells #[.slice none 0 0] 22 (0, 0)) :: .blk gb (.cells #[.int .i64 4] 24 (0, 0)) :: hl)) (some (.iface 92 (.agg #[.string why]))) Tryz.func48 rfl rfl rfl rfl rfl fun a h => ?_
 refine blk1 ?_
 refine rg ?_
 refine wvl h (eqN1 h rfl rfl Tryz.underlying20) fun a h => ?_
 refine wn ?_
 refine cnd1 h rfl (fun e => nomatch e) (fun _ => ?_)
 refine rg ?_
 refine wvl h (tya h rfl (tv92_20 _ _)) fun a h => ?_
 refine wvl h (ext h rfl rfl) fun a h => ?_
 refine wvl h (ext h rfl rfl) fun a h => ?_
 refine wn ?_
 refine cnd1 h rfl (fun _ => ?_) (fun e => nomatch e)
 refine rg ?_
 refine wl (all h hp zc92 fun a w1 g1 hg1 h hp => ?_)
 have hp := hp.front
 refine wl (sta h hp rfl rfl 0 rfl sz92 rfl rfl fun w2 hp => ?_)
 refine wn ?_
 refine rg1 ?_
 refine wl (st1 h hp rfl rfl 1 rfl rfl sz22 rfl fun w3 hp => ?_)
 refine wl (st1 h hp rfl rfl 2 rfl rfl sz24 rfl fun w4 hp => ?_)
 refine wn' ?_
 try simp only [xqs, ↓reduceIte, Nat.reduceEqDiff]
 exact ⟨by simp, h.defs, hp.tail⟩
theorem Read_e (s : Bs) (w : World) (hG : Glb w) : Ret Tryz.prog 13 #[.string (bs s)] w fun u w' => (∃ s' : SV, u = .tuple #[s'.v, .int .i64 (readErr s)] ∧ Fr w w' encM 3 s'.v (readVal s)) ∧ Below w.heap.size w w' := by
 have hp : Hp c0 w w [] := Hp.start trivial
 refine enterD Tryz.func13 rfl (N := 14) rfl rfl fun a h => ?_
 refine rg ?_
 refine wl (all h hp zc22 fun a w1 g1 hg1 h hp => ?_)
 refine wl (all h hp zc24 fun a w2 g2 hg2 h hp => ?_)
 refine wn ?_
 refine wp_seq ?_
 refine rg ?_
 refine wmv h rfl fun a h => ?_
 refine wvl h (leB h rfl Tryz.underlying9) fun a h => ?_
 refine wvl h (gtr h rfl rfl) fun a h => ?_
 refine wn ?_
 refine cnd1 h rfl (fun hb1 => ?_) (fun hb1 => ?_)
 ·have hb400 : 400 < s.length := by have := of_decide_eq_true hb1; omega
  refine rg ?_
  refine wl (st1 h hp rfl rfl 0 rfl rfl sz22 rfl fun w3 hp => ?_)
  refine wl (st1 h hp rfl rfl 1 rfl rfl sz24 rfl fun w4 hp => ?_)
  refine wn ?_
  refine wp_ret ?_
  try simp only [xqs]
  exact door0 h ⟨_, res2 rfl (rv1 h hp rfl 0 rfl rfl ag22) (rv1 h hp rfl 1 rfl rfl ag24), ⟨_, rfl, ⟨⟨none, 0, 0⟩, by rw [readErr, if_pos hb400]; rfl, by rw [readVal, if_pos hb400]; exact Fr.nil⟩, hp.bel⟩⟩
 have hb400 : ¬ 400 < s.length := by have := of_decide_eq_false hb1; omega
 refine skp ?_
 refine rg ?_
 refine wvl h (mkf h rfl rfl) fun a h => ?_
 refine wl (dfr h rfl fun a h => ?_)
 refine wn ?_
 refine rg ?_
 refine wmv h rfl fun a h => ?_
 refine wl (calP h rfl en49 (parsed_e s _ (hG.keep hp) (by omega)) (fun u w5 ⟨⟨out, s1, e1, hf, hpar⟩, e2⟩ a h => ?_) (fun v w9 ⟨⟨⟨why, e8⟩, hno⟩, e9⟩ => by subst e8; have hp := hp.below e9; exact door h (by simp) en48 (read1_pan g1 g2 _ _ why _ hp) fun w9 hp => ⟨_, res2 rfl (rv1 h hp rfl 0 rfl rfl ag22) (rv1 h hp rfl 1 rfl rfl ag24), ⟨_, rfl, ⟨⟨none, 0, 0⟩, by rw [readErr, if_neg hb400, hno]; rfl, by rw [readVal, if_neg hb400, hno]; exact Fr.nil⟩, hp.bel⟩⟩))
 subst e1
 have hp := hp.got (hp.below e2) (by decide) hf
 refine wl (st1 h hp rfl rfl 0 rfl rfl sz22 rfl fun w6 hp => ?_)
 refine wn ?_
 refine wp_seq ?_
 refine rg ?_
 refine wvl h (ldo h hp rfl 0 rfl rfl ag22) fun a h => ?_
 refine wl (cal h rfl en44 (isList_e _ _ _ (hp.rdF (i := 2) rfl)) fun u w7 ⟨e1, e2⟩ a h => ?_)
 subst e1
 have hp := hp.below e2
 refine wvl h (not_ h rfl) fun a h => ?_
 refine wn ?_
 refine cnd1 h rfl (fun hb2 => ?_) (fun hb2 => ?_)
 ·have hli : isList out = false := by simpa using hb2
  refine rg ?_
  refine wl (st1 h hp rfl rfl 0 rfl rfl sz22 rfl fun w8 hp => ?_)
  refine wl (st1 h hp rfl rfl 1 rfl rfl sz24 rfl fun w9 hp => ?_)
  refine wn ?_
  refine wp_ret ?_
  try simp only [xqs]
  exact door h (by simp) en48 (read1_ret g1 g2 _ _ default _ hp) fun w9 hp => ⟨_, res2 rfl (rv1 h hp rfl 0 rfl rfl ag22) (rv1 h hp rfl 1 rfl rfl ag24), ⟨_, rfl, ⟨⟨none, 0, 0⟩, by rw [readErr, if_neg hb400, hpar]; simp only [hli]; rfl, by rw [readVal, if_neg hb400, hpar]; simp only [hli]; exact Fr.nil⟩, hp.bel⟩⟩
 have hli : isList out = true := by simpa using hb2
 refine skp ?_
 refine rg ?_
 refine wvl h (ldo h hp rfl 0 rfl rfl ag22) fun a h => ?_
 refine wl (st1 h hp rfl rfl 0 rfl rfl sz22 rfl fun w10 hp => ?_)
 refine wl (st1 h hp rfl rfl 1 rfl rfl sz24 rfl fun w11 hp => ?_)
 refine wn ?_
 refine wp_ret ?_
 try simp only [xqs]
 exact door h (by simp) en48 (read1_ret g1 g2 _ _ default _ hp) fun w9 hp => ⟨_, res2 rfl (rv1 h hp rfl 0 rfl rfl ag22) (rv1 h hp rfl 1 rfl rfl ag24), ⟨_, rfl, ⟨s1, by rw [readErr, if_neg hb400, hpar]; simp only [hli]; rfl, by rw [readVal, if_neg hb400, hpar]; simp only [hli]; exact hp.frR (i := 2) rfl⟩, hp.bel⟩⟩
end Go.Proofs.Ec
