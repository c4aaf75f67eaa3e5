import Derived.Test.YtepjdckdhddfbaaGreatDoorProg
import Derived.Test.YtepjdckdhddfbaaGreatDoorPFa
import Derived.Test.YtepjdckdhddfbaaGreatDoorPQb
import Derived.Test.YtepjdckdhddfbaaGreatDoorPW26
import Derived.Test.YtepjdckdhddfbaaGreatDoorPQc
import Derived.Test.YtepjdckdhddfbaaGreatDoorPW1
import Derived.Test.YtepjdckdhddfbaaGreatDoorPW2
import Derived.Test.YtepjdckdhddfbaaGreatDoorPW3
import Derived.Test.YtepjdckdhddfbaaGreatDoorPW4
import Derived.Test.YtepjdckdhddfbaaGreatDoorPW5
import Derived.Test.YtepjdckdhddfbaaGreatDoorPW6
import Derived.Test.YtepjdckdhddfbaaGreatDoorPW7
import Derived.Test.YtepjdckdhddfbaaGreatDoorPW8
import Derived.Test.YtepjdckdhddfbaaGreatDoorPW9
import Derived.Test.YtepjdckdhddfbaaGreatDoorPW10
import Derived.Test.YtepjdckdhddfbaaGreatDoorPW11
import Derived.Test.YtepjdckdhddfbaaGreatDoorPW13
import Derived.Test.YtepjdckdhddfbaaGreatDoorPW14
import Derived.Test.YtepjdckdhddfbaaGreatDoorPW15
import Derived.Test.YtepjdckdhddfbaaGreatDoorPW16
import Derived.Test.YtepjdckdhddfbaaGreatDoorPW17
import Derived.Test.YtepjdckdhddfbaaGreatDoorPW19
import Derived.Test.YtepjdckdhddfbaaGreatDoorPW20
import Derived.Test.YtepjdckdhddfbaaGreatDoorPW21
import Derived.Test.YtepjdckdhddfbaaGreatDoorPQa
import Derived.Test.YtepjdckdhddfbaaGreatDoorPW23
import Derived.Test.YtepjdckdhddfbaaGreatDoorPW27
set_option linter.unusedVariables false
set_option linter.unusedSimpArgs false
set_option maxRecDepth 4000
namespace Go.Proofs.Ec
open Go.RowKit Go.Proofs.Sx
open Ecl
theorem train_L (s : SV) (l : List Int) (w : World) (hR : Rd w encI 1 s.v l) (hln : l.length ≤ 100) : Ret Tryz.prog 65 #[s.v] w fun u w' => (∃ s' : SV, u = s'.v ∧ Fr w w' encP 2 s'.v ((List.range (l.length / 2)).map (prT l))) ∧ Below w.heap.size w w' := by
 have hp : Hp c0 w w [] := Hp.start trivial
 refine enter Tryz.func65 rfl (N := 26) rfl rfl fun a h => ?_
 refine rg ?_
 refine wsn h rfl fun a h => ?_
 refine rg ?_
 refine wsn h rfl fun a h => ?_
 refine wp_seq ?_
 refine rg ?_
 refine wsn h rfl fun a h => ?_
 have hp := hp.nilB 143 2
 refine lp1 h [0, 2] (fun n f w' => ∃ (j : Nat) (s1 : SV), j ≤ l.length / 2 ∧ n = l.length / 2 - j ∧ f = [(4, .int .i64 ((2 * j : Nat) : Int)), (3, s1.v)] ∧ Hp c0 w w' [.buf 143 2 s1.v j (((List.range j).map (prT l)).flatMap encP)]) (l.length / 2) [(4, .int .i64 ((2 * 0 : Nat) : Int)), (3, .slice none 0 0)] ⟨rfl, rfl, rfl, rfl, trivial⟩ ⟨0, ⟨none, 0, 0⟩, Nat.zero_le _, rfl, rfl, hp⟩ ?_
 rintro n f a w1 ⟨j, s1, hj, rfl, rfl, hp⟩ h
 have hfit := hR.fits
 refine wp_seq ?_
 refine rg ?_
 refine wmv h rfl fun a h => ?_
 refine wvl h (add h rfl rfl (by omega)) fun a h => ?_
 refine wmv h rfl fun a h => ?_
 refine wvl h (lenR h rfl Tryz.underlying74 (hR.keep (by decide) hp cl0)) fun a h => ?_
 refine wvl h (lss h rfl rfl) fun a h => ?_
 refine wn ?_
 refine cnd1 h rfl (fun hb1 => ?_) (fun hb1 => ?_)
 ·have hlt : j < l.length / 2 := by have := of_decide_eq_true hb1; omega
  obtain ⟨y, hy⟩ : ∃ y, l[2 * j]? = some y := ⟨_, List.getElem?_eq_getElem (by omega)⟩
  obtain ⟨z, hz⟩ : ∃ z, l[2 * j + 1]? = some z := ⟨_, List.getElem?_eq_getElem (by omega)⟩
  refine skp ?_
  refine blk ?_
  refine rdh1 (n := 14) ((hp).pick [] (by decide) rfl) mixed rfl ?_
  have hp := hp.drew
  refine tkm 0 h rfl ((hp).pick [] (by decide) rfl) rfl fun a h => ?_
  refine tkm 1 h rfl ((hp).pick [] (by decide) rfl) rfl fun a h => ?_
  refine tkm 2 h rfl ((hp).pick [] (by decide) rfl) rfl fun a h => ?_
  refine tkq 3 h rfl ((hp).pick [] (by decide) rfl) (fun W hp => iadR (2 * j) h rfl rfl Tryz.underlying74 sz3 (hR.keep (by decide) hp cl0) (rfl) (by omega)) fun a h => ?_
  refine tkq 4 h rfl ((hp).pick [] (by decide) rfl) (fun W hp => ld0 h (hR.keep (by decide) hp cl0) hy rfl ag3 rfl) fun a h => ?_
  refine tkm 5 h rfl ((hp).pick [] (by decide) rfl) rfl fun a h => ?_
  refine tkm 6 h rfl ((hp).pick [] (by decide) rfl) rfl fun a h => ?_
  refine tkq 7 h rfl ((hp).pick [] (by decide) rfl) (fun W _ => add h rfl rfl (by omega)) fun a h => ?_
  refine tkq 8 h rfl ((hp).pick [] (by decide) rfl) (fun W hp => iadR (2 * j + 1) h rfl rfl Tryz.underlying74 sz3 (hR.keep (by decide) hp cl0) (by push_cast; omega) (by omega)) fun a h => ?_
  refine tkq 9 h rfl ((hp).pick [] (by decide) rfl) (fun W hp => ld0 h (hR.keep (by decide) hp cl0) hz rfl ag3 rfl) fun a h => ?_
  refine tkq 10 h rfl ((hp).pick [] (by decide) rfl) (fun W _ => bld h rfl (bl143_0_1 _ _ _)) fun a h => ?_
  refine one 11 (by kernel_rfl) rfl (bsl h hp rfl (bs73_1_0 _ _) fun a w2 g1 hg1 h hp => ⟨((hp).pick [] (by decide) rfl), ?_⟩)
  refine one 12 (by kernel_rfl) rfl (app1 0 h hp rfl rfl rfl ap73 1 rfl rfl rfl (by omega) (by omega) fun a w3 v h hp => ⟨((hp).pick [] (by decide) rfl), ?_⟩)
  refine tka 13 h rfl ((hp).pick [] (by decide) rfl) rfl fun a h => ?_
  refine dn (by kernel_rfl) ?_
  try simp only [xqs, ↓reduceIte, Nat.reduceEqDiff]
  refine rg1 ?_
  refine wmv h rfl fun a h => ?_
  refine wvl h (add h rfl rfl (by omega)) fun a h => ?_
  refine wsn h rfl fun a h => ?_
  exact ⟨_, _, (by omega), ⟨j + 1, _, by omega, rfl, congrArg (fun z => [(4, Value.int .i64 z), (3, _)]) (by push_cast; omega : ((2 * j : Nat) : Int) + 2 = ((2 * (j + 1) : Nat) : Int)), hp.pre 1 (by rw [List.range_succ, List.map_append, List.map_cons, List.map_nil, prT_eq hy hz]; simp [encP])⟩, h.sub ⟨rfl, rfl, rfl, rfl, trivial⟩⟩
 have hend : j = l.length / 2 := by have := of_decide_eq_false hb1; omega
 subst hend
 refine wp_exit ?_
 try simp only [xqs, ↓reduceIte, Nat.reduceEqDiff]
 refine rg ?_
 refine wmv h rfl fun a h => ?_
 refine wsn h rfl fun a h => ?_
 refine wp_ret ?_
 try simp only [xqs]
 refine rt_1 h rfl (rvT h rfl) ?_
 exact ⟨_, rfl, ⟨s1, rfl, hp.frB (i := 0) rfl rfl (by simp) (fun _ _ => rfl)⟩, hp.bel⟩
theorem B_L  (w : World) : Ret Tryz.prog 42 #[] w fun u w' => (∃ s' : SV, u = s'.v ∧ Fr w w' encL 3 s'.v ([⟨10, 0, 3⟩, ⟨20, 0, 4⟩, ⟨20, 8, 3⟩] : List Ball)) ∧ Below w.heap.size w w' := by
 have hp : Hp c0 w w [] := Hp.start trivial
 refine enter Tryz.func42 rfl (N := 5) rfl rfl fun a h => ?_
 refine rg ?_
 refine wsn h rfl fun a h => ?_
 refine rg ?_
 refine wvl h (bld h rfl (bl51_0_2 _ _ _)) fun a h => ?_
 refine wvl h (bld h rfl (bl51_0_2 _ _ _)) fun a h => ?_
 refine wvl h (bld h rfl (bl51_0_1_2 _ _ _ _)) fun a h => ?_
 refine wl (bsl h hp rfl (bs37_3_0_1_2 _ _ _ _ _ _ _ _ _) fun a w1 g1 hg1 h hp => ?_)
 refine wsn h rfl fun a h => ?_
 refine wp_ret ?_
 try simp only [xqs]
 refine rt_1 h rfl (rvT h rfl) ?_
 exact ⟨_, rfl, ⟨⟨some ⟨g1, 0, none⟩, 3, 3⟩, rfl, ⟨hp.rdA (i := 0) ([⟨10, 0, 3⟩, ⟨20, 0, 4⟩, ⟨20, 8, 3⟩] : List Ball) rfl rfl rfl (Nat.le_refl _) (show 3 ≤ 9223372036854775807 by decide) (fun _ _ => rfl), fun _ => (hp.bnd (i := 0) rfl).1⟩⟩, hp.bel⟩
end Go.Proofs.Ec
