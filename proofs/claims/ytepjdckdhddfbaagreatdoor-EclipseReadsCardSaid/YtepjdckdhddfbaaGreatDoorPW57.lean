import Derived.Test.YtepjdckdhddfbaaGreatDoorProg
import Derived.Test.YtepjdckdhddfbaaGreatDoorPFa
import Derived.Test.YtepjdckdhddfbaaGreatDoorPQb
import Derived.Test.YtepjdckdhddfbaaGreatDoorPW52
import Derived.Test.YtepjdckdhddfbaaGreatDoorPTc
import Derived.Test.YtepjdckdhddfbaaGreatDoorPTe
set_option linter.unusedVariables false
set_option linter.unusedSimpArgs false
set_option maxRecDepth 4000
namespace Go.Proofs.Ec
open Go.RowKit Go.Proofs.Sx
open Ecl
theorem en51_W57 : EnT Tryz.prog 51 := ento Tryz.func51
theorem en52_W57 : EnT Tryz.prog 52 := ento Tryz.func52
theorem en10_W57 : EnT Tryz.prog 10 := ento Tryz.func10
theorem en16_W57 : EnT Tryz.prog 16 := ento Tryz.func16
theorem en12_W57 : EnT Tryz.prog 12 := ento Tryz.func12
theorem en11_W57 : EnT Tryz.prog 11 := ento Tryz.func11
theorem parts_at {s y : Bs} {k : Nat} (h : (partsOf s)[k]? = some y) : (splitL 10 s)[k + 1]? = some y := by
 have hk := (List.getElem?_eq_some_iff.1 h).1
 rw [partsOf, List.length_take] at hk
 rw [partsOf, List.getElem?_take_of_lt (by omega), List.getElem?_drop, Nat.add_comm] at h
 exact h
theorem parts_cnt (s : Bs) : (partsOf s).length = (splitL 10 s).length - 3 := by
 rw [partsOf, List.length_take, List.length_drop]
 omega
theorem split_R (s : Bs) (m : UInt8) (q0 : Int) (w : World) (hq : q0 = m.toNat) (hsl : s.length ≤ 500) : Ret Tryz.prog 51 #[.string (bs s), .int .u8 q0] w fun u w' => (∃ s' : SV, u = s'.v ∧ Fr w w' encT 1 s'.v (splitL m s)) ∧ Below w.heap.size w w' := by
 have hp : Hp c0 w w [] := Hp.start trivial
 refine enter Tryz.func51 rfl (N := 34) rfl rfl fun a h => ?_
 refine rg ?_
 refine wsn h rfl fun a h => ?_
 refine rg ?_
 refine wsn h rfl fun a h => ?_
 refine rg ?_
 refine wsn h rfl fun a h => ?_
 refine wp_seq ?_
 refine rg ?_
 refine wsn h rfl fun a h => ?_
 have hp := hp.nilB 9 1
 refine lp1 h [0, 1, 4] (fun n f w' => ∃ (k : Nat) (ps : List Bs) (q : Nat) (s1 : SV), k ≤ s.length ∧ n = s.length - k ∧ f = [(7, .int .i64 k), (6, .int .i64 q), (5, s1.v)] ∧ Hp c0 w w' [.buf 9 1 s1.v ps.length (ps.flatMap encT)] ∧ SplitI m s ps q k) (s.length) [(7, .int .i64 ((0 : Nat) : Int)), (6, .int .i64 ((0 : Nat) : Int)), (5, .slice none 0 0)] ⟨rfl, rfl, rfl, rfl, rfl, rfl, trivial⟩ ⟨0, [], 0, ⟨none, 0, 0⟩, Nat.zero_le _, rfl, rfl, hp, SplitI.start m s⟩ ?_
 rintro n f a w1 ⟨k, ps, q, s1, hk, rfl, rfl, hp, hI⟩ h
 have hIl := hI.len
 have hIq := hI.le
 refine wp_seq ?_
 refine rg ?_
 refine wm2 h rfl rfl rfl rfl fun a h => ?_
 refine wvl h (leB h rfl Tryz.underlying9) fun a h => ?_
 refine wvl h (lss h rfl rfl) fun a h => ?_
 refine wn ?_
 refine cnd1 h rfl (fun hb1 => ?_) (fun hb1 => ?_)
 ·have hlt : k < s.length := by have := of_decide_eq_true hb1; omega
  obtain ⟨y, hy⟩ : ∃ y, s[k]? = some y := ⟨_, List.getElem?_eq_getElem hlt⟩
  refine skp ?_
  refine blk ?_
  refine rg ?_
  refine wm2 h rfl rfl rfl rfl fun a h => ?_
  refine wvl h (siB (k) h rfl rfl Tryz.underlying9 rfl hy) fun a h => ?_
  refine wmv h rfl fun a h => ?_
  refine wvl h (eqi h rfl rfl) fun a h => ?_
  refine wn ?_
  refine cnd1 h rfl (fun hb2 => ?_) (fun hb2 => ?_)
  ·have hyc : (y == m) = true := by rw [← u8_dec hq]; exact hb2
   refine rg ?_
   refine wm3 h rfl rfl rfl rfl rfl rfl fun a h => ?_
   refine wmv h rfl fun a h => ?_
   refine wvl h (slS (q) (k) h rfl rfl rfl Tryz.underlying9 rfl rfl (hIq) (by omega)) fun a h => ?_
   refine wl (bsl h hp rfl (bs95_1_0 _) fun a w2 g1 hg1 h hp => ?_)
   refine wl (app1 0 h hp rfl rfl rfl ap95 1 rfl rfl rfl (by omega) (by omega) fun a w3 v h hp => ?_)
   refine wsn h rfl fun a h => ?_
   refine rg1 ?_
   refine wmv h rfl fun a h => ?_
   refine wvl h (add h rfl rfl (by omega)) fun a h => ?_
   refine wsg h rfl fun a h => ?_
   refine wn' ?_
   try simp only [xqs, ↓reduceIte, Nat.reduceEqDiff]
   refine rg1 ?_
   refine wmv h rfl fun a h => ?_
   refine wvl h (add h rfl rfl (by omega)) fun a h => ?_
   refine wsn h rfl fun a h => ?_
   exact ⟨_, _, (by omega), ⟨k + 1, ps ++ [(s.drop q).take (k - q)], k + 1, _, by omega, rfl, rfl, hp.pre 1 (by rw [List.length_append, List.flatMap_append]; rfl), hI.hit hy hyc⟩, h.sub ⟨rfl, rfl, rfl, rfl, rfl, rfl, trivial⟩⟩
  have hyc : (y == m) = false := by rw [← u8_dec hq]; exact hb2
  refine wp_skip ?_
  refine rg1 ?_
  refine wmv h rfl fun a h => ?_
  refine wvl h (add h rfl rfl (by omega)) fun a h => ?_
  refine wsn h rfl fun a h => ?_
  exact ⟨_, _, (by omega), ⟨k + 1, ps, q, s1, by omega, rfl, rfl, hp, hI.miss hy hyc⟩, h.sub ⟨rfl, rfl, rfl, rfl, rfl, rfl, trivial⟩⟩
 have hend : k = s.length := by have := of_decide_eq_false hb1; omega
 subst hend
 have hdn := hI.done
 refine wp_exit ?_
 try simp only [xqs, ↓reduceIte, Nat.reduceEqDiff]
 refine rg ?_
 refine wm3 h rfl rfl rfl rfl rfl rfl fun a h => ?_
 refine wvl h (slT (q) h rfl rfl Tryz.underlying9 rfl (by omega)) fun a h => ?_
 refine wl (bsl h hp rfl (bs95_1_0 _) fun a w4 g2 hg2 h hp => ?_)
 refine wl (app1 0 h hp rfl rfl rfl ap95 1 rfl rfl rfl (by omega) (by omega) fun a w5 v h hp => ?_)
 refine wsn h rfl fun a h => ?_
 refine wp_ret ?_
 try simp only [xqs]
 refine rt_1 h rfl (rvT h rfl) ?_
 exact ⟨_, rfl, ⟨_, rfl, hp.frB (i := 0) rfl (by rw [hdn, List.flatMap_append]; rfl) (by rw [hdn, List.length_append]; rfl) (fun _ _ => rfl)⟩, hp.bel⟩
theorem number_R (s : Bs) (w : World) : Ret Tryz.prog 52 #[.string (bs s)] w fun u w' => u = .int .i64 (numR s) ∧ Below w.heap.size w w' := by
 have hp : Hp c0 w w [] := Hp.start trivial
 refine enter Tryz.func52 rfl (N := 42) rfl rfl fun a h => ?_
 refine rg ?_
 refine wsn h rfl fun a h => ?_
 refine wp_seq ?_
 refine rg ?_
 refine wmv h rfl fun a h => ?_
 refine wvl h (leB h rfl Tryz.underlying9) fun a h => ?_
 refine wvl h (eqi h rfl rfl) fun a h => ?_
 refine wmv h rfl fun a h => ?_
 refine split (t := 8) h rfl (fun hb1 => ?_) (fun hb1 => ?_)
 ·have hs0 : s.length = 0 := by have := of_decide_eq_true hb1; omega
  refine wl (stp_off h rfl rfl rfl rfl rfl hb1 fun a h => ?_)
  refine wl (stp_off h rfl rfl rfl rfl rfl hb1 fun a h => ?_)
  refine wl (stp_off h rfl rfl rfl rfl rfl hb1 fun a h => ?_)
  refine wvl h (pckT h rfl hb1 rfl) fun a h => ?_
  refine wn ?_
  refine cnd1 h rfl (fun _ => ?_) (fun e => nomatch e)
  refine rg ?_
  refine wsn h rfl fun a h => ?_
  refine wp_ret ?_
  try simp only [xqs]
  refine rt_1 h rfl (rvT h rfl) ?_
  exact ⟨_, rfl, by rw [numR_no (isNum_zero hs0)], hp.bel⟩
 have hs0 : ¬ s.length = 0 := by have := of_decide_eq_false hb1; omega
 refine wl (stp_on h rfl rfl rfl hb1 (vl h (mov h rfl) fun a h => ?_))
 refine wl (stp_on h rfl rfl rfl hb1 (vl h (leB h rfl Tryz.underlying9) fun a h => ?_))
 refine wl (stp_on h rfl rfl rfl hb1 (vl h (gtr h rfl rfl) fun a h => ?_))
 refine wvl h (pckF h rfl hb1 rfl) fun a h => ?_
 refine wn ?_
 refine cnd1 h rfl (fun hb2 => ?_) (fun hb2 => ?_)
 ·have hs5 : 5 < s.length := by have := of_decide_eq_true hb2; omega
  refine rg ?_
  refine wsn h rfl fun a h => ?_
  refine wp_ret ?_
  try simp only [xqs]
  refine rt_1 h rfl (rvT h rfl) ?_
  exact ⟨_, rfl, by rw [numR_no (isNum_long hs5)], hp.bel⟩
 have hs5 : s.length ≤ 5 := by have := of_decide_eq_false hb2; omega
 refine skp ?_
 refine rg ?_
 refine wsn h rfl fun a h => ?_
 refine wp_seq ?_
 refine rg ?_
 refine wsn h rfl fun a h => ?_
 refine lp1 h [0, 12] (fun n f w' => ∃ (k : Nat) (z : Int), k ≤ s.length ∧ n = s.length - k ∧ f = [(4, .int .i64 k), (3, .int .i64 z)] ∧ Hp c0 w w' [] ∧ (s.take k).all (okC s) = true ∧ z = numVal (s.take k) 0 ∧ 0 ≤ z ∧ z + 1 ≤ (10 ^ k : Nat)) (s.length) [(4, .int .i64 ((0 : Nat) : Int)), (3, .int .i64 0)] ⟨rfl, rfl, rfl, rfl, trivial⟩ ⟨0, 0, Nat.zero_le _, rfl, rfl, hp, rfl, rfl, by omega, by simp⟩ ?_
 rintro n f a w1 ⟨k, z, hk, rfl, rfl, hp, hI, hz, z0, z1⟩ h
 have hp5 : 10 ^ k ≤ 10 ^ 5 := Nat.pow_le_pow_right (by decide) (by omega)
 have hpw : 10 ^ (k + 1) = 10 ^ k * 10 := Nat.pow_succ _ _
 refine wp_seq ?_
 refine rg ?_
 refine wm2 h rfl rfl rfl rfl fun a h => ?_
 refine wvl h (leB h rfl Tryz.underlying9) fun a h => ?_
 refine wvl h (lss h rfl rfl) fun a h => ?_
 refine wn ?_
 refine cnd1 h rfl (fun hb3 => ?_) (fun hb3 => ?_)
 ·have hlt : k < s.length := by have := of_decide_eq_true hb3; omega
  obtain ⟨y, hy⟩ : ∃ y, s[k]? = some y := ⟨_, List.getElem?_eq_getElem hlt⟩
  refine skp ?_
  refine blk ?_
  refine wp_seq ?_
  refine rg ?_
  refine wm2 h rfl rfl rfl rfl fun a h => ?_
  refine wvl h (siB (k) h rfl rfl Tryz.underlying9 rfl hy) fun a h => ?_
  refine wvl h (lss h rfl rfl) fun a h => ?_
  refine wmv h rfl fun a h => ?_
  refine split (t := 23) h rfl (fun hb4 => ?_) (fun hb4 => ?_)
  ·have hdg : digit y = false := by have hq9 := of_decide_eq_true hb4; rw [digit, decide_eq_false (show ¬ 48 ≤ y.toNat by omega), Bool.false_and]
   refine wl (stp_off h rfl rfl rfl rfl rfl hb4 fun a h => ?_)
   refine wl (stp_off h rfl rfl rfl rfl rfl hb4 fun a h => ?_)
   refine wl (stp_off h rfl rfl rfl rfl rfl hb4 fun a h => ?_)
   refine wl (stp_off h rfl rfl rfl rfl rfl hb4 fun a h => ?_)
   refine wvl h (pckT h rfl hb4 rfl) fun a h => ?_
   refine wn ?_
   refine cnd1 h rfl (fun _ => ?_) (fun e => nomatch e)
   refine rg ?_
   refine wsn h rfl fun a h => ?_
   refine wp_ret ?_
   try simp only [xqs]
   refine rt_1 h rfl (rvT h rfl) ?_
   exact ⟨_, rfl, by rw [numR_no (num_bad hy (by rw [okC, hdg, Bool.false_and]))], hp.bel⟩
  have hd1 : 48 ≤ y.toNat := by have hq9 := of_decide_eq_false hb4; omega
  refine wl (stp_on h rfl rfl rfl hb4 (vl h (mov h rfl) fun a h => ?_))
  refine wl (stp_on h rfl rfl rfl hb4 (vl h (mov h rfl) fun a h => ?_))
  refine wl (stp_on h rfl rfl rfl hb4 (vl h (siB (k) h rfl rfl Tryz.underlying9 rfl hy) fun a h => ?_))
  refine wl (stp_on h rfl rfl rfl hb4 (vl h (gtr h rfl rfl) fun a h => ?_))
  refine wvl h (pckF h rfl hb4 rfl) fun a h => ?_
  refine wn ?_
  refine cnd1 h rfl (fun hb5 => ?_) (fun hb5 => ?_)
  ·have hdg : digit y = false := by have hq9 := of_decide_eq_true hb5; rw [digit, decide_eq_false (show ¬ y.toNat ≤ 57 by omega), Bool.and_false]
   refine rg ?_
   refine wsn h rfl fun a h => ?_
   refine wp_ret ?_
   try simp only [xqs]
   refine rt_1 h rfl (rvT h rfl) ?_
   exact ⟨_, rfl, by rw [numR_no (num_bad hy (by rw [okC, hdg, Bool.false_and]))], hp.bel⟩
  have hd2 : y.toNat ≤ 57 := by have hq9 := of_decide_eq_false hb5; omega
  have hok : okC s y = true := by rw [okC, digit, decide_eq_true hd1, decide_eq_true hd2, decide_eq_true hs5]; rfl
  refine skp ?_
  refine rg1 ?_
  refine wmv h rfl fun a h => ?_
  refine wvl h (mul h rfl rfl (by omega)) fun a h => ?_
  refine wm2 h rfl rfl rfl rfl fun a h => ?_
  refine wvl h (siB (k) h rfl rfl Tryz.underlying9 rfl hy) fun a h => ?_
  refine wvl h (sbk h rfl rfl (wr8 (by omega))) fun a h => ?_
  refine wvl h (cvW h rfl (by kernel_rfl) Tryz.underlying3 (wrap_in (by omega))) fun a h => ?_
  refine wvl h (add h rfl rfl (by omega)) fun a h => ?_
  refine wsg h rfl fun a h => ?_
  refine wn' ?_
  try simp only [xqs, ↓reduceIte, Nat.reduceEqDiff]
  refine rg1 ?_
  refine wmv h rfl fun a h => ?_
  refine wvl h (add h rfl rfl (by omega)) fun a h => ?_
  refine wsn h rfl fun a h => ?_
  exact ⟨_, _, (by omega), ⟨k + 1, _, by omega, rfl, rfl, hp, all_snoc hy hI hok, by rw [take_snoc hy, numVal_snoc, ← hz], by omega, by rw [hpw]; push_cast at z1 ⊢; omega⟩, h.sub ⟨rfl, rfl, rfl, rfl, trivial⟩⟩
 have hend : k = s.length := by have := of_decide_eq_false hb3; omega
 subst hend
 rw [List.take_length] at hI hz
 have hI2 : (s.all fun c => digit c && decide (s.length ≤ 5)) = true := hI
 refine wp_exit ?_
 try simp only [xqs, ↓reduceIte, Nat.reduceEqDiff]
 refine wp_seq ?_
 refine rg ?_
 refine wmv h rfl fun a h => ?_
 refine wl (cal h rfl en50 (Decimal_S _ _ (by omega)) fun u w2 ⟨e1, e2⟩ a h => ?_)
 subst e1
 have hp := hp.below e2
 refine wmv h rfl fun a h => ?_
 refine wvl h (snB h rfl rfl) fun a h => ?_
 refine wn ?_
 refine cnd1 h rfl (fun hb6 => ?_) (fun hb6 => ?_)
 ·have hne : s.isEmpty = false := by cases s with | nil => exact absurd rfl hs0 | cons _ _ => rfl
  have hnn : isNum s = false := by have hq9 := hb6; rw [isNum, hI2, hne, ← hz]; simpa using hq9
  refine rg ?_
  refine wsn h rfl fun a h => ?_
  refine wp_ret ?_
  try simp only [xqs]
  refine rt_1 h rfl (rvT h rfl) ?_
  exact ⟨_, rfl, by rw [numR_no hnn], hp.bel⟩
 have hne : s.isEmpty = false := by cases s with | nil => exact absurd rfl hs0 | cons _ _ => rfl
 have hnn : isNum s = true := by have hq9 := hb6; rw [isNum, hI2, hne, ← hz]; simpa using hq9
 refine skp ?_
 refine rg ?_
 refine wmv h rfl fun a h => ?_
 refine wsn h rfl fun a h => ?_
 refine wp_ret ?_
 try simp only [xqs]
 refine rt_1 h rfl (rvT h rfl) ?_
 exact ⟨_, rfl, by rw [numR_of hnn, ← hz], hp.bel⟩
set_option maxHeartbeats 2000000 in
theorem Read_R (s : Bs) (w : World) (hsl : s.length ≤ 500) : Ret Tryz.prog 16 #[.string (bs s)] w fun u w' => (∃ s' : SV, u = .tuple #[s'.v, .bool (parse s).isSome] ∧ Fr w w' encM 3 s'.v ((parse s).getD [])) ∧ Below w.heap.size w w' := by
 have hp : Hp c0 w w [] := Hp.start trivial
 refine enter Tryz.func16 rfl (N := 60) rfl rfl fun a h => ?_
 refine rg ?_
 refine ws2 h rfl rfl rfl rfl fun a h => ?_
 refine rg ?_
 refine wsn h rfl fun a h => ?_
 refine rg ?_
 refine wmv h rfl fun a h => ?_
 refine wl (cal h rfl en51_W57 (split_R s 10 10 _ (by decide) (hsl)) fun u w1 ⟨⟨s20, e1, hf⟩, e2⟩ a h => ?_)
 subst e1
 have hp := hp.got (hp.below e2) (by decide) hf
 refine wsn h rfl fun a h => ?_
 refine wp_seq ?_
 refine rg ?_
 refine wsn h rfl fun a h => ?_
 have hp := hp.nilB 87 3
 refine lp1 h [0, 5] (fun n f w' => ∃ (k : Nat) (out : List Ecl.Mark) (s1 : SV), k ≤ (partsOf s).length ∧ n = (partsOf s).length - k ∧ f = [(6, .int .i64 ((k + 1 : Nat) : Int)), (4, s1.v)] ∧ Hp c0 w w' [rdE encT 1 s20.v (splitL 10 s), .buf 87 3 s1.v out.length (out.flatMap encM)] ∧ rowsR ((partsOf s).take k) = some out) ((partsOf s).length) [(6, .int .i64 ((0 + 1 : Nat) : Int)), (4, .slice none 0 0)] ⟨rfl, rfl, rfl, rfl, trivial⟩ ⟨0, [], ⟨none, 0, 0⟩, Nat.zero_le _, rfl, rfl, hp, rfl⟩ ?_
 rintro n f a w2 ⟨k, out, s1, hk, rfl, rfl, hp, hI⟩ h
 have hf9 := splitL_len 10 s
 have hpc := parts_cnt s
 have hol := (rowsR_len _ _ hI).1
 rw [List.length_take] at hol
 refine wp_seq ?_
 refine rg ?_
 refine wm2 h rfl rfl rfl rfl fun a h => ?_
 refine wvl h (lenR h rfl Tryz.underlying95 (hp.rdF (i := 0) rfl)) fun a h => ?_
 refine wvl h (sub h rfl rfl (by omega)) fun a h => ?_
 refine wvl h (lss h rfl rfl) fun a h => ?_
 refine wn ?_
 refine cnd1 h rfl (fun hb1 => ?_) (fun hb1 => ?_)
 ·have hlt : k < (partsOf s).length := by have := of_decide_eq_true hb1; omega
  obtain ⟨y, hy⟩ : ∃ y, (partsOf s)[k]? = some y := ⟨_, List.getElem?_eq_getElem hlt⟩
  have hyl := parts_mem (List.mem_of_getElem? hy)
  have hy1 := parts_at hy
  refine skp ?_
  refine blk ?_
  refine rg ?_
  refine wm2 h rfl rfl rfl rfl fun a h => ?_
  refine wvl h (iadR (k + 1) h rfl rfl Tryz.underlying95 sz9 (hp.rdF (i := 0) rfl) (rfl) (by omega)) fun a h => ?_
  refine wvl h (ld0 h (hp.rdF (i := 0) rfl) hy1 rfl ag9 rfl) fun a h => ?_
  refine wl (cal h rfl en51_W57 (split_R y 32 32 _ (by decide) (by omega)) fun u w3 ⟨⟨s22, e1, hf⟩, e2⟩ a h => ?_)
  subst e1
  have hp := hp.got (hp.below e2) (by decide) hf
  refine wsn h rfl fun a h => ?_
  refine wp_seq ?_
  refine rg ?_
  refine wmv h rfl fun a h => ?_
  refine wvl h (lenR h rfl Tryz.underlying95 (hp.rdF (i := 2) rfl)) fun a h => ?_
  refine wvl h (nei h rfl rfl) fun a h => ?_
  refine wmv h rfl fun a h => ?_
  refine split (t := 25) h rfl (fun hb2 => ?_) (fun hb2 => ?_)
  ·have hrow := rowR_no (W := splitL 32 y) (by have := hb2; simp at this; omega)
   refine wl (stp_off h rfl rfl rfl rfl rfl hb2 fun a h => ?_)
   refine wl (stp_off h rfl rfl rfl rfl rfl hb2 fun a h => ?_)
   refine wl (stp_off h rfl rfl rfl rfl rfl hb2 fun a h => ?_)
   refine wl (stp_off h rfl rfl rfl rfl rfl hb2 fun a h => ?_)
   refine wl (stp_off h rfl rfl rfl rfl rfl hb2 fun a h => ?_)
   refine wvl h (pckT h rfl hb2 rfl) fun a h => ?_
   refine wmv h rfl fun a h => ?_
   refine wl (stp_off h rfl rfl rfl rfl rfl rfl fun a h => ?_)
   refine wl (stp_off h rfl rfl rfl rfl rfl rfl fun a h => ?_)
   refine wl (stp_off h rfl rfl rfl rfl rfl rfl fun a h => ?_)
   refine wl (stp_off h rfl rfl rfl rfl rfl rfl fun a h => ?_)
   refine wl (stp_off h rfl rfl rfl rfl rfl rfl fun a h => ?_)
   refine wvl h (pckT h rfl rfl rfl) fun a h => ?_
   refine wn ?_
   refine cnd1 h rfl (fun _ => ?_) (fun e => nomatch e)
   refine rg ?_
   refine ws2 h rfl rfl rfl rfl fun a h => ?_
   refine wp_ret ?_
   try simp only [xqs]
   refine rt_2 h rfl (rvT h rfl) (rvT h rfl) ?_
   exact ⟨_, rfl, ⟨⟨none, 0, 0⟩, by rw [parse_Rn (rowsR_bad hy hrow)]; rfl, by rw [parse_Rn (rowsR_bad hy hrow)]; exact Fr.nil⟩, hp.bel⟩
  have hw3 : (splitL 32 y).length = 3 := by have := hb2; simp at this; omega
  obtain ⟨wa, wb, wc, hwa, hwb, hwc, hrow⟩ := rowR3 hw3
  refine wl (stp_on h rfl rfl rfl hb2 (vl h (mov h rfl) fun a h => ?_))
  refine wl (stp_on h rfl rfl rfl hb2 (vl h (iadR (1) h rfl rfl Tryz.underlying95 sz9 (show Rd _ encT 1 s22.v (splitL 32 y) from by first | exact hp.rdF (i := 2) rfl | exact hp.rdF (i := 1) rfl) (rfl) (by omega)) fun a h => ?_))
  refine wl (stp_on h rfl rfl rfl hb2 (vl h (ld0 h (show Rd _ encT 1 s22.v (splitL 32 y) from by first | exact hp.rdF (i := 2) rfl | exact hp.rdF (i := 1) rfl) hwb rfl ag9 rfl) fun a h => ?_))
  refine wl (stp_on h rfl rfl rfl hb2 (cal h rfl en52_W57 (number_R _ _) fun u w4 ⟨e1, e2⟩ a h => ?_))
  subst e1
  have hp := hp.below e2
  refine wl (stp_on h rfl rfl rfl hb2 (vl h (lss h rfl rfl) fun a h => ?_))
  refine wvl h (pckF h rfl hb2 rfl) fun a h => ?_
  refine wmv h rfl fun a h => ?_
  refine split (t := 32) h rfl (fun hb3 => ?_) (fun hb3 => ?_)
  ·have hnb : isNum wb = false := by have := hb3; rw [numR_neg] at this; simpa using this
   rw [hnb, Bool.false_and] at hrow
   have hrow : rowR (splitL 32 y) = none := hrow
   refine wl (stp_off h rfl rfl rfl rfl rfl hb3 fun a h => ?_)
   refine wl (stp_off h rfl rfl rfl rfl rfl hb3 fun a h => ?_)
   refine wl (stp_off h rfl rfl rfl rfl rfl hb3 fun a h => ?_)
   refine wl (stp_off h rfl rfl rfl rfl rfl hb3 fun a h => ?_)
   refine wl (stp_off h rfl rfl rfl rfl rfl hb3 fun a h => ?_)
   refine wvl h (pckT h rfl hb3 rfl) fun a h => ?_
   refine wn ?_
   refine cnd1 h rfl (fun _ => ?_) (fun e => nomatch e)
   refine rg ?_
   refine ws2 h rfl rfl rfl rfl fun a h => ?_
   refine wp_ret ?_
   try simp only [xqs]
   refine rt_2 h rfl (rvT h rfl) (rvT h rfl) ?_
   exact ⟨_, rfl, ⟨⟨none, 0, 0⟩, by rw [parse_Rn (rowsR_bad hy hrow)]; rfl, by rw [parse_Rn (rowsR_bad hy hrow)]; exact Fr.nil⟩, hp.bel⟩
  have hnb : isNum wb = true := by have := hb3; rw [numR_neg] at this; simpa using this
  refine wl (stp_on h rfl rfl rfl hb3 (vl h (mov h rfl) fun a h => ?_))
  refine wl (stp_on h rfl rfl rfl hb3 (vl h (iadR (2) h rfl rfl Tryz.underlying95 sz9 (show Rd _ encT 1 s22.v (splitL 32 y) from by first | exact hp.rdF (i := 2) rfl | exact hp.rdF (i := 1) rfl) (rfl) (by omega)) fun a h => ?_))
  refine wl (stp_on h rfl rfl rfl hb3 (vl h (ld0 h (show Rd _ encT 1 s22.v (splitL 32 y) from by first | exact hp.rdF (i := 2) rfl | exact hp.rdF (i := 1) rfl) hwc rfl ag9 rfl) fun a h => ?_))
  refine wl (stp_on h rfl rfl rfl hb3 (cal h rfl en52_W57 (number_R _ _) fun u w5 ⟨e1, e2⟩ a h => ?_))
  subst e1
  have hp := hp.below e2
  refine wl (stp_on h rfl rfl rfl hb3 (vl h (lss h rfl rfl) fun a h => ?_))
  refine wvl h (pckF h rfl hb3 rfl) fun a h => ?_
  refine wn ?_
  refine cnd1 h rfl (fun hb4 => ?_) (fun hb4 => ?_)
  ·have hnc : isNum wc = false := by have := hb4; rw [numR_neg] at this; simpa using this
   rw [hnb, hnc, Bool.true_and] at hrow
   have hrow : rowR (splitL 32 y) = none := hrow
   refine rg ?_
   refine ws2 h rfl rfl rfl rfl fun a h => ?_
   refine wp_ret ?_
   try simp only [xqs]
   refine rt_2 h rfl (rvT h rfl) (rvT h rfl) ?_
   exact ⟨_, rfl, ⟨⟨none, 0, 0⟩, by rw [parse_Rn (rowsR_bad hy hrow)]; rfl, by rw [parse_Rn (rowsR_bad hy hrow)]; exact Fr.nil⟩, hp.bel⟩
  have hnc : isNum wc = true := by have := hb4; rw [numR_neg] at this; simpa using this
  have hrow2 : rowR (splitL 32 y) = some ⟨numR wb, wa == wFull, numR wc⟩ := by rw [hrow, hnb, hnc, numR_of hnb, numR_of hnc]; rfl
  refine skp ?_
  refine rdh1 (n := 17) ((hp).pick [0, 2] (by decide) rfl) mixed rfl ?_
  have hp := hp.drew
  refine tkm 0 h rfl ((hp).pick [0, 2] (by decide) rfl) rfl fun a h => ?_
  refine tkm 1 h rfl ((hp).pick [0, 2] (by decide) rfl) rfl fun a h => ?_
  refine tkq 2 h rfl ((hp).pick [0, 2] (by decide) rfl) (fun W hp => iadR (1) h rfl rfl Tryz.underlying95 sz9 (show Rd _ encT 1 s22.v (splitL 32 y) from by first | exact hp.rdF (i := 2) rfl | exact hp.rdF (i := 1) rfl) (rfl) (by omega)) fun a h => ?_
  refine tkq 3 h rfl ((hp).pick [0, 2] (by decide) rfl) (fun W hp => ld0 h (show Rd _ encT 1 s22.v (splitL 32 y) from by first | exact hp.rdF (i := 2) rfl | exact hp.rdF (i := 1) rfl) hwb rfl ag9 rfl) fun a h => ?_
  refine tkm 5 h rfl ((hp).pick [0, 2] (by decide) rfl) rfl fun a h => ?_
  refine tkq 6 h rfl ((hp).pick [0, 2] (by decide) rfl) (fun W hp => iadR (0) h rfl rfl Tryz.underlying95 sz9 (show Rd _ encT 1 s22.v (splitL 32 y) from by first | exact hp.rdF (i := 2) rfl | exact hp.rdF (i := 1) rfl) (rfl) (by omega)) fun a h => ?_
  refine tkq 7 h rfl ((hp).pick [0, 2] (by decide) rfl) (fun W hp => ld0 h (show Rd _ encT 1 s22.v (splitL 32 y) from by first | exact hp.rdF (i := 2) rfl | exact hp.rdF (i := 1) rfl) hwa rfl ag9 rfl) fun a h => ?_
  refine tkq 8 h rfl ((hp).pick [0, 2] (by decide) rfl) (fun W _ => seB h rfl rfl) fun a h => ?_
  refine tkm 9 h rfl ((hp).pick [0, 2] (by decide) rfl) rfl fun a h => ?_
  refine tkq 10 h rfl ((hp).pick [0, 2] (by decide) rfl) (fun W hp => iadR (2) h rfl rfl Tryz.underlying95 sz9 (show Rd _ encT 1 s22.v (splitL 32 y) from by first | exact hp.rdF (i := 2) rfl | exact hp.rdF (i := 1) rfl) (rfl) (by omega)) fun a h => ?_
  refine tkq 11 h rfl ((hp).pick [0, 2] (by decide) rfl) (fun W hp => ld0 h (show Rd _ encT 1 s22.v (splitL 32 y) from by first | exact hp.rdF (i := 2) rfl | exact hp.rdF (i := 1) rfl) hwc rfl ag9 rfl) fun a h => ?_
  refine one 4 (by kernel_rfl) rfl (cal h rfl en52_W57 (number_R _ _) fun u w6 ⟨e1, e2⟩ a h => ⟨((hp.below e2).pick [0, 2] (by decide) rfl), ?_⟩)
  subst e1
  have hp := hp.below e2
  refine one 12 (by kernel_rfl) rfl (cal h rfl en52_W57 (number_R _ _) fun u w7 ⟨e1, e2⟩ a h => ⟨((hp.below e2).pick [0, 2] (by decide) rfl), ?_⟩)
  subst e1
  have hp := hp.below e2
  refine tkq 13 h rfl ((hp).pick [0, 2] (by decide) rfl) (fun W _ => bld h rfl (bl87_0_1_2 _ _ _ _)) fun a h => ?_
  refine one 14 (by kernel_rfl) rfl (bsl h hp rfl (bs22_1_0 _ _ _) fun a w8 g1 hg1 h hp => ⟨((hp).pick [0, 2] (by decide) rfl), ?_⟩)
  refine one 15 (by kernel_rfl) rfl (app1 1 h hp rfl rfl rfl ap22 3 rfl rfl rfl (by omega) (by omega) fun a w9 v h hp => ⟨((hp).pick [0, 2] (by decide) rfl), ?_⟩)
  refine tka 16 h rfl ((hp).pick [0, 2] (by decide) rfl) rfl fun a h => ?_
  refine dn (by kernel_rfl) ?_
  try simp only [xqs, ↓reduceIte, Nat.reduceEqDiff]
  refine rg1 ?_
  refine wmv h rfl fun a h => ?_
  refine wvl h (add h rfl rfl (by omega)) fun a h => ?_
  refine wsn h rfl fun a h => ?_
  exact ⟨_, _, (by omega), ⟨k + 1, out ++ [⟨numR wb, wa == wFull, numR wc⟩], _, by omega, rfl, rfl, hp.pre 2 (by rw [List.length_append, List.flatMap_append]; rfl), by rw [take_snoc hy]; exact rowsR_app _ _ _ _ hI hrow2⟩, h.sub ⟨rfl, rfl, rfl, rfl, trivial⟩⟩
 have hend : k = (partsOf s).length := by have := of_decide_eq_false hb1; omega
 subst hend
 rw [List.take_length] at hI
 refine wp_exit ?_
 try simp only [xqs, ↓reduceIte, Nat.reduceEqDiff]
 refine wp_seq ?_
 refine rg ?_
 have hSm : Small out := rowsR_small hI (by omega)
 refine wmv h rfl fun a h => ?_
 refine wl (cal h rfl en14 (Print_R _ _ _ (hp.rdB (i := 1) (ys := out) rfl rfl rfl (fun _ _ => rfl)) hSm) fun u w10 ⟨e1, e2⟩ a h => ?_)
 subst e1
 have hp := hp.below e2
 refine wmv h rfl fun a h => ?_
 refine wvl h (snB h rfl rfl) fun a h => ?_
 refine wn ?_
 refine cnd1 h rfl (fun hb5 => ?_) (fun hb5 => ?_)
 ·have hpar : parse s = none := by have hq9 := hb5; rw [parse_Rs hI]; simp at hq9; simp [hq9]
  refine rg ?_
  refine ws2 h rfl rfl rfl rfl fun a h => ?_
  refine wp_ret ?_
  try simp only [xqs]
  refine rt_2 h rfl (rvT h rfl) (rvT h rfl) ?_
  exact ⟨_, rfl, ⟨⟨none, 0, 0⟩, by rw [hpar]; rfl, by rw [hpar]; exact Fr.nil⟩, hp.bel⟩
 have hpar : parse s = some out := by have hq9 := hb5; rw [parse_Rs hI]; simp at hq9; simp [hq9]
 refine skp ?_
 refine rg ?_
 refine wmv h rfl fun a h => ?_
 refine ws2 h rfl rfl rfl rfl fun a h => ?_
 refine wp_ret ?_
 try simp only [xqs]
 refine rt_2 h rfl (rvT h rfl) (rvT h rfl) ?_
 exact ⟨_, rfl, ⟨s1, by rw [hpar]; rfl, by rw [hpar]; exact hp.frB (i := 1) rfl rfl rfl (fun _ _ => rfl)⟩, hp.bel⟩
theorem Read_c {s : Bs} {n0 : Int} {l : List Ecl.Mark} {w : World} (hG : Glb w) (h1 : readErr s = n0) (h2 : readVal s = l) : Ret Tryz.prog 13 #[.string (bs s)] w fun u w' => (∃ s' : SV, u = .tuple #[s'.v, .int .i64 n0] ∧ Fr w w' encM 3 s'.v l) ∧ Below w.heap.size w w' := by
 subst h1 h2
 exact Read_e s w hG
theorem Read_n {s : Bs} {w : World} (hsl : s.length ≤ 500) (h : parse s = none) : Ret Tryz.prog 16 #[.string (bs s)] w fun u w' => (∃ s' : SV, u = .tuple #[s'.v, .bool false] ∧ Fr w w' encM 3 s'.v ([] : List Ecl.Mark)) ∧ Below w.heap.size w w' := by
 have := Read_R s w hsl
 rw [h] at this
 exact this
theorem Read_y {s : Bs} {l : List Ecl.Mark} {w : World} (hsl : s.length ≤ 500) (h : parse s = some l) : Ret Tryz.prog 16 #[.string (bs s)] w fun u w' => (∃ s' : SV, u = .tuple #[s'.v, .bool true] ∧ Fr w w' encM 3 s'.v l) ∧ Below w.heap.size w w' := by
 have := Read_R s w hsl
 rw [h] at this
 exact this
theorem EclipseReads_a (s : Bs) (w : World) (hGl : Glb w) (h5 : 500 < s.length) : Ret Tryz.prog 4 #[.string (bs s)] w fun u w' => u = .bool true ∧ Below w.heap.size w w' := by
 have hp : Hp c0 w w [] := Hp.start trivial
 refine enter Tryz.func4 rfl (N := 69) rfl rfl fun a h => ?_
 refine rg ?_
 refine wsn h rfl fun a h => ?_
 refine wp_seq ?_
 refine rg ?_
 refine wmv h rfl fun a h => ?_
 refine wvl h (leB h rfl Tryz.underlying9) fun a h => ?_
 refine wvl h (gtr h rfl rfl) fun a h => ?_
 refine wn ?_
 refine cnd1 h rfl (fun hb1 => ?_) (fun hb1 => ?_)
 ·refine rg ?_
  refine wl (cal h rfl en10_W57 (known_L _ (hGl.keep hp)) fun u w1 ⟨e1, e2⟩ a h => ?_)
  subst e1
  have hp := hp.below e2
  refine wsn h rfl fun a h => ?_
  refine wp_ret ?_
  try simp only [xqs]
  refine rt_1 h rfl (rvT h rfl) ?_
  exact ⟨_, rfl, rfl, hp.bel⟩
 exact absurd hb1 (by first | decide | (simp only [Bool.not_eq_true', Bool.not_eq_false', Bool.not_eq_true, Bool.not_eq_false, decide_eq_true_eq, decide_eq_false_iff_not, gt_iff_lt, ge_iff_le]; omega) | (simp; done))
theorem EclipseReads_3 (s : Bs) (w : World) (hGl : Glb w) (hsl : s.length ≤ 500) (h4 : 400 < s.length) (he : readErr s = 3) (hv : readVal s = []) : Ret Tryz.prog 4 #[.string (bs s)] w fun u w' => u = .bool true ∧ Below w.heap.size w w' := by
 have hp : Hp c0 w w [] := Hp.start trivial
 refine enter Tryz.func4 rfl (N := 69) rfl rfl fun a h => ?_
 refine rg ?_
 refine wsn h rfl fun a h => ?_
 refine wp_seq ?_
 refine rg ?_
 refine wmv h rfl fun a h => ?_
 refine wvl h (leB h rfl Tryz.underlying9) fun a h => ?_
 refine wvl h (gtr h rfl rfl) fun a h => ?_
 refine wn ?_
 refine cnd1 h rfl (fun hb1 => ?_) (fun hb1 => ?_)
 ·exact absurd hb1 (by first | decide | (simp only [Bool.not_eq_true', Bool.not_eq_false', Bool.not_eq_true, Bool.not_eq_false, decide_eq_true_eq, decide_eq_false_iff_not, gt_iff_lt, ge_iff_le]; omega) | (simp; done))
 refine skp ?_
 refine rg ?_
 refine wmv h rfl fun a h => ?_
 refine wl (cal h rfl en13 (Read_c (hGl.keep hp) he hv) fun u w1 ⟨⟨s20, e1, hf⟩, e2⟩ a h => ?_)
 subst e1
 have hp := hp.got (hp.below e2) (by decide) hf
 refine wmv h rfl fun a h => ?_
 refine wvl h (ext h rfl rfl) fun a h => ?_
 refine wvl h (ext h rfl rfl) fun a h => ?_
 refine ws2 h rfl rfl rfl rfl fun a h => ?_
 refine rg ?_
 refine wmv h rfl fun a h => ?_
 refine wl (cal h rfl en16_W57 (Read_R s _ hsl) fun u w2 ⟨⟨s21, e1, hf⟩, e2⟩ a h => ?_)
 subst e1
 have hp := hp.got (hp.below e2) (by decide) hf
 refine wmv h rfl fun a h => ?_
 refine wvl h (ext h rfl rfl) fun a h => ?_
 refine wvl h (ext h rfl rfl) fun a h => ?_
 refine ws2 h rfl rfl rfl rfl fun a h => ?_
 refine rg ?_
 refine wsn h rfl fun a h => ?_
 refine wp_seq ?_
 refine rg ?_
 refine wmv h rfl fun a h => ?_
 refine wvl h (leB h rfl Tryz.underlying9) fun a h => ?_
 refine wvl h (gtr h rfl rfl) fun a h => ?_
 refine wn ?_
 refine cnd1 h rfl (fun hb2 => ?_) (fun hb2 => ?_)
 ·refine rg1 ?_
  refine wsn h rfl fun a h => ?_
  refine wp_seq ?_
  refine rg ?_
  refine wmv h rfl fun a h => ?_
  refine wvl h (nei h rfl rfl) fun a h => ?_
  refine wn ?_
  refine cnd1 h rfl (fun hb3 => ?_) (fun hb3 => ?_)
  ·refine rg ?_
   refine wm2 h rfl rfl rfl rfl fun a h => ?_
   refine wvl h (eqi h rfl rfl) fun a h => ?_
   refine wmv h rfl fun a h => ?_
   refine split (t := 37) h rfl (fun hb4 => ?_) (fun hb4 => ?_)
   ·refine wl (stp_on h rfl rfl rfl hb4 (vl h (mov h rfl) fun a h => ?_))
    refine wl (stp_on h rfl rfl rfl hb4 (vl h (lenR h rfl Tryz.underlying22 (hp.rdF (i := 0) rfl)) fun a h => ?_))
    refine wl (stp_on h rfl rfl rfl hb4 (vl h (eqi h rfl rfl) fun a h => ?_))
    refine wvl h (pckT h rfl hb4 rfl) fun a h => ?_
    refine wmv h rfl fun a h => ?_
    refine split (t := 42) h rfl (fun hb5 => ?_) (fun hb5 => ?_)
    ·refine wl (stp_on h rfl rfl rfl hb5 (cal h rfl en10_W57 (known_L _ (hGl.keep hp)) fun u w3 ⟨e1, e2⟩ a h => ?_))
     subst e1
     have hp := hp.below e2
     refine wvl h (pckT h rfl hb5 rfl) fun a h => ?_
     refine wsn h rfl fun a h => ?_
     refine wp_ret ?_
     try simp only [xqs]
     refine rt_1 h rfl (rvT h rfl) ?_
     exact ⟨_, rfl, rfl, hp.bel⟩
    exact absurd hb5 (by decide)
   exact absurd hb4 (by decide)
  exact absurd hb3 (by decide)
 exact absurd hb2 (by first | decide | (simp only [Bool.not_eq_true', Bool.not_eq_false', Bool.not_eq_true, Bool.not_eq_false, decide_eq_true_eq, decide_eq_false_iff_not, gt_iff_lt, ge_iff_le]; omega) | (simp; done))
theorem EclipseReads_4 (s : Bs) (w : World) (hGl : Glb w) (hsl : s.length ≤ 500) (h4 : ¬ 400 < s.length) (he : readErr s = 4) (hv : readVal s = []) (hpar : parse s = none) : Ret Tryz.prog 4 #[.string (bs s)] w fun u w' => u = .bool true ∧ Below w.heap.size w w' := by
 have hp : Hp c0 w w [] := Hp.start trivial
 refine enter Tryz.func4 rfl (N := 69) rfl rfl fun a h => ?_
 refine rg ?_
 refine wsn h rfl fun a h => ?_
 refine wp_seq ?_
 refine rg ?_
 refine wmv h rfl fun a h => ?_
 refine wvl h (leB h rfl Tryz.underlying9) fun a h => ?_
 refine wvl h (gtr h rfl rfl) fun a h => ?_
 refine wn ?_
 refine cnd1 h rfl (fun hb1 => ?_) (fun hb1 => ?_)
 ·exact absurd hb1 (by first | decide | (simp only [Bool.not_eq_true', Bool.not_eq_false', Bool.not_eq_true, Bool.not_eq_false, decide_eq_true_eq, decide_eq_false_iff_not, gt_iff_lt, ge_iff_le]; omega) | (simp; done))
 refine skp ?_
 refine rg ?_
 refine wmv h rfl fun a h => ?_
 refine wl (cal h rfl en13 (Read_c (hGl.keep hp) he hv) fun u w1 ⟨⟨s20, e1, hf⟩, e2⟩ a h => ?_)
 subst e1
 have hp := hp.got (hp.below e2) (by decide) hf
 refine wmv h rfl fun a h => ?_
 refine wvl h (ext h rfl rfl) fun a h => ?_
 refine wvl h (ext h rfl rfl) fun a h => ?_
 refine ws2 h rfl rfl rfl rfl fun a h => ?_
 refine rg ?_
 refine wmv h rfl fun a h => ?_
 refine wl (cal h rfl en16_W57 (Read_n hsl hpar) fun u w2 ⟨⟨s21, e1, hf⟩, e2⟩ a h => ?_)
 subst e1
 have hp := hp.got (hp.below e2) (by decide) hf
 refine wmv h rfl fun a h => ?_
 refine wvl h (ext h rfl rfl) fun a h => ?_
 refine wvl h (ext h rfl rfl) fun a h => ?_
 refine ws2 h rfl rfl rfl rfl fun a h => ?_
 refine rg ?_
 refine wsn h rfl fun a h => ?_
 refine wp_seq ?_
 refine rg ?_
 refine wmv h rfl fun a h => ?_
 refine wvl h (leB h rfl Tryz.underlying9) fun a h => ?_
 refine wvl h (gtr h rfl rfl) fun a h => ?_
 refine wn ?_
 refine cnd1 h rfl (fun hb2 => ?_) (fun hb2 => ?_)
 ·exact absurd hb2 (by first | decide | (simp only [Bool.not_eq_true', Bool.not_eq_false', Bool.not_eq_true, Bool.not_eq_false, decide_eq_true_eq, decide_eq_false_iff_not, gt_iff_lt, ge_iff_le]; omega) | (simp; done))
 refine rg ?_
 refine wmv h rfl fun a h => ?_
 refine wvl h (not_ h rfl) fun a h => ?_
 refine wn ?_
 refine cnd1 h rfl (fun hb3 => ?_) (fun hb3 => ?_)
 ·refine rg1 ?_
  refine wsn h rfl fun a h => ?_
  refine wp_seq ?_
  refine rg ?_
  refine wmv h rfl fun a h => ?_
  refine wvl h (nei h rfl rfl) fun a h => ?_
  refine wn ?_
  refine cnd1 h rfl (fun hb4 => ?_) (fun hb4 => ?_)
  ·refine rg ?_
   refine wm2 h rfl rfl rfl rfl fun a h => ?_
   refine wvl h (eqi h rfl rfl) fun a h => ?_
   refine wmv h rfl fun a h => ?_
   refine split (t := 37) h rfl (fun hb5 => ?_) (fun hb5 => ?_)
   ·refine wl (stp_on h rfl rfl rfl hb5 (vl h (mov h rfl) fun a h => ?_))
    refine wl (stp_on h rfl rfl rfl hb5 (vl h (lenR h rfl Tryz.underlying22 (hp.rdF (i := 0) rfl)) fun a h => ?_))
    refine wl (stp_on h rfl rfl rfl hb5 (vl h (eqi h rfl rfl) fun a h => ?_))
    refine wvl h (pckT h rfl hb5 rfl) fun a h => ?_
    refine wmv h rfl fun a h => ?_
    refine split (t := 42) h rfl (fun hb6 => ?_) (fun hb6 => ?_)
    ·refine wl (stp_on h rfl rfl rfl hb6 (cal h rfl en10_W57 (known_L _ (hGl.keep hp)) fun u w3 ⟨e1, e2⟩ a h => ?_))
     subst e1
     have hp := hp.below e2
     refine wvl h (pckT h rfl hb6 rfl) fun a h => ?_
     refine wsn h rfl fun a h => ?_
     refine wp_ret ?_
     try simp only [xqs]
     refine rt_1 h rfl (rvT h rfl) ?_
     exact ⟨_, rfl, rfl, hp.bel⟩
    exact absurd hb6 (by decide)
   exact absurd hb5 (by decide)
  exact absurd hb4 (by decide)
 exact absurd hb3 (by decide)
theorem EclipseReads_2 (s : Bs) (l : List Ecl.Mark) (w : World) (hGl : Glb w) (hsl : s.length ≤ 500) (h4 : ¬ 400 < s.length) (he : readErr s = 2) (hv : readVal s = []) (hpar : parse s = some l) (hl : isList l = false) : Ret Tryz.prog 4 #[.string (bs s)] w fun u w' => u = .bool true ∧ Below w.heap.size w w' := by
 have hp : Hp c0 w w [] := Hp.start trivial
 refine enter Tryz.func4 rfl (N := 69) rfl rfl fun a h => ?_
 refine rg ?_
 refine wsn h rfl fun a h => ?_
 refine wp_seq ?_
 refine rg ?_
 refine wmv h rfl fun a h => ?_
 refine wvl h (leB h rfl Tryz.underlying9) fun a h => ?_
 refine wvl h (gtr h rfl rfl) fun a h => ?_
 refine wn ?_
 refine cnd1 h rfl (fun hb1 => ?_) (fun hb1 => ?_)
 ·exact absurd hb1 (by first | decide | (simp only [Bool.not_eq_true', Bool.not_eq_false', Bool.not_eq_true, Bool.not_eq_false, decide_eq_true_eq, decide_eq_false_iff_not, gt_iff_lt, ge_iff_le]; omega) | (simp; done))
 refine skp ?_
 refine rg ?_
 refine wmv h rfl fun a h => ?_
 refine wl (cal h rfl en13 (Read_c (hGl.keep hp) he hv) fun u w1 ⟨⟨s20, e1, hf⟩, e2⟩ a h => ?_)
 subst e1
 have hp := hp.got (hp.below e2) (by decide) hf
 refine wmv h rfl fun a h => ?_
 refine wvl h (ext h rfl rfl) fun a h => ?_
 refine wvl h (ext h rfl rfl) fun a h => ?_
 refine ws2 h rfl rfl rfl rfl fun a h => ?_
 refine rg ?_
 refine wmv h rfl fun a h => ?_
 refine wl (cal h rfl en16_W57 (Read_y hsl hpar) fun u w2 ⟨⟨s21, e1, hf⟩, e2⟩ a h => ?_)
 subst e1
 have hp := hp.got (hp.below e2) (by decide) hf
 refine wmv h rfl fun a h => ?_
 refine wvl h (ext h rfl rfl) fun a h => ?_
 refine wvl h (ext h rfl rfl) fun a h => ?_
 refine ws2 h rfl rfl rfl rfl fun a h => ?_
 refine rg ?_
 refine wsn h rfl fun a h => ?_
 refine wp_seq ?_
 refine rg ?_
 refine wmv h rfl fun a h => ?_
 refine wvl h (leB h rfl Tryz.underlying9) fun a h => ?_
 refine wvl h (gtr h rfl rfl) fun a h => ?_
 refine wn ?_
 refine cnd1 h rfl (fun hb2 => ?_) (fun hb2 => ?_)
 ·exact absurd hb2 (by first | decide | (simp only [Bool.not_eq_true', Bool.not_eq_false', Bool.not_eq_true, Bool.not_eq_false, decide_eq_true_eq, decide_eq_false_iff_not, gt_iff_lt, ge_iff_le]; omega) | (simp; done))
 refine rg ?_
 refine wmv h rfl fun a h => ?_
 refine wvl h (not_ h rfl) fun a h => ?_
 refine wn ?_
 refine cnd1 h rfl (fun hb3 => ?_) (fun hb3 => ?_)
 ·exact absurd hb3 (by decide)
 refine rg ?_
 refine wmv h rfl fun a h => ?_
 refine wl (cal h rfl en12_W57 (List_R _ _ _ (hp.rdF (i := 1) rfl)) fun u w3 ⟨e1, e2⟩ a h => ?_)
 subst e1
 have hp := hp.below e2
 refine wvl h (not_ h rfl) fun a h => ?_
 refine wn ?_
 refine cnd1 h rfl (fun hb4 => ?_) (fun hb4 => ?_)
 ·refine rg1 ?_
  refine wsn h rfl fun a h => ?_
  refine wp_seq ?_
  refine rg ?_
  refine wmv h rfl fun a h => ?_
  refine wvl h (nei h rfl rfl) fun a h => ?_
  refine wn ?_
  refine cnd1 h rfl (fun hb5 => ?_) (fun hb5 => ?_)
  ·refine rg ?_
   refine wm2 h rfl rfl rfl rfl fun a h => ?_
   refine wvl h (eqi h rfl rfl) fun a h => ?_
   refine wmv h rfl fun a h => ?_
   refine split (t := 37) h rfl (fun hb6 => ?_) (fun hb6 => ?_)
   ·refine wl (stp_on h rfl rfl rfl hb6 (vl h (mov h rfl) fun a h => ?_))
    refine wl (stp_on h rfl rfl rfl hb6 (vl h (lenR h rfl Tryz.underlying22 (hp.rdF (i := 0) rfl)) fun a h => ?_))
    refine wl (stp_on h rfl rfl rfl hb6 (vl h (eqi h rfl rfl) fun a h => ?_))
    refine wvl h (pckT h rfl hb6 rfl) fun a h => ?_
    refine wmv h rfl fun a h => ?_
    refine split (t := 42) h rfl (fun hb7 => ?_) (fun hb7 => ?_)
    ·refine wl (stp_on h rfl rfl rfl hb7 (cal h rfl en10_W57 (known_L _ (hGl.keep hp)) fun u w4 ⟨e1, e2⟩ a h => ?_))
     subst e1
     have hp := hp.below e2
     refine wvl h (pckT h rfl hb7 rfl) fun a h => ?_
     refine wsn h rfl fun a h => ?_
     refine wp_ret ?_
     try simp only [xqs]
     refine rt_1 h rfl (rvT h rfl) ?_
     exact ⟨_, rfl, rfl, hp.bel⟩
    exact absurd hb7 (by decide)
   exact absurd hb6 (by decide)
  exact absurd hb5 (by decide)
 exact absurd hb4 (by rw [hl]; decide)
theorem EclipseReads_0 (s : Bs) (l : List Ecl.Mark) (w : World) (hGl : Glb w) (hsl : s.length ≤ 500) (h4 : ¬ 400 < s.length) (he : readErr s = 0) (hv : readVal s = l) (hpar : parse s = some l) (hl : isList l = true) (ht : text l = s) : Ret Tryz.prog 4 #[.string (bs s)] w fun u w' => u = .bool true ∧ Below w.heap.size w w' := by
 have hp : Hp c0 w w [] := Hp.start trivial
 refine enter Tryz.func4 rfl (N := 69) rfl rfl fun a h => ?_
 refine rg ?_
 refine wsn h rfl fun a h => ?_
 refine wp_seq ?_
 refine rg ?_
 refine wmv h rfl fun a h => ?_
 refine wvl h (leB h rfl Tryz.underlying9) fun a h => ?_
 refine wvl h (gtr h rfl rfl) fun a h => ?_
 refine wn ?_
 refine cnd1 h rfl (fun hb1 => ?_) (fun hb1 => ?_)
 ·exact absurd hb1 (by first | decide | (simp only [Bool.not_eq_true', Bool.not_eq_false', Bool.not_eq_true, Bool.not_eq_false, decide_eq_true_eq, decide_eq_false_iff_not, gt_iff_lt, ge_iff_le]; omega) | (simp; done))
 refine skp ?_
 refine rg ?_
 refine wmv h rfl fun a h => ?_
 refine wl (cal h rfl en13 (Read_c (hGl.keep hp) he hv) fun u w1 ⟨⟨s20, e1, hf⟩, e2⟩ a h => ?_)
 subst e1
 have hp := hp.got (hp.below e2) (by decide) hf
 refine wmv h rfl fun a h => ?_
 refine wvl h (ext h rfl rfl) fun a h => ?_
 refine wvl h (ext h rfl rfl) fun a h => ?_
 refine ws2 h rfl rfl rfl rfl fun a h => ?_
 refine rg ?_
 refine wmv h rfl fun a h => ?_
 refine wl (cal h rfl en16_W57 (Read_y hsl hpar) fun u w2 ⟨⟨s21, e1, hf⟩, e2⟩ a h => ?_)
 subst e1
 have hp := hp.got (hp.below e2) (by decide) hf
 refine wmv h rfl fun a h => ?_
 refine wvl h (ext h rfl rfl) fun a h => ?_
 refine wvl h (ext h rfl rfl) fun a h => ?_
 refine ws2 h rfl rfl rfl rfl fun a h => ?_
 refine rg ?_
 refine wsn h rfl fun a h => ?_
 refine wp_seq ?_
 refine rg ?_
 refine wmv h rfl fun a h => ?_
 refine wvl h (leB h rfl Tryz.underlying9) fun a h => ?_
 refine wvl h (gtr h rfl rfl) fun a h => ?_
 refine wn ?_
 refine cnd1 h rfl (fun hb2 => ?_) (fun hb2 => ?_)
 ·exact absurd hb2 (by first | decide | (simp only [Bool.not_eq_true', Bool.not_eq_false', Bool.not_eq_true, Bool.not_eq_false, decide_eq_true_eq, decide_eq_false_iff_not, gt_iff_lt, ge_iff_le]; omega) | (simp; done))
 refine rg ?_
 refine wmv h rfl fun a h => ?_
 refine wvl h (not_ h rfl) fun a h => ?_
 refine wn ?_
 refine cnd1 h rfl (fun hb3 => ?_) (fun hb3 => ?_)
 ·exact absurd hb3 (by decide)
 refine rg ?_
 refine wmv h rfl fun a h => ?_
 refine wl (cal h rfl en12_W57 (List_R _ _ _ (hp.rdF (i := 1) rfl)) fun u w3 ⟨e1, e2⟩ a h => ?_)
 subst e1
 have hp := hp.below e2
 refine wvl h (not_ h rfl) fun a h => ?_
 refine wn ?_
 refine cnd1 h rfl (fun hb4 => ?_) (fun hb4 => ?_)
 ·exact absurd hb4 (by rw [hl]; decide)
 refine skp ?_
 refine wp_seq ?_
 refine rg ?_
 refine wmv h rfl fun a h => ?_
 refine wvl h (nei h rfl rfl) fun a h => ?_
 refine wn ?_
 refine cnd1 h rfl (fun hb5 => ?_) (fun hb5 => ?_)
 ·exact absurd hb5 (by decide)
 refine skp ?_
 refine rg ?_
 refine wmv h rfl fun a h => ?_
 refine wl (cal h rfl en11_W57 (Print_s _ _ _ (hp.rdF (i := 0) rfl) (hGl.keep hp) hl) fun u w4 ⟨e1, e2⟩ a h => ?_)
 subst e1
 have hp := hp.below e2
 refine wmv h rfl fun a h => ?_
 refine wvl h (ext h rfl rfl) fun a h => ?_
 refine wvl h (ext h rfl rfl) fun a h => ?_
 refine ws2 h rfl rfl rfl rfl fun a h => ?_
 refine rg ?_
 refine wmv h rfl fun a h => ?_
 refine wvl h (eqi h rfl rfl) fun a h => ?_
 refine wmv h rfl fun a h => ?_
 refine split (t := 52) h rfl (fun hb6 => ?_) (fun hb6 => ?_)
 ·refine wl (stp_on h rfl rfl rfl hb6 (vl h (mov h rfl) fun a h => ?_))
  refine wl (stp_on h rfl rfl rfl hb6 (vl h (mov h rfl) fun a h => ?_))
  refine wl (stp_on h rfl rfl rfl hb6 (cal h rfl en15 (SameEclipses_S _ _ _ _ _ (hp.rdF (i := 0) rfl) (hp.rdF (i := 1) rfl)) fun u w5 ⟨e1, e2⟩ a h => ?_))
  subst e1
  have hp := hp.below e2
  refine wvl h (pckT h rfl hb6 rfl) fun a h => ?_
  refine wmv h rfl fun a h => ?_
  refine split (t := 57) h rfl (fun hb7 => ?_) (fun hb7 => ?_)
  ·refine wl (stp_on h rfl rfl rfl hb7 (vl h (mov h rfl) fun a h => ?_))
   refine wl (stp_on h rfl rfl rfl hb7 (vl h (eqi h rfl rfl) fun a h => ?_))
   refine wvl h (pckT h rfl hb7 rfl) fun a h => ?_
   refine wmv h rfl fun a h => ?_
   refine split (t := 61) h rfl (fun hb8 => ?_) (fun hb8 => ?_)
   ·refine wl (stp_on h rfl rfl rfl hb8 (vl h (mov h rfl) fun a h => ?_))
    refine wl (stp_on h rfl rfl rfl hb8 (vl h (mov h rfl) fun a h => ?_))
    refine wl (stp_on h rfl rfl rfl hb8 (vl h (seB h rfl rfl) fun a h => ?_))
    refine wvl h (pckT h rfl hb8 rfl) fun a h => ?_
    refine wmv h rfl fun a h => ?_
    refine split (t := 66) h rfl (fun hb9 => ?_) (fun hb9 => ?_)
    ·refine wl (stp_on h rfl rfl rfl hb9 (cal h rfl en10_W57 (known_L _ (hGl.keep hp)) fun u w6 ⟨e1, e2⟩ a h => ?_))
     subst e1
     have hp := hp.below e2
     refine wvl h (pckT h rfl hb9 rfl) fun a h => ?_
     refine wsn h rfl fun a h => ?_
     refine wp_ret ?_
     try simp only [xqs]
     refine rt_1 h rfl (rvT h rfl) ?_
     exact ⟨_, rfl, rfl, hp.bel⟩
    exact absurd hb9 (by simp [ht])
   exact absurd hb8 (by decide)
  exact absurd hb7 (by simp)
 exact absurd hb6 (by decide)
theorem EclipseReads_bs (s : Bs) (w : World) (hGl : Glb w) : Ret Tryz.prog 4 #[.string (bs s)] w fun u w' => u = .bool true ∧ Below w.heap.size w w' := by
 by_cases h5 : 500 < s.length
 ·exact EclipseReads_a s w hGl h5
 have hsl : s.length ≤ 500 := by omega
 by_cases h4 : 400 < s.length
 ·exact EclipseReads_3 s w hGl hsl h4 (by rw [readErr, if_pos h4]) (by rw [readVal, if_pos h4])
 cases hp : parse s with
 | none => exact EclipseReads_4 s w hGl hsl h4 (by rw [readErr, if_neg h4, hp]) (by rw [readVal, if_neg h4, hp]) hp
 | some l =>
  cases hl : isList l with
  | false => exact EclipseReads_2 s l w hGl hsl h4 (by rw [readErr, if_neg h4, hp]; simp [hl]) (by rw [readVal, if_neg h4, hp]; simp [hl]) hp hl
  | true => exact EclipseReads_0 s l w hGl hsl h4 (by rw [readErr, if_neg h4, hp]; simp [hl]) (by rw [readVal, if_neg h4, hp]; simp [hl]) hp hl (parse_sum hp).1
theorem EclipseReads_L (a : ByteArray) (w : World) (hGl : Glb w) : Ret Tryz.prog 4 #[.string a] w fun u w' => u = .bool true ∧ Below w.heap.size w w' := by
 rw [← bs_of a]
 exact EclipseReads_bs _ w hGl
end Go.Proofs.Ec
