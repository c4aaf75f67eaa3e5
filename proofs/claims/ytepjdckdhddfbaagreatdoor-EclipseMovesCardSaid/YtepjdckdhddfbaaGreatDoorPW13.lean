import Derived.Test.YtepjdckdhddfbaaGreatDoorProg
import Derived.Test.YtepjdckdhddfbaaGreatDoorPFa
import Derived.Test.YtepjdckdhddfbaaGreatDoorPQb
import Derived.Test.YtepjdckdhddfbaaGreatDoorPW10
import Derived.Test.YtepjdckdhddfbaaGreatDoorPQc
set_option linter.unusedVariables false
set_option linter.unusedSimpArgs false
set_option maxRecDepth 4000
namespace Go.Proofs.Ec
open Go.RowKit Go.Proofs.Sx
open Ecl
theorem isNaN (n : Int) (w : World) : Ret Tryz.prog 110 #[.int .i64 n] w fun u w1 => u = .bool false ∧ w1 = w := by
 refine enter Tryz.func110 rfl (N := 6) rfl rfl fun a h => ?_
 refine rg ?_
 refine wsn h rfl fun a h => ?_
 refine rg ?_
 refine wm2 h rfl rfl rfl rfl fun a h => ?_
 refine wvl h (nei h rfl rfl) fun a h => ?_
 refine wsn h rfl fun a h => ?_
 refine wp_ret ?_
 try simp only [xqs]
 refine rt_1 h rfl (rvT h rfl) ?_
 exact ⟨_, rfl, by simp, rfl⟩
theorem compare (x : Int) (y : Int) (w : World) : Ret Tryz.prog 84 #[.int .i64 x, .int .i64 y] w fun u w1 => u = .int .i64 (cmpI x y) ∧ w1 = w := by
 refine enter Tryz.func84 rfl (N := 20) rfl rfl fun a h => ?_
 refine rg ?_
 refine wsn h rfl fun a h => ?_
 refine rg ?_
 refine wmv h rfl fun a h => ?_
 refine wl (cal h rfl en110 (isNaN _ _) fun u w1 ⟨e1, e2⟩ a h => ?_)
 subst e1
 subst e2
 refine wsn h rfl fun a h => ?_
 refine rg ?_
 refine wmv h rfl fun a h => ?_
 refine wl (cal h rfl en110 (isNaN _ _) fun u w2 ⟨e1, e2⟩ a h => ?_)
 subst e1
 subst e2
 refine wsn h rfl fun a h => ?_
 refine wp_seq ?_
 refine rg ?_
 refine wmv h rfl fun a h => ?_
 refine wn ?_
 refine cnd1 h rfl (fun e => nomatch e) (fun _ => ?_)
 refine skp ?_
 refine wp_seq ?_
 refine rg ?_
 refine wmv h rfl fun a h => ?_
 refine wn ?_
 refine cnd1 h rfl (fun e => nomatch e) (fun _ => ?_)
 refine skp ?_
 refine wp_seq ?_
 refine rg ?_
 refine wm2 h rfl rfl rfl rfl fun a h => ?_
 refine wvl h (lss h rfl rfl) fun a h => ?_
 refine wn ?_
 refine cnd1 h rfl (fun hb1 => ?_) (fun hb1 => ?_)
 ·refine rg ?_
  refine wsn h rfl fun a h => ?_
  refine wp_ret ?_
  try simp only [xqs]
  refine rt_1 h rfl (rvT h rfl) ?_
  exact ⟨_, rfl, by simp only [decide_eq_true_eq, decide_eq_false_iff_not] at hb1; simp only [cmpI]; repeat' (first | rfl | (split <;> try omega)), rfl⟩
 refine skp ?_
 refine wp_seq ?_
 refine rg ?_
 refine wm2 h rfl rfl rfl rfl fun a h => ?_
 refine wvl h (gtr h rfl rfl) fun a h => ?_
 refine wn ?_
 refine cnd1 h rfl (fun hb2 => ?_) (fun hb2 => ?_)
 ·refine rg ?_
  refine wsn h rfl fun a h => ?_
  refine wp_ret ?_
  try simp only [xqs]
  refine rt_1 h rfl (rvT h rfl) ?_
  exact ⟨_, rfl, by simp only [decide_eq_true_eq, decide_eq_false_iff_not] at hb1 hb2; simp only [cmpI]; repeat' (first | rfl | (split <;> try omega)), rfl⟩
 refine skp ?_
 refine rg ?_
 refine wsn h rfl fun a h => ?_
 refine wp_ret ?_
 try simp only [xqs]
 refine rt_1 h rfl (rvT h rfl) ?_
 exact ⟨_, rfl, by simp only [decide_eq_true_eq, decide_eq_false_iff_not] at hb1 hb2; simp only [cmpI]; repeat' (first | rfl | (split <;> try omega)), rfl⟩
theorem or_ (s : SV) (l : List Int) (w : World) (hR : Rd w encI 1 s.v l) : Ret Tryz.prog 83 #[s.v] w fun u w' => u = .int .i64 (orL l) ∧ Below w.heap.size w w' := by
 have hp : Hp c0 w w [] := Hp.start trivial
 refine enter Tryz.func83 rfl (N := 18) rfl rfl fun a h => ?_
 refine rg ?_
 refine wsn h rfl fun a h => ?_
 refine rg ?_
 refine wsn h rfl fun a h => ?_
 refine wp_seq ?_
 refine rg ?_
 refine wmv h rfl fun a h => ?_
 refine wvl h (lenR h rfl Tryz.underlying74 (hR.keep (by decide) hp cl0)) fun a h => ?_
 refine wmv h rfl fun a h => ?_
 refine wn ?_
 refine lp1 h [3, 6, 7] (fun n f w' => ∃ k : Nat, k ≤ l.length ∧ n = l.length - k ∧ f = [(8, .int .i64 k)] ∧ Hp c0 w w' ([]) ∧ orL l = orL (l.drop k)) (l.length) [(8, .int .i64 ((0 : Nat) : Int))] ⟨rfl, rfl, rfl, rfl, trivial⟩ ⟨0, Nat.zero_le _, rfl, rfl, hp, rfl⟩ ?_
 rintro n f a w1 ⟨k, hk, rfl, rfl, hp, hI⟩ h
 have hfit := hR.fits
 refine rg ?_
 refine wvl h (lss h rfl rfl) fun a h => ?_
 refine wn ?_
 refine cnd h rfl (fun hb1 => ?_) (fun hb1 => ?_)
 ·have hlt : k < l.length := by have := of_decide_eq_true hb1; omega
  obtain ⟨y, hy⟩ : ∃ y, l[k]? = some y := ⟨_, List.getElem?_eq_getElem hlt⟩
  refine skp ?_
  refine blk ?_
  refine rg ?_
  refine wvl h (iadR (k) h rfl rfl Tryz.underlying74 sz3 (hR.keep (by decide) hp cl0) (rfl) (hlt)) fun a h => ?_
  refine wvl h (ld0 h (hR.keep (by decide) hp cl0) hy rfl ag3 rfl) fun a h => ?_
  refine wsn h rfl fun a h => ?_
  refine rg ?_
  refine wm2 h rfl rfl rfl rfl fun a h => ?_
  refine wvl h (nei h rfl rfl) fun a h => ?_
  refine wn ?_
  refine cnd1 h rfl (fun hb2 => ?_) (fun hb2 => ?_)
  ·have hb2 : ¬ y = 0 := by simpa using hb2
   refine rg ?_
   refine wmv h rfl fun a h => ?_
   refine wsn h rfl fun a h => ?_
   refine wp_ret ?_
   try simp only [xqs]
   refine rt_1 h rfl (rvT h rfl) ?_
   exact ⟨_, rfl, by rw [hI, or_at hy, if_neg hb2], hp.bel⟩
  have hb2 : y = 0 := by simpa using hb2
  refine wp_skip ?_
  refine rg1 ?_
  refine wvl h (add h rfl rfl (by omega)) fun a h => ?_
  refine wmv h rfl fun a h => ?_
  refine wn ?_
  exact ⟨_, _, (by omega), ⟨k + 1, by omega, rfl, rfl, hp, by rw [hI, or_at hy, if_pos hb2]⟩, h.sub ⟨rfl, rfl, rfl, rfl, trivial⟩⟩
 have hend : k = l.length := by have := of_decide_eq_false hb1; omega
 subst hend
 rw [List.drop_length] at hI
 refine wp_exit ?_
 try simp only [xqs, ↓reduceIte, Nat.reduceEqDiff]
 refine rg ?_
 refine wmv h rfl fun a h => ?_
 refine wsn h rfl fun a h => ?_
 refine wp_ret ?_
 try simp only [xqs]
 refine rt_1 h rfl (rvT h rfl) ?_
 exact ⟨_, rfl, by rw [hI]; rfl, hp.bel⟩
theorem scompare (s1 s2 : SV) (d1 d2 : List Int) (w : World) (hR : Rd w encI 1 s1.v d1) (hS : Rd w encI 1 s2.v d2) : Ret Tryz.prog 85 #[s1.v, s2.v] w fun u w' => u = .int .i64 (cmpL d1 d2) ∧ Below w.heap.size w w' := by
 have hp : Hp c0 w w [] := Hp.start trivial
 refine enter Tryz.func85 rfl (N := 36) rfl rfl fun a h => ?_
 refine rg ?_
 refine wsn h rfl fun a h => ?_
 refine wp_seq ?_
 refine rg ?_
 refine wmv h rfl fun a h => ?_
 refine wvl h (lenR h rfl Tryz.underlying74 (hR.keep (by decide) hp cl0)) fun a h => ?_
 refine wmv h rfl fun a h => ?_
 refine wn ?_
 refine lp1 h [0, 1, 9, 10] (fun n f w' => ∃ k : Nat, k ≤ d1.length ∧ n = d1.length - k ∧ f = [(11, .int .i64 k)] ∧ Hp c0 w w' ([]) ∧ k ≤ d2.length ∧ cmpL d1 d2 = cmpL (d1.drop k) (d2.drop k)) (d1.length) [(11, .int .i64 ((0 : Nat) : Int))] ⟨rfl, rfl, rfl, rfl, rfl, trivial⟩ ⟨0, Nat.zero_le _, rfl, rfl, hp, Nat.zero_le _, rfl⟩ ?_
 rintro n f a w1 ⟨k, hk, rfl, rfl, hp, hk2, hI⟩ h
 have hfit := hR.fits
 have hfit2 := hS.fits
 refine rg ?_
 refine wvl h (lss h rfl rfl) fun a h => ?_
 refine wn ?_
 refine cnd h rfl (fun hb1 => ?_) (fun hb1 => ?_)
 ·have hlt : k < d1.length := by have := of_decide_eq_true hb1; omega
  obtain ⟨y, hy⟩ : ∃ y, d1[k]? = some y := ⟨_, List.getElem?_eq_getElem hlt⟩
  refine skp ?_
  refine blk ?_
  refine rg ?_
  refine wmv h rfl fun a h => ?_
  refine wvl h (iadR (k) h rfl rfl Tryz.underlying74 sz3 (hR.keep (by decide) hp cl0) (rfl) (hlt)) fun a h => ?_
  refine wvl h (ld0 h (hR.keep (by decide) hp cl0) hy rfl ag3 rfl) fun a h => ?_
  refine ws2 h rfl rfl rfl rfl fun a h => ?_
  refine wp_seq ?_
  refine rg ?_
  refine wm2 h rfl rfl rfl rfl fun a h => ?_
  refine wvl h (lenR h rfl Tryz.underlying74 (hS.keep (by decide) hp cl0)) fun a h => ?_
  refine wvl h (geq h rfl rfl) fun a h => ?_
  refine wn ?_
  refine cnd1 h rfl (fun hb2 => ?_) (fun hb2 => ?_)
  ·have hb2 : d2.length ≤ k := by have := of_decide_eq_true hb2; omega
   refine rg ?_
   refine wsn h rfl fun a h => ?_
   refine wp_ret ?_
   try simp only [xqs]
   refine rt_1 h rfl (rvT h rfl) ?_
   exact ⟨_, rfl, by rw [hI, cmpL_long hy hb2], hp.bel⟩
  have hb2 : k < d2.length := by have := of_decide_eq_false hb2; omega
  obtain ⟨z, hz⟩ : ∃ z, d2[k]? = some z := ⟨_, List.getElem?_eq_getElem hb2⟩
  refine skp ?_
  refine rg ?_
  refine wm2 h rfl rfl rfl rfl fun a h => ?_
  refine wvl h (iadR (k) h rfl rfl Tryz.underlying74 sz3 (hS.keep (by decide) hp cl0) (rfl) (hb2)) fun a h => ?_
  refine wvl h (ld0 h (hS.keep (by decide) hp cl0) hz rfl ag3 rfl) fun a h => ?_
  refine wsn h rfl fun a h => ?_
  refine rg ?_
  refine wm2 h rfl rfl rfl rfl fun a h => ?_
  refine wl (cal h rfl en84 (compare _ _ _) fun u w2 ⟨e1, e2⟩ a h => ?_)
  subst e1
  subst e2
  refine wsn h rfl fun a h => ?_
  refine rg ?_
  refine wmv h rfl fun a h => ?_
  refine wvl h (nei h rfl rfl) fun a h => ?_
  refine wn ?_
  refine cnd1 h rfl (fun hb3 => ?_) (fun hb3 => ?_)
  ·have hb3 : ¬ cmpI y z = 0 := by simpa using hb3
   refine rg ?_
   refine wmv h rfl fun a h => ?_
   refine wsn h rfl fun a h => ?_
   refine wp_ret ?_
   try simp only [xqs]
   refine rt_1 h rfl (rvT h rfl) ?_
   exact ⟨_, rfl, by rw [hI, cmpL_at hy hz, if_neg hb3], hp.bel⟩
  have hb3 : cmpI y z = 0 := by simpa using hb3
  refine wp_skip ?_
  refine rg1 ?_
  refine wvl h (add h rfl rfl (by omega)) fun a h => ?_
  refine wmv h rfl fun a h => ?_
  refine wn ?_
  exact ⟨_, _, (by omega), ⟨k + 1, by omega, rfl, rfl, hp, by omega, by rw [hI, cmpL_at hy hz, if_pos hb3]⟩, h.sub ⟨rfl, rfl, rfl, rfl, rfl, trivial⟩⟩
 have hend : k = d1.length := by have := of_decide_eq_false hb1; omega
 refine wp_exit ?_
 try simp only [xqs, ↓reduceIte, Nat.reduceEqDiff]
 refine wp_seq ?_
 refine rg ?_
 refine wmv h rfl fun a h => ?_
 refine wvl h (lenR h rfl Tryz.underlying74 (hR.keep (by decide) hp cl0)) fun a h => ?_
 refine wmv h rfl fun a h => ?_
 refine wvl h (lenR h rfl Tryz.underlying74 (hS.keep (by decide) hp cl0)) fun a h => ?_
 refine wvl h (lss h rfl rfl) fun a h => ?_
 refine wn ?_
 refine cnd1 h rfl (fun hb4 => ?_) (fun hb4 => ?_)
 ·refine rg ?_
  refine wsn h rfl fun a h => ?_
  refine wp_ret ?_
  try simp only [xqs]
  refine rt_1 h rfl (rvT h rfl) ?_
  exact ⟨_, rfl, by rw [hI, cmpL_end hend hk2, if_pos (by have := of_decide_eq_true hb4; omega)], hp.bel⟩
 refine skp ?_
 refine rg ?_
 refine wsn h rfl fun a h => ?_
 refine wp_ret ?_
 try simp only [xqs]
 refine rt_1 h rfl (rvT h rfl) ?_
 exact ⟨_, rfl, by rw [hI, cmpL_end hend hk2, if_neg (by have := of_decide_eq_false hb4; omega)], hp.bel⟩
theorem better_e (s1 s2 : SV) (d1 d2 : List Int) (w : World) (hR : Rd w encI 1 s1.v d1) (hS : Rd w encI 1 s2.v d2) : Ret Tryz.prog 82 #[s1.v, s2.v] w fun u w' => u = .bool (better d1 d2) ∧ Below w.heap.size w w' := by
 have hp : Hp c0 w w [] := Hp.start trivial
 refine enter Tryz.func82 rfl (N := 16) rfl rfl fun a h => ?_
 refine rg ?_
 refine wsn h rfl fun a h => ?_
 refine rg ?_
 refine wmv h rfl fun a h => ?_
 refine wvl h (lenR h rfl Tryz.underlying74 (hR.keep (by decide) hp cl0)) fun a h => ?_
 refine wmv h rfl fun a h => ?_
 refine wvl h (lenR h rfl Tryz.underlying74 (hS.keep (by decide) hp cl0)) fun a h => ?_
 refine wl (cal h rfl en84 (compare _ _ _) fun u w1 ⟨e1, e2⟩ a h => ?_)
 subst e1
 subst e2
 refine wm2 h rfl rfl rfl rfl fun a h => ?_
 refine wl (cal h rfl en85 (scompare _ _ _ _ _ (hR.keep (by decide) hp cl0) (hS.keep (by decide) hp cl0)) fun u w2 ⟨e1, e2⟩ a h => ?_)
 subst e1
 have hp := hp.below e2
 refine wl (bsl h hp rfl (bs74_2_0_1 _ _) fun a w3 g1 hg1 h hp => ?_)
 refine wl (cal h rfl en83 (or_ ⟨some ⟨g1, 0, none⟩, 2, 2⟩ [cmpI d1.length d2.length, cmpL d1 d2] _ (hp.rdA (i := 0) [cmpI d1.length d2.length, cmpL d1 d2] rfl rfl rfl (Nat.le_refl _) (show 2 ≤ 9223372036854775807 by decide) (fun _ _ => rfl))) fun u w4 ⟨e1, e2⟩ a h => ?_)
 subst e1
 have hp := hp.below e2
 refine wvl h (lss h rfl rfl) fun a h => ?_
 refine wsn h rfl fun a h => ?_
 refine wp_ret ?_
 try simp only [xqs]
 refine rt_1 h rfl (rvT h rfl) ?_
 exact ⟨_, rfl, by rw [better_or], hp.bel⟩
theorem best_e (s : SV) (ps : PL) (w : World) (hR : Rd w encS 1 s.v ps) (hps : rdsF ps w) : Ret Tryz.prog 81 #[s.v, .func (.func 82) #[] #[]] w fun u w' => ((ps = [] ∧ u = .tuple #[.slice none 0 0, .bool false]) ∨ ∃ p ∈ ps, u = .tuple #[p.1.v, .bool true] ∧ bestOf (ps.map (·.2)) = some p.2) ∧ Below w.heap.size w w' := by
 have hp : Hp c0 w w [] := Hp.start trivial
 refine enter Tryz.func81 rfl (N := 30) rfl rfl fun a h => ?_
 refine rg ?_
 refine ws2 h rfl rfl rfl rfl fun a h => ?_
 refine rg ?_
 refine wsn h rfl fun a h => ?_
 refine wp_seq ?_
 refine rg ?_
 refine wmv h rfl fun a h => ?_
 refine wvl h (lenR h rfl Tryz.underlying125 (hR.keep (by decide) hp cl0)) fun a h => ?_
 refine wmv h rfl fun a h => ?_
 refine wn ?_
 refine lp1 h [0, 1, 4, 5, 9, 10] (fun n f w' => ∃ k : Nat, ∃ z : SV, k ≤ ps.length ∧ n = ps.length - k ∧ f = [(11, .int .i64 k), (6, z.v)] ∧ Hp c0 w w' ([]) ∧ (k = 0 ∧ z = ⟨none, 0, 0⟩ ∨ ∃ p ∈ ps, z = p.1 ∧ bestOf ((ps.map (·.2)).take k) = some p.2)) (ps.length) [(11, .int .i64 ((0 : Nat) : Int)), (6, .slice none 0 0)] ⟨rfl, rfl, rfl, rfl, rfl, rfl, rfl, rfl, trivial⟩ ⟨0, ⟨none, 0, 0⟩, Nat.zero_le _, rfl, rfl, hp, .inl ⟨rfl, rfl⟩⟩ ?_
 rintro n f a w1 ⟨k, z, hk, rfl, rfl, hp, hI⟩ h
 have hfit := hR.fits
 refine rg ?_
 refine wvl h (lss h rfl rfl) fun a h => ?_
 refine wn ?_
 refine cnd h rfl (fun hb1 => ?_) (fun hb1 => ?_)
 ·have hlt : k < ps.length := by have := of_decide_eq_true hb1; omega
  obtain ⟨y, hy⟩ : ∃ y, ps[k]? = some y := ⟨_, List.getElem?_eq_getElem hlt⟩
  have hym : y ∈ ps := List.mem_of_getElem? hy
  have hy2 : (ps.map (·.2))[k]? = some y.2 := by rw [List.getElem?_map, hy]; rfl
  refine skp ?_
  refine blk ?_
  refine rg ?_
  refine wmv h rfl fun a h => ?_
  refine wvl h (iadR (k) h rfl rfl Tryz.underlying125 sz74 (hR.keep (by decide) hp cl0) (rfl) (hlt)) fun a h => ?_
  refine wvl h (ld0 h (hR.keep (by decide) hp cl0) hy rfl ag74 rfl) fun a h => ?_
  refine ws2 h rfl rfl rfl rfl fun a h => ?_
  refine rg ?_
  refine wmv h rfl fun a h => ?_
  refine wvl h (eqi h rfl rfl) fun a h => ?_
  refine wmv h rfl fun a h => ?_
  refine split (t := 18) h rfl (fun hb2 => ?_) (fun hb2 => ?_)
  ·have hk0 : k = 0 := by have := of_decide_eq_true hb2; omega
   have hN : ∃ p ∈ ps, y.1 = p.1 ∧ bestOf ((ps.map (·.2)).take (k + 1)) = some p.2 := ⟨y, hym, rfl, by subst hk0; exact bestOf_first hy2⟩
   refine wl (stp_off h rfl rfl rfl rfl rfl hb2 fun a h => ?_)
   refine wl (stp_off h rfl rfl rfl rfl rfl hb2 fun a h => ?_)
   refine wl (stp_off h rfl rfl rfl rfl rfl hb2 fun a h => ?_)
   refine wl (stp_off h rfl rfl rfl rfl rfl hb2 fun a h => ?_)
   refine wvl h (pckT h rfl hb2 rfl) fun a h => ?_
   refine wn ?_
   refine cnd1 h rfl (fun _ => ?_) (fun e => nomatch e)
   refine rg1 ?_
   refine wmv h rfl fun a h => ?_
   refine wsg h rfl fun a h => ?_
   refine wn' ?_
   try simp only [xqs, ↓reduceIte, Nat.reduceEqDiff]
   refine rg1 ?_
   refine wvl h (add h rfl rfl (by omega)) fun a h => ?_
   refine wmv h rfl fun a h => ?_
   refine wn ?_
   exact ⟨_, _, (by omega), ⟨k + 1, _, by omega, rfl, rfl, hp, .inr hN⟩, h.sub ⟨rfl, rfl, rfl, rfl, rfl, rfl, rfl, rfl, trivial⟩⟩
  have hk0 : ¬ k = 0 := by have := of_decide_eq_false hb2; omega
  have hI := hI.resolve_left (fun h => hk0 h.1)
  obtain ⟨p, hp9, rfl, hbz⟩ := hI
  refine wl (stp_on h rfl rfl rfl hb2 (vl h (mov h rfl) fun a h => ?_))
  refine wl (stp_on h rfl rfl rfl hb2 (vl h (mov h rfl) fun a h => ?_))
  refine wl (stp_on h rfl rfl rfl hb2 (vl h (mov h rfl) fun a h => ?_))
  refine wl (stp_on h rfl rfl rfl hb2 (calv h rfl rfl (en82) (better_e y.1 p.1 y.2 p.2 _ ((hps y hym).keep (by decide) hp cl0) ((hps p hp9).keep (by decide) hp cl0)) fun u w2 ⟨e1, e2⟩ a h => ?_))
  subst e1
  have hp := hp.below e2
  refine wvl h (pckF h rfl hb2 rfl) fun a h => ?_
  refine wn ?_
  refine cnd1 h rfl (fun hb3 => ?_) (fun hb3 => ?_)
  ·have hN : ∃ p ∈ ps, y.1 = p.1 ∧ bestOf ((ps.map (·.2)).take (k + 1)) = some p.2 := ⟨y, hym, rfl, by rw [bestOf_snoc hy2, hbz]; simp [hb3]⟩
   refine rg1 ?_
   refine wmv h rfl fun a h => ?_
   refine wsg h rfl fun a h => ?_
   refine wn' ?_
   try simp only [xqs, ↓reduceIte, Nat.reduceEqDiff]
   refine rg1 ?_
   refine wvl h (add h rfl rfl (by omega)) fun a h => ?_
   refine wmv h rfl fun a h => ?_
   refine wn ?_
   exact ⟨_, _, (by omega), ⟨k + 1, _, by omega, rfl, rfl, hp, .inr hN⟩, h.sub ⟨rfl, rfl, rfl, rfl, rfl, rfl, rfl, rfl, trivial⟩⟩
  have hN : ∃ q ∈ ps, p.1 = q.1 ∧ bestOf ((ps.map (·.2)).take (k + 1)) = some q.2 := ⟨p, hp9, rfl, by rw [bestOf_snoc hy2, hbz]; simp [hb3]⟩
  refine wp_skip ?_
  refine rg1 ?_
  refine wvl h (add h rfl rfl (by omega)) fun a h => ?_
  refine wmv h rfl fun a h => ?_
  refine wn ?_
  exact ⟨_, _, (by omega), ⟨k + 1, _, by omega, rfl, rfl, hp, .inr hN⟩, h.sub ⟨rfl, rfl, rfl, rfl, rfl, rfl, rfl, rfl, trivial⟩⟩
 have hend : k = ps.length := by have := of_decide_eq_false hb1; omega
 subst hend
 rw [show (ps.map (·.2)).take ps.length = ps.map (·.2) from List.take_of_length_le (by simp)] at hI
 refine wp_exit ?_
 try simp only [xqs, ↓reduceIte, Nat.reduceEqDiff]
 refine rg ?_
 refine wm2 h rfl rfl rfl rfl fun a h => ?_
 refine wvl h (lenR h rfl Tryz.underlying125 (hR.keep (by decide) hp cl0)) fun a h => ?_
 refine wvl h (gtr h rfl rfl) fun a h => ?_
 refine ws2 h rfl rfl rfl rfl fun a h => ?_
 refine wp_ret ?_
 try simp only [xqs]
 refine rt_2 h rfl (rvT h rfl) (rvT h rfl) ?_
 rcases hI with ⟨h0, rfl⟩ | ⟨p, hm9, rfl, hb9⟩
 ·exact ⟨_, rfl, .inl ⟨List.eq_nil_of_length_eq_zero h0, by rw [decide_eq_false (by omega)]; rfl⟩, hp.bel⟩
 exact ⟨_, rfl, .inr ⟨p, hm9, by rw [decide_eq_true (by have := List.length_pos_of_mem hm9; omega)], hb9⟩, hp.bel⟩
theorem clone (s : SV) (l : List Int) (w : World) (hR : Rd w encI 1 s.v l) (hln : l.length ≤ 100) : Ret Tryz.prog 80 #[s.v] w fun u w' => (∃ s' : SV, u = s'.v ∧ w'.ownsRow w.heap.size 3 1 s'.v l.length (l.flatMap encI)) ∧ Below w.heap.size w w' := by
 have hp : Hp c0 w w [] := Hp.start trivial
 refine enter Tryz.func80 rfl (N := 8) rfl rfl fun a h => ?_
 refine rg ?_
 refine wsn h rfl fun a h => ?_
 refine wp_seq ?_
 refine rg ?_
 refine wmv h rfl fun a h => ?_
 refine wvl h (eqSN h rfl Tryz.underlying74) fun a h => ?_
 refine wn ?_
 refine cnd1 h rfl (fun hb1 => ?_) (fun hb1 => ?_)
 ·have hl0 : l = [] := by
   obtain ⟨A, cp, hv, -, hA⟩ := hR.sl
   cases hs : s.A with
   | none =>
    rw [show s.v = .slice s.A s.n s.c from rfl, hs] at hv
    cases l with
    | nil => rfl
    | cons y r => rw [hA (by simp)] at hv; simp at hv
   | some _ => rw [hs] at hb1; simp at hb1
  subst hl0
  refine rg ?_
  refine wsn h rfl fun a h => ?_
  refine wp_ret ?_
  try simp only [xqs]
  refine rt_1 h rfl (rvT h rfl) ?_
  exact ⟨_, rfl, ⟨⟨none, 0, 0⟩, rfl, rfl, .inl ⟨rfl, rfl⟩⟩, hp.bel⟩
 obtain ⟨A, hA9⟩ : ∃ A, s.A = some A := by
  cases hs : s.A with
  | none => rw [hs] at hb1; simp at hb1
  | some A => exact ⟨A, rfl⟩
 have hA : s.v = .slice (some A) s.n s.c := by rw [← hA9]; rfl
 refine skp ?_
 refine rg ?_
 refine wl (bsl0 h hp ap74 fun a w1 g1 h hp => ?_)
 refine wmv h rfl fun a h => ?_
 refine wl (appR 0 h hp rfl rfl rfl ap74 (hR.keep (by decide) hp cl0) (hA) (by intro y u hu; simp [encI] at hu; subst hu; rfl) (by omega) (by omega) fun a w2 v h hp => ?_)
 refine wsn h rfl fun a h => ?_
 refine wp_ret ?_
 try simp only [xqs]
 refine rt_1 h rfl (rvT h rfl) ?_
 exact ⟨_, rfl, ⟨_, rfl, by rw [← Nat.zero_add l.length]; exact hp.fact (i := 0) rfl⟩, hp.bel⟩
end Go.Proofs.Ec
