import Derived.Test.YtepjdckdhddfbaaGreatDoorProg
import Derived.Test.YtepjdckdhddfbaaGreatDoorPFa
import Derived.Test.YtepjdckdhddfbaaGreatDoorPQb
import Derived.Test.YtepjdckdhddfbaaGreatDoorPW19
import Derived.Test.YtepjdckdhddfbaaGreatDoorPQc
import Derived.Test.YtepjdckdhddfbaaGreatDoorPW10
set_option linter.unusedVariables false
set_option linter.unusedSimpArgs false
set_option maxRecDepth 4000
namespace Go.Proofs.Ec
open Go.RowKit Go.Proofs.Sx
open Ecl
theorem Decimal_S (n0 : Int) (w : World) (hn : 0 ≤ n0 ∧ n0 ≤ 1000000) : Ret Tryz.prog 50 #[.int .i64 n0] w fun u w' => u = .string (bs (Lib.itoa n0)) ∧ Below w.heap.size w w' := by
 have hp : Hp c0 w w [] := Hp.start trivial
 refine enter Tryz.func50 rfl (N := 32) rfl rfl fun a h => ?_
 refine rg ?_
 refine wsn h rfl fun a h => ?_
 refine rg ?_
 refine wsn h rfl fun a h => ?_
 refine wp_seq ?_
 refine rg ?_
 refine wmv h rfl fun a h => ?_
 refine wsn h rfl fun a h => ?_
 refine lp1 h [0, 2] (fun n f w' => ∃ (k : Nat) (r : Int) (s : Bs), n = r.toNat + (if s.isEmpty then 1 else 0) ∧ f = [(4, .int .i64 r), (3, .string (bs s))] ∧ Hp c0 w w' [] ∧ 0 ≤ r ∧ r ≤ n0 ∧ s.length + r.toNat ≤ n0.toNat + 1 ∧ decP (Lib.itoa n0) r s) (n0.toNat + 1) [(4, .int .i64 n0), (3, .string (bs ([] : Bs)))] ⟨rfl, rfl, rfl, rfl, trivial⟩ ⟨0, n0, [], rfl, rfl, hp, hn.1, Int.le_refl _, by simp, .inr ⟨.inr rfl, by rw [Lib.itoa, if_neg (by omega)]; simp⟩⟩ ?_
 rintro n f a w1 ⟨_, r, s, rfl, rfl, hp, r0, r1, hsl, hI⟩ h
 refine wp_seq ?_
 refine rg ?_
 refine wmv h rfl fun a h => ?_
 refine wvl h (nei h rfl rfl) fun a h => ?_
 refine wmv h rfl fun a h => ?_
 refine split (t := 9) h rfl (fun hb1 => ?_) (fun hb1 => ?_)
 ·have hr0 : ¬ r = 0 := by simpa using hb1
  have hc : ¬ (r = 0 ∧ s ≠ []) := fun h => hr0 h.1
  have hlq : 0 < r ∨ s = [] := .inl (by omega)
  refine wl (stp_off h rfl rfl rfl rfl rfl hb1 fun a h => ?_)
  refine wl (stp_off h rfl rfl rfl rfl rfl hb1 fun a h => ?_)
  refine wvl h (pckT h rfl hb1 rfl) fun a h => ?_
  refine wn ?_
  refine cnd1 h rfl (fun _ => ?_) (fun e => nomatch e)
  refine skp ?_
  refine blk ?_
  refine rg ?_
  refine wmv h rfl fun a h => ?_
  refine wvl h (rem0 h rfl rfl (by omega) (by omega)) fun a h => ?_
  refine wsn h rfl fun a h => ?_
  refine rg1 ?_
  refine wm2 h rfl rfl rfl rfl fun a h => ?_
  refine wvl h (neg h rfl (by omega)) fun a h => ?_
  refine wvl h (max_ h rfl rfl) fun a h => ?_
  refine wvl h (add h rfl rfl (by omega)) fun a h => ?_
  refine wvl h (cvW h rfl (by kernel_rfl) Tryz.underlying5 (wr8 (by omega))) fun a h => ?_
  refine wl (bsl h hp rfl (bs35_1_0 _) fun a w2 g1 hg1 h hp => ?_)
  refine wvl h (cvB h hp rfl 0 rfl Tryz.underlying35 Tryz.underlying5 Tryz.underlying9) fun a h => ?_
  refine wmv h rfl fun a h => ?_
  refine wvl h (sad h rfl rfl (by (try simp only [List.length_append, List.length_cons, List.length_nil]); omega)) fun a h => ?_
  refine wsg h rfl fun a h => ?_
  refine wn' ?_
  try simp only [xqs, ↓reduceIte, Nat.reduceEqDiff]
  refine rg1 ?_
  refine wmv h rfl fun a h => ?_
  refine wvl h (quo0 h rfl rfl (by omega) (by omega)) fun a h => ?_
  refine wsn h rfl fun a h => ?_
  exact ⟨_, _, (by rw [List.isEmpty_cons]; rcases hlq with h | h <;> simp_all <;> omega), ⟨0, r / 10, UInt8.ofNat (48 + max (r % 10) (-(r % 10))).toNat :: s, rfl, rfl, hp.pre 0 rfl, by omega, by omega, by rw [List.length_cons]; omega, by rw [show max (r % 10) (-(r % 10)) = r % 10 by omega]; exact decP_go r0 hI hc⟩, h.sub ⟨rfl, rfl, rfl, rfl, trivial⟩⟩
 have hr0 : r = 0 := by simpa using hb1
 refine wl (stp_on h rfl rfl rfl hb1 (vl h (mov h rfl) fun a h => ?_))
 refine wl (stp_on h rfl rfl rfl hb1 (vl h (seB h rfl rfl) fun a h => ?_))
 refine wvl h (pckF h rfl hb1 rfl) fun a h => ?_
 refine wn ?_
 refine cnd1 h rfl (fun hb2 => ?_) (fun hb2 => ?_)
 ·have hse : s = [] := by have hq := hb2; rw [eq_nil, List.isEmpty_iff] at hq; exact hq
  have hc : ¬ (r = 0 ∧ s ≠ []) := fun h => h.2 hse
  have hlq : 0 < r ∨ s = [] := .inr hse
  have hs0 : s.length = 0 := by rw [hse]; rfl
  refine skp ?_
  refine blk ?_
  refine rg ?_
  refine wmv h rfl fun a h => ?_
  refine wvl h (rem0 h rfl rfl (by omega) (by omega)) fun a h => ?_
  refine wsn h rfl fun a h => ?_
  refine rg1 ?_
  refine wm2 h rfl rfl rfl rfl fun a h => ?_
  refine wvl h (neg h rfl (by omega)) fun a h => ?_
  refine wvl h (max_ h rfl rfl) fun a h => ?_
  refine wvl h (add h rfl rfl (by omega)) fun a h => ?_
  refine wvl h (cvW h rfl (by kernel_rfl) Tryz.underlying5 (wr8 (by omega))) fun a h => ?_
  refine wl (bsl h hp rfl (bs35_1_0 _) fun a w3 g2 hg2 h hp => ?_)
  refine wvl h (cvB h hp rfl 0 rfl Tryz.underlying35 Tryz.underlying5 Tryz.underlying9) fun a h => ?_
  refine wmv h rfl fun a h => ?_
  refine wvl h (sad h rfl rfl (by (try simp only [List.length_append, List.length_cons, List.length_nil]); omega)) fun a h => ?_
  refine wsg h rfl fun a h => ?_
  refine wn' ?_
  try simp only [xqs, ↓reduceIte, Nat.reduceEqDiff]
  refine rg1 ?_
  refine wmv h rfl fun a h => ?_
  refine wvl h (quo0 h rfl rfl (by omega) (by omega)) fun a h => ?_
  refine wsn h rfl fun a h => ?_
  exact ⟨_, _, (by rw [List.isEmpty_cons]; rcases hlq with h | h <;> simp_all <;> omega), ⟨0, r / 10, UInt8.ofNat (48 + max (r % 10) (-(r % 10))).toNat :: s, rfl, rfl, hp.pre 0 rfl, by omega, by omega, by rw [List.length_cons]; omega, by rw [show max (r % 10) (-(r % 10)) = r % 10 by omega]; exact decP_go r0 hI hc⟩, h.sub ⟨rfl, rfl, rfl, rfl, trivial⟩⟩
 have hse : s ≠ [] := by have hq := hb2; intro h; rw [h] at hq; simp at hq
 subst hr0
 have hfin := decP_end hI hse
 refine wp_exit ?_
 try simp only [xqs, ↓reduceIte, Nat.reduceEqDiff]
 refine wp_seq ?_
 refine rg ?_
 refine wmv h rfl fun a h => ?_
 refine wvl h (lss h rfl rfl) fun a h => ?_
 refine wn ?_
 refine cnd1 h rfl (fun hb3 => ?_) (fun hb3 => ?_)
 ·exact absurd (of_decide_eq_true hb3) (by omega)
 refine skp ?_
 refine rg ?_
 refine wmv h rfl fun a h => ?_
 refine wsn h rfl fun a h => ?_
 refine wp_ret ?_
 try simp only [xqs]
 refine rt_1 h rfl (rvT h rfl) ?_
 exact ⟨_, rfl, by rw [hfin], hp.bel⟩
set_option maxHeartbeats 2000000 in
theorem Print_R (s : SV) (l : List Ecl.Mark) (w : World) (hR : Rd w encM 3 s.v l) (hS : Small l) : Ret Tryz.prog 14 #[s.v] w fun u w' => u = .string (bs (text l)) ∧ Below w.heap.size w w' := by
 have hln := hS.len
 have hll := lines_len hS
 have i0 := itoa_len (n := (l.length : Int)) (by omega)
 have hp : Hp c0 w w [] := Hp.start trivial
 refine enter Tryz.func14 rfl (N := 101) rfl rfl fun a h => ?_
 refine rg ?_
 refine wsn h rfl fun a h => ?_
 refine rg ?_
 refine wmv h rfl fun a h => ?_
 refine wvl h (lenR h rfl Tryz.underlying22 (hR.keep (by decide) hp cl0)) fun a h => ?_
 refine wl (cal h rfl en50 (Decimal_S _ _ (by omega)) fun u w1 ⟨e1, e2⟩ a h => ?_)
 subst e1
 have hp := hp.below e2
 refine wvl h (sad h rfl rfl (by (try simp only [List.length_append, List.length_cons, List.length_nil]); omega)) fun a h => ?_
 refine wl (bsl h hp rfl (bs95_1_0 _) fun a w2 g1 hg1 h hp => ?_)
 refine wsn h rfl fun a h => ?_
 refine wp_seq ?_
 refine rg ?_
 refine wsn h rfl fun a h => ?_
 have hp := Hp.a2b hp
 refine lp1 h [0, 2] (fun n f w' => ∃ k : Nat, ∃ s1 : SV, k ≤ l.length ∧ n = l.length - k ∧ f = [(4, .int .i64 k), (3, s1.v)] ∧ Hp c0 w w' ([.buf 9 1 s1.v (k + 1) ((headOf l.length :: (l.take k).map lineOf).flatMap encT)]) ∧ True) (l.length) [(4, .int .i64 ((0 : Nat) : Int)), (3, (SV.v ⟨some ⟨g1, 0, none⟩, 1, 1⟩))] ⟨rfl, rfl, rfl, rfl, trivial⟩ ⟨0, ⟨some ⟨g1, 0, none⟩, 1, 1⟩, Nat.zero_le _, rfl, rfl, hp, trivial⟩ ?_
 rintro n f a w3 ⟨k, s1, hk, rfl, rfl, hp, _⟩ h
 have hfit := hR.fits
 refine wp_seq ?_
 refine rg ?_
 refine wm2 h rfl rfl rfl rfl fun a h => ?_
 refine wvl h (lenR h rfl Tryz.underlying22 (hR.keep (by decide) hp cl0)) fun a h => ?_
 refine wvl h (lss h rfl rfl) fun a h => ?_
 refine wn ?_
 refine cnd1 h rfl (fun hb1 => ?_) (fun hb1 => ?_)
 ·have hlt : k < l.length := by have := of_decide_eq_true hb1; omega
  obtain ⟨y, hy⟩ : ∃ y, l[k]? = some y := ⟨_, List.getElem?_eq_getElem hlt⟩
  have hyb := hS.bd y (List.mem_of_getElem? hy)
  have i4 := itoa_len hyb.1
  have i5 := itoa_len hyb.2
  have hln9 := hS.len
  refine skp ?_
  refine blk ?_
  refine rg ?_
  refine wsn h rfl fun a h => ?_
  refine wp_seq ?_
  refine rg ?_
  refine wm2 h rfl rfl rfl rfl fun a h => ?_
  refine wvl h (iadR (k) h rfl rfl Tryz.underlying22 sz87 (hR.keep (by decide) hp cl0) (rfl) (hlt)) fun a h => ?_
  refine wvl h (fad h rfl fo87_1) fun a h => ?_
  refine wvl h (ldF 1 h (hR.keep (by decide) hp cl0) hy rfl ag4 rfl) fun a h => ?_
  refine wn ?_
  refine cnd1 h rfl (fun hb2 => ?_) (fun hb2 => ?_)
  ·have hfu : y.full = true := hb2
   refine rg1 ?_
   refine wsn h rfl fun a h => ?_
   refine rdh1 (n := 21) ((hp).pick [] (by decide) rfl) mixed rfl ?_
   have hp := hp.drew
   refine tkm 0 h rfl ((hp).pick [] (by decide) rfl) rfl fun a h => ?_
   refine tkm 1 h rfl ((hp).pick [] (by decide) rfl) rfl fun a h => ?_
   refine tkq 2 h rfl ((hp).pick [] (by decide) rfl) (fun W _ => sad h rfl rfl (by (try simp only [List.length_append, List.length_cons, List.length_nil]); omega)) fun a h => ?_
   refine tkm 3 h rfl ((hp).pick [] (by decide) rfl) rfl fun a h => ?_
   refine tkm 4 h rfl ((hp).pick [] (by decide) rfl) rfl fun a h => ?_
   refine tkq 5 h rfl ((hp).pick [] (by decide) rfl) (fun W hp => iadR (k) h rfl rfl Tryz.underlying22 sz87 (hR.keep (by decide) hp cl0) (rfl) (hlt)) fun a h => ?_
   refine tkq 6 h rfl ((hp).pick [] (by decide) rfl) (fun W _ => fad h rfl fo87_0) fun a h => ?_
   refine tkq 7 h rfl ((hp).pick [] (by decide) rfl) (fun W hp => ldF 0 h (hR.keep (by decide) hp cl0) hy rfl ag3 rfl) fun a h => ?_
   refine tkm 11 h rfl ((hp).pick [] (by decide) rfl) rfl fun a h => ?_
   refine tkm 12 h rfl ((hp).pick [] (by decide) rfl) rfl fun a h => ?_
   refine tkq 13 h rfl ((hp).pick [] (by decide) rfl) (fun W hp => iadR (k) h rfl rfl Tryz.underlying22 sz87 (hR.keep (by decide) hp cl0) (rfl) (hlt)) fun a h => ?_
   refine tkq 14 h rfl ((hp).pick [] (by decide) rfl) (fun W _ => fad h rfl fo87_2) fun a h => ?_
   refine tkq 15 h rfl ((hp).pick [] (by decide) rfl) (fun W hp => ldF 2 h (hR.keep (by decide) hp cl0) hy rfl ag3 rfl) fun a h => ?_
   refine one 8 (by kernel_rfl) rfl (cal h rfl en50 (Decimal_S _ _ (by omega)) fun u w4 ⟨e1, e2⟩ a h => ⟨((hp.below e2).pick [] (by decide) rfl), ?_⟩)
   subst e1
   have hp := hp.below e2
   refine tkq 9 h rfl ((hp).pick [] (by decide) rfl) (fun W _ => sad h rfl rfl (by (try simp only [List.length_append, List.length_cons, List.length_nil]); omega)) fun a h => ?_
   refine tkq 10 h rfl ((hp).pick [] (by decide) rfl) (fun W _ => sad h rfl rfl (by (try simp only [List.length_append, List.length_cons, List.length_nil]); omega)) fun a h => ?_
   refine one 16 (by kernel_rfl) rfl (cal h rfl en50 (Decimal_S _ _ (by omega)) fun u w5 ⟨e1, e2⟩ a h => ⟨((hp.below e2).pick [] (by decide) rfl), ?_⟩)
   subst e1
   have hp := hp.below e2
   refine tkq 17 h rfl ((hp).pick [] (by decide) rfl) (fun W _ => sad h rfl rfl (by (try simp only [List.length_append, List.length_cons, List.length_nil]); omega)) fun a h => ?_
   refine one 18 (by kernel_rfl) rfl (bsl h hp rfl (bs95_1_0 _) fun a w6 g2 hg2 h hp => ⟨((hp).pick [] (by decide) rfl), ?_⟩)
   refine one 19 (by kernel_rfl) rfl (app1 0 h hp rfl rfl rfl ap95 1 rfl rfl rfl (by omega) (by omega) fun a w7 v h hp => ⟨((hp).pick [] (by decide) rfl), ?_⟩)
   refine tka 20 h rfl ((hp).pick [] (by decide) rfl) rfl fun a h => ?_
   refine dn (by kernel_rfl) ?_
   try simp only [xqs, ↓reduceIte, Nat.reduceEqDiff]
   refine rg1 ?_
   refine wmv h rfl fun a h => ?_
   refine wvl h (add h rfl rfl (by omega)) fun a h => ?_
   refine wsn h rfl fun a h => ?_
   exact ⟨_, _, (by omega), ⟨k + 1, _, by omega, rfl, rfl, hp.pre 1 (by simp [take_snoc hy, lineOf, wordOf, hfu, wFull, wNew, encT]), trivial⟩, h.sub ⟨rfl, rfl, rfl, rfl, trivial⟩⟩
  have hfu : y.full = false := hb2
  refine skp ?_
  refine rdh1 (n := 21) ((hp).pick [] (by decide) rfl) mixed rfl ?_
  have hp := hp.drew
  refine tkm 0 h rfl ((hp).pick [] (by decide) rfl) rfl fun a h => ?_
  refine tkm 1 h rfl ((hp).pick [] (by decide) rfl) rfl fun a h => ?_
  refine tkq 2 h rfl ((hp).pick [] (by decide) rfl) (fun W _ => sad h rfl rfl (by (try simp only [List.length_append, List.length_cons, List.length_nil]); omega)) fun a h => ?_
  refine tkm 3 h rfl ((hp).pick [] (by decide) rfl) rfl fun a h => ?_
  refine tkm 4 h rfl ((hp).pick [] (by decide) rfl) rfl fun a h => ?_
  refine tkq 5 h rfl ((hp).pick [] (by decide) rfl) (fun W hp => iadR (k) h rfl rfl Tryz.underlying22 sz87 (hR.keep (by decide) hp cl0) (rfl) (hlt)) fun a h => ?_
  refine tkq 6 h rfl ((hp).pick [] (by decide) rfl) (fun W _ => fad h rfl fo87_0) fun a h => ?_
  refine tkq 7 h rfl ((hp).pick [] (by decide) rfl) (fun W hp => ldF 0 h (hR.keep (by decide) hp cl0) hy rfl ag3 rfl) fun a h => ?_
  refine tkm 11 h rfl ((hp).pick [] (by decide) rfl) rfl fun a h => ?_
  refine tkm 12 h rfl ((hp).pick [] (by decide) rfl) rfl fun a h => ?_
  refine tkq 13 h rfl ((hp).pick [] (by decide) rfl) (fun W hp => iadR (k) h rfl rfl Tryz.underlying22 sz87 (hR.keep (by decide) hp cl0) (rfl) (hlt)) fun a h => ?_
  refine tkq 14 h rfl ((hp).pick [] (by decide) rfl) (fun W _ => fad h rfl fo87_2) fun a h => ?_
  refine tkq 15 h rfl ((hp).pick [] (by decide) rfl) (fun W hp => ldF 2 h (hR.keep (by decide) hp cl0) hy rfl ag3 rfl) fun a h => ?_
  refine one 8 (by kernel_rfl) rfl (cal h rfl en50 (Decimal_S _ _ (by omega)) fun u w8 ⟨e1, e2⟩ a h => ⟨((hp.below e2).pick [] (by decide) rfl), ?_⟩)
  subst e1
  have hp := hp.below e2
  refine tkq 9 h rfl ((hp).pick [] (by decide) rfl) (fun W _ => sad h rfl rfl (by (try simp only [List.length_append, List.length_cons, List.length_nil]); omega)) fun a h => ?_
  refine tkq 10 h rfl ((hp).pick [] (by decide) rfl) (fun W _ => sad h rfl rfl (by (try simp only [List.length_append, List.length_cons, List.length_nil]); omega)) fun a h => ?_
  refine one 16 (by kernel_rfl) rfl (cal h rfl en50 (Decimal_S _ _ (by omega)) fun u w9 ⟨e1, e2⟩ a h => ⟨((hp.below e2).pick [] (by decide) rfl), ?_⟩)
  subst e1
  have hp := hp.below e2
  refine tkq 17 h rfl ((hp).pick [] (by decide) rfl) (fun W _ => sad h rfl rfl (by (try simp only [List.length_append, List.length_cons, List.length_nil]); omega)) fun a h => ?_
  refine one 18 (by kernel_rfl) rfl (bsl h hp rfl (bs95_1_0 _) fun a w10 g3 hg3 h hp => ⟨((hp).pick [] (by decide) rfl), ?_⟩)
  refine one 19 (by kernel_rfl) rfl (app1 0 h hp rfl rfl rfl ap95 1 rfl rfl rfl (by omega) (by omega) fun a w11 v h hp => ⟨((hp).pick [] (by decide) rfl), ?_⟩)
  refine tka 20 h rfl ((hp).pick [] (by decide) rfl) rfl fun a h => ?_
  refine dn (by kernel_rfl) ?_
  try simp only [xqs, ↓reduceIte, Nat.reduceEqDiff]
  refine rg1 ?_
  refine wmv h rfl fun a h => ?_
  refine wvl h (add h rfl rfl (by omega)) fun a h => ?_
  refine wsn h rfl fun a h => ?_
  exact ⟨_, _, (by omega), ⟨k + 1, _, by omega, rfl, rfl, hp.pre 1 (by simp [take_snoc hy, lineOf, wordOf, hfu, wFull, wNew, encT]), trivial⟩, h.sub ⟨rfl, rfl, rfl, rfl, trivial⟩⟩
 have hend : k = l.length := by have := of_decide_eq_false hb1; omega
 subst hend
 have hp := hp.pre 1 (hl := [.buf 9 1 s1.v (linesOf l).length ((linesOf l).flatMap encT)]) (by rw [List.take_length]; simp [linesOf])
 refine wp_exit ?_
 try simp only [xqs, ↓reduceIte, Nat.reduceEqDiff]
 refine rg ?_
 refine ws2 h rfl rfl rfl rfl fun a h => ?_
 refine wp_seq ?_
 refine rg ?_
 refine wsn h rfl fun a h => ?_
 refine lp1 h [2, 3, 18] (fun n f w' => ∃ k : Nat, ∃ z : Int, ∃ o : Bs, k ≤ (linesOf l).length ∧ n = (linesOf l).length - k ∧ f = [(8, .int .i64 k), (7, .int .i64 z), (6, .string (bs o))] ∧ Hp c0 w w' ([.buf 9 1 s1.v (linesOf l).length ((linesOf l).flatMap encT)]) ∧ z = allSum 0 ((linesOf l).take k) ∧ 0 ≤ z ∧ z ≤ 60000000 * k ∧ o = textOf ((linesOf l).take k)) ((linesOf l).length) [(8, .int .i64 ((0 : Nat) : Int)), (7, .int .i64 0), (6, .string (bs ([] : Bs)))] ⟨rfl, rfl, rfl, rfl, rfl, rfl, trivial⟩ ⟨0, 0, [], Nat.zero_le _, rfl, rfl, hp, rfl, by omega, by omega, rfl⟩ ?_
 rintro n f a w12 ⟨k, z, o, hk, rfl, rfl, hp, hz, z0, z1, ho⟩ h
 have hfit := (hp.rdB (i := 0) (ys := (linesOf l)) rfl rfl rfl (fun _ _ => rfl)).fits
 refine wp_seq ?_
 refine rg ?_
 refine wm2 h rfl rfl rfl rfl fun a h => ?_
 refine wvl h (lenR h rfl Tryz.underlying95 (hp.rdB (i := 0) (ys := (linesOf l)) rfl rfl rfl (fun _ _ => rfl))) fun a h => ?_
 refine wvl h (lss h rfl rfl) fun a h => ?_
 refine wn ?_
 refine cnd1 h rfl (fun hb3 => ?_) (fun hb3 => ?_)
 ·have hlt : k < (linesOf l).length := by have := of_decide_eq_true hb3; omega
  obtain ⟨y, hy⟩ : ∃ y, (linesOf l)[k]? = some y := ⟨_, List.getElem?_eq_getElem hlt⟩
  have hyl := hll.2 y (List.mem_of_getElem? hy)
  have hol := textOf_len ((linesOf l).take k) (fun y hy => hll.2 y (List.mem_of_mem_take hy))
  rw [← ho, List.length_take] at hol
  refine skp ?_
  refine blk ?_
  refine wp_seq ?_
  refine rg ?_
  refine wsn h rfl fun a h => ?_
  refine lp1 h [2, 3, 6, 8, 18, 46, 47, 48, 49] (fun n f w' => ∃ (j : Nat) (z2 : Int), j ≤ y.length ∧ n = y.length - j ∧ f = [(9, .int .i64 j), (7, .int .i64 z2)] ∧ Hp c0 w w' [.buf 9 1 s1.v (linesOf l).length ((linesOf l).flatMap encT)] ∧ z2 = z + lineSum ((k : Int) + 1) 0 (y.take j) ∧ 0 ≤ z2 ∧ z2 ≤ z + 3000000 * j) (y.length) [(9, .int .i64 ((0 : Nat) : Int)), (7, .int .i64 z)] ⟨rfl, rfl, rfl, rfl, rfl, rfl, rfl, rfl, rfl, rfl, rfl, trivial⟩ ⟨0, z, Nat.zero_le _, rfl, rfl, hp, by simp [lineSum], z0, by omega⟩ ?_
  rintro n f a w13 ⟨j, z2, hj, rfl, rfl, hp, hz2, z3, z4⟩ h
  refine wp_seq ?_
  refine rg ?_
  refine wm3 h rfl rfl rfl rfl rfl rfl fun a h => ?_
  refine wvl h (iadR (k) h rfl rfl Tryz.underlying95 sz9 (hp.rdB (i := 0) (ys := (linesOf l)) rfl rfl rfl (fun _ _ => rfl)) (rfl) (hlt)) fun a h => ?_
  refine wvl h (ld0 h (hp.rdB (i := 0) (ys := (linesOf l)) rfl rfl rfl (fun _ _ => rfl)) hy rfl ag9 rfl) fun a h => ?_
  refine wvl h (leB h rfl Tryz.underlying9) fun a h => ?_
  refine wvl h (lss h rfl rfl) fun a h => ?_
  refine wn ?_
  refine cnd1 h rfl (fun hb4 => ?_) (fun hb4 => ?_)
  ·have hlt3 : j < y.length := by have := of_decide_eq_true hb4; omega
   obtain ⟨b, hb⟩ : ∃ b, y[j]? = some b := ⟨_, List.getElem?_eq_getElem hlt3⟩
   have hbb := UInt8.toNat_lt b
   have m1 := mul_bd (a := (b.toNat : Int)) (b := (j : Int) + 1) (A := 255) (B := 16) (by omega) (by omega) (by omega) (by omega)
   have m2 := mul_bd (a := (b.toNat : Int) * ((j : Int) + 1)) (b := (k : Int) + 1) (A := 4080) (B := 501) (by omega) (by omega) (by omega) (by omega)
   refine skp ?_
   refine blk ?_
   refine rg1 ?_
   refine wm3 h rfl rfl rfl rfl rfl rfl fun a h => ?_
   refine wvl h (iadR (k) h rfl rfl Tryz.underlying95 sz9 (hp.rdB (i := 0) (ys := (linesOf l)) rfl rfl rfl (fun _ _ => rfl)) (rfl) (hlt)) fun a h => ?_
   refine wvl h (ld0 h (hp.rdB (i := 0) (ys := (linesOf l)) rfl rfl rfl (fun _ _ => rfl)) hy rfl ag9 rfl) fun a h => ?_
   refine wmv h rfl fun a h => ?_
   refine wvl h (siB (j) h rfl rfl Tryz.underlying9 rfl hb) fun a h => ?_
   refine wvl h (cvW h rfl (by kernel_rfl) Tryz.underlying3 (wrap_in (by omega))) fun a h => ?_
   refine wmv h rfl fun a h => ?_
   refine wvl h (add h rfl rfl (by omega)) fun a h => ?_
   refine wvl h (mul h rfl rfl (by omega)) fun a h => ?_
   refine wmv h rfl fun a h => ?_
   refine wvl h (add h rfl rfl (by omega)) fun a h => ?_
   refine wvl h (mul h rfl rfl (by omega)) fun a h => ?_
   refine wvl h (add h rfl rfl (by omega)) fun a h => ?_
   refine wsg h rfl fun a h => ?_
   refine wn' ?_
   try simp only [xqs, ↓reduceIte, Nat.reduceEqDiff]
   refine rg1 ?_
   refine wmv h rfl fun a h => ?_
   refine wvl h (add h rfl rfl (by omega)) fun a h => ?_
   refine wsn h rfl fun a h => ?_
   exact ⟨_, _, (by omega), ⟨j + 1, _, by omega, rfl, rfl, hp, by rw [take_snoc hb, lineSum_snoc, hz2, List.length_take, Nat.min_eq_left (Nat.le_of_lt hlt3), Nat.zero_add]; omega, by omega, by omega⟩, h.sub ⟨rfl, rfl, rfl, rfl, rfl, rfl, rfl, rfl, rfl, rfl, rfl, trivial⟩⟩
  have hend3 : j = y.length := by have := of_decide_eq_false hb4; omega
  subst hend3
  refine wp_exit ?_
  try simp only [xqs, ↓reduceIte, Nat.reduceEqDiff]
  refine rg1 ?_
  refine wm3 h rfl rfl rfl rfl rfl rfl fun a h => ?_
  refine wvl h (iadR (k) h rfl rfl Tryz.underlying95 sz9 (hp.rdB (i := 0) (ys := (linesOf l)) rfl rfl rfl (fun _ _ => rfl)) (rfl) (hlt)) fun a h => ?_
  refine wvl h (ld0 h (hp.rdB (i := 0) (ys := (linesOf l)) rfl rfl rfl (fun _ _ => rfl)) hy rfl ag9 rfl) fun a h => ?_
  refine wvl h (sad h rfl rfl (by (try simp only [List.length_append, List.length_cons, List.length_nil]); omega)) fun a h => ?_
  refine wvl h (sad h rfl rfl (by (try simp only [List.length_append, List.length_cons, List.length_nil]); omega)) fun a h => ?_
  refine wsg h rfl fun a h => ?_
  refine wn' ?_
  try simp only [xqs, ↓reduceIte, Nat.reduceEqDiff]
  refine rg1 ?_
  refine wmv h rfl fun a h => ?_
  refine wvl h (add h rfl rfl (by omega)) fun a h => ?_
  refine wsn h rfl fun a h => ?_
  exact ⟨_, _, (by omega), ⟨k + 1, _, _, by omega, rfl, rfl, hp, by rw [take_snoc hy, allSum_snoc, ← hz, hz2, List.take_length, List.length_take, Nat.zero_add, Nat.min_eq_left (Nat.le_of_lt hlt)], by omega, by omega, by rw [take_snoc hy, textOf_snoc, ← ho]⟩, h.sub ⟨rfl, rfl, rfl, rfl, rfl, rfl, trivial⟩⟩
 have hend : k = (linesOf l).length := by have := of_decide_eq_false hb3; omega
 subst hend
 rw [List.take_length] at hz ho
 have hol := textOf_len (linesOf l) hll.2
 rw [← ho] at hol
 refine wp_exit ?_
 try simp only [xqs, ↓reduceIte, Nat.reduceEqDiff]
 refine rg ?_
 refine wmv h rfl fun a h => ?_
 refine wvl h (rem0 h rfl rfl (by omega) (by omega)) fun a h => ?_
 refine wsn h rfl fun a h => ?_
 refine rg ?_
 have i1 := itoa_len (n := z % 139 / 100) (by omega)
 have i2 := itoa_len (n := z % 139 / 10 % 10) (by omega)
 have i3 := itoa_len (n := z % 139 % 10) (by omega)
 refine wmv h rfl fun a h => ?_
 refine wvl h (sad h rfl rfl (by (try simp only [List.length_append, List.length_cons, List.length_nil]); omega)) fun a h => ?_
 refine wmv h rfl fun a h => ?_
 refine wvl h (quo0 h rfl rfl (by omega) (by omega)) fun a h => ?_
 refine wl (cal h rfl en50 (Decimal_S _ _ (by omega)) fun u w14 ⟨e1, e2⟩ a h => ?_)
 subst e1
 have hp := hp.below e2
 refine wvl h (sad h rfl rfl (by (try simp only [List.length_append, List.length_cons, List.length_nil]); omega)) fun a h => ?_
 refine wmv h rfl fun a h => ?_
 refine wvl h (quo0 h rfl rfl (by omega) (by omega)) fun a h => ?_
 refine wvl h (rem0 h rfl rfl (by omega) (by omega)) fun a h => ?_
 refine wl (cal h rfl en50 (Decimal_S _ _ (by omega)) fun u w15 ⟨e1, e2⟩ a h => ?_)
 subst e1
 have hp := hp.below e2
 refine wvl h (sad h rfl rfl (by (try simp only [List.length_append, List.length_cons, List.length_nil]); omega)) fun a h => ?_
 refine wmv h rfl fun a h => ?_
 refine wvl h (rem0 h rfl rfl (by omega) (by omega)) fun a h => ?_
 refine wl (cal h rfl en50 (Decimal_S _ _ (by omega)) fun u w16 ⟨e1, e2⟩ a h => ?_)
 subst e1
 have hp := hp.below e2
 refine wvl h (sad h rfl rfl (by (try simp only [List.length_append, List.length_cons, List.length_nil]); omega)) fun a h => ?_
 refine wvl h (sad h rfl rfl (by (try simp only [List.length_append, List.length_cons, List.length_nil]); omega)) fun a h => ?_
 refine wsn h rfl fun a h => ?_
 refine wp_ret ?_
 try simp only [xqs]
 refine rt_1 h rfl (rvT h rfl) ?_
 exact ⟨_, rfl, by rw [← text_ref]; simp only [checkOf, ← hz, ← ho], hp.bel⟩
end Go.Proofs.Ec
