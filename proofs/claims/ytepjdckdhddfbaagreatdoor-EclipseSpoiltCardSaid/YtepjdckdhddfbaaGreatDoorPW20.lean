import Derived.Test.YtepjdckdhddfbaaGreatDoorProg
import Derived.Test.YtepjdckdhddfbaaGreatDoorPFa
import Derived.Test.YtepjdckdhddfbaaGreatDoorPQb
import Derived.Test.YtepjdckdhddfbaaGreatDoorPW19
import Derived.Test.YtepjdckdhddfbaaGreatDoorPQc
set_option linter.unusedVariables false
set_option linter.unusedSimpArgs false
set_option maxRecDepth 4000
namespace Go.Proofs.Ec
open Go.RowKit Go.Proofs.Sx
open Ecl
set_option maxHeartbeats 2000000 in
theorem text_e (s : SV) (l : List Ecl.Mark) (w : World) (hR : Rd w encM 3 s.v l) (hG : Glb w) (hS : Small l) : Ret Tryz.prog 45 #[s.v] w fun u w' => u = .string (bs (text l)) ∧ Below w.heap.size w w' := by
 have hln := hS.len
 have hll := lines_len hS
 have hjl := join_len hS
 have i0 := itoa_len (n := (l.length : Int)) (by omega)
 have hp : Hp c0 w w [] := Hp.start trivial
 refine enter Tryz.func45 rfl (N := 83) rfl rfl fun a h => ?_
 refine rg ?_
 refine wsn h rfl fun a h => ?_
 refine rg ?_
 refine wmv h rfl fun a h => ?_
 refine wvl h (lenR h rfl Tryz.underlying22 (hR.keep (by decide) hp cl0)) fun a h => ?_
 refine wl (cal h rfl en86 (itoa_e _ _ (by omega) (hG.keep hp)) fun u w1 ⟨e1, e2⟩ a h => ?_)
 subst e1
 have hp := hp.below e2
 refine wvl h (sad h rfl rfl (by (try simp only [List.length_append, List.length_cons, List.length_nil]); omega)) fun a h => ?_
 refine wl (bsl h hp rfl (bs95_1_0 _) fun a w2 g1 hg1 h hp => ?_)
 refine wsn h rfl fun a h => ?_
 refine wp_seq ?_
 refine rg ?_
 refine wmv h rfl fun a h => ?_
 refine wvl h (lenR h rfl Tryz.underlying22 (hR.keep (by decide) hp cl0)) fun a h => ?_
 refine wmv h rfl fun a h => ?_
 refine wn ?_
 have hp := Hp.a2b hp
 refine lp1 h [2, 15, 16] (fun n f w' => ∃ k : Nat, ∃ s1 : SV, k ≤ l.length ∧ n = l.length - k ∧ f = [(17, .int .i64 k), (3, s1.v)] ∧ Hp c0 w w' ([.buf 9 1 s1.v (k + 1) ((headOf l.length :: (l.take k).map lineOf).flatMap encT)]) ∧ True) (l.length) [(17, .int .i64 ((0 : Nat) : Int)), (3, (SV.v ⟨some ⟨g1, 0, none⟩, 1, 1⟩))] ⟨rfl, rfl, rfl, rfl, rfl, trivial⟩ ⟨0, ⟨some ⟨g1, 0, none⟩, 1, 1⟩, Nat.zero_le _, rfl, rfl, hp, trivial⟩ ?_
 rintro n f a w3 ⟨k, s1, hk, rfl, rfl, hp, _⟩ h
 have hfit := hR.fits
 refine rg ?_
 refine wvl h (lss h rfl rfl) fun a h => ?_
 refine wn ?_
 refine cnd h rfl (fun hb1 => ?_) (fun hb1 => ?_)
 ·have hlt : k < l.length := by have := of_decide_eq_true hb1; omega
  obtain ⟨y, hy⟩ : ∃ y, l[k]? = some y := ⟨_, List.getElem?_eq_getElem hlt⟩
  have hyb := hS.bd y (List.mem_of_getElem? hy)
  have i4 := itoa_len hyb.1
  have i5 := itoa_len hyb.2
  have i6 := word_len y.full
  have hln9 := hS.len
  refine skp ?_
  refine blk ?_
  refine rg ?_
  refine wvl h (iadR (k) h rfl rfl Tryz.underlying22 sz87 (hR.keep (by decide) hp cl0) (rfl) (hlt)) fun a h => ?_
  refine wvl h (ldE h (hR.keep (by decide) hp cl0) hy rfl ag87 sz87) fun a h => ?_
  refine wl (all h hp zc87 fun a w4 g2 hg2 h hp => ?_)
  refine wl (sta h hp rfl rfl 1 rfl sz87 rfl rfl fun w5 hp => ?_)
  refine wn ?_
  refine rdh1 (n := 17) ((hp).pick [1] (by decide) rfl) mixed rfl ?_
  have hp := hp.drew
  refine tkm 0 h rfl ((hp).pick [1] (by decide) rfl) rfl fun a h => ?_
  refine tkq 1 h rfl ((hp).pick [1] (by decide) rfl) (fun W _ => fad h rfl fo87_1) fun a h => ?_
  refine tkq 2 h rfl ((hp).pick [1] (by decide) rfl) (fun W hp => ldo h hp rfl 0 rfl rfl ag4) fun a h => ?_
  refine tkq 5 h rfl ((hp).pick [1] (by decide) rfl) (fun W _ => fad h rfl fo87_0) fun a h => ?_
  refine tkq 6 h rfl ((hp).pick [1] (by decide) rfl) (fun W hp => ldo h hp rfl 0 rfl rfl ag3) fun a h => ?_
  refine tkq 10 h rfl ((hp).pick [1] (by decide) rfl) (fun W _ => fad h rfl fo87_2) fun a h => ?_
  refine tkq 11 h rfl ((hp).pick [1] (by decide) rfl) (fun W hp => ldo h hp rfl 0 rfl rfl ag3) fun a h => ?_
  refine one 3 (by kernel_rfl) rfl (cal h rfl en87 (word_e _ _) fun u w6 ⟨e1, e2⟩ a h => ⟨((hp.below e2).pick [1] (by decide) rfl), ?_⟩)
  subst e1
  have hp := hp.below e2
  refine tkq 4 h rfl ((hp).pick [1] (by decide) rfl) (fun W _ => sad h rfl rfl (by (try simp only [List.length_append, List.length_cons, List.length_nil]); omega)) fun a h => ?_
  refine one 7 (by kernel_rfl) rfl (cal h rfl en86 (itoa_e _ _ (by omega) (hG.keep hp)) fun u w7 ⟨e1, e2⟩ a h => ⟨((hp.below e2).pick [1] (by decide) rfl), ?_⟩)
  subst e1
  have hp := hp.below e2
  refine tkq 8 h rfl ((hp).pick [1] (by decide) rfl) (fun W _ => sad h rfl rfl (by (try simp only [List.length_append, List.length_cons, List.length_nil]); omega)) fun a h => ?_
  refine tkq 9 h rfl ((hp).pick [1] (by decide) rfl) (fun W _ => sad h rfl rfl (by (try simp only [List.length_append, List.length_cons, List.length_nil]); omega)) fun a h => ?_
  refine one 12 (by kernel_rfl) rfl (cal h rfl en86 (itoa_e _ _ (by omega) (hG.keep hp)) fun u w8 ⟨e1, e2⟩ a h => ⟨((hp.below e2).pick [1] (by decide) rfl), ?_⟩)
  subst e1
  have hp := hp.below e2
  refine tkq 13 h rfl ((hp).pick [1] (by decide) rfl) (fun W _ => sad h rfl rfl (by (try simp only [List.length_append, List.length_cons, List.length_nil]); omega)) fun a h => ?_
  refine one 14 (by kernel_rfl) rfl (bsl h hp rfl (bs95_1_0 _) fun a w9 g3 hg3 h hp => ⟨((hp).pick [1] (by decide) rfl), ?_⟩)
  refine one 15 (by kernel_rfl) rfl (app1 0 h hp rfl rfl rfl ap95 2 rfl rfl rfl (by omega) (by omega) fun a w10 v h hp => ⟨((hp).pick [1] (by decide) rfl), ?_⟩)
  refine tka 16 h rfl ((hp).pick [1] (by decide) rfl) rfl fun a h => ?_
  refine dn (by kernel_rfl) ?_
  try simp only [xqs, ↓reduceIte, Nat.reduceEqDiff]
  refine rg1 ?_
  refine wvl h (add h rfl rfl (by omega)) fun a h => ?_
  refine wmv h rfl fun a h => ?_
  refine wn ?_
  exact ⟨_, _, (by omega), ⟨k + 1, _, by omega, rfl, rfl, hp.pre 1 (by simp [take_snoc hy, lineOf, encT]), trivial⟩, h.sub ⟨rfl, rfl, rfl, rfl, rfl, trivial⟩⟩
 have hend : k = l.length := by have := of_decide_eq_false hb1; omega
 subst hend
 have hp := hp.pre 1 (hl := [.buf 9 1 s1.v (linesOf l).length ((linesOf l).flatMap encT)]) (by rw [List.take_length]; simp [linesOf])
 refine wp_exit ?_
 try simp only [xqs, ↓reduceIte, Nat.reduceEqDiff]
 refine rg ?_
 refine wsn h rfl fun a h => ?_
 refine wp_seq ?_
 refine rg ?_
 refine wmv h rfl fun a h => ?_
 refine wvl h (lenR h rfl Tryz.underlying95 (hp.rdB (i := 0) (ys := (linesOf l)) rfl rfl rfl (fun _ _ => rfl))) fun a h => ?_
 refine wmv h rfl fun a h => ?_
 refine wn ?_
 refine lp1 h [2, 3, 18, 38, 39] (fun n f w' => ∃ k : Nat, ∃ z : Int, k ≤ (linesOf l).length ∧ n = (linesOf l).length - k ∧ f = [(40, .int .i64 k), (6, .int .i64 z)] ∧ Hp c0 w w' ([.buf 9 1 s1.v (linesOf l).length ((linesOf l).flatMap encT)]) ∧ z = allSum 0 ((linesOf l).take k) ∧ 0 ≤ z ∧ z ≤ 60000000 * k) ((linesOf l).length) [(40, .int .i64 ((0 : Nat) : Int)), (6, .int .i64 0)] ⟨rfl, rfl, rfl, rfl, rfl, rfl, rfl, trivial⟩ ⟨0, 0, Nat.zero_le _, rfl, rfl, hp, rfl, by omega, by omega⟩ ?_
 rintro n f a w11 ⟨k, z, hk, rfl, rfl, hp, hz, z0, z1⟩ h
 have hfit := (hp.rdB (i := 0) (ys := (linesOf l)) rfl rfl rfl (fun _ _ => rfl)).fits
 refine rg ?_
 refine wvl h (lss h rfl rfl) fun a h => ?_
 refine wn ?_
 refine cnd h rfl (fun hb2 => ?_) (fun hb2 => ?_)
 ·have hlt : k < (linesOf l).length := by have := of_decide_eq_true hb2; omega
  obtain ⟨y, hy⟩ : ∃ y, (linesOf l)[k]? = some y := ⟨_, List.getElem?_eq_getElem hlt⟩
  have hyl := hll.2 y (List.mem_of_getElem? hy)
  refine skp ?_
  refine blk ?_
  refine rg ?_
  refine wmv h rfl fun a h => ?_
  refine wvl h (iadR (k) h rfl rfl Tryz.underlying95 sz9 (hp.rdB (i := 0) (ys := (linesOf l)) rfl rfl rfl (fun _ _ => rfl)) (rfl) (hlt)) fun a h => ?_
  refine wvl h (ld0 h (hp.rdB (i := 0) (ys := (linesOf l)) rfl rfl rfl (fun _ _ => rfl)) hy rfl ag9 rfl) fun a h => ?_
  refine ws2 h rfl rfl rfl rfl fun a h => ?_
  refine rg ?_
  refine wmv h rfl fun a h => ?_
  refine wvl h (leB h rfl Tryz.underlying9) fun a h => ?_
  refine wmv h rfl fun a h => ?_
  refine wn ?_
  refine lp1 h [2, 3, 7, 8, 18, 38, 39, 40, 41, 42, 43, 44, 45, 46] (fun n f w' => ∃ (j : Nat) (z2 : Int), j ≤ y.length ∧ n = y.length - j ∧ f = [(47, .int .i64 j), (6, .int .i64 z2)] ∧ Hp c0 w w' [.buf 9 1 s1.v (linesOf l).length ((linesOf l).flatMap encT)] ∧ z2 = z + lineSum ((k : Int) + 1) 0 (y.take j) ∧ 0 ≤ z2 ∧ z2 ≤ z + 3000000 * j) (y.length) [(47, .int .i64 ((0 : Nat) : Int)), (6, .int .i64 z)] ⟨rfl, rfl, rfl, rfl, rfl, rfl, rfl, rfl, rfl, rfl, rfl, rfl, rfl, rfl, rfl, rfl, trivial⟩ ⟨0, z, Nat.zero_le _, rfl, rfl, hp, by simp [lineSum], z0, by omega⟩ ?_
  rintro n f a w12 ⟨j, z2, hj, rfl, rfl, hp, hz2, z3, z4⟩ h
  refine rg ?_
  refine wvl h (lss h rfl rfl) fun a h => ?_
  refine wn ?_
  refine cnd h rfl (fun hb3 => ?_) (fun hb3 => ?_)
  ·have hlt3 : j < y.length := by have := of_decide_eq_true hb3; omega
   obtain ⟨b, hb⟩ : ∃ b, y[j]? = some b := ⟨_, List.getElem?_eq_getElem hlt3⟩
   have hbb := UInt8.toNat_lt b
   have m1 := mul_bd (a := (b.toNat : Int)) (b := (j : Int) + 1) (A := 255) (B := 16) (by omega) (by omega) (by omega) (by omega)
   have m2 := mul_bd (a := (b.toNat : Int) * ((j : Int) + 1)) (b := (k : Int) + 1) (A := 4080) (B := 501) (by omega) (by omega) (by omega) (by omega)
   refine skp ?_
   refine blk ?_
   refine rg ?_
   refine wmv h rfl fun a h => ?_
   refine wsn h rfl fun a h => ?_
   refine rg1 ?_
   refine wm3 h rfl rfl rfl rfl rfl rfl fun a h => ?_
   refine wvl h (siB (j) h rfl rfl Tryz.underlying9 rfl hb) fun a h => ?_
   refine wvl h (cvW h rfl (by kernel_rfl) Tryz.underlying3 (wrap_in (by omega))) fun a h => ?_
   refine wmv h rfl fun a h => ?_
   refine wvl h (add h rfl rfl (by omega)) fun a h => ?_
   refine wvl h (mul h rfl rfl (by omega)) fun a h => ?_
   refine wmv h rfl fun a h => ?_
   refine wvl h (add h rfl rfl (by omega)) fun a h => ?_
   refine wvl h (mul h rfl rfl (by omega)) fun a h => ?_
   refine wvl h (add h rfl rfl (by omega)) fun a h => ?_
   refine wsg h rfl fun a h => ?_
   refine wn' ?_
   try simp only [xqs, ↓reduceIte, Nat.reduceEqDiff]
   refine rg1 ?_
   refine wvl h (add h rfl rfl (by omega)) fun a h => ?_
   refine wmv h rfl fun a h => ?_
   refine wn ?_
   exact ⟨_, _, (by omega), ⟨j + 1, _, by omega, rfl, rfl, hp, by rw [take_snoc hb, lineSum_snoc, hz2, List.length_take, Nat.min_eq_left (Nat.le_of_lt hlt3), Nat.zero_add]; omega, by omega, by omega⟩, h.sub ⟨rfl, rfl, rfl, rfl, rfl, rfl, rfl, rfl, rfl, rfl, rfl, rfl, rfl, rfl, rfl, rfl, trivial⟩⟩
  have hend3 : j = y.length := by have := of_decide_eq_false hb3; omega
  subst hend3
  refine wp_exit ?_
  try simp only [xqs, ↓reduceIte, Nat.reduceEqDiff]
  refine rg1 ?_
  refine wvl h (add h rfl rfl (by omega)) fun a h => ?_
  refine wmv h rfl fun a h => ?_
  refine wn ?_
  exact ⟨_, _, (by omega), ⟨k + 1, _, by omega, rfl, rfl, hp, by rw [take_snoc hy, allSum_snoc, ← hz, hz2, List.take_length, List.length_take, Nat.zero_add, Nat.min_eq_left (Nat.le_of_lt hlt)], by omega, by omega⟩, h.sub ⟨rfl, rfl, rfl, rfl, rfl, rfl, rfl, trivial⟩⟩
 have hend : k = (linesOf l).length := by have := of_decide_eq_false hb2; omega
 subst hend
 rw [List.take_length] at hz
 refine wp_exit ?_
 try simp only [xqs, ↓reduceIte, Nat.reduceEqDiff]
 refine rg ?_
 refine wmv h rfl fun a h => ?_
 refine wvl h (rem0 h rfl rfl (by omega) (by omega)) fun a h => ?_
 refine wsn h rfl fun a h => ?_
 refine rg ?_
 have i1 := itoa_len (n := z % 139 / 100) (by omega)
 have i2 := itoa_len (n := z % 139 / 10 % 10) (by omega)
 have i3 := itoa_len (n := z % 139 % 10) (by omega)
 refine wmv h rfl fun a h => ?_
 refine wl (cal h rfl en88 (join_e s1 (linesOf l) [10] _ (hp.rdB (i := 0) (ys := (linesOf l)) rfl rfl rfl (fun _ _ => rfl)) (by omega) (by omega) (by simp [linesOf])) fun u w13 ⟨e1, e2⟩ a h => ?_)
 subst e1
 have hp := hp.below e2
 refine wvl h (sad h rfl rfl (by (try simp only [List.length_append, List.length_cons, List.length_nil]); omega)) fun a h => ?_
 refine wmv h rfl fun a h => ?_
 refine wvl h (quo0 h rfl rfl (by omega) (by omega)) fun a h => ?_
 refine wl (cal h rfl en86 (itoa_e _ _ (by omega) (hG.keep hp)) fun u w14 ⟨e1, e2⟩ a h => ?_)
 subst e1
 have hp := hp.below e2
 refine wvl h (sad h rfl rfl (by (try simp only [List.length_append, List.length_cons, List.length_nil]); omega)) fun a h => ?_
 refine wmv h rfl fun a h => ?_
 refine wvl h (quo0 h rfl rfl (by omega) (by omega)) fun a h => ?_
 refine wvl h (rem0 h rfl rfl (by omega) (by omega)) fun a h => ?_
 refine wl (cal h rfl en86 (itoa_e _ _ (by omega) (hG.keep hp)) fun u w15 ⟨e1, e2⟩ a h => ?_)
 subst e1
 have hp := hp.below e2
 refine wvl h (sad h rfl rfl (by (try simp only [List.length_append, List.length_cons, List.length_nil]); omega)) fun a h => ?_
 refine wmv h rfl fun a h => ?_
 refine wvl h (rem0 h rfl rfl (by omega) (by omega)) fun a h => ?_
 refine wl (cal h rfl en86 (itoa_e _ _ (by omega) (hG.keep hp)) fun u w16 ⟨e1, e2⟩ a h => ?_)
 subst e1
 have hp := hp.below e2
 refine wvl h (sad h rfl rfl (by (try simp only [List.length_append, List.length_cons, List.length_nil]); omega)) fun a h => ?_
 refine wvl h (sad h rfl rfl (by (try simp only [List.length_append, List.length_cons, List.length_nil]); omega)) fun a h => ?_
 refine wsn h rfl fun a h => ?_
 refine wp_ret ?_
 try simp only [xqs]
 refine rt_1 h rfl (rvT h rfl) ?_
 exact ⟨_, rfl, by rw [text]; simp only [checkOf, ← hz], hp.bel⟩
theorem sure_e (b : Bool) (why : Bs) (w : World) : RetP Tryz.prog 91 #[.bool b, .string (bs why)] w (fun u w' => (u = .tuple #[] ∧ b = true) ∧ Below w.heap.size w w') (fun v w' => (v = .iface 92 (.agg #[.string (bs why)]) ∧ b = false) ∧ Below w.heap.size w w') := by
 have hp : Hp c0 w w [] := Hp.start trivial
 refine enter Tryz.func91 rfl (N := 9) rfl rfl fun a h => ?_
 refine rg ?_
 refine wmv h rfl fun a h => ?_
 refine wvl h (not_ h rfl) fun a h => ?_
 refine wn ?_
 refine cnd1 h rfl (fun hb1 => ?_) (fun hb1 => ?_)
 ·have hbv : b = false := by simpa using hb1
  refine rg1 ?_
  refine wmv h rfl fun a h => ?_
  refine wvl h (bld h rfl (bl92_0 _ _)) fun a h => ?_
  refine wvl h (mki h rfl (by kernel_rfl)) fun a h => ?_
  refine wl (pan h rfl ?_)
  exact ⟨h.defs, .inr ⟨_, rfl, ⟨rfl, hbv⟩, hp.bel⟩⟩
 have hbv : b = true := by simpa using hb1
 refine wp_skip ?_
 refine rt0 h rfl ?_
 exact .inl ⟨_, rfl, ⟨rfl, hbv⟩, hp.bel⟩
theorem number_e (s : Bs) (w : World) (hG : Glb w) : RetP Tryz.prog 92 #[.string (bs s)] w (fun u w' => (u = .int .i64 (numVal s 0) ∧ isNum s = true) ∧ Below w.heap.size w w') (fun v w' => (v = .iface 92 (.agg #[.string (bs s)]) ∧ isNum s = false) ∧ Below w.heap.size w w') := by
 have hp : Hp c0 w w [] := Hp.start trivial
 refine enter Tryz.func92 rfl (N := 41) rfl rfl fun a h => ?_
 refine rg ?_
 refine wsn h rfl fun a h => ?_
 refine rg ?_
 refine wsn h rfl fun a h => ?_
 refine wp_seq ?_
 refine rg ?_
 refine wmv h rfl fun a h => ?_
 refine wl (rgS h hp rfl Tryz.underlying9 fun a w1 g1 hg1 h hp => ?_)
 refine wn ?_
 refine lp1 h [0, 2, 7] (fun n f w' => ∃ (k : Nat) (z : Int), k ≤ s.length ∧ n = s.length - k ∧ f = [(3, .int .i64 z)] ∧ Hp c0 w w' [.blk g1 (.stringIter (bs s) k)] ∧ (s.take k).all (okC s) = true ∧ z = numVal (s.take k) 0 ∧ 0 ≤ z ∧ z + 1 ≤ (10 ^ k : Nat) ∧ (k = 0 ∨ s.length ≤ 5)) (s.length) [(3, .int .i64 0)] ⟨rfl, rfl, rfl, rfl, trivial⟩ ⟨0, 0, Nat.zero_le _, rfl, rfl, hp, rfl, rfl, by omega, by simp, .inl rfl⟩ ?_
 rintro n f a w2 ⟨k, z, hk, rfl, rfl, hp, hI, hz, z0, z1, hk5⟩ h
 refine rg ?_
 refine wl (nxS h hp rfl 0 rfl (fun bq a w3 rq nq hbq hq1 hq2 hq3 h hp => ?_) (fun hge a h => ?_))
 ·refine wvl h (ext h rfl rfl) fun a h => ?_
  refine wn ?_
  refine cnd h rfl (fun _ => ?_) (fun e => nomatch e)
  refine skp ?_
  refine blk1 ?_
  refine rg ?_
  refine wvl h (ext h rfl rfl) fun a h => ?_
  refine wsn h rfl fun a h => ?_
  refine rg ?_
  refine wmv h rfl fun a h => ?_
  refine wvl h (geq h rfl rfl) fun a h => ?_
  refine wmv h rfl fun a h => ?_
  refine split (t := 13) h rfl (fun hb1 => ?_) (fun hb1 => ?_)
  ·have d1 := hb1
   refine wl (stp_on h rfl rfl rfl hb1 (vl h (mov h rfl) fun a h => ?_))
   refine wl (stp_on h rfl rfl rfl hb1 (vl h (leq h rfl rfl) fun a h => ?_))
   refine wvl h (pckT h rfl hb1 rfl) fun a h => ?_
   refine wmv h rfl fun a h => ?_
   refine split (t := 17) h rfl (fun hb2 => ?_) (fun hb2 => ?_)
   ·have d2 := hb2
    refine wl (stp_on h rfl rfl rfl hb2 (vl h (mov h rfl) fun a h => ?_))
    refine wl (stp_on h rfl rfl rfl hb2 (vl h (leB h rfl Tryz.underlying9) fun a h => ?_))
    refine wl (stp_on h rfl rfl rfl hb2 (vl h (leq h rfl rfl) fun a h => ?_))
    refine wvl h (pckT h rfl hb2 rfl) fun a h => ?_
    refine wmv h rfl fun a h => ?_
    refine wl (calP h rfl en91 (sure_e _ _ _) (fun u w4 ⟨⟨e1, hsu⟩, e2⟩ a h => ?_) (fun v w9 ⟨⟨e8, hsu⟩, e9⟩ => by subst e8; exact ⟨h.defs, .inr ⟨_, rfl, ⟨rfl, by exact num_bad hbq (by rw [okC, dig_eq hq1 hq2, d1, d2, Bool.true_and, Bool.true_and]; have := of_decide_eq_false hsu; exact decide_eq_false (by omega))⟩, (hp.below e9).bel⟩⟩))
    subst e1
    have hp := hp.below e2
    have hok : okC s bq = true := by rw [okC, dig_eq hq1 hq2, d1, d2, Bool.true_and, Bool.true_and]; exact decide_eq_true (by have := of_decide_eq_true hsu; omega)
    obtain ⟨o1, o2, o3, o4, o5⟩ := dig_one hq1 hok
    have hlt : k < s.length := by have := (List.getElem?_eq_some_iff.1 hbq).1; omega
    have hpw : 10 ^ (k + 1) = 10 ^ k * 10 := Nat.pow_succ _ _
    have hp5 : 10 ^ k ≤ 10 ^ 5 := Nat.pow_le_pow_right (by decide) (by omega)
    refine wn ?_
    refine rg1 ?_
    refine wmv h rfl fun a h => ?_
    refine wvl h (mul h rfl rfl (by omega)) fun a h => ?_
    refine wmv h rfl fun a h => ?_
    refine wvl h (sbk h rfl rfl (wr32 (by omega))) fun a h => ?_
    refine wvl h (cvW h rfl (by kernel_rfl) Tryz.underlying3 (wrap_in (by omega))) fun a h => ?_
    refine wvl h (add h rfl rfl (by omega)) fun a h => ?_
    refine wsg h rfl fun a h => ?_
    refine wn' ?_
    try simp only [xqs, ↓reduceIte, Nat.reduceEqDiff]
    exact ⟨_, _, (by omega), ⟨k + 1, _, by omega, rfl, rfl, o2 ▸ hp, all_snoc hbq hI hok, by rw [take_snoc hbq, numVal_snoc, ← hz, o1], by omega, by rw [hpw]; push_cast at z1 ⊢; omega, .inr o5⟩, h.sub ⟨rfl, rfl, rfl, rfl, trivial⟩⟩
   have d2 := hb2
   refine wl (stp_off h rfl rfl rfl rfl rfl hb2 fun a h => ?_)
   refine wl (stp_off h rfl rfl rfl rfl rfl hb2 fun a h => ?_)
   refine wl (stp_off h rfl rfl rfl rfl rfl hb2 fun a h => ?_)
   refine wvl h (pckF h rfl hb2 rfl) fun a h => ?_
   refine wmv h rfl fun a h => ?_
   refine wl (calP h rfl en91 (sure_e _ _ _) (fun u w5 ⟨⟨e1, hsu⟩, e2⟩ a h => ?_) (fun v w9 ⟨⟨e8, hsu⟩, e9⟩ => by subst e8; exact ⟨h.defs, .inr ⟨_, rfl, ⟨rfl, by exact num_bad hbq (by rw [okC, dig_eq hq1 hq2, d1, d2]; rfl)⟩, (hp.below e9).bel⟩⟩))
   subst e1
   have hp := hp.below e2
   exact absurd hsu (by decide)
  have d1 := hb1
  refine wl (stp_off h rfl rfl rfl rfl rfl hb1 fun a h => ?_)
  refine wl (stp_off h rfl rfl rfl rfl rfl hb1 fun a h => ?_)
  refine wvl h (pckF h rfl hb1 rfl) fun a h => ?_
  refine wmv h rfl fun a h => ?_
  refine wl (stp_off h rfl rfl rfl rfl rfl rfl fun a h => ?_)
  refine wl (stp_off h rfl rfl rfl rfl rfl rfl fun a h => ?_)
  refine wl (stp_off h rfl rfl rfl rfl rfl rfl fun a h => ?_)
  refine wvl h (pckF h rfl rfl rfl) fun a h => ?_
  refine wmv h rfl fun a h => ?_
  refine wl (calP h rfl en91 (sure_e _ _ _) (fun u w6 ⟨⟨e1, hsu⟩, e2⟩ a h => ?_) (fun v w9 ⟨⟨e8, hsu⟩, e9⟩ => by subst e8; exact ⟨h.defs, .inr ⟨_, rfl, ⟨rfl, by exact num_bad hbq (by rw [okC, dig_eq hq1 hq2, d1]; rfl)⟩, (hp.below e9).bel⟩⟩))
  subst e1
  have hp := hp.below e2
  exact absurd hsu (by decide)
 refine wvl h (ext h rfl rfl) fun a h => ?_
 refine wn ?_
 refine cnd h rfl (fun e => nomatch e) (fun _ => ?_)
 refine wp_exit ?_
 try simp only [xqs, ↓reduceIte, Nat.reduceEqDiff]
 refine rg ?_
 have hend : k = s.length := by omega
 subst hend
 rw [List.take_length] at hI hz
 have hI2 : (s.all fun c => digit c && decide (s.length ≤ 5)) = true := hI
 have hz2 := hz
 have hz5 : z ≤ 99999 := by rcases hk5 with h0 | h5; (rw [h0] at z1; simp at z1; omega); (have hp5 : 10 ^ s.length ≤ 10 ^ 5 := Nat.pow_le_pow_right (by decide) h5; omega)
 refine wmv h rfl fun a h => ?_
 refine wvl h (snB h rfl rfl) fun a h => ?_
 refine wmv h rfl fun a h => ?_
 refine split (t := 32) h rfl (fun hb3 => ?_) (fun hb3 => ?_)
 ·have hne : s.isEmpty = false := by have hq := hb3; rw [eq_nil] at hq; simpa using hq
  refine wl (stp_on h rfl rfl rfl hb3 (vl h (mov h rfl) fun a h => ?_))
  refine wl (stp_on h rfl rfl rfl hb3 (cal h rfl en86 (itoa_e _ _ (by omega) (hG.keep hp)) fun u w7 ⟨e1, e2⟩ a h => ?_))
  subst e1
  have hp := hp.below e2
  refine wl (stp_on h rfl rfl rfl hb3 (vl h (mov h rfl) fun a h => ?_))
  refine wl (stp_on h rfl rfl rfl hb3 (vl h (seB h rfl rfl) fun a h => ?_))
  refine wvl h (pckT h rfl hb3 rfl) fun a h => ?_
  refine wmv h rfl fun a h => ?_
  refine wl (calP h rfl en91 (sure_e _ _ _) (fun u w8 ⟨⟨e1, hsu⟩, e2⟩ a h => ?_) (fun v w9 ⟨⟨e8, hsu⟩, e9⟩ => by subst e8; exact ⟨h.defs, .inr ⟨_, rfl, ⟨rfl, by rw [isNum, hI2]; simp only [hne, ← hz2, hsu, Bool.and_false, Bool.false_and, Bool.true_and, Bool.not_true, Bool.not_false]⟩, (hp.below e9).bel⟩⟩))
  subst e1
  have hp := hp.below e2
  refine wn ?_
  refine rg ?_
  refine wmv h rfl fun a h => ?_
  refine wsn h rfl fun a h => ?_
  refine wp_ret ?_
  try simp only [xqs]
  refine rt_1 h rfl (rvT h rfl) ?_
  exact .inl ⟨_, rfl, ⟨congrArg (Value.int .i64) hz, by rw [isNum, hI2, hne, ← hz]; simpa using hsu⟩, hp.bel⟩
 have hne : s.isEmpty = true := by have hq := hb3; rw [eq_nil] at hq; simpa using hq
 refine wl (stp_off h rfl rfl rfl rfl rfl hb3 fun a h => ?_)
 refine wl (stp_off h rfl rfl rfl rfl rfl hb3 fun a h => ?_)
 refine wl (stp_off h rfl rfl rfl rfl rfl hb3 fun a h => ?_)
 refine wl (stp_off h rfl rfl rfl rfl rfl hb3 fun a h => ?_)
 refine wvl h (pckF h rfl hb3 rfl) fun a h => ?_
 refine wmv h rfl fun a h => ?_
 refine wl (calP h rfl en91 (sure_e _ _ _) (fun u w9 ⟨⟨e1, hsu⟩, e2⟩ a h => ?_) (fun v w9 ⟨⟨e8, hsu⟩, e9⟩ => by subst e8; exact ⟨h.defs, .inr ⟨_, rfl, ⟨rfl, by rw [isNum, hI2]; simp only [hne, Bool.and_false, Bool.false_and, Bool.true_and, Bool.not_true, Bool.not_false]⟩, (hp.below e9).bel⟩⟩))
 subst e1
 have hp := hp.below e2
 exact absurd hsu (by decide)
end Go.Proofs.Ec
