import Derived.Test.YtobofnkmbpfoiabGreatDoorProg
import Derived.Test.YtobofnkmbpfoiabGreatDoorPFa
import Derived.Test.YtobofnkmbpfoiabGreatDoorPQb
import Derived.Test.YtobofnkmbpfoiabGreatDoorPW51
import Derived.Test.YtobofnkmbpfoiabGreatDoorPQa
set_option linter.unusedVariables false
set_option linter.unusedSimpArgs false
set_option maxRecDepth 4000
namespace Go.Proofs.Ec
open Go.RowKit Go.Proofs.Sx
open Ecl
def meetsB (d : Ball) (x y : Int) (ins : Bool) : Bool := decide (0 < dotP d x y) && (decide (crossP d x y * crossP d x y < d.r * d.r * (x * x + y * y)) || decide (crossP d x y * crossP d x y = d.r * d.r * (x * x + y * y)) && !ins)
theorem meets_f {d : Ball} {x y : Int} : meetsB d x y false = true ↔ 0 < dotP d x y ∧ crossP d x y * crossP d x y ≤ d.r * d.r * (x * x + y * y) := by
 simp only [meetsB, Bool.and_eq_true, Bool.or_eq_true, decide_eq_true_eq, Bool.not_false, and_true]
 constructor
 ·rintro ⟨h1, h2⟩
  exact ⟨h1, by omega⟩
 rintro ⟨h1, h2⟩
 exact ⟨h1, by omega⟩
theorem meets_t {d : Ball} {x y : Int} : meetsB d x y true = true ↔ 0 < dotP d x y ∧ crossP d x y * crossP d x y < d.r * d.r * (x * x + y * y) := by
 simp [meetsB]
theorem meets_dark {a b : Ball} {x y : Int} (ha : BallBd a) (hb : BallBd b) (h : shadesB a b = 3) (hm : meetsB b x y false = true) : meetsB a x y false = true := by
 obtain ⟨h1, h2⟩ := meets_f.1 hm
 exact meets_f.2 (dark_line ha hb h h1 h2)
theorem meets_lit {a b : Ball} {x y : Int} (ha : BallBd a) (hb : BallBd b) (h : shadesB a b = 1) (hlt : a.pow < b.pow) (hQ : 0 < x * x + y * y) (h1 : meetsB a x y true = true) (h2 : meetsB b x y true = true) : False :=
 lit_line ha hb h hlt hQ (meets_t.1 h1).1 (meets_t.1 h2).1 (meets_t.1 h1).2 (meets_t.1 h2).2
theorem sq_pos {x : Int} (h : x ≠ 0) : 0 < x * x := by
 rcases (by omega : x < 0 ∨ 0 < x) with z | z
 ·exact Int.mul_pos_of_neg_of_neg z z
 exact Int.mul_pos z z
def turnF (mi : Bool) : Ball → Ball := if mi then mirrB else turnB
theorem turnF_ok (mi : Bool) (l : List Ball) : isBalls (l.map (turnF mi)) = isBalls l := by cases mi; exact isBalls_turn l; exact isBalls_mirror l
theorem turnF_sh (mi : Bool) (a b : Ball) : shadesB (turnF mi a) (turnF mi b) = shadesB a b := by cases mi; exact shades_turn a b; exact shades_mirror a b
theorem Shades_t {s : SV} {l : List Ball} {p r : Int} {y z : Ball} {w : World} (mi : Bool) (hR : Rd w encL 3 s.v (l.map (turnF mi))) (hok : (isBalls l && inR p 0 ((l.length : Int) - 1) && inR r 0 ((l.length : Int) - 1) && !decide (p = r)) = true) (hy : l[p.toNat]? = some y) (hz : l[r.toNat]? = some z) : Ret Tryz.prog 18 #[s.v, .int .i64 p, .int .i64 r] w fun u w' => u = .tuple #[.int .i64 (shadesB y z), .int .i64 0] ∧ Below w.heap.size w w' := by
 have := Shades_v (p := p) (r := r) (y := turnF mi y) (z := turnF mi z) hR (by rw [turnF_ok, List.length_map]; exact hok) (by rw [List.getElem?_map, hy]; rfl) (by rw [List.getElem?_map, hz]; rfl)
 rwa [turnF_sh] at this
theorem nb_of {l : List Ball} {p r : Int} (hb : isBalls l = true) (h1 : inR p 0 ((l.length : Int) - 1) = true) (h2 : inR r 0 ((l.length : Int) - 1) = true) (h3 : p ≠ r) : (isBalls l && inR p 0 ((l.length : Int) - 1) && inR r 0 ((l.length : Int) - 1) && !decide (p = r)) = true := by
 rw [hb, h1, h2, decide_eq_false h3]
 rfl
theorem turned_L (s : SV) (l : List Ball) (mi : Bool) (w : World) (hR : Rd w encL 3 s.v l) (hok : isBalls l = true) : Ret Tryz.prog 25 #[s.v, .bool mi] w fun u w' => (∃ s' : SV, u = s'.v ∧ Fr w w' encL 3 s'.v (l.map (turnF mi))) ∧ Below w.heap.size w w' := by
 have hbd := balls_bd hok
 have hln := balls_len hok
 have hp : Hp c0 w w [] := Hp.start trivial
 refine enter Tryz.func25 rfl (N := 54) rfl rfl fun a h => ?_
 refine rg ?_
 refine wsn h rfl fun a h => ?_
 refine rg ?_
 refine wsn h rfl fun a h => ?_
 refine wp_seq ?_
 refine rg ?_
 refine wsn h rfl fun a h => ?_
 have hp := hp.nilB 51 3
 refine lp1 h [0, 1, 4] (fun n f w' => ∃ k : Nat, ∃ s1 : SV, k ≤ l.length ∧ n = l.length - k ∧ f = [(6, .int .i64 k), (5, s1.v)] ∧ Hp c0 w w' ([.buf 51 3 s1.v k (((l.take k).map (turnF mi)).flatMap encL)]) ∧ True) (l.length) [(6, .int .i64 ((0 : Nat) : Int)), (5, .slice none 0 0)] ⟨rfl, rfl, rfl, rfl, rfl, trivial⟩ ⟨0, ⟨none, 0, 0⟩, Nat.zero_le _, rfl, rfl, hp, trivial⟩ ?_
 rintro n f a w1 ⟨k, s1, hk, rfl, rfl, hp, _⟩ h
 have hfit := hR.fits
 refine wp_seq ?_
 refine rg ?_
 refine wm2 h rfl rfl rfl rfl fun a h => ?_
 refine wvl h (lenR h rfl Tryz.underlying37 (hR.keep (by decide) hp cl0)) fun a h => ?_
 refine wvl h (lss h rfl rfl) fun a h => ?_
 refine wn ?_
 refine cnd1 h rfl (fun hb1 => ?_) (fun hb1 => ?_)
 ·have hlt : k < l.length := by have := of_decide_eq_true hb1; omega
  obtain ⟨y, hy⟩ : ∃ y, l[k]? = some y := ⟨_, List.getElem?_eq_getElem hlt⟩
  obtain ⟨x1, y1, r1, p1⟩ := hbd y (List.mem_of_getElem? hy)
  refine skp ?_
  refine blk ?_
  refine rdh (n := 19) hp mixed rfl ?_
  have hp := hp.drew
  refine tkm 0 h rfl hp rfl fun a h => ?_
  refine tkm 1 h rfl hp rfl fun a h => ?_
  refine tkq 2 h rfl hp (fun W hp => iadR (k) h rfl rfl Tryz.underlying37 sz51 (hR.keep (by decide) hp cl0) (rfl) (hlt)) fun a h => ?_
  refine tkq 3 h rfl hp (fun W _ => fad h rfl fo51_1) fun a h => ?_
  refine tkq 4 h rfl hp (fun W hp => ldF 1 h (hR.keep (by decide) hp cl0) hy rfl ag3 rfl) fun a h => ?_
  refine tkq 5 h rfl hp (fun W _ => neg h rfl (by omega)) fun a h => ?_
  refine tkm 6 h rfl hp rfl fun a h => ?_
  refine tkm 7 h rfl hp rfl fun a h => ?_
  refine tkq 8 h rfl hp (fun W hp => iadR (k) h rfl rfl Tryz.underlying37 sz51 (hR.keep (by decide) hp cl0) (rfl) (hlt)) fun a h => ?_
  refine tkq 9 h rfl hp (fun W _ => fad h rfl fo51_0) fun a h => ?_
  refine tkq 10 h rfl hp (fun W hp => ldF 0 h (hR.keep (by decide) hp cl0) hy rfl ag3 rfl) fun a h => ?_
  refine tkm 11 h rfl hp rfl fun a h => ?_
  refine tkm 12 h rfl hp rfl fun a h => ?_
  refine tkq 13 h rfl hp (fun W hp => iadR (k) h rfl rfl Tryz.underlying37 sz51 (hR.keep (by decide) hp cl0) (rfl) (hlt)) fun a h => ?_
  refine tkq 14 h rfl hp (fun W _ => fad h rfl fo51_2) fun a h => ?_
  refine tkq 15 h rfl hp (fun W hp => ldF 2 h (hR.keep (by decide) hp cl0) hy rfl ag3 rfl) fun a h => ?_
  refine tkq 16 h rfl hp (fun W _ => bld h rfl (bl51_0_1_2 _ _ _ _)) fun a h => ?_
  refine one 17 (by kernel_rfl) rfl (all h hp zc51 fun a w2 g1 hg1 h hp => ⟨((hp).pre 1 rfl), ?_⟩)
  refine one 18 (by kernel_rfl) rfl (sta h hp rfl rfl 1 rfl sz51 rfl rfl fun w3 hp => ⟨((hp).pre 1 rfl), ?_⟩)
  refine dn (by kernel_rfl) ?_
  refine wp_seq ?_
  refine rg ?_
  refine wmv h rfl fun a h => ?_
  refine wn ?_
  refine cnd1 h rfl (fun hb2 => ?_) (fun hb2 => ?_)
  ·have hmi : mi = true := hb2
   refine rdh1 (n := 18) ((hp).pick [0] (by decide) rfl) mixed rfl ?_
   have hp := hp.drew
   refine tkm 0 h rfl ((hp).pick [0] (by decide) rfl) rfl fun a h => ?_
   refine tkm 1 h rfl ((hp).pick [0] (by decide) rfl) rfl fun a h => ?_
   refine tkq 2 h rfl ((hp).pick [0] (by decide) rfl) (fun W hp => iadR (k) h rfl rfl Tryz.underlying37 sz51 (hR.keep (by decide) hp cl0) (rfl) (hlt)) fun a h => ?_
   refine tkq 3 h rfl ((hp).pick [0] (by decide) rfl) (fun W _ => fad h rfl fo51_0) fun a h => ?_
   refine tkq 4 h rfl ((hp).pick [0] (by decide) rfl) (fun W hp => ldF 0 h (hR.keep (by decide) hp cl0) hy rfl ag3 rfl) fun a h => ?_
   refine tkm 5 h rfl ((hp).pick [0] (by decide) rfl) rfl fun a h => ?_
   refine tkm 6 h rfl ((hp).pick [0] (by decide) rfl) rfl fun a h => ?_
   refine tkq 7 h rfl ((hp).pick [0] (by decide) rfl) (fun W hp => iadR (k) h rfl rfl Tryz.underlying37 sz51 (hR.keep (by decide) hp cl0) (rfl) (hlt)) fun a h => ?_
   refine tkq 8 h rfl ((hp).pick [0] (by decide) rfl) (fun W _ => fad h rfl fo51_1) fun a h => ?_
   refine tkq 9 h rfl ((hp).pick [0] (by decide) rfl) (fun W hp => ldF 1 h (hR.keep (by decide) hp cl0) hy rfl ag3 rfl) fun a h => ?_
   refine tkq 10 h rfl ((hp).pick [0] (by decide) rfl) (fun W _ => neg h rfl (by omega)) fun a h => ?_
   refine tkm 11 h rfl ((hp).pick [0] (by decide) rfl) rfl fun a h => ?_
   refine tkm 12 h rfl ((hp).pick [0] (by decide) rfl) rfl fun a h => ?_
   refine tkq 13 h rfl ((hp).pick [0] (by decide) rfl) (fun W hp => iadR (k) h rfl rfl Tryz.underlying37 sz51 (hR.keep (by decide) hp cl0) (rfl) (hlt)) fun a h => ?_
   refine tkq 14 h rfl ((hp).pick [0] (by decide) rfl) (fun W _ => fad h rfl fo51_2) fun a h => ?_
   refine tkq 15 h rfl ((hp).pick [0] (by decide) rfl) (fun W hp => ldF 2 h (hR.keep (by decide) hp cl0) hy rfl ag3 rfl) fun a h => ?_
   refine tkq 16 h rfl ((hp).pick [0] (by decide) rfl) (fun W _ => bld h rfl (bl51_0_1_2 _ _ _ _)) fun a h => ?_
   refine one 17 (by kernel_rfl) rfl (sta h hp rfl rfl 1 rfl sz51 rfl rfl fun w4 hp => ⟨((hp).pick [0] (by decide) rfl), ?_⟩)
   refine dn (by kernel_rfl) ?_
   refine rg1 ?_
   refine wmv h rfl fun a h => ?_
   refine wvl h (ldO (us := [_, _, _]) h hp rfl 1 rfl sz51 rfl ag51) fun a h => ?_
   refine wl (bsl h hp rfl (bs37_1_0 _ _ _) fun a w5 g2 hg2 h hp => ?_)
   refine wl (app1 0 h hp rfl rfl rfl ap37 2 rfl rfl rfl (by omega) (by omega) fun a w6 v h hp => ?_)
   refine wsg h rfl fun a h => ?_
   refine wn' ?_
   try simp only [xqs, ↓reduceIte, Nat.reduceEqDiff]
   refine rg1 ?_
   refine wmv h rfl fun a h => ?_
   refine wvl h (add h rfl rfl (by omega)) fun a h => ?_
   refine wsn h rfl fun a h => ?_
   exact ⟨_, _, (by omega), ⟨k + 1, _, by omega, rfl, rfl, hp.pre 1 (by rw [take_snoc hy, List.map_append, List.flatMap_append]; simp [encL, turnF, hmi, turnB, mirrB]), trivial⟩, h.sub ⟨rfl, rfl, rfl, rfl, rfl, trivial⟩⟩
  have hmi : mi = false := hb2
  refine skp ?_
  refine rg1 ?_
  refine wmv h rfl fun a h => ?_
  refine wvl h (ldO (us := [_, _, _]) h hp rfl 1 rfl sz51 rfl ag51) fun a h => ?_
  refine wl (bsl h hp rfl (bs37_1_0 _ _ _) fun a w7 g3 hg3 h hp => ?_)
  refine wl (app1 0 h hp rfl rfl rfl ap37 2 rfl rfl rfl (by omega) (by omega) fun a w8 v h hp => ?_)
  refine wsg h rfl fun a h => ?_
  refine wn' ?_
  try simp only [xqs, ↓reduceIte, Nat.reduceEqDiff]
  refine rg1 ?_
  refine wmv h rfl fun a h => ?_
  refine wvl h (add h rfl rfl (by omega)) fun a h => ?_
  refine wsn h rfl fun a h => ?_
  exact ⟨_, _, (by omega), ⟨k + 1, _, by omega, rfl, rfl, hp.pre 1 (by rw [take_snoc hy, List.map_append, List.flatMap_append]; simp [encL, turnF, hmi, turnB, mirrB]), trivial⟩, h.sub ⟨rfl, rfl, rfl, rfl, rfl, trivial⟩⟩
 have hend : k = l.length := by have := of_decide_eq_false hb1; omega
 subst hend
 rw [List.take_length] at hp
 refine wp_exit ?_
 try simp only [xqs, ↓reduceIte, Nat.reduceEqDiff]
 refine rg ?_
 refine wmv h rfl fun a h => ?_
 refine wsn h rfl fun a h => ?_
 refine wp_ret ?_
 try simp only [xqs]
 refine rt_1 h rfl (rvT h rfl) ?_
 exact ⟨_, rfl, ⟨s1, rfl, hp.frB (i := 0) rfl rfl (by simp) (fun _ _ => rfl)⟩, hp.bel⟩
set_option maxHeartbeats 2000000 in
theorem meets_L (d1 : Ball) (x y : Int) (ins : Bool) (w : World) (hb : BallBd d1) (hx : -1000 ≤ x ∧ x ≤ 1000) (hy : -1000 ≤ y ∧ y ≤ 1000) : Ret Tryz.prog 27 #[.agg #[.int .i64 d1.x, .int .i64 d1.y, .int .i64 d1.r], .int .i64 x, .int .i64 y, .bool ins] w fun u w' => u = .bool (meetsB d1 x y ins) ∧ Below w.heap.size w w' := by
 have m1 := mul_bd3 (x := d1.x) (y := y) (m := 100) (n := 1000) hb.x hy
 have m2 := mul_bd3 (x := d1.y) (y := x) (m := 100) (n := 1000) hb.y hx
 have m3 := mul_bd3 (x := d1.x) (y := x) (m := 100) (n := 1000) hb.x hx
 have m4 := mul_bd3 (x := d1.y) (y := y) (m := 100) (n := 1000) hb.y hy
 have m5 := sq_bd (m := 200000) (x := d1.x * y - d1.y * x) (by omega)
 have m6 := sq_bd (m := 1000) hx
 have m7 := sq_bd (m := 1000) hy
 have m8 := sq_bd (m := 20) (x := d1.r) (by have := hb.r; omega)
 have m9 := mul_bd3 (x := d1.r * d1.r) (y := x * x + y * y) (m := 400) (n := 2000000) (by omega) (by omega)
 have hp : Hp c0 w w [] := Hp.start trivial
 refine enter Tryz.func27 rfl (N := 63) rfl rfl fun a h => ?_
 refine rg ?_
 refine wl (box (cs := #[_, _, _]) h hp rfl rfl fun a w1 g1 hg1 h hp => ?_)
 refine wsn h rfl fun a h => ?_
 refine rdh (n := 20) hp mixed rfl ?_
 have hp := hp.drew
 refine tkq 0 h rfl hp (fun W _ => fad h rfl fo51_0) fun a h => ?_
 refine tkq 1 h rfl hp (fun W hp => ldo h hp rfl 0 rfl rfl ag3) fun a h => ?_
 refine tkm 2 h rfl hp rfl fun a h => ?_
 refine tkq 3 h rfl hp (fun W _ => mul h rfl rfl (by omega)) fun a h => ?_
 refine tkq 4 h rfl hp (fun W _ => fad h rfl fo51_1) fun a h => ?_
 refine tkq 5 h rfl hp (fun W hp => ldo h hp rfl 0 rfl rfl ag3) fun a h => ?_
 refine tkm 6 h rfl hp rfl fun a h => ?_
 refine tkq 7 h rfl hp (fun W _ => mul h rfl rfl (by omega)) fun a h => ?_
 refine tkq 8 h rfl hp (fun W _ => sub h rfl rfl (by omega)) fun a h => ?_
 refine tkq 9 h rfl hp (fun W _ => fad h rfl fo51_0) fun a h => ?_
 refine tkq 10 h rfl hp (fun W hp => ldo h hp rfl 0 rfl rfl ag3) fun a h => ?_
 refine tkm 11 h rfl hp rfl fun a h => ?_
 refine tkq 12 h rfl hp (fun W _ => mul h rfl rfl (by omega)) fun a h => ?_
 refine tkq 13 h rfl hp (fun W _ => fad h rfl fo51_1) fun a h => ?_
 refine tkq 14 h rfl hp (fun W hp => ldo h hp rfl 0 rfl rfl ag3) fun a h => ?_
 refine tkm 15 h rfl hp rfl fun a h => ?_
 refine tkq 16 h rfl hp (fun W _ => mul h rfl rfl (by omega)) fun a h => ?_
 refine tkq 17 h rfl hp (fun W _ => add h rfl rfl (by omega)) fun a h => ?_
 refine tka 18 h rfl hp rfl fun a h => ?_
 refine tka 19 h rfl hp rfl fun a h => ?_
 refine dn (by kernel_rfl) ?_
 refine rdh (n := 18) hp mixed rfl ?_
 have hp := hp.drew
 refine tkm 0 h rfl hp rfl fun a h => ?_
 refine tkm 1 h rfl hp rfl fun a h => ?_
 refine tkq 2 h rfl hp (fun W _ => mul h rfl rfl (by omega)) fun a h => ?_
 refine tkq 3 h rfl hp (fun W _ => fad h rfl fo51_2) fun a h => ?_
 refine tkq 4 h rfl hp (fun W hp => ldo h hp rfl 0 rfl rfl ag3) fun a h => ?_
 refine tkq 5 h rfl hp (fun W _ => fad h rfl fo51_2) fun a h => ?_
 refine tkq 6 h rfl hp (fun W hp => ldo h hp rfl 0 rfl rfl ag3) fun a h => ?_
 refine tkq 7 h rfl hp (fun W _ => mul h rfl rfl (by omega)) fun a h => ?_
 refine tkm 8 h rfl hp rfl fun a h => ?_
 refine tkm 9 h rfl hp rfl fun a h => ?_
 refine tkq 10 h rfl hp (fun W _ => mul h rfl rfl (by omega)) fun a h => ?_
 refine tkm 11 h rfl hp rfl fun a h => ?_
 refine tkm 12 h rfl hp rfl fun a h => ?_
 refine tkq 13 h rfl hp (fun W _ => mul h rfl rfl (by omega)) fun a h => ?_
 refine tkq 14 h rfl hp (fun W _ => add h rfl rfl (by omega)) fun a h => ?_
 refine tkq 15 h rfl hp (fun W _ => mul h rfl rfl (by omega)) fun a h => ?_
 refine tka 16 h rfl hp rfl fun a h => ?_
 refine tka 17 h rfl hp rfl fun a h => ?_
 refine dn (by kernel_rfl) ?_
 refine rg ?_
 refine wmv h rfl fun a h => ?_
 refine wvl h (gtr h rfl rfl) fun a h => ?_
 refine wmv h rfl fun a h => ?_
 refine split (t := 49) h rfl (fun hb1 => ?_) (fun hb1 => ?_)
 ·refine wl (stp_on h rfl rfl rfl hb1 (vl h (mov h rfl) fun a h => ?_))
  refine wl (stp_on h rfl rfl rfl hb1 (vl h (mov h rfl) fun a h => ?_))
  refine wl (stp_on h rfl rfl rfl hb1 (vl h (lss h rfl rfl) fun a h => ?_))
  refine wl (stp_on h rfl rfl rfl hb1 (vl h (mov h rfl) fun a h => ?_))
  refine split (t := 53) h rfl (fun hb2 => ?_) (fun hb2 => ?_)
  ·refine wl (stp_off h rfl rfl rfl rfl rfl hb2 fun a h => ?_)
   refine wl (stp_off h rfl rfl rfl rfl rfl hb2 fun a h => ?_)
   refine wl (stp_off h rfl rfl rfl rfl rfl hb2 fun a h => ?_)
   refine wl (stp_off h rfl rfl rfl rfl rfl hb2 fun a h => ?_)
   refine wl (stp_un h rfl rfl rfl rfl rfl fun a h => ?_)
   refine wl (stp_un h rfl rfl rfl rfl rfl fun a h => ?_)
   refine wl (stp_off h rfl rfl rfl rfl rfl hb2 fun a h => ?_)
   refine wl (stp_on h rfl rfl rfl hb1 (vl h (pckT h rfl hb2 rfl) fun a h => ?_))
   refine wvl h (pckT h rfl hb1 rfl) fun a h => ?_
   refine wsn h rfl fun a h => ?_
   refine wp_ret ?_
   try simp only [xqs]
   refine rt_1 h rfl (rvT h rfl) ?_
   exact ⟨_, rfl, by unfold meetsB dotP crossP; simp only [hb1, hb2, Bool.true_and, Bool.false_and, Bool.and_true, Bool.and_false, Bool.or_true, Bool.true_or, Bool.or_false, Bool.false_or, Bool.not_true, Bool.not_false], hp.bel⟩
  refine wl (stp_on h rfl rfl rfl hb2 (vl h (mov h rfl) fun a h => ?_))
  refine wl (stp_on h rfl rfl rfl hb2 (vl h (mov h rfl) fun a h => ?_))
  refine wl (stp_on h rfl rfl rfl hb2 (vl h (eqi h rfl rfl) fun a h => ?_))
  refine wl (stp_on h rfl rfl rfl hb2 (vl h (mov h rfl) fun a h => ?_))
  refine split (t := 57) h rfl (fun hb3 => ?_) (fun hb3 => ?_)
  ·refine wl (stp_on h rfl rfl rfl hb3 (vl h (mov h rfl) fun a h => ?_))
   refine wl (stp_on h rfl rfl rfl hb3 (vl h (not_ h rfl) fun a h => ?_))
   refine wl (stp_on h rfl rfl rfl hb2 (vl h (pckT h rfl hb3 rfl) fun a h => ?_))
   refine wl (stp_on h rfl rfl rfl hb1 (vl h (pckF h rfl hb2 rfl) fun a h => ?_))
   refine wvl h (pckT h rfl hb1 rfl) fun a h => ?_
   refine wsn h rfl fun a h => ?_
   refine wp_ret ?_
   try simp only [xqs]
   refine rt_1 h rfl (rvT h rfl) ?_
   exact ⟨_, rfl, by unfold meetsB dotP crossP; simp only [hb1, hb2, hb3, Bool.true_and, Bool.false_and, Bool.and_true, Bool.and_false, Bool.or_true, Bool.true_or, Bool.or_false, Bool.false_or, Bool.not_true, Bool.not_false], hp.bel⟩
  refine wl (stp_off h rfl rfl rfl rfl rfl hb3 fun a h => ?_)
  refine wl (stp_off h rfl rfl rfl rfl rfl hb3 fun a h => ?_)
  refine wl (stp_on h rfl rfl rfl hb2 (vl h (pckF h rfl hb3 rfl) fun a h => ?_))
  refine wl (stp_on h rfl rfl rfl hb1 (vl h (pckF h rfl hb2 rfl) fun a h => ?_))
  refine wvl h (pckT h rfl hb1 rfl) fun a h => ?_
  refine wsn h rfl fun a h => ?_
  refine wp_ret ?_
  try simp only [xqs]
  refine rt_1 h rfl (rvT h rfl) ?_
  exact ⟨_, rfl, by unfold meetsB dotP crossP; simp only [hb1, hb2, hb3, Bool.true_and, Bool.false_and, Bool.and_true, Bool.and_false, Bool.or_true, Bool.true_or, Bool.or_false, Bool.false_or, Bool.not_true, Bool.not_false], hp.bel⟩
 refine wl (stp_off h rfl rfl rfl rfl rfl hb1 fun a h => ?_)
 refine wl (stp_off h rfl rfl rfl rfl rfl hb1 fun a h => ?_)
 refine wl (stp_off h rfl rfl rfl rfl rfl hb1 fun a h => ?_)
 refine wl (stp_off h rfl rfl rfl rfl rfl hb1 fun a h => ?_)
 refine wl (stp_un h rfl rfl rfl rfl rfl fun a h => ?_)
 refine wl (stp_un h rfl rfl rfl rfl rfl fun a h => ?_)
 refine wl (stp_un h rfl rfl rfl rfl rfl fun a h => ?_)
 refine wl (stp_un h rfl rfl rfl rfl rfl fun a h => ?_)
 refine wl (stp_un h rfl rfl rfl rfl rfl fun a h => ?_)
 refine wl (stp_un h rfl rfl rfl rfl rfl fun a h => ?_)
 refine wl (stp_un h rfl rfl rfl rfl rfl fun a h => ?_)
 refine wl (stp_off h rfl rfl rfl rfl rfl hb1 fun a h => ?_)
 refine wvl h (pckF h rfl hb1 rfl) fun a h => ?_
 refine wsn h rfl fun a h => ?_
 refine wp_ret ?_
 try simp only [xqs]
 refine rt_1 h rfl (rvT h rfl) ?_
 exact ⟨_, rfl, by unfold meetsB dotP crossP; simp only [hb1, Bool.true_and, Bool.false_and, Bool.and_true, Bool.and_false, Bool.or_true, Bool.true_or, Bool.or_false, Bool.false_or, Bool.not_true, Bool.not_false], hp.bel⟩
end Go.Proofs.Ec
