import Derived.Test.YtobofnkmbpfoiabGreatDoorProg
import Derived.Test.YtobofnkmbpfoiabGreatDoorPFa
import Derived.Test.YtobofnkmbpfoiabGreatDoorPQb
import Derived.Test.YtobofnkmbpfoiabGreatDoorPW53
import Derived.Test.YtobofnkmbpfoiabGreatDoorPBa
set_option linter.unusedVariables false
set_option linter.unusedSimpArgs false
set_option maxRecDepth 4000
namespace Go.Proofs.Ec
open Go.RowKit Go.Proofs.Sx
open Ecl
theorem putB {l : List Ball} {d : Ball} {q : Int} (h1 : q.toNat < l.length) : putL ([] ++ l.flatMap encL) (0 + q.toNat * 3) (encL d) = (l.set q.toNat d).flatMap encL := by
 rw [List.nil_append, Nat.zero_add]
 exact putL_flat q.toNat (fun _ _ => rfl) rfl h1
theorem one_encL : ∀ y : Ball, ∀ u ∈ encL y, u.oneCell' = true := by
 intro y u hu
 simp only [encL, List.mem_cons, List.not_mem_nil, or_false] at hu
 rcases hu with rfl | rfl | rfl <;> rfl
theorem bad4 {a b c d : Bool} (h1 : (!a) = false) (h2 : (!b) = false) (h3 : (!c) = false) (h4 : d = false) : ¬ ((a && b && c && !d) = false) := by
 cases a <;> cases b <;> cases c <;> cases d <;> simp_all
theorem nb_set {l : List Ball} {p r : Int} {d : Ball} (h : isBalls (l.set p.toNat d) = true) (h1 : inR p 0 ((l.length : Int) - 1) = true) (h2 : inR r 0 ((l.length : Int) - 1) = true) (h3 : p ≠ r) : (isBalls (l.set p.toNat d) && inR p 0 (((l.set p.toNat d).length : Int) - 1) && inR r 0 (((l.set p.toNat d).length : Int) - 1) && !decide (p = r)) = true := nb_of h (by rw [List.length_set]; exact h1) (by rw [List.length_set]; exact h2) h3
theorem setB_bd {l : List Ball} {k : Nat} {d : Ball} (h : isBalls (l.set k d) = true) (hk : k < l.length) : BallBd d := balls_bd h d (List.mem_of_getElem? (i := k) (by rw [List.getElem?_set_self hk]))
theorem Put_R (s : SV) (l : List Ball) (q : Int) (d1 : Ball) (w : World) (hR : Rd w encL 3 s.v l) (h0 : 0 ≤ q) (h1 : q.toNat < l.length) (hl : l.length ≤ 8) : Ret Tryz.prog 28 #[s.v, .int .i64 q, .agg #[.int .i64 d1.x, .int .i64 d1.y, .int .i64 d1.r]] w fun u w' => (∃ s' : SV, u = s'.v ∧ Fr w w' encL 3 s'.v (l.set q.toNat d1)) ∧ Below w.heap.size w w' := by
 have hfit := hR.fits
 obtain ⟨cp, hcp⟩ := hR.slice h1
 have hp : Hp c0 w w [] := Hp.start trivial
 refine enter Tryz.func28 rfl (N := 15) rfl rfl fun a h => ?_
 refine rg ?_
 refine wl (box (cs := #[_, _, _]) h hp rfl rfl fun a w1 g1 hg1 h hp => ?_)
 refine wsn h rfl fun a h => ?_
 refine rg ?_
 refine wmv h rfl fun a h => ?_
 have hp := hp.nilB 51 3
 refine wl (appR 1 h hp rfl rfl rfl ap37 (hR.keep (by decide) hp cl0) hcp one_encL (by omega) (by omega) fun a w91 r9 h hp => ?_)
 obtain ⟨g9, cap9, hv9⟩ := hp.bufAt (i := 1) rfl (by omega)
 rw [hv9] at h hp
 refine wsn h rfl fun a h => ?_
 refine rg ?_
 refine wm2 h rfl rfl rfl rfl fun a h => ?_
 refine wvl h (ldO (us := [_, _, _]) h hp rfl 0 rfl sz51 rfl ag51) fun a h => ?_
 refine wvl h (iad h rfl rfl Tryz.underlying37 sz51 (by omega) (by omega)) fun a h => ?_
 refine wl (stB h hp rfl rfl 1 rfl sz51 (by show 0 + q.toNat * 3 + 3 ≤ (0 + l.length) * 3; omega) rfl fun w92 hp => ?_)
 refine wn ?_
 refine rg ?_
 refine wmv h rfl fun a h => ?_
 refine wsn h rfl fun a h => ?_
 refine wp_ret ?_
 try simp only [xqs]
 refine rt_1 h rfl (rvT h rfl) ?_
 exact ⟨_, rfl, ⟨⟨some ⟨g9, 0, none⟩, 0 + l.length, cap9⟩, rfl, hp.frB (i := 1) rfl (putB h1) (by rw [List.length_set, Nat.zero_add]) (fun _ _ => rfl)⟩, hp.bel⟩
theorem EclipseBigger_b (s : SV) (l : List Ball) (p r m : Int) (w : World) (hR : Rd w encL 3 s.v l) (hGl : Glb w) (hbad : (isBalls l && inR p 0 ((l.length : Int) - 1) && inR r 0 ((l.length : Int) - 1) && !decide (p = r)) = false) : Ret Tryz.prog 8 #[s.v, .int .i64 p, .int .i64 r, .int .i64 m] w fun u w' => u = .bool true ∧ Below w.heap.size w w' := by
 have hfit := hR.fits
 have hp : Hp c0 w w [] := Hp.start trivial
 refine enter Tryz.func8 rfl (N := 113) rfl rfl fun a h => ?_
 refine rg ?_
 refine wsn h rfl fun a h => ?_
 refine wp_seq ?_
 refine rdh (n := 45) hp mixed rfl ?_
 have hp := hp.drew
 refine tkm 0 h rfl hp rfl fun a h => ?_
 refine tkq 1 h rfl hp (fun W hp => lenR h rfl Tryz.underlying37 (hR.keep (by decide) hp cl0)) fun a h => ?_
 refine tkq 2 h rfl hp (fun W _ => gtr h rfl rfl) fun a h => ?_
 refine tkm 3 h rfl hp rfl fun a h => ?_
 refine split (t := 17) h rfl (fun hb1 => ?_) (fun hb1 => ?_)
 ·refine tkG 4 h rfl hp rfl rfl rfl hb1 fun a h => ?_
  refine tkG 5 h rfl hp rfl rfl rfl hb1 fun a h => ?_
  refine tkG 6 h rfl hp rfl rfl rfl hb1 fun a h => ?_
  refine tkq 7 h rfl hp (fun W _ => pckT h rfl hb1 rfl) fun a h => ?_
  refine tkm 8 h rfl hp rfl fun a h => ?_
  refine tkG 9 h rfl hp rfl rfl rfl rfl fun a h => ?_
  refine tkG 10 h rfl hp rfl rfl rfl rfl fun a h => ?_
  refine tkG 11 h rfl hp rfl rfl rfl rfl fun a h => ?_
  refine tkG 12 h rfl hp rfl rfl rfl rfl fun a h => ?_
  refine tkq 13 h rfl hp (fun W _ => pckT h rfl rfl rfl) fun a h => ?_
  refine tkm 14 h rfl hp rfl fun a h => ?_
  refine tkG 15 h rfl hp rfl rfl rfl rfl fun a h => ?_
  refine tkG 16 h rfl hp rfl rfl rfl rfl fun a h => ?_
  refine tkG 17 h rfl hp rfl rfl rfl rfl fun a h => ?_
  refine tkG 18 h rfl hp rfl rfl rfl rfl fun a h => ?_
  refine tkq 19 h rfl hp (fun W _ => pckT h rfl rfl rfl) fun a h => ?_
  refine tkm 20 h rfl hp rfl fun a h => ?_
  refine tkG 21 h rfl hp rfl rfl rfl rfl fun a h => ?_
  refine tkG 22 h rfl hp rfl rfl rfl rfl fun a h => ?_
  refine tkG 23 h rfl hp rfl rfl rfl rfl fun a h => ?_
  refine tkq 24 h rfl hp (fun W _ => pckT h rfl rfl rfl) fun a h => ?_
  refine tkm 25 h rfl hp rfl fun a h => ?_
  refine tkG 26 h rfl hp rfl rfl rfl rfl fun a h => ?_
  refine tkG 27 h rfl hp rfl rfl rfl rfl fun a h => ?_
  refine tkG 28 h rfl hp rfl rfl rfl rfl fun a h => ?_
  refine tkG 29 h rfl hp rfl rfl rfl rfl fun a h => ?_
  refine tkG 30 h rfl hp rfl rfl rfl rfl fun a h => ?_
  refine tkG 31 h rfl hp rfl rfl rfl rfl fun a h => ?_
  refine tkG 32 h rfl hp rfl rfl rfl rfl fun a h => ?_
  refine tkG 33 h rfl hp rfl rfl rfl rfl fun a h => ?_
  refine tkG 34 h rfl hp rfl rfl rfl rfl fun a h => ?_
  refine tkG 35 h rfl hp rfl rfl rfl rfl fun a h => ?_
  refine tkq 36 h rfl hp (fun W _ => pckT h rfl rfl rfl) fun a h => ?_
  refine tkm 37 h rfl hp rfl fun a h => ?_
  refine tkG 38 h rfl hp rfl rfl rfl rfl fun a h => ?_
  refine tkG 39 h rfl hp rfl rfl rfl rfl fun a h => ?_
  refine tkq 40 h rfl hp (fun W _ => pckT h rfl rfl rfl) fun a h => ?_
  refine tkm 41 h rfl hp rfl fun a h => ?_
  refine tkG 42 h rfl hp rfl rfl rfl rfl fun a h => ?_
  refine tkG 43 h rfl hp rfl rfl rfl rfl fun a h => ?_
  refine tkq 44 h rfl hp (fun W _ => pckT h rfl rfl rfl) fun a h => ?_
  refine dn (by kernel_rfl) ?_
  refine cnd1 h rfl (fun _ => ?_) (fun e => nomatch e)
  refine rg ?_
  refine wl (cal h rfl en10 (known_L _ (hGl.keep hp)) fun u w1 ⟨e1, e2⟩ a h => ?_)
  subst e1
  have hp := hp.below e2
  refine wsn h rfl fun a h => ?_
  refine wp_ret ?_
  try simp only [xqs]
  refine rt_1 h rfl (rvT h rfl) ?_
  exact ⟨_, rfl, rfl, hp.bel⟩
 refine tk_on 4 h rfl (by kernel_rfl) (fun _ _ _ q => q) hp rfl rfl rfl rfl rfl hb1 (fun W _ => mov h rfl) fun a h => ?_
 refine one 5 (by kernel_rfl) rfl (stp_on h rfl rfl rfl hb1 (cal h rfl en20 (Balls_R _ _ _ (hR.keep (by decide) hp cl0)) fun u w2 ⟨e1, e2⟩ a h => ⟨hp.below e2, ?_⟩))
 subst e1
 have hp := hp.below e2
 refine tk_on 6 h rfl (by kernel_rfl) (fun _ _ _ q => q) hp rfl rfl rfl rfl rfl hb1 (fun W _ => not_ h rfl) fun a h => ?_
 refine tkq 7 h rfl hp (fun W _ => pckF h rfl hb1 rfl) fun a h => ?_
 refine tkm 8 h rfl hp rfl fun a h => ?_
 refine split (t := 22) h rfl (fun hb2 => ?_) (fun hb2 => ?_)
 ·refine tkG 9 h rfl hp rfl rfl rfl hb2 fun a h => ?_
  refine tkG 10 h rfl hp rfl rfl rfl hb2 fun a h => ?_
  refine tkG 11 h rfl hp rfl rfl rfl hb2 fun a h => ?_
  refine tkG 12 h rfl hp rfl rfl rfl hb2 fun a h => ?_
  refine tkq 13 h rfl hp (fun W _ => pckT h rfl hb2 rfl) fun a h => ?_
  refine tkm 14 h rfl hp rfl fun a h => ?_
  refine tkG 15 h rfl hp rfl rfl rfl rfl fun a h => ?_
  refine tkG 16 h rfl hp rfl rfl rfl rfl fun a h => ?_
  refine tkG 17 h rfl hp rfl rfl rfl rfl fun a h => ?_
  refine tkG 18 h rfl hp rfl rfl rfl rfl fun a h => ?_
  refine tkq 19 h rfl hp (fun W _ => pckT h rfl rfl rfl) fun a h => ?_
  refine tkm 20 h rfl hp rfl fun a h => ?_
  refine tkG 21 h rfl hp rfl rfl rfl rfl fun a h => ?_
  refine tkG 22 h rfl hp rfl rfl rfl rfl fun a h => ?_
  refine tkG 23 h rfl hp rfl rfl rfl rfl fun a h => ?_
  refine tkq 24 h rfl hp (fun W _ => pckT h rfl rfl rfl) fun a h => ?_
  refine tkm 25 h rfl hp rfl fun a h => ?_
  refine tkG 26 h rfl hp rfl rfl rfl rfl fun a h => ?_
  refine tkG 27 h rfl hp rfl rfl rfl rfl fun a h => ?_
  refine tkG 28 h rfl hp rfl rfl rfl rfl fun a h => ?_
  refine tkG 29 h rfl hp rfl rfl rfl rfl fun a h => ?_
  refine tkG 30 h rfl hp rfl rfl rfl rfl fun a h => ?_
  refine tkG 31 h rfl hp rfl rfl rfl rfl fun a h => ?_
  refine tkG 32 h rfl hp rfl rfl rfl rfl fun a h => ?_
  refine tkG 33 h rfl hp rfl rfl rfl rfl fun a h => ?_
  refine tkG 34 h rfl hp rfl rfl rfl rfl fun a h => ?_
  refine tkG 35 h rfl hp rfl rfl rfl rfl fun a h => ?_
  refine tkq 36 h rfl hp (fun W _ => pckT h rfl rfl rfl) fun a h => ?_
  refine tkm 37 h rfl hp rfl fun a h => ?_
  refine tkG 38 h rfl hp rfl rfl rfl rfl fun a h => ?_
  refine tkG 39 h rfl hp rfl rfl rfl rfl fun a h => ?_
  refine tkq 40 h rfl hp (fun W _ => pckT h rfl rfl rfl) fun a h => ?_
  refine tkm 41 h rfl hp rfl fun a h => ?_
  refine tkG 42 h rfl hp rfl rfl rfl rfl fun a h => ?_
  refine tkG 43 h rfl hp rfl rfl rfl rfl fun a h => ?_
  refine tkq 44 h rfl hp (fun W _ => pckT h rfl rfl rfl) fun a h => ?_
  refine dn (by kernel_rfl) ?_
  refine cnd1 h rfl (fun _ => ?_) (fun e => nomatch e)
  refine rg ?_
  refine wl (cal h rfl en10 (known_L _ (hGl.keep hp)) fun u w3 ⟨e1, e2⟩ a h => ?_)
  subst e1
  have hp := hp.below e2
  refine wsn h rfl fun a h => ?_
  refine wp_ret ?_
  try simp only [xqs]
  refine rt_1 h rfl (rvT h rfl) ?_
  exact ⟨_, rfl, rfl, hp.bel⟩
 have hn1 := hb2
 refine tk_on 9 h rfl (by kernel_rfl) (fun _ _ _ q => q) hp rfl rfl rfl rfl rfl hb2 (fun W _ => mov h rfl) fun a h => ?_
 refine tk_on 10 h rfl (by kernel_rfl) (fun _ _ _ q => q) hp rfl rfl rfl rfl rfl hb2 (fun W _ => mov h rfl) fun a h => ?_
 refine one 11 (by kernel_rfl) rfl (stp_on h rfl rfl rfl hb2 (cal h rfl en23 (Ball_R _ _ _ _ (hR.keep (by decide) hp cl0)) fun u w4 ⟨e1, e2⟩ a h => ⟨hp.below e2, ?_⟩))
 subst e1
 have hp := hp.below e2
 refine tk_on 12 h rfl (by kernel_rfl) (fun _ _ _ q => q) hp rfl rfl rfl rfl rfl hb2 (fun W _ => not_ h rfl) fun a h => ?_
 refine tkq 13 h rfl hp (fun W _ => pckF h rfl hb2 rfl) fun a h => ?_
 refine tkm 14 h rfl hp rfl fun a h => ?_
 refine split (t := 28) h rfl (fun hb3 => ?_) (fun hb3 => ?_)
 ·refine tkG 15 h rfl hp rfl rfl rfl hb3 fun a h => ?_
  refine tkG 16 h rfl hp rfl rfl rfl hb3 fun a h => ?_
  refine tkG 17 h rfl hp rfl rfl rfl hb3 fun a h => ?_
  refine tkG 18 h rfl hp rfl rfl rfl hb3 fun a h => ?_
  refine tkq 19 h rfl hp (fun W _ => pckT h rfl hb3 rfl) fun a h => ?_
  refine tkm 20 h rfl hp rfl fun a h => ?_
  refine tkG 21 h rfl hp rfl rfl rfl rfl fun a h => ?_
  refine tkG 22 h rfl hp rfl rfl rfl rfl fun a h => ?_
  refine tkG 23 h rfl hp rfl rfl rfl rfl fun a h => ?_
  refine tkq 24 h rfl hp (fun W _ => pckT h rfl rfl rfl) fun a h => ?_
  refine tkm 25 h rfl hp rfl fun a h => ?_
  refine tkG 26 h rfl hp rfl rfl rfl rfl fun a h => ?_
  refine tkG 27 h rfl hp rfl rfl rfl rfl fun a h => ?_
  refine tkG 28 h rfl hp rfl rfl rfl rfl fun a h => ?_
  refine tkG 29 h rfl hp rfl rfl rfl rfl fun a h => ?_
  refine tkG 30 h rfl hp rfl rfl rfl rfl fun a h => ?_
  refine tkG 31 h rfl hp rfl rfl rfl rfl fun a h => ?_
  refine tkG 32 h rfl hp rfl rfl rfl rfl fun a h => ?_
  refine tkG 33 h rfl hp rfl rfl rfl rfl fun a h => ?_
  refine tkG 34 h rfl hp rfl rfl rfl rfl fun a h => ?_
  refine tkG 35 h rfl hp rfl rfl rfl rfl fun a h => ?_
  refine tkq 36 h rfl hp (fun W _ => pckT h rfl rfl rfl) fun a h => ?_
  refine tkm 37 h rfl hp rfl fun a h => ?_
  refine tkG 38 h rfl hp rfl rfl rfl rfl fun a h => ?_
  refine tkG 39 h rfl hp rfl rfl rfl rfl fun a h => ?_
  refine tkq 40 h rfl hp (fun W _ => pckT h rfl rfl rfl) fun a h => ?_
  refine tkm 41 h rfl hp rfl fun a h => ?_
  refine tkG 42 h rfl hp rfl rfl rfl rfl fun a h => ?_
  refine tkG 43 h rfl hp rfl rfl rfl rfl fun a h => ?_
  refine tkq 44 h rfl hp (fun W _ => pckT h rfl rfl rfl) fun a h => ?_
  refine dn (by kernel_rfl) ?_
  refine cnd1 h rfl (fun _ => ?_) (fun e => nomatch e)
  refine rg ?_
  refine wl (cal h rfl en10 (known_L _ (hGl.keep hp)) fun u w5 ⟨e1, e2⟩ a h => ?_)
  subst e1
  have hp := hp.below e2
  refine wsn h rfl fun a h => ?_
  refine wp_ret ?_
  try simp only [xqs]
  refine rt_1 h rfl (rvT h rfl) ?_
  exact ⟨_, rfl, rfl, hp.bel⟩
 have hn2 := hb3
 refine tk_on 15 h rfl (by kernel_rfl) (fun _ _ _ q => q) hp rfl rfl rfl rfl rfl hb3 (fun W _ => mov h rfl) fun a h => ?_
 refine tk_on 16 h rfl (by kernel_rfl) (fun _ _ _ q => q) hp rfl rfl rfl rfl rfl hb3 (fun W _ => mov h rfl) fun a h => ?_
 refine one 17 (by kernel_rfl) rfl (stp_on h rfl rfl rfl hb3 (cal h rfl en23 (Ball_R _ _ _ _ (hR.keep (by decide) hp cl0)) fun u w6 ⟨e1, e2⟩ a h => ⟨hp.below e2, ?_⟩))
 subst e1
 have hp := hp.below e2
 refine tk_on 18 h rfl (by kernel_rfl) (fun _ _ _ q => q) hp rfl rfl rfl rfl rfl hb3 (fun W _ => not_ h rfl) fun a h => ?_
 refine tkq 19 h rfl hp (fun W _ => pckF h rfl hb3 rfl) fun a h => ?_
 refine tkm 20 h rfl hp rfl fun a h => ?_
 refine split (t := 34) h rfl (fun hb4 => ?_) (fun hb4 => ?_)
 ·refine tkG 21 h rfl hp rfl rfl rfl hb4 fun a h => ?_
  refine tkG 22 h rfl hp rfl rfl rfl hb4 fun a h => ?_
  refine tkG 23 h rfl hp rfl rfl rfl hb4 fun a h => ?_
  refine tkq 24 h rfl hp (fun W _ => pckT h rfl hb4 rfl) fun a h => ?_
  refine tkm 25 h rfl hp rfl fun a h => ?_
  refine tkG 26 h rfl hp rfl rfl rfl rfl fun a h => ?_
  refine tkG 27 h rfl hp rfl rfl rfl rfl fun a h => ?_
  refine tkG 28 h rfl hp rfl rfl rfl rfl fun a h => ?_
  refine tkG 29 h rfl hp rfl rfl rfl rfl fun a h => ?_
  refine tkG 30 h rfl hp rfl rfl rfl rfl fun a h => ?_
  refine tkG 31 h rfl hp rfl rfl rfl rfl fun a h => ?_
  refine tkG 32 h rfl hp rfl rfl rfl rfl fun a h => ?_
  refine tkG 33 h rfl hp rfl rfl rfl rfl fun a h => ?_
  refine tkG 34 h rfl hp rfl rfl rfl rfl fun a h => ?_
  refine tkG 35 h rfl hp rfl rfl rfl rfl fun a h => ?_
  refine tkq 36 h rfl hp (fun W _ => pckT h rfl rfl rfl) fun a h => ?_
  refine tkm 37 h rfl hp rfl fun a h => ?_
  refine tkG 38 h rfl hp rfl rfl rfl rfl fun a h => ?_
  refine tkG 39 h rfl hp rfl rfl rfl rfl fun a h => ?_
  refine tkq 40 h rfl hp (fun W _ => pckT h rfl rfl rfl) fun a h => ?_
  refine tkm 41 h rfl hp rfl fun a h => ?_
  refine tkG 42 h rfl hp rfl rfl rfl rfl fun a h => ?_
  refine tkG 43 h rfl hp rfl rfl rfl rfl fun a h => ?_
  refine tkq 44 h rfl hp (fun W _ => pckT h rfl rfl rfl) fun a h => ?_
  refine dn (by kernel_rfl) ?_
  refine cnd1 h rfl (fun _ => ?_) (fun e => nomatch e)
  refine rg ?_
  refine wl (cal h rfl en10 (known_L _ (hGl.keep hp)) fun u w7 ⟨e1, e2⟩ a h => ?_)
  subst e1
  have hp := hp.below e2
  refine wsn h rfl fun a h => ?_
  refine wp_ret ?_
  try simp only [xqs]
  refine rt_1 h rfl (rvT h rfl) ?_
  exact ⟨_, rfl, rfl, hp.bel⟩
 have hn3 := hb4
 refine tk_on 21 h rfl (by kernel_rfl) (fun _ _ _ q => q) hp rfl rfl rfl rfl rfl hb4 (fun W _ => mov h rfl) fun a h => ?_
 refine tk_on 22 h rfl (by kernel_rfl) (fun _ _ _ q => q) hp rfl rfl rfl rfl rfl hb4 (fun W _ => mov h rfl) fun a h => ?_
 refine tk_on 23 h rfl (by kernel_rfl) (fun _ _ _ q => q) hp rfl rfl rfl rfl rfl hb4 (fun W _ => eqi h rfl rfl) fun a h => ?_
 refine tkq 24 h rfl hp (fun W _ => pckF h rfl hb4 rfl) fun a h => ?_
 refine tkm 25 h rfl hp rfl fun a h => ?_
 refine split (t := 39) h rfl (fun hb5 => ?_) (fun hb5 => ?_)
 ·refine tkG 26 h rfl hp rfl rfl rfl hb5 fun a h => ?_
  refine tkG 27 h rfl hp rfl rfl rfl hb5 fun a h => ?_
  refine tkG 28 h rfl hp rfl rfl rfl hb5 fun a h => ?_
  refine tkG 29 h rfl hp rfl rfl rfl hb5 fun a h => ?_
  refine tkG 30 h rfl hp rfl rfl rfl hb5 fun a h => ?_
  refine tkG 31 h rfl hp rfl rfl rfl hb5 fun a h => ?_
  refine tkG 32 h rfl hp rfl rfl rfl hb5 fun a h => ?_
  refine tkG 33 h rfl hp rfl rfl rfl hb5 fun a h => ?_
  refine tkG 34 h rfl hp rfl rfl rfl hb5 fun a h => ?_
  refine tkG 35 h rfl hp rfl rfl rfl hb5 fun a h => ?_
  refine tkq 36 h rfl hp (fun W _ => pckT h rfl hb5 rfl) fun a h => ?_
  refine tkm 37 h rfl hp rfl fun a h => ?_
  refine tkG 38 h rfl hp rfl rfl rfl rfl fun a h => ?_
  refine tkG 39 h rfl hp rfl rfl rfl rfl fun a h => ?_
  refine tkq 40 h rfl hp (fun W _ => pckT h rfl rfl rfl) fun a h => ?_
  refine tkm 41 h rfl hp rfl fun a h => ?_
  refine tkG 42 h rfl hp rfl rfl rfl rfl fun a h => ?_
  refine tkG 43 h rfl hp rfl rfl rfl rfl fun a h => ?_
  refine tkq 44 h rfl hp (fun W _ => pckT h rfl rfl rfl) fun a h => ?_
  refine dn (by kernel_rfl) ?_
  refine cnd1 h rfl (fun _ => ?_) (fun e => nomatch e)
  refine rg ?_
  refine wl (cal h rfl en10 (known_L _ (hGl.keep hp)) fun u w8 ⟨e1, e2⟩ a h => ?_)
  subst e1
  have hp := hp.below e2
  refine wsn h rfl fun a h => ?_
  refine wp_ret ?_
  try simp only [xqs]
  refine rt_1 h rfl (rvT h rfl) ?_
  exact ⟨_, rfl, rfl, hp.bel⟩
 exact absurd hbad (bad4 hn1 hn2 hn3 hb5)
set_option maxHeartbeats 4000000 in
theorem EclipseBigger_g (s : SV) (l : List Ball) (p r m : Int) (w : World) (hR : Rd w encL 3 s.v l) (hGl : Glb w) (hb : isBalls l = true) (h1 : inR p 0 ((l.length : Int) - 1) = true) (h2 : inR r 0 ((l.length : Int) - 1) = true) (hpr : p ≠ r) (y z : Ball) (hy : l[p.toNat]? = some y) (hz : l[r.toNat]? = some z) : Ret Tryz.prog 8 #[s.v, .int .i64 p, .int .i64 r, .int .i64 m] w fun u w' => u = .bool true ∧ Below w.heap.size w w' := by
 have hfit := hR.fits
 have h1b := h1
 have h2b := h2
 simp only [inR, Bool.and_eq_true, decide_eq_true_eq] at h1b h2b
 have hln := balls_len hb
 have hyB := balls_bd hb y (List.mem_of_getElem? hy)
 have hzB := balls_bd hb z (List.mem_of_getElem? hz)
 have hpq := nb_of hb h1 h2 hpr
 have hyx := hyB.x
 have hyy := hyB.y
 have hyr := hyB.r
 have hzx := hzB.x
 have hzy := hzB.y
 have hzr := hzB.r
 have hp : Hp c0 w w [] := Hp.start trivial
 refine enter Tryz.func8 rfl (N := 113) rfl rfl fun a h => ?_
 refine rg ?_
 refine wsn h rfl fun a h => ?_
 refine wp_seq ?_
 refine rdh (n := 45) hp mixed rfl ?_
 have hp := hp.drew
 refine tkm 0 h rfl hp rfl fun a h => ?_
 refine tkq 1 h rfl hp (fun W hp => lenR h rfl Tryz.underlying37 (hR.keep (by decide) hp cl0)) fun a h => ?_
 refine tkq 2 h rfl hp (fun W _ => gtr h rfl rfl) fun a h => ?_
 refine tkm 3 h rfl hp rfl fun a h => ?_
 refine split (t := 17) h rfl (fun hb1 => ?_) (fun hb1 => ?_)
 ·exact absurd hb1 (by first | decide | (simp only [Bool.not_eq_true', Bool.not_eq_false', Bool.not_eq_true, Bool.not_eq_false, decide_eq_true_eq, decide_eq_false_iff_not, gt_iff_lt, ge_iff_le]; omega) | (simp; done))
 refine tk_on 4 h rfl (by kernel_rfl) (fun _ _ _ q => q) hp rfl rfl rfl rfl rfl hb1 (fun W _ => mov h rfl) fun a h => ?_
 refine one 5 (by kernel_rfl) rfl (stp_on h rfl rfl rfl hb1 (cal h rfl en20 (Balls_R _ _ _ (hR.keep (by decide) hp cl0)) fun u w1 ⟨e1, e2⟩ a h => ⟨hp.below e2, ?_⟩))
 subst e1
 have hp := hp.below e2
 refine tk_on 6 h rfl (by kernel_rfl) (fun _ _ _ q => q) hp rfl rfl rfl rfl rfl hb1 (fun W _ => not_ h rfl) fun a h => ?_
 refine tkq 7 h rfl hp (fun W _ => pckF h rfl hb1 rfl) fun a h => ?_
 refine tkm 8 h rfl hp rfl fun a h => ?_
 refine split (t := 22) h rfl (fun hb2 => ?_) (fun hb2 => ?_)
 ·exact absurd hb2 (by rw [hb]; decide)
 refine tk_on 9 h rfl (by kernel_rfl) (fun _ _ _ q => q) hp rfl rfl rfl rfl rfl hb2 (fun W _ => mov h rfl) fun a h => ?_
 refine tk_on 10 h rfl (by kernel_rfl) (fun _ _ _ q => q) hp rfl rfl rfl rfl rfl hb2 (fun W _ => mov h rfl) fun a h => ?_
 refine one 11 (by kernel_rfl) rfl (stp_on h rfl rfl rfl hb2 (cal h rfl en23 (Ball_R _ _ _ _ (hR.keep (by decide) hp cl0)) fun u w2 ⟨e1, e2⟩ a h => ⟨hp.below e2, ?_⟩))
 subst e1
 have hp := hp.below e2
 refine tk_on 12 h rfl (by kernel_rfl) (fun _ _ _ q => q) hp rfl rfl rfl rfl rfl hb2 (fun W _ => not_ h rfl) fun a h => ?_
 refine tkq 13 h rfl hp (fun W _ => pckF h rfl hb2 rfl) fun a h => ?_
 refine tkm 14 h rfl hp rfl fun a h => ?_
 refine split (t := 28) h rfl (fun hb3 => ?_) (fun hb3 => ?_)
 ·exact absurd hb3 (by rw [h1]; decide)
 refine tk_on 15 h rfl (by kernel_rfl) (fun _ _ _ q => q) hp rfl rfl rfl rfl rfl hb3 (fun W _ => mov h rfl) fun a h => ?_
 refine tk_on 16 h rfl (by kernel_rfl) (fun _ _ _ q => q) hp rfl rfl rfl rfl rfl hb3 (fun W _ => mov h rfl) fun a h => ?_
 refine one 17 (by kernel_rfl) rfl (stp_on h rfl rfl rfl hb3 (cal h rfl en23 (Ball_R _ _ _ _ (hR.keep (by decide) hp cl0)) fun u w3 ⟨e1, e2⟩ a h => ⟨hp.below e2, ?_⟩))
 subst e1
 have hp := hp.below e2
 refine tk_on 18 h rfl (by kernel_rfl) (fun _ _ _ q => q) hp rfl rfl rfl rfl rfl hb3 (fun W _ => not_ h rfl) fun a h => ?_
 refine tkq 19 h rfl hp (fun W _ => pckF h rfl hb3 rfl) fun a h => ?_
 refine tkm 20 h rfl hp rfl fun a h => ?_
 refine split (t := 34) h rfl (fun hb4 => ?_) (fun hb4 => ?_)
 ·exact absurd hb4 (by rw [h2]; decide)
 refine tk_on 21 h rfl (by kernel_rfl) (fun _ _ _ q => q) hp rfl rfl rfl rfl rfl hb4 (fun W _ => mov h rfl) fun a h => ?_
 refine tk_on 22 h rfl (by kernel_rfl) (fun _ _ _ q => q) hp rfl rfl rfl rfl rfl hb4 (fun W _ => mov h rfl) fun a h => ?_
 refine tk_on 23 h rfl (by kernel_rfl) (fun _ _ _ q => q) hp rfl rfl rfl rfl rfl hb4 (fun W _ => eqi h rfl rfl) fun a h => ?_
 refine tkq 24 h rfl hp (fun W _ => pckF h rfl hb4 rfl) fun a h => ?_
 refine tkm 25 h rfl hp rfl fun a h => ?_
 refine split (t := 39) h rfl (fun hb5 => ?_) (fun hb5 => ?_)
 ·exact absurd hb5 (by simpa using hpr)
 refine tk_on 26 h rfl (by kernel_rfl) (fun _ _ _ q => q) hp rfl rfl rfl rfl rfl hb5 (fun W _ => mov h rfl) fun a h => ?_
 refine tk_on 27 h rfl (by kernel_rfl) (fun _ _ _ q => q) hp rfl rfl rfl rfl rfl hb5 (fun W _ => mov h rfl) fun a h => ?_
 refine tk_on 28 h rfl (by kernel_rfl) (fun _ _ _ q => q) hp rfl rfl rfl rfl rfl hb5 (fun W hp => iadR (p.toNat) h rfl rfl Tryz.underlying37 sz51 (hR.keep (by decide) hp cl0) (by omega) (by omega)) fun a h => ?_
 refine tk_on 29 h rfl (by kernel_rfl) (fun _ _ _ q => q) hp rfl rfl rfl rfl rfl hb5 (fun W hp => ldE h (hR.keep (by decide) hp cl0) hy rfl ag51 sz51) fun a h => ?_
 refine tk_on 30 h rfl (by kernel_rfl) (fun _ _ _ q => q) hp rfl rfl rfl rfl rfl hb5 (fun W _ => mov h rfl) fun a h => ?_
 refine tk_on 31 h rfl (by kernel_rfl) (fun _ _ _ q => q) hp rfl rfl rfl rfl rfl hb5 (fun W _ => mov h rfl) fun a h => ?_
 refine tk_on 32 h rfl (by kernel_rfl) (fun _ _ _ q => q) hp rfl rfl rfl rfl rfl hb5 (fun W hp => iadR (r.toNat) h rfl rfl Tryz.underlying37 sz51 (hR.keep (by decide) hp cl0) (by omega) (by omega)) fun a h => ?_
 refine tk_on 33 h rfl (by kernel_rfl) (fun _ _ _ q => q) hp rfl rfl rfl rfl rfl hb5 (fun W hp => ldE h (hR.keep (by decide) hp cl0) hz rfl ag51 sz51) fun a h => ?_
 refine one 34 (by kernel_rfl) rfl (stp_on h rfl rfl rfl hb5 (cal h rfl en26 (Before_R y z _ hyx hyy hyr hzx hzy hzr) fun u w4 ⟨e1, e2⟩ a h => ⟨hp.below e2, ?_⟩))
 subst e1
 have hp := hp.below e2
 refine tk_on 35 h rfl (by kernel_rfl) (fun _ _ _ q => q) hp rfl rfl rfl rfl rfl hb5 (fun W _ => not_ h rfl) fun a h => ?_
 refine tkq 36 h rfl hp (fun W _ => pckF h rfl hb5 rfl) fun a h => ?_
 refine tkm 37 h rfl hp rfl fun a h => ?_
 refine split (t := 51) h rfl (fun hb6 => ?_) (fun hb6 => ?_)
 ·refine tkG 38 h rfl hp rfl rfl rfl hb6 fun a h => ?_
  refine tkG 39 h rfl hp rfl rfl rfl hb6 fun a h => ?_
  refine tkq 40 h rfl hp (fun W _ => pckT h rfl hb6 rfl) fun a h => ?_
  refine tkm 41 h rfl hp rfl fun a h => ?_
  refine tkG 42 h rfl hp rfl rfl rfl rfl fun a h => ?_
  refine tkG 43 h rfl hp rfl rfl rfl rfl fun a h => ?_
  refine tkq 44 h rfl hp (fun W _ => pckT h rfl rfl rfl) fun a h => ?_
  refine dn (by kernel_rfl) ?_
  refine cnd1 h rfl (fun _ => ?_) (fun e => nomatch e)
  refine rg ?_
  refine wl (cal h rfl en10 (known_L _ (hGl.keep hp)) fun u w5 ⟨e1, e2⟩ a h => ?_)
  subst e1
  have hp := hp.below e2
  refine wsn h rfl fun a h => ?_
  refine wp_ret ?_
  try simp only [xqs]
  refine rt_1 h rfl (rvT h rfl) ?_
  exact ⟨_, rfl, rfl, hp.bel⟩
 have hlt : y.pow < z.pow := by have hq9 := hb6; simpa [Ball.pow] using hq9
 refine tk_on 38 h rfl (by kernel_rfl) (fun _ _ _ q => q) hp rfl rfl rfl rfl rfl hb6 (fun W _ => mov h rfl) fun a h => ?_
 refine tk_on 39 h rfl (by kernel_rfl) (fun _ _ _ q => q) hp rfl rfl rfl rfl rfl hb6 (fun W _ => lss h rfl rfl) fun a h => ?_
 refine tkq 40 h rfl hp (fun W _ => pckF h rfl hb6 rfl) fun a h => ?_
 refine tkm 41 h rfl hp rfl fun a h => ?_
 refine split (t := 55) h rfl (fun hb7 => ?_) (fun hb7 => ?_)
 ·refine tkG 42 h rfl hp rfl rfl rfl hb7 fun a h => ?_
  refine tkG 43 h rfl hp rfl rfl rfl hb7 fun a h => ?_
  refine tkq 44 h rfl hp (fun W _ => pckT h rfl hb7 rfl) fun a h => ?_
  refine dn (by kernel_rfl) ?_
  refine cnd1 h rfl (fun _ => ?_) (fun e => nomatch e)
  refine rg ?_
  refine wl (cal h rfl en10 (known_L _ (hGl.keep hp)) fun u w6 ⟨e1, e2⟩ a h => ?_)
  subst e1
  have hp := hp.below e2
  refine wsn h rfl fun a h => ?_
  refine wp_ret ?_
  try simp only [xqs]
  refine rt_1 h rfl (rvT h rfl) ?_
  exact ⟨_, rfl, rfl, hp.bel⟩
 have hm0 : 0 ≤ m := by have hq9 := hb7; simpa using hq9
 refine tk_on 42 h rfl (by kernel_rfl) (fun _ _ _ q => q) hp rfl rfl rfl rfl rfl hb7 (fun W _ => mov h rfl) fun a h => ?_
 refine tk_on 43 h rfl (by kernel_rfl) (fun _ _ _ q => q) hp rfl rfl rfl rfl rfl hb7 (fun W _ => gtr h rfl rfl) fun a h => ?_
 refine tkq 44 h rfl hp (fun W _ => pckF h rfl hb7 rfl) fun a h => ?_
 refine dn (by kernel_rfl) ?_
 refine cnd1 h rfl (fun hb8 => ?_) (fun hb8 => ?_)
 ·refine rg ?_
  refine wl (cal h rfl en10 (known_L _ (hGl.keep hp)) fun u w7 ⟨e1, e2⟩ a h => ?_)
  subst e1
  have hp := hp.below e2
  refine wsn h rfl fun a h => ?_
  refine wp_ret ?_
  try simp only [xqs]
  refine rt_1 h rfl (rvT h rfl) ?_
  exact ⟨_, rfl, rfl, hp.bel⟩
 have hm1 : m ≤ 20 := by have hq9 := hb8; simpa using hq9
 refine skp ?_
 refine rdh (n := 22) hp mixed rfl ?_
 have hp := hp.drew
 refine tkm 0 h rfl hp rfl fun a h => ?_
 refine tkm 1 h rfl hp rfl fun a h => ?_
 refine tkm 2 h rfl hp rfl fun a h => ?_
 refine tkm 3 h rfl hp rfl fun a h => ?_
 refine tkq 4 h rfl hp (fun W hp => iadR (p.toNat) h rfl rfl Tryz.underlying37 sz51 (hR.keep (by decide) hp cl0) (by omega) (by omega)) fun a h => ?_
 refine tkq 5 h rfl hp (fun W _ => fad h rfl fo51_0) fun a h => ?_
 refine tkq 6 h rfl hp (fun W hp => ldF 0 h (hR.keep (by decide) hp cl0) hy rfl ag3 rfl) fun a h => ?_
 refine tkm 7 h rfl hp rfl fun a h => ?_
 refine tkm 8 h rfl hp rfl fun a h => ?_
 refine tkq 9 h rfl hp (fun W hp => iadR (p.toNat) h rfl rfl Tryz.underlying37 sz51 (hR.keep (by decide) hp cl0) (by omega) (by omega)) fun a h => ?_
 refine tkq 10 h rfl hp (fun W _ => fad h rfl fo51_1) fun a h => ?_
 refine tkq 11 h rfl hp (fun W hp => ldF 1 h (hR.keep (by decide) hp cl0) hy rfl ag3 rfl) fun a h => ?_
 refine tkm 12 h rfl hp rfl fun a h => ?_
 refine tkm 13 h rfl hp rfl fun a h => ?_
 refine tkq 14 h rfl hp (fun W hp => iadR (p.toNat) h rfl rfl Tryz.underlying37 sz51 (hR.keep (by decide) hp cl0) (by omega) (by omega)) fun a h => ?_
 refine tkq 15 h rfl hp (fun W _ => fad h rfl fo51_2) fun a h => ?_
 refine tkq 16 h rfl hp (fun W hp => ldF 2 h (hR.keep (by decide) hp cl0) hy rfl ag3 rfl) fun a h => ?_
 refine tkm 17 h rfl hp rfl fun a h => ?_
 refine tkq 18 h rfl hp (fun W _ => add h rfl rfl (by omega)) fun a h => ?_
 refine tkq 19 h rfl hp (fun W _ => bld h rfl (bl51_0_1_2 _ _ _ _)) fun a h => ?_
 refine one 20 (by kernel_rfl) rfl (cal h rfl en28 (Put_R _ _ _ ⟨y.x, y.y, y.r + m⟩ _ (hR.keep (by decide) hp cl0) (by omega) (by omega) (by omega)) fun u w8 ⟨⟨s20, e1, hf⟩, e2⟩ a h => ⟨((hp.below e2).pre 0 rfl), ?_⟩)
 subst e1
 have hp := hp.got (hp.below e2) (by decide) hf
 refine tka 21 h rfl ((hp).pre 0 rfl) rfl fun a h => ?_
 refine dn (by kernel_rfl) ?_
 refine wp_seq ?_
 refine rg ?_
 refine wmv h rfl fun a h => ?_
 refine wl (cal h rfl en20 (Balls_R _ _ _ (hp.rdF (i := 0) rfl)) fun u w9 ⟨e1, e2⟩ a h => ?_)
 subst e1
 have hp := hp.below e2
 refine wvl h (not_ h rfl) fun a h => ?_
 refine wn ?_
 refine cnd1 h rfl (fun hb9 => ?_) (fun hb9 => ?_)
 ·refine rg ?_
  refine wl (cal h rfl en10 (known_L _ (hGl.keep hp)) fun u w10 ⟨e1, e2⟩ a h => ?_)
  subst e1
  have hp := hp.below e2
  refine wsn h rfl fun a h => ?_
  refine wp_ret ?_
  try simp only [xqs]
  refine rt_1 h rfl (rvT h rfl) ?_
  exact ⟨_, rfl, rfl, hp.bel⟩
 have hmb : isBalls (l.set p.toNat ⟨y.x, y.y, y.r + m⟩) = true := by simpa using hb9
 have hm2 : (l.set p.toNat ⟨y.x, y.y, y.r + m⟩)[p.toNat]? = some ⟨y.x, y.y, y.r + m⟩ := List.getElem?_set_self (by omega)
 have hz2 : (l.set p.toNat ⟨y.x, y.y, y.r + m⟩)[r.toNat]? = some z := by rw [List.getElem?_set_ne (by omega)]; exact hz
 have hbg := shades_bigger (m := m) hyB hzB hm0 (setB_bd hmb (by omega)) hlt
 refine skp ?_
 refine rg ?_
 refine wm3 h rfl rfl rfl rfl rfl rfl fun a h => ?_
 refine wl (cal h rfl en18 (Shades_v (hR.keep (by decide) hp cl0) hpq hy hz) fun u w11 ⟨e1, e2⟩ a h => ?_)
 subst e1
 have hp := hp.below e2
 refine wmv h rfl fun a h => ?_
 refine wvl h (ext h rfl rfl) fun a h => ?_
 refine wvl h (ext h rfl rfl) fun a h => ?_
 refine ws2 h rfl rfl rfl rfl fun a h => ?_
 refine rg ?_
 refine wm3 h rfl rfl rfl rfl rfl rfl fun a h => ?_
 refine wl (cal h rfl en18 (Shades_v (hp.rdF (i := 0) rfl) (nb_set hmb h1 h2 hpr) hm2 hz2) fun u w12 ⟨e1, e2⟩ a h => ?_)
 subst e1
 have hp := hp.below e2
 refine wmv h rfl fun a h => ?_
 refine wvl h (ext h rfl rfl) fun a h => ?_
 refine wvl h (ext h rfl rfl) fun a h => ?_
 refine ws2 h rfl rfl rfl rfl fun a h => ?_
 refine rg ?_
 refine wmv h rfl fun a h => ?_
 refine wvl h (eqi h rfl rfl) fun a h => ?_
 refine wmv h rfl fun a h => ?_
 refine split (t := 101) h rfl (fun hb10 => ?_) (fun hb10 => ?_)
 ·refine wl (stp_on h rfl rfl rfl hb10 (vl h (mov h rfl) fun a h => ?_))
  refine wl (stp_on h rfl rfl rfl hb10 (vl h (eqi h rfl rfl) fun a h => ?_))
  refine wvl h (pckT h rfl hb10 rfl) fun a h => ?_
  refine wmv h rfl fun a h => ?_
  refine split (t := 105) h rfl (fun hb11 => ?_) (fun hb11 => ?_)
  ·refine wl (stp_on h rfl rfl rfl hb11 (vl h (mov h rfl) fun a h => ?_))
   refine wl (stp_on h rfl rfl rfl hb11 (vl h (mov h rfl) fun a h => ?_))
   refine wl (stp_on h rfl rfl rfl hb11 (vl h (geq h rfl rfl) fun a h => ?_))
   refine wvl h (pckT h rfl hb11 rfl) fun a h => ?_
   refine wmv h rfl fun a h => ?_
   refine split (t := 110) h rfl (fun hb12 => ?_) (fun hb12 => ?_)
   ·refine wl (stp_on h rfl rfl rfl hb12 (cal h rfl en10 (known_L _ (hGl.keep hp)) fun u w13 ⟨e1, e2⟩ a h => ?_))
    subst e1
    have hp := hp.below e2
    refine wvl h (pckT h rfl hb12 rfl) fun a h => ?_
    refine wsn h rfl fun a h => ?_
    refine wp_ret ?_
    try simp only [xqs]
    refine rt_1 h rfl (rvT h rfl) ?_
    exact ⟨_, rfl, rfl, hp.bel⟩
   exact absurd hb12 (by first | decide | (simp only [Bool.not_eq_true', Bool.not_eq_false', Bool.not_eq_true, Bool.not_eq_false, decide_eq_true_eq, decide_eq_false_iff_not, gt_iff_lt, ge_iff_le]; omega) | (simp; done))
  exact absurd hb11 (by first | decide | (simp only [Bool.not_eq_true', Bool.not_eq_false', Bool.not_eq_true, Bool.not_eq_false, decide_eq_true_eq, decide_eq_false_iff_not, gt_iff_lt, ge_iff_le]; omega) | (simp; done))
 exact absurd hb10 (by first | decide | (simp only [Bool.not_eq_true', Bool.not_eq_false', Bool.not_eq_true, Bool.not_eq_false, decide_eq_true_eq, decide_eq_false_iff_not, gt_iff_lt, ge_iff_le]; omega) | (simp; done))
theorem EclipseBigger_L (s : SV) (l : List Ball) (p r m : Int) (w : World) (hR : Rd w encL 3 s.v l) (hGl : Glb w) : Ret Tryz.prog 8 #[s.v, .int .i64 p, .int .i64 r, .int .i64 m] w fun u w' => u = .bool true ∧ Below w.heap.size w w' := by
 cases hbad : (isBalls l && inR p 0 ((l.length : Int) - 1) && inR r 0 ((l.length : Int) - 1) && !decide (p = r)) with
 | false => exact EclipseBigger_b s l p r m w hR hGl hbad
 | true =>
  simp only [Bool.and_eq_true, Bool.not_eq_true', decide_eq_false_iff_not] at hbad
  obtain ⟨⟨⟨hb, h1⟩, h2⟩, h4⟩ := hbad
  have g : ∀ n : Int, inR n 0 ((l.length : Int) - 1) = true → ∃ y, l[n.toNat]? = some y := fun n hn => by
   simp only [inR, Bool.and_eq_true, decide_eq_true_eq] at hn
   exact ⟨_, List.getElem?_eq_getElem (by omega)⟩
  obtain ⟨y, hy⟩ := g p h1
  obtain ⟨z, hz⟩ := g r h2
  exact EclipseBigger_g s l p r m w hR hGl hb h1 h2 h4 y z hy hz
end Go.Proofs.Ec
