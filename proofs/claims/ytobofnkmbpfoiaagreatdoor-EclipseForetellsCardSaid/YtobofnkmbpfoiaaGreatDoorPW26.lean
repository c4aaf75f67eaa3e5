import Derived.Test.YtobofnkmbpfoiaaGreatDoorProg
import Derived.Test.YtobofnkmbpfoiaaGreatDoorPQb
import Derived.Test.YtobofnkmbpfoiaaGreatDoorPW24
import Derived.Test.YtobofnkmbpfoiaaGreatDoorPQc
set_option maxRecDepth 4000
set_option linter.unusedVariables false
set_option linter.unusedSimpArgs false
namespace Go.Proofs.Ec
open Go.RowKit Go.Proofs.Sx
open Ecl
theorem mixed_W26 : Tryz.prog.follows .mixedOrders = true := by kernel_rfl
theorem sz3_W26 : szT Tryz.prog 3 = some 1 := by kernel_rfl
theorem ag3_W26 : isAg Tryz.prog 3 = some false := by kernel_rfl
theorem sz96_W26 : szT Tryz.prog 96 = some 1 := by kernel_rfl
theorem ag96_W26 : isAg Tryz.prog 96 = some false := by kernel_rfl
theorem sz59_W26 : szT Tryz.prog 59 = some 3 := by kernel_rfl
theorem ag59_W26 : isAg Tryz.prog 59 = some true := by kernel_rfl
theorem eqs59_W26 (x0 y0 : Int) (x1 y1 : Bool) (x2 y2 : Int) : eqT Tryz.prog 59 (.agg #[.int .i64 x0, .bool x1, .int .i64 x2]) (.agg #[.int .i64 y0, .bool y1, .int .i64 y2]) ((x0 == y0) && (x1 == y1) && (x2 == y2)) := by
 intro w
 rw [show Op.maxDepth = (Op.maxDepth - 1) + 1 from rfl, run_equalIn_struct w _ 59 _ _ (by kernel_rfl) (by kernel_rfl)]
 have p0 : ∀ (x0 : Int) (x1 : Bool) (x2 : Int), (Go.part 3 #[.int .i64 x0, .bool x1, .int .i64 x2] 0).run Tryz.prog w = .ok (.int .i64 x0) w := by intro x0 x1 x2; kernel_rfl
 have p1 : ∀ (x0 : Int) (x1 : Bool) (x2 : Int), (Go.part 4 #[.int .i64 x0, .bool x1, .int .i64 x2] 1).run Tryz.prog w = .ok (.bool x1) w := by intro x0 x1 x2; kernel_rfl
 have p2 : ∀ (x0 : Int) (x1 : Bool) (x2 : Int), (Go.part 3 #[.int .i64 x0, .bool x1, .int .i64 x2] 2).run Tryz.prog w = .ok (.int .i64 x2) w := by intro x0 x1 x2; kernel_rfl
 have q3 : ∀ x y : Int, (Op.equalIn (Op.maxDepth - 1) 3 (.int .i64 x) (.int .i64 y)).run Tryz.prog w = .ok (x == y) w := fun x y => run_equalIn_int w _ 3 .i64 .i64 x y Tryz.underlying3
 have q4 : ∀ x y : Bool, (Op.equalIn (Op.maxDepth - 1) 4 (.bool x) (.bool y)).run Tryz.prog w = .ok (x == y) w := fun x y => run_equalIn_bool' w _ 4 x y Tryz.underlying4
 simp only [Program.fieldsOf, Tryz.underlying59, Op.eqFields, Sem.run_bind, p0, p1, p2, q3, q4, Result.andThen, Sem.run_ite]
 cases h0 : (x0 == y0) <;> cases h1 : (x1 == y1) <;> cases h2 : (x2 == y2) <;> simp
theorem Same_S (s1 s2 : SV) (d1 d2 : List Int) (w : World) (hR : Rd w encI 1 s1.v d1) (hS : Rd w encI 1 s2.v d2) : Ret Tryz.prog 49 #[s1.v, s2.v] w fun u w' => u = .bool (decide (d1 = d2)) ∧ Below w.heap.size w w' := by
 have hfit1 := hR.fits
 have hfit2 := hS.fits
 have hp : Hp c0 w w [] := Hp.start trivial
 refine enter Tryz.func49 rfl (N := 26) rfl rfl fun a h => ?_
 refine rg ?_
 refine wsg h rfl fun a h => ?_
 refine wn ?_
 refine wp_seq ?_
 refine rg ?_
 refine wmv h rfl fun a h => ?_
 refine wvl h (lenR h rfl Tryz.underlying30 (hR.keep (by decide) hp cl0)) fun a h => ?_
 refine wmv h rfl fun a h => ?_
 refine wvl h (lenR h rfl Tryz.underlying30 (hS.keep (by decide) hp cl0)) fun a h => ?_
 refine wvl h (nei h rfl rfl) fun a h => ?_
 refine wn ?_
 refine cnd1 h rfl (fun hb1 => ?_) (fun hb1 => ?_)
 ·have hln : ¬ d1.length = d2.length := by have hq := hb1; simp at hq; omega
  refine rg ?_
  refine wsg h rfl fun a h => ?_
  refine wn ?_
  refine wp_ret ?_
  try simp only [Exit.then, Exit.inBlock, Exit.noGoto, rpost, ↓reduceIte, Nat.reduceEqDiff]
  refine rt_1 h rfl (rvT h rfl) ?_
  exact ⟨_, rfl, by rw [same_len hln], hp.bel⟩
 ·have hln : d1.length = d2.length := by have hq := hb1; simp at hq; omega
  refine skp ?_
  refine wp_seq ?_
  refine rg ?_
  refine wsg h rfl fun a h => ?_
  refine wn ?_
  refine lp1 h [0, 1, 10] (fun n f w' => ∃ k : Nat, k ≤ d1.length ∧ n = d1.length - k ∧ f = [(5, .int .i64 k)] ∧ Hp c0 w w' ([]) ∧ d1.take k = d2.take k) (d1.length) [(5, .int .i64 ((0 : Nat) : Int))] ⟨rfl, rfl, rfl, rfl, trivial⟩ ⟨0, Nat.zero_le _, rfl, rfl, hp, rfl⟩ ?_
  rintro n f a w1 ⟨k, hk, rfl, rfl, hp, hI⟩ h
  have hfit := hR.fits
  refine wp_seq ?_
  refine rg ?_
  refine wmv h rfl fun a h => ?_
  refine wmv h rfl fun a h => ?_
  refine wvl h (lenR h rfl Tryz.underlying30 (hR.keep (by decide) hp cl0)) fun a h => ?_
  refine wvl h (lss h rfl rfl) fun a h => ?_
  refine wn ?_
  refine cnd1 h rfl (fun hb2 => ?_) (fun hb2 => ?_)
  ·have hlt : k < d1.length := by have := of_decide_eq_true hb2; omega
   obtain ⟨y, hy⟩ : ∃ y, d1[k]? = some y := ⟨_, List.getElem?_eq_getElem hlt⟩
   obtain ⟨z, hz⟩ : ∃ z, d2[k]? = some z := ⟨_, List.getElem?_eq_getElem (by omega)⟩
   refine skp ?_
   refine blk ?_
   refine rdh (n := 9) hp mixed_W26 rfl ?_
   have hp := hp.drew
   refine tkq 0 h rfl hp (fun W _ => mov h rfl) fun a h => ?_
   refine tkq 1 h rfl hp (fun W _ => mov h rfl) fun a h => ?_
   refine tkq 2 h rfl hp (fun W hp => iadR (k) h rfl rfl Tryz.underlying30 sz3_W26 (hR.keep (by decide) hp cl0) (rfl) (hlt)) fun a h => ?_
   refine tkq 3 h rfl hp (fun W hp => ld0 h (hR.keep (by decide) hp cl0) hy rfl ag3_W26 rfl) fun a h => ?_
   refine tkq 4 h rfl hp (fun W _ => mov h rfl) fun a h => ?_
   refine tkq 5 h rfl hp (fun W _ => mov h rfl) fun a h => ?_
   refine tkq 6 h rfl hp (fun W hp => iadR (k) h rfl rfl Tryz.underlying30 sz3_W26 (hS.keep (by decide) hp cl0) (rfl) (by omega)) fun a h => ?_
   refine tkq 7 h rfl hp (fun W hp => ld0 h (hS.keep (by decide) hp cl0) hz rfl ag3_W26 rfl) fun a h => ?_
   refine tkq 8 h rfl hp (fun W _ => nei h rfl rfl) fun a h => ?_
   refine dn (by kernel_rfl) ?_
   refine cnd1 h rfl (fun hb3 => ?_) (fun hb3 => ?_)
   ·have hne : ¬ y = z := by simpa using hb3
    refine rg ?_
    refine wsg h rfl fun a h => ?_
    refine wn ?_
    refine wp_ret ?_
    try simp only [Exit.then, Exit.inBlock, Exit.noGoto, rpost, ↓reduceIte, Nat.reduceEqDiff]
    refine rt_1 h rfl (rvT h rfl) ?_
    exact ⟨_, rfl, by rw [same_no hy hz hne], hp.bel⟩
   ·have hne : y = z := by simpa using hb3
    refine wp_skip ?_
    refine rg1 ?_
    refine wmv h rfl fun a h => ?_
    refine wvl h (add h rfl rfl (by omega)) fun a h => ?_
    refine wsg h rfl fun a h => ?_
    refine wn ?_
    exact ⟨_, _, (by omega), ⟨k + 1, by omega, rfl, rfl, hp, same_go hy hz hne hI⟩, h.sub ⟨rfl, rfl, rfl, rfl, trivial⟩⟩
  ·have hend : k = d1.length := by have := of_decide_eq_false hb2; omega
   subst hend
   refine wp_exit ?_
   try simp only [Exit.then, Exit.inBlock, Exit.noGoto, rpost, ↓reduceIte, Nat.reduceEqDiff]
   refine rg ?_
   refine wsg h rfl fun a h => ?_
   refine wn ?_
   refine wp_ret ?_
   try simp only [Exit.then, Exit.inBlock, Exit.noGoto, rpost, ↓reduceIte, Nat.reduceEqDiff]
   refine rt_1 h rfl (rvT h rfl) ?_
   exact ⟨_, rfl, by rw [same_yes hln hI], hp.bel⟩
theorem SameWords_R (s1 s2 : SV) (d1 d2 : List Int) (w : World) (hR : Rd w encI 1 s1.v d1) (hS : Rd w encI 1 s2.v d2) : Ret Tryz.prog 67 #[s1.v, s2.v] w fun u w' => u = .bool (decide (d1 = d2)) ∧ Below w.heap.size w w' := by
 have hfit1 := hR.fits
 have hfit2 := hS.fits
 have hp : Hp c0 w w [] := Hp.start trivial
 refine enter Tryz.func67 rfl (N := 26) rfl rfl fun a h => ?_
 refine rg ?_
 refine wsg h rfl fun a h => ?_
 refine wn ?_
 refine wp_seq ?_
 refine rg ?_
 refine wmv h rfl fun a h => ?_
 refine wvl h (lenR h rfl Tryz.underlying89 (hR.keep (by decide) hp cl0)) fun a h => ?_
 refine wmv h rfl fun a h => ?_
 refine wvl h (lenR h rfl Tryz.underlying89 (hS.keep (by decide) hp cl0)) fun a h => ?_
 refine wvl h (nei h rfl rfl) fun a h => ?_
 refine wn ?_
 refine cnd1 h rfl (fun hb1 => ?_) (fun hb1 => ?_)
 ·have hln : ¬ d1.length = d2.length := by have hq := hb1; simp at hq; omega
  refine rg ?_
  refine wsg h rfl fun a h => ?_
  refine wn ?_
  refine wp_ret ?_
  try simp only [Exit.then, Exit.inBlock, Exit.noGoto, rpost, ↓reduceIte, Nat.reduceEqDiff]
  refine rt_1 h rfl (rvT h rfl) ?_
  exact ⟨_, rfl, by rw [same_len hln], hp.bel⟩
 ·have hln : d1.length = d2.length := by have hq := hb1; simp at hq; omega
  refine skp ?_
  refine wp_seq ?_
  refine rg ?_
  refine wsg h rfl fun a h => ?_
  refine wn ?_
  refine lp1 h [0, 1, 10] (fun n f w' => ∃ k : Nat, k ≤ d1.length ∧ n = d1.length - k ∧ f = [(5, .int .i64 k)] ∧ Hp c0 w w' ([]) ∧ d1.take k = d2.take k) (d1.length) [(5, .int .i64 ((0 : Nat) : Int))] ⟨rfl, rfl, rfl, rfl, trivial⟩ ⟨0, Nat.zero_le _, rfl, rfl, hp, rfl⟩ ?_
  rintro n f a w1 ⟨k, hk, rfl, rfl, hp, hI⟩ h
  have hfit := hR.fits
  refine wp_seq ?_
  refine rg ?_
  refine wmv h rfl fun a h => ?_
  refine wmv h rfl fun a h => ?_
  refine wvl h (lenR h rfl Tryz.underlying89 (hR.keep (by decide) hp cl0)) fun a h => ?_
  refine wvl h (lss h rfl rfl) fun a h => ?_
  refine wn ?_
  refine cnd1 h rfl (fun hb2 => ?_) (fun hb2 => ?_)
  ·have hlt : k < d1.length := by have := of_decide_eq_true hb2; omega
   obtain ⟨y, hy⟩ : ∃ y, d1[k]? = some y := ⟨_, List.getElem?_eq_getElem hlt⟩
   obtain ⟨z, hz⟩ : ∃ z, d2[k]? = some z := ⟨_, List.getElem?_eq_getElem (by omega)⟩
   refine skp ?_
   refine blk ?_
   refine rdh (n := 9) hp mixed_W26 rfl ?_
   have hp := hp.drew
   refine tkq 0 h rfl hp (fun W _ => mov h rfl) fun a h => ?_
   refine tkq 1 h rfl hp (fun W _ => mov h rfl) fun a h => ?_
   refine tkq 2 h rfl hp (fun W hp => iadR (k) h rfl rfl Tryz.underlying89 sz96_W26 (hR.keep (by decide) hp cl0) (rfl) (hlt)) fun a h => ?_
   refine tkq 3 h rfl hp (fun W hp => ld0 h (hR.keep (by decide) hp cl0) hy rfl ag96_W26 rfl) fun a h => ?_
   refine tkq 4 h rfl hp (fun W _ => mov h rfl) fun a h => ?_
   refine tkq 5 h rfl hp (fun W _ => mov h rfl) fun a h => ?_
   refine tkq 6 h rfl hp (fun W hp => iadR (k) h rfl rfl Tryz.underlying89 sz96_W26 (hS.keep (by decide) hp cl0) (rfl) (by omega)) fun a h => ?_
   refine tkq 7 h rfl hp (fun W hp => ld0 h (hS.keep (by decide) hp cl0) hz rfl ag96_W26 rfl) fun a h => ?_
   refine tkq 8 h rfl hp (fun W _ => nei h rfl rfl) fun a h => ?_
   refine dn (by kernel_rfl) ?_
   refine cnd1 h rfl (fun hb3 => ?_) (fun hb3 => ?_)
   ·have hne : ¬ y = z := by simpa using hb3
    refine rg ?_
    refine wsg h rfl fun a h => ?_
    refine wn ?_
    refine wp_ret ?_
    try simp only [Exit.then, Exit.inBlock, Exit.noGoto, rpost, ↓reduceIte, Nat.reduceEqDiff]
    refine rt_1 h rfl (rvT h rfl) ?_
    exact ⟨_, rfl, by rw [same_no hy hz hne], hp.bel⟩
   ·have hne : y = z := by simpa using hb3
    refine wp_skip ?_
    refine rg1 ?_
    refine wmv h rfl fun a h => ?_
    refine wvl h (add h rfl rfl (by omega)) fun a h => ?_
    refine wsg h rfl fun a h => ?_
    refine wn ?_
    exact ⟨_, _, (by omega), ⟨k + 1, by omega, rfl, rfl, hp, same_go hy hz hne hI⟩, h.sub ⟨rfl, rfl, rfl, rfl, trivial⟩⟩
  ·have hend : k = d1.length := by have := of_decide_eq_false hb2; omega
   subst hend
   refine wp_exit ?_
   try simp only [Exit.then, Exit.inBlock, Exit.noGoto, rpost, ↓reduceIte, Nat.reduceEqDiff]
   refine rg ?_
   refine wsg h rfl fun a h => ?_
   refine wn ?_
   refine wp_ret ?_
   try simp only [Exit.then, Exit.inBlock, Exit.noGoto, rpost, ↓reduceIte, Nat.reduceEqDiff]
   refine rt_1 h rfl (rvT h rfl) ?_
   exact ⟨_, rfl, by rw [same_yes hln hI], hp.bel⟩
theorem SameEclipses_S (s1 s2 : SV) (d1 d2 : List Ecl.Mark) (w : World) (hR : Rd w encM 3 s1.v d1) (hS : Rd w encM 3 s2.v d2) : Ret Tryz.prog 27 #[s1.v, s2.v] w fun u w' => u = .bool (decide (d1 = d2)) ∧ Below w.heap.size w w' := by
 have hfit1 := hR.fits
 have hfit2 := hS.fits
 have hp : Hp c0 w w [] := Hp.start trivial
 refine enter Tryz.func27 rfl (N := 26) rfl rfl fun a h => ?_
 refine rg ?_
 refine wsg h rfl fun a h => ?_
 refine wn ?_
 refine wp_seq ?_
 refine rg ?_
 refine wmv h rfl fun a h => ?_
 refine wvl h (lenR h rfl Tryz.underlying50 (hR.keep (by decide) hp cl0)) fun a h => ?_
 refine wmv h rfl fun a h => ?_
 refine wvl h (lenR h rfl Tryz.underlying50 (hS.keep (by decide) hp cl0)) fun a h => ?_
 refine wvl h (nei h rfl rfl) fun a h => ?_
 refine wn ?_
 refine cnd1 h rfl (fun hb1 => ?_) (fun hb1 => ?_)
 ·have hln : ¬ d1.length = d2.length := by have hq := hb1; simp at hq; omega
  refine rg ?_
  refine wsg h rfl fun a h => ?_
  refine wn ?_
  refine wp_ret ?_
  try simp only [Exit.then, Exit.inBlock, Exit.noGoto, rpost, ↓reduceIte, Nat.reduceEqDiff]
  refine rt_1 h rfl (rvT h rfl) ?_
  exact ⟨_, rfl, by rw [same_len hln], hp.bel⟩
 ·have hln : d1.length = d2.length := by have hq := hb1; simp at hq; omega
  refine skp ?_
  refine wp_seq ?_
  refine rg ?_
  refine wsg h rfl fun a h => ?_
  refine wn ?_
  refine lp1 h [0, 1, 10] (fun n f w' => ∃ k : Nat, k ≤ d1.length ∧ n = d1.length - k ∧ f = [(5, .int .i64 k)] ∧ Hp c0 w w' ([]) ∧ d1.take k = d2.take k) (d1.length) [(5, .int .i64 ((0 : Nat) : Int))] ⟨rfl, rfl, rfl, rfl, trivial⟩ ⟨0, Nat.zero_le _, rfl, rfl, hp, rfl⟩ ?_
  rintro n f a w1 ⟨k, hk, rfl, rfl, hp, hI⟩ h
  have hfit := hR.fits
  refine wp_seq ?_
  refine rg ?_
  refine wmv h rfl fun a h => ?_
  refine wmv h rfl fun a h => ?_
  refine wvl h (lenR h rfl Tryz.underlying50 (hR.keep (by decide) hp cl0)) fun a h => ?_
  refine wvl h (lss h rfl rfl) fun a h => ?_
  refine wn ?_
  refine cnd1 h rfl (fun hb2 => ?_) (fun hb2 => ?_)
  ·have hlt : k < d1.length := by have := of_decide_eq_true hb2; omega
   obtain ⟨y, hy⟩ : ∃ y, d1[k]? = some y := ⟨_, List.getElem?_eq_getElem hlt⟩
   obtain ⟨z, hz⟩ : ∃ z, d2[k]? = some z := ⟨_, List.getElem?_eq_getElem (by omega)⟩
   refine skp ?_
   refine blk ?_
   refine rdh (n := 9) hp mixed_W26 rfl ?_
   have hp := hp.drew
   refine tkq 0 h rfl hp (fun W _ => mov h rfl) fun a h => ?_
   refine tkq 1 h rfl hp (fun W _ => mov h rfl) fun a h => ?_
   refine tkq 2 h rfl hp (fun W hp => iadR (k) h rfl rfl Tryz.underlying50 sz59_W26 (hR.keep (by decide) hp cl0) (rfl) (hlt)) fun a h => ?_
   refine tkq 3 h rfl hp (fun W hp => ldE h (hR.keep (by decide) hp cl0) hy rfl ag59_W26 sz59_W26) fun a h => ?_
   refine tkq 4 h rfl hp (fun W _ => mov h rfl) fun a h => ?_
   refine tkq 5 h rfl hp (fun W _ => mov h rfl) fun a h => ?_
   refine tkq 6 h rfl hp (fun W hp => iadR (k) h rfl rfl Tryz.underlying50 sz59_W26 (hS.keep (by decide) hp cl0) (rfl) (by omega)) fun a h => ?_
   refine tkq 7 h rfl hp (fun W hp => ldE h (hS.keep (by decide) hp cl0) hz rfl ag59_W26 sz59_W26) fun a h => ?_
   refine tkq 8 h rfl hp (fun W _ => neS h rfl rfl (by kernel_rfl) (eqs59_W26 _ _ _ _ _ _)) fun a h => ?_
   refine dn (by kernel_rfl) ?_
   refine cnd1 h rfl (fun hb3 => ?_) (fun hb3 => ?_)
   ·have hne : ¬ y = z := by have hq := hb3; rw [mark_eq] at hq; simpa using hq
    refine rg ?_
    refine wsg h rfl fun a h => ?_
    refine wn ?_
    refine wp_ret ?_
    try simp only [Exit.then, Exit.inBlock, Exit.noGoto, rpost, ↓reduceIte, Nat.reduceEqDiff]
    refine rt_1 h rfl (rvT h rfl) ?_
    exact ⟨_, rfl, by rw [same_no hy hz hne], hp.bel⟩
   ·have hne : y = z := by have hq := hb3; rw [mark_eq] at hq; simpa using hq
    refine wp_skip ?_
    refine rg1 ?_
    refine wmv h rfl fun a h => ?_
    refine wvl h (add h rfl rfl (by omega)) fun a h => ?_
    refine wsg h rfl fun a h => ?_
    refine wn ?_
    exact ⟨_, _, (by omega), ⟨k + 1, by omega, rfl, rfl, hp, same_go hy hz hne hI⟩, h.sub ⟨rfl, rfl, rfl, rfl, trivial⟩⟩
  ·have hend : k = d1.length := by have := of_decide_eq_false hb2; omega
   subst hend
   refine wp_exit ?_
   try simp only [Exit.then, Exit.inBlock, Exit.noGoto, rpost, ↓reduceIte, Nat.reduceEqDiff]
   refine rg ?_
   refine wsg h rfl fun a h => ?_
   refine wn ?_
   refine wp_ret ?_
   try simp only [Exit.then, Exit.inBlock, Exit.noGoto, rpost, ↓reduceIte, Nat.reduceEqDiff]
   refine rt_1 h rfl (rvT h rfl) ?_
   exact ⟨_, rfl, by rw [same_yes hln hI], hp.bel⟩
end Go.Proofs.Ec
