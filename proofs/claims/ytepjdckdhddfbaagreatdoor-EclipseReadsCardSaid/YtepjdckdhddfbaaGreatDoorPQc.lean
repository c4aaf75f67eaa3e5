import Derived.Lib.SmallJoins
import Derived.Lib.AppendIntMem
import Derived.Lib.OthersKept
import Derived.Laws.RangeAny
import Derived.Laws.BytesString
import Derived.Test.YtepjdckdhddfbaaGreatDoorPQb
import Derived.Test.YtepjdckdhddfbaaGreatDoorPQa
import Derived.Test.YtepjdckdhddfbaaGreatDoorPSh
set_option linter.unusedVariables false
set_option linter.unusedSimpArgs false
section
namespace Go.Proofs.Ec
open Go.RowKit Go.Proofs.Sx
def encI (x : Int) : List Value := [.int .i64 x]
def encP (x : Int × Int) : List Value := [.int .i64 x.1, .int .i64 x.2]
def encM (x : Ecl.Mark) : List Value := [.int .i64 x.day, .bool x.full, .int .i64 x.far]
def encMoon (x : Int × Bool) : List Value := [.int .i64 x.1, .bool x.2]
abbrev BV := Ecl.Body × SV
def encB (x : BV) : List Value := [.int .i64 x.1.num, .int .i64 x.1.den, .int .i64 x.1.start, x.2.v]
structure EV where
  bs : List BV
  b : SV
  s : SV
  m : SV
  n : SV
  f : SV
def skyC (x : EV) (e : Ecl.Eng) : Array Value := #[x.b.v, .int .i64 e.nnum, .int .i64 e.nden, .int .i64 e.nstart]
structure RdS (w : World) (x : EV) (e : Ecl.Eng) : Prop where
  b : Rd w encB 4 x.b.v x.bs
  bs : e.bodies = x.bs.map (·.1)
  road : ∀ y ∈ x.bs, Rd w encI 1 y.2.v y.1.road
structure RdG (w : World) (x : EV) (e : Ecl.Eng) : Prop where
  sky : RdS w x e
  s : Rd w encP 2 x.s.v e.sun
  m : Rd w encP 2 x.m.v e.moon
  n : Rd w encP 2 x.n.v e.node
  f : Rd w encI 1 x.f.v e.feasts
variable {w w' w0 : World} {x : EV} {e : Ecl.Eng} {c : Cx} {hl : HL}
theorem RdS.below (h : RdS w x e) (k : Below w.heap.size w w') : RdS w' x e := ⟨h.b.below (by decide) k, h.bs, fun y hy => (h.road y hy).below (by decide) k⟩
theorem RdG.below (h : RdG w x e) (k : Below w.heap.size w w') : RdG w' x e := ⟨h.sky.below k, h.s.below (by decide) k, h.m.below (by decide) k, h.n.below (by decide) k, h.f.below (by decide) k⟩
theorem RdS.keep (h : RdS w0 x e) (hp : Hp c w0 w hl) (hc : Cl c w0) : RdS w x e := ⟨h.b.keep (by decide) hp hc, h.bs, fun y hy => (h.road y hy).keep (by decide) hp hc⟩
theorem RdG.keep (h : RdG w0 x e) (hp : Hp c w0 w hl) (hc : Cl c w0) : RdG w x e := ⟨h.sky.keep hp hc, h.s.keep (by decide) hp hc, h.m.keep (by decide) hp hc, h.n.keep (by decide) hp hc, h.f.keep (by decide) hp hc⟩
theorem _root_.Go.Proofs.Sx.Hp.bel {w0 w : World} {hl : HL} (h : Hp c0 w0 w hl) : Below w0.heap.size w0 w := Ext.below h.ext
theorem take_snoc {α : Type} {l : List α} {k : Nat} {y : α} (h : l[k]? = some y) : l.take (k + 1) = l.take k ++ [y] := by
  rw [List.take_add_one, h]
  rfl
theorem any_snoc {α : Type} {p : α → Bool} {l : List α} {k : Nat} {y : α} (h : l[k]? = some y) (h1 : (l.take k).any p = false) (h2 : p y = false) : (l.take (k + 1)).any p = false := by
  rw [take_snoc h, List.any_append, h1]
  simp [h2]
theorem any_at {α : Type} {p : α → Bool} {l : List α} {k : Nat} {y : α} (h : l[k]? = some y) (h2 : p y = true) : l.any p = true := List.any_eq_true.2 ⟨y, List.mem_of_getElem? h, h2⟩
theorem na {α : Type} (l : List α) (q : α → Bool) : (!(l.any fun y => !(q y))) = l.all q := by rw [List.not_any_eq_all_not]; simp
theorem na2 {α : Type} (l : List α) (q : α → Bool) : l.any (fun y => !(q y)) = !(l.all q) := by rw [← na]; simp
end Go.Proofs.Ec
end
section
namespace Go.Proofs.Ec
open Ecl
theorem prodA_fold : ∀ (l : List (Int × Int)) (n : Int), prodA l n = (l.map (·.1)).foldl (· * ·) n
  | [], n => rfl
  | p :: r, n => prodA_fold r (n * p.1)
theorem prodB_fold : ∀ (l : List (Int × Int)) (n : Int), prodB l n = (l.map (·.2)).foldl (· * ·) n
  | [], n => rfl
  | p :: r, n => prodB_fold r (n * p.2)
theorem fold_snoc {l : List Int} {k : Nat} {y : Int} (h : l[k]? = some y) (n : Int) : (l.take (k + 1)).foldl (· * ·) n = (l.take k).foldl (· * ·) n * y := by
  rw [take_snoc h, List.foldl_append]
  rfl
theorem rise_app {lo hi y : Int} : ∀ (l : List Int) (p : Int), rising lo hi (l ++ [p, y]) = (rising lo hi (l ++ [p]) && decide (p < y) && inR y lo hi)
  | [], p => by simp [rising]
  | [a], p => by simp [rising, Bool.and_assoc]
  | a :: b :: r, p => by
    have := rise_app (lo := lo) (hi := hi) (y := y) (b :: r) p
    simp only [List.cons_append, rising] at this ⊢
    rw [this]
    simp [Bool.and_assoc]
theorem rise0 {l : List Int} {lo hi y : Int} (h : l[0]? = some y) : rising lo hi (l.take 1) = inR y lo hi := by
  rw [take_snoc h]
  simp [rising]
theorem riseS {l : List Int} {lo hi y p : Int} {k : Nat} (hp : l[k]? = some p) (h : l[k + 1]? = some y) : rising lo hi (l.take (k + 2)) = (rising lo hi (l.take (k + 1)) && decide (p < y) && inR y lo hi) := by
  rw [show k + 2 = (k + 1) + 1 from rfl, take_snoc h, take_snoc hp, List.append_assoc]
  exact rise_app _ _
theorem rise_pre {lo hi : Int} : ∀ (a b : List Int), rising lo hi (a ++ b) = true → rising lo hi a = true
  | [], _, _ => rfl
  | [x], b, h => by
    cases b with
    | nil => exact h
    | cons y r => simp only [List.cons_append, List.nil_append, rising, Bool.and_eq_true] at h ⊢; exact h.1.1
  | x :: y :: r, b, h => by
    simp only [List.cons_append, rising, Bool.and_eq_true] at h ⊢
    exact ⟨h.1, rise_pre (y :: r) b h.2⟩
theorem rise_no {lo hi : Int} {l : List Int} {k : Nat} (h : rising lo hi (l.take k) = false) : rising lo hi l = false := by
  cases hb : rising lo hi l with
  | false => rfl
  | true =>
    rw [← List.take_append_drop k l] at hb
    rw [rise_pre _ _ hb] at h
    cases h
theorem rise_bad1 {lo hi y : Int} {l : List Int} {k : Nat} (h : l[k]? = some y) (hn : inR y lo hi = false) : rising lo hi l = false := by
  refine rise_no (k := k + 1) ?_
  cases k with
  | zero => rw [rise0 h, hn]
  | succ j =>
    have hj := (List.getElem?_eq_some_iff.1 h).1
    rw [riseS (List.getElem?_eq_getElem (by omega : j < l.length)) h, hn, Bool.and_false]
theorem rise_bad2 {lo hi y p : Int} {l : List Int} {k : Nat} (hk : 0 < k) (hp : l[k - 1]? = some p) (h : l[k]? = some y) (hn : y ≤ p) : rising lo hi l = false := by
  refine rise_no (k := k + 1) ?_
  obtain ⟨j, rfl⟩ : ∃ j, k = j + 1 := ⟨k - 1, by omega⟩
  rw [riseS (by simpa using hp) h, decide_eq_false (by omega), Bool.and_false, Bool.false_and]
theorem rise_go0 {lo hi y : Int} {l : List Int} {k : Nat} (hk : ¬ 0 < k) (h : l[k]? = some y) (hy : inR y lo hi = true) : rising lo hi (l.take (k + 1)) = true := by
  obtain rfl : k = 0 := by omega
  rw [rise0 h, hy]
theorem rise_go1 {lo hi y p : Int} {l : List Int} {k : Nat} (hk : 0 < k) (hI : rising lo hi (l.take k) = true) (hp : l[k - 1]? = some p) (h : l[k]? = some y) (hy : inR y lo hi = true) (hn : ¬ y ≤ p) : rising lo hi (l.take (k + 1)) = true := by
  obtain ⟨j, rfl⟩ : ∃ j, k = j + 1 := ⟨k - 1, by omega⟩
  rw [riseS (by simpa using hp) h, hI, hy, decide_eq_true (by omega)]
  rfl
theorem gcd_step (p r : Int) (h : 0 ≤ r) : Int.gcd r (p % r) = Int.gcd p r := by
  have := Int.gcd_add_mul_left_right r (p % r) (p / r)
  rw [Int.emod_add_mul_ediv, Int.gcd_comm r p] at this
  exact this.symm
theorem mul_bd {a b A B : Int} (h1 : 0 ≤ a) (h2 : a ≤ A) (h3 : 0 ≤ b) (h4 : b ≤ B) : 0 ≤ a * b ∧ a * b ≤ A * B :=
  ⟨Int.mul_nonneg h1 h3, Int.mul_le_mul h2 h4 h3 (by omega)⟩
theorem lastSet_app (f : List Int) (t y : Int) : ∀ (l : List Int) (z : Int), lastSet f t (l ++ [y]) z = if at0 f y ≤ t then at0 f y else lastSet f t l z
  | [], z => rfl
  | n :: r, z => lastSet_app f t y r _
theorem train_bd {l : List (Int × Int)} (h : isTrain l = true) : l.length ≤ 3 ∧ (∀ x ∈ l.map (·.1), 1 ≤ x ∧ x ≤ 60) ∧ ∀ x ∈ l.map (·.2), 1 ≤ x ∧ x ≤ 60 := by
  simp only [isTrain, Bool.and_eq_true, inR, decide_eq_true_eq, List.all_eq_true, isTeeth] at h
  refine ⟨by omega, ?_, ?_⟩
  · intro x hx
    obtain ⟨p, hp, rfl⟩ := List.mem_map.1 hx
    have := h.2 p hp
    omega
  · intro x hx
    obtain ⟨p, hp, rfl⟩ := List.mem_map.1 hx
    have := h.2 p hp
    omega
theorem fold_bd : ∀ (l : List Int) (n B : Int), 1 ≤ n → n ≤ B → (∀ x ∈ l, 1 ≤ x ∧ x ≤ 60) → 1 ≤ l.foldl (· * ·) n ∧ l.foldl (· * ·) n ≤ B * 60 ^ l.length
  | [], n, B, h1, h2, _ => by simp; omega
  | y :: r, n, B, h1, h2, h => by
    have hy := h y List.mem_cons_self
    have m := mul_bd (a := n) (b := y) (A := B) (B := 60) (by omega) h2 (by omega) hy.2
    have m1 : 1 ≤ n * y := Int.mul_pos (by omega) (by omega)
    have := fold_bd r (n * y) (B * 60) m1 m.2 (fun x hx => h x (List.mem_cons_of_mem _ hx))
    simp only [List.foldl_cons, List.length_cons]
    refine ⟨this.1, Int.le_trans this.2 ?_⟩
    rw [Int.pow_succ, Int.mul_assoc, Int.mul_comm 60]
    exact Int.le_refl _
theorem train_prod {l : List (Int × Int)} (h : isTrain l = true) : 1 ≤ (l.map (·.1)).foldl (· * ·) 1 ∧ (l.map (·.1)).foldl (· * ·) 1 ≤ 216000 ∧ 1 ≤ (l.map (·.2)).foldl (· * ·) 1 ∧ (l.map (·.2)).foldl (· * ·) 1 ≤ 216000 := by
  obtain ⟨h0, h1, h2⟩ := train_bd h
  have a := fold_bd _ 1 1 (by omega) (by omega) h1
  have b := fold_bd _ 1 1 (by omega) (by omega) h2
  rw [List.length_map] at a b
  have : (60 : Int) ^ l.length ≤ 216000 := by
    have : l.length = 0 ∨ l.length = 1 ∨ l.length = 2 ∨ l.length = 3 := by omega
    rcases this with e | e | e | e <;> rw [e] <;> decide
  omega
theorem at0_eq {l : List Int} {y f : Int} (h0 : 0 ≤ y) (h : l[y.toNat]? = some f) : at0 l y = f := by
  simp only [at0, List.getD_eq_getElem?_getD, h, Option.getD_some]
theorem rise_all {lo hi : Int} : ∀ {l : List Int}, rising lo hi l = true → ∀ y ∈ l, lo ≤ y ∧ y ≤ hi
  | [], _, y, hy => by cases hy
  | [n], h, y, hy => by
    simp only [rising, inR, Bool.and_eq_true, decide_eq_true_eq, List.mem_singleton] at h hy
    subst hy
    exact h
  | n :: m :: r, h, y, hy => by
    simp only [rising, Bool.and_eq_true, inR, decide_eq_true_eq] at h
    rcases List.mem_cons.1 hy with rfl | hy
    · exact h.1.1
    · exact rise_all h.2 y hy
theorem set_bd {n : Nat} {l : List Int} (h : rising 0 ((n : Int) - 1) l = true) {y : Int} (hy : y ∈ l) : 0 ≤ y ∧ y < n := by
  have := rise_all h y hy
  omega
theorem feast_bd {l : List Int} (h : (rising 1 10000 l && decide (l.length ≤ 8)) = true) {y : Int} (hy : y ∈ l) : 1 ≤ y ∧ y ≤ 10000 := by
  rw [Bool.and_eq_true] at h
  exact rise_all h.1 y hy
theorem gcd_le' {x y : Int} (hx : 1 ≤ x) (hy : 1 ≤ y) : 1 ≤ x / (Int.gcd x y : Int) ∧ x / (Int.gcd x y : Int) ≤ x := by
  have hg : 0 < Int.gcd x y := Int.gcd_pos_of_ne_zero_left y (by omega)
  obtain ⟨z, hz⟩ := Int.gcd_dvd_left (a := x) (b := y)
  have hg' : (0 : Int) < (Int.gcd x y : Int) := by omega
  have e : x / (Int.gcd x y : Int) = z := Int.ediv_eq_of_eq_mul_right (by omega) hz
  rw [e]
  have hz0 : 0 < z := by
    rcases Int.lt_or_le 0 z with h | h
    · exact h
    · have := Int.mul_nonpos_of_nonneg_of_nonpos (Int.le_of_lt hg') h
      omega
  have := Int.mul_le_mul_of_nonneg_right (by omega : (1 : Int) ≤ (Int.gcd x y : Int)) (by omega : 0 ≤ z)
  omega
theorem turns_bd {l : List (Int × Int)} (h : isTrain l = true) : (1 ≤ (turns l).1 ∧ (turns l).1 ≤ 216000) ∧ 1 ≤ (turns l).2 ∧ (turns l).2 ≤ 216000 := by
  have := train_prod h
  simp only [turns, prodA_fold, prodB_fold]
  have a := gcd_le' (x := (l.map (·.1)).foldl (· * ·) 1) (y := (l.map (·.2)).foldl (· * ·) 1) (by omega) (by omega)
  have b := gcd_le' (x := (l.map (·.2)).foldl (· * ·) 1) (y := (l.map (·.1)).foldl (· * ·) 1) (by omega) (by omega)
  rw [Int.gcd_comm] at b
  omega
end Go.Proofs.Ec
end
section
namespace Go.Proofs.Ec
open Go.RowKit Go.Proofs.Sx Ecl
theorem floor_neg {a b : Int} (hb : 0 < b) (h : a.tmod b < 0) : a / b = a.tdiv b - 1 ∧ a % b = a.tmod b + b := by
  have e := Int.tmod_add_mul_tdiv a b
  have h1 : -b < a.tmod b := by
    have := Int.natAbs_tmod a b
    have h2 : (a.tmod b).natAbs < b.natAbs := by rw [this]; exact Nat.mod_lt _ (by omega)
    omega
  have := (Int.ediv_emod_unique (a := a) (b := b) (r := a.tmod b + b) (q := a.tdiv b - 1) hb).2 ⟨by rw [Int.mul_sub]; omega, by omega, by omega⟩
  exact this
theorem floor_pos {a b : Int} (hb : 0 < b) (h : ¬ a.tmod b < 0) : a / b = a.tdiv b ∧ a % b = a.tmod b := by
  have e := Int.tmod_add_mul_tdiv a b
  have h1 : a.tmod b < b := by
    have := Int.natAbs_tmod a b
    have h2 : (a.tmod b).natAbs < b.natAbs := by rw [this]; exact Nat.mod_lt _ (by omega)
    omega
  exact (Int.ediv_emod_unique (a := a) (b := b) (r := a.tmod b) (q := a.tdiv b) hb).2 ⟨e, by omega, h1⟩
theorem tdiv_bd {a b B : Int} (hb : 0 < b) (h : -B ≤ a ∧ a ≤ B) : -B ≤ a.tdiv b ∧ a.tdiv b ≤ B := by
  have := Int.natAbs_tdiv a b
  have h2 : (a.tdiv b).natAbs ≤ a.natAbs := by rw [this]; exact Nat.div_le_self _ _
  omega
theorem tmod_bd {a b : Int} (hb : 0 < b) : -b < a.tmod b ∧ a.tmod b < b := by
  have := Int.natAbs_tmod a b
  have h2 : (a.tmod b).natAbs < b.natAbs := by rw [this]; exact Nat.mod_lt _ (by omega)
  omega
theorem div_bd {a b B : Int} (hb : 0 < b) (h : -B ≤ a ∧ a ≤ B) (hB : 0 ≤ B) : -B ≤ a / b ∧ a / b ≤ B := by
  constructor
  · rw [Int.le_ediv_iff_mul_le hb]
    have := Int.mul_le_mul_of_nonneg_left (by omega : (1 : Int) ≤ b) hB
    have e : -B * b = -(B * b) := Int.neg_mul _ _
    omega
  · have := Int.ediv_le_ediv hb h.2
    have h3 : B / b ≤ B := Int.ediv_le_self _ hB
    omega
theorem mul_bd2 {a b A B : Int} (h1 : -A ≤ a) (h2 : a ≤ A) (h3 : 0 ≤ b) (h4 : b ≤ B) : -(A * B) ≤ a * b ∧ a * b ≤ A * B := by
  have hA : 0 ≤ A := by omega
  have x := Int.mul_le_mul_of_nonneg_right h2 h3
  have y := Int.mul_le_mul_of_nonneg_left h4 hA
  have z := Int.mul_le_mul_of_nonneg_right h1 h3
  rw [Int.neg_mul] at z
  omega
theorem body_bd {b : Body} (h : isBodyB b = true) : (1 ≤ b.num ∧ b.num ≤ 10000) ∧ (1 ≤ b.den ∧ b.den ≤ 10000) ∧ 4 * b.den ≤ b.num ∧ (0 ≤ b.start ∧ b.start ≤ 21599) ∧ (1 ≤ b.road.length ∧ b.road.length ≤ 8) ∧ ∀ y ∈ b.road, -600 ≤ y ∧ y ≤ 600 := by
  simp only [isBodyB, isPeriod, isPlace, inR, Bool.and_eq_true, decide_eq_true_eq, List.all_eq_true] at h
  obtain ⟨⟨⟨⟨⟨h1, h2⟩, h3⟩, h4⟩, h5⟩, h6⟩ := h
  exact ⟨h1, h2, h3, h4, by omega, fun y hy => h6 y hy⟩
theorem sky_bd {e : Eng} (h : isSky e = true) : (1 ≤ e.nnum ∧ e.nnum ≤ 10000) ∧ (1 ≤ e.nden ∧ e.nden ≤ 10000) ∧ (0 ≤ e.nstart ∧ e.nstart ≤ 21599) ∧ (2 ≤ e.bodies.length ∧ e.bodies.length ≤ 4) ∧ ∀ b ∈ e.bodies, isBodyB b = true := by
  simp only [isSky, isPeriod, isPlace, inR, Bool.and_eq_true, decide_eq_true_eq, List.all_eq_true] at h
  obtain ⟨⟨⟨h1, ⟨h2, h3⟩, h4⟩, h5⟩, h6⟩ := h
  exact ⟨h2, h3, h5, by omega, h6⟩
theorem RdS.at0 {w : World} {x : EV} {e : Eng} (h : RdS w x e) {b : BV} (hb : x.bs[0]? = some b) : e.b0 = b.1 := by
  simp only [Eng.b0, h.bs, List.getD_eq_getElem?_getD, List.getElem?_map, hb, Option.map_some, Option.getD_some]
theorem RdS.at1 {w : World} {x : EV} {e : Eng} (h : RdS w x e) {b : BV} (hb : x.bs[1]? = some b) : e.b1 = b.1 := by
  simp only [Eng.b1, h.bs, List.getD_eq_getElem?_getD, List.getElem?_map, hb, Option.map_some, Option.getD_some]
theorem RdS.body {w : World} {x : EV} {e : Eng} (h : RdS w x e) (hs : isSky e = true) {i : Nat} {b : BV} (hb : x.bs[i]? = some b) : isBodyB b.1 = true := by
  refine (sky_bd hs).2.2.2.2 b.1 ?_
  rw [h.bs]
  exact List.mem_map_of_mem (List.mem_of_getElem? hb)
theorem sky2 {w : World} {x : EV} {e : Eng} (h : RdS w x e) (hs : isSky e = true) : 2 ≤ x.bs.length ∧ ∃ b0 b1 : BV, x.bs[0]? = some b0 ∧ x.bs[1]? = some b1 ∧ e.b0 = b0.1 ∧ e.b1 = b1.1 ∧ isBodyB b0.1 = true ∧ isBodyB b1.1 = true := by
  have hl : 2 ≤ x.bs.length := by
    have := (sky_bd hs).2.2.2.1
    rw [h.bs, List.length_map] at this
    omega
  have h0 : x.bs[0]? = some x.bs[0] := List.getElem?_eq_getElem (by omega)
  have h1 : x.bs[1]? = some x.bs[1] := List.getElem?_eq_getElem (by omega)
  exact ⟨hl, _, _, h0, h1, h.at0 h0, h.at1 h1, h.body hs h0, h.body hs h1⟩
theorem gone_bd {num den t : Int} (hn : 1 ≤ num) (hd : 1 ≤ den ∧ den ≤ 10000) (h4 : 4 * den ≤ num) (ht : 0 ≤ t ∧ t ≤ 20000) : 0 ≤ gone num den t ∧ gone num den t ≤ 432000000 := by
  have m1 := mul_bd (a := t * 21600) (b := den) (A := 20000 * 21600) (B := 10000) (by omega) (by omega) (by omega) (by omega)
  have h1 : 0 ≤ gone num den t := Int.ediv_nonneg m1.1 (by omega)
  refine ⟨h1, ?_⟩
  unfold gone
  have : t * 21600 * den / num ≤ t * 21600 * den / den := by
    rw [Int.mul_ediv_cancel _ (by omega)]
    rw [Int.ediv_le_iff_le_mul (by omega)]
    have m2 := Int.mul_le_mul_of_nonneg_left (by omega : den ≤ num) (by omega : 0 ≤ t * 21600)
    omega
  rw [Int.mul_ediv_cancel _ (by omega)] at this
  omega
theorem mean_bd {b : Body} (h : isBodyB b = true) {t : Int} (ht : 0 ≤ t ∧ t ≤ 20000) : 0 ≤ mean b t ∧ mean b t ≤ 433000000 := by
  obtain ⟨h1, h2, h3, h4, h5, h6⟩ := body_bd h
  have := gone_bd h1.1 h2 h3 ht
  unfold mean
  omega
theorem around_bd (n : Int) : 0 ≤ around n ∧ around n ≤ 21599 := by
  unfold around
  omega
theorem road_at {b : Body} (h : isBodyB b = true) (n : Int) : ∃ i : Nat, around n * b.road.length / 21600 = i ∧ i < b.road.length ∧ ((i : Int) + 1) % b.road.length = ((i + 1) % b.road.length : Nat) ∧ (i + 1) % b.road.length < b.road.length := by
  obtain ⟨h1, h2, h3, h4, h5, h6⟩ := body_bd h
  have ha := around_bd n
  have m := mul_bd (a := around n) (b := (b.road.length : Int)) (A := 21599) (B := 8) (by omega) (by omega) (by omega) (by omega)
  have h7 : around n * b.road.length < 21600 * b.road.length := by
    have := Int.mul_le_mul_of_nonneg_right (by omega : around n ≤ 21599) (by omega : (0 : Int) ≤ b.road.length)
    omega
  refine ⟨(around n * b.road.length / 21600).toNat, by omega, by omega, by push_cast; rfl, Nat.mod_lt _ (by omega)⟩
theorem way_bd {b : Body} (h : isBodyB b = true) {t : Int} (ht : 0 ≤ t ∧ t ≤ 20000) : -1800 ≤ way b t ∧ way b t ≤ 433001801 := by
  have hm := mean_bd h ht
  obtain ⟨h1, h2, h3, h4, h5, h6⟩ := body_bd h
  obtain ⟨i, hi, hl, hc, hl2⟩ := road_at h (mean b t)
  obtain ⟨z, hz⟩ : ∃ z, b.road[i]? = some z := ⟨_, List.getElem?_eq_getElem hl⟩
  obtain ⟨y, hy⟩ : ∃ y, b.road[(i + 1) % b.road.length]? = some y := ⟨_, List.getElem?_eq_getElem hl2⟩
  have hz6 := h6 z (List.mem_of_getElem? hz)
  have hy6 := h6 y (List.mem_of_getElem? hy)
  simp only [way, hi]
  rw [hc, at0_eq (by omega) (show b.road[((i : Int)).toNat]? = some z by simpa using hz), at0_eq (by omega) (show b.road[(((i + 1) % b.road.length : Nat) : Int).toNat]? = some y by rw [Int.toNat_natCast]; exact hy)]
  have hr : 0 ≤ around (mean b t) * (b.road.length : Int) % 21600 ∧ around (mean b t) * (b.road.length : Int) % 21600 ≤ 21599 := by omega
  have m := mul_bd2 (a := y - z) (b := around (mean b t) * (b.road.length : Int) % 21600) (A := 1200) (B := 21600) (by omega) (by omega) (by omega) (by omega)
  omega
theorem way_eq {b : Body} {t y z : Int} {i : Nat} (hi : around (mean b t) * b.road.length / 21600 = i) (hc : ((i : Int) + 1) % b.road.length = ((i + 1) % b.road.length : Nat)) (hz : b.road[i]? = some z) (hy : b.road[(i + 1) % b.road.length]? = some y) :
    way b t = mean b t + z + (y - z) * (around (mean b t) * b.road.length % 21600) / 21600 := by
  simp only [way, hi]
  rw [hc, at0_eq (by omega) (show b.road[((i : Int)).toNat]? = some z by simpa using hz), at0_eq (by omega) (show b.road[(((i + 1) % b.road.length : Nat) : Int).toNat]? = some y by rw [Int.toNat_natCast]; exact hy)]
theorem node_bd {e : Eng} (hn : 1 ≤ e.nnum ∧ e.nnum ≤ 10000) (hd : 1 ≤ e.nden ∧ e.nden ≤ 10000) {t : Int} (ht : 0 ≤ t ∧ t ≤ 20000) : 0 ≤ gone e.nnum e.nden t ∧ gone e.nnum e.nden t ≤ 4320000000000 := by
  have m1 := mul_bd (a := t * 21600) (b := e.nden) (A := 20000 * 21600) (B := 10000) (by omega) (by omega) (by omega) (by omega)
  refine ⟨Int.ediv_nonneg m1.1 (by omega), ?_⟩
  have := div_bd (a := t * 21600 * e.nden) (b := e.nnum) (B := 4320000000000) (by omega) (by omega) (by omega)
  unfold gone
  omega
end Go.Proofs.Ec
end
section
namespace Go.Proofs.Ec
open Go.RowKit Go.Proofs.Sx Ecl
def moonsOn (e : Eng) (t : Int) : List (Int × Bool) := (if skyMoon e t false then [(t, false)] else []) ++ (if skyMoon e t true then [(t, true)] else [])
def moonsAll (e : Eng) (a b : Int) : List (Int × Bool) := (days a b).flatMap (moonsOn e)
def eclOf (e : Eng) (m : Int × Bool) : List Ecl.Mark := if skyFar e m.1 ≤ skyLimit e m.2 then [⟨m.1, m.2, skyFar e m.1⟩] else []
theorem skyOn_moons (e : Eng) (t : Int) : (moonsOn e t).flatMap (eclOf e) = skyOn e false t ++ skyOn e true t := by
  unfold moonsOn skyOn eclOf
  cases skyMoon e t false <;> cases skyMoon e t true <;> simp
theorem skyAll_moons (e : Eng) (a b : Int) : skyAll e a b = (moonsAll e a b).flatMap (eclOf e) := by
  unfold skyAll moonsAll
  rw [List.flatMap_assoc]
  congr 1
  funext t
  exact (skyOn_moons e t).symm
theorem moon_ite {α : Type} (c : Prop) [Decidable c] (z : α) : (if c then [z] else []).length ≤ 1 := by split <;> simp
theorem moonsOn_length (e : Eng) (t : Int) : (moonsOn e t).length ≤ 2 := by
  unfold moonsOn
  cases skyMoon e t false <;> cases skyMoon e t true <;> simp
theorem flat_len2 {α β : Type} (f : α → List β) (hf : ∀ x, (f x).length ≤ 2) : ∀ l : List α, (l.flatMap f).length ≤ 2 * l.length
  | [] => by simp
  | x :: r => by
    have := flat_len2 f hf r
    have := hf x
    rw [List.flatMap_cons, List.length_append, List.length_cons]
    omega
theorem pre_len {α β : Type} (f : α → List β) (hf : ∀ x, (f x).length ≤ 2) {pre full : List α} (h : pre <+: full) : (pre.flatMap f).length ≤ 2 * full.length := by
  have h1 := flat_len2 f hf pre
  have h2 := h.length_le
  omega
theorem daysN_len : ∀ (n : Nat) (d : Int), (daysN n d).length = n
  | 0, _ => rfl
  | n + 1, d => by simp [daysN, daysN_len n]
theorem days_len (a b : Int) : (days a b).length = (b + 1 - a).toNat := daysN_len _ _
theorem daysN_snoc : ∀ (k : Nat) (a : Int), daysN (k + 1) a = daysN k a ++ [a + k]
  | 0, a => by simp [daysN]
  | k + 1, a => by
    rw [daysN, daysN_snoc k (a + 1), daysN]
    have e1 : a + 1 + (k : Int) = a + ((k + 1 : Nat) : Int) := by push_cast; omega
    rw [e1, List.cons_append]
theorem daysN_pre {k n : Nat} (h : k ≤ n) (a : Int) : daysN k a <+: daysN n a := by
  induction n with
  | zero => obtain rfl : k = 0 := by omega
            exact List.prefix_refl _
  | succ n ih =>
    rcases Nat.lt_or_ge n k with hk | hk
    · obtain rfl : k = n + 1 := by omega
      exact List.prefix_refl _
    · rw [daysN_snoc]
      exact (ih hk).trans (List.prefix_append _ _)
theorem days_pre {k : Nat} {a b : Int} (h : a + k ≤ b) : daysN k a ++ [a + (k : Int)] <+: days a b := by
  rw [← daysN_snoc]
  exact daysN_pre (by omega) a
theorem days_end {k : Nat} {a b : Int} (h : ¬ a + k ≤ b) (h2 : a + k ≤ b + 1 ∨ k = 0) : daysN k a = days a b := by
  unfold days
  congr 1
  omega
theorem mem_pre {k : Nat} {pre : List Int} {y a b : Int} (h : (pre ++ [y]) <+: days a b) : a ≤ y ∧ y ≤ b := mem_days.1 (h.subset (by simp))
theorem take_flat {α β : Type} {f : α → List β} {l : List α} {k : Nat} {y : α} (h : l[k]? = some y) : (l.take (k + 1)).flatMap f = (l.take k).flatMap f ++ f y := by rw [take_snoc h, List.flatMap_append]; simp
theorem ecl_len (e : Eng) : ∀ l : List (Int × Bool), (l.flatMap (eclOf e)).length ≤ l.length
  | [] => by simp
  | m :: r => by
    have := ecl_len e r
    have h1 : (eclOf e m).length ≤ 1 := by unfold eclOf; split <;> simp
    rw [List.flatMap_cons, List.length_append, List.length_cons]
    omega
theorem ecl_take (e : Eng) (l : List (Int × Bool)) (k : Nat) : ((l.take k).flatMap (eclOf e)).length ≤ k := by
  have := ecl_len e (l.take k)
  rw [List.length_take] at this
  omega
theorem moons_len (e : Eng) {a b : Int} (h : b - a ≤ 800) : (moonsAll e a b).length ≤ 1602 := by
  have := flat_len2 (moonsOn e) (moonsOn_length e) (days a b)
  rw [days_len] at this
  unfold moonsAll
  omega
theorem moons_mem {e : Eng} {a b : Int} {y : Int × Bool} (h : y ∈ moonsAll e a b) : a ≤ y.1 ∧ y.1 ≤ b := by
  obtain ⟨t, ht, hy⟩ := List.mem_flatMap.1 h
  have := mem_days.1 ht
  have : y.1 = t := by
    unfold moonsOn at hy
    rw [List.mem_append] at hy
    rcases hy with hy | hy <;> · split at hy <;> simp_all
  omega
theorem isLimit_of {n : Int} (h : 0 ≤ n ∧ n ≤ 5400) : isLimit n = true := by simp only [isLimit, inR, Bool.and_eq_true, decide_eq_true_eq]; exact h
theorem span_of {a b : Int} (h : (1 ≤ a ∧ a ≤ 20000) ∧ (a ≤ b ∧ b ≤ 20000) ∧ b - a ≤ 800) : (inR a 1 20000 && inR b a 20000 && decide (b - a ≤ 800)) = true := by
  simp only [inR, Bool.and_eq_true, decide_eq_true_eq]
  omega
end Go.Proofs.Ec
end
section
namespace Go.Proofs.Ec
open Go.RowKit Go.Proofs.Sx Ecl
def encH (h : Hand) : List Value := [.int .i64 h.sun, .int .i64 h.moon, .int .i64 h.node]
abbrev hE (e : Eng) (st : List Int) : Int → List Value := fun d => encH (hands e st d)
structure RdE (w : World) (x : EV) (e : Eng) (s2 : SV) (st : List Int) : Prop where
  g : RdG w x e
  s : Rd w encI 1 s2.v st
  ok : isEngine e = true
  set : isSet e st = true
variable {w w' w0 : World} {x : EV} {e : Eng} {s2 : SV} {st : List Int} {c : Cx} {hl : HL}
theorem RdE.below (h : RdE w x e s2 st) (k : Below w.heap.size w w') : RdE w' x e s2 st := ⟨h.g.below k, h.s.below (by decide) k, h.ok, h.set⟩
theorem RdE.keep (h : RdE w0 x e s2 st) (hp : Hp c w0 w hl) (hc : Cl c w0) : RdE w x e s2 st := ⟨h.g.keep hp hc, h.s.keep (by decide) hp hc, h.ok, h.set⟩
structure EngOk (e : Eng) : Prop where
  sun : isTrain e.sun = true
  moon : isTrain e.moon = true
  node : isTrain e.node = true
  sky : isSky e = true
  slow : 0 < slow e
  feasts : (rising 1 10000 e.feasts && decide (e.feasts.length ≤ 8)) = true
  new : 0 ≤ e.new ∧ e.new ≤ 5400
  full : 0 ≤ e.full ∧ e.full ≤ 5400
  wide : 0 ≤ e.wide ∧ e.wide ≤ 5400
theorem eng_ok (h : isEngine e = true) : EngOk e := by
  simp only [isEngine, Bool.and_eq_true, decide_eq_true_eq, isLimit, inR] at h
  obtain ⟨⟨⟨⟨⟨⟨⟨⟨⟨h1, h2⟩, h3⟩, h4⟩, h5⟩, h6⟩, h7⟩, h8⟩, h9⟩, h10⟩ := h
  exact ⟨h1, h2, h3, h4, h5, by rw [h7, decide_eq_true h6]; rfl, h8, h9, h10⟩
theorem lim_bd (ok : EngOk e) : (0 ≤ skyLimit e false ∧ skyLimit e false ≤ 5400) ∧ (0 ≤ skyLimit e true ∧ skyLimit e true ≤ 5400) ∧ 0 ≤ e.wide ∧ e.wide ≤ 5400 := ⟨ok.new, ok.full, ok.wide⟩
theorem month_ok (a : Bool) (s : Int) : decide ((if a = true then if 0 < s then (0 : Int) else 7 else 2) = 0) = (a && decide (0 < s)) := by
  cases a
  · simp
  · by_cases h : 0 < s <;> simp [h]
theorem period_fr {a b : Int} (h1 : 1 ≤ a ∧ a ≤ 10000) (h2 : 1 ≤ b ∧ b ≤ 10000) : (inR b 0 50000 && inR a 1 50000) = true := by
  simp only [inR, Bool.and_eq_true, decide_eq_true_eq]
  omega
theorem shown_bd {l : List (Int × Int)} (h : isTrain l = true) {fn fd : Int} (hf : 0 < fd) (fe set : List Int) (t : Int) : 0 ≤ shown l fn fd fe set t ∧ shown l fn fd fe set t ≤ 21599 := by
  have hx := turns_bd h
  have hd : 0 < (turns l).2 * fd := Int.mul_pos (by omega) hf
  unfold shown shownX
  generalize fn * lastSet fe t set 0 * (turns l).2 + (turns l).1 * (t - lastSet fe t set 0) * fd = n
  have h1 := Int.emod_nonneg n (by omega : (turns l).2 * fd ≠ 0)
  have h2 := Int.emod_lt_of_pos n hd
  refine ⟨Int.ediv_nonneg (by omega) (by omega), ?_⟩
  have : n % ((turns l).2 * fd) * 21600 / ((turns l).2 * fd) < 21600 := by
    rw [Int.ediv_lt_iff_lt_mul hd]
    rw [Int.mul_comm 21600]
    exact Int.mul_lt_mul_of_pos_right h2 (by omega)
  omega
theorem around_go (n : Int) : (n.tmod 21600 + 21600) % 21600 = around n := by
  unfold around
  have := Int.tmod_add_mul_tdiv n 21600
  omega
theorem tmod_lo (n : Int) : -21600 < n.tmod 21600 ∧ n.tmod 21600 < 21600 := tmod_bd (by omega)
theorem signed_bd (n : Int) : -10800 ≤ signed n ∧ signed n ≤ 10799 := by unfold signed around; omega
theorem hands_bd (e : Eng) (st : List Int) (t : Int) : (0 ≤ (hands e st t).sun ∧ (hands e st t).sun ≤ 21599) ∧ (0 ≤ (hands e st t).moon ∧ (hands e st t).moon ≤ 21599) ∧ 0 ≤ (hands e st t).node ∧ (hands e st t).node ≤ 21599 := ⟨around_bd _, around_bd _, around_bd _⟩
theorem lead_bd (h : Hand) : 0 ≤ lead h ∧ lead h ≤ 21599 := around_bd _
theorem farOf_around0 (n : Int) : farOf n = min (around n % 10800) (10800 - around n % 10800) := by unfold farOf around; omega
theorem isSet_rise (h : isSet e st = true) : rising 0 ((e.feasts.length : Int) - 1) st = true := h
abbrev tl (e : Eng) (st : List Int) (t : Int) : List Ecl.Mark := tellOn e st false t ++ tellOn e st true t
abbrev part (e : Eng) (st : List Int) (A : Int) (k j : Nat) : List Ecl.Mark := (daysN k A).flatMap (tl e st) ++ ([tellOn e st false (A + k), tellOn e st true (A + k)].take j).flatten
theorem tell_no1 {full : Bool} {t : Int} (h : crossed (hands e st (t - 1)) (hands e st t) full = false) : tellOn e st full t = [] := by simp [tellOn, h]
theorem tell_no2 {full : Bool} {t : Int} (h : ¬ handFar (hands e st t) ≤ skyLimit e full + e.wide) : tellOn e st full t = [] := by simp [tellOn, h]
theorem tell_yes {full : Bool} {t : Int} (h : crossed (hands e st (t - 1)) (hands e st t) full = true) (h2 : handFar (hands e st t) ≤ skyLimit e full + e.wide) : tellOn e st full t = [⟨t, full, handFar (hands e st t)⟩] := by simp [tellOn, h, h2]
theorem flat_pre {α β : Type} (f : α → List β) {p l : List α} (h : p <+: l) : p.flatMap f <+: l.flatMap f := by
  obtain ⟨t, rfl⟩ := h
  rw [List.flatMap_append]
  exact List.prefix_append _ _
theorem part_pre {A hi : Int} {k j : Nat} (hk : A + k ≤ hi) (hj : j ≤ 2) : part e st A k j <+: tellAll e st A hi := by
  have h1 : (daysN (k + 1) A).flatMap (tl e st) <+: tellAll e st A hi := flat_pre (tl e st) (by rw [daysN_snoc]; exact days_pre hk)
  refine List.IsPrefix.trans ?_ h1
  rw [daysN_snoc, List.flatMap_append]
  refine (List.prefix_append_right_inj _).2 ?_
  have : [A + (k : Int)].flatMap (tl e st) = ([tellOn e st false (A + k), tellOn e st true (A + k)]).flatten := by simp [tl]
  rw [this]
  obtain ⟨t, ht⟩ := List.take_prefix j [tellOn e st false (A + (k : Int)), tellOn e st true (A + k)]
  exact ⟨t.flatten, by rw [← List.flatten_append, ht]⟩
theorem part_pre0 {A hi : Int} {k : Nat} {x : Ecl.Mark} (hk : A + k ≤ hi) (h : tellOn e st false (A + k) = [x]) : part e st A k 0 ++ [x] <+: tellAll e st A hi := by
  have := part_pre (e := e) (st := st) (j := 1) hk (by omega)
  have e1 : part e st A k 1 = part e st A k 0 ++ [x] := by simp [part, h]
  rwa [e1] at this
theorem part_pre1 {A hi : Int} {k : Nat} {x : Ecl.Mark} (hk : A + k ≤ hi) (h : tellOn e st true (A + k) = [x]) : part e st A k 1 ++ [x] <+: tellAll e st A hi := by
  have := part_pre (e := e) (st := st) (j := 2) hk (by omega)
  have e1 : part e st A k 2 = part e st A k 1 ++ [x] := by simp [part, h]
  rwa [e1] at this
theorem part_0 (A : Int) (k : Nat) : part e st A k 0 = (daysN k A).flatMap (tl e st) := by simp [part]
theorem part_2 (A : Int) (k : Nat) : part e st A k 2 = (daysN (k + 1) A).flatMap (tl e st) := by
  rw [daysN_snoc, List.flatMap_append]
  simp [part, tl]
theorem part_s0 {A : Int} {k : Nat} {l : List Ecl.Mark} (h : tellOn e st false (A + k) = l) : part e st A k 1 = part e st A k 0 ++ l := by simp [part, h]
theorem part_s1 {A : Int} {k : Nat} {l : List Ecl.Mark} (h : tellOn e st true (A + k) = l) : part e st A k 2 = part e st A k 1 ++ l := by simp [part, h]
theorem part_end {A hi : Int} {k : Nat} (h : ¬ A + k ≤ hi) (h2 : A + k ≤ hi + 1 ∨ k = 0) : part e st A k 0 = tellAll e st A hi := by
  rw [part_0, days_end h h2]
  rfl
end Go.Proofs.Ec
end
section
namespace Go.Proofs.Ec
open Go.RowKit Go.Proofs.Sx Ecl
theorem all_bad {α : Type} {p : α → Bool} {l : List α} {k : Nat} {y : α} (h : l[k]? = some y) (hp : p y = false) : l.all p = false := by
  cases hb : l.all p with
  | false => rfl
  | true =>
    rw [List.all_eq_true] at hb
    rw [hb y (List.mem_of_getElem? h)] at hp
    cases hp
theorem all_snoc {α : Type} {p : α → Bool} {l : List α} {k : Nat} {y : α} (h : l[k]? = some y) (h1 : (l.take k).all p = true) (h2 : p y = true) : (l.take (k + 1)).all p = true := by
  rw [take_snoc h, List.all_append, h1]
  simp [h2]
theorem drop_cons {α : Type} {l : List α} {k : Nat} {y : α} (h : l[k]? = some y) : l.drop k = y :: l.drop (k + 1) := by
  obtain ⟨h1, h2⟩ := List.getElem?_eq_some_iff.1 h
  rw [← h2, List.drop_eq_getElem_cons h1]
theorem skyAll_mem {e : Eng} {a b : Int} {x : Ecl.Mark} (h : x ∈ skyAll e a b) : a ≤ x.day ∧ x.day ≤ b := (mem_skyAll.1 h).1
theorem missed_max {e : Eng} {st : List Int} {a b late : Int} (h : 1 ≤ a) : (skyAll e (max 1 a) b).filter (fun x => !told e st x late) = missed e st a b late := by
  rw [show max 1 a = a by omega]
  rfl
theorem len0 {α : Type} (l : List α) : decide ((l.length : Int) = 0) = l.isEmpty := by cases l <;> simp <;> omega
theorem least_go {p : Int → Bool} {k : Nat} (hk : k < 31) (h : p k = false) : leastFrom p (31 - k) k = leastFrom p (31 - (k + 1)) ((k + 1 : Nat) : Int) := by
  have e1 : 31 - k = (31 - (k + 1)) + 1 := by omega
  rw [e1, leastFrom, h]
  simp only [Bool.false_eq_true, if_false]
  congr 1
theorem least_hit {p : Int → Bool} {k : Nat} (hk : k < 31) (h : p k = true) : leastFrom p (31 - k) k = some (k : Int) := by
  have e1 : 31 - k = (31 - (k + 1)) + 1 := by omega
  rw [e1, leastFrom, h]
  rfl
theorem until_nil {e : Eng} {st : List Int} {a b late : Int} (h : missed e st a b late = []) : until_ e st a b late = b := by unfold until_; rw [h]
theorem until_cons {e : Eng} {st : List Int} {a b late : Int} {y : Ecl.Mark} (h : (missed e st a b late)[0]? = some y) : until_ e st a b late = y.day - 1 := by
  unfold until_
  cases hm : missed e st a b late with
  | nil => rw [hm] at h; cases h
  | cons x r => rw [hm] at h; cases h; rfl
abbrev lwF (e : Eng) (st : List Int) (full : Bool) (z t : Int) : Int := if crossed (hands e st (t - 1)) (hands e st t) full then min z (max 0 (handFar (hands e st t) - skyLimit e full)) else z
theorem lw_snoc (e : Eng) (st : List Int) (full : Bool) (j : Nat) (A : Int) : (daysN (j + 1) A).foldl (lwF e st full) 10800 = lwF e st full ((daysN j A).foldl (lwF e st full) 10800) (A + j) := by
  rw [daysN_snoc, List.foldl_append]
  rfl
theorem far_bd (h : Hand) : 0 ≤ handFar h ∧ handFar h ≤ 5400 := by unfold handFar farOf; omega
theorem lw_bd (e : Eng) (st : List Int) (full : Bool) : ∀ (l : List Int) (z : Int), 0 ≤ z ∧ z ≤ 10800 → 0 ≤ l.foldl (lwF e st full) z ∧ l.foldl (lwF e st full) z ≤ 10800
  | [], z, h => h
  | t :: r, z, h => by
    rw [List.foldl_cons]
    refine lw_bd e st full r _ ?_
    unfold lwF
    split <;> omega
theorem lw_end {e : Eng} {st : List Int} {lt : Int} {y : Ecl.Mark} {j : Nat} (h : ¬ max 1 (y.day - lt) + j ≤ y.day + lt) (h2 : max 1 (y.day - lt) + j ≤ y.day + lt + 1 ∨ j = 0) : (daysN j (max 1 (y.day - lt))).foldl (lwF e st y.full) 10800 = leastWide e st lt y := by
  rw [days_end h h2]
  rfl
theorem wd_snoc {e : Eng} {st : List Int} {lt : Int} {l : List Ecl.Mark} {k : Nat} {y : Ecl.Mark} (h : l[k]? = some y) : (l.take (k + 1)).foldl (fun z y => max z (leastWide e st lt y)) 0 = max ((l.take k).foldl (fun z y => max z (leastWide e st lt y)) 0) (leastWide e st lt y) := by
  rw [take_snoc h, List.foldl_append]
  rfl
theorem filter_snoc {α : Type} {p : α → Bool} {l : List α} {k : Nat} {y : α} (h : l[k]? = some y) : (l.take (k + 1)).filter p = (l.take k).filter p ++ (if p y then [y] else []) := by
  rw [take_snoc h, List.filter_append]
  congr 1
  simp only [List.filter_cons, List.filter_nil]
theorem filter_take_len {α : Type} {p : α → Bool} (l : List α) (k : Nat) : ((l.take k).filter p).length ≤ k := by
  have h1 := List.length_filter_le p (l.take k)
  rw [List.length_take] at h1
  omega
theorem sky_len (e : Eng) {a b : Int} {n : Nat} (h : b - a ≤ n) : (skyAll e a b).length ≤ 2 * n + 2 := by
  have := skyAll_length (e := e) a b
  omega
theorem tell_len (e : Eng) (st : List Int) {a b : Int} {n : Nat} (h : b - a ≤ n) : (tellAll e st a b).length ≤ 2 * n + 2 := by
  have := tellAll_length (e := e) (set := st) a b
  omega
theorem any_pre {α : Type} {p : α → Bool} {l r : List α} (h : l <+: r) (h1 : l.any p = true) : r.any p = true := by
  obtain ⟨t, rfl⟩ := h
  rw [List.any_append, h1, Bool.true_or]
end Go.Proofs.Ec
end
section
namespace Go.Proofs.Ec
open Go.RowKit Go.Proofs.Sx Ecl
variable {r : Option Nat} {ds : List Deferred} {P : Program} {ops : Array Oper} {Q : Exit → Act → World → Prop} {K : Act → World → Prop} {N : Nat} {a : Act} {l : AL} {w w' w0 : World} {c : Cx} {hl : HL} {u v : Value} {x y z : Operand} {dst : Option Nat} {d t t1 t2 ty : Nat} {pos : String} {af : Array Edge} {gd : Option (Nat × Bool)}
def encT (s : Bs) : List Value := [.string (bs s)]
theorem sad {a1 a2 : Bs} (h : Has ds N a l) (hx : ev l x = some (.string (bs a1))) (hy : ev l y = some (.string (bs a2))) (hs : a1.length + a2.length ≤ 9223372036854775807) : (execOp a.eval ⟨dst, .binOp .add t1 x y t2, ty, pos, af, gd⟩).run P w = .ok (.value (.string (bs (a1 ++ a2)))) w := by
  have := sadd (P := P) (w := w) (dst := dst) (t1 := t1) (t2 := t2) (ty := ty) (pos := pos) (af := af) (gd := gd) h hx hy (by rw [bs_size, bs_size]; exact hs)
  rwa [bs_add] at this
theorem seB {a1 a2 : Bs} (h : Has ds N a l) (hx : ev l x = some (.string (bs a1))) (hy : ev l y = some (.string (bs a2))) : (execOp a.eval ⟨dst, .binOp .eql t1 x y t2, ty, pos, af, gd⟩).run P w = .ok (.value (.bool (a1 == a2))) w := by
  have := seql (P := P) (w := w) (dst := dst) (t1 := t1) (t2 := t2) (ty := ty) (pos := pos) (af := af) (gd := gd) h hx hy
  rwa [bs_data, bs_data] at this
theorem snB {a1 a2 : Bs} (h : Has ds N a l) (hx : ev l x = some (.string (bs a1))) (hy : ev l y = some (.string (bs a2))) : (execOp a.eval ⟨dst, .binOp .neq t1 x y t2, ty, pos, af, gd⟩).run P w = .ok (.value (.bool (!(a1 == a2)))) w := by
  have := sneq (P := P) (w := w) (dst := dst) (t1 := t1) (t2 := t2) (ty := ty) (pos := pos) (af := af) (gd := gd) h hx hy
  rwa [bs_data, bs_data] at this
theorem leB {s : Bs} {tt : TypeId} {ats : List TypeId} (h : Has ds N a l) (hx : ev l x = some (.string (bs s))) (ht : P.underlying tt = some .string) : (execOp a.eval ⟨dst, .call ⟨.builtin .len, #[x], (tt :: ats).toArray⟩, ty, pos, af, gd⟩).run P w = .ok (.value (.int .i64 s.length)) w := by
  have := lenS (P := P) (w := w) (dst := dst) (ty := ty) (pos := pos) (af := af) (gd := gd) (ats := ats) h hx ht
  rwa [bs_size] at this
theorem siB {s : Bs} {k : IntKind} {j : Int} (i : Nat) {b : UInt8} (h : Has ds N a l) (hx : ev l x = some (.string (bs s))) (hy : ev l y = some (.int k j)) (ht : P.underlying t = some .string) (hj : j = i) (hc : s[i]? = some b) : (execOp a.eval ⟨dst, .index t x y, ty, pos, af, gd⟩).run P w = .ok (.value (.int .u8 b.toNat)) w :=
  sidx h hx hy ht hj (by rw [bs_data]; exact hc)
theorem cvW {k k' : IntKind} {n : Int} (h : Has ds N a l) (hx : ev l x = some (.int k' n)) (hs : (P.underlying t1).isSome = true) (ht : P.underlying t2 = some (.int k)) (hw : k.wrap n = n) : (execOp a.eval ⟨dst, .convert t1 t2 x, ty, pos, af, gd⟩).run P w = .ok (.value (.int k n)) w := by
  have := cvi (w := w) (dst := dst) (ty := ty) (pos := pos) (af := af) (gd := gd) h hx hs ht
  rwa [hw] at this
theorem sbk {k : IntKind} {p q : Int} (h : Has ds N a l) (hx : ev l x = some (.int k p)) (hy : ev l y = some (.int k q)) (hw : k.wrap (p - q) = p - q) : (execOp a.eval ⟨dst, .binOp .sub t1 x y t2, ty, pos, af, gd⟩).run P w = .ok (.value (.int k (p - q))) w :=
  run2 h hx hy (fun ρ e1 e2 => by simp only [execOp, e1, e2]; rw [show (p - q) = k.wrap (p - q) from hw.symm]; cases k <;> rfl)
theorem wr32 {n : Int} (h : -2147483648 ≤ n ∧ n ≤ 2147483647) : IntKind.i32.wrap n = n := by rw [IntKind.wrap_i32]; omega
theorem Hp.a2b {g e : Nat} {s : Bs} (h : Hp c w0 w (.blk g (.cells #[.string (bs s)] e (0, 0)) :: hl)) : Hp c w0 w (.buf e 1 (.slice (some ⟨g, 0, none⟩) 1 1) 1 [.string (bs s)] :: hl) := by
  have hm := h.at' (p := .blk g (.cells #[.string (bs s)] e (0, 0))) (by simp)
  have hne := List.pairwise_cons.1 h.ne
  have hg : w.heap[g]? = some (.cells #[.string (bs s)] e (0, 0)) := hm.2.1
  refine Hp.of h.ext h.inv (fun p hp => ?_) (List.pairwise_cons.2 ⟨fun q hq k hk => ?_, hne.2⟩)
  · rcases List.mem_cons.1 hp with rfl | hp
    · refine ⟨trivial, ⟨by simp, .inr ⟨g, 1, #[.string (bs s)], rfl, (hm.2.2 g rfl).1, hg, Nat.le_refl _, by unfold maxLen; omega, by simp, by simp⟩⟩, fun k hk => ?_⟩
      have hk : some g = some k := hk
      cases hk
      exact hm.2.2 g rfl
    · exact h.at' (List.mem_cons_of_mem _ hp)
  · have hk : some g = some k := hk
    cases hk
    exact hne.1 q hq g rfl
theorem rgS {s : Bs} (h : Has ds N a l) (hp : Hp c w0 w hl) (hx : ev l x = some (.string (bs s))) (ht : P.underlying t = some .string)
    (k : ∀ a' w' g, w.heap.size ≤ g → Has ds N a' ((d, .pointer (some ⟨g, 0, none⟩)) :: l) → Hp c w0 w' (hl ++ [.blk g (.stringIter (bs s) 0)]) → K a' w') (hN : Nat.blt d N = true := by rfl) : Stp P ops Q ⟨some d, .range t x, ty, pos, af, none⟩ K a w := by
  refine stp_val h rfl hN rfl (w' := w.iter (bs s) 0) (v := .pointer (some ⟨w.heap.size, 0, none⟩)) ?_ (fun a' h' => k a' _ _ (Nat.le_refl _) h' ?_)
  · simp only [execOp, h.ev hx, Sem.run_bind, run_range_string w t (bs s) ht]
    rfl
  · exact hp.alloc _
theorem nxS {s : Bs} {g p : Nat} (h : Has ds N a l) (hp : Hp c w0 w hl) (hx : ev l x = some (.pointer (some ⟨g, 0, none⟩))) (i : Nat) (hi : nth hl i = some (.blk g (.stringIter (bs s) p)))
    (k1 : ∀ (b : UInt8) a' w' (q n : Nat), s[p]? = some b → (b.toNat < 128 → q = b.toNat ∧ n = 1) → (128 ≤ b.toNat → 128 ≤ q) → q ≤ 2147483647 → Has ds N a' ((d, .tuple #[.bool true, .int .i64 p, .int .i32 q]) :: l) → Hp c w0 w' (hl.set i (.blk g (.stringIter (bs s) (p + n)))) → K a' w')
    (k2 : s.length ≤ p → ∀ a', Has ds N a' ((d, .tuple #[.bool false]) :: l) → K a' w) (hN : Nat.blt d N = true := by rfl) : Stp P ops Q ⟨some d, .next x true, ty, pos, af, none⟩ K a w := by
  have hk : w.heap[g]? = some (.stringIter (bs s) p) := hp.fact hi
  have hlt : g < w.heap.size := (Array.getElem?_eq_some_iff.1 hk).1
  by_cases hs : p < (bs s).size
  · have hs' : p < s.length := by rwa [bs_size] at hs
    obtain ⟨b, hb⟩ : ∃ b, s[p]? = some b := ⟨_, List.getElem?_eq_getElem hs'⟩
    have eb : (bs s)[p]'hs = b := by
      have := (List.getElem?_eq_some_iff.1 hb).2
      rw [← this]
      rfl
    refine stp_val h rfl hN rfl (w' := w.iterAt g (bs s) (p + (Utf8.decode (bs s) p).2)) (v := .tuple #[.bool true, .int .i64 p, .int .i32 (Utf8.decode (bs s) p).1]) ?_ (fun a' h' => k1 b a' _ (Utf8.decode (bs s) p).1 (Utf8.decode (bs s) p).2 hb ?_ ?_ (decode_le _ _) h' ?_)
    · simp only [execOp, h.ev hx, Sem.run_bind, Lib.run_next_any_at w g (bs s) p ty hk hs]
      rfl
    · intro ha
      have := decode_ascii (bs s) p hs (by rw [eb]; exact ha)
      rw [this, eb]
      exact ⟨rfl, rfl⟩
    · intro ha
      exact (decode_high (bs s) p hs (by rw [eb]; exact ha)).1
    · exact hp.put hi (by simp [World.iterAt, hlt]) rfl rfl rfl (by simp [World.iterAt]) (fun k hk => by
        have : ¬ g = k := fun e => hk e.symm
        simp [World.iterAt, Array.getElem?_setIfInBounds, this])
  · have hs' : s.length ≤ p := by rw [bs_size] at hs; omega
    refine stp_val h rfl hN rfl (w' := w) (v := .tuple #[.bool false]) ?_ (fun a' h' => k2 hs' a' h')
    simp only [execOp, h.ev hx, Sem.run_bind, Lib.run_next_end_at w g (bs s) p ty hk hs]
    rfl
structure Glb (w : World) : Prop where
  pow : Lib.TabIs Tryz.prog w "internal/strconv.uint64pow10" .u64 Lib.pow10Tab
  mx : ∃ m, w.cell? ⟨1, 0, none⟩ = some (.int .i64 m)
theorem Glb.of (h : Glb w) (hb : Below w.heap.size w w') : Glb w' := by
  obtain ⟨m, hm⟩ := h.mx
  exact ⟨Go.Joins.tab_stays (by kernel_rfl : Tryz.prog.globalNamed "internal/strconv.uint64pow10" = some (itoa_ren.g 17)) h.pow hb (Nat.le_refl _), m, (World.cell?_of_block (hb.block _ (World.block_lt_of_cell? w _ hm))).trans hm⟩
theorem Glb.keep (h : Glb w0) (hp : Hp c0 w0 w hl) : Glb w := h.of hp.bel
theorem itoa_e (n : Int) (w : World) (hn : -9223372036854775808 ≤ n ∧ n ≤ 9223372036854775807) (hg : Glb w) : Ret Tryz.prog (itoa_ren.f 171) #[.int .i64 n] w fun u w' => u = .string (bs (Lib.itoa n)) ∧ Below w.heap.size w w' := by
  refine (Any.strconv_Itoa itoa_lays n hn.1 hn.2 w hg.pow).mono ?_
  rintro e w' ⟨rfl, k, os, rfl⟩
  exact ⟨_, rfl, rfl, Lib.below_grow _ w (Nat.le_refl _) k os⟩
theorem join_e (s : SV) (xs : List Bs) (sep : Bs) (w : World) (hR : Rd w encT 1 s.v xs) (hb : (Lib.join xs sep).length ≤ 140737488355328) (hn : xs.length ≤ 140737488355328) (h0 : 0 < xs.length) : Ret Tryz.prog (join_ren.f 156) #[s.v, .string (bs sep)] w fun u w' => u = .string (bs (Lib.join xs sep)) ∧ Below w.heap.size w w' := by
  obtain ⟨A, cap, hv, hcap, hA⟩ := hR.sl
  have hA' := hA h0
  have hm : (xs.map bs).map (·.data.toList) = xs := by rw [List.map_map]; simp [Function.comp_def, bs_data]
  have := Any.strings_Join join_lays join_extra (bk s.v) (of s.v) cap (xs.map bs) (bs sep) w (fun j x hx => by
    rw [List.getElem?_map] at hx
    cases hj : xs[j]? with
    | none => rw [hj] at hx; cases hx
    | some y =>
      rw [hj] at hx
      obtain rfl : bs y = x := by simpa using hx
      have := hR.cell j y 0 (.string (bs y)) hj rfl
      simpa using this) (hR.lt (by decide) h0).1 (by simpa using hn) (by simpa using hcap) (by rw [hm, bs_data]; exact hb)
  rw [hm, bs_data, List.length_map] at this
  rw [hv]
  rw [hA']
  refine this.mono ?_
  rintro e w' ⟨rfl, hb⟩
  exact ⟨_, rfl, rfl, hb⟩
theorem split_e (s : Bs) (b : UInt8) (w : World) (hs : s.length < 4294967281) (hg : Glb w) : Ret Tryz.prog (split_ren.f 146) #[.string (bs s), .string (bs [b])] w fun u w' => (∃ s' : SV, u = s'.v ∧ Fr w w' encT 1 s'.v (splitL b s)) ∧ Below w.heap.size w w' := by
  obtain ⟨m, hm⟩ := hg.mx
  have h1 : 1 ≤ (bs [b]).size := by rw [bs_size]; simp
  refine (Any.strings_Split split_lays (by kernel_rfl) (bs s) (bs [b]) m w (by rw [bs_size]; exact hs) hm h1).mono ?_
  rintro e w' ⟨rfl, rfl⟩
  have hd : (Lib.splitB (bs [b]) 0 (Lib.countB (bs s) (bs [b])) (bs s)) = (splitL b s).map bs := by
    have h2 := Lib.splitB_data (bs [b]) 0 (Lib.countB (bs s) (bs [b])) (bs s)
    have h3 : Lib.splitK (bs [b]).data.toList 0 (Lib.countB (bs s) (bs [b])) (bs s).data.toList = splitL b s := by
      rw [← split_eq]
      simp only [Lib.countB, bs_data]
    rw [h3] at h2
    rw [← h2, List.map_map]
    simp [Function.comp_def, bs_of]
  have hl : (splitL b s).length = Lib.countB (bs s) (bs [b]) + 1 := by
    have := Lib.splitB_all (bs [b]) h1 0 (Lib.countB (bs s) (bs [b])) (bs s) rfl
    rw [hd, List.length_map] at this
    exact this
  rw [hd, ← hl, List.map_map]
  have hfit := splitL_len b s
  refine ⟨_, rfl, ⟨⟨some ⟨w.heap.size, 0, none⟩, (splitL b s).length, (splitL b s).length⟩, rfl, ⟨⟨_, _, rfl, Nat.le_refl _, fun _ => rfl⟩, by omega, fun _ _ => rfl, fun i y j u hy hu => ?_⟩, fun _ => Nat.le_refl _⟩, (Below.refl _ _).alloc (Nat.le_refl _) _⟩
  have hj : j = 0 ∧ u = .string (bs y) := by
    cases j with
    | zero => simp [encT] at hu; exact ⟨rfl, hu.symm⟩
    | succ j => simp [encT] at hu
  obtain ⟨rfl, rfl⟩ := hj
  show (w.alloc _).cell? ⟨w.heap.size, 0 + i * 1 + 0, none⟩ = _
  rw [cell_of_row _ _ _ _ _ (0, 0) (heap_alloc_new w _)]
  simp [hy]
end Go.Proofs.Ec
end
section
namespace Go.Proofs.Ec
open Go.RowKit Go.Proofs.Sx Ecl
theorem engine_ref (e : Eng) : isEngine e = (isSky e && isTrain e.sun && isTrain e.moon && isTrain e.node && (rising 1 10000 e.feasts && decide (e.feasts.length ≤ 8)) && isLimit e.new && isLimit e.full && isLimit e.wide && decide (0 < slow e)) := by
  unfold isEngine
  rw [Bool.eq_iff_iff]
  simp only [Bool.and_eq_true]
  constructor
  · rintro ⟨⟨⟨⟨⟨⟨⟨⟨⟨h1, h2⟩, h3⟩, h4⟩, h5⟩, h6⟩, h7⟩, h8⟩, h9⟩, h10⟩
    exact ⟨⟨⟨⟨⟨⟨⟨⟨h4, h1⟩, h2⟩, h3⟩, h7, h6⟩, h8⟩, h9⟩, h10⟩, h5⟩
  · rintro ⟨⟨⟨⟨⟨⟨⟨⟨h4, h1⟩, h2⟩, h3⟩, h7, h6⟩, h8⟩, h9⟩, h10⟩, h5⟩
    exact ⟨⟨⟨⟨⟨⟨⟨⟨⟨h1, h2⟩, h3⟩, h4⟩, h5⟩, h6⟩, h7⟩, h8⟩, h9⟩, h10⟩
theorem RdE.wide {w : World} {x : EV} {e : Eng} {s2 : SV} {st : List Int} (h : RdE w x e s2 st) {n : Int} (hn : isLimit n = true) : RdE w x { e with wide := n } s2 st := by
  refine ⟨⟨⟨h.g.sky.b, h.g.sky.bs, h.g.sky.road⟩, h.g.s, h.g.m, h.g.n, h.g.f⟩, h.s, ?_, h.set⟩
  have := h.ok
  rw [engine_ref] at this ⊢
  simp only [Bool.and_eq_true] at this ⊢
  exact ⟨⟨this.1.1, hn⟩, this.2⟩
end Go.Proofs.Ec
end
section
namespace Go.Proofs.Ec
open Go.RowKit Go.Proofs.Sx Ecl
variable {e : Eng} {st : List Int}
def mnF (y : Ecl.Mark) (lt : Int) (z : Int) (m : Ecl.Mark) : Int := if (beside [m] y lt && (decide (z < 0) || decide (m.far < z))) = true then m.far else z
def mn (L : List Ecl.Mark) (y : Ecl.Mark) (lt : Int) : Int := L.foldl (mnF y lt) (-1)
end Go.Proofs.Ec
end
section
namespace Go.Proofs.Ec
open Go.RowKit Go.Proofs.Sx Ecl
def cmpI (x y : Int) : Int := if x < y then -1 else if y < x then 1 else 0
def orL : List Int → Int
  | [] => 0
  | x :: r => if x = 0 then orL r else x
theorem or_at {l : List Int} {k : Nat} {y : Int} (h : l[k]? = some y) : orL (l.drop k) = if y = 0 then orL (l.drop (k + 1)) else y := by rw [drop_cons h]; rfl
theorem cmpL_at {d1 d2 : List Int} {k : Nat} {y z : Int} (h1 : d1[k]? = some y) (h2 : d2[k]? = some z) : cmpL (d1.drop k) (d2.drop k) = if cmpI y z = 0 then cmpL (d1.drop (k + 1)) (d2.drop (k + 1)) else cmpI y z := by
  rw [drop_cons h1, drop_cons h2, cmpL]
  unfold cmpI
  split
  · rfl
  · split
    · rfl
    · rw [if_pos rfl]
theorem cmpL_long {d1 d2 : List Int} {k : Nat} {y : Int} (h1 : d1[k]? = some y) (h2 : d2.length ≤ k) : cmpL (d1.drop k) (d2.drop k) = 1 := by rw [drop_cons h1, List.drop_eq_nil_of_le h2]; rfl
theorem cmpL_end {d1 d2 : List Int} {k : Nat} (h1 : k = d1.length) (h2 : k ≤ d2.length) : cmpL (d1.drop k) (d2.drop k) = if d1.length < d2.length then -1 else 0 := by
  subst h1
  rw [List.drop_length]
  split
  · rename_i h
    obtain ⟨z, hz⟩ : ∃ z, d2[d1.length]? = some z := ⟨_, List.getElem?_eq_getElem h⟩
    rw [drop_cons hz]
    rfl
  · rw [List.drop_eq_nil_of_le (by omega)]
    rfl
theorem or2 (c1 c2 : Int) : orL [c1, c2] = if c1 = 0 then c2 else c1 := by
  unfold orL orL orL
  split
  · split
    · rename_i h; exact h.symm
    · rfl
  · rfl
theorem better_or (d1 d2 : List Int) : better d1 d2 = decide (orL [cmpI d1.length d2.length, cmpL d1 d2] < 0) := by
  rw [or2]
  by_cases h1 : d1.length < d2.length
  · rw [better, if_pos h1, show cmpI d1.length d2.length = -1 from if_pos (by omega)]
    rfl
  · by_cases h2 : d2.length < d1.length
    · rw [better, if_neg h1, if_pos h2, show cmpI d1.length d2.length = 1 from by rw [cmpI, if_neg (by omega), if_pos (by omega)]]
      rfl
    · rw [better, if_neg h1, if_neg h2, show cmpI d1.length d2.length = 0 from by rw [cmpI, if_neg (by omega), if_neg (by omega)], if_pos rfl]
theorem bestOf_snoc {ls : List (List Int)} {k : Nat} {y : List Int} (h : ls[k]? = some y) : bestOf (ls.take (k + 1)) = some (match bestOf (ls.take k) with | none => y | some z => if better y z then y else z) := by
  rw [take_snoc h]
  cases hq : ls.take k with
  | nil => rfl
  | cons x r => simp [bestOf, List.foldl_append]
theorem bestOf_first {ls : List (List Int)} {y : List Int} (h : ls[0]? = some y) : bestOf (ls.take 1) = some y := by rw [bestOf_snoc h]; rfl
abbrev PL := List (SV × List Int)
def encS (p : SV × List Int) : List Value := [p.1.v]
def rdsF (pool : PL) (W : World) : Prop := ∀ p ∈ pool, Rd W encI 1 p.1.v p.2
abbrev rdsE (pool : PL) : En := .fct (fun k => ∃ p ∈ pool, 0 < p.2.length ∧ k = bk p.1.v) (rdsF pool)
variable {w w' w0 : World} {c : Cx} {hl : HL}
theorem Hp.rds (h : Hp c w0 w hl) : Hp c w0 w (rdsE [] :: hl) := Hp.of h.ext h.inv (fun p hp => by
  rcases List.mem_cons.1 hp with rfl | hp
  · exact ⟨fun w1 w2 _ _ p hp => (by simp at hp), (fun p hp => by simp at hp), fun k hk => by obtain ⟨p, hp, -⟩ := hk; simp at hp⟩
  · exact h.at' hp) (List.pairwise_cons.2 ⟨fun q hq k hk => by obtain ⟨p, hp, -⟩ := hk; simp at hp, h.ne⟩)
theorem Hp.poolR {pool : PL} {i : Nat} {p : SV × List Int} (h : Hp c w0 w hl) (hi : nth hl i = some (rdsE pool)) (hm : p ∈ pool) : Rd w encI 1 p.1.v p.2 := by
  have : rdsF pool w := h.fact hi
  exact this p hm
theorem Hp.intoPool {pool : PL} {s : SV} {ys : List Int} {n : Nat} {xs : List Value} {e : Nat} (h : Hp c w0 w (.buf e 1 s.v n xs :: rdsE pool :: hl)) (hx : xs = ys.flatMap encI) (hn : n = ys.length) : Hp c w0 w (rdsE ((s, ys) :: pool) :: hl) := by
  have h := Hp.b2r h hx hn (fun _ _ => rfl) (by decide)
  have h1 := h.at' (p := rdE encI 1 s.v ys) (by simp)
  have h2 := h.at' (p := rdsE pool) (by simp)
  have hne := List.pairwise_cons.1 h.ne
  have hne2 := List.pairwise_cons.1 hne.2
  refine Hp.of h.ext h.inv (fun p hp => ?_) (List.pairwise_cons.2 ⟨fun q hq k hk => ?_, hne2.2⟩)
  · rcases List.mem_cons.1 hp with rfl | hp
    · refine ⟨fun w1 w2 hs hf p hp => ?_, fun p hp => ?_, fun k hk => ?_⟩
      · have hr : Rd w1 encI 1 p.1.v p.2 := hf p hp
        exact hr.same fun hl => hs _ ⟨p, hp, hl, rfl⟩
      · rcases List.mem_cons.1 hp with rfl | hp
        · exact h1.2.1
        · have : rdsF pool w := h2.2.1
          exact this p hp
      · obtain ⟨p, hp, hl, rfl⟩ := hk
        rcases List.mem_cons.1 hp with rfl | hp
        · exact h1.2.2 _ ⟨hl, rfl⟩
        · exact h2.2.2 _ ⟨p, hp, hl, rfl⟩
    · exact h.at' (List.mem_cons_of_mem _ (List.mem_cons_of_mem _ hp))
  · obtain ⟨p, hp, hl, rfl⟩ := hk
    rcases List.mem_cons.1 hp with rfl | hp
    · exact hne.1 q (List.mem_cons_of_mem _ hq) _ ⟨hl, rfl⟩
    · exact hne2.1 q hq _ ⟨p, hp, hl, rfl⟩
theorem sets_len : ∀ (n : Nat) (d : Int), (sets n d).length = 2 ^ n
  | 0, d => rfl
  | n + 1, d => by rw [sets, List.length_append, List.length_map, sets_len n (d + 1)]; omega
theorem sets_go (n : Nat) (k : Int) (d : List Int) : (sets (n + 1) k).map (d ++ ·) = (sets n (k + 1)).map ((d ++ [k]) ++ ·) ++ (sets n (k + 1)).map (d ++ ·) := by
  rw [sets, List.map_append, List.map_map]
  congr 1
  refine List.map_congr_left fun r _ => ?_
  simp
theorem sets_in1 {n : Nat} {k : Int} {d : List Int} {p : List Int → Prop} (h : ∀ r ∈ sets (n + 1) k, p (d ++ r)) : ∀ r ∈ sets n (k + 1), p ((d ++ [k]) ++ r) := by
  intro r hr
  have := h (k :: r) (by rw [sets]; exact List.mem_append_left _ (List.mem_map_of_mem hr))
  rwa [List.append_assoc]
theorem sets_in2 {n : Nat} {k : Int} {d : List Int} {p : List Int → Prop} (h : ∀ r ∈ sets (n + 1) k, p (d ++ r)) : ∀ r ∈ sets n (k + 1), p (d ++ r) := fun r hr => h r (by rw [sets]; exact List.mem_append_right _ hr)
theorem sets_cnt {n : Nat} {k : Int} {ps qs : PL} {f : List Int → List Int} {p : List Int → Bool} (h : qs.map (·.2) = ps.map (·.2) ++ ((sets n k).map f).filter p) : qs.length ≤ ps.length + 2 ^ n := by
  have h1 := congrArg List.length h
  rw [List.length_append, List.length_map, List.length_map] at h1
  have h2 := List.length_filter_le p ((sets n k).map f)
  rw [List.length_map, sets_len] at h2
  omega
end Go.Proofs.Ec
end
section
namespace Go.Proofs.Ec
open Go.RowKit Go.Proofs.Sx Ecl
section
variable {α : Type} [DecidableEq α] {l1 l2 : List α} {k : Nat} {y z : α}
theorem same_len (h : ¬ l1.length = l2.length) : decide (l1 = l2) = false := decide_eq_false fun e => h (by rw [e])
theorem same_no (h1 : l1[k]? = some y) (h2 : l2[k]? = some z) (hn : ¬ y = z) : decide (l1 = l2) = false := decide_eq_false fun e => hn (by rw [e, h2] at h1; exact (Option.some.inj h1).symm)
omit [DecidableEq α] in
theorem same_go (h1 : l1[k]? = some y) (h2 : l2[k]? = some z) (he : y = z) (h : l1.take k = l2.take k) : l1.take (k + 1) = l2.take (k + 1) := by rw [take_snoc h1, take_snoc h2, h, he]
theorem same_yes (hl : l1.length = l2.length) (h : l1.take l1.length = l2.take l1.length) : decide (l1 = l2) = true := by
  rw [List.take_length, hl, List.take_length] at h
  exact decide_eq_true h
end
theorem mark_eq (y z : Ecl.Mark) : (y.day == z.day && (y.full == z.full) && (y.far == z.far)) = decide (y = z) := by
  rw [Bool.eq_iff_iff]
  simp only [Bool.and_eq_true, beq_iff_eq, decide_eq_true_eq]
  cases y
  cases z
  simp [and_assoc]
section
variable {ds : List Deferred} {P : Program} {ops : Array Oper} {Q : Exit → Act → World → Prop} {K : Act → World → Prop} {N : Nat} {a : Act} {l : AL} {w w' w0 : World} {c : Cx} {hl : HL} {u v : Value} {x y : Operand} {d t ty : Nat} {pos : String} {af : Array Edge}
end
end Go.Proofs.Ec
end
section
namespace Go.Proofs.Ec
open Go.RowKit Go.Proofs.Sx Ecl
theorem dec_len : ∀ (k u : Nat), u < 10 ^ (k + 1) → (Lib.decDigits u).length ≤ k + 1
  | 0, u, h => by rw [Lib.decDigits, dif_pos (by simpa using h)]; simp
  | k + 1, u, h => by
    rw [Lib.decDigits]
    split
    · simp
    · rw [Nat.pow_succ] at h
      have := dec_len k (u / 10) (by omega)
      rw [List.length_append, List.length_cons, List.length_nil]
      omega
theorem itoa_len {n : Int} (h : 0 ≤ n ∧ n ≤ 99999) : (Lib.itoa n).length ≤ 5 := by
  rw [Lib.itoa, if_neg (by omega)]
  exact dec_len 4 _ (by omega)
theorem word_len (b : Bool) : (wordOf b).length ≤ 4 := by cases b <;> decide
structure Small (l : List Ecl.Mark) : Prop where
  len : l.length ≤ 500
  bd : ∀ x ∈ l, (0 ≤ x.day ∧ x.day ≤ 99999) ∧ 0 ≤ x.far ∧ x.far ≤ 99999
theorem line_len {x : Ecl.Mark} (h : (0 ≤ x.day ∧ x.day ≤ 99999) ∧ 0 ≤ x.far ∧ x.far ≤ 99999) : (lineOf x).length ≤ 16 := by
  have := itoa_len h.1
  have := itoa_len h.2
  have := word_len x.full
  simp only [lineOf, List.length_append, List.length_cons, List.length_nil]
  omega
theorem head_len {n : Nat} (h : n ≤ 500) : (headOf n).length ≤ 16 := by
  have := itoa_len (n := (n : Int)) (by omega)
  simp only [headOf, List.length_append, List.length_cons, List.length_nil]
  omega
theorem lines_len {l : List Ecl.Mark} (h : Small l) : (linesOf l).length ≤ 501 ∧ ∀ y ∈ linesOf l, y.length ≤ 16 := by
  refine ⟨by have := h.len; simp [linesOf]; omega, fun y hy => ?_⟩
  rcases List.mem_cons.1 hy with rfl | hy
  · exact head_len h.len
  · obtain ⟨x, hx, rfl⟩ := List.mem_map.1 hy
    exact line_len (h.bd x hx)
theorem lens_le : ∀ (r : List Bs), (∀ y ∈ r, y.length ≤ 16) → Lib.lens r ≤ 16 * r.length
  | [], _ => by simp [Lib.lens]
  | y :: r, h => by
    have h1 := lens_le r (fun z hz => h z (List.mem_cons_of_mem _ hz))
    have h2 := h y List.mem_cons_self
    simp only [Lib.lens, List.map_cons, List.sum_cons, List.length_cons] at h1 ⊢
    omega
theorem join_len {l : List Ecl.Mark} (h : Small l) : (Lib.join (linesOf l) [10]).length ≤ 20000 := by
  obtain ⟨h1, h2⟩ := lines_len h
  have h3 := lens_le _ h2
  rw [linesOf, Lib.join_length]
  rw [linesOf] at h1 h3
  simp only [List.length_cons, List.length_nil] at h1 h3 ⊢
  omega
def decP (D : Bs) (r : Int) (s : Bs) : Prop := (r = 0 ∧ s ≠ [] ∧ s = D) ∨ ((0 < r ∨ s = []) ∧ Lib.decDigits r.toNat ++ s = D)
theorem decP_go {D : Bs} {r : Int} {s : Bs} (hr : 0 ≤ r) (h : decP D r s) (hc : ¬ (r = 0 ∧ s ≠ [])) : decP D (r / 10) (UInt8.ofNat (48 + r % 10).toNat :: s) := by
  rcases h with ⟨h1, h2, -⟩ | ⟨h1, h2⟩
  · exact absurd ⟨h1, h2⟩ hc
  · rw [Lib.decDigits] at h2
    split at h2
    · rename_i hlt
      left
      refine ⟨by omega, by simp, ?_⟩
      rw [← h2, show (48 + r % 10).toNat = 48 + r.toNat by omega]
      rfl
    · right
      refine ⟨.inl (by omega), ?_⟩
      rw [← h2, show (48 + r % 10).toNat = 48 + r.toNat % 10 by omega, show (r / 10).toNat = r.toNat / 10 by omega]
      simp
theorem decP_end {D : Bs} {s : Bs} (h : decP D 0 s) (hs : s ≠ []) : s = D := by
  rcases h with ⟨-, -, h⟩ | ⟨h | h, -⟩
  · exact h
  · omega
  · exact absurd h hs
theorem wr8 {n : Int} (h : 0 ≤ n ∧ n ≤ 255) : IntKind.u8.wrap n = n := by rw [IntKind.wrap_u8]; omega
theorem cvB {P : Program} {ds : List Deferred} {N : Nat} {a : Act} {l : AL} {w w0 : World} {c : Cx} {hl : HL} {x : Operand} {dst : Option Nat} {t1 t2 ty g e e' : Nat} {pos : String} {af : Array Edge} {gd : Option (Nat × Bool)} {n : Int} (h : Has ds N a l) (hp : Hp c w0 w hl) (hx : ev l x = some (.slice (some ⟨g, 0, none⟩) 1 1)) (i : Nat) (hi : nth hl i = some (.blk g (.cells #[.int .u8 n] e (0, 0))))
    (hs : P.underlying t1 = some (.slice e')) (he : P.underlying e' = some (.int .u8)) (hd : P.underlying t2 = some .string) : (execOp a.eval ⟨dst, .convert t1 t2 x, ty, pos, af, gd⟩).run P w = .ok (.value (.string (bs [UInt8.ofNat n.toNat]))) w := by
  have hld : (loadCells ⟨g, 0, none⟩ 1).run P w = .ok ([n].map (Value.int .u8)).toArray w := run_loadCells_list (P := P) w ⟨g, 0, none⟩ [.int .u8 n] (fun j u hu => by rw [Go.WideShapes.add_plain, hp.cellAt hi]; simpa using hu)
  have := run_bytesToString w ⟨g, 0, none⟩ 1 1 [n] hld
  simp only [execOp, h.ev hx, Sem.run_bind, run_convert_bytes_string w t1 t2 e' _ 1 1 hs he hd, this]
  rfl
def textOf (ls : List Bs) : Bs := ls.flatMap fun s => s ++ [10]
theorem textOf_join : ∀ (s : Bs) (r : List Bs), textOf (s :: r) = Lib.join (s :: r) [10] ++ [10]
  | s, [] => by simp [textOf, Lib.join_one]
  | s, t :: r => by
    have ih := textOf_join t r
    have e1 : textOf (s :: t :: r) = (s ++ [10]) ++ textOf (t :: r) := rfl
    rw [e1, ih, Lib.join_cons, Lib.join_cons]
    simp [Lib.joinTail]
theorem textOf_snoc (p : List Bs) (s : Bs) : textOf (p ++ [s]) = textOf p ++ s ++ [10] := by simp [textOf]
theorem textOf_len : ∀ (r : List Bs), (∀ y ∈ r, y.length ≤ 16) → (textOf r).length ≤ 17 * r.length
  | [], _ => by simp [textOf]
  | y :: r, h => by
    have h1 := textOf_len r (fun z hz => h z (List.mem_cons_of_mem _ hz))
    have h2 := h y List.mem_cons_self
    simp only [textOf, List.flatMap_cons, List.length_append, List.length_cons, List.length_nil] at h1 ⊢
    omega
theorem text_ref (l : List Ecl.Mark) : textOf (linesOf l) ++ [101, 110, 100, 32] ++ Lib.itoa (checkOf (linesOf l) / 100) ++ Lib.itoa (checkOf (linesOf l) / 10 % 10) ++ Lib.itoa (checkOf (linesOf l) % 10) ++ [10] = text l := by
  rw [text, linesOf, textOf_join]
  simp
def okC (s : Bs) (c : UInt8) : Bool := digit c && decide (s.length ≤ 5)
theorem dig_eq {b : UInt8} {q n : Nat} (h1 : b.toNat < 128 → q = b.toNat ∧ n = 1) (h2 : 128 ≤ b.toNat → 128 ≤ q) : digit b = (decide ((48 : Int) ≤ q) && decide ((q : Int) ≤ 57)) := by
  unfold digit
  by_cases h : b.toNat < 128
  · obtain ⟨rfl, -⟩ := h1 h
    congr 1
    · exact decide_eq_decide.2 (by omega)
    · exact decide_eq_decide.2 (by omega)
  · have := h2 (by omega)
    rw [decide_eq_false (show ¬ b.toNat ≤ 57 by omega), decide_eq_false (show ¬ ((q : Int) ≤ 57) by omega), Bool.and_false, Bool.and_false]
theorem dig_one {b : UInt8} {q n : Nat} {s : Bs} (h1 : b.toNat < 128 → q = b.toNat ∧ n = 1) (h : okC s b = true) : q = b.toNat ∧ n = 1 ∧ 48 ≤ b.toNat ∧ b.toNat ≤ 57 ∧ s.length ≤ 5 := by
  unfold okC digit at h
  simp only [Bool.and_eq_true, decide_eq_true_eq] at h
  obtain ⟨e1, e2⟩ := h1 (by omega)
  exact ⟨e1, e2, h.1.1, h.1.2, h.2⟩
theorem num_bad {s : Bs} {k : Nat} {b : UInt8} (h : s[k]? = some b) (h2 : okC s b = false) : isNum s = false := by
  rw [isNum, all_bad (p := fun c => digit c && decide (s.length ≤ 5)) h h2, Bool.false_and]
theorem numVal_snoc : ∀ (p : Bs) (z : Int) (c : UInt8), numVal (p ++ [c]) z = 10 * numVal p z + ((c.toNat : Int) - 48)
  | [], _, _ => rfl
  | b :: r, z, c => by rw [List.cons_append, numVal, numVal, numVal_snoc r]
theorem numVal_bd : ∀ (s : Bs) (z : Int) (m : Nat), s.all digit = true → 0 ≤ z → z + 1 ≤ (10 ^ m : Nat) → 0 ≤ numVal s z ∧ numVal s z + 1 ≤ (10 ^ (m + s.length) : Nat)
  | [], z, m, _, h0, h1 => ⟨h0, h1⟩
  | c :: r, z, m, h, h0, h1 => by
    rw [List.all_cons, Bool.and_eq_true] at h
    have hd := h.1
    unfold digit at hd
    simp only [Bool.and_eq_true, decide_eq_true_eq] at hd
    have hp : 10 ^ (m + 1) = 10 ^ m * 10 := Nat.pow_succ _ _
    have := numVal_bd r (10 * z + ((c.toNat : Int) - 48)) (m + 1) h.2 (by omega) (by rw [hp]; push_cast at h1 ⊢; omega)
    rw [List.length_cons, show m + (r.length + 1) = m + 1 + r.length by omega]
    exact this
theorem num_bd {s : Bs} (h : isNum s = true) : 0 ≤ numVal s 0 ∧ numVal s 0 ≤ 99999 := by
  unfold isNum at h
  rw [Bool.and_eq_true, Bool.and_eq_true] at h
  have hne : s ≠ [] := by
    intro e
    rw [e] at h
    simp at h
  have ha := h.1
  rw [List.all_eq_true] at ha
  have hl : s.length ≤ 5 := by
    cases s with
    | nil => exact absurd rfl hne
    | cons c r =>
      have := ha c List.mem_cons_self
      simp only [Bool.and_eq_true, decide_eq_true_eq] at this
      exact this.2
  have hd : s.all digit = true := by
    rw [List.all_eq_true]
    intro c hc
    have := ha c hc
    rw [Bool.and_eq_true] at this
    exact this.1
  have := numVal_bd s 0 0 hd (by omega) (by simp)
  have hp : 10 ^ (0 + s.length) ≤ 10 ^ 5 := Nat.pow_le_pow_right (by decide) (by omega)
  omega
theorem rows_bad : ∀ {L : List Bs} {k : Nat} {y : Bs}, L[k]? = some y → rowOf (splitL 32 y) = none → rowsOf L = none
  | [], k, y, h, _ => by simp at h
  | x :: r, 0, y, h, hn => by
    simp at h
    subst h
    rw [rowsOf, hn]
  | x :: r, k + 1, y, h, hn => by
    rw [rowsOf, rows_bad (L := r) (k := k) (by simpa using h) hn]
    cases rowOf (splitL 32 x) <;> rfl
theorem rows_app : ∀ (L : List Bs) (y : Bs) (out : List Ecl.Mark) (x : Ecl.Mark), rowsOf L = some out → rowOf (splitL 32 y) = some x → rowsOf (L ++ [y]) = some (out ++ [x])
  | [], y, out, x, h, hx => by
    obtain rfl : [] = out := by simpa [rowsOf] using h
    simp [rowsOf, hx]
  | z :: r, y, out, x, h, hx => by
    rw [rowsOf] at h
    cases h1 : rowOf (splitL 32 z) with
    | none => rw [h1] at h; simp at h
    | some m =>
      cases h2 : rowsOf r with
      | none => rw [h1, h2] at h; simp at h
      | some t =>
        rw [h1, h2] at h
        obtain rfl : m :: t = out := by simpa using h
        rw [List.cons_append, rowsOf, h1, rows_app r y t x h2 hx]
        rfl
theorem rows_len : ∀ (L : List Bs) (out : List Ecl.Mark), rowsOf L = some out → out.length = L.length ∧ ∀ x ∈ out, (0 ≤ x.day ∧ x.day ≤ 99999) ∧ 0 ≤ x.far ∧ x.far ≤ 99999
  | [], out, h => by
    obtain rfl : [] = out := by simpa [rowsOf] using h
    simp
  | z :: r, out, h => by
    rw [rowsOf] at h
    cases h1 : rowOf (splitL 32 z) with
    | none => rw [h1] at h; simp at h
    | some m =>
      cases h2 : rowsOf r with
      | none => rw [h1, h2] at h; simp at h
      | some t =>
        rw [h1, h2] at h
        obtain rfl : m :: t = out := by simpa using h
        have ih := rows_len r t h2
        have hm : (0 ≤ m.day ∧ m.day ≤ 99999) ∧ 0 ≤ m.far ∧ m.far ≤ 99999 := by
          unfold rowOf at h1
          split at h1
          · split at h1
            · rename_i hq
              rw [Bool.and_eq_true, Bool.and_eq_true] at hq
              obtain rfl := Option.some.inj h1
              exact ⟨num_bd hq.1.2, num_bd hq.2⟩
            · cases h1
          · cases h1
        refine ⟨by simp [ih.1], fun x hx => ?_⟩
        rcases List.mem_cons.1 hx with rfl | hx
        · exact hm
        · exact ih.2 x hx
theorem row3 {W : List Bs} (h : W.length = 3) : ∃ w0 w1 w2, W[0]? = some w0 ∧ W[1]? = some w1 ∧ W[2]? = some w2 ∧ rowOf W = (if (w0 == wFull || w0 == wNew) && isNum w1 && isNum w2 then some ⟨numVal w1 0, w0 == wFull, numVal w2 0⟩ else none) := by
  match W, h with
  | [a, b, c], _ => exact ⟨a, b, c, rfl, rfl, rfl, rfl⟩
theorem row_no {W : List Bs} (h : ¬ W.length = 3) : rowOf W = none := by
  unfold rowOf
  split
  · simp at h
  · rfl
abbrev partsOf (s : Bs) : List Bs := ((splitL 10 s).drop 1).take ((splitL 10 s).length - 2 - 1)
theorem parse_short {s : Bs} (h : ¬ 3 ≤ (splitL 10 s).length) : parse s = none := by
  unfold parse
  simp only
  rw [if_neg h]
theorem parse_eq {s : Bs} (h : 3 ≤ (splitL 10 s).length) : parse s = match rowsOf (partsOf s) with | some l => if text l == s then some l else none | none => none := by
  unfold parse partsOf
  simp only
  rw [if_pos h, show (splitL 10 s).length - 2 - 1 = (splitL 10 s).length - 3 by omega]
  rfl
theorem parse_no {s : Bs} (h : 3 ≤ (splitL 10 s).length) (h2 : rowsOf (partsOf s) = none) : parse s = none := by rw [parse_eq h, h2]
theorem parse_some {s : Bs} {out : List Ecl.Mark} (h : 3 ≤ (splitL 10 s).length) (h2 : rowsOf (partsOf s) = some out) : parse s = if text out == s then some out else none := by rw [parse_eq h, h2]
theorem parts_len (s : Bs) : (partsOf s).length ≤ s.length + 1 := by
  have := splitL_len 10 s
  rw [partsOf, List.length_take, List.length_drop]
  omega
theorem parts_mem {s y : Bs} (h : y ∈ partsOf s) : y.length ≤ s.length := splitL_mem 10 s y (List.mem_of_mem_drop (List.mem_of_mem_take h))
def readErr (s : Bs) : Int := if 400 < s.length then 3 else match parse s with
  | none => 4
  | some l => if isList l = true then 0 else 2
def readVal (s : Bs) : List Ecl.Mark := if 400 < s.length then [] else match parse s with
  | none => []
  | some l => if isList l = true then l else []
theorem eq_nil (s : Bs) : (s == []) = s.isEmpty := by cases s <;> rfl
theorem door0 {P : Program} {N : Nat} {a : Act} {l : AL} {w : World} {fn : Func} {R : Ending → World → Prop} (h : Has [] N a l) (k : ∃ v, (results fn a.tmps).run P w = .ok v w ∧ R (.returned v) w) : Leaves P fn a.tmps R a.defers .returning w := by
  rw [h.defs]
  exact k
end Go.Proofs.Ec
end
section
namespace Go.Proofs.Ec
open Go.RowKit Go.Proofs.Sx Ecl
def encL (b : Ball) : List Value := [.int .i64 b.x, .int .i64 b.y, .int .i64 b.r]
variable {w w' w0 : World} {c : Cx} {hl : HL}
theorem rd1 {g t : Nat} {x : Int} (h : w.heap[g]? = some (.cells #[.int .i64 x] t (0, 0))) : Rd w encI 1 (SV.v ⟨some ⟨g, 0, none⟩, 1, 1⟩) [x] :=
  ⟨⟨_, 1, rfl, Nat.le_refl _, fun _ => rfl⟩, by simp, fun _ _ => rfl, fun i y j u hy hu => by
    have := flat_at (ys := [x]) (enc := encI) (sz := 1) (fun _ _ => rfl) i y j u hy hu
    rw [show (bk (SV.v ⟨some ⟨g, 0, none⟩, 1, 1⟩)) = g from rfl, show (of (SV.v ⟨some ⟨g, 0, none⟩, 1, 1⟩)) = 0 from rfl, Nat.zero_add, cell_of_row w g _ _ t (0, 0) h]
    simpa [encI] using this⟩
theorem rd2 {g t : Nat} {x y : Int} (h : w.heap[g]? = some (.cells #[.int .i64 x, .int .i64 y] t (0, 0))) : Rd w encI 1 (SV.v ⟨some ⟨g, 0, none⟩, 2, 2⟩) [x, y] :=
  ⟨⟨_, 2, rfl, Nat.le_refl _, fun _ => rfl⟩, by simp, fun _ _ => rfl, fun i z j u hy hu => by
    have := flat_at (ys := [x, y]) (enc := encI) (sz := 1) (fun _ _ => rfl) i z j u hy hu
    rw [show (bk (SV.v ⟨some ⟨g, 0, none⟩, 2, 2⟩)) = g from rfl, show (of (SV.v ⟨some ⟨g, 0, none⟩, 2, 2⟩)) = 0 from rfl, Nat.zero_add, cell_of_row w g _ _ t (0, 0) h]
    simpa [encI] using this⟩
theorem sq_take {l : List Int} {k : Nat} {y : Int} (h : l[k]? = some y) : sqSum (l.take (k + 1)) = sqSum (l.take k) + y * y := by
  rw [take_snoc h]
  generalize l.take k = p
  induction p with
  | nil => simp [sqSum]
  | cons a r ih => simp only [List.cons_append, sqSum, ih]; omega
theorem balls_no {l : List Ball} {k : Nat} {y : Ball} (h : l[k]? = some y) (hb : (okBall y && (l.take k).all (fun a => apartB a y)) = false) : isBalls l = false := by
  rw [isBalls, balls_bad (k := k + 1) (by rw [balls_snoc h, hb, Bool.and_false]), Bool.and_false]
theorem ok_last {y : Ball} (h1 : inR y.x (-100) 100 = true) (h2 : inR y.y (-100) 100 = true) (h3 : inR y.r 1 20 = true) : (!okBall y) = decide (y.x * y.x + y.y * y.y ≤ y.r * y.r) := by
  rw [okBall, h1, h2, h3, Bool.true_and, Bool.true_and, Bool.true_and]
  unfold Ball.pow
  rw [← decide_not]
  exact decide_eq_decide.2 (by omega)
theorem ap_last (z y : Ball) : (!apartB z y) = decide ((y.x - z.x) * (y.x - z.x) + (y.y - z.y) * (y.y - z.y) ≤ (y.r + z.r) * (y.r + z.r)) := by
  rw [apartB, ← decide_not]
  have e1 : (z.x - y.x) * (z.x - y.x) = (y.x - z.x) * (y.x - z.x) := by rw [← Int.neg_mul_neg]; congr 1 <;> omega
  have e2 : (z.y - y.y) * (z.y - y.y) = (y.y - z.y) * (y.y - z.y) := by rw [← Int.neg_mul_neg]; congr 1 <;> omega
  rw [e1, e2, Int.add_comm z.r y.r]
  exact decide_eq_decide.2 (by omega)
theorem balls_take {l : List Ball} {k : Nat} (h : ballsOk (l.take k) = true) {j : Nat} {z : Ball} (hz : (l.take k)[j]? = some z) : BallBd z := okBall_iff.1 (ballsGo_mem h z (List.mem_of_getElem? hz))
end Go.Proofs.Ec
end
section
namespace Go.Proofs.Ec
open Go.RowKit Go.Proofs.Sx Ecl
def prT (l : List Int) (j : Nat) : Int × Int := (l.getD (2 * j) 0, l.getD (2 * j + 1) 0)
theorem prT_eq {l : List Int} {j : Nat} {y z : Int} (h1 : l[2 * j]? = some y) (h2 : l[2 * j + 1]? = some z) : prT l j = (y, z) := by
  simp [prT, List.getD_eq_getElem?_getD, h1, h2]
theorem all2 {α : Type} {p : α → Bool} {l : List α} {a b : α} (h0 : l[0]? = some a) (h1 : l[1]? = some b) : (l.take 2).all p = (p a && p b) := by
  match l, h0, h1 with
  | x :: y :: r, h0, h1 =>
    simp at h0 h1
    subst h0 h1
    simp
def DG (x : EV) (k : Nat) : Prop := k = bk x.b.v ∨ k = bk x.s.v ∨ k = bk x.m.v ∨ k = bk x.n.v ∨ k = bk x.f.v ∨ ∃ y ∈ x.bs, k = bk y.2.v
theorem RdG.same {w w' : World} {x : EV} {e : Eng} (hs : ∀ k, DG x k → w'.heap[k]? = w.heap[k]?) (h : RdG w x e) : RdG w' x e :=
  ⟨⟨h.sky.b.same fun _ => hs _ (.inl rfl), h.sky.bs, fun y hy => (h.sky.road y hy).same fun _ => hs _ (.inr (.inr (.inr (.inr (.inr ⟨y, hy, rfl⟩)))))⟩, h.s.same fun _ => hs _ (.inr (.inl rfl)), h.m.same fun _ => hs _ (.inr (.inr (.inl rfl))), h.n.same fun _ => hs _ (.inr (.inr (.inr (.inl rfl)))), h.f.same fun _ => hs _ (.inr (.inr (.inr (.inr (.inl rfl)))))⟩
abbrev gE (x : EV) (e : Eng) : En := .fct (DG x) (fun w => RdG w x e)
variable {w w' w0 : World} {hl : HL}
theorem RdG.of {w : World} {x : EV} {e e2 : Eng} (h : RdG w x e) (h1 : e2.bodies = e.bodies) (h2 : e2.sun = e.sun) (h3 : e2.moon = e.moon) (h4 : e2.node = e.node) (h5 : e2.feasts = e.feasts) : RdG w x e2 := ⟨⟨h.sky.b, h1 ▸ h.sky.bs, h.sky.road⟩, h2 ▸ h.s, h3 ▸ h.m, h4 ▸ h.n, h5 ▸ h.f⟩
def gEV (ga gb gc gd : Nat) (s1 s2 s3 : SV) : EV where
  b := ⟨some ⟨gc, 0, none⟩, 2, 2⟩
  bs := [(⟨360, 1, 0, [0]⟩, ⟨some ⟨ga, 0, none⟩, 1, 1⟩), (⟨27, 1, 0, [0, 300, 0, -300]⟩, ⟨some ⟨gb, 0, none⟩, 4, 4⟩)]
  s := s1
  m := s2
  n := s3
  f := ⟨some ⟨gd, 0, none⟩, 3, 3⟩
end Go.Proofs.Ec
end
section
namespace Go.Proofs.Ec
open Go.RowKit Go.Proofs.Sx Ecl
theorem it15 : Lib.itoa 15 = [49, 53] := by rw [Lib.itoa, if_neg (by decide)]; simp [Lib.decDigits]
theorem it463 : Lib.itoa 463 = [52, 54, 51] := by rw [Lib.itoa, if_neg (by decide)]; simp [Lib.decDigits]
theorem it1 : Lib.itoa 1 = [49] := by rw [Lib.itoa, if_neg (by decide)]; simp [Lib.decDigits]
theorem it0 : Lib.itoa 0 = [48] := by rw [Lib.itoa, if_neg (by decide)]; simp [Lib.decDigits]
theorem it8 : Lib.itoa 8 = [56] := by rw [Lib.itoa, if_neg (by decide)]; simp [Lib.decDigits]
theorem it9 : Lib.itoa 9 = [57] := by rw [Lib.itoa, if_neg (by decide)]; simp [Lib.decDigits]
def textK : Bs := [101, 99, 108, 105, 112, 115, 101, 115, 32, 49, 10, 102, 117, 108, 108, 32, 49, 53, 32, 52, 54, 51, 10, 101, 110, 100, 32, 48, 56, 57, 10]
def rowK : List Ecl.Mark := [⟨15, true, 463⟩]
theorem linesK : linesOf rowK = [[101, 99, 108, 105, 112, 115, 101, 115, 32, 49], [102, 117, 108, 108, 32, 49, 53, 32, 52, 54, 51]] := by
  simp [linesOf, rowK, headOf, lineOf, wordOf, wFull, it15, it463, it1]
theorem checkK : checkOf (linesOf rowK) = 89 := by rw [linesK]; decide
theorem text_K : text rowK = textK := by
  rw [text]
  simp only [checkK]
  rw [linesK, show (89 : Int) / 100 = 0 by decide, show (89 : Int) / 10 % 10 = 8 by decide, show (89 : Int) % 10 = 9 by decide, it0, it8, it9]
  decide
theorem num15 : isNum [49, 53] = true := by
  rw [isNum, show numVal [49, 53] 0 = 15 by decide, it15]
  decide
theorem num463 : isNum [52, 54, 51] = true := by
  rw [isNum, show numVal [52, 54, 51] 0 = 463 by decide, it463]
  decide
theorem parse_K : parse textK = some rowK := by
  have h1 : partsOf textK = [[102, 117, 108, 108, 32, 49, 53, 32, 52, 54, 51]] := by decide
  have h2 : rowsOf (partsOf textK) = some rowK := by
    rw [h1, rowsOf, show splitL 32 [102, 117, 108, 108, 32, 49, 53, 32, 52, 54, 51] = [wFull, [49, 53], [52, 54, 51]] by decide, rowOf, num15, num463]
    rfl
  rw [parse_some (by decide) h2, text_K]
  rfl
theorem read_K : readErr textK = 0 ∧ readVal textK = rowK := by
  rw [readErr, readVal, if_neg (by decide), if_neg (by decide), parse_K]
  exact ⟨rfl, rfl⟩
end Go.Proofs.Ec
end
