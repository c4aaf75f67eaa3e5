import Derived.Test.YtepjdckdhddfbaaGreatDoorPTc
set_option linter.unusedVariables false
set_option linter.unusedSimpArgs false
namespace Go.Proofs.Ec
open Go.RowKit Go.Proofs.Sx Ecl
theorem splitL_head {c b : UInt8} {r z : Bs} {t : List Bs} (hb : b ≠ c) (h : splitL c r = z :: t) : splitL c (b :: r) = (b :: z) :: t := by rw [splitL, if_neg hb, h]
theorem split_set {c b b2 : UInt8} (hb : b ≠ c) (h2 : b2 ≠ c) : ∀ (s : Bs) (p : Nat), s[p]? = some b → ∃ i j y, (splitL c s)[i]? = some y ∧ y[j]? = some b ∧ splitL c (s.set p b2) = (splitL c s).set i (y.set j b2)
  | [], p, h => by simp at h
  | x :: r, 0, h => by
    obtain rfl : x = b := by simpa using h
    obtain ⟨z, t, hz⟩ : ∃ z t, splitL c r = z :: t := by
      cases hq : splitL c r with
      | nil => exact absurd hq (splitL_ne c r)
      | cons z t => exact ⟨z, t, rfl⟩
    refine ⟨0, 0, x :: z, by rw [splitL_head hb hz]; rfl, rfl, ?_⟩
    rw [List.set_cons_zero, splitL_head h2 hz, splitL_head hb hz]
    rfl
  | x :: r, p + 1, h => by
    obtain ⟨i, j, y, e1, e2, e3⟩ := split_set hb h2 r p (by simpa using h)
    rw [List.set_cons_succ]
    by_cases hx : x = c
    · refine ⟨i + 1, j, y, ?_, e2, ?_⟩
      · rw [splitL, if_pos hx]
        simpa using e1
      · rw [splitL, if_pos hx, splitL, if_pos hx, e3]
        rfl
    · obtain ⟨z, t, hz⟩ : ∃ z t, splitL c r = z :: t := by
        cases hq : splitL c r with
        | nil => exact absurd hq (splitL_ne c r)
        | cons z t => exact ⟨z, t, rfl⟩
      rw [hz] at e1 e3
      cases i with
      | zero =>
        obtain rfl : z = y := by simpa using e1
        refine ⟨0, j + 1, x :: z, by rw [splitL_head hx hz]; rfl, by simpa using e2, ?_⟩
        rw [List.set_cons_zero] at e3
        rw [splitL_head hx e3, splitL_head hx hz]
        rfl
      | succ i =>
        refine ⟨i + 1, j, y, by rw [splitL_head hx hz]; simpa using e1, e2, ?_⟩
        rw [List.set_cons_succ] at e3
        rw [splitL_head hx e3, splitL_head hx hz]
        rfl
theorem lineSum_set (m : Int) {b b2 : UInt8} : ∀ (y : Bs) (k j : Nat), y[j]? = some b → lineSum m k (y.set j b2) = lineSum m k y + ((b2.toNat : Int) - b.toNat) * ((k + j : Nat) + 1) * m
  | [], k, j, h => by simp at h
  | x :: r, k, 0, h => by
    obtain rfl : x = b := by simpa using h
    simp only [List.set_cons_zero, lineSum, Nat.add_zero, Int.sub_mul]
    omega
  | x :: r, k, j + 1, h => by
    rw [List.set_cons_succ, lineSum, lineSum, lineSum_set m r (k + 1) j (by simpa using h), show k + 1 + j = k + (j + 1) by omega]
    omega
theorem allSum_set {y y2 : Bs} : ∀ (ls : List Bs) (i0 i : Nat), ls[i]? = some y → allSum i0 (ls.set i y2) = allSum i0 ls - lineSum ((i0 + i : Nat) + 1) 0 y + lineSum ((i0 + i : Nat) + 1) 0 y2
  | [], i0, i, h => by simp at h
  | x :: r, i0, 0, h => by
    obtain rfl : x = y := by simpa using h
    simp only [List.set_cons_zero, allSum, Nat.add_zero]
    omega
  | x :: r, i0, i + 1, h => by
    rw [List.set_cons_succ, allSum, allSum, allSum_set r (i0 + 1) i (by simpa using h), show i0 + 1 + i = i0 + (i + 1) by omega]
    omega
theorem copr : ∀ x, x < 139 → 0 < x → Nat.Coprime 139 x := by
  unfold Nat.Coprime
  decide
theorem no139 {d : Int} {j i : Nat} (hd : d ≠ 0) (hd9 : -9 ≤ d ∧ d ≤ 9) (hj : j < 138) (hi : i < 138) : ¬ ((d * ((j : Nat) + 1) * ((i : Nat) + 1)) % 139 = 0) := by
  intro h
  have h1 : (139 : Int) ∣ d * ((j : Nat) + 1) * ((i : Nat) + 1) := Int.dvd_of_emod_eq_zero h
  have h2 : (139 : Nat) ∣ (d * ((j : Nat) + 1) * ((i : Nat) + 1)).natAbs := by
    have := Int.natAbs_dvd_natAbs.2 h1
    simpa using this
  rw [Int.natAbs_mul, Int.natAbs_mul, show ((j : Int) + 1).natAbs = j + 1 by omega, show ((i : Int) + 1).natAbs = i + 1 by omega] at h2
  have h3 := (copr (i + 1) (by omega) (by omega)).dvd_of_dvd_mul_right h2
  have h4 := (copr (j + 1) (by omega) (by omega)).dvd_of_dvd_mul_right h3
  have := Nat.le_of_dvd (by omega) h4
  omega
theorem itoa_one {n : Int} (h : 0 ≤ n ∧ n ≤ 9) : (Lib.itoa n).length = 1 := by
  have h1 := Ecl.itoa_len h.1 0 (by omega)
  have h2 := itoa_pos h.1
  omega
theorem itoa_inj {n m : Int} (hn : 0 ≤ n) (hm : 0 ≤ m) (h : Lib.itoa n = Lib.itoa m) : n = m := by
  have := itoa_val hn
  rw [h, itoa_val hm] at this
  exact this.symm
theorem endOf_inj {c d : Int} (hc : 0 ≤ c ∧ c < 139) (hd : 0 ≤ d ∧ d < 139) (h : endOf c = endOf d) : c = d := by
  unfold endOf at h
  have l1 := itoa_one (n := c / 100) (by omega)
  have l2 := itoa_one (n := d / 100) (by omega)
  have l3 := itoa_one (n := c / 10 % 10) (by omega)
  have l4 := itoa_one (n := d / 10 % 10) (by omega)
  have l5 := itoa_one (n := c % 10) (by omega)
  have l6 := itoa_one (n := d % 10) (by omega)
  obtain ⟨h, e1⟩ := List.append_inj' h (by rw [l5, l6])
  obtain ⟨h, e2⟩ := List.append_inj' h (by rw [l3, l4])
  obtain ⟨h, e3⟩ := List.append_inj' h (by rw [l1, l2])
  have e1 := itoa_inj (by omega) (by omega) e1
  have e2 := itoa_inj (by omega) (by omega) e2
  have e3 := itoa_inj (by omega) (by omega) e3
  omega
theorem set_ne {y : Bs} {j : Nat} {b b2 : UInt8} (h : y[j]? = some b) (hb : b2 ≠ b) : y.set j b2 ≠ y := by
  intro e
  have hj := (List.getElem?_eq_some_iff.1 h).1
  have h1 : (y.set j b2)[j]? = some b2 := List.getElem?_set_self hj
  rw [e, h] at h1
  exact hb (Option.some.inj h1).symm
theorem u8_ne {b c : UInt8} (h : b ≠ c) : (b.toNat : Int) ≠ c.toNat := fun e => h (UInt8.toNat_inj.1 (by exact_mod_cast e))
theorem spoilt {l : List Ecl.Mark} (hl : isList l = true) {p : Nat} {b b2 : UInt8} (h : (text l)[p]? = some b) (hd : digit b = true) (hd2 : digit b2 = true) (hne : b2 ≠ b) : parse ((text l).set p b2) = none := by
  cases hm : parse ((text l).set p b2) with
  | none => rfl
  | some m =>
    exfalso
    obtain ⟨hm1, hm2⟩ := parse_sum hm
    have hS : Small l := ⟨by have := (list_marks hl).1; omega, fun x hx => by have := (list_marks hl).2 x hx; omega⟩
    have hl2 := (list_marks hl).1
    have hll := (lines_len hS).2
    obtain ⟨i, j, y, e1, e2, e3⟩ := split_set (c := 10) (digit_ne hd (by decide)) (digit_ne hd2 (by decide)) (text l) p h
    rw [← hm1, split_text hm2, split_text (small_num hS)] at e3
    rw [split_text (small_num hS)] at e1
    have hbl := u8_ne hne
    have hdb : 48 ≤ b.toNat ∧ b.toNat ≤ 57 := by simpa [digit] using hd
    have hdb2 : 48 ≤ b2.toNat ∧ b2.toNat ≤ 57 := by simpa [digit] using hd2
    have c1 := check_bd (linesOf l)
    have c2 := check_bd (linesOf m)
    have hln : (linesOf l).length = l.length + 1 := by simp [linesOf]
    rcases Nat.lt_or_ge i (linesOf l).length with hi | hi
    · rw [List.getElem?_append_left hi] at e1
      rw [List.set_append_left _ _ hi] at e3
      obtain ⟨f1, f2⟩ := List.append_inj' e3 rfl
      have f3 := endOf_inj c2 c1 (List.cons.inj f2).1
      have hy := hll y (List.mem_of_getElem? e1)
      have hj := (List.getElem?_eq_some_iff.1 e2).1
      refine no139 (d := (b2.toNat : Int) - b.toNat) (j := j) (i := i) (by omega) (by omega) (by omega) (by omega) ?_
      rw [f1, checkOf, checkOf, allSum_set _ 0 i e1, lineSum_set _ _ 0 j e2, Nat.zero_add, Nat.zero_add] at f3
      omega
    · rw [List.getElem?_append_right hi] at e1
      rw [List.set_append_right _ _ hi] at e3
      obtain ⟨f1, f2⟩ := List.append_inj' e3 (by simp)
      generalize hq : i - (linesOf l).length = q at e1 f2
      match q with
      | 0 =>
        obtain rfl : endOf (checkOf (linesOf l)) = y := by simpa using e1
        have f3 : endOf (checkOf (linesOf m)) = (endOf (checkOf (linesOf l))).set j b2 := by simpa using f2
        rw [f1] at f3
        exact set_ne e2 hne f3.symm
      | 1 =>
        obtain rfl : [] = y := by simpa using e1
        simp at e2
      | q + 2 => simp at e1
theorem spoilt_read {l : List Ecl.Mark} (hl : isList l = true) {p : Nat} {b b2 : UInt8} (h : (text l)[p]? = some b) (hd : digit b = true) (hd2 : digit b2 = true) (hne : b2 ≠ b) : readErr ((text l).set p b2) = 4 ∧ readVal ((text l).set p b2) = [] := by
  have h1 := spoilt hl h hd hd2 hne
  have h2 := (read_back hl).2
  rw [readErr, readVal, List.length_set, if_neg (by omega), if_neg (by omega), h1]
  exact ⟨rfl, rfl⟩
end Go.Proofs.Ec
