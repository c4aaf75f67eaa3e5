import Derived.Test.YtepjdckdhddfbaaGreatDoorPQc
import Derived.Test.YtepjdckdhddfbaaGreatDoorPQa
set_option linter.unusedVariables false
set_option linter.unusedSimpArgs false
namespace Go.Proofs.Ec
open Go.RowKit Go.Proofs.Sx Ecl
def rowR (w : List Bs) : Option Ecl.Mark := match w with
  | [a, d, f] => if isNum d && isNum f then some ⟨numVal d 0, a == wFull, numVal f 0⟩ else none
  | _ => none
def rowsR : List Bs → Option (List Ecl.Mark)
  | [] => some []
  | l :: r => match rowR (splitL 32 l), rowsR r with
    | some x, some t => some (x :: t)
    | _, _ => none
theorem rowR_of {w : List Bs} {x : Ecl.Mark} (h : rowOf w = some x) : rowR w = some x := by
  unfold rowOf at h
  split at h
  · rename_i a d f
    split at h
    · rename_i hq
      rw [Bool.and_eq_true, Bool.and_eq_true] at hq
      rw [rowR, hq.1.2, hq.2]
      exact h
    · cases h
  · cases h
theorem rowsR_of : ∀ (L : List Bs) (out : List Ecl.Mark), rowsOf L = some out → rowsR L = some out
  | [], out, h => h
  | z :: r, out, h => by
    rw [rowsOf] at h
    cases h1 : rowOf (splitL 32 z) with
    | none => rw [h1] at h; simp at h
    | some m =>
      cases h2 : rowsOf r with
      | none => rw [h1, h2] at h; simp at h
      | some t =>
        rw [h1, h2] at h
        rw [rowsR, rowR_of h1, rowsR_of r t h2]
        exact h
theorem rowsR_bad : ∀ {L : List Bs} {k : Nat} {y : Bs}, L[k]? = some y → rowR (splitL 32 y) = none → rowsR L = none
  | [], k, y, h, _ => by simp at h
  | x :: r, 0, y, h, hn => by
    simp at h
    subst h
    rw [rowsR, hn]
  | x :: r, k + 1, y, h, hn => by
    rw [rowsR, rowsR_bad (L := r) (k := k) (by simpa using h) hn]
    cases rowR (splitL 32 x) <;> rfl
theorem rowsR_app : ∀ (L : List Bs) (y : Bs) (out : List Ecl.Mark) (x : Ecl.Mark), rowsR L = some out → rowR (splitL 32 y) = some x → rowsR (L ++ [y]) = some (out ++ [x])
  | [], y, out, x, h, hx => by
    obtain rfl : [] = out := by simpa [rowsR] using h
    simp [rowsR, hx]
  | z :: r, y, out, x, h, hx => by
    rw [rowsR] at h
    cases h1 : rowR (splitL 32 z) with
    | none => rw [h1] at h; simp at h
    | some m =>
      cases h2 : rowsR r with
      | none => rw [h1, h2] at h; simp at h
      | some t =>
        rw [h1, h2] at h
        obtain rfl : m :: t = out := by simpa using h
        rw [List.cons_append, rowsR, h1, rowsR_app r y t x h2 hx]
        rfl
theorem rowsR_len : ∀ (L : List Bs) (out : List Ecl.Mark), rowsR L = some out → out.length = L.length ∧ ∀ x ∈ out, (0 ≤ x.day ∧ x.day ≤ 99999) ∧ 0 ≤ x.far ∧ x.far ≤ 99999
  | [], out, h => by
    obtain rfl : [] = out := by simpa [rowsR] using h
    simp
  | z :: r, out, h => by
    rw [rowsR] at h
    cases h1 : rowR (splitL 32 z) with
    | none => rw [h1] at h; simp at h
    | some m =>
      cases h2 : rowsR r with
      | none => rw [h1, h2] at h; simp at h
      | some t =>
        rw [h1, h2] at h
        obtain rfl : m :: t = out := by simpa using h
        have ih := rowsR_len r t h2
        have hm : (0 ≤ m.day ∧ m.day ≤ 99999) ∧ 0 ≤ m.far ∧ m.far ≤ 99999 := by
          unfold rowR at h1
          split at h1
          · split at h1
            · rename_i hq
              rw [Bool.and_eq_true] at hq
              obtain rfl := Option.some.inj h1
              exact ⟨num_bd hq.1, num_bd hq.2⟩
            · cases h1
          · cases h1
        refine ⟨by simp [ih.1], fun x hx => ?_⟩
        rcases List.mem_cons.1 hx with rfl | hx
        · exact hm
        · exact ih.2 x hx
theorem rowR3 {W : List Bs} (h : W.length = 3) : ∃ w0 w1 w2, W[0]? = some w0 ∧ W[1]? = some w1 ∧ W[2]? = some w2 ∧ rowR W = (if isNum w1 && isNum w2 then some ⟨numVal w1 0, w0 == wFull, numVal w2 0⟩ else none) := by
  match W, h with
  | [a, b, c], _ => exact ⟨a, b, c, rfl, rfl, rfl, rfl⟩
theorem rowR_no {W : List Bs} (h : ¬ W.length = 3) : rowR W = none := by
  unfold rowR
  split
  · simp at h
  · rfl
theorem rowsR_small {L : List Bs} {out : List Ecl.Mark} (h : rowsR L = some out) (hl : L.length ≤ 500) : Small out := ⟨by rw [(rowsR_len L out h).1]; exact hl, (rowsR_len L out h).2⟩
theorem small_num {l : List Ecl.Mark} (h : Small l) : ∀ x ∈ l, NumM x := fun x hx => by
  have := h.bd x hx
  unfold NumM
  omega
theorem parse_Rn {s : Bs} (h : rowsR (partsOf s) = none) : parse s = none := by
  by_cases h3 : 3 ≤ (splitL 10 s).length
  · refine parse_no h3 ?_
    cases h2 : rowsOf (partsOf s) with
    | none => rfl
    | some o => rw [rowsR_of _ _ h2] at h; cases h
  · exact parse_short h3
theorem parse_Rs {s : Bs} {out : List Ecl.Mark} (h : rowsR (partsOf s) = some out) : parse s = if text out == s then some out else none := by
  by_cases ht : text out = s
  · rw [if_pos (by rw [ht]; exact beq_self_eq_true s), ← ht]
    refine parse_text fun x hx => ?_
    have := (rowsR_len _ _ h).2 x hx
    unfold NumM
    omega
  · rw [if_neg (by rw [beq_iff_eq]; exact ht)]
    by_cases h3 : 3 ≤ (splitL 10 s).length
    · cases h2 : rowsOf (partsOf s) with
      | none => exact parse_no h3 h2
      | some o =>
        have h4 := rowsR_of _ _ h2
        rw [h] at h4
        cases h4
        rw [parse_some h3 h2, if_neg (by rw [beq_iff_eq]; exact ht)]
    · exact parse_short h3
theorem parse_sum {s : Bs} {m : List Ecl.Mark} (h : parse s = some m) : text m = s ∧ ∀ x ∈ m, NumM x := by
  cases h1 : rowsR (partsOf s) with
  | none => rw [parse_Rn h1] at h; cases h
  | some out =>
    rw [parse_Rs h1] at h
    split at h
    · rename_i hq
      cases h
      refine ⟨eq_of_beq hq, fun x hx => ?_⟩
      have := (rowsR_len _ _ h1).2 x hx
      unfold NumM
      omega
    · cases h
def numR (w : Bs) : Int := if isNum w = true then numVal w 0 else -1
theorem numR_neg (w : Bs) : decide (numR w < 0) = !isNum w := by
  unfold numR
  cases h : isNum w with
  | true =>
    have := num_bd h
    rw [if_pos rfl]
    exact decide_eq_false (by omega)
  | false =>
    rw [if_neg (by decide)]
    rfl
theorem numR_of {w : Bs} (h : isNum w = true) : numR w = numVal w 0 := if_pos h
theorem numR_no {w : Bs} (h : isNum w = false) : numR w = -1 := by rw [numR, h]; rfl
theorem isNum_zero {w : Bs} (h : w.length = 0) : isNum w = false := by
  rw [List.eq_nil_of_length_eq_zero h]
  rfl
theorem isNum_long {w : Bs} (h : 5 < w.length) : isNum w = false := by
  cases w with
  | nil => simp at h
  | cons c r =>
    have hd : decide ((c :: r).length ≤ 5) = false := decide_eq_false (by omega)
    rw [isNum, List.all_cons, hd, Bool.and_false, Bool.false_and, Bool.false_and]
theorem u8_dec {y m : UInt8} {q : Int} (hq : q = m.toNat) : decide ((y.toNat : Int) = q) = (y == m) := by
  subst hq
  by_cases h : y = m
  · subst h
    simp
  · have h2 : ¬ (y.toNat : Int) = m.toNat := fun e => h (UInt8.toNat_inj.1 (by exact_mod_cast e))
    rw [decide_eq_false h2]
    simp [h]
structure SplitI (c : UInt8) (s : Bs) (ps : List Bs) (f k : Nat) : Prop where
  le : f ≤ k
  eq : splitL c s = ps ++ splitL c (s.drop f)
  no : ∀ x ∈ (s.drop f).take (k - f), x ≠ c
  len : ps.length ≤ k
theorem SplitI.start (c : UInt8) (s : Bs) : SplitI c s [] 0 0 := ⟨Nat.le_refl _, by simp, by simp, Nat.le_refl _⟩
theorem drop_cut {s : Bs} {f k : Nat} {b : UInt8} (h : f ≤ k) (hb : s[k]? = some b) : s.drop f = (s.drop f).take (k - f) ++ b :: s.drop (k + 1) := by
  obtain ⟨hk, he⟩ := List.getElem?_eq_some_iff.1 hb
  have h1 : (s.drop f).drop (k - f) = b :: s.drop (k + 1) := by
    rw [List.drop_drop, show f + (k - f) = k by omega, List.drop_eq_getElem_cons hk, he]
  rw [← h1, List.take_append_drop]
theorem SplitI.hit {c : UInt8} {s : Bs} {ps : List Bs} {f k : Nat} {b : UInt8} (h : SplitI c s ps f k) (hb : s[k]? = some b) (hc : (b == c) = true) : SplitI c s (ps ++ [(s.drop f).take (k - f)]) (k + 1) (k + 1) := by
  obtain rfl := eq_of_beq hc
  refine ⟨Nat.le_refl _, ?_, by simp, by rw [List.length_append, List.length_singleton]; have := h.len; omega⟩
  have e := splitL_app b _ (s.drop (k + 1)) h.no
  rw [← drop_cut h.le hb] at e
  rw [h.eq, e]
  simp
theorem SplitI.miss {c : UInt8} {s : Bs} {ps : List Bs} {f k : Nat} {b : UInt8} (h : SplitI c s ps f k) (hb : s[k]? = some b) (hc : (b == c) = false) : SplitI c s ps f (k + 1) := by
  refine ⟨by have := h.le; omega, h.eq, fun x hx => ?_, by have := h.len; omega⟩
  have hle := h.le
  rw [show k + 1 - f = (k - f) + 1 by omega, take_snoc (y := b) (by rw [List.getElem?_drop, show f + (k - f) = k by omega]; exact hb), List.mem_append, List.mem_singleton] at hx
  rcases hx with hx | rfl
  · exact h.no x hx
  · simpa using hc
theorem SplitI.done {c : UInt8} {s : Bs} {ps : List Bs} {f : Nat} (h : SplitI c s ps f s.length) : splitL c s = ps ++ [s.drop f] := by
  have h2 := h.no
  rw [List.take_of_length_le (by rw [List.length_drop]; exact Nat.le_refl _)] at h2
  rw [h.eq, splitL_one c _ h2]
end Go.Proofs.Ec
