import Derived.Laws.OwnMore
import Derived.Laws.IdiomCopy
import Derived.Test.YtepjdckdhddfbaaGreatDoorPQb
set_option linter.unusedVariables false
set_option linter.unusedSimpArgs false
namespace Go.Proofs.Sx
open Go.RowKit
variable {ds : List Deferred} {P : Program} {ops : Array Oper} {Q : Exit → Act → World → Prop} {K : Act → World → Prop} {N : Nat} {a : Act} {l : AL} {w w' w0 : World} {c : Cx} {hl : HL} {u v : Value} {x y : Operand} {d t ty : Nat} {pos : String} {af : Array Edge} {sz : Nat}
def putL : List Value → Nat → List Value → List Value
  | xs, _, [] => xs
  | xs, o, v :: r => putL (xs.set o v) (o + 1) r
theorem owns_cells {b e g n cap : Nat} : ∀ (vs : List Value) (o : Nat) (w : World) (xs : List Value), w.ownsRow b e sz (.slice (some ⟨g, 0, none⟩) n cap) n xs →
    (w.setCells g o vs).ownsRow b e sz (.slice (some ⟨g, 0, none⟩) n cap) n (putL xs o vs) ∧ (w.setCells g o vs).os = w.os ∧ (w.setCells g o vs).tape = w.tape ∧ (w.setCells g o vs).output = w.output ∧ w.heap.size ≤ (w.setCells g o vs).heap.size ∧ ∀ k, k < w.heap.size → k ≠ g → (w.setCells g o vs).heap[k]? = w.heap[k]?
  | [], _, w, _, h => ⟨h, rfl, rfl, rfl, Nat.le_refl _, fun _ _ _ => rfl⟩
  | v :: r, o, w, xs, h => by
    obtain ⟨h1, h2⟩ := h.stored o v
    obtain ⟨k1, k2, k3, k4, k5, k6⟩ := owns_cells r (o + 1) _ _ h1
    exact ⟨k1, k2.trans h2.os, k3.trans h2.tape, k4.trans h2.output, Nat.le_trans h2.size k5, fun k hk hn => (k6 k (Nat.lt_of_lt_of_le hk h2.size) hn).trans (h2.block k hk (fun e => hn (by cases e; rfl)))⟩
theorem Hp.bufAt {e n i : Nat} {xs : List Value} (hp : Hp c w0 w hl) (hi : nth hl i = some (.buf e sz v n xs)) (hn : 0 < n) : ∃ g cap, v = .slice (some ⟨g, 0, none⟩) n cap := by
  have h : w.ownsRow w0.heap.size e sz v n xs := hp.fact hi
  rcases h.2 with ⟨-, h0⟩ | ⟨g, cap, cur, hv, -⟩
  · omega
  · exact ⟨g, cap, hv⟩
theorem stB {e g cap n off : Nat} {xs : List Value} (h : Has ds N a l) (hp : Hp c w0 w hl) {us : Array Value} (hx : ev l x = some (.pointer (some ⟨g, off, none⟩))) (hy : ev l y = some (.agg us)) (i : Nat) (hi : nth hl i = some (.buf e sz (.slice (some ⟨g, 0, none⟩) n cap) n xs)) (ht : szT P t = some us.size) (hb : off + us.size ≤ n * sz) (h1 : us.toList.all (·.oneCell') = true)
    (k : ∀ w', Hp c w0 w' (hl.set i (.buf e sz (.slice (some ⟨g, 0, none⟩) n cap) n (putL xs off us.toList))) → K a w') : Stp P ops Q ⟨none, .store t x y, ty, pos, af, none⟩ K a w := by
  have ho : w.ownsRow w0.heap.size e sz (.slice (some ⟨g, 0, none⟩) n cap) n xs := hp.fact hi
  have hlen := ho.1
  have hst := run_storeCells_cells (P := P) g off us.toList 0 w (fun j hj => by
      rw [Array.length_toList] at hj
      rw [Nat.add_zero, ho.cellAt (off + j) (by omega), List.getElem?_eq_getElem (by omega)]
      rfl) (fun j _ => by rw [Nat.add_zero]; exact ho.frozenAt _) (fun u hu => by rw [List.all_eq_true] at h1; exact h1 u hu)
  have hr : (execOp a.eval ⟨none, .store t x y, ty, pos, af, none⟩).run P w = .ok .skip (w.setCells g off us.toList) := by
    rw [Nat.add_zero] at hst
    have hc : (Value.agg us).cells = us := rfl
    simp [execOp, h.ev hx, h.ev hy, Instr.storeAt, Instr.sureAddr, Sem.run_bind, storeVar, run_sizeOf ht, hc, hst]
  obtain ⟨k1, k2, k3, k4, k5, k6⟩ := owns_cells us.toList off w xs ho
  exact stp_skip rfl rfl hr (k _ (hp.chg hi (p' := .buf e sz (.slice (some ⟨g, 0, none⟩) n cap) n (putL xs off us.toList)) trivial k1 k2 k3 k4 k5 (fun j hj hn => k6 j hj fun e => hn (by subst e; rfl)) (fun j hj => .inl hj)))
theorem putL_eq : ∀ (vs xs : List Value) (o : Nat), o + vs.length ≤ xs.length → putL xs o vs = xs.take o ++ vs ++ xs.drop (o + vs.length)
  | [], xs, o, _ => by simp [putL]
  | v :: r, xs, o, h => by
    rw [List.length_cons] at h
    rw [putL, putL_eq r (xs.set o v) (o + 1) (by rw [List.length_set]; omega), List.drop_set_of_lt (by omega), List.length_cons]
    have e1 : (xs.set o v).take (o + 1) = xs.take o ++ [v] := by
      rw [List.take_set, List.set_eq_take_append_cons_drop, if_pos (by rw [List.length_take]; omega), List.take_take, Nat.min_eq_left (by omega), List.drop_take, Nat.sub_self, List.take_zero]
    rw [e1, show o + 1 + r.length = o + (r.length + 1) by omega]
    simp
theorem putL_flat {α : Type} {enc : α → List Value} {y : α} : ∀ {ys : List α} (k : Nat), (∀ y ∈ ys, (enc y).length = sz) → (enc y).length = sz → k < ys.length → putL (ys.flatMap enc) (k * sz) (enc y) = (ys.set k y).flatMap enc := by
  intro ys k he hy hk
  have h1 := flat_len he
  have h2 : (k + 1) * sz ≤ ys.length * sz := Nat.mul_le_mul_right _ hk
  rw [Nat.succ_mul] at h2
  rw [putL_eq _ _ _ (by rw [h1, hy]; omega), hy, List.set_eq_take_append_cons_drop, if_pos hk, List.flatMap_append, List.flatMap_cons, ← List.append_assoc]
  have hsp : ys.flatMap enc = (ys.take k).flatMap enc ++ (ys.drop k).flatMap enc := by rw [← List.flatMap_append, List.take_append_drop]
  have hl : ((ys.take k).flatMap enc).length = k * sz := by rw [flat_len (fun y hy => he y (List.mem_of_mem_take hy)), List.length_take, Nat.min_eq_left (by omega)]
  have hsp2 : ys.flatMap enc = (ys.take (k + 1)).flatMap enc ++ (ys.drop (k + 1)).flatMap enc := by rw [← List.flatMap_append, List.take_append_drop]
  have hl2 : ((ys.take (k + 1)).flatMap enc).length = k * sz + sz := by rw [flat_len (fun y hy => he y (List.mem_of_mem_take hy)), List.length_take, Nat.min_eq_left (by omega), Nat.succ_mul]
  congr 1
  · congr 1
    rw [hsp, List.take_left' hl]
  · rw [hsp2, List.drop_left' hl2]
end Go.Proofs.Sx
