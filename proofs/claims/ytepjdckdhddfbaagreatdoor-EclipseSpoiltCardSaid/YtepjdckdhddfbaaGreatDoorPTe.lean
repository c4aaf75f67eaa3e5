import Derived.Lib.ConvBytes
import Derived.Lib.AtoiErrMem
import Derived.Laws.IdiomStrings
import Derived.Laws.Strings2
import Derived.Test.YtepjdckdhddfbaaGreatDoorPQc
set_option linter.unusedVariables false
set_option linter.unusedSimpArgs false
namespace Go.Proofs.Ec
open Go.RowKit Go.Proofs.Sx Ecl
variable {r : Option Nat} {ds : List Deferred} {P : Program} {ops : Array Oper} {Q : Exit → Act → World → Prop} {K : Act → World → Prop} {N : Nat} {a : Act} {l : AL} {w w' w0 : World} {c : Cx} {hl : HL} {u v : Value} {x y z : Operand} {dst : Option Nat} {d t t1 t2 ty : Nat} {pos : String} {af : Array Edge} {gd : Option (Nat × Bool)}
theorem bs_cut (s : Bs) (i j : Nat) : (bs s).extract i j = bs ((s.drop i).take (j - i)) := by
  apply ByteArray.ext
  rw [ByteArray.data_extract]
  simp [bs, List.extract_eq_take_drop]
theorem slS {s : Bs} {k1 k2 : IntKind} {p q : Int} (i j : Nat) (h : Has ds N a l) (hx : ev l x = some (.string (bs s))) (hy : ev l y = some (.int k1 p)) (hz : ev l z = some (.int k2 q)) (ht : P.underlying t = some .string) (hp : p = i) (hq : q = j) (hij : i ≤ j) (hj : j ≤ s.length) :
    (execOp a.eval ⟨dst, .slice t x (some y) (some z) none, ty, pos, af, gd⟩).run P w = .ok (.value (.string (bs ((s.drop i).take (j - i))))) w := by
  subst hp hq
  have := run_slice_string (P := P) (w := w) t (bs s) k1 k2 i j ht (by omega) (by omega) (by rw [bs_size]; omega)
  rw [Int.toNat_natCast, Int.toNat_natCast, bs_cut] at this
  simp [execOp, h.ev hx, h.ev hy, h.ev hz, Instr.sliceAt, Sem.run_bind, run_underlying ht, this]
theorem slT {s : Bs} {k1 : IntKind} {p : Int} (i : Nat) (h : Has ds N a l) (hx : ev l x = some (.string (bs s))) (hy : ev l y = some (.int k1 p)) (ht : P.underlying t = some .string) (hp : p = i) (hi : i ≤ s.length) :
    (execOp a.eval ⟨dst, .slice t x (some y) none none, ty, pos, af, gd⟩).run P w = .ok (.value (.string (bs (s.drop i)))) w := by
  subst hp
  have := run_slice_string_l (P := P) (w := w) (t := t) (s := bs s) ht k1 i (by omega) (by rw [bs_size]; omega)
  rw [Int.toNat_natCast, bs_cut, bs_size, List.take_of_length_le (by rw [List.length_drop]; exact Nat.le_refl _)] at this
  simp [execOp, h.ev hx, h.ev hy, Instr.sliceAt, Sem.run_bind, run_underlying ht, this]
def rowB (g e : Nat) (s : Bs) (w : World) : Prop := ∃ cur : Array Value, w.heap[g]? = some (.cells cur e (cur.size, cur.size + 1)) ∧ s.length ≤ cur.size ∧ ∀ j (h : j < s.length), cur[j]? = some (.int .u8 s[j].toNat)
abbrev enB (g e : Nat) (s : Bs) : En := .fct (fun k => k = g) (rowB g e s)
theorem rowB_same {g e : Nat} {s : Bs} : (enB g e s).ok := by
  rintro w w' h ⟨cur, h1, h2⟩
  exact ⟨cur, (h g rfl).trans h1, h2⟩
theorem cvs {e : Nat} {s : Bs} (h : Has ds N a l) (hp : Hp c w0 w hl) (hx : ev l x = some (.string (bs s))) (hs : P.underlying t1 = some .string) (hd : P.underlying t2 = some (.slice e)) (he : P.underlying e = some (.int .u8))
    (k : ∀ a' w' g cap, Has ds N a' ((d, .slice (some ⟨g, 0, none⟩) s.length cap) :: l) → Hp c w0 w' (hl ++ [enB g e s]) → K a' w') (hN : Nat.blt d N = true := by rfl) : Stp P ops Q ⟨some d, .convert t1 t2 x, ty, pos, af, none⟩ K a w := by
  have hr := Lib.run_convert_string_bytes (P := P) w t1 t2 e (bs s) hs hd he
  rw [bs_size] at hr
  refine stp_val h rfl hN rfl (w' := Lib.bytesWorld w e (bs s)) (v := .slice (some ⟨w.heap.size, 0, none⟩) s.length (grownCap w s.length 0 e)) ?_ (fun a' h' => k a' _ _ _ h' ?_)
  · simp only [execOp, h.ev hx, Sem.run_bind, hr]
    rfl
  · refine hp.made (hp.below (Lib.bytesWorld_below _ _ _)) rowB_same ⟨Lib.bytesCells w e (bs s), Lib.bytesWorld_at_new _ _ _, ?_, fun j hj => ?_⟩ (fun k hk => ?_)
    · simp [Lib.bytesCells, bs]
    · have h1 : j < (bs s).data.size := by simpa [bs] using hj
      rw [Lib.bytesCells, Array.getElem?_append_left (by simpa using h1)]
      simp [bs, hj]
    · have hk : k = w.heap.size := hk
      subst hk
      rw [Lib.bytesWorld_size]
      omega
theorem stU {g e off : Nat} {s : Bs} {n : Int} (b : UInt8) (h : Has ds N a l) (hp : Hp c w0 w hl) (hx : ev l x = some (.pointer (some ⟨g, off, none⟩))) (hy : ev l y = some (.int .u8 n)) (i : Nat) (hi : nth hl i = some (enB g e s)) (ht : szT P t = some 1) (hb : off < s.length) (hn : n = b.toNat)
    (k : ∀ w', Hp c w0 w' (hl.set i (enB g e (s.set off b))) → K a w') : Stp P ops Q ⟨none, .store t x y, ty, pos, af, none⟩ K a w := by
  subst hn
  obtain ⟨cur, hg, hz, hc⟩ : rowB g e s w := hp.fact hi
  have hlt : off < cur.size := by omega
  have hcl : w.cell? ⟨g, off, none⟩ = some cur[off] := by rw [cell_of_row w g off cur e _ hg]; simp [hlt]
  have hf : w.frozen? ⟨g, off, none⟩ = false := by simp [World.frozen?, hg]; omega
  have hr : (execOp a.eval ⟨none, .store t x y, ty, pos, af, none⟩).run P w = .ok .skip (w.setCell ⟨g, off, none⟩ (.int .u8 b.toNat)) := by
    simp [execOp, h.ev hx, h.ev hy, Instr.storeAt, Instr.sureAddr, Sem.run_bind, storeVar, Go.Proofs.Sx.run_sizeOf ht, Value.cells, storeCells, run_store P w ⟨g, off, none⟩ (.int .u8 b.toNat) .plain rfl, hcl, hf, Go.WideShapes.add_plain]
  refine stp_skip rfl rfl hr (k _ (hp.chg hi (p' := enB g e (s.set off b)) rowB_same ⟨cur.setIfInBounds off (.int .u8 b.toNat), ?_, by simpa using hz, fun j hj => ?_⟩ rfl rfl rfl (by simp [World.setCell]) (fun j _ hj => Below.heap_setCell _ _ _ _ hj) (fun j hj => .inl hj)))
  · simp [World.setCell, Array.getElem?_modify, hg]
  · rw [List.length_set] at hj
    by_cases hjo : off = j
    · subst hjo
      simp [hlt]
    · rw [Array.getElem?_setIfInBounds_ne hjo, hc j hj]
      simp [List.getElem_set_ne hjo]
theorem cvb {g e e' cap : Nat} {s : Bs} {n : Nat} (h : Has ds N a l) (hp : Hp c w0 w hl) (hx : ev l x = some (.slice (some ⟨g, 0, none⟩) n cap)) (i : Nat) (hi : nth hl i = some (enB g e s)) (hn : n = s.length) (hs : P.underlying t1 = some (.slice e')) (he : P.underlying e' = some (.int .u8)) (hd : P.underlying t2 = some .string) :
    (execOp a.eval ⟨dst, .convert t1 t2 x, ty, pos, af, gd⟩).run P w = .ok (.value (.string (bs s))) w := by
  subst hn
  obtain ⟨cur, hg, hz, hc⟩ : rowB g e s w := hp.fact hi
  have := run_convert_bytes_back (P := P) w t1 t2 e' ⟨g, 0, none⟩ cap s hs he hd (fun j hj => by
    rw [Go.WideShapes.add_plain, Nat.zero_add, cell_of_row w g j cur e _ hg, hc j hj])
  simp only [execOp, h.ev hx, Sem.run_bind, this]
  rfl
end Go.Proofs.Ec
