import Derived.WalkKit
import Derived.OrdersHeld
import Derived.KernelRfl
import Derived.Laws.Rows
import Derived.Laws.AppendOwn
import Derived.Laws.Tables
import Derived.Laws.Pointers
import Derived.Laws.CopyRow
import Derived.Laws.Concat
import Derived.Deep.LoopGhost
import Derived.Maps.AppendAt
import Derived.Great.BuildSlice
import Derived.RangeFuncLeaves
import Derived.RangeFuncRecord
import Derived.RangeFuncCalls
import Derived.OrdersIn
import Derived.TacticsIn
import Derived.Scope
import Derived.MapKept
import Derived.Carry
import Derived.Recover
import Derived.Laws.StructEq
import Derived.Laws.BytesString
import Derived.Laws.RangeString
import Derived.Laws.IdiomStrings
import Derived.ProofKit
import Derived.ChangeArms
import Derived.Lay
import Derived.Lib.LaidTab
import Derived.Shelf.Vars
import Derived.Stop.LaidErr
import Derived.Handed
import Derived.OpenShut
import Derived.SevenTiedAt
set_option linter.unusedVariables false
set_option linter.unusedSimpArgs false
section
namespace Go.Proofs.Sx
open Go.RowKit
abbrev AL := List (Nat × Value)
def look : AL → Nat → Option Value
  | [], _ => none
  | (t, v) :: r, n => bif Nat.beq t n then some v else look r n
def nth {α : Type} : List α → Nat → Option α
  | [], _ => none
  | x :: _, 0 => some x
  | _ :: r, n + 1 => nth r n
theorem nth_eq {α : Type} : ∀ (l : List α) (n : Nat), nth l n = l[n]?
  | [], _ => by simp [nth]
  | _ :: _, 0 => by simp [nth]
  | _ :: r, n + 1 => by simp [nth, nth_eq r n]
structure Has (ds : List Deferred) (N : Nat) (a : Act) (l : AL) : Prop where
  defs : a.defers = ds
  size : a.tmps.size = N
  get : ∀ t v, look l t = some v → a.tmps[t]? = some v
def ev (l : AL) : Operand → Option Value
  | .tmp t => look l t
  | .const v => some v
  | .global g => some (.pointer (some ⟨g, 0, none⟩))
  | .func f => some (.func (.func f) #[] #[])
variable {ds : List Deferred} {N : Nat} {a : Act} {l : AL} {v : Value}
theorem Has.ev {x : Operand} (h : Has ds N a l) (hx : ev l x = some v) : a.eval x = v := by
  cases x with
  | tmp t =>
    have := h.get t v hx
    simp [Act.eval, Array.getD_eq_getD_getElem?, this]
  | const u => simpa [Sx.ev, Act.eval] using hx
  | global g => simpa [Sx.ev, Act.eval] using hx
  | func f => simpa [Sx.ev, Act.eval] using hx
theorem Has.put (h : Has ds N a l) {d : Nat} (hd : Nat.blt d N = true) (v : Value) : Has ds N (a.put (some d) v) ((d, v) :: l) := by
  have hd' : d < N := by simp only [Nat.blt, Nat.ble_eq] at hd; omega
  refine ⟨h.defs, by simp [Act.put, h.size], fun t u hu => ?_⟩
  simp only [look] at hu
  by_cases ht : d = t
  · subst ht
    have e : Nat.beq d d = true := Nat.beq_refl d
    rw [e] at hu
    simp only [cond_true, Option.some.injEq] at hu
    subst hu
    simp [Act.put, h.size, hd']
  · have e : Nat.beq d t = false := by
      cases hb : Nat.beq d t with
      | false => rfl
      | true => exact absurd (Nat.eq_of_beq_eq_true hb) ht
    rw [e] at hu
    simp only [cond_false] at hu
    have := h.get t u hu
    simp [Act.put, ht, this]
theorem Has.weaken {l' : AL} (h : Has ds N a l) (hl : ∀ p ∈ l', look l p.1 = some p.2) : Has ds N a l' := by
  refine ⟨h.defs, h.size, fun t v hv => h.get t v ?_⟩
  have : ∀ (m : AL), (∀ p ∈ m, look l p.1 = some p.2) → look m t = some v → look l t = some v := by
    intro m
    induction m with
    | nil => intro _ h; cases h
    | cons p r ih =>
      intro hm hv
      simp only [look] at hv
      cases hb : Nat.beq p.1 t with
      | true =>
        rw [hb] at hv
        simp only [cond_true, Option.some.injEq] at hv
        rw [← Nat.eq_of_beq_eq_true hb, ← hv]
        exact hm p List.mem_cons_self
      | false =>
        rw [hb] at hv
        exact ih (fun q hq => hm q (List.mem_cons_of_mem _ hq)) hv
  exact this l' hl hv
structure Ext (S : Nat → Prop) (w w' : World) : Prop where
  os : w'.os = w.os
  tape : w'.tape = w.tape
  output : w'.output = w.output
  size : w.heap.size ≤ w'.heap.size
  block : ∀ k, k < w.heap.size → ¬ S k → w'.heap[k]? = w.heap[k]?
variable {S : Nat → Prop} {w w' w0 : World}
theorem Ext.refl (S : Nat → Prop) (w : World) : Ext S w w := ⟨rfl, rfl, rfl, Nat.le_refl _, fun _ _ _ => rfl⟩
theorem Ext.trans {w1 w2 : World} (h : Ext S w w1) (k : Ext S w1 w2) : Ext S w w2 :=
  ⟨k.os.trans h.os, k.tape.trans h.tape, k.output.trans h.output, Nat.le_trans h.size k.size, fun i hi hs => (k.block i (Nat.lt_of_lt_of_le hi h.size) hs).trans (h.block i hi hs)⟩
theorem Ext.of_below (h : Below w.heap.size w w') : Ext S w w' := ⟨h.os, h.tape, h.output, h.size, fun k hk _ => h.block k hk⟩
theorem Ext.below (h : Ext (fun _ => False) w w') : Below w.heap.size w w' := ⟨h.os, h.tape, h.output, h.size, fun k hk => h.block k hk id⟩
theorem Ext.mono {S' : Nat → Prop} (h : Ext S w w') (hs : ∀ k, k < w.heap.size → S k → S' k) : Ext S' w w' := ⟨h.os, h.tape, h.output, h.size, fun k hk hn => h.block k hk (fun z => hn (hs k hk z))⟩
theorem Ext.cell (h : Ext S w w') {p : Addr} {v : Value} (hp : ¬ S p.block) (hc : w.cell? p = some v) : w'.cell? p = some v := by
  have := h.block p.block (World.block_lt_of_cell? w p hc) hp
  exact (World.cell?_of_block (w := w) this).trans hc
structure Cx where
  S : Nat → Prop
  J : World → Prop
  st : ∀ w w' : World, (∀ k, S k → w'.heap[k]? = w.heap[k]?) → J w → J w'
  lt : ∀ w k, J w → S k → k < w.heap.size
def c0 : Cx := ⟨fun _ => False, fun _ => True, fun _ _ _ _ => trivial, fun _ _ _ h => h.elim⟩
inductive En where
  | blk (g : Nat) (o : Obj)
  | buf (e : TypeId) (sz : Nat) (v : Value) (n : Nat) (xs : List Value)
  | fct (D : Nat → Prop) (F : World → Prop)
def En.D : En → Nat → Prop
  | .blk g _ => fun k => k = g
  | .buf _ _ v _ _ => fun k => v.ownBlock = some k
  | .fct D _ => D
def En.F (b : Nat) : En → World → Prop
  | .blk g o => fun w => w.heap[g]? = some o
  | .buf e sz v n xs => fun w => w.ownsRow b e sz v n xs
  | .fct _ F => F
def En.ok : En → Prop
  | .fct D F => ∀ w w' : World, (∀ k, D k → w'.heap[k]? = w.heap[k]?) → F w → F w'
  | _ => True
theorem ownsRow_same {b : Nat} {e : TypeId} {sz : Nat} {v : Value} {n : Nat} {xs : List Value} {w w' : World} (h : ∀ k, v.ownBlock = some k → w'.heap[k]? = w.heap[k]?) (hw : w.ownsRow b e sz v n xs) : w'.ownsRow b e sz v n xs := by
  refine ⟨hw.1, ?_⟩
  rcases hw.2 with hn | ⟨g, cap, cur, rfl, h1, h2, h3⟩
  · exact .inl hn
  · exact .inr ⟨g, cap, cur, rfl, h1, (h g rfl).trans h2, h3⟩
theorem En.same {p : En} (ho : p.ok) {b : Nat} {w w' : World} (h : ∀ k, p.D k → w'.heap[k]? = w.heap[k]?) (hw : p.F b w) : p.F b w' := by
  cases p with
  | blk g o => exact (h g rfl).trans hw
  | buf e sz v n xs => exact ownsRow_same h hw
  | fct D F => exact ho w w' h hw
def En.apart (p q : En) : Prop := ∀ k, p.D k → ¬ q.D k
abbrev HL := List En
structure Hp (c : Cx) (w0 w : World) (hl : HL) : Prop where
  ext : Ext c.S w0 w
  inv : c.J w
  own : ∀ (i : Nat) (p : En), hl[i]? = some p → p.ok ∧ p.F w0.heap.size w ∧ ∀ k, p.D k → w0.heap.size ≤ k ∧ k < w.heap.size ∧ ¬ c.S k
  ne : hl.Pairwise En.apart
variable {c : Cx} {hl : HL}
theorem Hp.start (hj : c.J w) : Hp c w w [] := ⟨Ext.refl _ _, hj, fun i p h => by simp at h, .nil⟩
theorem Hp.size (h : Hp c w0 w hl) : w0.heap.size ≤ w.heap.size := h.ext.size
theorem Hp.fact (h : Hp c w0 w hl) {i : Nat} {p : En} (hi : nth hl i = some p) : p.F w0.heap.size w := (h.own i p (by rwa [nth_eq] at hi)).2.1
theorem Hp.grow (h : Hp c w0 w hl) (k : Ext c.S w w') (hj : c.J w') : Hp c w0 w' hl :=
  ⟨h.ext.trans k, hj, fun i p hi => ⟨(h.own i p hi).1, En.same (h.own i p hi).1 (fun j hj => k.block j ((h.own i p hi).2.2 j hj).2.1 ((h.own i p hi).2.2 j hj).2.2) (h.own i p hi).2.1,
    fun j hj => ⟨((h.own i p hi).2.2 j hj).1, Nat.lt_of_lt_of_le ((h.own i p hi).2.2 j hj).2.1 k.size, ((h.own i p hi).2.2 j hj).2.2⟩⟩, h.ne⟩
theorem Hp.below (h : Hp c w0 w hl) (k : Below w.heap.size w w') : Hp c w0 w' hl :=
  h.grow (Ext.of_below k) (c.st w w' (fun i hi => k.block i (c.lt w i h.inv hi)) h.inv)
theorem Hp.drew (h : Hp c w0 w hl) : Hp c w0 w.drew hl := h.below ((Below.refl _ _).drew)
theorem Hp.add (h : Hp c w0 w hl) {q : En} (ho : q.ok) (hf : q.F w0.heap.size w) (hd : ∀ k, q.D k → w0.heap.size ≤ k ∧ k < w.heap.size ∧ ¬ c.S k) (hn : ∀ p ∈ hl, En.apart p q) : Hp c w0 w (hl ++ [q]) := by
  refine ⟨h.ext, h.inv, fun i p hi => ?_, ?_⟩
  · rcases Nat.lt_or_ge i hl.length with hlt | hge
    · rw [List.getElem?_append_left hlt] at hi
      exact h.own i p hi
    · rw [List.getElem?_append_right hge] at hi
      have : p = q := by
        cases hk : i - hl.length with
        | zero => rw [hk] at hi; simpa using hi.symm
        | succ m => rw [hk] at hi; simp at hi
      subst this
      exact ⟨ho, hf, hd⟩
  · rw [List.pairwise_append]
    exact ⟨h.ne, by simp, fun x hx y hy => by simp only [List.mem_singleton] at hy; subst hy; exact hn x hx⟩
theorem Hp.fresh (h : Hp c w0 w hl) {q : En} (hq : ∀ k, q.D k → w.heap.size ≤ k) : ∀ p ∈ hl, En.apart p q := by
  intro p hp k hk hqk
  obtain ⟨i, hi⟩ := List.getElem?_of_mem hp
  have := ((h.own i p hi).2.2 k hk).2.1
  have := hq k hqk
  omega
theorem Hp.alloc (h : Hp c w0 w hl) (o : Obj) : Hp c w0 (w.alloc o) (hl ++ [.blk w.heap.size o]) := by
  have h1 : Hp c w0 (w.alloc o) hl := h.below ((Below.refl _ _).alloc (Nat.le_refl _) o)
  refine h1.add (q := .blk w.heap.size o) trivial (heap_alloc_new w o) (fun k hk => ?_) (h.fresh (q := .blk w.heap.size o) fun k hk => Nat.le_of_eq (id hk : k = _).symm)
  have hk : k = w.heap.size := hk
  subst hk
  exact ⟨h.size, (Array.getElem?_eq_some_iff.1 (heap_alloc_new w o)).1, fun hs => by have := c.lt w _ h.inv hs; omega⟩
theorem Hp.made (h : Hp c w0 w hl) (h' : Hp c w0 w' hl) {q : En} (ho : q.ok) (hf : q.F w0.heap.size w') (hd : ∀ k, q.D k → w.heap.size ≤ k ∧ k < w'.heap.size) : Hp c w0 w' (hl ++ [q]) :=
  h'.add ho hf (fun k hk => ⟨Nat.le_trans h.size (hd k hk).1, (hd k hk).2, fun hs => by have := c.lt w _ h.inv hs; have := (hd k hk).1; omega⟩) (h.fresh fun k hk => (hd k hk).1)
theorem Hp.chg (h : Hp c w0 w hl) {i : Nat} {p p' : En} (hi0 : nth hl i = some p) (hok : p'.ok) (hF : p'.F w0.heap.size w') (ho : w'.os = w.os) (ht : w'.tape = w.tape) (hu : w'.output = w.output)
    (hz : w.heap.size ≤ w'.heap.size) (hb : ∀ k, k < w.heap.size → ¬ p.D k → w'.heap[k]? = w.heap[k]?) (hD : ∀ k, p'.D k → p.D k ∨ (w.heap.size ≤ k ∧ k < w'.heap.size)) : Hp c w0 w' (hl.set i p') := by
  have hi : hl[i]? = some p := by rwa [nth_eq] at hi0
  have hg := h.own i _ hi
  have hlt : i < hl.length := (List.getElem?_eq_some_iff.1 hi).1
  have apart : ∀ j q, j ≠ i → hl[j]? = some q → ∀ k, p.D k → ¬ q.D k := by
    intro j q hij hj k hk hq
    have hne := h.ne
    rw [List.pairwise_iff_getElem] at hne
    obtain ⟨hi1, hi2⟩ := List.getElem?_eq_some_iff.1 hi
    obtain ⟨hj1, hj2⟩ := List.getElem?_eq_some_iff.1 hj
    rcases Nat.lt_or_gt_of_ne hij with hl1 | hgt
    · exact hne j i hj1 hi1 hl1 k (by rw [hj2]; exact hq) (by rw [hi2]; exact hk)
    · exact hne i j hi1 hj1 hgt k (by rw [hi2]; exact hk) (by rw [hj2]; exact hq)
  have apart' : ∀ j q, j ≠ i → hl[j]? = some q → ∀ k, p'.D k → ¬ q.D k := by
    intro j q hij hj k hk hq
    rcases hD k hk with hp | hn
    · exact apart j q hij hj k hp hq
    · have := ((h.own j q hj).2.2 k hq).2.1
      omega
  refine ⟨⟨ho.trans h.ext.os, ht.trans h.ext.tape, hu.trans h.ext.output, Nat.le_trans h.ext.size hz, fun k hk hs => (hb k (Nat.lt_of_lt_of_le hk h.size) (fun e => by have := (hg.2.2 k e).1; omega)).trans (h.ext.block k hk hs)⟩,
    c.st w w' (fun k hk => hb k (c.lt w k h.inv hk) (fun e => (hg.2.2 k e).2.2 hk)) h.inv, fun j q hj => ?_, ?_⟩
  · by_cases hij : i = j
    · subst hij
      rw [List.getElem?_set_self hlt] at hj
      cases hj
      refine ⟨hok, hF, fun k hk => ?_⟩
      rcases hD k hk with hp | hn
      · exact ⟨(hg.2.2 k hp).1, Nat.lt_of_lt_of_le (hg.2.2 k hp).2.1 hz, (hg.2.2 k hp).2.2⟩
      · exact ⟨Nat.le_trans h.size hn.1, hn.2, fun hs => by have := c.lt w k h.inv hs; omega⟩
    · rw [List.getElem?_set_ne hij] at hj
      have hq := h.own j q hj
      refine ⟨hq.1, En.same hq.1 (fun k hk => hb k (hq.2.2 k hk).2.1 (fun e => apart j q (fun e => hij e.symm) hj k e hk)) hq.2.1, fun k hk => ⟨(hq.2.2 k hk).1, Nat.lt_of_lt_of_le (hq.2.2 k hk).2.1 hz, (hq.2.2 k hk).2.2⟩⟩
  · rw [List.pairwise_iff_getElem]
    intro x y hx hy hxy k hk hk'
    rw [List.length_set] at hx hy
    by_cases hix : i = x
    · subst hix
      rw [List.getElem_set_self] at hk
      rw [List.getElem_set_ne (by omega)] at hk'
      exact apart' y _ (by omega) (List.getElem?_eq_getElem hy) k hk hk'
    · rw [List.getElem_set_ne hix] at hk
      by_cases hiy : i = y
      · subst hiy
        rw [List.getElem_set_self] at hk'
        exact apart' x _ (by omega) (List.getElem?_eq_getElem hx) k hk' hk
      · rw [List.getElem_set_ne hiy] at hk'
        have hne := h.ne
        rw [List.pairwise_iff_getElem] at hne
        exact hne x y hx hy hxy k hk hk'
theorem Hp.put (h : Hp c w0 w hl) {i : Nat} {g : Nat} {o o' : Obj} (hi : nth hl i = some (.blk g o)) (hw : w'.heap[g]? = some o') (ho : w'.os = w.os) (ht : w'.tape = w.tape) (hu : w'.output = w.output)
    (hz : w'.heap.size = w.heap.size) (hb : ∀ k, k ≠ g → w'.heap[k]? = w.heap[k]?) : Hp c w0 w' (hl.set i (.blk g o')) :=
  h.chg hi (p' := .blk g o') trivial hw ho ht hu (Nat.le_of_eq hz.symm) (fun k _ hk => hb k hk) (fun k hk => .inl hk)
theorem Hp.cellAt (h : Hp c w0 w hl) {i g : Nat} {cs : Array Value} {t : TypeId} {fr : Nat × Nat} (hi : nth hl i = some (.blk g (.cells cs t fr))) (j : Nat) : w.cell? ⟨g, j, none⟩ = cs[j]? := cell_of_row w g j cs t fr (h.fact hi)
end Go.Proofs.Sx
end
section
namespace Go.Proofs.Sx
open Go.RowKit
variable {P : Program} {ops : Array Oper} {Q : Exit → Act → World → Prop} {K : Act → World → Prop} {rest : List Oper} {o : Oper}
variable {ds : List Deferred} {N : Nat} {a : Act} {l : AL} {w w' w0 : World} {c : Cx} {hl : HL} {d ty : Nat} {pos : String} {af : Array Edge} {v : Value} {dst : Option Tmp} {gd : Option (Nat × Bool)}
def Stp (P : Program) (ops : Array Oper) (Q : Exit → Act → World → Prop) (o : Oper) (K : Act → World → Prop) (a : Act) (w : World) : Prop :=
  if Region.wanted o (yielded ops a.tmps) then o.wp P a w K Q else K (a.put o.dst undef) w
theorem Stp.or (h : Stp P ops Q o K a w) : if Region.wanted o (yielded ops a.tmps) then o.wp P a w K Q ∨ (o.asks P a w ∧ LetsOut Q) else K (a.put o.dst undef) w := by
  unfold Stp at h
  split
  · rename_i hw
    rw [if_pos hw] at h
    exact .inl h
  · rename_i hw
    rw [if_neg hw] at h
    exact h
theorem wl (h : Stp P ops Q o (wpList P ops Q rest) a w) : wpList P ops Q (o :: rest) a w := h.or
theorem wn (h : K a w) : wpList P ops (Exit.then K Q) [] a w := h
theorem wn' (h : Q .normal a w) : wpList P ops Q [] a w := h
theorem stp_val (h : Has ds N a l) (hd : o.dst = some d) (hN : Nat.blt d N = true) (hg : o.guard = none) (hrun : (execOp a.eval o).run P w = .ok (.value v) w')
    (k : ∀ a', Has ds N a' ((d, v) :: l) → K a' w') : Stp P ops Q o K a w := by
  unfold Stp
  rw [if_pos (by simp [Region.wanted, hg])]
  unfold Oper.wp
  rw [hrun, Oper.upon_value, hd]
  exact k _ (h.put hN v)
theorem stp_on {j t : Nat} {b : Bool} (h : Has ds N a l) (hg : o.guard = some (j, b)) (hj : (ops[j]?).bind (·.dst) = some t) {b' : Bool} (hb : look l t = some (.bool b')) (hbb : b' = b)
    (k : Stp P ops Q { o with guard := none } K a w) : Stp P ops Q o K a w := by
  subst hbb
  unfold Stp at *
  have h1 : Region.wanted o (yielded ops a.tmps) = true := by
    have := h.get t _ hb
    simp [Region.wanted, hg, yielded, hj, this]
  rw [if_pos h1]
  rw [if_pos (by simp [Region.wanted])] at k
  exact k
theorem stp_off {j t : Nat} {b : Bool} (h : Has ds N a l) (hd : o.dst = some d) (hN : Nat.blt d N = true) (hg : o.guard = some (j, b)) (hj : (ops[j]?).bind (·.dst) = some t) {b' : Bool} (hb : look l t = some (.bool b')) (hbb : b' = !b)
    (k : ∀ a', Has ds N a' ((d, undef) :: l) → K a' w) : Stp P ops Q o K a w := by
  subst hbb
  unfold Stp
  have h1 : Region.wanted o (yielded ops a.tmps) = false := by
    have := h.get t _ hb
    cases b <;> simp [Region.wanted, hg, yielded, hj, this]
  rw [if_neg (by simp [h1]), hd]
  exact k _ (h.put hN undef)
theorem stp_un {j t : Nat} {b : Bool} (h : Has ds N a l) (hd : o.dst = some d) (hN : Nat.blt d N = true) (hg : o.guard = some (j, b)) (hj : (ops[j]?).bind (·.dst) = some t) (hb : look l t = some undef)
    (k : ∀ a', Has ds N a' ((d, undef) :: l) → K a' w) : Stp P ops Q o K a w := by
  unfold Stp
  have h1 : Region.wanted o (yielded ops a.tmps) = false := by
    have := h.get t _ hb
    cases b <;> simp [Region.wanted, hg, yielded, hj, this, undef]
  rw [if_neg (by simp [h1]), hd]
  exact k _ (h.put hN undef)
theorem mov {x : Operand} (h : Has ds N a l) (hx : ev l x = some v) : (execOp a.eval ⟨dst, .move x, ty, pos, af, gd⟩).run P w = .ok (.value (v)) w :=
  (by show Result.ok _ _ = _; rw [h.ev hx])
theorem asg {x : Operand} (h : Has ds N a l) (hx : ev l x = some v) : (execOp a.eval ⟨dst, .assign x, ty, pos, af, gd⟩).run P w = .ok (.value (v)) w :=
  (by show Result.ok _ _ = _; rw [h.ev hx])
theorem pck {x y z : Operand} {b : Bool} (h : Has ds N a l) (hx : ev l x = some (.bool b)) (hy : b = true → ev l y = some v) (hz : b = false → ev l z = some v) : (execOp a.eval ⟨dst, .pick x y z, ty, pos, af, gd⟩).run P w = .ok (.value (v)) w :=
  (by
    show (do let b ← asBool (a.eval x); pure (Next.value (if b then a.eval y else a.eval z)) : Sem Next).run P w = _
    rw [h.ev hx]
    cases b with
    | true => rw [show a.eval y = v from h.ev (hy rfl)]; rfl
    | false => rw [show a.eval z = v from h.ev (hz rfl)]; rfl)
theorem run2 {x y : Operand} {u1 u2 : Value} (h : Has ds N a l) (hx : ev l x = some u1) (hy : ev l y = some u2)
    (hrun : ∀ ρ : Operand → Value, ρ x = u1 → ρ y = u2 → (execOp ρ o).run P w = .ok (.value v) w) : (execOp a.eval o).run P w = .ok (.value v) w :=
  hrun _ (h.ev hx) (h.ev hy)
variable {x y : Operand} {p q : Int} {t1 t2 : Nat}
theorem lss {k : IntKind} (h : Has ds N a l) (hx : ev l x = some (.int k p)) (hy : ev l y = some (.int k q)) : (execOp a.eval ⟨dst, .binOp .lss t1 x y t2, ty, pos, af, gd⟩).run P w = .ok (.value (.bool (decide (p < q)))) w :=
  run2 h hx hy (fun ρ e1 e2 => by simp only [execOp, e1, e2]; cases k <;> rfl)
theorem leq {k : IntKind} (h : Has ds N a l) (hx : ev l x = some (.int k p)) (hy : ev l y = some (.int k q)) : (execOp a.eval ⟨dst, .binOp .leq t1 x y t2, ty, pos, af, gd⟩).run P w = .ok (.value (.bool (decide (p ≤ q)))) w :=
  run2 h hx hy (fun ρ e1 e2 => by simp only [execOp, e1, e2]; cases k <;> rfl)
theorem gtr {k : IntKind} (h : Has ds N a l) (hx : ev l x = some (.int k p)) (hy : ev l y = some (.int k q)) : (execOp a.eval ⟨dst, .binOp .gtr t1 x y t2, ty, pos, af, gd⟩).run P w = .ok (.value (.bool (decide (q < p)))) w :=
  run2 h hx hy (fun ρ e1 e2 => by simp only [execOp, e1, e2]; cases k <;> rfl)
theorem geq {k : IntKind} (h : Has ds N a l) (hx : ev l x = some (.int k p)) (hy : ev l y = some (.int k q)) : (execOp a.eval ⟨dst, .binOp .geq t1 x y t2, ty, pos, af, gd⟩).run P w = .ok (.value (.bool (decide (q ≤ p)))) w :=
  run2 h hx hy (fun ρ e1 e2 => by simp only [execOp, e1, e2]; cases k <;> rfl)
theorem eqi {k : IntKind} (h : Has ds N a l) (hx : ev l x = some (.int k p)) (hy : ev l y = some (.int k q)) : (execOp a.eval ⟨dst, .binOp .eql t1 x y t2, ty, pos, af, gd⟩).run P w = .ok (.value (.bool (decide (p = q)))) w :=
  run2 h hx hy (fun ρ e1 e2 => by simp only [execOp, e1, e2]; cases k <;> rfl)
theorem nei {k : IntKind} (h : Has ds N a l) (hx : ev l x = some (.int k p)) (hy : ev l y = some (.int k q)) : (execOp a.eval ⟨dst, .binOp .neq t1 x y t2, ty, pos, af, gd⟩).run P w = .ok (.value (.bool (!decide (p = q)))) w :=
  run2 h hx hy (fun ρ e1 e2 => by simp only [execOp, e1, e2]; cases k <;> rfl)
theorem eqb {b1 b2 : Bool} (h : Has ds N a l) (hx : ev l x = some (.bool b1)) (hy : ev l y = some (.bool b2)) (ht : P.underlying t1 = some .bool) : (execOp a.eval ⟨dst, .binOp .eql t1 x y t2, ty, pos, af, gd⟩).run P w = .ok (.value (.bool (b1 == b2))) w :=
  run2 h hx hy (fun ρ e1 e2 => by simp only [execOp, e1, e2]; simp [go_sem, ht])
theorem not_ {b : Bool} (h : Has ds N a l) (hx : ev l x = some (.bool b)) : (execOp a.eval ⟨dst, .unOp .not t1 x, ty, pos, af, gd⟩).run P w = .ok (.value (.bool (!b))) w :=
  (by simp only [execOp, h.ev hx]; rfl)
theorem wrap_in {n : Int} (h : -9223372036854775808 ≤ n ∧ n ≤ 9223372036854775807) : IntKind.i64.wrap n = n := by
  have : IntKind.i64.wrap n = wrap64 n := by simp [go_sem, wrap64, IntKind.wrap_i64]
  rw [this]
  unfold wrap64
  omega
theorem add (h : Has ds N a l) (hx : ev l x = some (.int .i64 p)) (hy : ev l y = some (.int .i64 q)) (hr : -9223372036854775808 ≤ p + q ∧ p + q ≤ 9223372036854775807) : (execOp a.eval ⟨dst, .binOp .add t1 x y t2, ty, pos, af, gd⟩).run P w = .ok (.value (.int .i64 (p + q))) w :=
  run2 h hx hy (fun ρ e1 e2 => by simp only [execOp, e1, e2]; rw [show (p + q) = IntKind.i64.wrap (p + q) from (wrap_in hr).symm]; rfl)
theorem sub (h : Has ds N a l) (hx : ev l x = some (.int .i64 p)) (hy : ev l y = some (.int .i64 q)) (hr : -9223372036854775808 ≤ p - q ∧ p - q ≤ 9223372036854775807) : (execOp a.eval ⟨dst, .binOp .sub t1 x y t2, ty, pos, af, gd⟩).run P w = .ok (.value (.int .i64 (p - q))) w :=
  run2 h hx hy (fun ρ e1 e2 => by simp only [execOp, e1, e2]; rw [show (p - q) = IntKind.i64.wrap (p - q) from (wrap_in hr).symm]; rfl)
theorem mul (h : Has ds N a l) (hx : ev l x = some (.int .i64 p)) (hy : ev l y = some (.int .i64 q)) (hr : -9223372036854775808 ≤ p * q ∧ p * q ≤ 9223372036854775807) : (execOp a.eval ⟨dst, .binOp .mul t1 x y t2, ty, pos, af, gd⟩).run P w = .ok (.value (.int .i64 (p * q))) w :=
  run2 h hx hy (fun ρ e1 e2 => by simp only [execOp, e1, e2]; rw [show (p * q) = IntKind.i64.wrap (p * q) from (wrap_in hr).symm]; rfl)
theorem neg (h : Has ds N a l) (hx : ev l x = some (.int .i64 p)) (hr : -9223372036854775808 ≤ -p ∧ -p ≤ 9223372036854775807) : (execOp a.eval ⟨dst, .unOp .neg t1 x, ty, pos, af, gd⟩).run P w = .ok (.value (.int .i64 (-p))) w :=
  (by
    simp only [execOp, h.ev hx]
    rw [show (-p) = IntKind.i64.wrap (0 - p) from by rw [wrap_in (by omega)]; omega]
    rfl)
theorem quo (h : Has ds N a l) (hx : ev l x = some (.int .i64 p)) (hy : ev l y = some (.int .i64 q)) (hq : q ≠ 0) (hr : -9223372036854775808 ≤ p.tdiv q ∧ p.tdiv q ≤ 9223372036854775807) : (execOp a.eval ⟨dst, .binOp .quo t1 x y t2, ty, pos, af, gd⟩).run P w = .ok (.value (.int .i64 (p.tdiv q))) w :=
  run2 h hx hy (fun ρ e1 e2 => by
    simp only [execOp, e1, e2]
    rw [show p.tdiv q = IntKind.i64.wrap (p.tdiv q) from (wrap_in hr).symm]
    show Sem.run P (do eqGuard .quo t1 x y (.int .i64 p) (.int .i64 q); pure (Next.value (← Op.intDiv .quo .i64 p q))) w = _
    simp only [Op.intDiv, if_neg hq]
    rfl)
theorem rem (h : Has ds N a l) (hx : ev l x = some (.int .i64 p)) (hy : ev l y = some (.int .i64 q)) (hq : q ≠ 0) : (execOp a.eval ⟨dst, .binOp .rem t1 x y t2, ty, pos, af, gd⟩).run P w = .ok (.value (.int .i64 (p.tmod q))) w :=
  run2 h hx hy (fun ρ e1 e2 => by
    simp only [execOp, e1, e2]
    show Sem.run P (do eqGuard .rem t1 x y (.int .i64 p) (.int .i64 q); pure (Next.value (← Op.intDiv .rem .i64 p q))) w = _
    simp only [Op.intDiv, if_neg hq]
    rfl)
theorem quo0 (h : Has ds N a l) (hx : ev l x = some (.int .i64 p)) (hy : ev l y = some (.int .i64 q)) (hp : 0 ≤ p ∧ p ≤ 9223372036854775807) (hq : 0 < q) : (execOp a.eval ⟨dst, .binOp .quo t1 x y t2, ty, pos, af, gd⟩).run P w = .ok (.value (.int .i64 (p / q))) w := by
  have e : p.tdiv q = p / q := Int.tdiv_eq_ediv_of_nonneg hp.1
  have h1 : 0 ≤ p / q := Int.ediv_nonneg hp.1 (by omega)
  have h2 : p / q ≤ p := Int.ediv_le_self q hp.1
  have := quo (P := P) (w := w) (t1 := t1) (t2 := t2) (ty := ty) (pos := pos) (af := af) (dst := dst) (gd := gd) h hx hy (by omega) (by rw [e]; omega)
  rwa [e] at this
theorem rem0 (h : Has ds N a l) (hx : ev l x = some (.int .i64 p)) (hy : ev l y = some (.int .i64 q)) (hp : 0 ≤ p) (hq : 0 < q) : (execOp a.eval ⟨dst, .binOp .rem t1 x y t2, ty, pos, af, gd⟩).run P w = .ok (.value (.int .i64 (p % q))) w := by
  have e : p.tmod q = p % q := Int.tmod_eq_emod_of_nonneg hp
  have := rem (P := P) (w := w) (t1 := t1) (t2 := t2) (ty := ty) (pos := pos) (af := af) (dst := dst) (gd := gd) h hx hy (by omega)
  rwa [e] at this
end Go.Proofs.Sx
end
section
namespace Go.Proofs.Sx
open Go.RowKit
variable {P : Program} {ops : Array Oper} {Q : Exit → Act → World → Prop} {K : Act → World → Prop} {rest : List Oper} {o : Oper}
variable {ds : List Deferred} {N : Nat} {a : Act} {l : AL} {w w' w0 : World} {c : Cx} {hl : HL} {d ty : Nat} {pos : String} {af : Array Edge} {v : Value} {dst : Option Tmp} {gd : Option (Nat × Bool)}
variable {x y : Operand} {t t' g i off : Nat} {cs : Array Value} {fr : Nat × Nat}
def zc (P : Program) (t : TypeId) : Option (Array Value) := ((P.info? t).bind (·.zero)).map Value.cells
def szT (P : Program) (t : TypeId) : Option Nat := (P.info? t).map (·.size)
def isAg (P : Program) (t : TypeId) : Option Bool := (P.underlying t).map fun d => match d with | .struct _ | .array _ _ => true | _ => false
def fo (P : Program) (s f : Nat) : Option Nat := match P.underlying s with
  | some (.struct fields) => match fields[f]? with
    | some fd => match szT P fd.type with
      | some (_ + 1) => some fd.offset
      | _ => none
    | none => none
  | _ => none
theorem run_isAgg {b : Bool} (h : isAg P t = some b) (w : World) : (isAgg t).run P w = .ok b w := by
  unfold isAg at h
  cases hu : P.underlying t with
  | none => simp [hu] at h
  | some dd =>
    rw [hu] at h
    unfold isAgg
    rw [Sem.run_bind, run_underlying hu w]
    cases dd <;> simp_all
theorem run_sizeOf {n : Nat} (h : szT P t = some n) (w : World) : (sizeOf t).run P w = .ok n w := by
  unfold szT at h
  cases hq : P.info? t with
  | none => simp [hq] at h
  | some i => simp [sizeOf, typeInfo, hq, Sem.run_bind] at h ⊢; exact h
theorem ld1 {ad : Addr} (h : Has ds N a l) (hx : ev l x = some (.pointer (some ad))) (hc : w.cell? ad = some v) (ht : isAg P t = some false) : (execOp a.eval ⟨dst, .load t x, ty, pos, af, gd⟩).run P w = .ok (.value v) w := by
  simp only [execOp, h.ev hx, Instr.loadAt, Instr.sureAddr, Sem.run_bind, Sem.run_pure, Result.andThen_ok, loadVar, run_isAgg ht]
  simp [load, Sem.run, hc]
theorem ldn {ad : Addr} {us : List Value} (h : Has ds N a l) (hx : ev l x = some (.pointer (some ad))) (hc : ∀ j u, us[j]? = some u → w.cell? (ad.add j) = some u) (ht : isAg P t = some true) (hs : szT P t = some us.length) : (execOp a.eval ⟨dst, .load t x, ty, pos, af, gd⟩).run P w = .ok (.value (.agg us.toArray)) w := by
  simp only [execOp, h.ev hx, Instr.loadAt, Instr.sureAddr, Sem.run_bind, Sem.run_pure, Result.andThen_ok, loadVar, run_isAgg ht, if_true, run_sizeOf hs, run_loadCells_list (P := P) w ad us hc]
theorem ldo (h : Has ds N a l) (hp : Hp c w0 w hl) (hx : ev l x = some (.pointer (some ⟨g, off, none⟩))) (i : Nat) (hi : nth hl i = some (.blk g (.cells cs t' fr))) (hc : nth cs.toList off = some v) (ht : isAg P t = some false) : (execOp a.eval ⟨dst, .load t x, ty, pos, af, gd⟩).run P w = .ok (.value v) w :=
  ld1 h hx (by rw [hp.cellAt hi]; rw [nth_eq] at hc; simpa using hc) ht
theorem ldO {us : List Value} (h : Has ds N a l) (hp : Hp c w0 w hl) (hx : ev l x = some (.pointer (some ⟨g, off, none⟩))) (i : Nat) (hi : nth hl i = some (.blk g (.cells cs t' fr))) (hs : szT P t = some us.length) (hc : (cs.toList.drop off).take us.length = us) (ht : isAg P t = some true) : (execOp a.eval ⟨dst, .load t x, ty, pos, af, gd⟩).run P w = .ok (.value (.agg us.toArray)) w :=
  ldn h hx (fun j u hu => by
    rw [Go.WideShapes.add_plain, hp.cellAt hi]
    rw [← hc] at hu
    rw [List.getElem?_take] at hu
    split at hu
    · rw [List.getElem?_drop] at hu
      simpa using hu
    · cases hu) ht hs
theorem fad {s f k : Nat} (h : Has ds N a l) (hx : ev l x = some (.pointer (some ⟨g, k, none⟩))) (hf : fo P s f = some off) : (execOp a.eval ⟨dst, .fieldAddr s x f, ty, pos, af, gd⟩).run P w = .ok (.value (.pointer (some ⟨g, k + off, none⟩))) w := by
  unfold fo at hf
  split at hf
  · rename_i fields hu
    split at hf
    · rename_i fd hfd
      split at hf
      · rename_i n hs
        simp only [Option.some.injEq] at hf
        simp only [execOp, h.ev hx, Instr.fieldAt, Instr.sureAddr, Sem.run_bind, Sem.run_pure, Result.andThen_ok, run_underlying hu, hfd, fieldPlace, run_sizeOf hs]
        rw [if_neg (by omega)]
        simp [Go.WideShapes.add_plain, hf]
      · cases hf
    · cases hf
  · cases hf
theorem iad {e n cp sz b o' : Nat} {k : IntKind} {j : Int} (h : Has ds N a l) (hx : ev l x = some (.slice (some ⟨b, o', none⟩) n cp)) (hy : ev l y = some (.int k j)) (ht : P.underlying t = some (.slice e)) (hs : szT P e = some sz) (h0 : 0 ≤ j) (h1 : j < n) :
    (execOp a.eval ⟨dst, .indexAddr t x y, ty, pos, af, gd⟩).run P w = .ok (.value (.pointer (some ⟨b, o' + j.toNat * sz, none⟩))) w := by
  simp only [execOp, h.ev hx, h.ev hy, Instr.indexAt, asIntOf, Sem.run_bind, Sem.run_pure, Result.andThen_ok, run_underlying ht]
  rw [if_pos ⟨h0, h1⟩]
  simp [Sem.run_bind, run_sizeOf hs, Go.WideShapes.add_plain]
theorem iaa {e n sz b o' : Nat} {k : IntKind} {j : Int} (h : Has ds N a l) (hx : ev l x = some (.pointer (some ⟨b, o', none⟩))) (hy : ev l y = some (.int k j)) (ht : P.underlying t = some (.array n e)) (hs : szT P e = some sz) (h0 : 0 ≤ j) (h1 : j < n) :
    (execOp a.eval ⟨dst, .indexAddr t x y, ty, pos, af, gd⟩).run P w = .ok (.value (.pointer (some ⟨b, o' + j.toNat * sz, none⟩))) w := by
  simp only [execOp, h.ev hx, h.ev hy, Instr.indexAt, asIntOf, Sem.run_bind, Sem.run_pure, Result.andThen_ok, run_underlying ht, Instr.sureAddr]
  rw [if_pos ⟨h0, h1⟩]
  simp [Sem.run_bind, run_sizeOf hs, Go.WideShapes.add_plain]
theorem ext {vs : Array Value} {j : Nat} (h : Has ds N a l) (hx : ev l x = some (.tuple vs)) (hv : nth vs.toList j = some v) : (execOp a.eval ⟨dst, .extract x j, ty, pos, af, gd⟩).run P w = .ok (.value v) w := by
  have hv : vs[j]? = some v := by rw [nth_eq] at hv; simpa using hv
  simp only [execOp, h.ev hx, Instr.extract, hv]
  rfl
theorem len_ {e n cp : Nat} {A : Option Addr} {tt : TypeId} {ats : List TypeId} (h : Has ds N a l) (hx : ev l x = some (.slice A n cp)) (ht : P.underlying tt = some (.slice e)) : (execOp a.eval ⟨dst, .call ⟨.builtin .len, #[x], (tt :: ats).toArray⟩, ty, pos, af, gd⟩).run P w = .ok (.value (.int .i64 n)) w := by
  simp [execOp, resolve, invoke, builtin, Builtin.len_, h.ev hx, run_underlying ht, Sem.run_bind, goInt]
theorem lenS {s : ByteArray} {tt : TypeId} {ats : List TypeId} (h : Has ds N a l) (hx : ev l x = some (.string s)) (ht : P.underlying tt = some .string) : (execOp a.eval ⟨dst, .call ⟨.builtin .len, #[x], (tt :: ats).toArray⟩, ty, pos, af, gd⟩).run P w = .ok (.value (.int .i64 s.size)) w := by
  simp [execOp, resolve, invoke, builtin, Builtin.len_, h.ev hx, run_underlying ht, Sem.run_bind, goInt]
theorem max_ {p q : Int} {ats : Array TypeId} (h : Has ds N a l) (hx : ev l x = some (.int .i64 p)) (hy : ev l y = some (.int .i64 q)) : (execOp a.eval ⟨dst, .call ⟨.builtin .max, #[x, y], ats⟩, ty, pos, af, gd⟩).run P w = .ok (.value (.int .i64 (max p q))) w := by
  have e : max p q = if q > p then q else p := by split <;> omega
  simp [execOp, resolve, invoke, builtin, Builtin.max_, h.ev hx, h.ev hy, Sem.run_bind, Builtin.max2, e]
theorem min_ {p q : Int} {ats : Array TypeId} (h : Has ds N a l) (hx : ev l x = some (.int .i64 p)) (hy : ev l y = some (.int .i64 q)) : (execOp a.eval ⟨dst, .call ⟨.builtin .min, #[x, y], ats⟩, ty, pos, af, gd⟩).run P w = .ok (.value (.int .i64 (min p q))) w := by
  have e : min p q = if q < p then q else p := by split <;> omega
  simp [execOp, resolve, invoke, builtin, Builtin.min_, h.ev hx, h.ev hy, Sem.run_bind, Builtin.min2, e]
theorem mki (h : Has ds N a l) (hx : ev l x = some v) (ht : ((P.underlying t).map fun d => match d with | .interface _ => true | _ => false) = some false) : (execOp a.eval ⟨dst, .makeInterface t x, ty, pos, af, gd⟩).run P w = .ok (.value (.iface t v)) w := by
  cases hu : P.underlying t with
  | none => simp [hu] at ht
  | some dd =>
    rw [hu] at ht
    simp only [execOp, h.ev hx, Instr.makeInterface, Sem.run_bind, run_underlying hu, Result.andThen_ok]
    cases dd <;> simp_all
def evs (l : AL) : List Operand → Option (List Value)
  | [] => some []
  | x :: r => match ev l x, evs l r with
    | some v, some vs => some (v :: vs)
    | _, _ => none
theorem Has.evs (h : Has ds N a l) : ∀ {xs : List Operand} {vs : List Value}, evs l xs = some vs → xs.map a.eval = vs
  | [], vs, e => by cases e; rfl
  | x :: r, vs, e => by
    simp only [Sx.evs] at e
    split at e
    · rename_i v us h1 h2
      cases e
      rw [List.map_cons, h.ev h1, Has.evs h h2]
    · cases e
theorem mkf {fn : Fn} {first cap : List Operand} {us vs : List Value} (h : Has ds N a l) (h1 : evs l first = some us) (h2 : evs l cap = some vs) : (execOp a.eval ⟨dst, .makeFunc fn first.toArray cap.toArray, ty, pos, af, gd⟩).run P w = .ok (.value (.func fn us.toArray vs.toArray)) w := by
  simp only [execOp, Instr.makeFunc]
  rw [← h.evs h1, ← h.evs h2]
  simp
theorem bld {parts : List (Nat × Operand)} {us : List Value} (h : Has ds N a l) (hu : evs l (parts.map (·.2)) = some us) (hr : (Instr.build t ((parts.map (·.1)).zip us).toArray).run P w = .ok v w) : (execOp a.eval ⟨dst, .build t parts.toArray, ty, pos, af, gd⟩).run P w = .ok (.value v) w := by
  have e : (parts.toArray.map fun (p : Nat × Operand) => (p.1, a.eval p.2)) = ((parts.map (·.1)).zip us).toArray := by
    rw [← h.evs hu]
    simp [List.zip_map', List.map_map]
  simp only [execOp]
  rw [show (parts.toArray.map fun (x : Nat × Operand) => match x with | (i, x) => (i, a.eval x)) = ((parts.map (·.1)).zip us).toArray from e]
  simp only [Sem.run_bind, hr, Result.andThen_ok]
  rfl
theorem vl (h : Has ds N a l) (hrun : (execOp a.eval o).run P w = .ok (.value v) w) (k : ∀ a', Has ds N a' ((d, v) :: l) → K a' w) (hd : o.dst = some d := by rfl) (hN : Nat.blt d N = true := by rfl) (hg : o.guard = none := by rfl) : Stp P ops Q o K a w :=
  stp_val h hd hN hg hrun k
theorem all (h : Has ds N a l) (hp : Hp c w0 w hl) (hz : zc P t = some cs) (k : ∀ a' w' g, w.heap.size ≤ g → Has ds N a' ((d, .pointer (some ⟨g, 0, none⟩)) :: l) → Hp c w0 w' (hl ++ [(.blk g (.cells cs t (0, 0)))]) → K a' w') (hN : Nat.blt d N = true := by rfl) : Stp P ops Q ⟨some d, .alloc t, ty, pos, af, none⟩ K a w := by
  unfold zc at hz
  have hr : (execOp a.eval ⟨some d, .alloc t, ty, pos, af, none⟩).run P w = .ok (.value (.pointer (some ⟨w.heap.size, 0, none⟩))) (w.alloc (.cells cs t)) := by
    cases hq : P.info? t with
    | none => simp [hq] at hz
    | some i =>
      cases hw : i.zero with
      | none => simp [hq, hw] at hz
      | some z =>
        simp only [hq, hw, Option.bind_some, Option.map_some, Option.some.injEq] at hz
        subst hz
        simp [execOp, Instr.alloc, zeroValue, typeInfo, hq, hw, Sem.run_bind, newVar, newRow, newObj, Sem.run]
  exact stp_val h rfl hN rfl hr (fun a' h' => k a' _ _ (Nat.le_refl _) h' (hp.alloc _))
theorem box (h : Has ds N a l) (hp : Hp c w0 w hl) (hx : ev l x = some v) (hv : v.cells = cs) (k : ∀ a' w' g, w.heap.size ≤ g → Has ds N a' ((d, .pointer (some ⟨g, 0, none⟩)) :: l) → Hp c w0 w' (hl ++ [(.blk g (.cells cs t (0, 0)))]) → K a' w') (hN : Nat.blt d N = true := by rfl) : Stp P ops Q ⟨some d, .box t x, ty, pos, af, none⟩ K a w := by
  have hr : (execOp a.eval ⟨some d, .box t x, ty, pos, af, none⟩).run P w = .ok (.value (.pointer (some ⟨w.heap.size, 0, none⟩))) (w.alloc (.cells cs t)) := by
    subst hv
    simp [execOp, h.ev hx, Instr.box, Sem.run_bind, newVar, newRow, newObj, Sem.run]
  exact stp_val h rfl hN rfl hr (fun a' h' => k a' _ _ (Nat.le_refl _) h' (hp.alloc _))
theorem setRow_other (w : World) (g : Nat) (cs : Array Value) (k : Nat) (h : k ≠ g) : (w.setRow g cs).heap[k]? = w.heap[k]? := by
  simp only [World.setRow, Array.getElem?_modify]
  rw [if_neg (by omega)]
theorem stp_skip (hg : o.guard = none) (hd : o.dst = none) (hrun : (execOp a.eval o).run P w = .ok .skip w') (k : K a w') : Stp P ops Q o K a w := by
  unfold Stp
  rw [if_pos (by simp [Region.wanted, hg])]
  unfold Oper.wp
  rw [hrun, Oper.upon_skip, hd]
  exact k
theorem st1 (h : Has ds N a l) (hp : Hp c w0 w hl) (hx : ev l x = some (.pointer (some ⟨g, off, none⟩))) (hy : ev l y = some v) (i : Nat) (hi : nth hl i = some (.blk g (.cells cs t' (0, 0)))) (h1 : v.oneCell' = true) (ht : szT P t = some 1) (hb : Nat.blt off cs.size = true)
    (k : ∀ w', Hp c w0 w' (hl.set i (.blk g (.cells (cs.toList.set off v).toArray t' (0, 0)))) → K a w') : Stp P ops Q ⟨none, .store t x y, ty, pos, af, none⟩ K a w := by
  have hb' : off < cs.size := by simp only [Nat.blt, Nat.ble_eq] at hb; omega
  have hg : w.heap[g]? = some (.cells cs t' (0, 0)) := hp.fact hi
  have hc : w.cell? ⟨g, off, none⟩ = some cs[off] := by rw [hp.cellAt hi]; simp [hb']
  have hf : w.frozen? ⟨g, off, none⟩ = false := by simp [World.frozen?, hg]
  have hv : v.cells = #[v] := by cases v <;> simp_all [Value.oneCell', Value.cells]
  have hr : (execOp a.eval ⟨none, .store t x y, ty, pos, af, none⟩).run P w = .ok .skip (w.setCell ⟨g, off, none⟩ v) := by
    simp [execOp, h.ev hx, h.ev hy, Instr.storeAt, Instr.sureAddr, Sem.run_bind, storeVar, run_sizeOf ht, hv, storeCells, run_store P w ⟨g, off, none⟩ v .plain h1, hc, hf, Go.WideShapes.add_plain]
  refine stp_skip rfl rfl hr (k _ (hp.put hi ?_ rfl rfl rfl (by simp [World.setCell]) (fun k hk => Below.heap_setCell _ _ _ _ hk)))
  rw [show (cs.toList.set off v).toArray = cs.setIfInBounds off v from by rw [← Array.toList_setIfInBounds]]
  simp [World.setCell, Array.getElem?_modify, hg]
theorem sta (h : Has ds N a l) (hp : Hp c w0 w hl) {us : Array Value} (hx : ev l x = some (.pointer (some ⟨g, 0, none⟩))) (hy : ev l y = some (.agg us)) (i : Nat) (hi : nth hl i = some (.blk g (.cells cs t' (0, 0)))) (ht : szT P t = some us.size) (hb : Nat.beq cs.size us.size = true) (h1 : us.toList.all (·.oneCell') = true)
    (k : ∀ w', Hp c w0 w' (hl.set i (.blk g (.cells us t' (0, 0)))) → K a w') : Stp P ops Q ⟨none, .store t x y, ty, pos, af, none⟩ K a w := by
  have h1 : us.all (·.oneCell') = true := by rw [← Array.all_toList]; exact h1
  have hg : w.heap[g]? = some (.cells cs t' (0, 0)) := hp.fact hi
  have hr : (execOp a.eval ⟨none, .store t x y, ty, pos, af, none⟩).run P w = .ok .skip (w.setRow g us) := by
    simp [execOp, h.ev hx, h.ev hy, Instr.storeAt, Instr.sureAddr, Sem.run_bind, run_storeVar_row w g t' t cs us hg ht (Nat.eq_of_beq_eq_true hb) h1]
  refine stp_skip rfl rfl hr (k _ (hp.put hi ?_ rfl rfl rfl (by simp [World.setRow]) (fun k hk => setRow_other _ _ _ _ hk)))
  exact setRow_heap w g cs us t' (0, 0) hg
theorem stp_enter {f : FuncId} {as_ : Array Value} (h : Has ds N a l) (hd : o.dst = some d) (hN : Nat.blt d N = true) (hg : o.guard = none) (hrun : (execOp a.eval o).run P w = .ok (.enter f as_) w) {R : Ending → World → Prop} (hc : Calls P f as_ w R)
    (k : ∀ u w', R (.returned u) w' → ∀ a', Has ds N a' ((d, u) :: l) → K a' w') (kp : ∀ ch w', R (.panicked ch) w' → Q (.panic ch) a w') (ko : ∀ w', ¬ R .outgrown w') : Stp P ops Q o K a w := by
  unfold Stp
  rw [if_pos (by simp [Region.wanted, hg])]
  unfold Oper.wp
  rw [hrun, Oper.upon_enter]
  refine hc.mono fun e w' hR => ?_
  cases e with
  | returned u => rw [hd]; exact k u w' hR _ (h.put hN u)
  | panicked ch => exact kp ch w' hR
  | outgrown => exact absurd hR (ko w')
theorem run_call {f : FuncId} {xs : List Operand} {vs : List Value} {ats : Array TypeId} (h : Has ds N a l) (hx : evs l xs = some vs) (hf : ∀ args w, (callFunc f args).run P w = .ok (.enter f args) w) : (execOp a.eval ⟨dst, .call ⟨.value (.func f), xs.toArray, ats⟩, ty, pos, af, gd⟩).run P w = .ok (.enter f vs.toArray) w := by
  have e : xs.toArray.map a.eval = vs.toArray := by rw [← h.evs hx]; simp
  simp only [execOp, resolve, Deferred.ofValue, Sem.run_bind, Sem.run_pure, Result.andThen_ok, invoke, e, Act.eval]
  simp only [Array.append_empty, Array.empty_append]
  exact hf _ _
theorem run_callv {f : FuncId} {z : Operand} {cap first : Array Value} {xs : List Operand} {vs : List Value} {ats : Array TypeId} (h : Has ds N a l) (hz : ev l z = some (.func (.func f) first cap)) (hx : evs l xs = some vs) (hf : ∀ args w, (callFunc f args).run P w = .ok (.enter f args) w) : (execOp a.eval ⟨dst, .call ⟨.value z, xs.toArray, ats⟩, ty, pos, af, gd⟩).run P w = .ok (.enter f (first ++ vs.toArray ++ cap)) w := by
  have e : xs.toArray.map a.eval = vs.toArray := by rw [← h.evs hx]; simp
  simp only [execOp, resolve, h.ev hz, Deferred.ofValue, Sem.run_bind, Sem.run_pure, Result.andThen_ok, invoke, e]
  exact hf _ _
theorem cal {f : FuncId} {xs : List Operand} {vs : List Value} {ats : Array TypeId} {R : Value → World → Prop} (h : Has ds N a l) (hx : evs l xs = some vs) (hf : ∀ args w, (callFunc f args).run P w = .ok (.enter f args) w) (hc : Calls P f vs.toArray w fun e w' => ∃ u, e = .returned u ∧ R u w')
    (k : ∀ u w', R u w' → ∀ a', Has ds N a' ((d, u) :: l) → K a' w') (hN : Nat.blt d N = true := by rfl) : Stp P ops Q ⟨some d, .call ⟨.value (.func f), xs.toArray, ats⟩, ty, pos, af, none⟩ K a w :=
  stp_enter h rfl hN rfl (run_call h hx hf) hc (fun u w' ⟨u', e, hR⟩ a' h' => by cases e; exact k u w' hR a' h') (fun ch w' ⟨u', e, _⟩ => by cases e) (fun w' ⟨u', e, _⟩ => by cases e)
theorem calv {f : FuncId} {z : Operand} {cap first : Array Value} {xs : List Operand} {vs : List Value} {ats : Array TypeId} {R : Value → World → Prop} (h : Has ds N a l) (hz : ev l z = some (.func (.func f) first cap)) (hx : evs l xs = some vs) (hf : ∀ args w, (callFunc f args).run P w = .ok (.enter f args) w) (hc : Calls P f (first ++ vs.toArray ++ cap) w fun e w' => ∃ u, e = .returned u ∧ R u w')
    (k : ∀ u w', R u w' → ∀ a', Has ds N a' ((d, u) :: l) → K a' w') (hN : Nat.blt d N = true := by rfl) : Stp P ops Q ⟨some d, .call ⟨.value z, xs.toArray, ats⟩, ty, pos, af, none⟩ K a w :=
  stp_enter h rfl hN rfl (run_callv h hz hx hf) hc (fun u w' ⟨u', e, hR⟩ a' h' => by cases e; exact k u w' hR a' h') (fun ch w' ⟨u', e, _⟩ => by cases e) (fun w' ⟨u', e, _⟩ => by cases e)
abbrev Ret (P : Program) (f : FuncId) (args : Array Value) (w : World) (R : Value → World → Prop) : Prop := Calls P f args w fun e w' => ∃ u, e = .returned u ∧ R u w'
def alFrom : Nat → List Value → AL
  | _, [] => []
  | i, v :: r => (i, v) :: alFrom (i + 1) r
theorem look_alFrom : ∀ (vs : List Value) (i t : Nat) (v : Value), look (alFrom i vs) t = some v → i ≤ t ∧ vs[t - i]? = some v
  | [], i, t, v, h => by cases h
  | u :: r, i, t, v, h => by
    simp only [alFrom, look] at h
    cases hb : Nat.beq i t with
    | true =>
      rw [hb] at h
      simp only [cond_true, Option.some.injEq] at h
      have := Nat.eq_of_beq_eq_true hb
      subst this
      subst h
      simp
    | false =>
      rw [hb] at h
      obtain ⟨h1, h2⟩ := look_alFrom r (i + 1) t v h
      refine ⟨by omega, ?_⟩
      have : t - i = (t - (i + 1)) + 1 := by omega
      rw [this, List.getElem?_cons_succ]
      exact h2
theorem enter {f : FuncId} {fn : Func} {cd : Code} {args : Array Value} {R : Ending → World → Prop} (hf : P.funcs[f]? = some fn) (hb : fn.body = some cd) (hn : fn.ntmps = N) (hs : Nat.ble args.size N = true)
    (h : ∀ a, Has [] N a (alFrom 0 args.toList) → cd.wp P (bodyPost P fn R) a w) : Calls P f args w R := by
  have hs' : args.size ≤ N := by simpa [Nat.ble_eq] using hs
  refine calls_of_wp hf hb (h _ ⟨rfl, ?_, fun t v hv => ?_⟩)
  · simp [hn]; omega
  · obtain ⟨_, h2⟩ := look_alFrom _ _ _ _ hv
    have h3 : args[t]? = some v := by simpa using h2
    have hlt : t < args.size := (Array.getElem?_eq_some_iff.1 h3).1
    simp [Array.getElem?_append, hlt]
    exact (Array.getElem?_eq_some_iff.1 h3).2
theorem rg {id : Nat} {L : List Oper} {z : Code} (h : wpList P L.toArray (Exit.then (z.wp P Q) Q) L a w) : (Code.seq (Code.region id L.toArray false) z).wp P Q a w := wp_seq (wp_region_lit h)
theorem rg1 {id : Nat} {L : List Oper} (h : wpList P L.toArray Q L a w) : (Code.region id L.toArray false).wp P Q a w := wp_region_lit h
theorem cut {z1 z2 : Code} (I : Act → World → Prop) (h1 : z1.wp P (Exit.then I Q) a w) (h2 : ∀ a w, I a w → z2.wp P Q a w) : (Code.seq z1 z2).wp P Q a w :=
  wp_seq (Code.wp_mono (fun e a w q => by cases e <;> first | exact h2 _ _ q | exact q) h1)
theorem cnd {A B z : Code} {b : Bool} (h : Has ds N a l) (hx : ev l x = some (.bool b)) (h1 : b = true → A.wp P (Exit.then (z.wp P Q) Q) a w) (h2 : b = false → B.wp P (Exit.then (z.wp P Q) Q) a w) : (Code.seq (Code.cond x A B) z).wp P Q a w :=
  wp_seq (wp_cond_split (h.ev hx) h1 h2)
theorem cnd1 {A B : Code} {b : Bool} (h : Has ds N a l) (hx : ev l x = some (.bool b)) (h1 : b = true → A.wp P Q a w) (h2 : b = false → B.wp P Q a w) : (Code.cond x A B).wp P Q a w := wp_cond_split (h.ev hx) h1 h2
theorem skp {K : Act → World → Prop} (h : K a w) : Code.skip.wp P (Exit.then K Q) a w := wp_skip h
variable {fn : Func} {R : Ending → World → Prop} {r1 r2 r3 : Nat} {v1 v2 v3 : Value}
theorem rt0 (h : Has [] N a l) (hr : fn.results = #[]) (hR : R (.returned (.tuple #[])) w) : bodyPost P fn R .normal a w := bodyPost_end (results_none hr _ _ _) h.defs hR
theorem rt0' (h : Has [] N a l) (hr : fn.results = #[]) (hR : R (.returned (.tuple #[])) w) : bodyPost P fn R .ret a w := bodyPost_ret (results_none hr _ _ _) h.defs hR
end Go.Proofs.Sx
end
section
namespace Go.Proofs.Sx
open Go.RowKit
variable {P : Program} {ops : Array Oper} {Q : Exit → Act → World → Prop} {S : World → Prop} {o : Oper}
variable {ds : List Deferred} {N : Nat} {a : Act} {l : AL} {w : World} {d i fuel : Nat} {v : Value} {li : Array Bool}
def tkB (ops : Array Oper) (li : Array Bool) (i : Nat) : Bool := Region.noSelect ops && Region.free .any ops li i && (Region.ready .any ops li).contains i
theorem rdr {id n : Nat} {L : List Oper} {z : Code} (S : World → Prop) (hm : P.follows .mixedOrders = true) (hn : L.toArray.size = n) (h : wpAnyH P .any L.toArray (Exit.then (z.wp P Q) Q) S n (Array.replicate n false) a w.drew) : (Code.seq (Code.region id L.toArray true) z).wp P Q a w := by
  subst hn
  exact wp_seq (wp_region_held hm h)
theorem rdr1 {id n : Nat} {L : List Oper} (S : World → Prop) (hm : P.follows .mixedOrders = true) (hn : L.toArray.size = n) (h : wpAnyH P .any L.toArray Q S n (Array.replicate n false) a w.drew) : (Code.region id L.toArray true).wp P Q a w := by
  subst hn
  exact wp_region_held hm h
theorem tk (i : Nat) (h : Has ds N a l) (hop : ops[i]? = some o) (hchk : tkB ops li i = true) (hQ : ∀ c a w, Q (.panic c) (a.put o.dst v) w → Q (.panic c) a w) (hS : S w) (hd : o.dst = some d) (hN : Nat.blt d N = true) (hg : o.guard = none)
    (hrun : ∀ W, S W → (execOp a.eval o).run P W = .ok (.value v) W) (k : ∀ a', Has ds N a' ((d, v) :: l) → wpAnyH P .any ops Q S fuel (li.setIfInBounds i true) a' w) : wpAnyH P .any ops Q S (fuel + 1) li a w := by
  simp only [tkB, Bool.and_eq_true] at hchk
  refine wpAnyH_take hop hchk.1.1 hchk.1.2 hchk.2 hQ (.inl ⟨by simp [Region.wanted, hg], hrun⟩) hS ?_
  rw [hd]
  exact k _ (h.put hN v)
theorem tk_on {j t : Nat} {b b' : Bool} (i : Nat) (h : Has ds N a l) (hop : ops[i]? = some o) (hchk : tkB ops li i = true) (hQ : ∀ c a w, Q (.panic c) (a.put o.dst v) w → Q (.panic c) a w) (hS : S w) (hd : o.dst = some d) (hN : Nat.blt d N = true) (hg : o.guard = some (j, b)) (hj : (ops[j]?).bind (·.dst) = some t) (hb : look l t = some (.bool b')) (hbb : b' = b)
    (hrun : ∀ W, S W → (execOp a.eval o).run P W = .ok (.value v) W) (k : ∀ a', Has ds N a' ((d, v) :: l) → wpAnyH P .any ops Q S fuel (li.setIfInBounds i true) a' w) : wpAnyH P .any ops Q S (fuel + 1) li a w := by
  simp only [tkB, Bool.and_eq_true] at hchk
  subst hbb
  have h1 : Region.wanted o (yielded ops a.tmps) = true := by
    have := h.get t _ hb
    simp [Region.wanted, hg, yielded, hj, this]
  refine wpAnyH_take hop hchk.1.1 hchk.1.2 hchk.2 hQ (.inl ⟨h1, hrun⟩) hS ?_
  rw [hd]
  exact k _ (h.put hN v)
theorem tk_off {j t : Nat} {b b' : Bool} (i : Nat) (h : Has ds N a l) (hop : ops[i]? = some o) (hchk : tkB ops li i = true) (hQ : ∀ c a w, Q (.panic c) (a.put o.dst undef) w → Q (.panic c) a w) (hS : S w) (hd : o.dst = some d) (hN : Nat.blt d N = true) (hg : o.guard = some (j, b)) (hj : (ops[j]?).bind (·.dst) = some t) (hb : look l t = some (.bool b')) (hbb : b' = !b)
    (k : ∀ a', Has ds N a' ((d, undef) :: l) → wpAnyH P .any ops Q S fuel (li.setIfInBounds i true) a' w) : wpAnyH P .any ops Q S (fuel + 1) li a w := by
  simp only [tkB, Bool.and_eq_true] at hchk
  subst hbb
  have h1 : Region.wanted o (yielded ops a.tmps) = false := by
    have := h.get t _ hb
    cases b <;> simp [Region.wanted, hg, yielded, hj, this]
  refine wpAnyH_take hop hchk.1.1 hchk.1.2 hchk.2 hQ (.inr ⟨h1, rfl⟩) hS ?_
  rw [hd]
  exact k _ (h.put hN undef)
theorem tk_un {j t : Nat} {b : Bool} (i : Nat) (h : Has ds N a l) (hop : ops[i]? = some o) (hchk : tkB ops li i = true) (hQ : ∀ c a w, Q (.panic c) (a.put o.dst undef) w → Q (.panic c) a w) (hS : S w) (hd : o.dst = some d) (hN : Nat.blt d N = true) (hg : o.guard = some (j, b)) (hj : (ops[j]?).bind (·.dst) = some t) (hb : look l t = some undef)
    (k : ∀ a', Has ds N a' ((d, undef) :: l) → wpAnyH P .any ops Q S fuel (li.setIfInBounds i true) a' w) : wpAnyH P .any ops Q S (fuel + 1) li a w := by
  simp only [tkB, Bool.and_eq_true] at hchk
  have h1 : Region.wanted o (yielded ops a.tmps) = false := by
    have := h.get t _ hb
    cases b <;> simp [Region.wanted, hg, yielded, hj, this, undef]
  refine wpAnyH_take hop hchk.1.1 hchk.1.2 hchk.2 hQ (.inr ⟨h1, rfl⟩) hS ?_
  rw [hd]
  exact k _ (h.put hN undef)
theorem one (i : Nat) (hr : Region.ready .any ops li = [i]) (hop : ops[i]? = some o) (k : Stp P ops Q o (fun a' w' => S w' ∧ wpAnyH P .any ops Q S fuel (li.setIfInBounds i true) a' w') a w) : wpAnyH P .any ops Q S (fuel + 1) li a w := by
  refine wpAnyH_all hr (by simp) fun j hj => ?_
  rw [List.mem_singleton] at hj
  subst hj
  unfold wpOp
  rw [hop]
  exact k.or
theorem two {o2 : Oper} (i j : Nat) (hr : Region.ready .any ops li = [i, j]) (hop : ops[i]? = some o) (hop2 : ops[j]? = some o2) (k : Stp P ops Q o (fun a' w' => S w' ∧ wpAnyH P .any ops Q S fuel (li.setIfInBounds i true) a' w') a w)
    (k2 : Stp P ops Q o2 (fun a' w' => S w' ∧ wpAnyH P .any ops Q S fuel (li.setIfInBounds j true) a' w') a w) : wpAnyH P .any ops Q S (fuel + 1) li a w := by
  refine wpAnyH_all hr (by simp) fun m hm => ?_
  simp only [List.mem_cons, List.mem_nil_iff, or_false] at hm
  rcases hm with rfl | rfl
  · unfold wpOp
    rw [hop]
    exact k.or
  · unfold wpOp
    rw [hop2]
    exact k2.or
theorem dn (hr : Region.ready .any ops li = []) (h : Q .normal a w) : wpAnyH P .any ops Q S fuel li a w := wpAnyH_done hr h fuel
end Go.Proofs.Sx
end
section
namespace Go.Proofs.Sx
open Go.RowKit
variable {P : Program} {Q : Exit → Act → World → Prop} {ds : List Deferred} {N : Nat} {a : Act} {l : AL} {w w0 : World} {c : Cx} {hl : HL} {v : Value}
def sel (l : AL) : List Nat → AL
  | [] => []
  | t :: r => match look l t with
    | some v => (t, v) :: sel l r
    | none => sel l r
def Sub (l : AL) : AL → Prop
  | [] => True
  | (t, v) :: r => look l t = some v ∧ Sub l r
theorem Sub.mem : ∀ {l' : AL}, Sub l l' → ∀ p ∈ l', look l p.1 = some p.2
  | [], _, p, hp => by cases hp
  | (t, v) :: r, h, p, hp => by
    rcases List.mem_cons.1 hp with rfl | hp
    · exact h.1
    · exact Sub.mem h.2 p hp
theorem Has.sub {l' : AL} (h : Has ds N a l) (hs : Sub l l') : Has ds N a l' := h.weaken hs.mem
theorem lp {id : Nat} {body z : Code} (h : Has ds N a l) (ts : List Nat) (I : Nat → AL → World → Prop) (n0 : Nat) (f0 : AL) (hs : Sub l (f0 ++ sel l ts)) (h0 : I n0 f0 w)
    (round : ∀ n f a w, I n f w → Has ds N a (f ++ sel l ts) → body.wp P (Exit.then (fun a' w' => ∃ m f', m < n ∧ I m f' w' ∧ Has ds N a' (f' ++ sel l ts)) (Exit.inBlock id (Exit.then (z.wp P Q) Q))) a w) :
    (Code.seq (Code.block id (Code.loop body)) z).wp P Q a w := by
  refine wp_seq (wp_block (wp_loop_ghost (fun n a w => ∃ f, I n f w ∧ Has ds N a (f ++ sel l ts)) n0 ⟨f0, h0, h.sub hs⟩ ?_))
  rintro n a w ⟨f, hi, hh⟩
  refine Code.wp_mono (fun e a w q => ?_) (round n f a w hi hh)
  cases e <;> first | exact q | (obtain ⟨m, f', h1, h2, h3⟩ := q; exact ⟨m, h1, f', h2, h3⟩)
theorem lp1 {id : Nat} {body : Code} (h : Has ds N a l) (ts : List Nat) (I : Nat → AL → World → Prop) (n0 : Nat) (f0 : AL) (hs : Sub l (f0 ++ sel l ts)) (h0 : I n0 f0 w)
    (round : ∀ n f a w, I n f w → Has ds N a (f ++ sel l ts) → body.wp P (Exit.then (fun a' w' => ∃ m f', m < n ∧ I m f' w' ∧ Has ds N a' (f' ++ sel l ts)) (Exit.inBlock id Q)) a w) :
    (Code.block id (Code.loop body)).wp P Q a w := by
  refine wp_block (wp_loop_ghost (fun n a w => ∃ f, I n f w ∧ Has ds N a (f ++ sel l ts)) n0 ⟨f0, h0, h.sub hs⟩ ?_)
  rintro n a w ⟨f, hi, hh⟩
  refine Code.wp_mono (fun e a w q => ?_) (round n f a w hi hh)
  cases e <;> first | exact q | (obtain ⟨m, f', h1, h2, h3⟩ := q; exact ⟨m, h1, f', h2, h3⟩)
theorem split {b : Bool} {G : Prop} {t : Nat} (h : Has ds N a l) (hx : look l t = some (.bool b)) (k1 : b = true → G) (k2 : b = false → G) : G := by
  cases b with
  | true => exact k1 rfl
  | false => exact k2 rfl
theorem blk {id : Nat} {z1 z : Code} (h : z1.wp P (Exit.inBlock id (Exit.then (z.wp P Q) Q)) a w) : (Code.seq (Code.block id z1) z).wp P Q a w := wp_seq (wp_block h)
theorem blk1 {id : Nat} {z1 : Code} (h : z1.wp P (Exit.inBlock id Q) a w) : (Code.block id z1).wp P Q a w := wp_block h
section
variable {ops : Array Oper} {K : Act → World → Prop} {o : Oper} {dst : Option Tmp} {gd : Option (Nat × Bool)} {ty : Nat} {pos : String} {af : Array Edge} {x y z : Operand} {b : Bool}
theorem pckT (h : Has ds N a l) (hx : ev l x = some (.bool b)) (hb : b = true) (hy : ev l y = some v) : (execOp a.eval ⟨dst, .pick x y z, ty, pos, af, gd⟩).run P w = .ok (.value v) w := pck h hx (fun _ => hy) (fun e => by rw [hb] at e; cases e)
theorem pckF (h : Has ds N a l) (hx : ev l x = some (.bool b)) (hb : b = false) (hz : ev l z = some v) : (execOp a.eval ⟨dst, .pick x y z, ty, pos, af, gd⟩).run P w = .ok (.value v) w := pck h hx (fun e => by rw [hb] at e; cases e) (fun _ => hz)
end
theorem Hp.pre {hl' : HL} (h : Hp c w0 w hl') (n : Nat) (e : hl'.take n = hl) : Hp c w0 w hl := by
  subst e
  refine ⟨h.ext, h.inv, fun i p hi => h.own i p ?_, ?_⟩
  · rw [List.getElem?_take] at hi
    split at hi
    · exact hi
    · cases hi
  · exact h.ne.sublist (List.take_sublist _ _)
theorem Hp.pick {hl' : HL} (h : Hp c w0 w hl') (is : List Nat) (hn : is.Nodup) (e : is.filterMap (nth hl') = hl) : Hp c w0 w hl := by
  subst e
  have mem : ∀ (js : List Nat) (q : En), q ∈ js.filterMap (nth hl') → ∃ j ∈ js, hl'[j]? = some q := by
    intro js q hq
    obtain ⟨j, hj, e⟩ := List.mem_filterMap.1 hq
    exact ⟨j, hj, by rwa [nth_eq] at e⟩
  refine ⟨h.ext, h.inv, fun i p hi => ?_, ?_⟩
  · obtain ⟨j, -, hj⟩ := mem is p (List.mem_of_getElem? hi)
    exact h.own j p hj
  · have hne := h.ne
    rw [List.pairwise_iff_getElem] at hne
    rw [List.pairwise_filterMap]
    refine hn.imp ?_
    intro i j hij p hp q hq k hk hk'
    rw [nth_eq] at hp hq
    obtain ⟨hi1, hi2⟩ := List.getElem?_eq_some_iff.1 hp
    obtain ⟨hj1, hj2⟩ := List.getElem?_eq_some_iff.1 hq
    rcases Nat.lt_or_gt_of_ne hij with hl1 | hgt
    · exact hne i j hi1 hj1 hl1 k (by rw [hi2]; exact hk) (by rw [hj2]; exact hk')
    · exact hne j i hj1 hi1 hgt k (by rw [hj2]; exact hk') (by rw [hi2]; exact hk)
theorem rdh {id n : Nat} {L : List Oper} {z : Code} (hp : Hp c w0 w hl) (hm : P.follows .mixedOrders = true) (hn : L.toArray.size = n) (h : wpAnyH P .any L.toArray (Exit.then (z.wp P Q) Q) (fun W => Hp c w0 W hl) n (Array.replicate n false) a w.drew) : (Code.seq (Code.region id L.toArray true) z).wp P Q a w := rdr _ hm hn h
theorem rdh1 {id n : Nat} {L : List Oper} (hp : Hp c w0 w hl) (hm : P.follows .mixedOrders = true) (hn : L.toArray.size = n) (h : wpAnyH P .any L.toArray Q (fun W => Hp c w0 W hl) n (Array.replicate n false) a w.drew) : (Code.region id L.toArray true).wp P Q a w := rdr1 _ hm hn h
def rdv (tmps : Array Value) : ResultVar → Sem Value
  | .tmp t => pure (tmps.getD t undef)
  | .cell p t => do loadVar t (← asAddr (tmps.getD p undef))
def RV (P : Program) (a : Act) (w : World) (r : ResultVar) (v : Value) : Prop := (rdv a.tmps r).run P w = .ok v w
theorem rvT {t : Nat} (h : Has ds N a l) (hv : look l t = some v) : RV P a w (.tmp t) v := by
  have := h.ev (x := .tmp t) hv
  simp only [Act.eval] at this
  simp [RV, rdv, this]
theorem rvA {t ty g : Nat} {cs : Array Value} {t' : TypeId} {fr : Nat × Nat} (h : Has ds N a l) (hp : Hp c w0 w hl) (hv : look l t = some (.pointer (some ⟨g, 0, none⟩))) (i : Nat) (hi : nth hl i = some (.blk g (.cells cs t' fr))) (ht : isAg P ty = some true) (hs : szT P ty = some cs.size) : RV P a w (.cell t ty) (.agg cs) := by
  have e := h.ev (x := .tmp t) hv
  simp only [Act.eval] at e
  have := run_loadCells_list (P := P) w ⟨g, 0, none⟩ cs.toList (fun j u hu => by rw [Go.WideShapes.add_plain, hp.cellAt hi]; simpa using hu)
  simp only [Array.length_toList, Array.toArray_toList] at this
  simp [RV, rdv, e, asAddr, loadVar, Sem.run_bind, run_isAgg ht, run_sizeOf hs, this]
theorem rv1 {t ty g off : Nat} {cs : Array Value} {t' : TypeId} {fr : Nat × Nat} (h : Has ds N a l) (hp : Hp c w0 w hl) (hv : look l t = some (.pointer (some ⟨g, off, none⟩))) (i : Nat) (hi : nth hl i = some (.blk g (.cells cs t' fr))) (hc : nth cs.toList off = some v) (ht : isAg P ty = some false) : RV P a w (.cell t ty) v := by
  have hc : cs[off]? = some v := by rw [nth_eq] at hc; simpa using hc
  have e := h.ev (x := .tmp t) hv
  simp only [Act.eval] at e
  simp [RV, rdv, e, asAddr, loadVar, Sem.run_bind, run_isAgg ht, load, Sem.run, hp.cellAt hi, hc]
section
variable {fn : Func} {R : Ending → World → Prop} {r1 r2 r3 : ResultVar} {v1 v2 v3 : Value}
theorem results_eq (fn : Func) (tmps : Array Value) : results fn tmps = (fn.results.mapM (rdv tmps)).bind (fun vs => pure (if h : vs.size = 1 then vs[0] else .tuple vs)) := by
  have e : (rdv tmps) = (fun r => (match r with
    | .tmp t => pure (tmps.getD t undef)
    | .cell a t => do loadVar t (← asAddr (tmps.getD a undef)) : Sem Value)) := by funext r; cases r <;> rfl
  rw [e]
  rfl
theorem rt_1 (h : Has [] N a l) (hr : fn.results = #[r1]) (h1 : RV P a w r1 v1) (hR : R (.returned v1) w) : bodyPost P fn R .ret a w := by
  refine bodyPost_ret (v := v1) ?_ h.defs hR
  unfold RV at h1
  rw [results_eq, hr]
  change Sem.run P ((#[r1].mapM (rdv a.tmps)) >>= _) w = _
  simp [Sem.run_bind, h1]
theorem rt_2 (h : Has [] N a l) (hr : fn.results = #[r1, r2]) (h1 : RV P a w r1 v1) (h2 : RV P a w r2 v2) (hR : R (.returned (.tuple #[v1, v2])) w) : bodyPost P fn R .ret a w := by
  refine bodyPost_ret (v := .tuple #[v1, v2]) ?_ h.defs hR
  unfold RV at h1 h2
  rw [results_eq, hr]
  change Sem.run P ((#[r1, r2].mapM (rdv a.tmps)) >>= _) w = _
  simp [Sem.run_bind, h1, h2]
theorem rt_3 (h : Has [] N a l) (hr : fn.results = #[r1, r2, r3]) (h1 : RV P a w r1 v1) (h2 : RV P a w r2 v2) (h3 : RV P a w r3 v3) (hR : R (.returned (.tuple #[v1, v2, v3])) w) : bodyPost P fn R .ret a w := by
  refine bodyPost_ret (v := .tuple #[v1, v2, v3]) ?_ h.defs hR
  unfold RV at h1 h2 h3
  rw [results_eq, hr]
  change Sem.run P ((#[r1, r2, r3].mapM (rdv a.tmps)) >>= _) w = _
  simp [Sem.run_bind, h1, h2, h3]
end
end Go.Proofs.Sx
end
section
namespace Go.Proofs.Sx
open Go.RowKit
structure SV where
  A : Option Addr
  n : Nat
  c : Nat
def SV.v (s : SV) : Value := .slice s.A s.n s.c
variable {P : Program} {Q : Exit → Act → World → Prop} {ds : List Deferred} {N : Nat} {a : Act} {l : AL} {w w' w0 : World} {c : Cx} {hl : HL} {v u : Value}
variable {α : Type} {enc : α → List Value} {sz : Nat} {ys : List α}
def bk : Value → Nat
  | .slice (some a) _ _ => a.block
  | _ => 0
def of : Value → Nat
  | .slice (some a) _ _ => a.off
  | _ => 0
structure Rd (w : World) (enc : α → List Value) (sz : Nat) (v : Value) (ys : List α) : Prop where
  sl : ∃ A cap, v = .slice A ys.length cap ∧ ys.length ≤ cap ∧ (0 < ys.length → A = some ⟨bk v, of v, none⟩)
  fits : ys.length ≤ 9223372036854775807
  len : ∀ y ∈ ys, (enc y).length = sz
  cell : ∀ (i : Nat) (y : α) (j : Nat) (u : Value), ys[i]? = some y → (enc y)[j]? = some u → w.cell? ⟨bk v, of v + i * sz + j, none⟩ = some u
theorem Rd.nil : Rd w enc sz (.slice none 0 0) [] := ⟨⟨none, 0, rfl, Nat.le_refl _, by simp⟩, by simp, by simp, by simp⟩
theorem Rd.same (h : Rd w enc sz v ys) (hb : 0 < ys.length → w'.heap[bk v]? = w.heap[bk v]?) : Rd w' enc sz v ys :=
  ⟨h.sl, h.fits, h.len, fun i y j u hy hu => (World.cell?_of_block (hb (by obtain ⟨h1, -⟩ := List.getElem?_eq_some_iff.1 hy; omega))).trans (h.cell i y j u hy hu)⟩
theorem Rd.lt (h : Rd w enc sz v ys) (h0 : 0 < sz) (hl : 0 < ys.length) : bk v < w.heap.size ∧ ∃ o x, w.cell? ⟨bk v, o, none⟩ = some x := by
  have hy : ys[0]? = some ys[0] := List.getElem?_eq_getElem hl
  have he := h.len ys[0] (List.getElem_mem hl)
  have hu : (enc ys[0])[0]? = some (enc ys[0])[0] := List.getElem?_eq_getElem (by omega)
  have := h.cell 0 _ 0 _ hy hu
  exact ⟨World.block_lt_of_cell? w _ this, _, _, this⟩
theorem Rd.ext {S : Nat → Prop} (h : Rd w enc sz v ys) (h0 : 0 < sz) (k : Ext S w w') (hs : 0 < ys.length → ¬ S (bk v)) : Rd w' enc sz v ys := h.same fun hl => k.block _ (h.lt h0 hl).1 (hs hl)
theorem Rd.below (h : Rd w enc sz v ys) (h0 : 0 < sz) (k : Below w.heap.size w w') : Rd w' enc sz v ys := h.same fun hl => k.block _ (h.lt h0 hl).1
def Cl (c : Cx) (w : World) : Prop := ∀ k o, c.S k → w.cell? ⟨k, o, none⟩ = none
theorem cl0 : Cl c0 w := fun _ _ h => h.elim
theorem Rd.keep (h : Rd w0 enc sz v ys) (h0 : 0 < sz) (hp : Hp c w0 w hl) (hc : Cl c w0) : Rd w enc sz v ys := h.ext h0 hp.ext fun hl hs => by
  obtain ⟨-, o, x, hx⟩ := h.lt h0 hl
  rw [hc _ o hs] at hx
  cases hx
theorem Rd.slice (h : Rd w enc sz v ys) {i : Nat} (hi : i < ys.length) : ∃ cap, v = .slice (some ⟨bk v, of v, none⟩) ys.length cap := by
  obtain ⟨A, cap, hv, -, hA⟩ := h.sl
  rw [hA (by omega)] at hv
  exact ⟨cap, hv⟩
variable {t e d : Nat} {x y z : Operand} {dst : Option Nat} {ty t1 t2 : TypeId} {pos : String} {af : Array Edge} {gd : Option (Nat × Bool)} {p q : Int}
variable {ops : Array Oper} {K : Act → World → Prop}
theorem lenR {e : Nat} {tt : TypeId} {ats : List TypeId} (h : Has ds N a l) (hx : ev l x = some v) (ht : P.underlying tt = some (.slice e)) (hr : Rd w enc sz v ys) : (execOp a.eval ⟨dst, .call ⟨.builtin .len, #[x], (tt :: ats).toArray⟩, ty, pos, af, gd⟩).run P w = .ok (.value (.int .i64 ys.length)) w := by
  obtain ⟨A, cap, hv, -, -⟩ := hr.sl
  rw [hv] at hx
  exact len_ h hx ht
theorem iadR {e : Nat} {k : IntKind} {j : Int} (i : Nat) (h : Has ds N a l) (hx : ev l x = some v) (hy : ev l y = some (.int k j)) (ht : P.underlying t = some (.slice e)) (hs : szT P e = some sz) (hr : Rd w enc sz v ys) (hj : j = i) (hi : i < ys.length) :
    (execOp a.eval ⟨dst, .indexAddr t x y, ty, pos, af, gd⟩).run P w = .ok (.value (.pointer (some ⟨bk v, of v + i * sz, none⟩))) w := by
  obtain ⟨cap, hv⟩ := hr.slice hi
  have hx' : ev l x = some (.slice (some ⟨bk v, of v, none⟩) ys.length cap) := hx.trans (congrArg some hv)
  have := iad (P := P) (w := w) (dst := dst) (ty := ty) (pos := pos) (af := af) (gd := gd) h hx' hy ht hs (by omega) (by omega)
  rw [this, hj, Int.toNat_natCast]
theorem ldE {e : α} {i : Nat} (h : Has ds N a l) (hr : Rd w enc sz v ys) (hi : ys[i]? = some e) (hx : ev l x = some (.pointer (some ⟨bk v, of v + i * sz, none⟩))) (ht : isAg P t = some true) (hs : szT P t = some sz) : (execOp a.eval ⟨dst, .load t x, ty, pos, af, gd⟩).run P w = .ok (.value (.agg (enc e).toArray)) w :=
  ldn h hx (fun j u hu => by rw [Go.WideShapes.add_plain]; exact hr.cell i e j u hi hu) ht (by rw [hs, hr.len e (List.mem_of_getElem? hi)])
theorem ldF {e : α} {i : Nat} (j : Nat) (h : Has ds N a l) (hr : Rd w enc sz v ys) (hi : ys[i]? = some e) (hx : ev l x = some (.pointer (some ⟨bk v, of v + i * sz + j, none⟩))) (ht : isAg P t = some false) (hu : nth (enc e) j = some u) : (execOp a.eval ⟨dst, .load t x, ty, pos, af, gd⟩).run P w = .ok (.value u) w :=
  ld1 h hx (hr.cell i e j u hi (by rwa [nth_eq] at hu)) ht
theorem ld0 {e : α} {i : Nat} (h : Has ds N a l) (hr : Rd w enc sz v ys) (hi : ys[i]? = some e) (hx : ev l x = some (.pointer (some ⟨bk v, of v + i * sz, none⟩))) (ht : isAg P t = some false) (hu : nth (enc e) 0 = some u) : (execOp a.eval ⟨dst, .load t x, ty, pos, af, gd⟩).run P w = .ok (.value u) w :=
  ld1 h hx (hr.cell i e 0 u hi (by rwa [nth_eq] at hu)) ht
theorem ldFn {e : α} {i : Nat} (j : Nat) (us : List Value) (h : Has ds N a l) (hr : Rd w enc sz v ys) (hi : ys[i]? = some e) (hx : ev l x = some (.pointer (some ⟨bk v, of v + i * sz + j, none⟩))) (ht : isAg P t = some true) (hs : szT P t = some us.length) (hu : ((enc e).drop j).take us.length = us) : (execOp a.eval ⟨dst, .load t x, ty, pos, af, gd⟩).run P w = .ok (.value (.agg us.toArray)) w :=
  ldn h hx (fun k u hk => by
    rw [Go.WideShapes.add_plain]
    rw [← hu, List.getElem?_take] at hk
    split at hk
    · rw [List.getElem?_drop] at hk
      have := hr.cell i e (j + k) u hi hk
      rwa [← Nat.add_assoc] at this
    · cases hk) ht hs
structure Fr (w w' : World) (enc : α → List Value) (sz : Nat) (v : Value) (ys : List α) : Prop where
  rd : Rd w' enc sz v ys
  new : 0 < ys.length → w.heap.size ≤ bk v
theorem Fr.nil : Fr w w' enc sz (.slice none 0 0) [] := ⟨Rd.nil, by simp⟩
abbrev rdE (enc : α → List Value) (sz : Nat) (v : Value) (ys : List α) : En := .fct (fun k => 0 < ys.length ∧ k = bk v) (fun w => Rd w enc sz v ys)
theorem Hp.got (h : Hp c w0 w hl) (h' : Hp c w0 w' hl) (h0 : 0 < sz) (hf : Fr w w' enc sz v ys) : Hp c w0 w' (hl ++ [rdE enc sz v ys]) :=
  h.made h' (q := rdE enc sz v ys) (fun w1 w2 hb hr => Rd.same hr fun hl => hb _ ⟨hl, rfl⟩) hf.rd (fun k hk => by
    obtain ⟨hl, rfl⟩ := hk
    exact ⟨hf.new hl, (hf.rd.lt h0 hl).1⟩)
theorem Hp.keepF (h : Hp c w0 w hl) (h' : Hp c w0 w' hl) {D : Nat → Prop} {F : World → Prop} (ho : ∀ w w' : World, (∀ k, D k → w'.heap[k]? = w.heap[k]?) → F w → F w') (hf : F w') (hd : ∀ k, D k → w.heap.size ≤ k ∧ k < w'.heap.size) : Hp c w0 w' (hl ++ [.fct D F]) :=
  h.made h' (q := .fct D F) ho hf hd
theorem Hp.nilB (h : Hp c w0 w hl) (e : TypeId) (sz : Nat) : Hp c w0 w (hl ++ [.buf e sz (.slice none 0 0) 0 []]) :=
  h.add (q := .buf e sz (.slice none 0 0) 0 []) trivial (World.ownsRow_nil w w0.heap.size e sz) (fun k hk => by cases hk) (fun p _ k _ hk => by cases hk)
def apT (P : Program) (t : TypeId) : Option (TypeId × Nat × Nat) := match P.underlying t with
  | some (.slice e) => (P.info? e).bind fun i => (i.zero).bind fun z => bif Nat.beq z.cells.size i.size && Nat.blt 0 i.size then some (e, i.size, i.bytes) else none
  | _ => none
theorem apT_eq {e sz by_ : Nat} (h : apT P t = some (e, sz, by_)) : P.underlying t = some (.slice e) ∧ ∃ i z, P.info? e = some i ∧ i.zero = some z ∧ i.size = sz ∧ i.bytes = by_ ∧ z.cells.size = sz ∧ 0 < sz := by
  unfold apT at h
  split at h
  · rename_i e' hu
    cases hq : P.info? e' with
    | none => simp [hq] at h
    | some i =>
      cases hz : i.zero with
      | none => simp [hq, hz] at h
      | some z =>
        simp only [hq, hz, Option.bind_some] at h
        cases hb : (Nat.beq z.cells.size i.size && Nat.blt 0 i.size) with
        | false => simp [hb] at h
        | true =>
          rw [hb] at h
          simp only [cond_true, Option.some.injEq, Prod.mk.injEq] at h
          obtain ⟨rfl, rfl, rfl⟩ := h
          simp only [Bool.and_eq_true, Nat.blt, Nat.ble_eq] at hb
          exact ⟨hu, i, z, hq, hz, rfl, rfl, Nat.eq_of_beq_eq_true hb.1, by omega⟩
  · cases h
theorem app {e by_ n m cp : Nat} {xs news : List Value} {A : Addr} (i : Nat) (h : Has ds N a l) (hp : Hp c w0 w hl) (hx : ev l x = some v) (hy : ev l y = some (.slice (some A) m cp)) (hi : nth hl i = some (.buf e sz v n xs)) (ht : apT P t = some (e, sz, by_))
    (hl' : news.length = m * sz) (hnews : ∀ j u, news[j]? = some u → w.cell? (A.add j) = some u) (h1 : ∀ u ∈ news, u.oneCell' = true) (h63 : n + m ≤ 9223372036854775807) (hby : (n + m) * by_ ≤ 140737488355328)
    (k : ∀ a' w' (s : SV), Has ds N a' ((d, s.v) :: l) → Hp c w0 w' (hl.set i (.buf e sz s.v (n + m) (xs ++ news))) → K a' w') (hN : Nat.blt d N = true := by rfl) :
    Stp P ops Q ⟨some d, .call ⟨.builtin .append, #[x, y], #[t, t]⟩, ty, pos, af, none⟩ K a w := by
  obtain ⟨hu, ti, z, hq, hz, h2, h3, h4, h5⟩ := apT_eq ht
  obtain ⟨v', w', hrun, hown, hgr, -, hat⟩ := run_append_own_at (P := P) w w0.heap.size t ty e ti z sz by_ hu hq hz h2 h3 h4 h5 v n xs (hp.fact hi) A m cp news hl' hnews h1 (by simp only [maxLen]; omega) hby hp.size
  have hr : (execOp a.eval ⟨some d, .call ⟨.builtin .append, #[x, y], #[t, t]⟩, ty, pos, af, none⟩).run P w = .ok (.value v') w' := by
    simp [execOp, resolve, invoke, builtin, h.ev hx, h.ev hy, Sem.run_bind, hrun]
  obtain ⟨s, rfl⟩ : ∃ s : SV, v' = s.v := by
    rcases hown.2 with ⟨rfl, -⟩ | ⟨g, cap, cur, rfl, -⟩
    · exact ⟨⟨none, 0, 0⟩, rfl⟩
    · exact ⟨⟨_, _, cap⟩, rfl⟩
  refine stp_val h rfl hN rfl hr (fun a' h' => k a' _ s h' ?_)
  refine hp.chg hi (p' := .buf e sz s.v (n + m) (xs ++ news)) trivial hown hgr.os hgr.tape hgr.output hgr.size (fun j hj hn => hgr.block j hj (fun e => hn e.symm)) (fun j hj => ?_)
  have hj : s.v.ownBlock = some j := hj
  rcases hat with h6 | h6
  · exact .inl (h6.symm.trans hj)
  · rw [h6] at hj
    cases hj
    exact .inr ⟨Nat.le_refl _, (hown.lt _ h6).2⟩
theorem app1 {e by_ n g cp t' : Nat} {xs : List Value} {cs : Array Value} {fr : Nat × Nat} (i : Nat) (h : Has ds N a l) (hp : Hp c w0 w hl) (hx : ev l x = some v) (hy : ev l y = some (.slice (some ⟨g, 0, none⟩) 1 cp)) (hi : nth hl i = some (.buf e sz v n xs)) (ht : apT P t = some (e, sz, by_))
    (j : Nat) (hj : nth hl j = some (.blk g (.cells cs t' fr))) (hc : cs.size = sz) (h1 : cs.toList.all (·.oneCell') = true) (h63 : n + 1 ≤ 9223372036854775807) (hby : (n + 1) * by_ ≤ 140737488355328)
    (k : ∀ a' w' (s : SV), Has ds N a' ((d, s.v) :: l) → Hp c w0 w' (hl.set i (.buf e sz s.v (n + 1) (xs ++ cs.toList))) → K a' w') (hN : Nat.blt d N = true := by rfl) :
    Stp P ops Q ⟨some d, .call ⟨.builtin .append, #[x, y], #[t, t]⟩, ty, pos, af, none⟩ K a w :=
  app i h hp hx hy hi ht (news := cs.toList) (by simp [hc]) (fun o u hu => by rw [Go.WideShapes.add_plain, hp.cellAt hj]; simpa using hu) (fun u hu => by rw [List.all_eq_true] at h1; exact h1 u hu) h63 hby k hN
theorem flat_at {ys : List α} (he : ∀ y ∈ ys, (enc y).length = sz) : ∀ (i : Nat) (y : α) (j : Nat) (u : Value), ys[i]? = some y → (enc y)[j]? = some u → (ys.flatMap enc)[i * sz + j]? = some u := by
  induction ys with
  | nil => intro i y j u h; simp at h
  | cons x r ih =>
    intro i y j u hy hu
    have hx := he x List.mem_cons_self
    cases i with
    | zero =>
      simp only [List.getElem?_cons_zero, Option.some.injEq] at hy
      subst hy
      have hj := (List.getElem?_eq_some_iff.1 hu).1
      rw [List.flatMap_cons, Nat.zero_mul, Nat.zero_add, List.getElem?_append_left hj]
      exact hu
    | succ i =>
      rw [List.getElem?_cons_succ] at hy
      rw [List.flatMap_cons, List.getElem?_append_right (by rw [hx, Nat.succ_mul]; omega), hx, Nat.succ_mul]
      have := ih (fun y hy => he y (List.mem_cons_of_mem _ hy)) i y j u hy hu
      rw [← this]
      congr 1
      omega
theorem flat_len {ys : List α} (he : ∀ y ∈ ys, (enc y).length = sz) : (ys.flatMap enc).length = ys.length * sz := by
  induction ys with
  | nil => simp
  | cons x r ih => rw [List.flatMap_cons, List.length_append, he x List.mem_cons_self, ih (fun y hy => he y (List.mem_cons_of_mem _ hy)), List.length_cons, Nat.succ_mul, Nat.add_comm]
theorem own_rd {b e n : Nat} {xs : List Value} (h : w.ownsRow b e sz v n xs) (hx : xs = ys.flatMap enc) (hn : n = ys.length) (he : ∀ y ∈ ys, (enc y).length = sz) : Rd w enc sz v ys ∧ (0 < ys.length → b ≤ bk v) := by
  subst hx
  subst hn
  rcases h.2 with ⟨rfl, h0⟩ | ⟨g, cap, cur, rfl, h1, h2, h3, h4, h5, h6⟩
  · have : ys = [] := List.eq_nil_of_length_eq_zero h0
    subst this
    exact ⟨Rd.nil, by simp⟩
  · refine ⟨⟨⟨_, cap, rfl, h3, fun _ => rfl⟩, by simp only [maxLen] at h4; omega, he, fun i y j u hy hu => ?_⟩, fun _ => h1⟩
    have := flat_at he i y j u hy hu
    rw [show (bk (Value.slice (some ⟨g, 0, none⟩) ys.length cap)) = g from rfl, show (of (Value.slice (some ⟨g, 0, none⟩) ys.length cap)) = 0 from rfl, Nat.zero_add, cell_of_row w g _ cur e (0, 0) h2]
    rw [← h6, List.getElem?_take] at this
    split at this
    · simpa using this
    · cases this
theorem Hp.rdB {e n i : Nat} {xs : List Value} (hp : Hp c w0 w hl) (hi : nth hl i = some (.buf e sz v n xs)) (hx : xs = ys.flatMap enc) (hn : n = ys.length) (he : ∀ y ∈ ys, (enc y).length = sz) : Rd w enc sz v ys := (own_rd (hp.fact hi) hx hn he).1
theorem Hp.frB {e n i : Nat} {xs : List Value} (hp : Hp c w0 w hl) (hi : nth hl i = some (.buf e sz v n xs)) (hx : xs = ys.flatMap enc) (hn : n = ys.length) (he : ∀ y ∈ ys, (enc y).length = sz) : Fr w0 w enc sz v ys := ⟨(own_rd (hp.fact hi) hx hn he).1, (own_rd (hp.fact hi) hx hn he).2⟩
def bsC (P : Program) (t n : Nat) (parts : List (Nat × Value)) : Option (TypeId × Array Value) := match P.underlying t with
  | some (.slice e) => (P.info? e).bind fun i => (i.zero).bind fun z => bif Nat.ble (n * i.size) 16777216 && !Nat.beq (n * i.size) 0 then
      (Instr.fill (fun j => some (j * i.size, i.size)) ((Array.range (n * i.size)).map (z.cells[· % z.cells.size]!)) parts).map fun cs => (e, cs) else none
  | _ => none
theorem bsl {n e : Nat} {parts : List (Nat × Operand)} {us : List Value} {cs : Array Value} (h : Has ds N a l) (hp : Hp c w0 w hl) (hu : evs l (parts.map (·.2)) = some us) (hb : bsC P t n ((parts.map (·.1)).zip us) = some (e, cs))
    (k : ∀ a' w' g, w.heap.size ≤ g → Has ds N a' ((d, .slice (some ⟨g, 0, none⟩) n n) :: l) → Hp c w0 w' (hl ++ [.blk g (.cells cs e (0, 0))]) → K a' w') (hN : Nat.blt d N = true := by rfl) :
    Stp P ops Q ⟨some d, .buildSlice t n parts.toArray, ty, pos, af, none⟩ K a w := by
  have hq := h.evs hu
  have hz : (parts.map fun x => (x.1, a.eval x.2)) = (parts.map (·.1)).zip us := by
    rw [← hq, List.map_map]
    clear hq hb hu
    induction parts with
    | nil => rfl
    | cons x r ih => simp only [List.map_cons, List.zip_cons_cons, ih, Function.comp]
  have hr : (Instr.buildSlice t n (parts.toArray.map fun x => (x.1, a.eval x.2))).run P w = .ok (.slice (some ⟨w.heap.size, 0, none⟩) n n) (w.alloc (.cells cs e)) := by
    unfold bsC at hb
    split at hb
    · rename_i e' hun
      cases hi : P.info? e' with
      | none => simp [hi] at hb
      | some i =>
        cases hzz : i.zero with
        | none => simp [hi, hzz] at hb
        | some z =>
          simp only [hi, hzz, Option.bind_some] at hb
          cases hc : (Nat.ble (n * i.size) 16777216 && !Nat.beq (n * i.size) 0) with
          | false => simp [hc] at hb
          | true =>
            rw [hc, cond_true] at hb
            simp only [Bool.and_eq_true, Nat.ble_eq, Bool.not_eq_true', Option.map_eq_some_iff, Prod.mk.injEq] at hc hb
            obtain ⟨cs', hf, rfl, rfl⟩ := hb
            refine run_buildSlice w t e' n _ cs' i z hun hi hzz (by omega) (fun h0 => by rw [h0] at hc; exact absurd hc.2 (by decide)) ?_
            have e2 : (parts.toArray.map fun x => (x.1, a.eval x.2)).toList = (parts.map (·.1)).zip us := by rw [← hz]; simp
            rw [e2]
            exact hf
    · cases hb
  refine stp_val h rfl hN rfl ?_ (fun a' h' => k a' _ _ (Nat.le_refl _) h' (hp.alloc _))
  show (execOp a.eval ⟨some d, .buildSlice t n parts.toArray, ty, pos, af, none⟩).run P w = _
  simp only [execOp, Sem.run_bind]
  rw [show ((parts.toArray.map fun (i, x) => (i, a.eval x)) = parts.toArray.map fun x => (x.1, a.eval x.2)) from rfl, hr]
  rfl
theorem Hp.rdA {i g n cp t : Nat} {cs : Array Value} {fr : Nat × Nat} (ys : List α) (hp : Hp c w0 w hl) (hi : nth hl i = some (.blk g (.cells cs t fr))) (hc : cs.toList = ys.flatMap enc) (hn : n = ys.length) (hcap : n ≤ cp) (hf : n ≤ 9223372036854775807) (he : ∀ y ∈ ys, (enc y).length = sz) : Rd w enc sz (.slice (some ⟨g, 0, none⟩) n cp) ys := by
  subst hn
  refine ⟨⟨_, cp, rfl, hcap, fun _ => rfl⟩, hf, he, fun i y j u hy hu => ?_⟩
  have := flat_at he i y j u hy hu
  rw [show (bk (Value.slice (some ⟨g, 0, none⟩) ys.length cp)) = g from rfl, show (of (Value.slice (some ⟨g, 0, none⟩) ys.length cp)) = 0 from rfl, Nat.zero_add, hp.cellAt hi]
  rw [← hc] at this
  simpa using this
theorem enters_of {f : FuncId} {fn : Func} (hf : P.funcs[f]? = some fn) (hn : (fn.name == "runtime.NumGoroutine") = false) (hb : fn.body.isNone = false) : ∀ (args : Array Value) (w : World), (callFunc f args).run P w = .ok (.enter f args) w := by
  intro args w
  have hp : (program).run P w = .ok P w := rfl
  have hn' : ¬ fn.name = "runtime.NumGoroutine" := fun e => by rw [e] at hn; simp at hn
  have hb' : ¬ fn.body = none := fun e => by rw [e] at hb; cases hb
  simp [callFunc, Sem.run_bind, hp, hf, hn', hb']
end Go.Proofs.Sx
end
section
namespace Go.Proofs.Sx
open Go.RowKit
variable {r : Option Nat} {ds : List Deferred} {P : Program} {ops : Array Oper} {Q : Exit → Act → World → Prop} {K : Act → World → Prop} {rest : List Oper} {o : Oper}
variable {N : Nat} {a : Act} {l : AL} {w w' w0 : World} {c : Cx} {hl : HL} {d ty : Nat} {pos : String} {af : Array Edge} {v : Value}
def Fw (r : Option Nat) : Fence := { Fence.wide with round := r }
def StpI (r : Option Nat) (P : Program) (ops : Array Oper) (Q : Exit → Act → World → Prop) (o : Oper) (K : Act → World → Prop) (a : Act) (w : World) : Prop :=
  if Region.wanted o (yielded ops a.tmps) then o.wpIn (Fw r) 0 P a w K Q else K (a.put o.dst undef) w
def noDefer (o : Oper) : Bool := match o.op with
  | .defer _ => false
  | _ => true
theorem semAt_eq (hd : noDefer o = true) (ρ : Operand → Value) : o.semAt (Fw r).round ρ = execOp ρ o := by
  cases r with
  | none => rfl
  | some l => exact Oper.semAt_some l ρ o (fun c hc => by simp [noDefer, hc] at hd)
theorem callsFw {f : FuncId} {args : Array Value} {R : Ending → World → Prop} (h : Calls P f args w R) : CallsIn (Fw r) 0 P f args w R := (callsIn_wide (n := 0)).2 h
theorem rowsFw {row : String} {args : Array Value} {R : Value → World → Prop} (h : Rows P row args w R) : RowsIn (Fw r) 0 P row args w R := fun c cs _ =>
  let ⟨v, w', hR, hs⟩ := h c cs
  ⟨v, w', hR, stepsIn_wide.2 hs⟩
theorem stI (h : Stp P ops Q o K a w) (hd : noDefer o = true := by rfl) : StpI r P ops Q o K a w := by
  unfold Stp at h
  unfold StpI
  split
  · rename_i hw
    rw [if_pos hw] at h
    refine ⟨fun _ _ => trivial, ?_⟩
    rw [semAt_eq hd]
    unfold Oper.wp at h
    generalize (execOp a.eval o).run P w = z at h
    cases z with
    | ok n w' =>
      cases n <;> simp only [Oper.upon] at h
      case value => exact h
      case skip => exact h
      case defer => exact h
      case enter f args => exact ⟨fun h0 => (by cases h0), callsFw h⟩
      case row row args => exact ⟨fun h0 => (by cases h0), rowsFw h⟩
    | halt x w' =>
      cases x <;> simp only [Oper.upon] at h
      case panic => exact h
  · rename_i hw
    rw [if_neg hw] at h
    exact h
theorem wlI (h : StpI r P ops Q o (wpListIn (Fw r) 0 P ops Q rest) a w) : wpListIn (Fw r) 0 P ops Q (o :: rest) a w := by
  unfold StpI at h
  unfold wpListIn
  split
  · rename_i hw
    rwa [if_pos hw] at h
  · rename_i hw
    rw [if_neg hw] at h
    exact ⟨fun _ _ => trivial, h⟩
theorem wnI (h : K a w) : wpListIn (Fw r) 0 P ops (Exit.then K Q) [] a w := h
theorem wnI' (h : Q .normal a w) : wpListIn (Fw r) 0 P ops Q [] a w := h
theorem rgI {id : Nat} {L : List Oper} {z : Code} (h : wpListIn (Fw r) 0 P L.toArray (Exit.then (z.wpIn (Fw r) 0 P Q) Q) L a w) : (Code.seq (Code.region id L.toArray false) z).wpIn (Fw r) 0 P Q a w := wpIn_seq (wpIn_region_lit h)
theorem rg1I {id : Nat} {L : List Oper} (h : wpListIn (Fw r) 0 P L.toArray Q L a w) : (Code.region id L.toArray false).wpIn (Fw r) 0 P Q a w := wpIn_region_lit h
theorem sqI {x y : Code} (h : x.wpIn (Fw r) 0 P (Exit.then (y.wpIn (Fw r) 0 P Q) Q) a w) : (Code.seq x y).wpIn (Fw r) 0 P Q a w := wpIn_seq h
theorem cndI {x : Operand} {A B z : Code} {b : Bool} (h : Has ds N a l) (hx : ev l x = some (.bool b)) (h1 : b = true → A.wpIn (Fw r) 0 P (Exit.then (z.wpIn (Fw r) 0 P Q) Q) a w) (h2 : b = false → B.wpIn (Fw r) 0 P (Exit.then (z.wpIn (Fw r) 0 P Q) Q) a w) : (Code.seq (Code.cond x A B) z).wpIn (Fw r) 0 P Q a w := wpIn_seq (wpIn_cond_split (h.ev hx) h1 h2)
theorem cnd1I {x : Operand} {A B : Code} {b : Bool} (h : Has ds N a l) (hx : ev l x = some (.bool b)) (h1 : b = true → A.wpIn (Fw r) 0 P Q a w) (h2 : b = false → B.wpIn (Fw r) 0 P Q a w) : (Code.cond x A B).wpIn (Fw r) 0 P Q a w := wpIn_cond_split (h.ev hx) h1 h2
theorem skpI (h : K a w) : Code.skip.wpIn (Fw r) 0 P (Exit.then K Q) a w := wpIn_skip h
theorem blkI {id : Nat} {z1 z : Code} (h : z1.wpIn (Fw r) 0 P (Exit.inBlock id (Exit.then (z.wpIn (Fw r) 0 P Q) Q)) a w) : (Code.seq (Code.block id z1) z).wpIn (Fw r) 0 P Q a w := wpIn_seq (wpIn_block h)
theorem blk1I {id : Nat} {z1 : Code} (h : z1.wpIn (Fw r) 0 P (Exit.inBlock id Q) a w) : (Code.block id z1).wpIn (Fw r) 0 P Q a w := wpIn_block h
theorem wpIn_loop_ghost {F : Fence} {n : Nat} {body : Code} (I : Nat → Act → World → Prop) (n0 : Nat) (h0 : I n0 a w)
    (round : ∀ m a w, I m a w → body.wpIn F n P (Exit.then (fun a' w' => ∃ m', m' < m ∧ I m' a' w') Q) a w) : (Code.loop body).wpIn F n P Q a w := by
  refine wpIn_loop (fun a w => ∃ m, I m a w) (fun a w => leastOf (fun m => I m a w)) ⟨n0, h0⟩ ?_
  intro a w hI
  refine wpIn_mono (round _ a w (leastOf_spec hI).1) ?_
  intro e a' w' q
  cases e with
  | normal =>
    obtain ⟨m', hlt, hI'⟩ := q
    exact ⟨⟨m', hI'⟩, Nat.lt_of_le_of_lt ((leastOf_spec ⟨m', hI'⟩).2 m' hI') hlt⟩
  | _ => exact q
theorem lp1I {id : Nat} {body : Code} (h : Has ds N a l) (ts : List Nat) (I : Nat → AL → World → Prop) (n0 : Nat) (f0 : AL) (hs : Sub l (f0 ++ sel l ts)) (h0 : I n0 f0 w)
    (round : ∀ n f a w, I n f w → Has ds N a (f ++ sel l ts) → body.wpIn (Fw r) 0 P (Exit.then (fun a' w' => ∃ m f', m < n ∧ I m f' w' ∧ Has ds N a' (f' ++ sel l ts)) (Exit.inBlock id Q)) a w) :
    (Code.block id (Code.loop body)).wpIn (Fw r) 0 P Q a w := by
  refine wpIn_block (wpIn_loop_ghost (fun n a w => ∃ f, I n f w ∧ Has ds N a (f ++ sel l ts)) n0 ⟨f0, h0, h.sub hs⟩ ?_)
  rintro n a w ⟨f, hi, hh⟩
  refine wpIn_mono (round n f a w hi hh) (fun e a w q => ?_)
  cases e <;> first | exact q | (obtain ⟨m, f', h1, h2, h3⟩ := q; exact ⟨m, h1, f', h2, h3⟩)
theorem yld {lr : Nat} {z : Operand} {xs : List Operand} {vs : List Value} {ats : Array TypeId} {R : Bool → World → Prop} (h : Has ds N a l) (hz : ev l z = some (.func (.yield lr) #[] #[])) (hx : evs l xs = some vs)
    (hy : YieldAt (Fw none) 0 P lr vs.toArray w fun e w' => ∃ b, e = .returned (.bool b) ∧ R b w') (k : ∀ b w', R b w' → ∀ a', Has ds N a' ((d, .bool b) :: l) → K a' w') (hN : Nat.blt d N = true := by rfl) :
    StpI r P ops Q ⟨some d, .call ⟨.value z, xs.toArray, ats⟩, ty, pos, af, none⟩ K a w := by
  obtain ⟨fn, tmps, assign, body, hrun, hR⟩ := hy
  have e : xs.toArray.map a.eval = vs.toArray := by rw [← h.evs hx]; simp
  have hr : (execOp a.eval ⟨some d, .call ⟨.value z, xs.toArray, ats⟩, ty, pos, af, none⟩).run P w = .ok (.round lr fn tmps assign body) w := by
    simp only [execOp, resolve, Deferred.ofValue, Sem.run_bind, Sem.run_pure, Result.andThen_ok, invoke, e, h.ev hz]
    simp only [Array.append_empty, Array.empty_append]
    exact hrun
  unfold StpI
  rw [if_pos (by simp [Region.wanted])]
  refine ⟨fun _ _ => trivial, ?_⟩
  rw [semAt_eq rfl, hr]
  refine ⟨fun h0 => (by cases h0), (show RoundIn (Fw none) 0 P lr fn tmps assign body w _ from hR).mono ?_⟩
  rintro _ w' ⟨b, rfl, hb⟩
  exact k b w' hb _ (h.put hN _)
theorem stI_on {j t : Nat} {b : Bool} (h : Has ds N a l) (hg : o.guard = some (j, b)) (hj : (ops[j]?).bind (·.dst) = some t) {b' : Bool} (hb : look l t = some (.bool b')) (hbb : b' = b)
    (k : StpI r P ops Q { o with guard := none } K a w) : StpI r P ops Q o K a w := by
  subst hbb
  unfold StpI at *
  have h1 : Region.wanted o (yielded ops a.tmps) = true := by
    have := h.get t _ hb
    simp [Region.wanted, hg, yielded, hj, this]
  rw [if_pos h1]
  rw [if_pos (by simp [Region.wanted])] at k
  exact k
end Go.Proofs.Sx
end
section
namespace Go.Proofs.Sx
open Go.RowKit
variable {r : Option Nat} {ds : List Deferred} {P : Program} {Q : Exit → Act → World → Prop}
variable {N : Nat} {a : Act} {l : AL} {w w' w0 : World} {c : Cx} {hl : HL} {v : Value}
def packE (b : Nat) (h2 : HL) : En := .fct (fun k => ∃ p ∈ h2, p.D k) (fun w => ∀ p ∈ h2, p.F b w)
def Good (h2 : HL) : Prop := (∀ p ∈ h2, p.ok) ∧ h2.Pairwise En.apart
theorem packOk {b : Nat} {h2 : HL} (h : ∀ p ∈ h2, p.ok) : (packE b h2).ok := fun w w' hb hf p hp => En.same (h p hp) (fun k hk => hb k ⟨p, hp, hk⟩) (hf p hp)
theorem Hp.at' (h : Hp c w0 w hl) {p : En} (hp : p ∈ hl) : p.ok ∧ p.F w0.heap.size w ∧ ∀ k, p.D k → w0.heap.size ≤ k ∧ k < w.heap.size ∧ ¬ c.S k := by
  obtain ⟨i, hi⟩ := List.getElem?_of_mem hp
  exact h.own i p hi
theorem Hp.of (he : Ext c.S w0 w) (hj : c.J w) (ho : ∀ p ∈ hl, p.ok ∧ p.F w0.heap.size w ∧ ∀ k, p.D k → w0.heap.size ≤ k ∧ k < w.heap.size ∧ ¬ c.S k) (hn : hl.Pairwise En.apart) : Hp c w0 w hl := ⟨he, hj, fun i p hi => ho p (List.mem_of_getElem? hi), hn⟩
theorem Hp.good {h1 h2 : HL} (h : Hp c w0 w (h1 ++ h2)) : Good h2 := ⟨fun p hp => (h.at' (List.mem_append_right _ hp)).1, (List.pairwise_append.1 h.ne).2.1⟩
theorem apart_symm {p q : En} (h : En.apart p q) : En.apart q p := fun k hk hp => h k hp hk
theorem Hp.pack {h1 h2 : HL} (h : Hp c w0 w (h1 ++ h2)) : Hp c w0 w (h1 ++ [packE w0.heap.size h2]) := by
  have hg := h.good
  have hne := List.pairwise_append.1 h.ne
  refine Hp.of h.ext h.inv (fun p hp => ?_) ?_
  · rcases List.mem_append.1 hp with hp | hp
    · exact h.at' (List.mem_append_left _ hp)
    · rw [List.mem_singleton] at hp
      subst hp
      refine ⟨packOk hg.1, fun q hq => (h.at' (List.mem_append_right _ hq)).2.1, ?_⟩
      rintro k ⟨q, hq, hk⟩
      exact (h.at' (List.mem_append_right _ hq)).2.2 k hk
  · rw [List.pairwise_append]
    refine ⟨hne.1, by simp, fun p hp q hq => ?_⟩
    rw [List.mem_singleton] at hq
    subst hq
    rintro k hk ⟨q, hq, hqk⟩
    exact hne.2.2 p hp q hq k hk hqk
theorem Hp.unpack {h1 h2 t : HL} (hg : Good h2) (h : Hp c w0 w (h1 ++ packE w0.heap.size h2 :: t)) : Hp c w0 w (h1 ++ h2 ++ t) := by
  have hne := List.pairwise_append.1 h.ne
  have hne2 := List.pairwise_cons.1 hne.2.1
  have hm := h.at' (p := packE w0.heap.size h2) (by simp)
  refine Hp.of h.ext h.inv (fun p hp => ?_) ?_
  · rcases List.mem_append.1 hp with hp | hp
    · rcases List.mem_append.1 hp with hp | hp
      · exact h.at' (List.mem_append_left _ hp)
      · exact ⟨hg.1 p hp, hm.2.1 p hp, fun k hk => hm.2.2 k ⟨p, hp, hk⟩⟩
    · exact h.at' (by simp [hp])
  · rw [List.pairwise_append, List.pairwise_append]
    refine ⟨⟨hne.1, hg.2, fun p hp q hq k hk hqk => hne.2.2 p hp (packE w0.heap.size h2) (by simp) k hk ⟨q, hq, hqk⟩⟩, hne2.2, fun p hp q hq => ?_⟩
    rcases List.mem_append.1 hp with hp | hp
    · exact hne.2.2 p hp q (by simp [hq])
    · exact fun k hk hqk => hne2.1 q hq k ⟨p, hp, hk⟩ hqk
theorem Hp.perm {h1 h2 : HL} (h : Hp c w0 w h1) (hp : h1.Perm h2) : Hp c w0 w h2 :=
  Hp.of h.ext h.inv (fun p hm => h.at' (hp.symm.subset hm)) ((hp.pairwise_iff apart_symm).1 h.ne)
theorem Hp.less {h1 h2 : HL} (h : Hp c w0 w h1) (hs : h2.Sublist h1) : Hp c w0 w h2 := Hp.of h.ext h.inv (fun p hm => h.at' (hs.subset hm)) (h.ne.sublist hs)
theorem nth_mid (h1 : HL) (p : En) (t : HL) : nth (h1 ++ p :: t) h1.length = some p := by rw [nth_eq]; simp
theorem set_mid (h1 : HL) (p q : En) (t : HL) : (h1 ++ p :: t).set h1.length q = h1 ++ q :: t := by simp
theorem Hp.turn {h1 t h2 h3 : HL} {g : Nat} {o o' : Obj} (h : Hp c w0 w (h1 ++ packE w0.heap.size (h2 ++ .blk g o :: h3) :: t)) (hg : Good (h2 ++ .blk g o :: h3)) : Hp c w0 (w.putObj g o') (h1 ++ packE w0.heap.size (h2 ++ .blk g o' :: h3) :: t) := by
  have hm := h.at' (p := packE w0.heap.size (h2 ++ .blk g o :: h3)) (by simp)
  have hgb : w.heap[g]? = some o := hm.2.1 (.blk g o) (by simp)
  have hlt : g < w.heap.size := (Array.getElem?_eq_some_iff.1 hgb).1
  have hne := List.pairwise_append.1 hg.2
  have hne2 := List.pairwise_cons.1 hne.2.1
  rw [← set_mid h1 (packE w0.heap.size (h2 ++ .blk g o :: h3))]
  refine h.chg (nth_mid _ _ _) (packOk ?_) ?_ rfl rfl rfl (by simp) ?_ ?_
  · intro p hp
    rcases List.mem_append.1 hp with hp | hp
    · exact hg.1 p (by simp [hp])
    · rcases List.mem_cons.1 hp with rfl | hp
      · trivial
      · exact hg.1 p (by simp [hp])
  · intro p hp
    have same : p ∈ h2 ∨ p ∈ h3 → p.F w0.heap.size (w.putObj g o') := by
      intro hp
      have hap : ∀ k, p.D k → k ≠ g := by
        rcases hp with hp | hp
        · exact fun k hk e => hne.2.2 p hp (.blk g o) (by simp) k hk e
        · exact fun k hk e => hne2.1 p hp k e hk
      have hmem : p ∈ h2 ++ .blk g o :: h3 := by rcases hp with hp | hp <;> simp [hp]
      exact En.same (hg.1 p hmem) (fun k hk => World.putObj_heap_other (hap k hk)) (hm.2.1 p hmem)
    rcases List.mem_append.1 hp with hp | hp
    · exact same (.inl hp)
    · rcases List.mem_cons.1 hp with rfl | hp
      · exact World.putObj_heap_same hlt
      · exact same (.inr hp)
  · intro k hk hn
    exact World.putObj_heap_other (fun e => hn ⟨.blk g o, by simp, e⟩)
  · rintro k ⟨p, hp, hk⟩
    rcases List.mem_append.1 hp with hp | hp
    · exact .inl ⟨p, by simp [hp], hk⟩
    · rcases List.mem_cons.1 hp with rfl | hp
      · exact .inl ⟨.blk g o, by simp, hk⟩
      · exact .inl ⟨p, by simp [hp], hk⟩
def Seq {α : Type} (P : Program) (gf : Nat) (lb : Array Value) (encs : α → Array Value) (full : List α) (c : Cx) (w0 : World) (kq : En) : Prop :=
  ∀ (lr : Nat) (JJ JX : List α → HL → Prop) (hl : HL) (W : World), JJ [] hl → Hp c w0 W (hl ++ [kq]) →
    (∀ pre x hl q W1, (pre ++ [x]) <+: full → JJ pre hl → Hp c w0 W1 (hl ++ [q]) → YieldAt (Fw none) 0 P lr (encs x) W1 fun e W' =>
      ∃ b, e = .returned (.bool b) ∧ ∃ hl', (if b = true then JJ (pre ++ [x]) hl' else JX (pre ++ [x]) hl') ∧ Hp c w0 W' (hl' ++ [q])) →
    CallsIn (Fw none) 0 P gf (#[.func (.yield lr) #[] #[]] ++ lb) W fun e W' => (∃ v, e = .returned v) ∧ ∃ hl', (JJ full hl' ∨ ∃ pre, pre <+: full ∧ JX pre hl') ∧ Hp c w0 W' hl'
def rpost {α : Type} (c : Cx) (w0 : World) (JJ : List α → HL → Prop) (JX : Code → List α → HL → Prop) (xs : List α) (qb : En) : Exit → Act → World → Prop
  | .normal, _, W => ∃ hl, JJ xs hl ∧ Hp c w0 W (hl ++ [qb])
  | .ret, _, W => ∃ hl, JX .ret xs hl ∧ Hp c w0 W (hl ++ [qb])
  | .exit id, _, W => ∃ hl, JX (.exit id) xs hl ∧ Hp c w0 W (hl ++ [qb])
  | _, _, _ => False
def putAL : List Nat → List Value → AL
  | t :: ts, v :: vs => (t, v) :: putAL ts vs
  | _, _ => []
def dmark (D : Nat) : Deferred := { target := .collected D, args := #[] }
def dblk (D : Nat) : En := .blk D (.deferred (some []))
theorem has_zip (h : Has ds N a l) : ∀ (ps : List Nat) (vs : List Value) (hN : ∀ t ∈ ps, t < N) (hd : ps.Nodup), ps.length = vs.length →
    Has [] N { tmps := (ps.zip vs).foldl (fun tmps (t, v) => tmps.setIfInBounds t v) a.tmps, defers := [] } (putAL ps vs ++ l) := by
  intro ps
  induction ps generalizing a l ds with
  | nil => intro vs _ _ _; exact ⟨rfl, h.size, h.get⟩
  | cons t ts ih =>
    intro vs hN hd hs
    cases vs with
    | nil => simp at hs
    | cons v vs =>
      have h1 : Has ds N (a.put (some t) v) ((t, v) :: l) := h.put (by have := hN t (by simp); simp only [Nat.blt, Nat.ble_eq]; omega) v
      have h2 := ih h1 vs (fun u hu => hN u (by simp [hu])) (List.nodup_cons.1 hd).2 (by simpa using hs)
      refine ⟨rfl, h2.size, fun u x hu => h2.get u x ?_⟩
      have hnt := (List.nodup_cons.1 hd).1
      have key : ∀ (ts : List Nat) (vs : List Value) (m : AL), t ∉ ts → look ((t, v) :: (putAL ts vs ++ m)) u = some x → look (putAL ts vs ++ (t, v) :: m) u = some x := by
        intro ts
        induction ts with
        | nil => intro vs m _ hu; exact hu
        | cons s ss ih =>
          intro vs m hn hu
          cases vs with
          | nil => exact hu
          | cons y ys =>
            simp only [putAL, List.cons_append, look] at hu ⊢
            cases hb : Nat.beq s u with
            | true =>
              rw [hb] at hu
              have hsu := Nat.eq_of_beq_eq_true hb
              have : Nat.beq t u = false := by
                cases hc : Nat.beq t u with
                | false => rfl
                | true => exact absurd ((Nat.eq_of_beq_eq_true hc).trans hsu.symm) (fun e => hn (by simp [e]))
              rw [this] at hu
              simpa using hu
            | false =>
              rw [hb] at hu
              simp only [cond_false] at hu ⊢
              exact ih ys m (fun hm => hn (by simp [hm])) (by simpa only [look] using hu)
      exact key ts vs l hnt hu
theorem rngF {α : Type} {encs : α → Array Value} {full : List α} {kq : En} {g : Operand} {gf : Nat} {lb : Array Value} {ps : List Nat} {assign body : Code} (h : Has [] N a l) (hp : Hp c w0 w (hl ++ [kq]))
    (hg : ev l g = some (.func (.func gf) #[] lb)) (eg : ∀ args w, (callFunc gf args).run P w = .ok (.enter gf args) w) (hs : Seq P gf lb encs full c w0 kq)
    (JJ : List α → HL → Prop) (JX : Code → List α → HL → Prop) (h0 : JJ [] hl) (hsz : ∀ x, (encs x).size = ps.length) (hN : ∀ t ∈ ps, t < N) (hnd : ps.Nodup)
    (round : ∀ lr pre x hl qr qb W a, (pre ++ [x]) <+: full → JJ pre hl → Hp c w0 W (hl ++ [qr]) → Has [] N a (putAL ps (encs x).toList ++ l) →
      assign.wpIn (Fw (some lr)) 0 P (Exit.then (fun a1 w1 => (∃ t, Hp c w0 w1 (hl ++ qr :: t)) ∧ ∀ w2, (∀ t, Hp c w0 w1 (hl ++ qr :: t) → Hp c w0 w2 (hl ++ qb :: t)) → body.wpIn (Fw (some lr)) 0 P (rpost c w0 JJ JX (pre ++ [x]) qb) a1 w2) (fun _ _ _ => False)) a W)
    (done : ∀ D hl' W a, JJ full hl' → Hp c w0 W (hl' ++ [dblk D]) → Has [dmark D] N a l → Q .normal a W)
    (stop : ∀ D cd pre hl' W a, pre <+: full → JX cd pre hl' → Hp c w0 W (hl' ++ [dblk D]) → Has [dmark D] N a l → cd.wp P Q a W) :
    (Code.rangeFunc g ps.toArray assign body).wp P Q a w := by
  refine (wpIn_wide (n := 0)).1 (wpIn_rangeFunc ?_)
  intro fn hfn
  obtain ⟨rec, hrec⟩ : ∃ rec : LoopState → Option Code → Loop, rec = fun st pe => { state := st, pending := pe, fn, tmps := a.tmps, params := ps.toArray, assign, body, defers := w.heap.size } := ⟨_, rfl⟩
  obtain ⟨D, hD⟩ : ∃ D, D = w.heap.size := ⟨_, rfl⟩
  obtain ⟨L, hL⟩ : ∃ L, L = w.heap.size + 1 := ⟨_, rfl⟩
  obtain ⟨W1, hW1⟩ : ∃ W1, (w.alloc (.deferred (some []))).alloc (.loop (rec .ready none)) = W1 := ⟨_, rfl⟩
  have hp1 : Hp c w0 W1 (hl ++ [kq] ++ [.blk D (.deferred (some []))] ++ [.blk L (.loop (rec .ready none))]) := by
    have h1 := (hp.alloc (.deferred (some []))).alloc (.loop (rec .ready none))
    rw [hW1, show (w.alloc (.deferred (some []))).heap.size = L from by rw [hL]; simp, ← hD] at h1
    exact h1
  have perm1 : (hl ++ [kq] ++ [En.blk D (.deferred (some []))] ++ [En.blk L (.loop (rec .ready none))]).Perm ((hl ++ [dblk D, .blk L (.loop (rec .ready none))]) ++ [kq]) := by
    simp only [List.append_assoc, List.cons_append, List.nil_append]
    refine List.Perm.append_left _ ?_
    exact (List.Perm.swap _ _ _).trans ((List.Perm.swap _ _ _).cons _)
  refine ⟨L, [dmark D], W1, { target := .fn (.func gf) lb, args := #[.func (.yield L) #[] #[]] }, W1, gf, #[.func (.yield L) #[] #[]] ++ lb, W1, ?_, ?_, fun _ _ => trivial, ?_, fun h0 => (by cases h0), ?_⟩
  · rw [← hW1, hrec, hL, hD]
    exact run_enterLoop_outer _ _ _ _ _
  · simp only [resolve, h.ev hg]
    simp [go_sem]
  · simp [invoke, go_sem, eg]
  · refine CallsIn.mono (hs L (fun pre h1 => ∃ h2, JJ pre h2 ∧ h1 = h2 ++ [dblk D, .blk L (.loop (rec .ready none))])
      (fun pre h1 => ∃ cd h2, JX cd pre h2 ∧ h1 = h2 ++ [dblk D, .blk L (.loop (rec .done (some cd)))]) _ W1 ⟨hl, h0, rfl⟩ (hp1.perm perm1) ?_) ?_
    · rintro pre x h1 q W hpre ⟨h2, hj, rfl⟩ hpq
      have hLb : W.heap[L]? = some (.loop (rec .ready none)) := (hpq.at' (p := .blk L (.loop (rec .ready none))) (by simp)).2.1
      have hy := run_yield (P := P) (args := encs x) hLb (by rw [hrec]; simpa using hsz x)
      rw [hrec] at hy
      refine ⟨fn, _, assign, body, hy, ?_⟩
      have e1 : h2 ++ [dblk D, .blk L (.loop (rec .ready none))] ++ [q] = h2 ++ ([dblk D] ++ .blk L (.loop (rec .ready none)) :: [q]) := by simp
      rw [e1] at hpq
      have hgood := hpq.good
      have hpk := hpq.pack
      have hgood' : ∀ o', Good ([dblk D] ++ .blk L o' :: [q]) := fun o' => by
        refine ⟨fun p hp => ?_, ?_⟩
        · simp only [List.mem_append, List.mem_cons, List.mem_nil_iff, or_false] at hp
          rcases hp with rfl | rfl | rfl
          · trivial
          · trivial
          · exact hgood.1 _ (by simp)
        · have := hgood.2
          simp only [List.cons_append, List.nil_append, List.pairwise_cons, List.mem_cons, List.mem_nil_iff, or_false] at this ⊢
          refine ⟨?_, ?_, this.2.2⟩
          · rintro p (rfl | rfl)
            · exact this.1 (.blk L (.loop (rec .ready none))) (.inl rfl)
            · exact this.1 _ (.inr rfl)
          · exact this.2.1
      have hrd := round L pre x h2 (packE w0.heap.size ([dblk D] ++ .blk L (.loop (rec .ready none)) :: [q])) (packE w0.heap.size ([dblk D] ++ .blk L (.loop { rec .ready none with state := .busy }) :: [q])) W _ hpre hj hpk
        (has_zip h ps (encs x).toList hN hnd (by have := hsz x; simpa using this.symm))
      refine roundIn_of_wpIn (F := Fw none) trivial ?_
      have ez : (ps.toArray.zip (encs x)).foldl (fun t (p, v) => t.setIfInBounds p v) a.tmps = (ps.zip (encs x).toList).foldl (fun tmps (t, v) => tmps.setIfInBounds t v) a.tmps := by
        rw [← Array.foldl_toList]
        simp
      simp only [ez]
      refine wpIn_mono hrd ?_
      intro e a1 w1 hq
      cases e with
      | normal =>
        obtain ⟨⟨t, ht⟩, hbody⟩ := hq
        have hL1 : w1.heap[L]? = some (.loop (rec .ready none)) := (ht.at' (p := packE w0.heap.size ([dblk D] ++ .blk L (.loop (rec .ready none)) :: [q])) (by simp)).2.1 (.blk L (.loop (rec .ready none))) (by simp)
        refine ⟨_, run_beginRound hL1 (by rw [hrec]), wpIn_mono (hbody _ fun t ht => ht.turn hgood) ?_⟩
        have fin : ∀ (jump : Option Code) (W3 : World) (h3 : HL), Hp c w0 W3 (h3 ++ [packE w0.heap.size ([dblk D] ++ .blk L (.loop { rec .ready none with state := .busy }) :: [q])]) →
            ∃ W4, (Instr.endRound L jump).run P W3 = .ok (.bool jump.isNone) W4 ∧ Hp c w0 W4 (h3 ++ [dblk D, .blk L (.loop (rec (if jump.isNone then .ready else .done) jump))] ++ [q]) := by
          intro jump W3 h3 h4
          have hL3 : W3.heap[L]? = some (.loop { rec .ready none with state := .busy }) := (h4.at' (p := packE w0.heap.size ([dblk D] ++ .blk L (.loop { rec .ready none with state := .busy }) :: [q])) (by simp)).2.1 (.blk L (.loop { rec .ready none with state := .busy })) (by simp)
          refine ⟨_, run_endRound jump hL3, ?_⟩
          have h5 := (h4.turn (t := []) (o' := .loop (rec (if jump.isNone then .ready else .done) jump)) (hgood' _)).unpack (hgood' _)
          rw [hrec] at h5 ⊢
          simpa using h5
        intro e a3 W3 hq
        cases e with
        | normal =>
          obtain ⟨h3, hj3, h4⟩ := hq
          obtain ⟨W4, h5, h6⟩ := fin none W3 h3 h4
          exact ⟨_, W4, h5, true, rfl, _, ⟨h3, hj3, rfl⟩, h6⟩
        | ret =>
          obtain ⟨h3, hj3, h4⟩ := hq
          obtain ⟨W4, h5, h6⟩ := fin (some .ret) W3 h3 h4
          exact ⟨_, W4, h5, false, rfl, _, ⟨.ret, h3, hj3, rfl⟩, h6⟩
        | exit id =>
          obtain ⟨h3, hj3, h4⟩ := hq
          obtain ⟨W4, h5, h6⟩ := fin (some (.exit id)) W3 h3 h4
          exact ⟨_, W4, h5, false, rfl, _, ⟨.exit id, h3, hj3, rfl⟩, h6⟩
        | goto t => exact hq.elim
        | panic ch => exact hq.elim
        | outgrown => exact hq.elim
      | _ => exact hq.elim
    · rintro e W2 ⟨⟨v, rfl⟩, h1, hj, hp2⟩
      have fin : ∀ (st : LoopState) (pe : Option Code) (h3 : HL), st ≠ .busy → Hp c w0 W2 (h3 ++ [dblk D, .blk L (.loop (rec st pe))]) → ∃ W4, (Instr.endLoop L).run P W2 = .ok pe W4 ∧ Hp c w0 W4 (h3 ++ [dblk D]) := by
        intro st pe h3 hst h4
        have hL3 : W2.heap[L]? = some (.loop (rec st pe)) := (h4.at' (p := .blk L (.loop (rec st pe))) (by simp)).2.1
        have h5 := run_endLoop (P := P) hL3 (by rw [hrec]; exact hst)
        have h5 : (Instr.endLoop L).run P W2 = .ok pe (W2.putObj L (.loop { rec st pe with state := .exhausted })) := by rw [hrec] at h5 ⊢; exact h5
        refine ⟨_, h5, ?_⟩
        have e2 : h3 ++ [dblk D, .blk L (.loop (rec st pe))] = (h3 ++ [dblk D]) ++ .blk L (.loop (rec st pe)) :: [] := by simp
        rw [e2] at h4
        refine (h4.put (nth_mid _ _ _) (World.putObj_heap_same (Array.getElem?_eq_some_iff.1 hL3).1) rfl rfl rfl (by simp) (fun k hk => World.putObj_heap_other hk)).less ?_
        rw [set_mid]
        exact List.sublist_append_left _ _
      have hh : Has [dmark D] N { a with defers := [dmark D] ++ a.defers } l := ⟨by rw [h.defs]; rfl, h.size, h.get⟩
      rcases hj with ⟨h2, hj2, rfl⟩ | ⟨pre, hpre, cd, h2, hj2, rfl⟩
      · obtain ⟨W4, h5, h6⟩ := fin .ready none h2 (by simp) hp2
        exact ⟨none, W4, h5, done D h2 W4 _ hj2 h6 hh⟩
      · obtain ⟨W4, h5, h6⟩ := fin .done (some cd) h2 (by simp) hp2
        exact ⟨some cd, W4, h5, (wpIn_wide (n := 0)).2 (stop D cd pre h2 W4 _ hpre hj2 h6 hh)⟩
theorem enterM {f : FuncId} {fn : Func} {cd : Code} {args : Array Value} {R : Ending → World → Prop} (hf : P.funcs[f]? = some fn) (hb : fn.body = some cd) (hn : fn.ntmps = N) (hs : Nat.ble args.size N = true)
    (h : ∀ a, Has [] N a (alFrom 0 args.toList) → cd.wp P (bodyPostM Fence.wide 0 P fn R) a w) : Calls P f args w R := by
  refine (callsIn_wide (n := 0)).1 (callsIn_of_wp_marks hf hb trivial ((wpIn_wide (n := 0)).2 (h _ ⟨rfl, ?_, fun t v hv => ?_⟩)))
  · have hs' : args.size ≤ N := by simpa [Nat.ble_eq] using hs
    simp [hn]; omega
  · obtain ⟨_, h2⟩ := look_alFrom _ _ _ _ hv
    have h3 : args[t]? = some v := by simpa using h2
    have hlt : t < args.size := (Array.getElem?_eq_some_iff.1 h3).1
    simp [Array.getElem?_append, hlt]
    exact (Array.getElem?_eq_some_iff.1 h3).2
theorem enterI {f : FuncId} {fn : Func} {cd : Code} {args : Array Value} {R : Ending → World → Prop} (hf : P.funcs[f]? = some fn) (hb : fn.body = some cd) (hn : fn.ntmps = N) (hs : Nat.ble args.size N = true)
    (h : ∀ a, Has [] N a (alFrom 0 args.toList) → cd.wpIn (Fw none) 0 P (bodyPost P fn R) a w) : CallsIn (Fw none) 0 P f args w R := by
  refine callsIn_of_wp hf hb trivial (h _ ⟨rfl, ?_, fun t v hv => ?_⟩)
  · have hs' : args.size ≤ N := by simpa [Nat.ble_eq] using hs
    simp [hn]; omega
  · obtain ⟨_, h2⟩ := look_alFrom _ _ _ _ hv
    have h3 : args[t]? = some v := by simpa using h2
    have hlt : t < args.size := (Array.getElem?_eq_some_iff.1 h3).1
    simp [Array.getElem?_append, hlt]
    exact (Array.getElem?_eq_some_iff.1 h3).2
end Go.Proofs.Sx
end
section
namespace Go.Proofs.Sx
open Go.RowKit
variable {P : Program} {ops : Array Oper} {Q : Exit → Act → World → Prop} {K : Act → World → Prop} {ds : List Deferred} {N : Nat} {a : Act} {l : AL} {w : World} {v : Value} {rest : List Oper} {dst : Option Nat} {x : Operand} {d ty : Nat} {pos : String} {af : Array Edge} {gd : Option (Nat × Bool)} {o : Oper} {li : Array Bool} {fuel : Nat} {S : World → Prop}
theorem wmv (h : Has ds N a l) (hx : ev l x = some v) (k : ∀ a', Has ds N a' ((d, v) :: l) → wpList P ops Q rest a' w) (hd : dst = some d := by rfl) (hN : Nat.blt d N = true := by rfl) (hg : gd = none := by rfl) : wpList P ops Q (⟨dst, .move x, ty, pos, af, gd⟩ :: rest) a w :=
  wl (vl h (mov h hx) k hd hN hg)
theorem wsg (h : Has ds N a l) (hx : ev l x = some v) (k : ∀ a', Has ds N a' ((d, v) :: l) → wpList P ops Q rest a' w) (hd : dst = some d := by rfl) (hN : Nat.blt d N = true := by rfl) (hg : gd = none := by rfl) : wpList P ops Q (⟨dst, .assign x, ty, pos, af, gd⟩ :: rest) a w :=
  wl (vl h (asg h hx) k hd hN hg)
theorem wvl (h : Has ds N a l) (hrun : (execOp a.eval o).run P w = .ok (.value v) w) (k : ∀ a', Has ds N a' ((d, v) :: l) → wpList P ops Q rest a' w) (hd : o.dst = some d := by rfl) (hN : Nat.blt d N = true := by rfl) (hg : o.guard = none := by rfl) : wpList P ops Q (o :: rest) a w :=
  wl (vl h hrun k hd hN hg)
theorem wsn (h : Has ds N a l) (hx : ev l x = some v) (k : ∀ a', Has ds N a' ((d, v) :: l) → K a' w) (hd : dst = some d := by rfl) (hN : Nat.blt d N = true := by rfl) (hg : gd = none := by rfl) : wpList P ops (Exit.then K Q) [⟨dst, .assign x, ty, pos, af, gd⟩] a w :=
  wsg h hx (fun a' h' => wn (k a' h')) hd hN hg
section
variable {dst2 dst3 : Option Nat} {x2 x3 : Operand} {d2 d3 ty2 ty3 : Nat} {pos2 pos3 : String} {af2 af3 : Array Edge} {gd2 gd3 : Option (Nat × Bool)} {v2 v3 : Value}
theorem wm2 (h : Has ds N a l) (hd : dst = some d) (hx : ev l x = some v) (hd2 : dst2 = some d2) (hx2 : ev ((d, v) :: l) x2 = some v2) (k : ∀ a', Has ds N a' ((d2, v2) :: (d, v) :: l) → wpList P ops Q rest a' w)
    (hN : Nat.blt d N = true := by rfl) (hg : gd = none := by rfl) (hN2 : Nat.blt d2 N = true := by rfl) (hg2 : gd2 = none := by rfl) : wpList P ops Q (⟨dst, .move x, ty, pos, af, gd⟩ :: ⟨dst2, .move x2, ty2, pos2, af2, gd2⟩ :: rest) a w :=
  wmv h hx (fun _ h => wmv h hx2 k hd2 hN2 hg2) hd hN hg
theorem wm3 (h : Has ds N a l) (hd : dst = some d) (hx : ev l x = some v) (hd2 : dst2 = some d2) (hx2 : ev ((d, v) :: l) x2 = some v2) (hd3 : dst3 = some d3) (hx3 : ev ((d2, v2) :: (d, v) :: l) x3 = some v3) (k : ∀ a', Has ds N a' ((d3, v3) :: (d2, v2) :: (d, v) :: l) → wpList P ops Q rest a' w)
    (hN : Nat.blt d N = true := by rfl) (hg : gd = none := by rfl) (hN2 : Nat.blt d2 N = true := by rfl) (hg2 : gd2 = none := by rfl) (hN3 : Nat.blt d3 N = true := by rfl) (hg3 : gd3 = none := by rfl) : wpList P ops Q (⟨dst, .move x, ty, pos, af, gd⟩ :: ⟨dst2, .move x2, ty2, pos2, af2, gd2⟩ :: ⟨dst3, .move x3, ty3, pos3, af3, gd3⟩ :: rest) a w :=
  wmv h hx (fun _ h => wm2 h hd2 hx2 hd3 hx3 k hN2 hg2 hN3 hg3) hd hN hg
theorem ws2 (h : Has ds N a l) (hd : dst = some d) (hx : ev l x = some v) (hd2 : dst2 = some d2) (hx2 : ev ((d, v) :: l) x2 = some v2) (k : ∀ a', Has ds N a' ((d2, v2) :: (d, v) :: l) → K a' w)
    (hN : Nat.blt d N = true := by rfl) (hg : gd = none := by rfl) (hN2 : Nat.blt d2 N = true := by rfl) (hg2 : gd2 = none := by rfl) : wpList P ops (Exit.then K Q) [⟨dst, .assign x, ty, pos, af, gd⟩, ⟨dst2, .assign x2, ty2, pos2, af2, gd2⟩] a w :=
  wsg h hx (fun _ h => wsn h hx2 k hd2 hN2 hg2) hd hN hg
end
theorem tkq (i : Nat) (h : Has ds N a l) (hop : ops[i]? = some o) (hS : S w) (hrun : ∀ W, S W → (execOp a.eval o).run P W = .ok (.value v) W) (k : ∀ a', Has ds N a' ((d, v) :: l) → wpAnyH P .any ops Q S fuel (li.setIfInBounds i true) a' w)
    (hd : o.dst = some d := by rfl) (hN : Nat.blt d N = true := by rfl) (hg : o.guard = none := by rfl) (hchk : tkB ops li i = true := by kernel_rfl) (hQ : ∀ c a w, Q (.panic c) (a.put o.dst v) w → Q (.panic c) a w := by exact fun _ _ _ q => q) : wpAnyH P .any ops Q S (fuel + 1) li a w :=
  tk i h hop hchk hQ hS hd hN hg hrun k
theorem tkG {j t : Nat} {b b' : Bool} (i : Nat) (h : Has ds N a l) (hop : ops[i]? = some o) (hS : S w) (hg : o.guard = some (j, b)) (hj : (ops[j]?).bind (·.dst) = some t) (hb : look l t = some (.bool b')) (hbb : b' = !b) (k : ∀ a', Has ds N a' ((d, undef) :: l) → wpAnyH P .any ops Q S fuel (li.setIfInBounds i true) a' w)
    (hd : o.dst = some d := by rfl) (hN : Nat.blt d N = true := by rfl) (hchk : tkB ops li i = true := by kernel_rfl) (hQ : ∀ c a w, Q (.panic c) (a.put o.dst undef) w → Q (.panic c) a w := by exact fun _ _ _ q => q) : wpAnyH P .any ops Q S (fuel + 1) li a w :=
  tk_off i h hop hchk hQ hS hd hN hg hj hb hbb k
theorem tkm (i : Nat) (h : Has ds N a l) (hop : ops[i]? = some ⟨dst, .move x, ty, pos, af, gd⟩) (hS : S w) (hx : ev l x = some v) (k : ∀ a', Has ds N a' ((d, v) :: l) → wpAnyH P .any ops Q S fuel (li.setIfInBounds i true) a' w)
    (hd : dst = some d := by rfl) (hN : Nat.blt d N = true := by rfl) (hg : gd = none := by rfl) (hchk : tkB ops li i = true := by kernel_rfl) (hQ : ∀ c a w, Q (.panic c) (a.put dst v) w → Q (.panic c) a w := by exact fun _ _ _ q => q) : wpAnyH P .any ops Q S (fuel + 1) li a w :=
  tk i h hop hchk hQ hS hd hN hg (fun _ _ => mov h hx) k
theorem tka (i : Nat) (h : Has ds N a l) (hop : ops[i]? = some ⟨dst, .assign x, ty, pos, af, gd⟩) (hS : S w) (hx : ev l x = some v) (k : ∀ a', Has ds N a' ((d, v) :: l) → wpAnyH P .any ops Q S fuel (li.setIfInBounds i true) a' w)
    (hd : dst = some d := by rfl) (hN : Nat.blt d N = true := by rfl) (hg : gd = none := by rfl) (hchk : tkB ops li i = true := by kernel_rfl) (hQ : ∀ c a w, Q (.panic c) (a.put dst v) w → Q (.panic c) a w := by exact fun _ _ _ q => q) : wpAnyH P .any ops Q S (fuel + 1) li a w :=
  tk i h hop hchk hQ hS hd hN hg (fun _ _ => asg h hx) k
theorem xqs : (∀ (K : Act → World → Prop) (Q : Exit → Act → World → Prop) (a : Act) (w : World), Exit.then K Q .normal a w = K a w) ∧
    (∀ (K : Act → World → Prop) (Q : Exit → Act → World → Prop) (a : Act) (w : World), Exit.then K Q .ret a w = Q .ret a w) ∧
    (∀ (K : Act → World → Prop) (Q : Exit → Act → World → Prop) (i : Nat) (a : Act) (w : World), Exit.then K Q (.exit i) a w = Q (.exit i) a w) ∧
    (∀ (Q : Exit → Act → World → Prop) (i j : Nat) (a : Act) (w : World), Exit.inBlock j Q (.exit i) a w = (if i = j then Q .normal a w else Q (.exit i) a w)) ∧
    (∀ (Q : Exit → Act → World → Prop) (j : Nat) (a : Act) (w : World), Exit.inBlock j Q .normal a w = Q .normal a w) ∧
    (∀ (Q : Exit → Act → World → Prop) (j : Nat) (a : Act) (w : World), Exit.inBlock j Q .ret a w = Q .ret a w) ∧
    (∀ (Q : Exit → Act → World → Prop) (a : Act) (w : World), Exit.noGoto Q .normal a w = Q .normal a w) ∧
    (∀ (Q : Exit → Act → World → Prop) (a : Act) (w : World), Exit.noGoto Q .ret a w = Q .ret a w) ∧
    (∀ (Q : Exit → Act → World → Prop) (i : Nat) (a : Act) (w : World), Exit.noGoto Q (.exit i) a w = Q (.exit i) a w) ∧
    (∀ {α : Type} (c : Cx) (w0 : World) (J : List α → HL → Prop) (JX : Code → List α → HL → Prop) (ys : List α) (qb : En) (a : Act) (w : World), rpost c w0 J JX ys qb .normal a w = (∃ hl, J ys hl ∧ Hp c w0 w (hl ++ [qb]))) ∧
    (∀ {α : Type} (c : Cx) (w0 : World) (J : List α → HL → Prop) (JX : Code → List α → HL → Prop) (ys : List α) (qb : En) (a : Act) (w : World), rpost c w0 J JX ys qb .ret a w = (∃ hl, JX .ret ys hl ∧ Hp c w0 w (hl ++ [qb]))) ∧
    (∀ {α : Type} (c : Cx) (w0 : World) (J : List α → HL → Prop) (JX : Code → List α → HL → Prop) (ys : List α) (qb : En) (i : Nat) (a : Act) (w : World), rpost c w0 J JX ys qb (.exit i) a w = (∃ hl, JX (.exit i) ys hl ∧ Hp c w0 w (hl ++ [qb]))) := by
  refine ⟨?_, ?_, ?_, ?_, ?_, ?_, ?_, ?_, ?_, ?_, ?_, ?_⟩ <;> intros <;> rfl
abbrev EnT (P : Program) (f : FuncId) : Prop := ∀ (args : Array Value) (w : World), (callFunc f args).run P w = .ok (.enter f args) w
theorem ento {f : FuncId} {fn : Func} (hf : P.funcs[f]? = some fn) (hn : (fn.name == "runtime.NumGoroutine") = false := by kernel_rfl) (hb : fn.body.isNone = false := by kernel_rfl) : EnT P f := Go.Proofs.Sx.enters_of hf hn hb
end Go.Proofs.Sx
end
section
namespace Go.Proofs.Sx
open Go.RowKit
variable {r : Option Nat} {ds : List Deferred} {P : Program} {ops : Array Oper} {Q : Exit → Act → World → Prop} {S : World → Prop} {K : Act → World → Prop} {o : Oper}
variable {N : Nat} {a : Act} {l : AL} {w w' w0 : World} {c : Cx} {hl : HL} {v : Value} {li : Array Bool} {fuel d ty : Nat} {pos : String} {af : Array Edge}
def opI (r : Option Nat) (P : Program) (ops : Array Oper) (Q : Exit → Act → World → Prop) (i : Nat) (K : Act → World → Prop) (a : Act) (w : World) : Prop := match ops[i]? with
  | none => K a w
  | some o => StpI r P ops Q o K a w
def anyI (r : Option Nat) (P : Program) (ops : Array Oper) (Q : Exit → Act → World → Prop) (S : World → Prop) : Nat → Array Bool → Act → World → Prop
  | 0, li, a, w => Region.ready .any ops li = [] ∧ Q .normal a w
  | n + 1, li, a, w => (Region.ready .any ops li = [] → Q .normal a w) ∧ ∀ i ∈ Region.ready .any ops li, opI r P ops Q i (fun a' w' => S w' ∧ anyI r P ops Q S n (li.setIfInBounds i true) a' w') a w
theorem opI_in {i : Nat} (h : opI r P ops Q i K a w) : wpOpIn (Fw r) 0 P ops Q i K a w := by
  unfold opI at h
  unfold wpOpIn
  cases ho : ops[i]? with
  | none => simpa [ho] using h
  | some o =>
    rw [ho] at h
    simp only at h ⊢
    unfold StpI at h
    split
    · rename_i hw; rwa [if_pos hw] at h
    · rename_i hw; rw [if_neg hw] at h; exact ⟨fun _ _ => trivial, h⟩
theorem anyI_in : ∀ (n : Nat) (li : Array Bool) (a : Act) (w : World), anyI r P ops Q S n li a w → wpAnyIn (Fw r) 0 P .any ops Q n li a w
  | 0, _, _, _, h => h
  | n + 1, li, a, w, h => ⟨h.1, fun i hi => wpOpIn_mono (fun a' w' h' => anyI_in n _ a' w' h'.2) (opI_in (h.2 i hi))⟩
theorem StpI.mono {K' : Act → World → Prop} (h : StpI r P ops Q o K a w) (hk : ∀ a w, K a w → K' a w) : StpI r P ops Q o K' a w := by
  unfold StpI at *
  split
  · rename_i hw
    rw [if_pos hw] at h
    exact Oper.wpIn_mono hk h
  · rename_i hw
    rw [if_neg hw] at h
    exact hk _ _ h
theorem swapI {oi oj : Oper} {v : Value} (hap : oi.apart ops oj = true) (hsi : ∀ cs b, oi.op ≠ .select cs b) (hsj : ∀ cs b, oj.op ≠ .select cs b) (hnd : noDefer oj = true)
    (hQ : ∀ c a w, Q (.panic c) (a.put oi.dst v) w → Q (.panic c) a w) (hy : YieldsIf P ops S oi v a) (h : StpI r P ops Q oj K (a.put oi.dst v) w) :
    StpI r P ops Q oj (fun a' w' => YieldsIf P ops S oi v a' ∧ K (a'.put oi.dst v) w') a w := by
  obtain ⟨h1, h2, h3⟩ := Oper.apart_spec hap
  have keep : ∀ u, YieldsIf P ops S oi v (a.put oj.dst u) := fun u => hy.of_same (execOp_put oi hsi a oj.dst u h3) (wanted_put oi a oj.dst u h3)
  have back : ∀ u w', K ((a.put oi.dst v).put oj.dst u) w' → K ((a.put oj.dst u).put oi.dst v) w' := fun u w' hk => by rw [← Act.put_comm a v u h2]; exact hk
  unfold StpI at *
  rw [wanted_put oj a oi.dst v h1] at h
  split
  · rename_i hw
    rw [if_pos hw] at h
    obtain ⟨-, h⟩ := h
    refine ⟨fun _ _ => trivial, ?_⟩
    rw [semAt_eq hnd] at h ⊢
    rw [execOp_put oj hsj a oi.dst v h1] at h
    generalize (execOp a.eval oj).run P w = z at h
    cases z with
    | ok n w' =>
      cases n <;> simp only [Oper.uponIn] at h ⊢
      case value u => exact ⟨keep u, back u w' h⟩
      case skip => exact ⟨keep undef, back undef w' h⟩
      case defer dd =>
        refine ⟨hy.of_same ?_ ?_, ?_⟩
        · exact (execOp_put oi hsi _ oj.dst undef h3).trans rfl
        · exact (wanted_put oi _ oj.dst undef h3).trans rfl
        · rw [← Act.put_comm _ v undef h2, ← Act.put_defers]
          exact h
      case enter f args =>
        refine ⟨h.1, h.2.mono fun e w'' he => ?_⟩
        cases e with
        | returned u => exact ⟨keep u, back u w'' he⟩
        | panicked ch => exact hQ _ _ _ he
        | outgrown => exact he
      case row row args => exact ⟨h.1, h.2.mono fun u w'' he => ⟨keep u, back u w'' he⟩⟩
      case round lr f tmps assign body =>
        refine ⟨h.1, h.2.mono fun e w'' he => ?_⟩
        cases e with
        | returned u => exact ⟨keep u, back u w'' he⟩
        | panicked ch => exact hQ _ _ _ he
        | outgrown => exact he
    | halt x w' =>
      cases x <;> simp only [Oper.uponIn] at h ⊢
      case panic u => exact hQ _ _ _ h
  · rename_i hw
    rw [if_neg hw] at h
    exact ⟨keep undef, back undef w h⟩
theorem firstI {i : Nat} {oi : Oper} {v : Value} (hi : ops[i]? = some oi) (hsel : Region.noSelect ops = true) (hnd : ops.toList.all noDefer = true) (hQ : ∀ c a w, Q (.panic c) (a.put oi.dst v) w → Q (.panic c) a w) : ∀ (n : Nat) (li : Array Bool) (a : Act) (w : World),
    (∀ j oj, ops[j]? = some oj → j ≠ i → li.getD j true = false → (∀ e ∈ oj.after, Region.binds .any e = true → e.on ≠ i) → oi.apart ops oj = true) → i ∈ Region.ready .any ops li → YieldsIf P ops S oi v a → S w →
    anyI r P ops Q S n (li.setIfInBounds i true) (a.put oi.dst v) w → anyI r P ops Q S (n + 1) li a w := by
  have now : ∀ {a : Act} {w : World} {K : Act → World → Prop}, YieldsIf P ops S oi v a → S w → K (a.put oi.dst v) w → opI r P ops Q i K a w := by
    intro a w K hy hS hk
    unfold opI
    rw [hi]
    show StpI r P ops Q oi K a w
    unfold StpI
    rcases hy with ⟨hw, hv⟩ | ⟨hw, rfl⟩
    · rw [if_pos hw]
      refine ⟨fun _ _ => trivial, ?_⟩
      rw [semAt_eq (List.all_eq_true.1 hnd oi (by simpa using Array.mem_of_getElem? hi)), hv w hS]
      exact hk
    · rw [if_neg (by rw [hw]; simp)]
      exact hk
  intro n
  induction n with
  | zero =>
    intro li a w hfree hr hy hS H
    refine ⟨fun h => (by rw [h] at hr; cases hr), fun j hj => ?_⟩
    by_cases hji : j = i
    · subst hji; exact now hy hS ⟨hS, H⟩
    · have := ready_mono hj hji
      rw [H.1] at this
      cases this
  | succ n ih =>
    intro li a w hfree hr hy hS H
    refine ⟨fun h => (by rw [h] at hr; cases hr), fun j hj => ?_⟩
    by_cases hji : j = i
    · subst hji; exact now hy hS ⟨hS, H⟩
    · have h1 := H.2 j (ready_mono hj hji)
      obtain ⟨hjun, oj, hoj, hall⟩ := mem_ready.1 hj
      have hnot : ∀ e ∈ oj.after, Region.binds .any e = true → e.on ≠ i := fun e he hb heq => by
        have g1 := hall e he hb
        have g0 := (mem_ready.1 hr).1
        rw [heq] at g1
        simp only [Array.getD_eq_getD_getElem?] at g0 g1
        cases hz : li[i]? with
        | none => rw [hz] at g1; simp at g1
        | some b => rw [hz] at g0 g1; simp at g0 g1; rw [g0] at g1; cases g1
      unfold opI at h1 ⊢
      rw [hoj] at h1 ⊢
      have h2 := swapI (hfree j oj hoj hji hjun hnot) (fun cs b => Region.noSelect_spec hsel i oi cs b hi) (fun cs b => Region.noSelect_spec hsel j oj cs b hoj) (List.all_eq_true.1 hnd oj (by simpa using Array.mem_of_getElem? hoj)) hQ hy h1
      refine StpI.mono h2 ?_
      rintro a' w' ⟨hy', hS', h3⟩
      refine ⟨hS', ih (li.setIfInBounds j true) a' w' (fun k ok hk hki hun hno => hfree k ok hk hki ?_ hno) (ready_mono hr (Ne.symm hji)) hy' hS' ?_⟩
      · by_cases hjk : j = k
        · subst hjk; exact hjun
        · rwa [getD_set_ne true hjk] at hun
      · rw [Array.setIfInBounds_comm _ _ hji]
        exact h3
def tkJ (ops : Array Oper) (li : Array Bool) (i : Nat) : Bool := ops.toList.all noDefer && tkB ops li i
theorem tkI_ {i : Nat} {oi : Oper} {v : Value} (hi : ops[i]? = some oi) (hchk : tkJ ops li i = true) (hQ : ∀ c a w, Q (.panic c) (a.put oi.dst v) w → Q (.panic c) a w) (hy : YieldsIf P ops S oi v a) (hS : S w) (h : anyI r P ops Q S fuel (li.setIfInBounds i true) (a.put oi.dst v) w) : anyI r P ops Q S (fuel + 1) li a w := by
  simp only [tkJ, tkB, Bool.and_eq_true] at hchk
  exact firstI hi hchk.2.1.1 hchk.1 hQ fuel li a w (Region.free_spec hi hchk.2.1.2) (by simpa using hchk.2.2) hy hS h
theorem tkI (i : Nat) (h : Has ds N a l) (hop : ops[i]? = some o) (hchk : tkJ ops li i = true) (hQ : ∀ c a w, Q (.panic c) (a.put o.dst v) w → Q (.panic c) a w) (hS : S w) (hd : o.dst = some d) (hN : Nat.blt d N = true) (hg : o.guard = none)
    (hrun : ∀ W, S W → (execOp a.eval o).run P W = .ok (.value v) W) (k : ∀ a', Has ds N a' ((d, v) :: l) → anyI r P ops Q S fuel (li.setIfInBounds i true) a' w) : anyI r P ops Q S (fuel + 1) li a w := by
  refine tkI_ hop hchk hQ (.inl ⟨by simp [Region.wanted, hg], hrun⟩) hS ?_
  rw [hd]
  exact k _ (h.put hN v)
theorem tkI_on {j t : Nat} {b b' : Bool} (i : Nat) (h : Has ds N a l) (hop : ops[i]? = some o) (hchk : tkJ ops li i = true) (hQ : ∀ c a w, Q (.panic c) (a.put o.dst v) w → Q (.panic c) a w) (hS : S w) (hd : o.dst = some d) (hN : Nat.blt d N = true) (hg : o.guard = some (j, b)) (hj : (ops[j]?).bind (·.dst) = some t) (hb : look l t = some (.bool b')) (hbb : b' = b)
    (hrun : ∀ W, S W → (execOp a.eval { o with guard := none }).run P W = .ok (.value v) W) (k : ∀ a', Has ds N a' ((d, v) :: l) → anyI r P ops Q S fuel (li.setIfInBounds i true) a' w) : anyI r P ops Q S (fuel + 1) li a w := by
  subst hbb
  refine tkI_ hop hchk hQ (.inl ⟨?_, hrun⟩) hS ?_
  · have := h.get t _ hb
    simp [Region.wanted, hg, yielded, hj, this]
  · rw [hd]
    exact k _ (h.put hN v)
theorem tkI_off {j t : Nat} {b b' : Bool} (i : Nat) (h : Has ds N a l) (hop : ops[i]? = some o) (hchk : tkJ ops li i = true) (hQ : ∀ c a w, Q (.panic c) (a.put o.dst undef) w → Q (.panic c) a w) (hS : S w) (hd : o.dst = some d) (hN : Nat.blt d N = true) (hg : o.guard = some (j, b)) (hj : (ops[j]?).bind (·.dst) = some t) (hb : look l t = some (.bool b')) (hbb : b' = !b)
    (k : ∀ a', Has ds N a' ((d, undef) :: l) → anyI r P ops Q S fuel (li.setIfInBounds i true) a' w) : anyI r P ops Q S (fuel + 1) li a w := by
  subst hbb
  have h1 : Region.wanted o (yielded ops a.tmps) = false := by
    have := h.get t _ hb
    cases b <;> simp [Region.wanted, hg, yielded, hj, this]
  refine tkI_ hop hchk hQ (.inr ⟨h1, rfl⟩) hS ?_
  rw [hd]
  exact k _ (h.put hN undef)
theorem oneI (i : Nat) (hr : Region.ready .any ops li = [i]) (hop : ops[i]? = some o) (k : StpI r P ops Q o (fun a' w' => S w' ∧ anyI r P ops Q S fuel (li.setIfInBounds i true) a' w') a w) : anyI r P ops Q S (fuel + 1) li a w := by
  refine ⟨fun h => (by rw [hr] at h; cases h), fun j hj => ?_⟩
  rw [hr, List.mem_singleton] at hj
  subst hj
  unfold opI
  rw [hop]
  exact k
theorem dnI (hr : Region.ready .any ops li = []) (h : Q .normal a w) : anyI r P ops Q S fuel li a w := by
  cases fuel with
  | zero => exact ⟨hr, h⟩
  | succ n => exact ⟨fun _ => h, by rw [hr]; simp⟩
section
variable {fn : Func} {R : Ending → World → Prop} {r1 r2 r3 : ResultVar} {v1 v2 v3 : Value}
theorem leaves1 {D : Nat} {hl' : HL} {i : Nat} (h : Has [dmark D] N a l) (hp : Hp c w0 w hl) (hi : nth hl i = some (dblk D)) (k : ∀ w', Hp c w0 w' (hl.set i (.blk D (.deferred none))) → (results fn a.tmps).run P w' = .ok v w' ∧ R (.returned v) w') : bodyPostM Fence.wide 0 P fn R .ret a w := by
  show LeavesInM Fence.wide 0 P fn a.tmps R a.defers .returning w
  rw [h.defs]
  have hD : w.heap[D]? = some (.deferred (some [])) := hp.fact hi
  have hp' : Hp c w0 (w.putObj D (.deferred none)) (hl.set i (.blk D (.deferred none))) :=
    hp.put hi (World.putObj_heap_same (Array.getElem?_eq_some_iff.1 hD).1) rfl rfl rfl (by simp) (fun k hk => World.putObj_heap_other hk)
  obtain ⟨h1, h2⟩ := k _ hp'
  exact ⟨by simp, .inl ⟨D, _, rfl, run_takeDeferred hD, ⟨v, h1, h2⟩⟩⟩
theorem res1 (hr : fn.results = #[r1]) (h1 : RV P a w r1 v1) : (results fn a.tmps).run P w = .ok v1 w := by
  have := rt_1 (P := P) (fn := fn) (R := fun e w' => e = .returned v1 ∧ w' = w) (N := a.tmps.size) (l := []) (a := ⟨a.tmps, []⟩) (w := w) ⟨rfl, rfl, fun t v h => by cases h⟩ hr h1 ⟨rfl, rfl⟩
  obtain ⟨-, v, hv, e, -⟩ := this
  cases e
  exact hv
theorem res2 (hr : fn.results = #[r1, r2]) (h1 : RV P a w r1 v1) (h2 : RV P a w r2 v2) : (results fn a.tmps).run P w = .ok (.tuple #[v1, v2]) w := by
  have := rt_2 (P := P) (fn := fn) (R := fun e w' => e = .returned (.tuple #[v1, v2]) ∧ w' = w) (N := a.tmps.size) (l := []) (a := ⟨a.tmps, []⟩) (w := w) ⟨rfl, rfl, fun t v h => by cases h⟩ hr h1 h2 ⟨rfl, rfl⟩
  obtain ⟨-, v, hv, e, -⟩ := this
  cases e
  exact hv
theorem rm1_1 {D i : Nat} (h : Has [dmark D] N a l) (hp : Hp c w0 w hl) (hi : nth hl i = some (dblk D)) (hr : fn.results = #[r1]) (k : ∀ w', Hp c w0 w' (hl.set i (.blk D (.deferred none))) → RV P a w' r1 v1 ∧ R (.returned v1) w') : bodyPostM Fence.wide 0 P fn R .ret a w :=
  leaves1 (hl' := hl) h hp hi fun w' hp' => ⟨res1 hr (k w' hp').1, (k w' hp').2⟩
theorem rm1_2 {D i : Nat} (h : Has [dmark D] N a l) (hp : Hp c w0 w hl) (hi : nth hl i = some (dblk D)) (hr : fn.results = #[r1, r2]) (k : ∀ w', Hp c w0 w' (hl.set i (.blk D (.deferred none))) → RV P a w' r1 v1 ∧ RV P a w' r2 v2 ∧ R (.returned (.tuple #[v1, v2])) w') : bodyPostM Fence.wide 0 P fn R .ret a w :=
  leaves1 (hl' := hl) h hp hi fun w' hp' => ⟨res2 hr (k w' hp').1 (k w' hp').2.1, (k w' hp').2.2⟩
end
end Go.Proofs.Sx
end
section
namespace Go.Proofs.Sx
open Go.RowKit
variable {ds : List Deferred} {P : Program} {ops : Array Oper} {Q : Exit → Act → World → Prop} {K : Act → World → Prop} {N : Nat} {a : Act} {l : AL} {w w' w0 : World} {c : Cx} {hl : HL} {u v i : Value}
variable {x y z : Operand} {dst : Option Nat} {d ty t t1 t2 : Nat} {pos : String} {af : Array Edge} {gd : Option (Nat × Bool)}
theorem tya {ok : Bool} (h : Has ds N a l) (hx : ev l x = some v) (hr : (Instr.typeAssert v t1 t2 ok).run P w = .ok u w) : (execOp a.eval ⟨dst, .typeAssert x t1 t2 ok, ty, pos, af, gd⟩).run P w = .ok (.value u) w := by
  simp [execOp, h.ev hx, Sem.run_bind, hr]
theorem ixv (h : Has ds N a l) (hx : ev l x = some v) (hy : ev l y = some i) (hr : (Instr.index t v i).run P w = .ok u w) : (execOp a.eval ⟨dst, .index t x y, ty, pos, af, gd⟩).run P w = .ok (.value u) w := by
  simp [execOp, h.ev hx, h.ev hy, Sem.run_bind, hr]
theorem ivk {f : FuncId} {name : String} {ats : Array TypeId} {args : Array Value} {R : Value → World → Prop} (h : Has ds N a l) (hx : ev l x = some v) (hm : ∀ w, (callMethod v name #[]).run P w = .ok (.enter f args) w) (hc : Calls P f args w fun e w' => ∃ u, e = .returned u ∧ R u w')
    (k : ∀ u w', R u w' → ∀ a', Has ds N a' ((d, u) :: l) → K a' w') (hN : Nat.blt d N = true := by rfl) : Stp P ops Q ⟨some d, .call ⟨.invoke x name, #[], ats⟩, ty, pos, af, none⟩ K a w := by
  have hr : (execOp a.eval ⟨some d, .call ⟨.invoke x name, #[], ats⟩, ty, pos, af, none⟩).run P w = .ok (.enter f args) w := by
    simp [execOp, resolve, invoke, h.ev hx, Sem.run_bind, hm]
  exact stp_enter h rfl hN rfl hr hc (fun u w' ⟨u', e, hR⟩ a' h' => by cases e; exact k u w' hR a' h') (fun ch w' ⟨u', e, _⟩ => by cases e) (fun w' ⟨u', e, _⟩ => by cases e)
end Go.Proofs.Sx
end
section
namespace Go.Proofs.Sx
open Go.RowKit Go.MapKept
variable {ds : List Deferred} {P : Program} {ops : Array Oper} {Q : Exit → Act → World → Prop} {K : Act → World → Prop} {N : Nat} {a : Act} {l : AL} {w w' w0 : World} {c : Cx} {hl : HL} {u v : Value}
variable {x y z : Operand} {dst : Option Nat} {d t k e : Nat} {ty : Nat} {pos : String} {af : Array Edge} {gd : Option (Nat × Bool)}
variable {enc : Int → List Value} {b : Nat}
def goodL (enc : Int → List Value) (l : List MapEntry) : Prop := ∀ x ∈ l, ∃ d : Int, x.key = .int .i64 d ∧ x.val = .agg (enc d).toArray
def mapAt (enc : Int → List Value) (b : Nat) (w : World) : Prop := ∃ es cl, w.heap[b]? = some (.map es cl) ∧ goodL enc es.toList
def cM (enc : Int → List Value) (b : Nat) : Cx where
  S := fun k => k = b
  J := mapAt enc b
  st := fun w w' h ⟨es, cl, h1, h2⟩ => ⟨es, cl, (h b rfl).trans h1, h2⟩
  lt := by
    rintro w k ⟨es, cl, h1, -⟩ rfl
    exact (Array.getElem?_eq_some_iff.1 h1).1
theorem mapAt.lt (h : mapAt enc b w) : b < w.heap.size := by
  obtain ⟨es, cl, h1, -⟩ := h
  exact (Array.getElem?_eq_some_iff.1 h1).1
theorem clM (h : mapAt enc b w) : Cl (cM enc b) w := by
  rintro k o rfl
  obtain ⟨es, cl, h1, -⟩ := h
  simp [World.cell?, h1]
theorem clN (h : w.heap.size ≤ b) : Cl (cM enc b) w := by
  rintro k o rfl
  simp [World.cell?, Array.getElem?_eq_none h]
theorem look_run {z : Value} (hk : P.underlying k = some (.int .i64)) (ht : P.underlying t = some (.map k e)) (hz : ∀ w, (zeroValue e).run P w = .ok z w) (hm : mapAt enc b w) (d : Int) :
    (Instr.lookup t (.map (some b)) (.int .i64 d) true).run P w = .ok (.tuple #[.agg (enc d).toArray, .bool true]) w ∨ (Instr.lookup t (.map (some b)) (.int .i64 d) true).run P w = .ok (.tuple #[z, .bool false]) w := by
  obtain ⟨es, cl, hb, hg⟩ := hm
  have hik : IsKey (.int .i64) (.int .i64 d) := rfl
  have hall : ∀ x ∈ es.toList, IsKey (.int .i64) x.key := fun x hx => by
    obtain ⟨d', h1, -⟩ := hg x hx
    rw [h1]
    rfl
  rcases findNow_spec hik es.toList 0 hall with ⟨h1, -⟩ | ⟨j, x, h1, h2, h3⟩
  · right
    have hf := MapKept.run_findKey (w := w) hk h1
    simp [Instr.lookup, run_underlying ht, MapKept.run_getObj_map hb, MapKept.run_checkKey hk hik, hf, hz, Result.andThen]
  · left
    have hf := MapKept.run_findKey (w := w) hk h1
    obtain ⟨d', h4, h5⟩ := hg x (List.mem_of_getElem? h2)
    rw [h3] at h4
    cases h4
    simp [Instr.lookup, run_underlying ht, MapKept.run_getObj_map hb, MapKept.run_checkKey hk hik, hf, Result.andThen, h5]
theorem store_run (hk : P.underlying k = some (.int .i64)) (ht : P.underlying t = some (.map k e)) (hm : mapAt enc b w) (d : Int) :
    ∃ w', (Instr.mapUpdate t (.map (some b)) (.int .i64 d) (.agg (enc d).toArray)).run P w = .ok () w' ∧ Ext (fun k => k = b) w w' ∧ mapAt enc b w' := by
  obtain ⟨es, cl, hb, hg⟩ := hm
  have hik : IsKey (.int .i64) (.int .i64 d) := rfl
  have hall : ∀ x ∈ es.toList, IsKey (.int .i64) x.key := fun x hx => by
    obtain ⟨d', h1, -⟩ := hg x hx
    rw [h1]
    rfl
  have hlt := (Array.getElem?_eq_some_iff.1 hb).1
  have key : ∀ o, Ext (fun k => k = b) w { w with heap := w.heap.setIfInBounds b o } := fun o =>
    ⟨rfl, rfl, rfl, by simp, fun k _ hk => by simp only [Array.getElem?_setIfInBounds]; rw [if_neg (fun e => hk e.symm)]⟩
  have new : ∀ es' cl', goodL enc es'.toList → mapAt enc b { w with heap := w.heap.setIfInBounds b (.map es' cl') } := fun es' cl' h => ⟨es', cl', by simp [hlt], h⟩
  rcases findNow_spec hik es.toList 0 hall with ⟨h1, -⟩ | ⟨j, x, h1, h2, h3⟩
  · have hf := MapKept.run_findKey (w := w) hk h1
    refine ⟨_, ?_, key (.map (es.push ⟨.int .i64 d, .agg (enc d).toArray, cl⟩) (cl + 1)), new _ _ ?_⟩
    · simp [Instr.mapUpdate, run_underlying ht, MapKept.run_getObj_map hb, MapKept.run_checkKey hk hik, hf, MapKept.run_setObj_map _ hb, Result.andThen]
    · intro x hx
      simp only [Array.toList_push, List.mem_append, List.mem_singleton] at hx
      rcases hx with hx | rfl
      · exact hg x hx
      · exact ⟨d, rfl, rfl⟩
  · have hf := MapKept.run_findKey (w := w) hk h1
    have hj : es[j]? = some x := by simpa using h2
    have hs : (Instr.keyThatStays (.int .i64 d) (.int .i64 d)).run P w = .ok (.int .i64 d) w := by simp [Instr.keyThatStays, sameBits_self hik]
    refine ⟨_, ?_, key (.map (es.modify j (fun e' => { e' with key := .int .i64 d, val := .agg (enc d).toArray })) cl), new _ _ ?_⟩
    · simp [Instr.mapUpdate, run_underlying ht, MapKept.run_getObj_map hb, MapKept.run_checkKey hk hik, hf, hj, h3, hs, MapKept.run_setObj_map _ hb, Result.andThen]
    · intro x' hx'
      obtain ⟨i, hi⟩ := List.getElem?_of_mem hx'
      simp only [Array.toList_modify, List.getElem?_modify] at hi
      cases hq : es.toList[i]? with
      | none => rw [hq] at hi; cases hi
      | some y =>
        rw [hq] at hi
        simp only [Option.map_eq_map, Option.map_some, Option.some.injEq] at hi
        split at hi
        · subst hi; exact ⟨d, rfl, rfl⟩
        · subst hi; exact hg _ (List.mem_of_getElem? hq)
theorem mpm (h : Has ds N a l) (k : ∀ a', Has ds N a' ((d, .map (some w.heap.size)) :: l) → K a' (w.alloc (.map #[] 0))) (hN : Nat.blt d N = true := by rfl) : Stp P ops Q ⟨some d, .makeMap t none, ty, pos, af, none⟩ K a w :=
  stp_val h rfl hN rfl (by show (do let v ← Instr.makeMap t none; pure (Next.value v) : Sem Next).run P w = _; simp only [Sem.run_bind, run_makeMap, Result.andThen_ok]; rfl) k
theorem mpl {q : Int} {zv : Value} (h : Has ds N a l) (hp : Hp (cM enc b) w0 w hl) (hx : ev l x = some (.map (some b))) (hy : ev l y = some (.int .i64 q)) (hk : P.underlying k = some (.int .i64)) (ht : P.underlying t = some (.map k e)) (hz : ∀ w, (zeroValue e).run P w = .ok zv w)
    (k1 : ∀ a', Has ds N a' ((d, .tuple #[.agg (enc q).toArray, .bool true]) :: l) → K a' w) (k2 : ∀ a', Has ds N a' ((d, .tuple #[zv, .bool false]) :: l) → K a' w) (hN : Nat.blt d N = true := by rfl) :
    Stp P ops Q ⟨some d, .lookup t x y true, ty, pos, af, none⟩ K a w := by
  rcases look_run (enc := enc) hk ht hz hp.inv q with hr | hr
  · exact stp_val h rfl hN rfl (by simp [execOp, h.ev hx, h.ev hy, Sem.run_bind, hr]) k1
  · exact stp_val h rfl hN rfl (by simp [execOp, h.ev hx, h.ev hy, Sem.run_bind, hr]) k2
theorem mps {q : Int} (h : Has ds N a l) (hp : Hp (cM enc b) w0 w hl) (hx : ev l x = some (.map (some b))) (hy : ev l y = some (.int .i64 q)) (hv : ev l z = some (.agg (enc q).toArray)) (hk : P.underlying k = some (.int .i64)) (ht : P.underlying t = some (.map k e))
    (k1 : ∀ w', Hp (cM enc b) w0 w' hl → K a w') : Stp P ops Q ⟨none, .mapUpdate t x y z, ty, pos, af, none⟩ K a w := by
  obtain ⟨w', hr, h1, h2⟩ := store_run (enc := enc) hk ht hp.inv q
  exact stp_skip rfl rfl (by simp [execOp, h.ev hx, h.ev hy, h.ev hv, Sem.run_bind, hr]) (k1 w' (hp.grow h1 h2))
theorem Hp.toM {b : Nat} (h : Hp c0 w0 w (.fct (fun k => k = b) (mapAt enc b) :: hl)) : Hp (cM enc b) w0 w hl ∧ w0.heap.size ≤ b := by
  have hm := h.at' (p := .fct (fun k => k = b) (mapAt enc b)) (by simp)
  have hne := List.pairwise_cons.1 h.ne
  refine ⟨⟨⟨h.ext.os, h.ext.tape, h.ext.output, h.ext.size, fun k hk hs => h.ext.block k hk id⟩, hm.2.1, fun i p hi => ?_, hne.2⟩, (hm.2.2 b rfl).1⟩
  have hp := List.mem_of_getElem? hi
  have := h.at' (List.mem_cons_of_mem _ hp)
  exact ⟨this.1, this.2.1, fun k hk => ⟨(this.2.2 k hk).1, (this.2.2 k hk).2.1, fun e => hne.1 p hp k e hk⟩⟩
theorem Hp.belM (h : Hp (cM enc b) w0 w hl) (hb : w0.heap.size ≤ b) : Below w0.heap.size w0 w :=
  ⟨h.ext.os, h.ext.tape, h.ext.output, h.ext.size, fun k hk => h.ext.block k hk (fun e => by have e : k = b := e; omega)⟩
end Go.Proofs.Sx
end
section
namespace Go.Proofs.Sx
open Go.RowKit
variable {r : Option Nat} {ds : List Deferred} {P : Program} {ops : Array Oper} {Q : Exit → Act → World → Prop} {K : Act → World → Prop} {N : Nat} {a : Act} {l : AL} {w w' w0 : World} {c : Cx} {hl : HL} {u v : Value} {S : World → Prop} {o : Oper} {rest : List Oper}
variable {x y z : Operand} {dst : Option Nat} {d t g off : Nat} {ty : Nat} {pos : String} {af : Array Edge} {gd : Option (Nat × Bool)} {cs : Array Value} {t' : TypeId} {fr : Nat × Nat} {fuel : Nat} {li : Array Bool}
theorem cutN {z1 z2 : Code} (I : Act → World → Prop) (h1 : z1.wp P (Exit.then I (fun _ _ _ => False)) a w) (h2 : ∀ a w, I a w → z2.wp P Q a w) : (Code.seq z1 z2).wp P Q a w :=
  wp_seq (Code.wp_mono (fun e a w q => by cases e <;> first | exact h2 _ _ q | exact q.elim) h1)
theorem ldk (h : Has ds N a l) (hg : w.heap[g]? = some (.cells cs t' fr)) (hx : ev l x = some (.pointer (some ⟨g, off, none⟩))) (hc : nth cs.toList off = some v) (ht : isAg P t = some false) : (execOp a.eval ⟨dst, .load t x, ty, pos, af, gd⟩).run P w = .ok (.value v) w :=
  ld1 h hx (by rw [cell_of_row w g off cs t' fr hg]; rw [nth_eq] at hc; simpa using hc) ht
theorem ldK {us : List Value} (h : Has ds N a l) (hg : w.heap[g]? = some (.cells cs t' fr)) (hx : ev l x = some (.pointer (some ⟨g, off, none⟩))) (hs : szT P t = some us.length) (hc : (cs.toList.drop off).take us.length = us) (ht : isAg P t = some true) : (execOp a.eval ⟨dst, .load t x, ty, pos, af, gd⟩).run P w = .ok (.value (.agg us.toArray)) w :=
  ldn h hx (fun j u hu => by
    rw [Go.WideShapes.add_plain, cell_of_row w g (off + j) cs t' fr hg]
    rw [← hc] at hu
    rw [List.getElem?_take] at hu
    split at hu
    · rw [List.getElem?_drop] at hu
      simpa using hu
    · cases hu) ht hs
theorem Hp.front {q : En} (h : Hp c w0 w (hl ++ [q])) : Hp c w0 w (q :: hl) := h.perm (List.perm_append_comm (l₁ := hl) (l₂ := [q]))
theorem Hp.tail {q : En} (h : Hp c w0 w (q :: hl)) : Hp c w0 w hl := h.less (List.sublist_cons_self _ _)
theorem Hp.lastF {q : En} (h : Hp c w0 w (hl ++ [q])) : q.F w0.heap.size w := (h.at' (p := q) (by simp)).2.1
theorem Hp.ini {q : En} (h : Hp c w0 w (hl ++ [q])) : Hp c w0 w hl := h.less (List.sublist_append_left _ _)
variable {α : Type} {enc : α → List Value} {sz : Nat} {ys : List α}
theorem Hp.rdF {i : Nat} (h : Hp c w0 w hl) (hi : nth hl i = some (rdE enc sz v ys)) : Rd w enc sz v ys := h.fact hi
theorem Hp.bnd {i : Nat} {o : Obj} (h : Hp c w0 w hl) (hi : nth hl i = some (.blk g o)) : w0.heap.size ≤ g ∧ g < w.heap.size := by
  have := (h.own i (.blk g o) (by rwa [nth_eq] at hi)).2.2 g rfl
  exact ⟨this.1, this.2.1⟩
theorem Hp.frR {i : Nat} (h : Hp c w0 w hl) (hi : nth hl i = some (rdE enc sz v ys)) : Fr w0 w enc sz v ys :=
  ⟨h.rdF hi, fun h0 => ((h.own i (rdE enc sz v ys) (by rwa [nth_eq] at hi)).2.2 (bk v) ⟨h0, rfl⟩).1⟩
theorem rdS {id n : Nat} {L : List Oper} {z : Code} (S : World → Prop) (hm : P.follows .mixedOrders = true) (hn : L.toArray.size = n) (h : anyI r P L.toArray (Exit.then (z.wpIn (Fw r) 0 P Q) Q) S n (Array.replicate n false) a w.drew) : (Code.seq (Code.region id L.toArray true) z).wpIn (Fw r) 0 P Q a w := by
  subst hn
  exact wpIn_seq (wpIn_region_any hm (anyI_in _ _ _ _ h))
theorem eqIn0 {ms : Array (String × TypeId)} {t1 : Nat} (ht : P.underlying t1 = some (.interface ms)) (n : Nat) : Sem.run P (Op.equalIn (n + 1) t1 .nilIface .nilIface) w = .ok true w := by
  unfold Op.equalIn
  simp [Sem.run_bind, run_underlying ht]
theorem eqIn1 {ms : Array (String × TypeId)} {t1 T : Nat} (ht : P.underlying t1 = some (.interface ms)) (n : Nat) : Sem.run P (Op.equalIn (n + 1) t1 (.iface T u) .nilIface) w = .ok false w := by
  unfold Op.equalIn
  simp [Sem.run_bind, run_underlying ht]
theorem eqN0 {ms : Array (String × TypeId)} {t1 t2 : Nat} {v2 : Value} (h : Has ds N a l) (hx : ev l x = some .nilIface) (hy : ev l (.const v2) = some .nilIface) (ht : P.underlying t1 = some (.interface ms)) : (execOp a.eval ⟨dst, .binOp .eql t1 x (.const v2) t2, ty, pos, af, gd⟩).run P w = .ok (.value (.bool true)) w := by
  have := eqIn0 (w := w) ht (Op.maxDepth - 1)
  rw [show Op.maxDepth - 1 + 1 = Op.maxDepth from rfl] at this
  simp only [execOp, h.ev hx, h.ev hy, eqGuard, binOp, Op.equal, Sem.run_bind]
  simp [this]
theorem eqN1 {ms : Array (String × TypeId)} {t1 t2 T : Nat} {v2 u : Value} (h : Has ds N a l) (hx : ev l x = some (.iface T u)) (hy : ev l (.const v2) = some .nilIface) (ht : P.underlying t1 = some (.interface ms)) : (execOp a.eval ⟨dst, .binOp .eql t1 x (.const v2) t2, ty, pos, af, gd⟩).run P w = .ok (.value (.bool false)) w := by
  have := eqIn1 (u := u) (T := T) (w := w) ht (Op.maxDepth - 1)
  rw [show Op.maxDepth - 1 + 1 = Op.maxDepth from rfl] at this
  simp only [execOp, h.ev hx, h.ev hy, eqGuard, binOp, Op.equal, Sem.run_bind]
  simp [this]
theorem Hp.rot3 {q p1 p2 p3 : En} (h : Hp c w0 w (q :: p1 :: p2 :: p3 :: hl)) : Hp c w0 w (p1 :: p2 :: p3 :: q :: hl) :=
  h.perm (((List.Perm.swap p1 q _).trans ((List.Perm.swap p2 q _).cons _)).trans (((List.Perm.swap p3 q _).cons _).cons _))
theorem Hp.unrot3 {q p1 p2 p3 : En} (h : Hp c w0 w (p1 :: p2 :: p3 :: q :: hl)) : Hp c w0 w (q :: p1 :: p2 :: p3 :: hl) :=
  h.perm (((List.Perm.swap p1 q _).trans ((List.Perm.swap p2 q _).cons _)).trans (((List.Perm.swap p3 q _).cons _).cons _)).symm
abbrev RetP (P : Program) (f : FuncId) (args : Array Value) (w : World) (R Rp : Value → World → Prop) : Prop := Calls P f args w fun e w' => (∃ u, e = .returned u ∧ R u w') ∨ ∃ v, e = .panicked [{ v, recovered := false }] ∧ Rp v w'
theorem stp_pan {v : Value} (hg : o.guard = none) (hr : (execOp a.eval o).run P w = .halt (.panic v) w') (hq : Q (.panic [{ v, recovered := false }]) a w') : Stp P ops Q o K a w := by
  unfold Stp
  rw [if_pos (by simp [Region.wanted, hg])]
  unfold Oper.wp
  rw [hr, Oper.upon_panic]
  exact hq
theorem pan (h : Has ds N a l) (hx : ev l x = some (.iface t v)) (hq : Q (.panic [{ v := .iface t v, recovered := false }]) a w) : Stp P ops Q ⟨dst, .panic x, ty, pos, af, none⟩ K a w :=
  stp_pan rfl (by simp [execOp, h.ev hx, Instr.panic, goPanic, Sem.run_bind]) hq
theorem calP {f : FuncId} {xs : List Operand} {vs : List Value} {ats : Array TypeId} {R Rp : Value → World → Prop} (h : Has ds N a l) (hx : evs l xs = some vs) (hf : ∀ args w, (callFunc f args).run P w = .ok (.enter f args) w) (hc : RetP P f vs.toArray w R Rp)
    (k : ∀ u w', R u w' → ∀ a', Has ds N a' ((d, u) :: l) → K a' w') (kp : ∀ v w', Rp v w' → Q (.panic [{ v, recovered := false }]) a w') (hN : Nat.blt d N = true := by rfl) : Stp P ops Q ⟨some d, .call ⟨.value (.func f), xs.toArray, ats⟩, ty, pos, af, none⟩ K a w :=
  stp_enter h rfl hN rfl (run_call h hx hf) hc (fun u w' q a' h' => by
    rcases q with ⟨u', e, hR⟩ | ⟨v, e, -⟩
    · cases e; exact k u w' hR a' h'
    · cases e) (fun ch w' q => by
    rcases q with ⟨u', e, -⟩ | ⟨v, e, hR⟩
    · cases e
    · cases e; exact kp v w' hR) (fun w' q => by rcases q with ⟨u', e, -⟩ | ⟨v, e, -⟩ <;> cases e)
theorem calvP {f : FuncId} {z : Operand} {cap first : Array Value} {xs : List Operand} {vs : List Value} {ats : Array TypeId} {R Rp : Value → World → Prop} (h : Has ds N a l) (hz : ev l z = some (.func (.func f) first cap)) (hx : evs l xs = some vs) (hf : ∀ args w, (callFunc f args).run P w = .ok (.enter f args) w) (hc : RetP P f (first ++ vs.toArray ++ cap) w R Rp)
    (k : ∀ u w', R u w' → ∀ a', Has ds N a' ((d, u) :: l) → K a' w') (kp : ∀ v w', Rp v w' → Q (.panic [{ v, recovered := false }]) a w') (hN : Nat.blt d N = true := by rfl) : Stp P ops Q ⟨some d, .call ⟨.value z, xs.toArray, ats⟩, ty, pos, af, none⟩ K a w :=
  stp_enter h rfl hN rfl (run_callv h hz hx hf) hc (fun u w' q a' h' => by
    rcases q with ⟨u', e, hR⟩ | ⟨v, e, -⟩
    · cases e; exact k u w' hR a' h'
    · cases e) (fun ch w' q => by
    rcases q with ⟨u', e, -⟩ | ⟨v, e, hR⟩
    · cases e
    · cases e; exact kp v w' hR) (fun w' q => by rcases q with ⟨u', e, -⟩ | ⟨v, e, -⟩ <;> cases e)
theorem Has.defer (h : Has ds N a l) (dd : Deferred) : Has (dd :: ds) N { a with defers := dd :: a.defers } l := ⟨by rw [h.defs], h.size, h.get⟩
theorem dfr {f : FuncId} {cap : Array Value} {ats : Array TypeId} (h : Has ds N a l) (hz : ev l z = some (.func (.func f) #[] cap)) (k : ∀ a', Has (({ target := .fn (.func f) cap, args := #[] } : Deferred) :: ds) N a' l → K a' w) : Stp P ops Q ⟨none, .defer ⟨.value z, #[], ats⟩, ty, pos, af, none⟩ K a w := by
  unfold Stp
  rw [if_pos (by simp [Region.wanted])]
  unfold Oper.wp
  have hr : (execOp a.eval ⟨none, .defer ⟨.value z, #[], ats⟩, ty, pos, af, none⟩).run P w = .ok (.defer { target := .fn (.func f) cap, args := #[] }) w := by
    simp [execOp, resolve, h.ev hz, Deferred.ofValue, Sem.run_bind]
  rw [hr, Oper.upon_defer]
  exact k _ (h.defer _)
theorem enterD {f : FuncId} {fn : Func} {cd : Code} {args : Array Value} {R : Ending → World → Prop} (hf : P.funcs[f]? = some fn) (hb : fn.body = some cd) (hn : fn.ntmps = N) (hs : Nat.ble args.size N = true)
    (h : ∀ a, Has [] N a (alFrom 0 args.toList) → cd.wp P (bodyPostD P fn R) a w) : Calls P f args w R := by
  refine calls_of_wp_defers hf hb (h _ ⟨rfl, ?_, fun t v hv => ?_⟩)
  · have hs' : args.size ≤ N := by simpa [Nat.ble_eq] using hs
    simp [hn]; omega
  · obtain ⟨_, h2⟩ := look_alFrom _ _ _ _ hv
    have h3 : args[t]? = some v := by simpa using h2
    have hlt : t < args.size := (Array.getElem?_eq_some_iff.1 h3).1
    simp [Array.getElem?_append, hlt]
    exact (Array.getElem?_eq_some_iff.1 h3).2
theorem door {fn : Func} {R : Ending → World → Prop} {f : FuncId} {cap : Array Value} {m : FrameMode} {G : World → Prop} (h : Has [({ target := .fn (.func f) cap, args := #[] } : Deferred)] N a l) (hm : m ≠ .run) (hen : ∀ args w, (callFunc f args).run P w = .ok (.enter f args) w)
    (hc : CallsD P f cap m w fun e u' w' => (∃ v, e = .returned v) ∧ settle u' = .returning ∧ G w') (k : ∀ w', G w' → ∃ v, (results fn a.tmps).run P w' = .ok v w' ∧ R (.returned v) w') : Leaves P fn a.tmps R a.defers m w := by
  rw [h.defs]
  refine ⟨hm, .func f, cap, f, cap, rfl, by simp [invoke, hen], ?_⟩
  intro c cs hcm
  obtain ⟨e, u', w', fr, ⟨⟨v, rfl⟩, h2, h3⟩, h4⟩ := hc c cs hcm
  refine ⟨.returned v, u', w', fr, ?_, h4⟩
  show Leaves P fn a.tmps R [] (settle u') w'
  rw [h2]
  exact k w' h3
theorem enterR {f : FuncId} {fn : Func} {cd : Code} {args : Array Value} {G : World → Prop} {id d : Nat} {ats : Array TypeId} (v : Option Value) (hf : P.funcs[f]? = some fn) (hb : fn.body = some (.seq (.region id #[⟨some d, .call ⟨.builtin .recover, #[], ats⟩, ty, pos, af, none⟩] false) cd)) (hn : fn.ntmps = N) (hs : Nat.ble args.size N = true) (hd : Nat.blt d N = true) (hres : fn.results = #[])
    (h : ∀ a, Has [] N a ((d, v.getD .nilIface) :: alFrom 0 args.toList) → cd.wp P (fun e a w => (e = .normal ∨ e = .ret) ∧ a.defers = [] ∧ G w) a w) :
    CallsD P f args (match v with | some v => .panicking [{ v, recovered := false }] | none => .returning) w fun e u' w' => (∃ v, e = .returned v) ∧ settle u' = .returning ∧ G w' := by
  refine callsD_of_wpS hf hb fun c₀ cs hu => ?_
  have h0 : Has [] N { tmps := args ++ Array.replicate (fn.ntmps - args.size) undef, defers := [] } (alFrom 0 args.toList) := by
    refine ⟨rfl, ?_, fun t v hv => ?_⟩
    · have hs' : args.size ≤ N := by simpa [Nat.ble_eq] using hs
      simp [hn]; omega
    · obtain ⟨_, h2⟩ := look_alFrom _ _ _ _ hv
      have h3 : args[t]? = some v := by simpa using h2
      have hlt : t < args.size := (Array.getElem?_eq_some_iff.1 h3).1
      simp [Array.getElem?_append, hlt]
      exact (Array.getElem?_eq_some_iff.1 h3).2
  have hr : ∀ a : Act, (execOp a.eval ⟨some d, .call ⟨.builtin .recover, #[], ats⟩, ty, pos, af, none⟩).run P w = .ok .recover w := fun a => by
    simp [execOp, resolve, invoke, builtin, Sem.run_bind]
  apply wpS_seq
  apply wpS_region
  have hend : ∀ (a : Act) (u' : FrameMode), settle u' = .returning → Has [] N a ((d, v.getD .nilIface) :: alFrom 0 args.toList) → cd.wpS P (bodyPostS P fn c₀ cs fun e u' w' => (∃ v, e = .returned v) ∧ settle u' = .returning ∧ G w') a ({ c₀ with mode := u' } :: cs) w := fun a u' hu' ha => by
    refine wpS_of_wp (Code.wp_mono (fun e a w q => ?_) (h a ha))
    obtain ⟨he, hd, hG⟩ := q
    rcases he with rfl | rfl
    · exact ⟨hd, u', rfl, .tuple #[], results_none hres _ _ _, ⟨_, rfl⟩, hu', hG⟩
    · exact ⟨hd, u', rfl, .tuple #[], results_none hres _ _ _, ⟨_, rfl⟩, hu', hG⟩
  cases v with
  | none =>
    have hrec : recoverD (c₀ :: cs) = none := by simp [recoverD, hu]
    show wpOpsS P _ _ [0] _ _ _
    simp only [wpOpsS, List.getElem?_toArray, List.getElem?_cons_zero, Region.wanted, hr, hrec, if_true]
    have := hend _ .returning rfl (h0.put hd .nilIface)
    have hc : ({ c₀ with mode := .returning } : Frame) = c₀ := by
      cases c₀; simp only at hu; subst hu; rfl
    rw [hc] at this
    exact this
  | some v =>
    have hrec : recoverD (c₀ :: cs) = some (v, { c₀ with mode := .panicking [{ v, recovered := true }] } :: cs) := by simp [recoverD, hu]
    show wpOpsS P _ _ [0] _ _ _
    simp only [wpOpsS, List.getElem?_toArray, List.getElem?_cons_zero, Region.wanted, hr, hrec, if_true]
    exact hend _ _ rfl (h0.put hd v)
theorem Stp.put (h : Stp P ops Q o K a w) : Stp P ops Q o (fun a' w' => K a' w' ∧ ∀ t, o.dst ≠ some t → a'.tmps[t]? = a.tmps[t]?) a w := by
  have kp : ∀ (v : Value) (a0 : Act), a0.tmps = a.tmps → ∀ t, o.dst ≠ some t → (a0.put o.dst v).tmps[t]? = a.tmps[t]? := by
    intro v a0 h0 t ht
    cases hd : o.dst with
    | none => simp [Act.put, h0]
    | some d =>
      have : d ≠ t := fun e => ht (by rw [hd, e])
      simp [Act.put, h0, this]
  unfold Stp at *
  split
  · rename_i hw
    rw [if_pos hw] at h
    unfold Oper.wp at *
    generalize (execOp a.eval o).run P w = z at h
    cases z with
    | ok n w' =>
      cases n <;> simp only [Oper.upon] at h ⊢
      case value u => exact ⟨h, kp _ _ rfl⟩
      case skip => exact ⟨h, kp _ _ rfl⟩
      case defer dd => exact ⟨h, kp _ _ rfl⟩
      case enter f args =>
        refine h.mono fun e w' q => ?_
        cases e with
        | returned u => exact ⟨q, kp _ _ rfl⟩
        | panicked ch => exact q
        | outgrown => exact q
      case row rw args =>
        intro c cs
        obtain ⟨v, w', hR, hs⟩ := h c cs
        exact ⟨v, w', ⟨hR, kp _ _ rfl⟩, hs⟩
    | halt x w' =>
      cases x <;> simp only [Oper.upon] at h ⊢
      case panic => exact h
  · rename_i hw
    rw [if_neg hw] at h
    exact ⟨h, kp _ _ rfl⟩
theorem countP_lt {p q : Nat → Bool} : ∀ {l : List Nat}, (∀ x ∈ l, q x = true → p x = true) → ∀ {y}, y ∈ l → p y = true → q y = false → l.countP q < l.countP p
  | [], _, y, hy, _, _ => by cases hy
  | x :: r, h, y, hy, hp, hq => by
    have hm : r.countP q ≤ r.countP p := List.countP_mono_left (fun z hz => h z (List.mem_cons_of_mem _ hz))
    rw [List.countP_cons, List.countP_cons]
    rcases List.mem_cons.1 hy with rfl | hy
    · simp [hp, hq]; omega
    · have := countP_lt (fun z hz => h z (List.mem_cons_of_mem _ hz)) hy hp hq
      have hx := h x List.mem_cons_self
      cases h1 : q x <;> cases h2 : p x <;> simp_all <;> omega
theorem anyF {l0 : AL} (D : Nat → Nat) (F : Nat → Value → World → Prop) (hops : ∀ i o, ops[i]? = some o → o.dst = some (D i)) (hinj : ∀ i j, i < ops.size → j < ops.size → D i = D j → i = j)
    (hback : ∀ i o, ops[i]? = some o → ∀ e ∈ o.after, Region.binds .any e = true → e.on < i) (hst : ∀ i v w w', Below w.heap.size w w' → F i v w → F i v w')
    (step : ∀ i o, ops[i]? = some o → ∀ a w, Has ds N a l0 → Hp c w0 w hl → (∀ e ∈ o.after, Region.binds .any e = true → ∃ v, a.tmps[D e.on]? = some v ∧ F e.on v w) → Stp P ops Q o (fun a' w' => Below w.heap.size w w' ∧ Hp c w0 w' hl ∧ Has ds N a' l0 ∧ ∃ v, a'.tmps[D i]? = some v ∧ F i v w') a w)
    (done : ∀ a w, Has ds N a l0 → Hp c w0 w hl → (∀ i < ops.size, ∃ v, a.tmps[D i]? = some v ∧ F i v w) → Q .normal a w) :
    ∀ (n : Nat) (li : Array Bool) (a : Act) (w : World), li.size = ops.size → (List.range ops.size).countP (fun i => !(li.getD i true)) ≤ n → Has ds N a l0 → Hp c w0 w hl → (∀ i < ops.size, li.getD i true = true → ∃ v, a.tmps[D i]? = some v ∧ F i v w) → wpAnyH P .any ops Q (fun W => Hp c w0 W hl) n li a w := by
  have all : ∀ li : Array Bool, li.size = ops.size → Region.ready .any ops li = [] → ∀ i < ops.size, li.getD i true = true := by
    intro li hs hr i
    induction i using Nat.strongRecOn with
    | _ i ih =>
      intro hi
      cases hb : li.getD i true with
      | true => rfl
      | false =>
        exfalso
        have : i ∈ Region.ready .any ops li := mem_ready.2 ⟨hb, ops[i], Array.getElem?_eq_getElem hi, fun e he hbd => by
          have hlt := hback i _ (Array.getElem?_eq_getElem hi) e he hbd
          have := ih e.on hlt (by omega)
          simp only [Array.getD_eq_getD_getElem?] at this ⊢
          rw [Array.getElem?_eq_getElem (by omega : e.on < li.size)] at this ⊢
          exact this⟩
        rw [hr] at this
        cases this
  intro n
  induction n with
  | zero =>
    intro li a w hs hn h hp hF
    have hall : ∀ i < ops.size, li.getD i true = true := by
      intro i hi
      cases hb : li.getD i true with
      | true => rfl
      | false =>
        have : 0 < (List.range ops.size).countP (fun i => !(li.getD i true)) := List.countP_pos_iff.2 ⟨i, List.mem_range.2 hi, by simp [hb]⟩
        omega
    refine ⟨?_, done a w h hp fun i hi => hF i hi (hall i hi)⟩
    cases hr : Region.ready .any ops li with
    | nil => rfl
    | cons i r =>
      have hi : i ∈ Region.ready .any ops li := by rw [hr]; simp
      obtain ⟨h1, o, h2, -⟩ := mem_ready.1 hi
      rw [hall i (Array.getElem?_eq_some_iff.1 h2).1] at h1
      cases h1
  | succ n ih =>
    intro li a w hs hn h hp hF
    refine ⟨fun hr => done a w h hp fun i hi => hF i hi (all li hs hr i hi), fun i hi => ?_⟩
    obtain ⟨h1, o, h2, h3⟩ := mem_ready.1 hi
    have hlt := (Array.getElem?_eq_some_iff.1 h2).1
    unfold wpOp
    rw [h2]
    refine Stp.or ?_
    have hdeps : ∀ e ∈ o.after, Region.binds .any e = true → ∃ v, a.tmps[D e.on]? = some v ∧ F e.on v w := fun e he hb => by
      have h4 := h3 e he hb
      have h5 := hback i o h2 e he hb
      refine hF e.on (by omega) ?_
      simp only [Array.getD_eq_getD_getElem?] at h4 ⊢
      rw [Array.getElem?_eq_getElem (by omega : e.on < li.size)] at h4 ⊢
      exact h4
    have hst' := (step i o h2 a w h hp hdeps).put
    have mono : ∀ {K K' : Act → World → Prop}, Stp P ops Q o K a w → (∀ a w, K a w → K' a w) → Stp P ops Q o K' a w := by
      intro K K' hk hkk
      unfold Stp at *
      split
      · rename_i hw; rw [if_pos hw] at hk; exact Oper.wp_mono hkk hk
      · rename_i hw; rw [if_neg hw] at hk; exact hkk _ _ hk
    refine mono hst' ?_
    rintro a' w' ⟨⟨hb, hp', h', v, hv, hFv⟩, hkeep⟩
    refine ⟨hp', ih (li.setIfInBounds i true) a' w' (by simpa using hs) ?_ h' hp' ?_⟩
    · have : (List.range ops.size).countP (fun j => !((li.setIfInBounds i true).getD j true)) < (List.range ops.size).countP (fun j => !(li.getD j true)) := by
        refine countP_lt (fun j _ hj => ?_) (List.mem_range.2 hlt) (by rw [h1]; rfl) ?_
        · by_cases hji : i = j
          · subst hji; rw [h1]; rfl
          · rwa [getD_set_ne true hji] at hj
        · simp [Array.getD_eq_getD_getElem?, hs, hlt]
      omega
    · intro j hj hl
      by_cases hji : i = j
      · subst hji; exact ⟨v, hv, hFv⟩
      · rw [getD_set_ne true hji] at hl
        obtain ⟨u, hu, hFu⟩ := hF j hj hl
        refine ⟨u, ?_, hst j u w w' hb hFu⟩
        rw [hkeep (D j) (fun e => hji (by rw [hops i o h2] at e; exact hinj i j hlt hj (Option.some.inj e)))]
        exact hu
end Go.Proofs.Sx
end
section
namespace Go.Proofs.Sx
open Go.RowKit
variable {r : Option Nat} {ds : List Deferred} {P : Program} {ops : Array Oper} {Q : Exit → Act → World → Prop} {K : Act → World → Prop} {N : Nat} {a : Act} {l : AL} {w w' w0 : World} {c : Cx} {hl : HL} {u v : Value} {S : World → Prop} {o : Oper} {rest : List Oper}
variable {x y z : Operand} {dst : Option Nat} {d t t1 t2 g off : Nat} {ty : Nat} {pos : String} {af : Array Edge} {gd : Option (Nat × Bool)} {cs : Array Value} {t' : TypeId} {fr : Nat × Nat}
variable {α : Type} {enc : α → List Value} {sz : Nat} {ys : List α}
theorem Hp.toC0 {encm : Int → List Value} {b : Nat} (h : Hp (cM encm b) w0 w hl) (hb : w0.heap.size ≤ b) : Hp c0 w0 w hl :=
  Hp.of ⟨h.ext.os, h.ext.tape, h.ext.output, h.ext.size, fun k hk hs => h.ext.block k hk (fun e => by have e : k = b := e; omega)⟩ trivial
    (fun p hp => ⟨(h.at' hp).1, (h.at' hp).2.1, fun k hk => ⟨((h.at' hp).2.2 k hk).1, ((h.at' hp).2.2 k hk).2.1, id⟩⟩) h.ne
theorem Hp.b2r {e n : Nat} {xs : List Value} (h : Hp c w0 w (.buf e sz v n xs :: hl)) (hx : xs = ys.flatMap enc) (hn : n = ys.length) (he : ∀ y ∈ ys, (enc y).length = sz) (h0 : 0 < sz) : Hp c w0 w (rdE enc sz v ys :: hl) := by
  have hm := h.at' (p := .buf e sz v n xs) (by simp)
  have hne := List.pairwise_cons.1 h.ne
  have hr := own_rd (enc := enc) (ys := ys) hm.2.1 hx hn he
  have hD : ∀ k, (rdE enc sz v ys).D k → (En.buf e sz v n xs).D k := by
    rintro k ⟨hl, rfl⟩
    have hm2 : w.ownsRow w0.heap.size e sz v n xs := hm.2.1
    rcases hm2.2 with ⟨rfl, h0'⟩ | ⟨g, cap, cur, rfl, -⟩
    · omega
    · rfl
  refine Hp.of h.ext h.inv (fun p hp => ?_) ?_
  · rcases List.mem_cons.1 hp with rfl | hp
    · exact ⟨fun w1 w2 hb hr => Rd.same hr fun hl => hb _ ⟨hl, rfl⟩, hr.1, fun k hk => hm.2.2 k (hD k hk)⟩
    · exact h.at' (List.mem_cons_of_mem _ hp)
  · rw [List.pairwise_cons]
    exact ⟨fun q hq k hk => hne.1 q hq k (hD k hk), hne.2⟩
theorem ownsRow_mono {b b' e n : Nat} {xs : List Value} (h : w.ownsRow b e sz v n xs) (hb : b' ≤ b) : w.ownsRow b' e sz v n xs := by
  refine ⟨h.1, ?_⟩
  rcases h.2 with h | ⟨g, cap, cur, h1, h2, h3⟩
  · exact .inl h
  · exact .inr ⟨g, cap, cur, h1, Nat.le_trans hb h2, h3⟩
theorem Hp.gotB {e n : Nat} {xs : List Value} (h : Hp c w0 w hl) (h' : Hp c w0 w' hl) (ho : w'.ownsRow w.heap.size e sz v n xs) : Hp c w0 w' (hl ++ [.buf e sz v n xs]) :=
  h.made h' (q := .buf e sz v n xs) trivial (ownsRow_mono ho h.size) (fun k hk => ho.lt k hk)
theorem bsl0 {e by_ : Nat} (h : Has ds N a l) (hp : Hp c w0 w hl) (ht : apT P t = some (e, sz, by_))
    (k : ∀ a' w' g, Has ds N a' ((d, .slice (some ⟨g, 0, none⟩) 0 0) :: l) → Hp c w0 w' (hl ++ [.buf e sz (.slice (some ⟨g, 0, none⟩) 0 0) 0 []]) → K a' w') (hN : Nat.blt d N = true := by rfl) :
    Stp P ops Q ⟨some d, .buildSlice t 0 #[], ty, pos, af, none⟩ K a w := by
  obtain ⟨hu, ti, zv, hq, hz, h2, h3, h4, h5⟩ := apT_eq ht
  have hr : (execOp a.eval ⟨some d, .buildSlice t 0 #[], ty, pos, af, none⟩).run P w = .ok (.value (.slice (some ⟨w.heap.size, 0, none⟩) 0 0)) (w.alloc (.cells #[] e)) := by
    have e0 : (#[] : Array (Nat × Value)).foldl (fun n p => max n (p.1 + 1)) 0 = 0 := rfl
    simp [execOp, Instr.buildSlice, run_underlying hu, sizeOf, typeInfo, hq, hz, Sem.run_bind, Instr.fill, newRow, newObj, Sem.run, h3]
    simp [show Array.range 0 = #[] from by simp]
  refine stp_val h rfl hN rfl hr (fun a' h' => k a' _ _ h' ?_)
  have hb : Hp c w0 (w.alloc (.cells #[] e)) hl := hp.below ((Below.refl _ _).alloc (Nat.le_refl _) _)
  exact hp.gotB hb ⟨by simp, .inr ⟨_, 0, #[], rfl, Nat.le_refl _, heap_alloc_new w _, Nat.le_refl _, Nat.zero_le _, by simp, by simp⟩⟩
theorem eqSN {e n cp : Nat} {A : Option Addr} (h : Has ds N a l) (hx : ev l x = some (.slice A n cp)) (ht : P.underlying t1 = some (.slice e)) : (execOp a.eval ⟨dst, .binOp .eql t1 x (.const (.slice none 0 0)) t2, ty, pos, af, gd⟩).run P w = .ok (.value (.bool A.isNone)) w := by
  have h1 : Sem.run P (Op.equalIn (Op.maxDepth - 1 + 1) t1 (.slice A n cp) (.slice none 0 0)) w = .ok A.isNone w := by
    unfold Op.equalIn
    cases A <;> simp [Sem.run_bind, run_underlying ht]
  rw [show Op.maxDepth - 1 + 1 = Op.maxDepth from rfl] at h1
  have hy : a.eval (.const (.slice none 0 0)) = .slice none 0 0 := rfl
  simp only [execOp, h.ev hx, hy, eqGuard, binOp, Op.equal, Sem.run_bind]
  simp [h1]
theorem appR {e by_ n m cp : Nat} {xs : List Value} {A : Addr} {v2 : Value} (i : Nat) (h : Has ds N a l) (hp : Hp c w0 w hl) (hx : ev l x = some v) (hy : ev l y = some v2) (hi : nth hl i = some (.buf e sz v n xs)) (ht : apT P t = some (e, sz, by_))
    (hv : Rd w enc sz v2 ys) (hA : v2 = .slice (some A) m cp) (h1 : ∀ y, ∀ u ∈ enc y, u.oneCell' = true) (h63 : n + ys.length ≤ 9223372036854775807) (hby : (n + ys.length) * by_ ≤ 140737488355328)
    (k : ∀ a' w' (s : SV), Has ds N a' ((d, s.v) :: l) → Hp c w0 w' (hl.set i (.buf e sz s.v (n + ys.length) (xs ++ ys.flatMap enc))) → K a' w') (hN : Nat.blt d N = true := by rfl) :
    Stp P ops Q ⟨some d, .call ⟨.builtin .append, #[x, y], #[t, t]⟩, ty, pos, af, none⟩ K a w := by
  obtain ⟨A', cp', hv', hcp, hA'⟩ := hv.sl
  have hm : m = ys.length ∧ some A = A' := by
    rw [hA] at hv'
    cases hv'
    exact ⟨rfl, rfl⟩
  obtain ⟨rfl, hAA⟩ := hm
  refine app i h hp hx (hy.trans (congrArg some hA)) hi ht (news := ys.flatMap enc) (flat_len hv.len) (fun j u hj => ?_) (fun u hu => ?_) h63 hby k hN
  · have h0 : 0 < ys.length := by
      cases ys with
      | nil => simp at hj
      | cons y r => simp
    have hA2 := hA' h0
    rw [← hAA] at hA2
    obtain rfl : A = ⟨bk v2, of v2, none⟩ := by simpa using hA2
    rw [Go.WideShapes.add_plain]
    obtain ⟨h2, h3⟩ := List.getElem?_eq_some_iff.1 hj
    rw [flat_len hv.len] at h2
    have hz : 0 < sz := by
      rcases Nat.eq_zero_or_pos sz with e | e
      · subst e; simp at h2
      · exact e
    have hi2 : j / sz < ys.length := Nat.div_lt_of_lt_mul (by rwa [Nat.mul_comm] at h2)
    have hy2 : ys[j / sz]? = some ys[j / sz] := List.getElem?_eq_getElem hi2
    have hl2 := hv.len _ (List.getElem_mem hi2)
    have hm2 : j % sz < (enc ys[j / sz]).length := by rw [hl2]; exact Nat.mod_lt _ hz
    have hu2 : (enc ys[j / sz])[j % sz]? = some (enc ys[j / sz])[j % sz] := List.getElem?_eq_getElem hm2
    have h4 := flat_at hv.len (j / sz) _ (j % sz) _ hy2 hu2
    have hjj : j / sz * sz + j % sz = j := by rw [Nat.mul_comm]; exact Nat.div_add_mod j sz
    rw [hjj, hj] at h4
    have h5 := hv.cell (j / sz) _ (j % sz) _ hy2 hu2
    rw [Nat.add_assoc, hjj, ← h4] at h5
    exact h5
  · obtain ⟨y, -, hu⟩ := List.mem_flatMap.1 hu
    exact h1 y u hu
def eqT (P : Program) (t : TypeId) (vx vy : Value) (b : Bool) : Prop := ∀ w, (Op.equalIn Op.maxDepth t vx vy).run P w = .ok b w
theorem neS {xs ys : Array Value} {b : Bool} (h : Has ds N a l) (hx : ev l x = some (.agg xs)) (hy : ev l y = some (.agg ys)) (hg : P.eqGuardType P.depth t1 = false) (he : eqT P t1 (.agg xs) (.agg ys) b) : (execOp a.eval ⟨dst, .binOp .neq t1 x y t2, ty, pos, af, gd⟩).run P w = .ok (.value (.bool (!b))) w := by
  simp only [execOp, h.ev hx, h.ev hy, eqGuard, binOp, Op.equal, Sem.run_bind]
  simp [hg, he w, program, Sem.run]
theorem sadd {s1 s2 : ByteArray} (h : Has ds N a l) (hx : ev l x = some (.string s1)) (hy : ev l y = some (.string s2)) (hs : s1.size + s2.size ≤ 9223372036854775807) : (execOp a.eval ⟨dst, .binOp .add t1 x y t2, ty, pos, af, gd⟩).run P w = .ok (.value (.string (s1 ++ s2))) w := by
  simp [execOp, h.ev hx, h.ev hy, eqGuard, Sem.run_bind, binOp_string_add, run_string_add_sum w s1 s2 hs]
theorem seql {s1 s2 : ByteArray} (h : Has ds N a l) (hx : ev l x = some (.string s1)) (hy : ev l y = some (.string s2)) : (execOp a.eval ⟨dst, .binOp .eql t1 x y t2, ty, pos, af, gd⟩).run P w = .ok (.value (.bool (s1.data.toList == s2.data.toList))) w := by
  simp [execOp, h.ev hx, h.ev hy, eqGuard, Sem.run_bind, binOp_string_eql, ByteArray.toList_eq]
theorem sneq {s1 s2 : ByteArray} (h : Has ds N a l) (hx : ev l x = some (.string s1)) (hy : ev l y = some (.string s2)) : (execOp a.eval ⟨dst, .binOp .neq t1 x y t2, ty, pos, af, gd⟩).run P w = .ok (.value (.bool (!(s1.data.toList == s2.data.toList)))) w := by
  simp [execOp, h.ev hx, h.ev hy, eqGuard, Sem.run_bind, binOp_string_neq, ByteArray.toList_eq]
theorem sidx {s : ByteArray} {k : IntKind} {j : Int} {i : Nat} {c : UInt8} (h : Has ds N a l) (hx : ev l x = some (.string s)) (hy : ev l y = some (.int k j)) (ht : P.underlying t = some .string) (hj : j = i) (hc : s.data.toList[i]? = some c) : (execOp a.eval ⟨dst, .index t x y, ty, pos, af, gd⟩).run P w = .ok (.value (.int .u8 c.toNat)) w := by
  subst hj
  have hlt : i < s.size := by
    have := (List.getElem?_eq_some_iff.1 hc).1
    rw [Array.length_toList] at this
    exact this
  have e1 : s[i]'hlt = c := by
    have := (List.getElem?_eq_some_iff.1 hc).2
    rw [← this]
    rfl
  simp only [execOp, h.ev hx, h.ev hy, Sem.run_bind, run_index_string w t s k i ht]
  rw [dif_pos ⟨by omega, by omega⟩]
  simp [e1]
theorem cvi {k k' : IntKind} {n : Int} (h : Has ds N a l) (hx : ev l x = some (.int k' n)) (hs : (P.underlying t1).isSome = true) (ht : P.underlying t2 = some (.int k)) : (execOp a.eval ⟨dst, .convert t1 t2 x, ty, pos, af, gd⟩).run P w = .ok (.value (.int k (k.wrap n))) w := by
  cases hu : P.underlying t1 with
  | none => simp [hu] at hs
  | some dd => simp [execOp, h.ev hx, convert, Sem.run_bind, run_underlying hu, run_underlying ht, Conv.intToInt]
theorem rd_cut {ys : List α} (h : Rd w enc sz v ys) {i j : Nat} (hij : i ≤ j) (hj : j ≤ ys.length) : ∃ A n cp cp', v = .slice A n cp ∧ n = ys.length ∧ j ≤ cp ∧ Rd w enc sz (.slice (if cp - i = 0 then A else A.map (·.add (i * sz))) (j - i) cp') ((ys.drop i).take (j - i)) ∧ cp' = cp - i := by
  obtain ⟨A, cp, hv, hcp, hA⟩ := h.sl
  refine ⟨A, ys.length, cp, cp - i, hv, rfl, by omega, ?_, rfl⟩
  have hlen : ((ys.drop i).take (j - i)).length = j - i := by rw [List.length_take, List.length_drop]; omega
  by_cases h0 : ys.length = 0
  · have : ys = [] := List.eq_nil_of_length_eq_zero h0
    subst this
    simp at hj
    subst hj
    simp at hij
    subst hij
    refine ⟨⟨_, cp, rfl, by simp, fun h => by simp at h⟩, by simp, by simp, by simp⟩
  · have hA' := hA (by omega)
    generalize hbk : bk v = B at hA'
    generalize hof : of v = O at hA'
    by_cases hc0 : cp - i = 0
    · have hj0 : j - i = 0 := by omega
      have hl0 : ((ys.drop i).take (j - i)) = [] := by rw [hj0, List.take_zero]
      rw [hl0, hj0, if_pos hc0]
      exact ⟨⟨_, cp - i, rfl, by simp, fun h => by simp at h⟩, by simp, by simp, by simp⟩
    · rw [if_neg hc0, hA', Option.map_some, Go.WideShapes.add_plain]
      refine ⟨⟨_, cp - i, by rw [hlen]; rfl, by rw [hlen]; omega, fun hl => rfl⟩, by rw [hlen]; have := h.fits; omega, fun y hy => h.len y (List.mem_of_mem_drop (List.mem_of_mem_take hy)), fun m y k u hy hu => ?_⟩
      have hm : m < j - i := by
        have := (List.getElem?_eq_some_iff.1 hy).1
        omega
      rw [List.getElem?_take, if_pos hm, List.getElem?_drop] at hy
      have h9 := h.cell (i + m) y k u hy hu
      rw [hbk, hof, Nat.add_mul, ← Nat.add_assoc] at h9
      exact h9
end Go.Proofs.Sx
end
section
namespace Go.Proofs.Sx
open Go.RowKit
variable {ds : List Deferred} {P : Program} {ops : Array Oper} {Q : Exit → Act → World → Prop} {K : Act → World → Prop} {N : Nat} {a : Act} {l l0 : AL} {w w' w0 : World} {c : Cx} {hl : HL}
inductive FK where
  | val (v : Value)
  | arr (n : Nat) (cs : Array Value) (t : TypeId)
def FK.F : FK → Value → World → Prop
  | .val u, v, _ => v = u
  | .arr n cs t, v, w => ∃ g, v = .slice (some ⟨g, 0, none⟩) n n ∧ w.heap[g]? = some (.cells cs t (0, 0))
theorem FK.below {k : FK} {v : Value} (h : k.F v w) (hb : Below w.heap.size w w') : k.F v w' := by
  cases k with
  | val u => exact h
  | arr n cs t =>
    obtain ⟨g, h1, h2⟩ := h
    exact ⟨g, h1, (hb.block g (Array.getElem?_eq_some_iff.1 h2).1).trans h2⟩
def kF (ks : List FK) (i : Nat) (v : Value) (w : World) : Prop := match nth ks i with
  | some k => k.F v w
  | none => True
def kD (ts : List Nat) (i : Nat) : Nat := (nth ts i).getD 0
def AllOps (X : Nat → Oper → Prop) : Nat → List Oper → Prop
  | _, [] => True
  | k, o :: r => X k o ∧ AllOps X (k + 1) r
theorem allOps {X : Nat → Oper → Prop} : ∀ {L : List Oper} {k : Nat}, AllOps X k L → ∀ i o, L[i]? = some o → X (k + i) o
  | [], _, _, i, o, h => by simp at h
  | x :: r, k, h, 0, o, ho => by simp at ho; subst ho; exact h.1
  | x :: r, k, h, i + 1, o, ho => by
    have := allOps h.2 i o (by simpa using ho)
    rwa [show k + 1 + i = k + (i + 1) from by omega] at this
def Deps (X : Nat → Prop) : List Edge → Prop
  | [] => True
  | e :: r => (Region.binds .any e = true → X e.on) ∧ Deps X r
theorem deps {X : Nat → Prop} : ∀ {L : List Edge}, (∀ e ∈ L, Region.binds .any e = true → X e.on) → Deps X L
  | [], _ => trivial
  | e :: r, h => ⟨h e List.mem_cons_self, deps fun x hx => h x (List.mem_cons_of_mem _ hx)⟩
theorem Has.also {t : Nat} {v : Value} (h : Has ds N a l) (hv : a.tmps[t]? = some v) : Has ds N a ((t, v) :: l) := by
  refine ⟨h.defs, h.size, fun n u hu => ?_⟩
  simp only [look] at hu
  by_cases e : t = n
  · subst e
    rw [show Nat.beq t t = true from Nat.beq_refl t] at hu
    simp only [cond_true, Option.some.injEq] at hu
    rw [← hu]
    exact hv
  · rw [show Nat.beq t n = false from by cases hb : Nat.beq t n with | false => rfl | true => exact absurd (Nat.eq_of_beq_eq_true hb) e] at hu
    exact h.get n u hu
def chkD (ts : List Nat) (L : List Oper) : Bool := (L.map (·.dst)) == ts.map some
def chkB (L : List Oper) : Bool := (List.range L.length).all fun i => match L[i]? with
  | some o => o.after.toList.all fun e => !(Region.binds .any e) || Nat.blt e.on i
  | none => true
abbrev StepF (P : Program) (ops : Array Oper) (Q : Exit → Act → World → Prop) (N : Nat) (ds : List Deferred) (l0 : AL) (c : Cx) (w0 : World) (hl : HL) (ts : List Nat) (ks : List FK) (i : Nat) (o : Oper) : Prop :=
  ∀ a w, Has ds N a l0 → Hp c w0 w hl → Deps (fun j => ∃ v, a.tmps[kD ts j]? = some v ∧ kF ks j v w) o.after.toList → Stp P ops Q o (fun a' w' => Below w.heap.size w w' ∧ Has ds N a' l0 ∧ ∃ v, a'.tmps[kD ts i]? = some v ∧ kF ks i v w') a w
theorem rdF {id n : Nat} {L : List Oper} {z : Code} (ts : List Nat) (ks : List FK) (l0 : AL) (h : Has ds N a l) (hs : Sub l l0) (hp : Hp c w0 w hl) (hm : P.follows .mixedOrders = true) (hn : L.toArray.size = n) (h1 : chkD ts L = true) (hnd : ts.Nodup) (h2 : chkB L = true)
    (step : AllOps (StepF P L.toArray (Exit.then (z.wp P Q) Q) N ds l0 c w0 hl ts ks) 0 L)
    (done : ∀ a w, Has ds N a l0 → Hp c w0 w hl → (∀ i < n, ∃ v, a.tmps[kD ts i]? = some v ∧ kF ks i v w) → z.wp P Q a w) :
    (Code.seq (Code.region id L.toArray true) z).wp P Q a w := by
  subst hn
  refine rdh hp hm rfl ?_
  rw [chkD, beq_iff_eq] at h1
  have hsz : L.toArray.size = L.length := by simp
  have hlen : ts.length = L.length := by have := congrArg List.length h1; simpa using this.symm
  have hdst : ∀ i o, L[i]? = some o → o.dst = some (kD ts i) := by
    intro i o ho
    have := congrArg (·[i]?) h1
    simp only [List.getElem?_map, ho, Option.map_some] at this
    cases ht : ts[i]? with
    | none => rw [ht] at this; simp at this
    | some t =>
      rw [ht] at this
      simp only [Option.map_some, Option.some.injEq] at this
      rw [this, kD, nth_eq, ht]
      rfl
  refine anyF (l0 := l0) (kD ts) (kF ks) (fun i o ho => hdst i o (by simpa using ho)) ?_ ?_ (fun i v w w' hb hf => ?_) (fun i o ho a w h hp hd => ?_) (fun a w h hp hf => done a w h hp hf) _ _ _ _ (by simp) ?_ (h.sub hs) hp.drew ?_
  · intro i j hi hj e
    rw [hsz, ← hlen] at hi hj
    rw [kD, kD, nth_eq, nth_eq, List.getElem?_eq_getElem hi, List.getElem?_eq_getElem hj] at e
    have hne := List.pairwise_iff_getElem.1 hnd
    rcases Nat.lt_trichotomy i j with hlt | heq | hgt
    · exact absurd (show ts[i] = ts[j] from e) (hne i j hi hj hlt)
    · exact heq
    · exact absurd (show ts[j] = ts[i] from e.symm) (hne j i hj hi hgt)
  · intro i o ho e he hb
    have ho' : L[i]? = some o := by simpa using ho
    have hi : i < L.length := (List.getElem?_eq_some_iff.1 ho').1
    rw [chkB, List.all_eq_true] at h2
    have := h2 i (List.mem_range.2 hi)
    rw [ho'] at this
    simp only [List.all_eq_true] at this
    have := this e (by simpa using he)
    rw [hb, Bool.not_true, Bool.false_or, Nat.blt_eq] at this
    exact this
  · unfold kF at *
    cases hk : nth ks i with
    | none => trivial
    | some k => rw [hk] at hf; exact FK.below hf hb
  · have := allOps step i o (by simpa using ho)
    rw [Nat.zero_add] at this
    have hst := this a w h hp (deps fun e he hb => hd e (by simpa using he) hb)
    have mono : ∀ {K K' : Act → World → Prop}, Stp P L.toArray (Exit.then (z.wp P Q) Q) o K a w → (∀ a w, K a w → K' a w) → Stp P L.toArray (Exit.then (z.wp P Q) Q) o K' a w := by
      intro K K' hk hkk
      unfold Stp at *
      split
      · rename_i hw; rw [if_pos hw] at hk; exact Oper.wp_mono hkk hk
      · rename_i hw; rw [if_neg hw] at hk; exact hkk _ _ hk
    exact mono hst fun a' w' ⟨hb, h', hv⟩ => ⟨hb, hp.below hb, h', hv⟩
  · exact Nat.le_trans List.countP_le_length (by simp)
  · intro i hi hl
    simp [Array.getD_eq_getD_getElem?, show i < L.length by simpa using hi] at hl
theorem StepF.val {o : Oper} {d i : Nat} {v : Value} {ts : List Nat} {ks : List FK} {l' : AL} (h : Has ds N a l') (hrun : (execOp a.eval o).run P w = .ok (.value v) w) (hs : Sub ((d, v) :: l') l0) (hd : o.dst = some d) (hdi : kD ts i = d) (hN : Nat.blt d N = true) (hg : o.guard = none) (hf : kF ks i v w) :
    Stp P ops Q o (fun a' w' => Below w.heap.size w w' ∧ Has ds N a' l0 ∧ ∃ v, a'.tmps[kD ts i]? = some v ∧ kF ks i v w') a w :=
  stp_val h hd hN hg hrun fun a' h' => ⟨Below.refl _ _, h'.sub hs, v, by rw [hdi]; exact h'.get d v (by simp [look, show Nat.beq d d = true from Nat.beq_refl d]), hf⟩
variable {α : Type} {enc : α → List Value} {sz : Nat} {ys : List α} {v : Value} {x y z : Operand} {dst : Option Nat} {t ty e i j : Nat} {pos : String} {af : Array Edge} {gd : Option (Nat × Bool)}
def cutV (v : Value) (sz i j : Nat) : SV := match v with
  | .slice A _ cp => ⟨if cp = i then A else A.map (·.add (i * sz)), j - i, cp - i⟩
  | _ => ⟨none, 0, 0⟩
theorem Rd.cut (h : Rd w enc sz v ys) (hij : i ≤ j) (hj : j ≤ ys.length) : Rd w enc sz (cutV v sz i j).v ((ys.drop i).take (j - i)) := by
  obtain ⟨A, n, cp, cp', hv, hn, hc, hr, rfl⟩ := rd_cut h hij hj
  subst hv
  have e : (cp - i = 0) = (cp = i) := propext (by omega)
  simp only [e] at hr
  exact hr
theorem Rd.cutH (h : Rd w enc sz v ys) (hj : j ≤ ys.length) : Rd w enc sz (cutV v sz 0 j).v (ys.take j) := by
  have := h.cut (Nat.zero_le j) hj
  rwa [List.drop_zero, Nat.sub_zero] at this
theorem slcLH {k1 k2 : IntKind} {p q : Int} (i j : Nat) (h : Has ds N a l) (hx : ev l x = some v) (hy : ev l y = some (.int k1 p)) (hz : ev l z = some (.int k2 q)) (ht : P.underlying t = some (.slice e)) (hs : szT P e = some sz) (hr : Rd w enc sz v ys) (hp : p = i) (hq : q = j) (hij : i ≤ j) (hj : j ≤ ys.length) :
    (execOp a.eval ⟨dst, .slice t x (some y) (some z) none, ty, pos, af, gd⟩).run P w = .ok (.value (cutV v sz i j).v) w := by
  obtain ⟨A, cp, rfl, hcp, -⟩ := hr.sl
  subst hp hq
  have e1 : ((i : Int)) ≤ j := by omega
  have e2 : ((j : Int)) ≤ cp := by omega
  simp [execOp, h.ev hx, h.ev hy, h.ev hz, Instr.sliceAt, Instr.slice, Instr.sliceBounds, Instr.sliceBound, asIntOf, Sem.run_bind, run_underlying ht, run_sizeOf hs, show j ≤ cp from by omega, hij, cutV, SV.v]
theorem slcH {k2 : IntKind} {q : Int} (j : Nat) (h : Has ds N a l) (hx : ev l x = some v) (hz : ev l z = some (.int k2 q)) (ht : P.underlying t = some (.slice e)) (hs : szT P e = some sz) (hr : Rd w enc sz v ys) (hq : q = j) (hj : j ≤ ys.length) :
    (execOp a.eval ⟨dst, .slice t x none (some z) none, ty, pos, af, gd⟩).run P w = .ok (.value (cutV v sz 0 j).v) w := by
  obtain ⟨A, cp, rfl, hcp, -⟩ := hr.sl
  subst hq
  have e2 : ((j : Int)) ≤ cp := by omega
  simp [execOp, h.ev hx, h.ev hz, Instr.sliceAt, Instr.slice, Instr.sliceBounds, Instr.sliceBound, asIntOf, Sem.run_bind, run_underlying ht, run_sizeOf hs, show j ≤ cp from by omega, cutV, SV.v]
  try (intro hlt; omega)
end Go.Proofs.Sx
end
section
namespace Go.Proofs.Sx
open Go
variable {α : Type}
theorem addr_of {w : World} {a : Addr} {u : Value} (h : w.cell? a = some u) : a.spot = none := by
  unfold World.cell? at h
  split at h
  · split at h
    · cases h
    · rename_i hs
      simpa using hs
  · cases h
theorem cells_at {w : World} {base : Nat} {a : Addr} {n : Nat} {cs : List Value} (h : w.cells? base a n = some cs) : cs.length = n ∧ ∀ j, j < n → w.cell? (a.add j) = cs[j]? := by
  unfold World.cells? at h
  split at h
  · refine ⟨by simpa using mapM_some_length h, fun j hj => ?_⟩
    exact mapM_some_get h j j (by simp [hj])
  · cases h
theorem add_add {b o i j : Nat} : (Addr.add ⟨b, o, none⟩ i).add j = ⟨b, o + i + j, none⟩ := by
  unfold Addr.add
  split <;> split <;> simp_all
theorem rd_slice {P : Program} {H : Type} {enc : TypeId × Value → H} {w : World} {base : Nat} {sp : Nat → Bool} {held : Bool} {fuel : Nat} {t e : TypeId} {v : Value} {x : DataW H × List MemPlace} {encA : α → List Value} {sz : Nat} {R : α → Prop}
    (ht : P.underlying t = some (.slice e)) (hc : P.cellsOf e = sz) (h0 : 0 < sz) (hel : ∀ n cs y, DataW.trod enc P w base sp held n e cs = some y → cs.length = sz → ∃ z, cs = encA z ∧ R z)
    (h : DataW.trod enc P w base sp held fuel t [v] = some x) : ∃ ys : List α, Rd w encA sz v ys ∧ ∀ y ∈ ys, R y := by
  rcases DataW.trod_slice ht h with ⟨hv, -⟩ | ⟨a, len, cap, elems, rest, n, -, hv, -, -, hlc, hcm, hll, hi, -, -⟩
  · simp at hv
    subst hv
    exact ⟨[], Rd.nil, by simp⟩
  · simp at hv
    subst hv
    have hz : ∀ i : Fin len, ∃ z : α, w.cells? base (a.add (i.1 * sz)) sz = some (encA z) ∧ (encA z).length = sz ∧ R z := by
      intro i
      have h1 := hi i.1 i.2
      rw [hc] at h1
      have hlt : i.1 < elems.length := by omega
      rw [List.getElem?_eq_getElem hlt, Option.bind_eq_some_iff] at h1
      obtain ⟨cs, h2, h3⟩ := h1
      have h5 := (cells_at h2).1
      obtain ⟨z, rfl, h4⟩ := hel _ _ _ h3 h5
      exact ⟨z, h2, h5, h4⟩
    have hf := fun i => Classical.choose_spec (hz i)
    have hget : ∀ (i : Nat) (y : α), (List.ofFn fun i => Classical.choose (hz i))[i]? = some y → ∃ h : i < len, y = Classical.choose (hz ⟨i, h⟩) := by
      intro i y hy
      obtain ⟨h1, h2⟩ := List.getElem?_eq_some_iff.1 hy
      rw [List.length_ofFn] at h1
      exact ⟨h1, by rw [← h2, List.getElem_ofFn]⟩
    have hsp : 0 < len → a = ⟨a.block, a.off, none⟩ := by
      intro hl
      obtain ⟨z, h1, h2, -⟩ := hz ⟨0, hl⟩
      simp only [Nat.zero_mul] at h1
      have h4 := (cells_at h1).2 0 h0
      rw [List.getElem?_eq_getElem (by omega : 0 < (encA z).length)] at h4
      have h5 := addr_of h4
      obtain ⟨b, o, s⟩ := a
      simp [Addr.add] at h5
      rw [h5]
    refine ⟨List.ofFn fun i => Classical.choose (hz i), ⟨⟨some a, cap, by simp, by simpa using hlc, fun hl => by rw [hsp (by simpa using hl)]; rfl⟩, ?_, ?_, ?_⟩, ?_⟩
    · simp only [List.length_ofFn]
      unfold maxLen at hcm
      omega
    · intro y hy
      obtain ⟨i, hi'⟩ := List.mem_iff_getElem?.1 hy
      obtain ⟨h1, rfl⟩ := hget i y hi'
      exact (hf _).2.1
    · intro i y j u hy hu
      obtain ⟨h1, rfl⟩ := hget i y hy
      obtain ⟨h2, h3⟩ := cells_at (hf ⟨i, h1⟩).1
      obtain ⟨h4, -⟩ := List.getElem?_eq_some_iff.1 hu
      have h5 := h3 j (by omega)
      rw [hu] at h5
      rw [hsp (by omega)] at h5
      rw [add_add] at h5
      exact h5
    · intro y hy
      obtain ⟨i, hi'⟩ := List.mem_iff_getElem?.1 hy
      obtain ⟨h1, rfl⟩ := hget i y hi'
      exact (hf _).2.2
theorem trod_field {P : Program} {H : Type} {enc : TypeId × Value → H} {w : World} {base : Nat} {sp : Nat → Bool} {held : Bool} {fuel : Nat} {t : TypeId} {cs : List Value} {x : DataW H × List MemPlace} {fs : Array Field} (ht : P.underlying t = some (.struct fs))
    (h : DataW.trod enc P w base sp held fuel t cs = some x) : cs.length = P.cellsOf t ∧ ∀ (i : Nat) (ty : TypeId) (off : Nat), (fs[i]?).map (fun f => (f.type, f.offset)) = some (ty, off) → ∃ n y, DataW.trod enc P w base sp held n ty ((cs.drop off).take (P.cellsOf ty)) = some y := by
  obtain ⟨xs, n, -, -, hl, hs, hf⟩ := DataW.trod_struct ht h
  refine ⟨hl, fun i ty off hi => ?_⟩
  obtain ⟨f, hi2, he⟩ := Option.map_eq_some_iff.1 hi
  cases he
  have hlt : i < xs.length := by
    obtain ⟨h1, -⟩ := Array.getElem?_eq_some_iff.1 hi2
    omega
  exact ⟨n, xs[i], by rw [hf i f hi2, List.getElem?_eq_getElem hlt]⟩
end Go.Proofs.Sx
end
section
namespace Go.Proofs.Sx
open Go.RowKit
variable {ds : List Deferred} {P : Program} {ops : Array Oper} {Q : Exit → Act → World → Prop} {K : Act → World → Prop} {N : Nat} {a : Act} {l l0 : AL} {w w' w0 : World} {c : Cx} {hl : HL}
def ancs (ops : Array Oper) : Nat → Nat → List Nat
  | 0, _ => []
  | f + 1, i => match ops[i]? with
    | none => []
    | some o => (o.after.toList.filter fun e => Region.binds .any e).flatMap fun e => e.on :: ancs ops f e.on
def Closed (ops : Array Oper) (li : Array Bool) : Prop := ∀ i o, ops[i]? = some o → li.getD i true = true → ∀ e ∈ o.after, Region.binds .any e = true → li.getD e.on true = true
theorem anc_done {li : Array Bool} (hc : Closed ops li) : ∀ (f i : Nat), (∀ o, ops[i]? = some o → ∀ e ∈ o.after, Region.binds .any e = true → li.getD e.on true = true) → ∀ j ∈ ancs ops f i, li.getD j true = true
  | 0, i, _, j, hj => by simp [ancs] at hj
  | f + 1, i, h, j, hj => by
    unfold ancs at hj
    cases ho : ops[i]? with
    | none => rw [ho] at hj; simp at hj
    | some o =>
      rw [ho] at hj
      obtain ⟨e, he, hj⟩ := List.mem_flatMap.1 hj
      obtain ⟨he1, he2⟩ := List.mem_filter.1 he
      have hd := h o ho e (by simpa using he1) he2
      rcases List.mem_cons.1 hj with rfl | hj
      · exact hd
      · exact anc_done hc f e.on (fun o' ho' e' he' hb' => hc e.on o' ho' hd e' he' hb') j hj
def chkL (ops : Array Oper) (m : Nat) : Bool := (List.range ops.size).all fun i => Nat.blt i m || (List.range m).all fun j => (ancs ops 6 i).contains j
def maskL (m n : Nat) : Array Bool := ((List.range n).map fun i => Nat.blt i m).toArray
theorem anyP {S : World → Prop} {r m : Nat} (D : Nat → Nat) (F : Nat → Value → World → Prop) (hm : ops.size = m + r) (hops : ∀ i o, i < m → ops[i]? = some o → o.dst = some (D i)) (hinj : ∀ i j, i < m → j < m → D i = D j → i = j)
    (hback : ∀ i o, ops[i]? = some o → ∀ e ∈ o.after, Region.binds .any e = true → e.on < i) (hlate : chkL ops m = true) (hst : ∀ i v w w', Below w.heap.size w w' → F i v w → F i v w') (hS : ∀ w, Hp c w0 w hl → S w)
    (step : ∀ i o, i < m → ops[i]? = some o → ∀ a w, Has ds N a l0 → Hp c w0 w hl → (∀ e ∈ o.after, Region.binds .any e = true → ∃ v, a.tmps[D e.on]? = some v ∧ F e.on v w) → Stp P ops Q o (fun a' w' => Below w.heap.size w w' ∧ Hp c w0 w' hl ∧ Has ds N a' l0 ∧ ∃ v, a'.tmps[D i]? = some v ∧ F i v w') a w)
    (done : ∀ a w, Has ds N a l0 → Hp c w0 w hl → (∀ i < m, ∃ v, a.tmps[D i]? = some v ∧ F i v w) → wpAnyH P .any ops Q S r (maskL m ops.size) a w) :
    ∀ (k : Nat) (li : Array Bool) (a : Act) (w : World), li.size = ops.size → (List.range m).countP (fun i => !(li.getD i true)) = k → Closed ops li → (∀ i, m ≤ i → i < ops.size → li.getD i true = false) → Has ds N a l0 → Hp c w0 w hl → (∀ i < m, li.getD i true = true → ∃ v, a.tmps[D i]? = some v ∧ F i v w) → wpAnyH P .any ops Q S (k + r) li a w := by
  have all : ∀ li : Array Bool, li.size = ops.size → Region.ready .any ops li = [] → ∀ i < ops.size, li.getD i true = true := by
    intro li hs hr i
    induction i using Nat.strongRecOn with
    | _ i ih =>
      intro hi
      cases hb : li.getD i true with
      | true => rfl
      | false =>
        exfalso
        have : i ∈ Region.ready .any ops li := mem_ready.2 ⟨hb, ops[i], Array.getElem?_eq_getElem hi, fun e he hbd => by
          have hlt := hback i _ (Array.getElem?_eq_getElem hi) e he hbd
          have := ih e.on hlt (by omega)
          simp only [Array.getD_eq_getD_getElem?] at this ⊢
          rw [Array.getElem?_eq_getElem (by omega : e.on < li.size)] at this ⊢
          exact this⟩
        rw [hr] at this
        cases this
  intro k
  induction k with
  | zero =>
    intro li a w hs hk hcl hla h hp hF
    have hall : ∀ i < m, li.getD i true = true := by
      intro i hi
      cases hb : li.getD i true with
      | true => rfl
      | false =>
        have : 0 < (List.range m).countP (fun i => !(li.getD i true)) := List.countP_pos_iff.2 ⟨i, List.mem_range.2 hi, by simp [hb]⟩
        omega
    have e : li = maskL m ops.size := by
      apply Array.ext_getElem?
      intro i
      by_cases hi : i < ops.size
      · have h1 : li[i]? = some (li.getD i true) := by
          rw [Array.getD_eq_getD_getElem?, Array.getElem?_eq_getElem (by omega)]
          rfl
        rw [h1]
        simp only [maskL, List.getElem?_toArray, List.getElem?_map, List.getElem?_range hi, Option.map_some]
        by_cases him : i < m
        · rw [hall i him, show Nat.blt i m = true from by rw [Nat.blt_eq]; exact him]
        · rw [hla i (by omega) hi, show Nat.blt i m = false from by
            cases hq : Nat.blt i m with
            | false => rfl
            | true => rw [Nat.blt_eq] at hq; omega]
      · rw [Array.getElem?_eq_none (by omega), Array.getElem?_eq_none (by simp [maskL]; omega)]
    rw [Nat.zero_add, e]
    exact done a w h hp fun i hi => hF i hi (hall i hi)
  | succ k ih =>
    intro li a w hs hk hcl hla h hp hF
    have hex : ∃ i < m, li.getD i true = false := by
      have : 0 < (List.range m).countP (fun i => !(li.getD i true)) := by omega
      obtain ⟨i, hi, hb⟩ := List.countP_pos_iff.1 this
      exact ⟨i, List.mem_range.1 hi, by simpa using hb⟩
    obtain ⟨i0, hi0, hb0⟩ := hex
    rw [show k + 1 + r = (k + r) + 1 by omega]
    refine ⟨fun hr => ?_, fun i hi => ?_⟩
    · have := all li hs hr i0 (by omega)
      rw [this] at hb0
      cases hb0
    obtain ⟨h1, o, h2, h3⟩ := mem_ready.1 hi
    have hlt := (Array.getElem?_eq_some_iff.1 h2).1
    have hdone : ∀ e ∈ o.after, Region.binds .any e = true → li.getD e.on true = true := fun e he hb => by
      have h4 := h3 e he hb
      have h5 := hback i o h2 e he hb
      simp only [Array.getD_eq_getD_getElem?] at h4 ⊢
      rw [Array.getElem?_eq_getElem (by omega : e.on < li.size)] at h4 ⊢
      exact h4
    have him : i < m := by
      rcases Nat.lt_or_ge i m with h | h
      · exact h
      · exfalso
        rw [chkL, List.all_eq_true] at hlate
        have := hlate i (List.mem_range.2 hlt)
        rw [Bool.or_eq_true, Nat.blt_eq, List.all_eq_true] at this
        rcases this with this | this
        · omega
        · have hc := this i0 (List.mem_range.2 hi0)
          have hmem : i0 ∈ ancs ops 6 i := by simpa using hc
          have := anc_done hcl 6 i (fun o' ho' e he hb => by rw [h2] at ho'; cases ho'; exact hdone e he hb) i0 hmem
          rw [this] at hb0
          cases hb0
    unfold wpOp
    rw [h2]
    refine Stp.or ?_
    have hdeps : ∀ e ∈ o.after, Region.binds .any e = true → ∃ v, a.tmps[D e.on]? = some v ∧ F e.on v w := fun e he hb => hF e.on (by have := hback i o h2 e he hb; omega) (hdone e he hb)
    have hst' := (step i o him h2 a w h hp hdeps).put
    have mono : ∀ {K K' : Act → World → Prop}, Stp P ops Q o K a w → (∀ a w, K a w → K' a w) → Stp P ops Q o K' a w := by
      intro K K' hk hkk
      unfold Stp at *
      split
      · rename_i hw; rw [if_pos hw] at hk; exact Oper.wp_mono hkk hk
      · rename_i hw; rw [if_neg hw] at hk; exact hkk _ _ hk
    refine mono hst' ?_
    rintro a' w' ⟨⟨hb, hp', h', v, hv, hFv⟩, hkeep⟩
    refine ⟨hS _ hp', ih (li.setIfInBounds i true) a' w' (by simpa using hs) ?_ ?_ ?_ h' hp' ?_⟩
    · have e1 : ∀ (L : List Nat), L.Nodup → i ∈ L → L.countP (fun j => !(li.getD j true)) = L.countP (fun j => !((li.setIfInBounds i true).getD j true)) + 1 := by
        intro L
        induction L with
        | nil => intro _ h; cases h
        | cons x t iht =>
          intro hn hx
          rw [List.nodup_cons] at hn
          have hoff : ∀ j, j ≠ i → (li.setIfInBounds i true).getD j true = li.getD j true := fun j hj => getD_set_ne true (fun e => hj e.symm)
          have hon : (li.setIfInBounds i true).getD i true = true := by simp [Array.getD_eq_getD_getElem?, hs, hlt]
          rw [List.countP_cons, List.countP_cons]
          rcases List.mem_cons.1 hx with rfl | hx
          · have e2 : t.countP (fun j => !(li.getD j true)) = t.countP (fun j => !((li.setIfInBounds i true).getD j true)) := List.countP_congr fun j hj => by rw [hoff j (fun e => hn.1 (e ▸ hj))]
            rw [e2, hon, h1]
            simp
          · have hxi : x ≠ i := fun e => hn.1 (e ▸ hx)
            rw [iht hn.2 hx, hoff x hxi]
            omega
      have := e1 (List.range m) List.nodup_range (List.mem_range.2 him)
      omega
    · intro j oj hoj hlj e he hb
      by_cases hji : i = j
      · subst hji
        rw [h2] at hoj
        cases hoj
        have hne : i ≠ e.on := fun q => by have := hback i o h2 e he hb; omega
        rw [getD_set_ne true hne]
        exact hdone e he hb
      · rw [getD_set_ne true hji] at hlj
        have := hcl j oj hoj hlj e he hb
        by_cases hei : i = e.on
        · rw [← hei]
          simp [Array.getD_eq_getD_getElem?, hs, hlt]
        · rw [getD_set_ne true hei]
          exact this
    · intro j hj hjs
      have hji : i ≠ j := by omega
      rw [getD_set_ne true hji]
      exact hla j hj hjs
    · intro j hj hlj
      by_cases hji : i = j
      · subst hji; exact ⟨v, hv, hFv⟩
      · rw [getD_set_ne true hji] at hlj
        obtain ⟨u, hu, hFu⟩ := hF j hj hlj
        refine ⟨u, ?_, hst j u w w' hb hFu⟩
        rw [hkeep (D j) (fun e => hji (by rw [hops i o him h2] at e; exact hinj i j him hj (Option.some.inj e)))]
        exact hu
inductive FP where
  | val (v : Value)
  | fct (F : Value → World → Prop) (st : ∀ v w w', Below w.heap.size w w' → F v w → F v w')
def FP.F : FP → Value → World → Prop
  | .val u, v, _ => v = u
  | .fct F _, v, w => F v w
def arrP (b n : Nat) (cs : Array Value) (t : TypeId) : FP := .fct (fun v w => ∃ g, b < g ∧ v = .slice (some ⟨g, 0, none⟩) n n ∧ w.heap[g]? = some (.cells cs t (0, 0))) fun v w w' hb ⟨g, h1, h2, h3⟩ => ⟨g, h1, h2, (hb.block g (Array.getElem?_eq_some_iff.1 h3).1).trans h3⟩
def slP {α : Type} (b : Nat) (enc : α → List Value) (sz : Nat) (ys : List α) (h0 : 0 < sz) : FP := .fct (fun v w => ∃ s : SV, v = s.v ∧ Rd w enc sz s.v ys ∧ (0 < ys.length → b < bk s.v)) fun v w w' hb ⟨s, h1, h2, h3⟩ => ⟨s, h1, h2.below h0 hb, h3⟩
def pF (ks : List FP) (i : Nat) (v : Value) (w : World) : Prop := match nth ks i with
  | some k => k.F v w
  | none => True
abbrev StepP (P : Program) (ops : Array Oper) (Q : Exit → Act → World → Prop) (N : Nat) (ds : List Deferred) (l0 : AL) (c : Cx) (w0 : World) (hl : HL) (ts : List Nat) (ks : List FP) (i : Nat) (o : Oper) : Prop :=
  ∀ a w, Has ds N a l0 → Hp c w0 w hl → Deps (fun j => ∃ v, a.tmps[kD ts j]? = some v ∧ pF ks j v w) o.after.toList → Stp P ops Q o (fun a' w' => Below w.heap.size w w' ∧ Has ds N a' l0 ∧ ∃ v, a'.tmps[kD ts i]? = some v ∧ pF ks i v w') a w
theorem rdP1 {id n m r : Nat} {L : List Oper} (ts : List Nat) (ks : List FP) (l0 : AL) (h : Has ds N a l) (hs : Sub l l0) (hp : Hp c w0 w hl) (hmix : P.follows .mixedOrders = true) (hn : L.toArray.size = n) (hmr : n = m + r) (h1 : ((L.take m).map (·.dst) == ts.map some) = true) (hnd : ts.Nodup) (hlen : ts.length = m) (h2 : chkB L = true) (h3 : chkL L.toArray m = true)
    (step : AllOps (StepP P L.toArray Q N ds l0 c w0 hl ts ks) 0 (L.take m))
    (done : ∀ a w, Has ds N a l0 → Hp c w0 w hl → (∀ i < m, ∃ v, a.tmps[kD ts i]? = some v ∧ pF ks i v w) → wpAnyH P .any L.toArray Q (fun _ => True) r (maskL m n) a w) : (Code.region id L.toArray true).wp P Q a w := by
  subst hn
  refine rdr1 (fun _ => True) hmix rfl ?_
  rw [beq_iff_eq] at h1
  have hsz : L.toArray.size = L.length := by simp
  have hdst : ∀ i o, i < m → L[i]? = some o → o.dst = some (kD ts i) := by
    intro i o him ho
    have := congrArg (·[i]?) h1
    simp only [List.getElem?_map, List.getElem?_take, if_pos him, ho, Option.map_some] at this
    cases ht : ts[i]? with
    | none => rw [ht] at this; simp at this
    | some t =>
      rw [ht] at this
      simp only [Option.map_some, Option.some.injEq] at this
      rw [this, kD, nth_eq, ht]
      rfl
  have := anyP (P := P) (ops := L.toArray) (Q := Q) (S := fun _ => True) (N := N) (ds := ds) (c := c) (w0 := w0) (hl := hl) (l0 := l0) (r := r) (m := m) (kD ts) (pF ks) hmr (fun i o him ho => hdst i o him (by simpa using ho)) ?_ ?_ h3 (fun i v w w' hb hf => ?_) (fun _ _ => trivial) (fun i o him ho a w h hp hd => ?_) (fun a w h hp hf => done a w h hp hf) m (Array.replicate L.toArray.size false) a w.drew (by simp) ?_ ?_ ?_ (h.sub hs) hp.drew ?_
  · rw [hmr]
    rw [hmr] at this
    exact this
  · intro i j hi hj e
    have hi' : i < ts.length := by omega
    have hj' : j < ts.length := by omega
    rw [kD, kD, nth_eq, nth_eq, List.getElem?_eq_getElem hi', List.getElem?_eq_getElem hj'] at e
    have hne := List.pairwise_iff_getElem.1 hnd
    rcases Nat.lt_trichotomy i j with hlt | heq | hgt
    · exact absurd (show ts[i] = ts[j] from e) (hne i j hi' hj' hlt)
    · exact heq
    · exact absurd (show ts[j] = ts[i] from e.symm) (hne j i hj' hi' hgt)
  · intro i o ho e he hb
    have ho' : L[i]? = some o := by simpa using ho
    have hi : i < L.length := (List.getElem?_eq_some_iff.1 ho').1
    rw [chkB, List.all_eq_true] at h2
    have := h2 i (List.mem_range.2 hi)
    rw [ho'] at this
    simp only [List.all_eq_true] at this
    have := this e (by simpa using he)
    rw [hb, Bool.not_true, Bool.false_or, Nat.blt_eq] at this
    exact this
  · unfold pF at *
    cases hk : nth ks i with
    | none => trivial
    | some k =>
      rw [hk] at hf
      cases k with
      | val u => exact hf
      | fct F st => exact st v w w' hb hf
  · have := allOps step i o (by rw [List.getElem?_take, if_pos him]; simpa using ho)
    rw [Nat.zero_add] at this
    have hst := this a w h hp (deps fun e he hb => hd e (by simpa using he) hb)
    have mono : ∀ {K K' : Act → World → Prop}, Stp P L.toArray Q o K a w → (∀ a w, K a w → K' a w) → Stp P L.toArray Q o K' a w := by
      intro K K' hk hkk
      unfold Stp at *
      split
      · rename_i hw; rw [if_pos hw] at hk; exact Oper.wp_mono hkk hk
      · rename_i hw; rw [if_neg hw] at hk; exact hkk _ _ hk
    exact mono hst fun a' w' ⟨hb, h', hv⟩ => ⟨hb, hp.below hb, h', hv⟩
  · have hall : ∀ i ∈ List.range m, (!((Array.replicate L.toArray.size false).getD i true)) = true := by
      intro i hi
      have him := List.mem_range.1 hi
      have : i < L.length := by omega
      simp [Array.getD_eq_getD_getElem?, this]
    rw [List.countP_eq_length.2 hall, List.length_range]
  · intro i o ho hl
    have hi := (Array.getElem?_eq_some_iff.1 ho).1
    simp [Array.getD_eq_getD_getElem?, show i < L.length by simpa using hi] at hl
  · intro i _ hi
    simp [Array.getD_eq_getD_getElem?, show i < L.length by simpa using hi]
  · intro i hi hl
    have : i < L.length := by omega
    simp [Array.getD_eq_getD_getElem?, this] at hl
theorem StepP.val {o : Oper} {d i : Nat} {v : Value} {ts : List Nat} {ks : List FP} {l' : AL} (h : Has ds N a l') (hrun : (execOp a.eval o).run P w = .ok (.value v) w) (hs : Sub ((d, v) :: l') l0) (hd : o.dst = some d) (hdi : kD ts i = d) (hN : Nat.blt d N = true) (hg : o.guard = none) (hf : pF ks i v w) :
    Stp P ops Q o (fun a' w' => Below w.heap.size w w' ∧ Has ds N a' l0 ∧ ∃ v, a'.tmps[kD ts i]? = some v ∧ pF ks i v w') a w :=
  stp_val h hd hN hg hrun fun a' h' => ⟨Below.refl _ _, h'.sub hs, v, by rw [hdi]; exact h'.get d v (by simp [look, show Nat.beq d d = true from Nat.beq_refl d]), hf⟩
end Go.Proofs.Sx
end
