import Derived.Test.YtepjdckdhddfbaaGreatDoorProg
import Derived.Test.YtepjdckdhddfbaaGreatDoorRows
import Derived.Test.YtepjdckdhddfbaaGreatDoorPQb
import Derived.Test.YtepjdckdhddfbaaGreatDoorPQc
set_option linter.unusedVariables false
set_option linter.unusedSimpArgs false
set_option maxRecDepth 4000
namespace Go.Proofs.Ec
open Go.RowKit Go.Proofs.Sx
open Go Ecl
theorem cz_int : Tryz.prog.cellsOf 3 = 1 := by kernel_rfl
theorem laid_out : laidOutB Tryz.prog = true := by kernel_rfl
theorem cz_own : ownKnob Tryz.prog.godebug = none := by kernel_rfl
section
variable {H : Type} {enc : TypeId × Value → H} {W : World} {base : Nat} {sp : Nat → Bool} {held : Bool} {n : Nat} {cs : List Value} {y : DataW H × List MemPlace} {c : Value}
theorem op_int (h : DataW.trod enc Tryz.prog W base sp held n 3 [c] = some y) : ∃ k : Int, c = .int .i64 k := by
  obtain ⟨k, h1, -⟩ := DataW.trod_int Tryz.underlying3 h
  exact ⟨k, by simpa using h1⟩
theorem op_num {v : Value} {d : DataW H} {ps : List MemPlace} {b0 : Nat} (hval : Value.okWide Tryz.prog W .any b0 3 v) (h : DataW.Trod enc Tryz.prog W base sp held 3 v d ps) : ∃ k : Int, v = .int .i64 k ∧ -9223372036854775808 ≤ k ∧ k ≤ 9223372036854775807 := by
  obtain ⟨k, rfl, -, -, hw⟩ := ChangeShapes.open_int Tryz.underlying3 hval h
  exact ⟨k, rfl, bounds_i64 hw⟩
end
theorem cz_ball : Tryz.prog.cellsOf 51 = 3 := by kernel_rfl
theorem cz_mark : Tryz.prog.cellsOf 87 = 3 := by kernel_rfl
theorem cz_bool : Tryz.prog.cellsOf 4 = 1 := by kernel_rfl
section
variable {H : Type} {enc : TypeId × Value → H} {W : World} {base : Nat} {sp : Nat → Bool} {held : Bool} {n : Nat} {cs : List Value} {y : DataW H × List MemPlace} {c : Value}
theorem op_balls {v : Value} {d : DataW H} {ps : List MemPlace} {b0 : Nat} (hval : Value.okWide Tryz.prog W .any b0 37 v) (h : DataW.Trod enc Tryz.prog W base sp held 37 v d ps) : ∃ (s : SV) (l : List Ball), v = s.v ∧ Rd W encL 3 s.v l := by
  obtain ⟨a, len, cap, rfl⟩ := WideShapes.okWide_slice Tryz.underlying37 hval
  obtain ⟨fuel, h⟩ := h
  obtain ⟨l, h1, -⟩ := rd_slice (encA := encL) (R := fun _ => True) Tryz.underlying37 cz_ball (by decide) (fun n cs y h hl => by
    obtain ⟨-, hf⟩ := trod_field Tryz.underlying51 h
    match cs, hl with
    | [a, b, c], _ =>
      obtain ⟨_, _, h0⟩ := hf 0 3 0 rfl
      obtain ⟨_, _, h1⟩ := hf 1 3 1 rfl
      obtain ⟨_, _, h2⟩ := hf 2 3 2 rfl
      simp only [cz_int, List.drop, List.take] at h0 h1 h2
      obtain ⟨a, rfl⟩ := op_int h0
      obtain ⟨b, rfl⟩ := op_int h1
      obtain ⟨c, rfl⟩ := op_int h2
      exact ⟨⟨a, b, c⟩, rfl, trivial⟩) (show DataW.trod enc Tryz.prog W base sp held fuel 37 [.slice a len cap] = some (d, ps) from h)
  exact ⟨⟨a, len, cap⟩, l, rfl, h1⟩
theorem op_marks {v : Value} {d : DataW H} {ps : List MemPlace} {b0 : Nat} (hval : Value.okWide Tryz.prog W .any b0 22 v) (h : DataW.Trod enc Tryz.prog W base sp held 22 v d ps) : ∃ (s : SV) (l : List Ecl.Mark), v = s.v ∧ Rd W encM 3 s.v l := by
  obtain ⟨a, len, cap, rfl⟩ := WideShapes.okWide_slice Tryz.underlying22 hval
  obtain ⟨fuel, h⟩ := h
  obtain ⟨l, h1, -⟩ := rd_slice (encA := encM) (R := fun _ => True) Tryz.underlying22 cz_mark (by decide) (fun n cs y h hl => by
    obtain ⟨-, hf⟩ := trod_field Tryz.underlying87 h
    match cs, hl with
    | [a, b, c], _ =>
      obtain ⟨_, _, h0⟩ := hf 0 3 0 rfl
      obtain ⟨_, _, h1⟩ := hf 1 4 1 rfl
      obtain ⟨_, _, h2⟩ := hf 2 3 2 rfl
      simp only [cz_int, cz_bool, List.drop, List.take] at h0 h1 h2
      obtain ⟨a, rfl⟩ := op_int h0
      obtain ⟨b, e1, -⟩ := DataW.trod_bool Tryz.underlying4 h1
      obtain rfl : _ = Value.bool b := by simpa using e1
      obtain ⟨c, rfl⟩ := op_int h2
      exact ⟨⟨a, b, c⟩, rfl, trivial⟩) (show DataW.trod enc Tryz.prog W base sp held fuel 22 [.slice a len cap] = some (d, ps) from h)
  exact ⟨⟨a, len, cap⟩, l, rfl, h1⟩
end
def lay : List (String × DataW Unit) := [("math/bits.deBruijn32tab", YtepjdckdhddfbaaGreatDoor.Rows.laid_math_bits_deBruijn32tab), ("math/bits.deBruijn64tab", YtepjdckdhddfbaaGreatDoor.Rows.laid_math_bits_deBruijn64tab), ("internal/strconv.uint64pow10", YtepjdckdhddfbaaGreatDoor.Rows.laid_internal_strconv_uint64pow10), ("unicode/utf8.acceptRanges", YtepjdckdhddfbaaGreatDoor.Rows.laid_unicode_utf8_acceptRanges), ("unicode/utf8.first", YtepjdckdhddfbaaGreatDoor.Rows.laid_unicode_utf8_first)]
theorem cell_mx {W : World} (h : W.ShapedOpen Tryz.prog) : ∃ m, W.cell? ⟨1, 0, none⟩ = some (.int .i64 m) :=
  cell_of_shapedOpen_int (t := 3) (zero := #[.int .i64 0]) h (of_decide_eq_true (by kernel_rfl)) (by kernel_rfl) rfl (by kernel_rfl) (by kernel_rfl) Tryz.underlying3
theorem glb_of {W : World} (hL : laidMet Tryz.prog lay W) (h : W.ShapedOpen Tryz.prog) : Glb W :=
  ⟨Lib.tabIs_of_head (k := .u64) (zs := Lib.pow10Tab) (g := itoa_ren.g 17) (t := 228) (e := 206) (n := 20) (by kernel_rfl) (by kernel_rfl) (by kernel_rfl) (by kernel_rfl) (by kernel_rfl) (by kernel_rfl) (show laidMet Tryz.prog (("internal/strconv.uint64pow10", Lib.tabData .u64 Lib.pow10Tab) :: _) W from hL.tail.tail), cell_mx h⟩
theorem stays {H : Type} {enc : TypeId × Value → H} {W W' : World} (hb : Below W.heap.size W W') : ∀ (ts : List TypeId) {vs : List Value} {ds : List (DataW H)} {ps : List MemPlace}, (ts.all fun t => Tryz.prog.readableRec t && decide (t < Tryz.prog.types.size)) = true →
    DataW.TrodAll enc Tryz.prog W 0 (fun _ => true) true ts vs ds ps → (∀ x ∈ ps, x.block < W.heap.size) → DataW.TrodAll enc Tryz.prog W' 0 (fun b => decide (b < W.heap.size)) true ts vs ds ps := by
  intro ts
  induction ts with
  | nil =>
    intro vs ds ps _ h _
    cases vs <;> cases ds <;> simp_all [DataW.TrodAll]
  | cons t ts ih =>
    intro vs ds ps ht h hlt
    obtain ⟨v, vs', d, ds', p, q, rfl, rfl, rfl, h1, h2⟩ := ChangeShapes.trodAll_cons h
    rw [List.all_cons, Bool.and_eq_true, Bool.and_eq_true, decide_eq_true_eq] at ht
    exact ⟨p, q, Below.trod laid_out ht.1.1 ht.1.2 h1 hb (fun x hx => hlt x (List.mem_append_left _ hx)), ih ht.2 h2 (fun x hx => hlt x (List.mem_append_right _ hx)), rfl⟩
set_option maxRecDepth 100000 in
theorem lifted {f : FuncId} {fn : Func} {spec : ChangeSpec} {ts : Array TypeId} (wargs : Array Value) (hf : Tryz.prog.funcs[f]? = some fn) (hno : Tryz.prog.inits.idxOf? f = none) (hp : fn.params = ts) (hr : fn.resultTypes = #[4]) (hv : spec.vars = [])
    (hfn : ∀ {H : Type} {enc : TypeId × Value → H} {W : World} {sp : Nat → Bool} {vs : List Value} {ds : List (DataW H)} {p : List MemPlace}, DataW.TrodAll enc Tryz.prog W 0 sp true ts.toList vs ds p → spec.fn H (ds ++ []) = { results := [.lit (.bool true)], args := ds })
    (hts : (ts.toList.all fun t => Tryz.prog.readableRec t && decide (t < Tryz.prog.types.size)) = true)
    (os : Os) (started : os.Started) (H : Type) (enc : TypeId × Value → H)
    (hw1 : Input.okWideB Tryz.prog ((World.laidAll Tryz.prog os lay).forCall (fun _ _ => 0) ⟨#[], wargs, []⟩) f ⟨#[], wargs, []⟩ = true)
    (hw2 : spec.preB enc Tryz.prog fn [] false ((World.laidAll Tryz.prog os lay).forCall (fun _ _ => 0) ⟨#[], wargs, []⟩).memory wargs 12 = true)
    (hw3 : spec.sizedB enc Tryz.prog fn false ((World.laidAll Tryz.prog os lay).forCall (fun _ _ => 0) ⟨#[], wargs, []⟩).memory wargs 12 = true)
    (hw4 : ((World.laidAll Tryz.prog os lay).forCall (fun _ _ => 0) ⟨#[], wargs, []⟩).Shaped Tryz.prog)
    (law : ∀ (W : World) (base : Nat) (args : Array Value) (ds : List (DataW H)) (p : List MemPlace), (∀ (j : Nat) t v, ts[j]? = some t → args[j]? = some v → Value.okWide Tryz.prog W .any base t v) → DataW.TrodAll enc Tryz.prog W 0 (fun _ => true) true ts.toList args.toList ds p → Glb W →
      Ret Tryz.prog f args W fun u w' => u = .bool true ∧ Below W.heap.size W w') :
    ReturnsInHanded {} Tryz.checked os f .any (fun w args => (spec.pre enc Tryz.prog fn [] false w args ∧ laidMetH Tryz.prog lay w) ∧ sizedMet enc Tryz.prog fn (OpenSpec.ofChange spec) false w args) (spec.post enc Tryz.prog fn false true false false) := by
  refine returnsInHanded_of_calls cz_own started hno (ChangeSpec.witness_shaped (enc := enc) (C := Tryz.checked) (os := os) (X := fun w _ => laidMetH Tryz.prog lay w) false (World.laidAll Tryz.prog os lay) wargs 12 (World.laidAll_os _ _ _) hw4 hw1 hw2 hw3
    (by rw [MakeChecks.laidMetH_plain _ _ _ (by kernel_rfl)]; exact laidMet_laidAll _ (by kernel_rfl) (by kernel_rfl))) ?_
  intro w tape i _ hsh _ hok hpre hholds
  obtain ⟨_, _, _, fn', hfn', _, _, _, _, hval⟩ := hok
  obtain rfl : fn' = fn := Option.some.inj (hfn'.symm.trans hf)
  obtain ⟨⟨⟨ds, gs, before, hw, hc⟩, hx⟩, hz⟩ := hpre
  have hw' := DataW.Whole.of_heap (w' := w.forCall tape i) (by rfl) hw
  have hL : laidMetH Tryz.prog lay (w.forCall tape i) := laidMetH.of_heap (by rfl) hx
  rw [MakeChecks.laidMetH_plain _ _ _ (by kernel_rfl)] at hL
  have hwh := hw'
  obtain ⟨p, q, hA, hV, hb, -, -⟩ := hwh
  rw [hv] at hV
  obtain ⟨rfl, rfl⟩ := ChangeShapes.trodVars_none hV
  rw [hp] at hA hval
  refine (law _ _ _ _ _ hval hA (glb_of hL hsh)).mono fun e W' ⟨u, he, hu, hbel⟩ => ?_
  subst he
  subst hu
  refine ChangeSpec.post_blind ⟨ds, [], before, [], p, [], hw', ?_, ?_, ?_, hbel.frame _, fun h => by cases h⟩
  · rw [hfn hA, hr]
    exact ChangeShapes.trodAll_mk1 (RowKit.shut_bool Tryz.underlying4 _)
  · rw [hfn hA, hp]
    exact stays hbel _ hts hA (fun x hx => by
      have := hw'.lt x (by rw [hb]; exact List.mem_append_left _ hx)
      simpa using this)
  · rw [hfn hA, hv]
    rfl
end Go.Proofs.Ec
