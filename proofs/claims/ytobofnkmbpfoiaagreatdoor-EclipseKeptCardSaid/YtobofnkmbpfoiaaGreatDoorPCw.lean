import Derived.Test.YtobofnkmbpfoiaaGreatDoorProg
import Derived.Test.YtobofnkmbpfoiaaGreatDoorRows
import Derived.Test.YtobofnkmbpfoiaaGreatDoorPQb
import Derived.Test.YtobofnkmbpfoiaaGreatDoorPQc
set_option linter.unusedVariables false
set_option linter.unusedSimpArgs false
set_option maxRecDepth 4000
namespace Go.Proofs.Ec
open Go.RowKit Go.Proofs.Sx
open Go Ecl
theorem cz_int : Tryz.prog.cellsOf 3 = 1 := by kernel_rfl
theorem cz_ints : Tryz.prog.cellsOf 30 = 1 := by kernel_rfl
theorem cz_train : Tryz.prog.cellsOf 29 = 1 := by kernel_rfl
theorem cz_bodies : Tryz.prog.cellsOf 22 = 1 := by kernel_rfl
theorem cz_pair : Tryz.prog.cellsOf 140 = 2 := by kernel_rfl
theorem cz_period : Tryz.prog.cellsOf 24 = 2 := by kernel_rfl
theorem cz_node : Tryz.prog.cellsOf 26 = 3 := by kernel_rfl
theorem cz_sky : Tryz.prog.cellsOf 28 = 4 := by kernel_rfl
theorem cz_body : Tryz.prog.cellsOf 46 = 4 := by kernel_rfl
theorem cz_eng : Tryz.prog.cellsOf 32 = 11 := by kernel_rfl
theorem laid_out : laidOutB Tryz.prog = true := by kernel_rfl
theorem cz_own : ownKnob Tryz.prog.godebug = none := by kernel_rfl
section
variable {H : Type} {enc : TypeId × Value → H} {W : World} {base : Nat} {sp : Nat → Bool} {held : Bool} {n : Nat} {cs : List Value} {y : DataW H × List MemPlace} {c : Value}
theorem op_int (h : DataW.trod enc Tryz.prog W base sp held n 3 [c] = some y) : ∃ k : Int, c = .int .i64 k := by
  obtain ⟨k, h1, -⟩ := DataW.trod_int Tryz.underlying3 h
  exact ⟨k, by simpa using h1⟩
theorem op_ints (h : DataW.trod enc Tryz.prog W base sp held n 30 [c] = some y) : ∃ l : List Int, Rd W encI 1 c l := by
  obtain ⟨l, h1, -⟩ := rd_slice (encA := encI) (R := fun _ => True) Tryz.underlying30 cz_int (by decide) (fun n cs y h hl => by
    match cs, hl with
    | [c], _ =>
      obtain ⟨k, rfl⟩ := op_int h
      exact ⟨k, rfl, trivial⟩) h
  exact ⟨l, h1⟩
theorem op_pairs (h : DataW.trod enc Tryz.prog W base sp held n 29 [c] = some y) : ∃ l : List (Int × Int), Rd W encP 2 c l := by
  obtain ⟨l, h1, -⟩ := rd_slice (encA := encP) (R := fun _ => True) Tryz.underlying29 cz_pair (by decide) (fun n cs y h hl => by
    obtain ⟨-, hf⟩ := trod_field Tryz.underlying140 h
    match cs, hl with
    | [a, b], _ =>
      obtain ⟨_, _, h0⟩ := hf 0 3 0 rfl
      obtain ⟨_, _, h1⟩ := hf 1 3 1 rfl
      simp only [cz_int, List.drop, List.take] at h0 h1
      obtain ⟨a, rfl⟩ := op_int h0
      obtain ⟨b, rfl⟩ := op_int h1
      exact ⟨(a, b), rfl, trivial⟩) h
  exact ⟨l, h1⟩
theorem op_period {a b : Value} (h : DataW.trod enc Tryz.prog W base sp held n 24 [a, b] = some y) : (∃ k : Int, a = .int .i64 k) ∧ ∃ k : Int, b = .int .i64 k := by
  obtain ⟨-, hf⟩ := trod_field Tryz.underlying24 h
  obtain ⟨_, _, h0⟩ := hf 0 3 0 rfl
  obtain ⟨_, _, h1⟩ := hf 1 3 1 rfl
  simp only [cz_int, List.drop, List.take] at h0 h1
  exact ⟨op_int h0, op_int h1⟩
theorem op_bodies (h : DataW.trod enc Tryz.prog W base sp held n 22 [c] = some y) : ∃ l : List BV, Rd W encB 4 c l ∧ ∀ z ∈ l, Rd W encI 1 z.2.v z.1.road :=
  rd_slice (encA := encB) (R := fun z => Rd W encI 1 z.2.v z.1.road) Tryz.underlying22 cz_body (by decide) (fun n cs y h hl => by
    obtain ⟨-, hf⟩ := trod_field Tryz.underlying46 h
    match cs, hl with
    | [a, b, c, d], _ =>
      obtain ⟨_, _, h0⟩ := hf 0 24 0 rfl
      obtain ⟨_, _, h1⟩ := hf 1 3 2 rfl
      obtain ⟨_, _, h2⟩ := hf 2 30 3 rfl
      simp only [cz_int, cz_period, cz_ints, List.drop, List.take] at h0 h1 h2
      obtain ⟨⟨a, rfl⟩, b, rfl⟩ := op_period h0
      obtain ⟨c, rfl⟩ := op_int h1
      obtain ⟨l, hl⟩ := op_ints h2
      obtain ⟨s, rfl⟩ := hl.sv
      exact ⟨(⟨a, b, c, l⟩, s), rfl, hl⟩) h
theorem op_eng {v : Value} {d : DataW H} {ps : List MemPlace} {b0 : Nat} (hval : Value.okWide Tryz.prog W .any b0 32 v) (h : DataW.Trod enc Tryz.prog W base sp held 32 v d ps) :
    ∃ (x : EV) (e : Eng), v = .agg #[x.b.v, .int .i64 e.nnum, .int .i64 e.nden, .int .i64 e.nstart, x.s.v, x.m.v, x.n.v, x.f.v, .int .i64 e.new, .int .i64 e.full, .int .i64 e.wide] ∧ RdG W x e := by
  obtain ⟨⟨l⟩, rfl, -⟩ := WideShapes.okWide_struct Tryz.underlying32 hval
  obtain ⟨fuel, h⟩ := h
  have h : DataW.trod enc Tryz.prog W base sp held fuel 32 l = some (d, ps) := h
  obtain ⟨hl, hf⟩ := trod_field Tryz.underlying32 h
  rw [cz_eng] at hl
  match l, hl with
  | [a0, a1, a2, a3, a4, a5, a6, a7, a8, a9, a10], _ =>
    obtain ⟨_, _, h0⟩ := hf 0 28 0 rfl
    obtain ⟨_, _, h1⟩ := hf 1 29 4 rfl
    obtain ⟨_, _, h2⟩ := hf 2 29 5 rfl
    obtain ⟨_, _, h3⟩ := hf 3 29 6 rfl
    obtain ⟨_, _, h4⟩ := hf 4 30 7 rfl
    obtain ⟨_, _, h5⟩ := hf 5 3 8 rfl
    obtain ⟨_, _, h6⟩ := hf 6 3 9 rfl
    obtain ⟨_, _, h7⟩ := hf 7 3 10 rfl
    simp only [cz_int, cz_sky, cz_ints, cz_train, List.drop, List.take] at h0 h1 h2 h3 h4 h5 h6 h7
    obtain ⟨-, hs⟩ := trod_field Tryz.underlying28 h0
    obtain ⟨_, _, i0⟩ := hs 0 22 0 rfl
    obtain ⟨_, _, i1⟩ := hs 1 26 1 rfl
    simp only [cz_bodies, cz_node, List.drop, List.take] at i0 i1
    obtain ⟨-, hn⟩ := trod_field Tryz.underlying26 i1
    obtain ⟨_, _, j0⟩ := hn 0 24 0 rfl
    obtain ⟨_, _, j1⟩ := hn 1 3 2 rfl
    simp only [cz_period, cz_int, List.drop, List.take] at j0 j1
    obtain ⟨bs, hbs, hroad⟩ := op_bodies i0
    obtain ⟨sb, rfl⟩ := hbs.sv
    obtain ⟨⟨nn, rfl⟩, nd, rfl⟩ := op_period j0
    obtain ⟨ns, rfl⟩ := op_int j1
    obtain ⟨sun, hsun⟩ := op_pairs h1
    obtain ⟨s1, rfl⟩ := hsun.sv
    obtain ⟨moon, hmoon⟩ := op_pairs h2
    obtain ⟨s2, rfl⟩ := hmoon.sv
    obtain ⟨node, hnode⟩ := op_pairs h3
    obtain ⟨s3, rfl⟩ := hnode.sv
    obtain ⟨fe, hfe⟩ := op_ints h4
    obtain ⟨s4, rfl⟩ := hfe.sv
    obtain ⟨k5, rfl⟩ := op_int h5
    obtain ⟨k6, rfl⟩ := op_int h6
    obtain ⟨k7, rfl⟩ := op_int h7
    exact ⟨⟨bs, sb, s1, s2, s3, s4⟩, ⟨bs.map (·.1), nn, nd, ns, sun, moon, node, fe, k5, k6, k7⟩, rfl, ⟨hbs, rfl, hroad⟩, hsun, hmoon, hnode, hfe⟩
theorem op_num {v : Value} {d : DataW H} {ps : List MemPlace} {b0 : Nat} (hval : Value.okWide Tryz.prog W .any b0 3 v) (h : DataW.Trod enc Tryz.prog W base sp held 3 v d ps) : ∃ k : Int, v = .int .i64 k ∧ -9223372036854775808 ≤ k ∧ k ≤ 9223372036854775807 := by
  obtain ⟨k, rfl, -, -, hw⟩ := ChangeShapes.open_int Tryz.underlying3 hval h
  exact ⟨k, rfl, bounds_i64 hw⟩
theorem op_list {v : Value} {d : DataW H} {ps : List MemPlace} {b0 : Nat} (hval : Value.okWide Tryz.prog W .any b0 30 v) (h : DataW.Trod enc Tryz.prog W base sp held 30 v d ps) : ∃ (s : SV) (l : List Int), v = s.v ∧ Rd W encI 1 s.v l := by
  obtain ⟨a, len, cap, rfl⟩ := WideShapes.okWide_slice Tryz.underlying30 hval
  obtain ⟨fuel, h⟩ := h
  obtain ⟨l, hl⟩ := op_ints (show DataW.trod enc Tryz.prog W base sp held fuel 30 [.slice a len cap] = some (d, ps) from h)
  exact ⟨⟨a, len, cap⟩, l, rfl, hl⟩
end
def lay : List (String × DataW Unit) := [("math/bits.deBruijn32tab", YtobofnkmbpfoiaaGreatDoor.Rows.laid_math_bits_deBruijn32tab), ("math/bits.deBruijn64tab", YtobofnkmbpfoiaaGreatDoor.Rows.laid_math_bits_deBruijn64tab), ("internal/strconv.uint64pow10", YtobofnkmbpfoiaaGreatDoor.Rows.laid_internal_strconv_uint64pow10), ("unicode/utf8.acceptRanges", YtobofnkmbpfoiaaGreatDoor.Rows.laid_unicode_utf8_acceptRanges), ("unicode/utf8.first", YtobofnkmbpfoiaaGreatDoor.Rows.laid_unicode_utf8_first)]
theorem cell_mx {W : World} (h : W.ShapedOpen Tryz.prog) : ∃ m, W.cell? ⟨0, 0, none⟩ = some (.int .i64 m) :=
  cell_of_shapedOpen_int (t := 3) (zero := #[.int .i64 0]) h (of_decide_eq_true (by kernel_rfl)) (by kernel_rfl) rfl (by kernel_rfl) (by kernel_rfl) Tryz.underlying3
theorem glb_of {W : World} (hL : laidMet Tryz.prog lay W) (h : W.ShapedOpen Tryz.prog) : Glb W :=
  ⟨Lib.tabIs_of_head (k := .u64) (zs := Lib.pow10Tab) (g := itoa_ren.g 17) (t := 254) (e := 238) (n := 20) (by kernel_rfl) (by kernel_rfl) (by kernel_rfl) (by kernel_rfl) (by kernel_rfl) (by kernel_rfl) (show laidMet Tryz.prog (("internal/strconv.uint64pow10", Lib.tabData .u64 Lib.pow10Tab) :: _) W from hL.tail.tail), cell_mx h⟩
theorem stays {H : Type} {enc : TypeId × Value → H} {W W' : World} (hb : Below W.heap.size W W') : ∀ (ts : List TypeId) {vs : List Value} {ds : List (DataW H)} {ps : List MemPlace}, (ts.all fun t => Tryz.prog.readableRec t && decide (t < Tryz.prog.types.size)) = true →
    DataW.TrodAll enc Tryz.prog W 0 (fun _ => true) true ts vs ds ps → (∀ x ∈ ps, x.block < W.heap.size) → DataW.TrodAll enc Tryz.prog W' 0 (fun b => decide (b < W.heap.size)) true ts vs ds ps := by
  intro ts
  induction ts with
  | nil =>
    intro vs ds ps _ h _
    cases vs <;> cases ds <;> simp_all [DataW.TrodAll]
  | cons t ts ih =>
    intro vs ds ps ht h hlt
    obtain ⟨v, vs', d, ds', p, q, rfl, rfl, rfl, h1, h2⟩ := ChangeShapes.trodAll_cons h
    rw [List.all_cons, Bool.and_eq_true, Bool.and_eq_true, decide_eq_true_eq] at ht
    exact ⟨p, q, Below.trod laid_out ht.1.1 ht.1.2 h1 hb (fun x hx => hlt x (List.mem_append_left _ hx)), ih ht.2 h2 (fun x hx => hlt x (List.mem_append_right _ hx)), rfl⟩
set_option maxRecDepth 100000 in
theorem lifted {f : FuncId} {fn : Func} {spec : ChangeSpec} {ts : Array TypeId} (wargs : Array Value) (hf : Tryz.prog.funcs[f]? = some fn) (hno : Tryz.prog.inits.idxOf? f = none) (hp : fn.params = ts) (hr : fn.resultTypes = #[4]) (hv : spec.vars = [])
    (hfn : ∀ {H : Type} {enc : TypeId × Value → H} {W : World} {sp : Nat → Bool} {vs : List Value} {ds : List (DataW H)} {p : List MemPlace}, DataW.TrodAll enc Tryz.prog W 0 sp true ts.toList vs ds p → spec.fn H (ds ++ []) = { results := [.lit (.bool true)], args := ds })
    (hts : (ts.toList.all fun t => Tryz.prog.readableRec t && decide (t < Tryz.prog.types.size)) = true)
    (os : Os) (started : os.Started) (H : Type) (enc : TypeId × Value → H)
    (hw1 : Input.okWideB Tryz.prog ((World.laidAll Tryz.prog os lay).forCall (fun _ _ => 0) ⟨#[], wargs, []⟩) f ⟨#[], wargs, []⟩ = true)
    (hw2 : spec.preB enc Tryz.prog fn [] false ((World.laidAll Tryz.prog os lay).forCall (fun _ _ => 0) ⟨#[], wargs, []⟩).memory wargs 12 = true)
    (hw3 : spec.sizedB enc Tryz.prog fn false ((World.laidAll Tryz.prog os lay).forCall (fun _ _ => 0) ⟨#[], wargs, []⟩).memory wargs 12 = true)
    (hw4 : ((World.laidAll Tryz.prog os lay).forCall (fun _ _ => 0) ⟨#[], wargs, []⟩).Shaped Tryz.prog)
    (law : ∀ (W : World) (base : Nat) (args : Array Value) (ds : List (DataW H)) (p : List MemPlace), (∀ (j : Nat) t v, ts[j]? = some t → args[j]? = some v → Value.okWide Tryz.prog W .any base t v) → DataW.TrodAll enc Tryz.prog W 0 (fun _ => true) true ts.toList args.toList ds p → Glb W →
      Ret Tryz.prog f args W fun u w' => u = .bool true ∧ Below W.heap.size W w') :
    ReturnsInHanded {} Tryz.checked os f .any (fun w args => (spec.pre enc Tryz.prog fn [] false w args ∧ laidMetH Tryz.prog lay w) ∧ sizedMet enc Tryz.prog fn (OpenSpec.ofChange spec) false w args) (spec.post enc Tryz.prog fn false true false false) := by
  refine returnsInHanded_of_calls cz_own started hno (ChangeSpec.witness_shaped (enc := enc) (C := Tryz.checked) (os := os) (X := fun w _ => laidMetH Tryz.prog lay w) false (World.laidAll Tryz.prog os lay) wargs 12 (World.laidAll_os _ _ _) hw4 hw1 hw2 hw3
    (by rw [MakeChecks.laidMetH_plain _ _ _ (by kernel_rfl)]; exact laidMet_laidAll _ (by kernel_rfl) (by kernel_rfl))) ?_
  intro w tape i _ hsh _ hok hpre hholds
  obtain ⟨_, _, _, fn', hfn', _, _, _, _, hval⟩ := hok
  obtain rfl : fn' = fn := Option.some.inj (hfn'.symm.trans hf)
  obtain ⟨⟨⟨ds, gs, before, hw, hc⟩, hx⟩, hz⟩ := hpre
  have hw' := DataW.Whole.of_heap (w' := w.forCall tape i) (by rfl) hw
  have hL : laidMetH Tryz.prog lay (w.forCall tape i) := laidMetH.of_heap (by rfl) hx
  rw [MakeChecks.laidMetH_plain _ _ _ (by kernel_rfl)] at hL
  have hwh := hw'
  obtain ⟨p, q, hA, hV, hb, -, -⟩ := hwh
  rw [hv] at hV
  obtain ⟨rfl, rfl⟩ := ChangeShapes.trodVars_none hV
  rw [hp] at hA hval
  refine (law _ _ _ _ _ hval hA (glb_of hL hsh)).mono fun e W' ⟨u, he, hu, hbel⟩ => ?_
  subst he
  subst hu
  refine ChangeSpec.post_blind ⟨ds, [], before, [], p, [], hw', ?_, ?_, ?_, hbel.frame _, fun h => by cases h⟩
  · rw [hfn hA, hr]
    exact ChangeShapes.trodAll_mk1 (RowKit.shut_bool Tryz.underlying4 _)
  · rw [hfn hA, hp]
    exact stays hbel _ hts hA (fun x hx => by
      have := hw'.lt x (by rw [hb]; exact List.mem_append_left _ hx)
      simpa using this)
  · rw [hfn hA, hv]
    rfl
end Go.Proofs.Ec
