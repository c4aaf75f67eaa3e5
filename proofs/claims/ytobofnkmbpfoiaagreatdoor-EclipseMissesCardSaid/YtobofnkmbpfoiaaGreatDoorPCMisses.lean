/- The given statement of the law EclipseMisses holds: for every engine, all settings and all numbers the law returns true and leaves its arguments as they were. Its conditions: the listed tables of the library lie as the program's text lays them (the tie is given). -/
import Derived.Test.YtobofnkmbpfoiaaGreatDoorProg
import Derived.Test.YtobofnkmbpfoiaaGreatDoorRows
import Derived.Test.YtobofnkmbpfoiaaGreatDoorTie
import Derived.Test.YtobofnkmbpfoiaaGreatDoorCards
import Derived.Test.YtobofnkmbpfoiaaGreatDoorPQb
import Derived.Test.YtobofnkmbpfoiaaGreatDoorPCx
import Derived.Test.YtobofnkmbpfoiaaGreatDoorPW32
set_option linter.unusedVariables false
set_option linter.unusedSimpArgs false
set_option maxRecDepth 4000
namespace Go.Proofs.Ec
open Go.RowKit Go.Proofs.Sx
open Go Ecl
theorem EclipseMisses_L (x : EV) (e : Eng) (s2 : SV) (st : List Int) (d1 d2 lt : Int) (w : World) (hG : RdG w x e) (hS2 : Rd w encI 1 s2.v st) (hGl : Glb w) : Ret Tryz.prog 7 #[.agg #[x.b.v, .int .i64 e.nnum, .int .i64 e.nden, .int .i64 e.nstart, x.s.v, x.m.v, x.n.v, x.f.v, .int .i64 e.new, .int .i64 e.full, .int .i64 e.wide], s2.v, .int .i64 d1, .int .i64 d2, .int .i64 lt] w fun u w' => u = .bool true ∧ Below w.heap.size w w' := by
  cases hb : (isEngine e && isSet e st && (inR d1 1 9000 && inR d2 d1 9000 && decide (d2 - d1 ≤ 400) && inR lt 0 30)) with
  | false => exact EclipseMisses_b x e s2 st d1 d2 lt w hG hS2 hGl hb
  | true =>
    rw [Bool.and_eq_true, Bool.and_eq_true] at hb
    exact EclipseMisses_g x e s2 st d1 d2 lt w ⟨hG, hS2, hb.1.1, hb.1.2⟩ hGl hb.2
end Go.Proofs.Ec
namespace Go.Proofs.YtobofnkmbpfoiaaGreatDoor
open Go Go.Proofs.Ec Go.Proofs.Sx Ecl
set_option maxRecDepth 100000
theorem eclipseMisses_j0 : (Rows.eclipseMissesRow.wf (OpenSpec.ofChange Rows.eclipseMissesSpec)) = true := by kernel_rfl
theorem eclipseMisses_j3 : (Tryz.f7.params.all (Tryz.prog.readableRec ·)) = true := by kernel_rfl
theorem eclipseMisses_j4 : (namedTie Tryz.prog Rows.eclipseMissesRow.named Rows.eclipseMissesSpec.vars) = true := by kernel_rfl
theorem eclipseMisses_j5 : ((Rows.eclipseMissesRow.stops == [])) = true := by kernel_rfl
theorem eclipseMisses_j7 : ((Rows.eclipseMissesRow.knobs == [])) = true := by kernel_rfl
theorem eclipseMisses_j9 : ((Rows.eclipseMissesRow.inPlace == Tryz.prog.inPlace 7)) = true := by kernel_rfl
theorem eclipseMisses_j10 : ((Rows.eclipseMissesRow.unfollowed == Tryz.prog.unfollowed 7)) = true := by kernel_rfl
theorem eclipseMisses_j11 : ((Rows.eclipseMissesRow.recurses == Tryz.prog.recurses 7)) = true := by kernel_rfl
theorem eclipseMisses_j12 : ((Rows.eclipseMissesRow.named == Tryz.prog.varsNamed 7)) = true := by kernel_rfl
theorem eclipseMisses_j13 : ((Rows.eclipseMissesRow.maps == (Tryz.f7.params.toList ++ Rows.eclipseMissesSpec.plain.varTypes Tryz.prog).any (Tryz.prog.mapsRec ·))) = true := by kernel_rfl
theorem eclipseMisses_j14 : ((Rows.eclipseMissesRow.ifaces == (Tryz.f7.params.toList ++ Rows.eclipseMissesSpec.plain.varTypes Tryz.prog).any (Tryz.prog.ifacesRec ·))) = true := by kernel_rfl
theorem eclipseMisses_j15 : ((Rows.eclipseMissesRow.mapsOut == Tryz.prog.mapsAmong Tryz.f7.resultTypes.toList)) = true := by kernel_rfl
theorem eclipseMisses_j16 : ((Rows.eclipseMissesRow.loops == (Tryz.f7.params.toList ++ Rows.eclipseMissesSpec.plain.varTypes Tryz.prog).any (Tryz.prog.loopsFrom ·))) = true := by kernel_rfl
theorem eclipseMisses_j17 : ((Rows.eclipseMissesRow.wideKeys == (Tryz.f7.params.toList ++ Rows.eclipseMissesSpec.plain.varTypes Tryz.prog ++ Tryz.f7.resultTypes.toList).any (Tryz.prog.wideKeysFrom ·))) = true := by kernel_rfl
theorem eclipseMisses_j18 : (Rows.eclipseMissesSpec.vars.all (Tryz.prog.varReadable ·)) = true := by kernel_rfl
theorem eclipseMisses_j19 : (Tryz.f7.resultTypes.all (fun t => Tryz.prog.readableRec t && decide (t < Tryz.prog.types.size))) = true := by kernel_rfl
theorem eclipseMisses_j20 : ((Rows.eclipseMissesRow.ifacesOut == Tryz.f7.resultTypes.toList.any (Tryz.prog.ifacesRec ·))) = true := by kernel_rfl
theorem eclipseMisses_j21 : ((Rows.eclipseMissesRow.loopsOut == Tryz.f7.resultTypes.toList.any (Tryz.prog.loopsFrom ·))) = true := by kernel_rfl
theorem eclipseMisses_j22 : ((Rows.eclipseMissesRow.plainKeys == Tryz.prog.plainKeys)) = true := by kernel_rfl
theorem eclipseMisses_j23 : (Rows.eclipseMissesRow.shortTexts.isNone) = true := by kernel_rfl
theorem eclipseMisses_j26 : ((Rows.eclipseMissesRow.lifted == Tryz.prog.liftsFinal)) = true := by rw [jf_lifts]; rfl
theorem eclipseMisses_j27 : ((Tryz.prog.make == some Rows.eclipseMissesRow.make)) = true := by kernel_rfl
theorem eclipseMisses_j28 : ((Rows.eclipseMissesRow.kinds == (if Rows.eclipseMissesRow.domain.isEmpty then [] else Tryz.f7.params.toList.map fun t => match Tryz.prog.underlying t with | some (.int k) => some k | _ => none))) = true := by kernel_rfl
theorem eclipseMisses_j29 : ((Rows.eclipseMissesRow.pinned == Rows.eclipseMissesRow.pinnedBy)) = true := by kernel_rfl
theorem eclipseMisses_j30 : ((Rows.eclipseMissesRow.veiled == (Tryz.f7.params.toList ++ Rows.eclipseMissesSpec.plain.varTypes Tryz.prog ++ Tryz.f7.resultTypes.toList).any (Tryz.prog.veiledRec ·))) = true := by kernel_rfl
theorem eclipseMisses_j31 : (Rows.eclipseMissesRow.veiledFits Tryz.prog Tryz.f7.params.toList (Tryz.f7.params.toList ++ Rows.eclipseMissesSpec.plain.varTypes Tryz.prog ++ Tryz.f7.resultTypes.toList)) = true := by kernel_rfl
theorem eclipseMisses_fn : Tryz.prog.funcNamed "tellurion/tellurionlaw07.EclipseMisses" = some 7 := by kernel_rfl
theorem eclipseMisses_goes : false = Rows.eclipseMissesRow.goesBy Tryz.prog := by kernel_rfl
theorem eclipseMisses_wf : Rows.eclipseMissesRow.wfByText (OpenSpec.ofChange Rows.eclipseMissesSpec) = true := by kernel_rfl
theorem eclipseMisses_said : Rows.EclipseMissesSaid :=
  OpenClaim.holds_of_wide 7 Tryz.f7 rfl rfl rfl rfl rfl rfl rfl ⟨rfl, rfl, rfl, rfl, rfl⟩ rfl rfl rfl rfl rfl eclipseMisses_fn Tryz.func7 (joined_of _ _ _ _ _ eclipseMisses_j0 jf_1 jf_2 eclipseMisses_j3 eclipseMisses_j4 eclipseMisses_j5 jf_6 eclipseMisses_j7 jf_8 eclipseMisses_j9 eclipseMisses_j10 eclipseMisses_j11 eclipseMisses_j12 eclipseMisses_j13 eclipseMisses_j14 eclipseMisses_j15 eclipseMisses_j16 eclipseMisses_j17 eclipseMisses_j18 eclipseMisses_j19 eclipseMisses_j20 eclipseMisses_j21 eclipseMisses_j22 eclipseMisses_j23 jf_24 jf_25 eclipseMisses_j26 eclipseMisses_j27 eclipseMisses_j28 eclipseMisses_j29 eclipseMisses_j30 eclipseMisses_j31)
    (of_decide_eq_true (by kernel_rfl)) (by unfold Func.isWrapper; first | (rw [if_pos (by decide +kernel)]; kernel_rfl) | (rw [if_neg (by decide +kernel)]; exact ⟨rfl, rfl⟩))
    (fun os started H enc _ => lifted (spec := Rows.eclipseMissesSpec) #[.agg #[.slice none 0 0, .int .i64 0, .int .i64 0, .int .i64 0, .slice none 0 0, .slice none 0 0, .slice none 0 0, .slice none 0 0, .int .i64 0, .int .i64 0, .int .i64 0], .slice none 0 0, .int .i64 0, .int .i64 0, .int .i64 0] Tryz.func7 (by kernel_rfl) Tryz.params7 (by kernel_rfl) rfl
      (fun hA => by
        obtain ⟨v0, vs0, d0, ds0, p0, q0, ha, rfl, rfl, h0, r0⟩ := ChangeShapes.trodAll_cons hA
        obtain ⟨v1, vs1, d1, ds1, p1, q1, rfl, rfl, rfl, h1, r1⟩ := ChangeShapes.trodAll_cons r0
        obtain ⟨v2, vs2, d2, ds2, p2, q2, rfl, rfl, rfl, h2, r2⟩ := ChangeShapes.trodAll_cons r1
        obtain ⟨v3, vs3, d3, ds3, p3, q3, rfl, rfl, rfl, h3, r3⟩ := ChangeShapes.trodAll_cons r2
        obtain ⟨v4, vs4, d4, ds4, p4, q4, rfl, rfl, rfl, h4, r4⟩ := ChangeShapes.trodAll_cons r3
        obtain ⟨rfl, rfl, rfl⟩ := ChangeShapes.trodAll_nil r4
        rfl)
      (by kernel_rfl) os started H enc (by kernel_rfl) (by kernel_rfl) (by kernel_rfl) (jf_world _ _)
      (fun W base args ds p hval hA hG => by
        obtain ⟨v0, vs0, d0, ds0, p0, q0, ha, rfl, rfl, h0, r0⟩ := ChangeShapes.trodAll_cons hA
        obtain ⟨v1, vs1, d1, ds1, p1, q1, rfl, rfl, rfl, h1, r1⟩ := ChangeShapes.trodAll_cons r0
        obtain ⟨v2, vs2, d2, ds2, p2, q2, rfl, rfl, rfl, h2, r2⟩ := ChangeShapes.trodAll_cons r1
        obtain ⟨v3, vs3, d3, ds3, p3, q3, rfl, rfl, rfl, h3, r3⟩ := ChangeShapes.trodAll_cons r2
        obtain ⟨v4, vs4, d4, ds4, p4, q4, rfl, rfl, rfl, h4, r4⟩ := ChangeShapes.trodAll_cons r3
        obtain ⟨rfl, rfl, rfl⟩ := ChangeShapes.trodAll_nil r4
        obtain rfl : args = #[v0, v1, v2, v3, v4] := by cases args; simp_all
        obtain ⟨x, e, rfl, hE⟩ := op_eng (hval 0 32 v0 rfl rfl) h0
        obtain ⟨s2, st, rfl, hS⟩ := op_list (hval 1 30 v1 rfl rfl) h1
        obtain ⟨a2, rfl, hb2⟩ := op_num (hval 2 3 v2 rfl rfl) h2
        obtain ⟨a3, rfl, hb3⟩ := op_num (hval 3 3 v3 rfl rfl) h3
        obtain ⟨a4, rfl, hb4⟩ := op_num (hval 4 3 v4 rfl rfl) h4
        exact EclipseMisses_L x e s2 st a2 a3 a4 W hE hS hG))
theorem eclipseMisses_card : Rows.EclipseMissesCardSaid :=
  Claim7.holds_tied_plain_at .later [] [.data, .data, .data, .data, .pinned] true (true, "539264a627cb68ddccdac5f6e1e21e2c3e7f21e824bfeb59e102ee06b2d34115") true eclipseMisses_said (fun _ h => by cases h) eclipseMisses_wf (fun _ h => by cases h) eclipseMisses_row_tie rfl ⟨rfl, rfl⟩ jf_main rfl
    (fun f fn hf hfn => by
      obtain rfl : f = 7 := Option.some.inj (eclipseMisses_fn.symm.trans hf) |>.symm
      obtain rfl : fn = Tryz.f7 := (Option.some.inj (Tryz.func7.symm.trans hfn)).symm
      exact ⟨jf_looks, fun j t ht => by
        rw [Tryz.params7] at ht
        have hm : t ∈ [32, 30, 3, 3, 3] := by simpa using Array.mem_of_getElem? ht
        have hall : ([32, 30, 3, 3, 3].all fun u => !Tryz.prog.wantsStandIn u) = true := by kernel_rfl
        exact (show Tryz.prog.wantsStandIn t = false by simpa using List.all_eq_true.1 hall t hm)⟩)
    eclipseMisses_goes
#print axioms eclipseMisses_card
end Go.Proofs.YtobofnkmbpfoiaaGreatDoor
namespace Go.Proofs.Ec
end Go.Proofs.Ec
