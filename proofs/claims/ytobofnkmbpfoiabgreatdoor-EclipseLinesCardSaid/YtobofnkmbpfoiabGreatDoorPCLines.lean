/- The given statement of the law EclipseLines holds: for all its arguments the law returns true and leaves its arguments as they were. Its conditions: the listed tables of the library lie as the program's text lays them (the tie is given). -/
import Derived.Test.YtobofnkmbpfoiabGreatDoorProg
import Derived.Test.YtobofnkmbpfoiabGreatDoorRows
import Derived.Test.YtobofnkmbpfoiabGreatDoorTie
import Derived.Test.YtobofnkmbpfoiabGreatDoorCards
import Derived.Test.YtobofnkmbpfoiabGreatDoorPQb
import Derived.Test.YtobofnkmbpfoiabGreatDoorPCx
import Derived.Test.YtobofnkmbpfoiabGreatDoorPW54
set_option linter.unusedVariables false
set_option linter.unusedSimpArgs false
set_option maxRecDepth 4000
namespace Go.Proofs.Ec
open Go.RowKit Go.Proofs.Sx
open Go Ecl
end Go.Proofs.Ec
namespace Go.Proofs.YtobofnkmbpfoiabGreatDoor
open Go Go.Proofs.Ec Go.Proofs.Sx Ecl
set_option maxRecDepth 100000
theorem eclipseLines_j0 : (Rows.eclipseLinesRow.wf (OpenSpec.ofChange Rows.eclipseLinesSpec)) = true := by kernel_rfl
theorem eclipseLines_j3 : (Tryz.f7.params.all (Tryz.prog.readableRec ·)) = true := by kernel_rfl
theorem eclipseLines_j4 : (namedTie Tryz.prog Rows.eclipseLinesRow.named Rows.eclipseLinesSpec.vars) = true := by kernel_rfl
theorem eclipseLines_j5 : ((Rows.eclipseLinesRow.stops == [])) = true := by kernel_rfl
theorem eclipseLines_j7 : ((Rows.eclipseLinesRow.knobs == [])) = true := by kernel_rfl
theorem eclipseLines_j9 : ((Rows.eclipseLinesRow.inPlace == Tryz.prog.inPlace 7)) = true := by kernel_rfl
theorem eclipseLines_j10 : ((Rows.eclipseLinesRow.unfollowed == Tryz.prog.unfollowed 7)) = true := by kernel_rfl
theorem eclipseLines_j11 : ((Rows.eclipseLinesRow.recurses == Tryz.prog.recurses 7)) = true := by kernel_rfl
theorem eclipseLines_j12 : ((Rows.eclipseLinesRow.named == Tryz.prog.varsNamed 7)) = true := by kernel_rfl
theorem eclipseLines_j13 : ((Rows.eclipseLinesRow.maps == (Tryz.f7.params.toList ++ Rows.eclipseLinesSpec.plain.varTypes Tryz.prog).any (Tryz.prog.mapsRec ·))) = true := by kernel_rfl
theorem eclipseLines_j14 : ((Rows.eclipseLinesRow.ifaces == (Tryz.f7.params.toList ++ Rows.eclipseLinesSpec.plain.varTypes Tryz.prog).any (Tryz.prog.ifacesRec ·))) = true := by kernel_rfl
theorem eclipseLines_j15 : ((Rows.eclipseLinesRow.mapsOut == Tryz.prog.mapsAmong Tryz.f7.resultTypes.toList)) = true := by kernel_rfl
theorem eclipseLines_j16 : ((Rows.eclipseLinesRow.loops == (Tryz.f7.params.toList ++ Rows.eclipseLinesSpec.plain.varTypes Tryz.prog).any (Tryz.prog.loopsFrom ·))) = true := by kernel_rfl
theorem eclipseLines_j17 : ((Rows.eclipseLinesRow.wideKeys == (Tryz.f7.params.toList ++ Rows.eclipseLinesSpec.plain.varTypes Tryz.prog ++ Tryz.f7.resultTypes.toList).any (Tryz.prog.wideKeysFrom ·))) = true := by kernel_rfl
theorem eclipseLines_j18 : (Rows.eclipseLinesSpec.vars.all (Tryz.prog.varReadable ·)) = true := by kernel_rfl
theorem eclipseLines_j19 : (Tryz.f7.resultTypes.all (fun t => Tryz.prog.readableRec t && decide (t < Tryz.prog.types.size))) = true := by kernel_rfl
theorem eclipseLines_j20 : ((Rows.eclipseLinesRow.ifacesOut == Tryz.f7.resultTypes.toList.any (Tryz.prog.ifacesRec ·))) = true := by kernel_rfl
theorem eclipseLines_j21 : ((Rows.eclipseLinesRow.loopsOut == Tryz.f7.resultTypes.toList.any (Tryz.prog.loopsFrom ·))) = true := by kernel_rfl
theorem eclipseLines_j22 : ((Rows.eclipseLinesRow.plainKeys == Tryz.prog.plainKeys)) = true := by kernel_rfl
theorem eclipseLines_j23 : (Rows.eclipseLinesRow.shortTexts.isNone) = true := by kernel_rfl
theorem eclipseLines_j26 : ((Rows.eclipseLinesRow.lifted == Tryz.prog.liftsFinal)) = true := by rw [jf_lifts]; rfl
theorem eclipseLines_j27 : ((Tryz.prog.make == some Rows.eclipseLinesRow.make)) = true := by kernel_rfl
theorem eclipseLines_j28 : ((Rows.eclipseLinesRow.kinds == (if Rows.eclipseLinesRow.domain.isEmpty then [] else Tryz.f7.params.toList.map fun t => match Tryz.prog.underlying t with | some (.int k) => some k | _ => none))) = true := by kernel_rfl
theorem eclipseLines_j29 : ((Rows.eclipseLinesRow.pinned == Rows.eclipseLinesRow.pinnedBy)) = true := by kernel_rfl
theorem eclipseLines_j30 : ((Rows.eclipseLinesRow.veiled == (Tryz.f7.params.toList ++ Rows.eclipseLinesSpec.plain.varTypes Tryz.prog ++ Tryz.f7.resultTypes.toList).any (Tryz.prog.veiledRec ·))) = true := by kernel_rfl
theorem eclipseLines_j31 : (Rows.eclipseLinesRow.veiledFits Tryz.prog Tryz.f7.params.toList (Tryz.f7.params.toList ++ Rows.eclipseLinesSpec.plain.varTypes Tryz.prog ++ Tryz.f7.resultTypes.toList)) = true := by kernel_rfl
theorem eclipseLines_fn : Tryz.prog.funcNamed "tellurion/tellurionlaw07.EclipseLines" = some 7 := by kernel_rfl
theorem eclipseLines_goes : false = Rows.eclipseLinesRow.goesBy Tryz.prog := by kernel_rfl
theorem eclipseLines_wf : Rows.eclipseLinesRow.wfByText (OpenSpec.ofChange Rows.eclipseLinesSpec) = true := by kernel_rfl
theorem eclipseLines_said : Rows.EclipseLinesSaid :=
  OpenClaim.holds_of_wide 7 Tryz.f7 rfl rfl rfl rfl rfl rfl rfl ⟨rfl, rfl, rfl, rfl, rfl⟩ rfl rfl rfl rfl rfl eclipseLines_fn Tryz.func7 (joined_of _ _ _ _ _ eclipseLines_j0 jf_1 jf_2 eclipseLines_j3 eclipseLines_j4 eclipseLines_j5 jf_6 eclipseLines_j7 jf_8 eclipseLines_j9 eclipseLines_j10 eclipseLines_j11 eclipseLines_j12 eclipseLines_j13 eclipseLines_j14 eclipseLines_j15 eclipseLines_j16 eclipseLines_j17 eclipseLines_j18 eclipseLines_j19 eclipseLines_j20 eclipseLines_j21 eclipseLines_j22 eclipseLines_j23 jf_24 jf_25 eclipseLines_j26 eclipseLines_j27 eclipseLines_j28 eclipseLines_j29 eclipseLines_j30 eclipseLines_j31)
    (of_decide_eq_true (by kernel_rfl)) (by unfold Func.isWrapper; first | (rw [if_pos (by decide +kernel)]; kernel_rfl) | (rw [if_neg (by decide +kernel)]; exact ⟨rfl, rfl⟩))
    (fun os started H enc _ => lifted (spec := Rows.eclipseLinesSpec) #[.slice none 0 0, .int .i64 0, .int .i64 0, .int .i64 0, .int .i64 0, .int .i64 0] Tryz.func7 (by kernel_rfl) Tryz.params7 (by kernel_rfl) rfl
      (fun hA => by
        obtain ⟨v0, vs0, d0, ds0, p0, q0, ha, rfl, rfl, h0, r0⟩ := ChangeShapes.trodAll_cons hA
        obtain ⟨v1, vs1, d1, ds1, p1, q1, rfl, rfl, rfl, h1, r1⟩ := ChangeShapes.trodAll_cons r0
        obtain ⟨v2, vs2, d2, ds2, p2, q2, rfl, rfl, rfl, h2, r2⟩ := ChangeShapes.trodAll_cons r1
        obtain ⟨v3, vs3, d3, ds3, p3, q3, rfl, rfl, rfl, h3, r3⟩ := ChangeShapes.trodAll_cons r2
        obtain ⟨v4, vs4, d4, ds4, p4, q4, rfl, rfl, rfl, h4, r4⟩ := ChangeShapes.trodAll_cons r3
        obtain ⟨v5, vs5, d5, ds5, p5, q5, rfl, rfl, rfl, h5, r5⟩ := ChangeShapes.trodAll_cons r4
        obtain ⟨rfl, rfl, rfl⟩ := ChangeShapes.trodAll_nil r5
        rfl)
      (by kernel_rfl) os started H enc (by kernel_rfl) (by kernel_rfl) (by kernel_rfl) (jf_world _ _)
      (fun W base args ds p hval hA hG => by
        obtain ⟨v0, vs0, d0, ds0, p0, q0, ha, rfl, rfl, h0, r0⟩ := ChangeShapes.trodAll_cons hA
        obtain ⟨v1, vs1, d1, ds1, p1, q1, rfl, rfl, rfl, h1, r1⟩ := ChangeShapes.trodAll_cons r0
        obtain ⟨v2, vs2, d2, ds2, p2, q2, rfl, rfl, rfl, h2, r2⟩ := ChangeShapes.trodAll_cons r1
        obtain ⟨v3, vs3, d3, ds3, p3, q3, rfl, rfl, rfl, h3, r3⟩ := ChangeShapes.trodAll_cons r2
        obtain ⟨v4, vs4, d4, ds4, p4, q4, rfl, rfl, rfl, h4, r4⟩ := ChangeShapes.trodAll_cons r3
        obtain ⟨v5, vs5, d5, ds5, p5, q5, rfl, rfl, rfl, h5, r5⟩ := ChangeShapes.trodAll_cons r4
        obtain ⟨rfl, rfl, rfl⟩ := ChangeShapes.trodAll_nil r5
        obtain rfl : args = #[v0, v1, v2, v3, v4, v5] := by cases args; simp_all
        obtain ⟨s0, l0, rfl, hR0⟩ := op_balls (hval 0 37 v0 rfl rfl) h0
        obtain ⟨a1, rfl, hb1⟩ := op_num (hval 1 3 v1 rfl rfl) h1
        obtain ⟨a2, rfl, hb2⟩ := op_num (hval 2 3 v2 rfl rfl) h2
        obtain ⟨a3, rfl, hb3⟩ := op_num (hval 3 3 v3 rfl rfl) h3
        obtain ⟨a4, rfl, hb4⟩ := op_num (hval 4 3 v4 rfl rfl) h4
        obtain ⟨a5, rfl, hb5⟩ := op_num (hval 5 3 v5 rfl rfl) h5
        exact EclipseLines_L s0 l0 a1 a2 a3 a4 a5 W hR0 hG))
theorem eclipseLines_card : Rows.EclipseLinesCardSaid :=
  Claim7.holds_tied_plain_at .later [] [.data, .data, .data, .data, .pinned] true (true, "3935588a274329483ec0b5feff908a72916f84273b0dd370d56e5180bf3ed620") true eclipseLines_said (fun _ h => by cases h) eclipseLines_wf (fun _ h => by cases h) eclipseLines_row_tie rfl ⟨rfl, rfl⟩ jf_main rfl
    (fun f fn hf hfn => by
      obtain rfl : f = 7 := Option.some.inj (eclipseLines_fn.symm.trans hf) |>.symm
      obtain rfl : fn = Tryz.f7 := (Option.some.inj (Tryz.func7.symm.trans hfn)).symm
      exact ⟨jf_looks, fun j t ht => by
        rw [Tryz.params7] at ht
        have hm : t ∈ [37, 3, 3, 3, 3, 3] := by simpa using Array.mem_of_getElem? ht
        have hall : ([37, 3, 3, 3, 3, 3].all fun u => !Tryz.prog.wantsStandIn u) = true := by kernel_rfl
        exact (show Tryz.prog.wantsStandIn t = false by simpa using List.all_eq_true.1 hall t hm)⟩)
    eclipseLines_goes
#print axioms eclipseLines_card
end Go.Proofs.YtobofnkmbpfoiabGreatDoor
namespace Go.Proofs.Ec
end Go.Proofs.Ec
