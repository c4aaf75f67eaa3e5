/- The given statement of the law EclipseMoves holds: for all its arguments the law returns true and leaves its arguments as they were. Its conditions: the listed tables of the library lie as the program's text lays them (the tie is given). -/
import Derived.Test.YtepjdckdhddfbaaGreatDoorProg
import Derived.Test.YtepjdckdhddfbaaGreatDoorRows
import Derived.Test.YtepjdckdhddfbaaGreatDoorTie
import Derived.Test.YtepjdckdhddfbaaGreatDoorCards
import Derived.Test.YtepjdckdhddfbaaGreatDoorPQb
import Derived.Test.YtepjdckdhddfbaaGreatDoorPCx
import Derived.Test.YtepjdckdhddfbaaGreatDoorPW56
set_option linter.unusedVariables false
set_option linter.unusedSimpArgs false
set_option maxRecDepth 4000
namespace Go.Proofs.Ec
open Go.RowKit Go.Proofs.Sx
open Go Ecl
end Go.Proofs.Ec
namespace Go.Proofs.YtepjdckdhddfbaaGreatDoor
open Go Go.Proofs.Ec Go.Proofs.Sx Ecl
set_option maxRecDepth 100000
theorem eclipseMoves_j0 : (Rows.eclipseMovesRow.wf (OpenSpec.ofChange Rows.eclipseMovesSpec)) = true := by kernel_rfl
theorem eclipseMoves_j3 : (Tryz.f9.params.all (Tryz.prog.readableRec ·)) = true := by kernel_rfl
theorem eclipseMoves_j4 : (namedTie Tryz.prog Rows.eclipseMovesRow.named Rows.eclipseMovesSpec.vars) = true := by kernel_rfl
theorem eclipseMoves_j5 : ((Rows.eclipseMovesRow.stops == [])) = true := by kernel_rfl
theorem eclipseMoves_j7 : ((Rows.eclipseMovesRow.knobs == [])) = true := by kernel_rfl
theorem eclipseMoves_j9 : ((Rows.eclipseMovesRow.inPlace == Tryz.prog.inPlace 9)) = true := by kernel_rfl
theorem eclipseMoves_j10 : ((Rows.eclipseMovesRow.unfollowed == Tryz.prog.unfollowed 9)) = true := by kernel_rfl
theorem eclipseMoves_j11 : ((Rows.eclipseMovesRow.recurses == Tryz.prog.recurses 9)) = true := by kernel_rfl
theorem eclipseMoves_j12 : ((Rows.eclipseMovesRow.named == Tryz.prog.varsNamed 9)) = true := by kernel_rfl
theorem eclipseMoves_j13 : ((Rows.eclipseMovesRow.maps == (Tryz.f9.params.toList ++ Rows.eclipseMovesSpec.plain.varTypes Tryz.prog).any (Tryz.prog.mapsRec ·))) = true := by kernel_rfl
theorem eclipseMoves_j14 : ((Rows.eclipseMovesRow.ifaces == (Tryz.f9.params.toList ++ Rows.eclipseMovesSpec.plain.varTypes Tryz.prog).any (Tryz.prog.ifacesRec ·))) = true := by kernel_rfl
theorem eclipseMoves_j15 : ((Rows.eclipseMovesRow.mapsOut == Tryz.prog.mapsAmong Tryz.f9.resultTypes.toList)) = true := by kernel_rfl
theorem eclipseMoves_j16 : ((Rows.eclipseMovesRow.loops == (Tryz.f9.params.toList ++ Rows.eclipseMovesSpec.plain.varTypes Tryz.prog).any (Tryz.prog.loopsFrom ·))) = true := by kernel_rfl
theorem eclipseMoves_j17 : ((Rows.eclipseMovesRow.wideKeys == (Tryz.f9.params.toList ++ Rows.eclipseMovesSpec.plain.varTypes Tryz.prog ++ Tryz.f9.resultTypes.toList).any (Tryz.prog.wideKeysFrom ·))) = true := by kernel_rfl
theorem eclipseMoves_j18 : (Rows.eclipseMovesSpec.vars.all (Tryz.prog.varReadable ·)) = true := by kernel_rfl
theorem eclipseMoves_j19 : (Tryz.f9.resultTypes.all (fun t => Tryz.prog.readableRec t && decide (t < Tryz.prog.types.size))) = true := by kernel_rfl
theorem eclipseMoves_j20 : ((Rows.eclipseMovesRow.ifacesOut == Tryz.f9.resultTypes.toList.any (Tryz.prog.ifacesRec ·))) = true := by kernel_rfl
theorem eclipseMoves_j21 : ((Rows.eclipseMovesRow.loopsOut == Tryz.f9.resultTypes.toList.any (Tryz.prog.loopsFrom ·))) = true := by kernel_rfl
theorem eclipseMoves_j22 : ((Rows.eclipseMovesRow.plainKeys == Tryz.prog.plainKeys)) = true := by kernel_rfl
theorem eclipseMoves_j23 : (Rows.eclipseMovesRow.shortTexts.isNone) = true := by kernel_rfl
theorem eclipseMoves_j26 : ((Rows.eclipseMovesRow.lifted == Tryz.prog.liftsFinal)) = true := by rw [jf_lifts]; rfl
theorem eclipseMoves_j27 : ((Tryz.prog.make == some Rows.eclipseMovesRow.make)) = true := by kernel_rfl
theorem eclipseMoves_j28 : ((Rows.eclipseMovesRow.kinds == (if Rows.eclipseMovesRow.domain.isEmpty then [] else Tryz.f9.params.toList.map fun t => match Tryz.prog.underlying t with | some (.int k) => some k | _ => none))) = true := by kernel_rfl
theorem eclipseMoves_j29 : ((Rows.eclipseMovesRow.pinned == Rows.eclipseMovesRow.pinnedBy)) = true := by kernel_rfl
theorem eclipseMoves_j30 : ((Rows.eclipseMovesRow.veiled == (Tryz.f9.params.toList ++ Rows.eclipseMovesSpec.plain.varTypes Tryz.prog ++ Tryz.f9.resultTypes.toList).any (Tryz.prog.veiledRec ·))) = true := by kernel_rfl
theorem eclipseMoves_j31 : (Rows.eclipseMovesRow.veiledFits Tryz.prog Tryz.f9.params.toList (Tryz.f9.params.toList ++ Rows.eclipseMovesSpec.plain.varTypes Tryz.prog ++ Tryz.f9.resultTypes.toList)) = true := by kernel_rfl
theorem eclipseMoves_fn : Tryz.prog.funcNamed "tellurion/tellurionlaw07.EclipseMoves" = some 9 := by kernel_rfl
theorem eclipseMoves_goes : false = Rows.eclipseMovesRow.goesBy Tryz.prog := by kernel_rfl
theorem eclipseMoves_wf : Rows.eclipseMovesRow.wfByText (OpenSpec.ofChange Rows.eclipseMovesSpec) = true := by kernel_rfl
theorem eclipseMoves_said : Rows.EclipseMovesSaid :=
  OpenClaim.holds_of_wide 9 Tryz.f9 rfl rfl rfl rfl rfl rfl rfl ⟨rfl, rfl, rfl, rfl, rfl⟩ rfl rfl rfl rfl rfl eclipseMoves_fn Tryz.func9 (joined_of _ _ _ _ _ eclipseMoves_j0 jf_1 jf_2 eclipseMoves_j3 eclipseMoves_j4 eclipseMoves_j5 jf_6 eclipseMoves_j7 jf_8 eclipseMoves_j9 eclipseMoves_j10 eclipseMoves_j11 eclipseMoves_j12 eclipseMoves_j13 eclipseMoves_j14 eclipseMoves_j15 eclipseMoves_j16 eclipseMoves_j17 eclipseMoves_j18 eclipseMoves_j19 eclipseMoves_j20 eclipseMoves_j21 eclipseMoves_j22 eclipseMoves_j23 jf_24 jf_25 eclipseMoves_j26 eclipseMoves_j27 eclipseMoves_j28 eclipseMoves_j29 eclipseMoves_j30 eclipseMoves_j31)
    (of_decide_eq_true (by kernel_rfl)) (by unfold Func.isWrapper; first | (rw [if_pos (by decide +kernel)]; kernel_rfl) | (rw [if_neg (by decide +kernel)]; exact ⟨rfl, rfl⟩))
    (fun os started H enc _ => lifted (spec := Rows.eclipseMovesSpec) #[.slice none 0 0, .int .i64 0, .slice none 0 0] Tryz.func9 (by kernel_rfl) Tryz.params9 (by kernel_rfl) rfl
      (fun hA => by
        obtain ⟨v0, vs0, d0, ds0, p0, q0, ha, rfl, rfl, h0, r0⟩ := ChangeShapes.trodAll_cons hA
        obtain ⟨v1, vs1, d1, ds1, p1, q1, rfl, rfl, rfl, h1, r1⟩ := ChangeShapes.trodAll_cons r0
        obtain ⟨v2, vs2, d2, ds2, p2, q2, rfl, rfl, rfl, h2, r2⟩ := ChangeShapes.trodAll_cons r1
        obtain ⟨rfl, rfl, rfl⟩ := ChangeShapes.trodAll_nil r2
        rfl)
      (by kernel_rfl) os started H enc (by kernel_rfl) (by kernel_rfl) (by kernel_rfl) (jf_world _ _)
      (fun W base args ds p hval hA hG => by
        obtain ⟨v0, vs0, d0, ds0, p0, q0, ha, rfl, rfl, h0, r0⟩ := ChangeShapes.trodAll_cons hA
        obtain ⟨v1, vs1, d1, ds1, p1, q1, rfl, rfl, rfl, h1, r1⟩ := ChangeShapes.trodAll_cons r0
        obtain ⟨v2, vs2, d2, ds2, p2, q2, rfl, rfl, rfl, h2, r2⟩ := ChangeShapes.trodAll_cons r1
        obtain ⟨rfl, rfl, rfl⟩ := ChangeShapes.trodAll_nil r2
        obtain rfl : args = #[v0, v1, v2] := by cases args; simp_all
        obtain ⟨s0, l0, rfl, hR0⟩ := op_balls (hval 0 37 v0 rfl rfl) h0
        obtain ⟨a1, rfl, hb1⟩ := op_num (hval 1 3 v1 rfl rfl) h1
        obtain ⟨s2, l2, rfl, hR2⟩ := op_balls (hval 2 37 v2 rfl rfl) h2
        exact EclipseMoves_L s0 l0 a1 s2 l2 W hR0 hR2 hG))
theorem eclipseMoves_card : Rows.EclipseMovesCardSaid :=
  Claim7.holds_tied_plain_at .later [] [.data, .data, .data, .data, .pinned] true (true, "3935588a274329483ec0b5feff908a72916f84273b0dd370d56e5180bf3ed620") true eclipseMoves_said (fun _ h => by cases h) eclipseMoves_wf (fun _ h => by cases h) eclipseMoves_row_tie rfl ⟨rfl, rfl⟩ jf_main rfl
    (fun f fn hf hfn => by
      obtain rfl : f = 9 := Option.some.inj (eclipseMoves_fn.symm.trans hf) |>.symm
      obtain rfl : fn = Tryz.f9 := (Option.some.inj (Tryz.func9.symm.trans hfn)).symm
      exact ⟨jf_looks, fun j t ht => by
        rw [Tryz.params9] at ht
        have hm : t ∈ [37, 3, 37] := by simpa using Array.mem_of_getElem? ht
        have hall : ([37, 3, 37].all fun u => !Tryz.prog.wantsStandIn u) = true := by kernel_rfl
        exact (show Tryz.prog.wantsStandIn t = false by simpa using List.all_eq_true.1 hall t hm)⟩)
    eclipseMoves_goes
#print axioms eclipseMoves_card
end Go.Proofs.YtepjdckdhddfbaaGreatDoor
namespace Go.Proofs.Ec
end Go.Proofs.Ec
