/- The given statement of the law EclipsePrints holds: for all its arguments the law returns true and leaves its arguments as they were. Its conditions: the listed tables of the library lie as the program's text lays them (the tie is given). -/
import Derived.Test.YtobofnkmbpfoiabGreatDoorProg
import Derived.Test.YtobofnkmbpfoiabGreatDoorRows
import Derived.Test.YtobofnkmbpfoiabGreatDoorTie
import Derived.Test.YtobofnkmbpfoiabGreatDoorCards
import Derived.Test.YtobofnkmbpfoiabGreatDoorPQb
import Derived.Test.YtobofnkmbpfoiabGreatDoorPCx
import Derived.Test.YtobofnkmbpfoiabGreatDoorPW52
set_option linter.unusedVariables false
set_option linter.unusedSimpArgs false
set_option maxRecDepth 4000
namespace Go.Proofs.Ec
open Go.RowKit Go.Proofs.Sx
open Go Ecl
end Go.Proofs.Ec
namespace Go.Proofs.YtobofnkmbpfoiabGreatDoor
open Go Go.Proofs.Ec Go.Proofs.Sx Ecl
set_option maxRecDepth 100000
theorem eclipsePrints_j0 : (Rows.eclipsePrintsRow.wf (OpenSpec.ofChange Rows.eclipsePrintsSpec)) = true := by kernel_rfl
theorem eclipsePrints_j3 : (Tryz.f3.params.all (Tryz.prog.readableRec ·)) = true := by kernel_rfl
theorem eclipsePrints_j4 : (namedTie Tryz.prog Rows.eclipsePrintsRow.named Rows.eclipsePrintsSpec.vars) = true := by kernel_rfl
theorem eclipsePrints_j5 : ((Rows.eclipsePrintsRow.stops == [])) = true := by kernel_rfl
theorem eclipsePrints_j7 : ((Rows.eclipsePrintsRow.knobs == [])) = true := by kernel_rfl
theorem eclipsePrints_j9 : ((Rows.eclipsePrintsRow.inPlace == Tryz.prog.inPlace 3)) = true := by kernel_rfl
theorem eclipsePrints_j10 : ((Rows.eclipsePrintsRow.unfollowed == Tryz.prog.unfollowed 3)) = true := by kernel_rfl
theorem eclipsePrints_j11 : ((Rows.eclipsePrintsRow.recurses == Tryz.prog.recurses 3)) = true := by kernel_rfl
theorem eclipsePrints_j12 : ((Rows.eclipsePrintsRow.named == Tryz.prog.varsNamed 3)) = true := by kernel_rfl
theorem eclipsePrints_j13 : ((Rows.eclipsePrintsRow.maps == (Tryz.f3.params.toList ++ Rows.eclipsePrintsSpec.plain.varTypes Tryz.prog).any (Tryz.prog.mapsRec ·))) = true := by kernel_rfl
theorem eclipsePrints_j14 : ((Rows.eclipsePrintsRow.ifaces == (Tryz.f3.params.toList ++ Rows.eclipsePrintsSpec.plain.varTypes Tryz.prog).any (Tryz.prog.ifacesRec ·))) = true := by kernel_rfl
theorem eclipsePrints_j15 : ((Rows.eclipsePrintsRow.mapsOut == Tryz.prog.mapsAmong Tryz.f3.resultTypes.toList)) = true := by kernel_rfl
theorem eclipsePrints_j16 : ((Rows.eclipsePrintsRow.loops == (Tryz.f3.params.toList ++ Rows.eclipsePrintsSpec.plain.varTypes Tryz.prog).any (Tryz.prog.loopsFrom ·))) = true := by kernel_rfl
theorem eclipsePrints_j17 : ((Rows.eclipsePrintsRow.wideKeys == (Tryz.f3.params.toList ++ Rows.eclipsePrintsSpec.plain.varTypes Tryz.prog ++ Tryz.f3.resultTypes.toList).any (Tryz.prog.wideKeysFrom ·))) = true := by kernel_rfl
theorem eclipsePrints_j18 : (Rows.eclipsePrintsSpec.vars.all (Tryz.prog.varReadable ·)) = true := by kernel_rfl
theorem eclipsePrints_j19 : (Tryz.f3.resultTypes.all (fun t => Tryz.prog.readableRec t && decide (t < Tryz.prog.types.size))) = true := by kernel_rfl
theorem eclipsePrints_j20 : ((Rows.eclipsePrintsRow.ifacesOut == Tryz.f3.resultTypes.toList.any (Tryz.prog.ifacesRec ·))) = true := by kernel_rfl
theorem eclipsePrints_j21 : ((Rows.eclipsePrintsRow.loopsOut == Tryz.f3.resultTypes.toList.any (Tryz.prog.loopsFrom ·))) = true := by kernel_rfl
theorem eclipsePrints_j22 : ((Rows.eclipsePrintsRow.plainKeys == Tryz.prog.plainKeys)) = true := by kernel_rfl
theorem eclipsePrints_j23 : (Rows.eclipsePrintsRow.shortTexts.isNone) = true := by kernel_rfl
theorem eclipsePrints_j26 : ((Rows.eclipsePrintsRow.lifted == Tryz.prog.liftsFinal)) = true := by rw [jf_lifts]; rfl
theorem eclipsePrints_j27 : ((Tryz.prog.make == some Rows.eclipsePrintsRow.make)) = true := by kernel_rfl
theorem eclipsePrints_j28 : ((Rows.eclipsePrintsRow.kinds == (if Rows.eclipsePrintsRow.domain.isEmpty then [] else Tryz.f3.params.toList.map fun t => match Tryz.prog.underlying t with | some (.int k) => some k | _ => none))) = true := by kernel_rfl
theorem eclipsePrints_j29 : ((Rows.eclipsePrintsRow.pinned == Rows.eclipsePrintsRow.pinnedBy)) = true := by kernel_rfl
theorem eclipsePrints_j30 : ((Rows.eclipsePrintsRow.veiled == (Tryz.f3.params.toList ++ Rows.eclipsePrintsSpec.plain.varTypes Tryz.prog ++ Tryz.f3.resultTypes.toList).any (Tryz.prog.veiledRec ·))) = true := by kernel_rfl
theorem eclipsePrints_j31 : (Rows.eclipsePrintsRow.veiledFits Tryz.prog Tryz.f3.params.toList (Tryz.f3.params.toList ++ Rows.eclipsePrintsSpec.plain.varTypes Tryz.prog ++ Tryz.f3.resultTypes.toList)) = true := by kernel_rfl
theorem eclipsePrints_fn : Tryz.prog.funcNamed "tellurion/tellurionlaw07.EclipsePrints" = some 3 := by kernel_rfl
theorem eclipsePrints_goes : false = Rows.eclipsePrintsRow.goesBy Tryz.prog := by kernel_rfl
theorem eclipsePrints_wf : Rows.eclipsePrintsRow.wfByText (OpenSpec.ofChange Rows.eclipsePrintsSpec) = true := by kernel_rfl
theorem eclipsePrints_said : Rows.EclipsePrintsSaid :=
  OpenClaim.holds_of_wide 3 Tryz.f3 rfl rfl rfl rfl rfl rfl rfl ⟨rfl, rfl, rfl, rfl, rfl⟩ rfl rfl rfl rfl rfl eclipsePrints_fn Tryz.func3 (joined_of _ _ _ _ _ eclipsePrints_j0 jf_1 jf_2 eclipsePrints_j3 eclipsePrints_j4 eclipsePrints_j5 jf_6 eclipsePrints_j7 jf_8 eclipsePrints_j9 eclipsePrints_j10 eclipsePrints_j11 eclipsePrints_j12 eclipsePrints_j13 eclipsePrints_j14 eclipsePrints_j15 eclipsePrints_j16 eclipsePrints_j17 eclipsePrints_j18 eclipsePrints_j19 eclipsePrints_j20 eclipsePrints_j21 eclipsePrints_j22 eclipsePrints_j23 jf_24 jf_25 eclipsePrints_j26 eclipsePrints_j27 eclipsePrints_j28 eclipsePrints_j29 eclipsePrints_j30 eclipsePrints_j31)
    (of_decide_eq_true (by kernel_rfl)) (by unfold Func.isWrapper; first | (rw [if_pos (by decide +kernel)]; kernel_rfl) | (rw [if_neg (by decide +kernel)]; exact ⟨rfl, rfl⟩))
    (fun os started H enc _ => lifted (spec := Rows.eclipsePrintsSpec) #[.slice none 0 0] Tryz.func3 (by kernel_rfl) Tryz.params3 (by kernel_rfl) rfl
      (fun hA => by
        obtain ⟨v0, vs0, d0, ds0, p0, q0, ha, rfl, rfl, h0, r0⟩ := ChangeShapes.trodAll_cons hA
        obtain ⟨rfl, rfl, rfl⟩ := ChangeShapes.trodAll_nil r0
        rfl)
      (by kernel_rfl) os started H enc (by kernel_rfl) (by kernel_rfl) (by kernel_rfl) (jf_world _ _)
      (fun W base args ds p hval hA hG => by
        obtain ⟨v0, vs0, d0, ds0, p0, q0, ha, rfl, rfl, h0, r0⟩ := ChangeShapes.trodAll_cons hA
        obtain ⟨rfl, rfl, rfl⟩ := ChangeShapes.trodAll_nil r0
        obtain rfl : args = #[v0] := by cases args; simp_all
        obtain ⟨s0, l0, rfl, hR0⟩ := op_marks (hval 0 22 v0 rfl rfl) h0
        exact EclipsePrints_L s0 l0 W hR0 hG))
theorem eclipsePrints_card : Rows.EclipsePrintsCardSaid :=
  Claim7.holds_tied_plain_at .later [] [.data, .data, .data, .data, .pinned] true (true, "3935588a274329483ec0b5feff908a72916f84273b0dd370d56e5180bf3ed620") true eclipsePrints_said (fun _ h => by cases h) eclipsePrints_wf (fun _ h => by cases h) eclipsePrints_row_tie rfl ⟨rfl, rfl⟩ jf_main rfl
    (fun f fn hf hfn => by
      obtain rfl : f = 3 := Option.some.inj (eclipsePrints_fn.symm.trans hf) |>.symm
      obtain rfl : fn = Tryz.f3 := (Option.some.inj (Tryz.func3.symm.trans hfn)).symm
      exact ⟨jf_looks, fun j t ht => by
        rw [Tryz.params3] at ht
        have hm : t ∈ [22] := by simpa using Array.mem_of_getElem? ht
        have hall : ([22].all fun u => !Tryz.prog.wantsStandIn u) = true := by kernel_rfl
        exact (show Tryz.prog.wantsStandIn t = false by simpa using List.all_eq_true.1 hall t hm)⟩)
    eclipsePrints_goes
#print axioms eclipsePrints_card
end Go.Proofs.YtobofnkmbpfoiabGreatDoor
namespace Go.Proofs.Ec
end Go.Proofs.Ec
