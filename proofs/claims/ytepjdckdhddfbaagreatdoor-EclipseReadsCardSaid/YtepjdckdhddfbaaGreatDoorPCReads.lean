/- The given statement of the law EclipseReads holds: for all its arguments the law returns true and leaves its arguments as they were. Its conditions: the listed tables of the library lie as the program's text lays them (the tie is given). -/
import Derived.Test.YtepjdckdhddfbaaGreatDoorProg
import Derived.Test.YtepjdckdhddfbaaGreatDoorRows
import Derived.Test.YtepjdckdhddfbaaGreatDoorTie
import Derived.Test.YtepjdckdhddfbaaGreatDoorCards
import Derived.Test.YtepjdckdhddfbaaGreatDoorPQb
import Derived.Test.YtepjdckdhddfbaaGreatDoorPCx
import Derived.Test.YtepjdckdhddfbaaGreatDoorPW57
set_option linter.unusedVariables false
set_option linter.unusedSimpArgs false
set_option maxRecDepth 4000
namespace Go.Proofs.Ec
open Go.RowKit Go.Proofs.Sx
open Go Ecl
end Go.Proofs.Ec
namespace Go.Proofs.YtepjdckdhddfbaaGreatDoor
open Go Go.Proofs.Ec Go.Proofs.Sx Ecl
set_option maxRecDepth 100000
theorem eclipseReads_j0 : (Rows.eclipseReadsRow.wf (OpenSpec.ofChange Rows.eclipseReadsSpec)) = true := by kernel_rfl
theorem eclipseReads_j3 : (Tryz.f4.params.all (Tryz.prog.readableRec ·)) = true := by kernel_rfl
theorem eclipseReads_j4 : (namedTie Tryz.prog Rows.eclipseReadsRow.named Rows.eclipseReadsSpec.vars) = true := by kernel_rfl
theorem eclipseReads_j5 : ((Rows.eclipseReadsRow.stops == [])) = true := by kernel_rfl
theorem eclipseReads_j7 : ((Rows.eclipseReadsRow.knobs == [])) = true := by kernel_rfl
theorem eclipseReads_j9 : ((Rows.eclipseReadsRow.inPlace == Tryz.prog.inPlace 4)) = true := by kernel_rfl
theorem eclipseReads_j10 : ((Rows.eclipseReadsRow.unfollowed == Tryz.prog.unfollowed 4)) = true := by kernel_rfl
theorem eclipseReads_j11 : ((Rows.eclipseReadsRow.recurses == Tryz.prog.recurses 4)) = true := by kernel_rfl
theorem eclipseReads_j12 : ((Rows.eclipseReadsRow.named == Tryz.prog.varsNamed 4)) = true := by kernel_rfl
theorem eclipseReads_j13 : ((Rows.eclipseReadsRow.maps == (Tryz.f4.params.toList ++ Rows.eclipseReadsSpec.plain.varTypes Tryz.prog).any (Tryz.prog.mapsRec ·))) = true := by kernel_rfl
theorem eclipseReads_j14 : ((Rows.eclipseReadsRow.ifaces == (Tryz.f4.params.toList ++ Rows.eclipseReadsSpec.plain.varTypes Tryz.prog).any (Tryz.prog.ifacesRec ·))) = true := by kernel_rfl
theorem eclipseReads_j15 : ((Rows.eclipseReadsRow.mapsOut == Tryz.prog.mapsAmong Tryz.f4.resultTypes.toList)) = true := by kernel_rfl
theorem eclipseReads_j16 : ((Rows.eclipseReadsRow.loops == (Tryz.f4.params.toList ++ Rows.eclipseReadsSpec.plain.varTypes Tryz.prog).any (Tryz.prog.loopsFrom ·))) = true := by kernel_rfl
theorem eclipseReads_j17 : ((Rows.eclipseReadsRow.wideKeys == (Tryz.f4.params.toList ++ Rows.eclipseReadsSpec.plain.varTypes Tryz.prog ++ Tryz.f4.resultTypes.toList).any (Tryz.prog.wideKeysFrom ·))) = true := by kernel_rfl
theorem eclipseReads_j18 : (Rows.eclipseReadsSpec.vars.all (Tryz.prog.varReadable ·)) = true := by kernel_rfl
theorem eclipseReads_j19 : (Tryz.f4.resultTypes.all (fun t => Tryz.prog.readableRec t && decide (t < Tryz.prog.types.size))) = true := by kernel_rfl
theorem eclipseReads_j20 : ((Rows.eclipseReadsRow.ifacesOut == Tryz.f4.resultTypes.toList.any (Tryz.prog.ifacesRec ·))) = true := by kernel_rfl
theorem eclipseReads_j21 : ((Rows.eclipseReadsRow.loopsOut == Tryz.f4.resultTypes.toList.any (Tryz.prog.loopsFrom ·))) = true := by kernel_rfl
theorem eclipseReads_j22 : ((Rows.eclipseReadsRow.plainKeys == Tryz.prog.plainKeys)) = true := by kernel_rfl
theorem eclipseReads_j23 : (Rows.eclipseReadsRow.shortTexts.isNone) = true := by kernel_rfl
theorem eclipseReads_j26 : ((Rows.eclipseReadsRow.lifted == Tryz.prog.liftsFinal)) = true := by rw [jf_lifts]; rfl
theorem eclipseReads_j27 : ((Tryz.prog.make == some Rows.eclipseReadsRow.make)) = true := by kernel_rfl
theorem eclipseReads_j28 : ((Rows.eclipseReadsRow.kinds == (if Rows.eclipseReadsRow.domain.isEmpty then [] else Tryz.f4.params.toList.map fun t => match Tryz.prog.underlying t with | some (.int k) => some k | _ => none))) = true := by kernel_rfl
theorem eclipseReads_j29 : ((Rows.eclipseReadsRow.pinned == Rows.eclipseReadsRow.pinnedBy)) = true := by kernel_rfl
theorem eclipseReads_j30 : ((Rows.eclipseReadsRow.veiled == (Tryz.f4.params.toList ++ Rows.eclipseReadsSpec.plain.varTypes Tryz.prog ++ Tryz.f4.resultTypes.toList).any (Tryz.prog.veiledRec ·))) = true := by kernel_rfl
theorem eclipseReads_j31 : (Rows.eclipseReadsRow.veiledFits Tryz.prog Tryz.f4.params.toList (Tryz.f4.params.toList ++ Rows.eclipseReadsSpec.plain.varTypes Tryz.prog ++ Tryz.f4.resultTypes.toList)) = true := by kernel_rfl
theorem eclipseReads_fn : Tryz.prog.funcNamed "tellurion/tellurionlaw07.EclipseReads" = some 4 := by kernel_rfl
theorem eclipseReads_goes : false = Rows.eclipseReadsRow.goesBy Tryz.prog := by kernel_rfl
theorem eclipseReads_wf : Rows.eclipseReadsRow.wfByText (OpenSpec.ofChange Rows.eclipseReadsSpec) = true := by kernel_rfl
theorem eclipseReads_said : Rows.EclipseReadsSaid :=
  OpenClaim.holds_of_wide 4 Tryz.f4 rfl rfl rfl rfl rfl rfl rfl ⟨rfl, rfl, rfl, rfl, rfl⟩ rfl rfl rfl rfl rfl eclipseReads_fn Tryz.func4 (joined_of _ _ _ _ _ eclipseReads_j0 jf_1 jf_2 eclipseReads_j3 eclipseReads_j4 eclipseReads_j5 jf_6 eclipseReads_j7 jf_8 eclipseReads_j9 eclipseReads_j10 eclipseReads_j11 eclipseReads_j12 eclipseReads_j13 eclipseReads_j14 eclipseReads_j15 eclipseReads_j16 eclipseReads_j17 eclipseReads_j18 eclipseReads_j19 eclipseReads_j20 eclipseReads_j21 eclipseReads_j22 eclipseReads_j23 jf_24 jf_25 eclipseReads_j26 eclipseReads_j27 eclipseReads_j28 eclipseReads_j29 eclipseReads_j30 eclipseReads_j31)
    (of_decide_eq_true (by kernel_rfl)) (by unfold Func.isWrapper; first | (rw [if_pos (by decide +kernel)]; kernel_rfl) | (rw [if_neg (by decide +kernel)]; exact ⟨rfl, rfl⟩))
    (fun os started H enc _ => lifted (spec := Rows.eclipseReadsSpec) #[.string ⟨#[]⟩] Tryz.func4 (by kernel_rfl) Tryz.params4 (by kernel_rfl) rfl
      (fun hA => by
        obtain ⟨v0, vs0, d0, ds0, p0, q0, ha, rfl, rfl, h0, r0⟩ := ChangeShapes.trodAll_cons hA
        obtain ⟨rfl, rfl, rfl⟩ := ChangeShapes.trodAll_nil r0
        rfl)
      (by kernel_rfl) os started H enc (by kernel_rfl) (by kernel_rfl) (by kernel_rfl) (jf_world _ _)
      (fun W base args ds p hval hA hG => by
        obtain ⟨v0, vs0, d0, ds0, p0, q0, ha, rfl, rfl, h0, r0⟩ := ChangeShapes.trodAll_cons hA
        obtain ⟨rfl, rfl, rfl⟩ := ChangeShapes.trodAll_nil r0
        obtain rfl : args = #[v0] := by cases args; simp_all
        obtain ⟨a0, rfl⟩ := WideShapes.okWide_string Tryz.underlying9 (hval 0 9 v0 rfl rfl)
        exact EclipseReads_L a0 W  hG))
theorem eclipseReads_card : Rows.EclipseReadsCardSaid :=
  Claim7.holds_tied_plain_at .later [] [.data, .data, .data, .data, .pinned] true (true, "3935588a274329483ec0b5feff908a72916f84273b0dd370d56e5180bf3ed620") true eclipseReads_said (fun _ h => by cases h) eclipseReads_wf (fun _ h => by cases h) eclipseReads_row_tie rfl ⟨rfl, rfl⟩ jf_main rfl
    (fun f fn hf hfn => by
      obtain rfl : f = 4 := Option.some.inj (eclipseReads_fn.symm.trans hf) |>.symm
      obtain rfl : fn = Tryz.f4 := (Option.some.inj (Tryz.func4.symm.trans hfn)).symm
      exact ⟨jf_looks, fun j t ht => by
        rw [Tryz.params4] at ht
        have hm : t ∈ [9] := by simpa using Array.mem_of_getElem? ht
        have hall : ([9].all fun u => !Tryz.prog.wantsStandIn u) = true := by kernel_rfl
        exact (show Tryz.prog.wantsStandIn t = false by simpa using List.all_eq_true.1 hall t hm)⟩)
    eclipseReads_goes
#print axioms eclipseReads_card
end Go.Proofs.YtepjdckdhddfbaaGreatDoor
namespace Go.Proofs.Ec
end Go.Proofs.Ec
