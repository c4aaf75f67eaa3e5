/- The given statement of the law EclipseSpoilt holds: for all its arguments the law returns true and leaves its arguments as they were. Its conditions: the listed tables of the library lie as the program's text lays them (the tie is given). -/
import Derived.Test.YtepjdckdhddfbaaGreatDoorProg
import Derived.Test.YtepjdckdhddfbaaGreatDoorRows
import Derived.Test.YtepjdckdhddfbaaGreatDoorTie
import Derived.Test.YtepjdckdhddfbaaGreatDoorCards
import Derived.Test.YtepjdckdhddfbaaGreatDoorPQb
import Derived.Test.YtepjdckdhddfbaaGreatDoorPCx
import Derived.Test.YtepjdckdhddfbaaGreatDoorPW58
set_option linter.unusedVariables false
set_option linter.unusedSimpArgs false
set_option maxRecDepth 4000
namespace Go.Proofs.Ec
open Go.RowKit Go.Proofs.Sx
open Go Ecl
end Go.Proofs.Ec
namespace Go.Proofs.YtepjdckdhddfbaaGreatDoor
open Go Go.Proofs.Ec Go.Proofs.Sx Ecl
set_option maxRecDepth 100000
theorem eclipseSpoilt_j0 : (Rows.eclipseSpoiltRow.wf (OpenSpec.ofChange Rows.eclipseSpoiltSpec)) = true := by kernel_rfl
theorem eclipseSpoilt_j3 : (Tryz.f5.params.all (Tryz.prog.readableRec ·)) = true := by kernel_rfl
theorem eclipseSpoilt_j4 : (namedTie Tryz.prog Rows.eclipseSpoiltRow.named Rows.eclipseSpoiltSpec.vars) = true := by kernel_rfl
theorem eclipseSpoilt_j5 : ((Rows.eclipseSpoiltRow.stops == [])) = true := by kernel_rfl
theorem eclipseSpoilt_j7 : ((Rows.eclipseSpoiltRow.knobs == [])) = true := by kernel_rfl
theorem eclipseSpoilt_j9 : ((Rows.eclipseSpoiltRow.inPlace == Tryz.prog.inPlace 5)) = true := by kernel_rfl
theorem eclipseSpoilt_j10 : ((Rows.eclipseSpoiltRow.unfollowed == Tryz.prog.unfollowed 5)) = true := by kernel_rfl
theorem eclipseSpoilt_j11 : ((Rows.eclipseSpoiltRow.recurses == Tryz.prog.recurses 5)) = true := by kernel_rfl
theorem eclipseSpoilt_j12 : ((Rows.eclipseSpoiltRow.named == Tryz.prog.varsNamed 5)) = true := by kernel_rfl
theorem eclipseSpoilt_j13 : ((Rows.eclipseSpoiltRow.maps == (Tryz.f5.params.toList ++ Rows.eclipseSpoiltSpec.plain.varTypes Tryz.prog).any (Tryz.prog.mapsRec ·))) = true := by kernel_rfl
theorem eclipseSpoilt_j14 : ((Rows.eclipseSpoiltRow.ifaces == (Tryz.f5.params.toList ++ Rows.eclipseSpoiltSpec.plain.varTypes Tryz.prog).any (Tryz.prog.ifacesRec ·))) = true := by kernel_rfl
theorem eclipseSpoilt_j15 : ((Rows.eclipseSpoiltRow.mapsOut == Tryz.prog.mapsAmong Tryz.f5.resultTypes.toList)) = true := by kernel_rfl
theorem eclipseSpoilt_j16 : ((Rows.eclipseSpoiltRow.loops == (Tryz.f5.params.toList ++ Rows.eclipseSpoiltSpec.plain.varTypes Tryz.prog).any (Tryz.prog.loopsFrom ·))) = true := by kernel_rfl
theorem eclipseSpoilt_j17 : ((Rows.eclipseSpoiltRow.wideKeys == (Tryz.f5.params.toList ++ Rows.eclipseSpoiltSpec.plain.varTypes Tryz.prog ++ Tryz.f5.resultTypes.toList).any (Tryz.prog.wideKeysFrom ·))) = true := by kernel_rfl
theorem eclipseSpoilt_j18 : (Rows.eclipseSpoiltSpec.vars.all (Tryz.prog.varReadable ·)) = true := by kernel_rfl
theorem eclipseSpoilt_j19 : (Tryz.f5.resultTypes.all (fun t => Tryz.prog.readableRec t && decide (t < Tryz.prog.types.size))) = true := by kernel_rfl
theorem eclipseSpoilt_j20 : ((Rows.eclipseSpoiltRow.ifacesOut == Tryz.f5.resultTypes.toList.any (Tryz.prog.ifacesRec ·))) = true := by kernel_rfl
theorem eclipseSpoilt_j21 : ((Rows.eclipseSpoiltRow.loopsOut == Tryz.f5.resultTypes.toList.any (Tryz.prog.loopsFrom ·))) = true := by kernel_rfl
theorem eclipseSpoilt_j22 : ((Rows.eclipseSpoiltRow.plainKeys == Tryz.prog.plainKeys)) = true := by kernel_rfl
theorem eclipseSpoilt_j23 : (Rows.eclipseSpoiltRow.shortTexts.isNone) = true := by kernel_rfl
theorem eclipseSpoilt_j26 : ((Rows.eclipseSpoiltRow.lifted == Tryz.prog.liftsFinal)) = true := by rw [jf_lifts]; rfl
theorem eclipseSpoilt_j27 : ((Tryz.prog.make == some Rows.eclipseSpoiltRow.make)) = true := by kernel_rfl
theorem eclipseSpoilt_j28 : ((Rows.eclipseSpoiltRow.kinds == (if Rows.eclipseSpoiltRow.domain.isEmpty then [] else Tryz.f5.params.toList.map fun t => match Tryz.prog.underlying t with | some (.int k) => some k | _ => none))) = true := by kernel_rfl
theorem eclipseSpoilt_j29 : ((Rows.eclipseSpoiltRow.pinned == Rows.eclipseSpoiltRow.pinnedBy)) = true := by kernel_rfl
theorem eclipseSpoilt_j30 : ((Rows.eclipseSpoiltRow.veiled == (Tryz.f5.params.toList ++ Rows.eclipseSpoiltSpec.plain.varTypes Tryz.prog ++ Tryz.f5.resultTypes.toList).any (Tryz.prog.veiledRec ·))) = true := by kernel_rfl
theorem eclipseSpoilt_j31 : (Rows.eclipseSpoiltRow.veiledFits Tryz.prog Tryz.f5.params.toList (Tryz.f5.params.toList ++ Rows.eclipseSpoiltSpec.plain.varTypes Tryz.prog ++ Tryz.f5.resultTypes.toList)) = true := by kernel_rfl
theorem eclipseSpoilt_fn : Tryz.prog.funcNamed "tellurion/tellurionlaw07.EclipseSpoilt" = some 5 := by kernel_rfl
theorem eclipseSpoilt_goes : false = Rows.eclipseSpoiltRow.goesBy Tryz.prog := by kernel_rfl
theorem eclipseSpoilt_wf : Rows.eclipseSpoiltRow.wfByText (OpenSpec.ofChange Rows.eclipseSpoiltSpec) = true := by kernel_rfl
theorem eclipseSpoilt_said : Rows.EclipseSpoiltSaid :=
  OpenClaim.holds_of_wide 5 Tryz.f5 rfl rfl rfl rfl rfl rfl rfl ⟨rfl, rfl, rfl, rfl, rfl⟩ rfl rfl rfl rfl rfl eclipseSpoilt_fn Tryz.func5 (joined_of _ _ _ _ _ eclipseSpoilt_j0 jf_1 jf_2 eclipseSpoilt_j3 eclipseSpoilt_j4 eclipseSpoilt_j5 jf_6 eclipseSpoilt_j7 jf_8 eclipseSpoilt_j9 eclipseSpoilt_j10 eclipseSpoilt_j11 eclipseSpoilt_j12 eclipseSpoilt_j13 eclipseSpoilt_j14 eclipseSpoilt_j15 eclipseSpoilt_j16 eclipseSpoilt_j17 eclipseSpoilt_j18 eclipseSpoilt_j19 eclipseSpoilt_j20 eclipseSpoilt_j21 eclipseSpoilt_j22 eclipseSpoilt_j23 jf_24 jf_25 eclipseSpoilt_j26 eclipseSpoilt_j27 eclipseSpoilt_j28 eclipseSpoilt_j29 eclipseSpoilt_j30 eclipseSpoilt_j31)
    (of_decide_eq_true (by kernel_rfl)) (by unfold Func.isWrapper; first | (rw [if_pos (by decide +kernel)]; kernel_rfl) | (rw [if_neg (by decide +kernel)]; exact ⟨rfl, rfl⟩))
    (fun os started H enc _ => lifted (spec := Rows.eclipseSpoiltSpec) #[.slice none 0 0, .int .i64 0, .int .i64 0] Tryz.func5 (by kernel_rfl) Tryz.params5 (by kernel_rfl) rfl
      (fun hA => by
        obtain ⟨v0, vs0, d0, ds0, p0, q0, ha, rfl, rfl, h0, r0⟩ := ChangeShapes.trodAll_cons hA
        obtain ⟨v1, vs1, d1, ds1, p1, q1, rfl, rfl, rfl, h1, r1⟩ := ChangeShapes.trodAll_cons r0
        obtain ⟨v2, vs2, d2, ds2, p2, q2, rfl, rfl, rfl, h2, r2⟩ := ChangeShapes.trodAll_cons r1
        obtain ⟨rfl, rfl, rfl⟩ := ChangeShapes.trodAll_nil r2
        rfl)
      (by kernel_rfl) os started H enc (by kernel_rfl) (by kernel_rfl) (by kernel_rfl) (jf_world _ _)
      (fun W base args ds p hval hA hG => by
        obtain ⟨v0, vs0, d0, ds0, p0, q0, ha, rfl, rfl, h0, r0⟩ := ChangeShapes.trodAll_cons hA
        obtain ⟨v1, vs1, d1, ds1, p1, q1, rfl, rfl, rfl, h1, r1⟩ := ChangeShapes.trodAll_cons r0
        obtain ⟨v2, vs2, d2, ds2, p2, q2, rfl, rfl, rfl, h2, r2⟩ := ChangeShapes.trodAll_cons r1
        obtain ⟨rfl, rfl, rfl⟩ := ChangeShapes.trodAll_nil r2
        obtain rfl : args = #[v0, v1, v2] := by cases args; simp_all
        obtain ⟨s0, l0, rfl, hR0⟩ := op_marks (hval 0 22 v0 rfl rfl) h0
        obtain ⟨a1, rfl, hb1⟩ := op_num (hval 1 3 v1 rfl rfl) h1
        obtain ⟨a2, rfl, hb2⟩ := op_num (hval 2 3 v2 rfl rfl) h2
        exact EclipseSpoilt_L s0 l0 a1 a2 W hR0 hG))
theorem eclipseSpoilt_card : Rows.EclipseSpoiltCardSaid :=
  Claim7.holds_tied_plain_at .later [] [.data, .data, .data, .data, .pinned] true (true, "3935588a274329483ec0b5feff908a72916f84273b0dd370d56e5180bf3ed620") true eclipseSpoilt_said (fun _ h => by cases h) eclipseSpoilt_wf (fun _ h => by cases h) eclipseSpoilt_row_tie rfl ⟨rfl, rfl⟩ jf_main rfl
    (fun f fn hf hfn => by
      obtain rfl : f = 5 := Option.some.inj (eclipseSpoilt_fn.symm.trans hf) |>.symm
      obtain rfl : fn = Tryz.f5 := (Option.some.inj (Tryz.func5.symm.trans hfn)).symm
      exact ⟨jf_looks, fun j t ht => by
        rw [Tryz.params5] at ht
        have hm : t ∈ [22, 3, 3] := by simpa using Array.mem_of_getElem? ht
        have hall : ([22, 3, 3].all fun u => !Tryz.prog.wantsStandIn u) = true := by kernel_rfl
        exact (show Tryz.prog.wantsStandIn t = false by simpa using List.all_eq_true.1 hall t hm)⟩)
    eclipseSpoilt_goes
#print axioms eclipseSpoilt_card
end Go.Proofs.YtepjdckdhddfbaaGreatDoor
namespace Go.Proofs.Ec
end Go.Proofs.Ec
