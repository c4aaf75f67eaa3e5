/- The given statement of the law EclipseShades holds: for all its arguments the law returns true and leaves its arguments as they were. Its conditions: the listed tables of the library lie as the program's text lays them (the tie is given). -/
import Derived.Test.YtobofnkmbpfoiabGreatDoorProg
import Derived.Test.YtobofnkmbpfoiabGreatDoorRows
import Derived.Test.YtobofnkmbpfoiabGreatDoorTie
import Derived.Test.YtobofnkmbpfoiabGreatDoorCards
import Derived.Test.YtobofnkmbpfoiabGreatDoorPQb
import Derived.Test.YtobofnkmbpfoiabGreatDoorPCx
import Derived.Test.YtobofnkmbpfoiabGreatDoorPW51
set_option linter.unusedVariables false
set_option linter.unusedSimpArgs false
set_option maxRecDepth 4000
namespace Go.Proofs.Ec
open Go.RowKit Go.Proofs.Sx
open Go Ecl
end Go.Proofs.Ec
namespace Go.Proofs.YtobofnkmbpfoiabGreatDoor
open Go Go.Proofs.Ec Go.Proofs.Sx Ecl
set_option maxRecDepth 100000
theorem eclipseShades_j0 : (Rows.eclipseShadesRow.wf (OpenSpec.ofChange Rows.eclipseShadesSpec)) = true := by kernel_rfl
theorem eclipseShades_j3 : (Tryz.f6.params.all (Tryz.prog.readableRec ·)) = true := by kernel_rfl
theorem eclipseShades_j4 : (namedTie Tryz.prog Rows.eclipseShadesRow.named Rows.eclipseShadesSpec.vars) = true := by kernel_rfl
theorem eclipseShades_j5 : ((Rows.eclipseShadesRow.stops == [])) = true := by kernel_rfl
theorem eclipseShades_j7 : ((Rows.eclipseShadesRow.knobs == [])) = true := by kernel_rfl
theorem eclipseShades_j9 : ((Rows.eclipseShadesRow.inPlace == Tryz.prog.inPlace 6)) = true := by kernel_rfl
theorem eclipseShades_j10 : ((Rows.eclipseShadesRow.unfollowed == Tryz.prog.unfollowed 6)) = true := by kernel_rfl
theorem eclipseShades_j11 : ((Rows.eclipseShadesRow.recurses == Tryz.prog.recurses 6)) = true := by kernel_rfl
theorem eclipseShades_j12 : ((Rows.eclipseShadesRow.named == Tryz.prog.varsNamed 6)) = true := by kernel_rfl
theorem eclipseShades_j13 : ((Rows.eclipseShadesRow.maps == (Tryz.f6.params.toList ++ Rows.eclipseShadesSpec.plain.varTypes Tryz.prog).any (Tryz.prog.mapsRec ·))) = true := by kernel_rfl
theorem eclipseShades_j14 : ((Rows.eclipseShadesRow.ifaces == (Tryz.f6.params.toList ++ Rows.eclipseShadesSpec.plain.varTypes Tryz.prog).any (Tryz.prog.ifacesRec ·))) = true := by kernel_rfl
theorem eclipseShades_j15 : ((Rows.eclipseShadesRow.mapsOut == Tryz.prog.mapsAmong Tryz.f6.resultTypes.toList)) = true := by kernel_rfl
theorem eclipseShades_j16 : ((Rows.eclipseShadesRow.loops == (Tryz.f6.params.toList ++ Rows.eclipseShadesSpec.plain.varTypes Tryz.prog).any (Tryz.prog.loopsFrom ·))) = true := by kernel_rfl
theorem eclipseShades_j17 : ((Rows.eclipseShadesRow.wideKeys == (Tryz.f6.params.toList ++ Rows.eclipseShadesSpec.plain.varTypes Tryz.prog ++ Tryz.f6.resultTypes.toList).any (Tryz.prog.wideKeysFrom ·))) = true := by kernel_rfl
theorem eclipseShades_j18 : (Rows.eclipseShadesSpec.vars.all (Tryz.prog.varReadable ·)) = true := by kernel_rfl
theorem eclipseShades_j19 : (Tryz.f6.resultTypes.all (fun t => Tryz.prog.readableRec t && decide (t < Tryz.prog.types.size))) = true := by kernel_rfl
theorem eclipseShades_j20 : ((Rows.eclipseShadesRow.ifacesOut == Tryz.f6.resultTypes.toList.any (Tryz.prog.ifacesRec ·))) = true := by kernel_rfl
theorem eclipseShades_j21 : ((Rows.eclipseShadesRow.loopsOut == Tryz.f6.resultTypes.toList.any (Tryz.prog.loopsFrom ·))) = true := by kernel_rfl
theorem eclipseShades_j22 : ((Rows.eclipseShadesRow.plainKeys == Tryz.prog.plainKeys)) = true := by kernel_rfl
theorem eclipseShades_j23 : (Rows.eclipseShadesRow.shortTexts.isNone) = true := by kernel_rfl
theorem eclipseShades_j26 : ((Rows.eclipseShadesRow.lifted == Tryz.prog.liftsFinal)) = true := by rw [jf_lifts]; rfl
theorem eclipseShades_j27 : ((Tryz.prog.make == some Rows.eclipseShadesRow.make)) = true := by kernel_rfl
theorem eclipseShades_j28 : ((Rows.eclipseShadesRow.kinds == (if Rows.eclipseShadesRow.domain.isEmpty then [] else Tryz.f6.params.toList.map fun t => match Tryz.prog.underlying t with | some (.int k) => some k | _ => none))) = true := by kernel_rfl
theorem eclipseShades_j29 : ((Rows.eclipseShadesRow.pinned == Rows.eclipseShadesRow.pinnedBy)) = true := by kernel_rfl
theorem eclipseShades_j30 : ((Rows.eclipseShadesRow.veiled == (Tryz.f6.params.toList ++ Rows.eclipseShadesSpec.plain.varTypes Tryz.prog ++ Tryz.f6.resultTypes.toList).any (Tryz.prog.veiledRec ·))) = true := by kernel_rfl
theorem eclipseShades_j31 : (Rows.eclipseShadesRow.veiledFits Tryz.prog Tryz.f6.params.toList (Tryz.f6.params.toList ++ Rows.eclipseShadesSpec.plain.varTypes Tryz.prog ++ Tryz.f6.resultTypes.toList)) = true := by kernel_rfl
theorem eclipseShades_fn : Tryz.prog.funcNamed "tellurion/tellurionlaw07.EclipseShades" = some 6 := by kernel_rfl
theorem eclipseShades_goes : false = Rows.eclipseShadesRow.goesBy Tryz.prog := by kernel_rfl
theorem eclipseShades_wf : Rows.eclipseShadesRow.wfByText (OpenSpec.ofChange Rows.eclipseShadesSpec) = true := by kernel_rfl
theorem eclipseShades_said : Rows.EclipseShadesSaid :=
  OpenClaim.holds_of_wide 6 Tryz.f6 rfl rfl rfl rfl rfl rfl rfl ⟨rfl, rfl, rfl, rfl, rfl⟩ rfl rfl rfl rfl rfl eclipseShades_fn Tryz.func6 (joined_of _ _ _ _ _ eclipseShades_j0 jf_1 jf_2 eclipseShades_j3 eclipseShades_j4 eclipseShades_j5 jf_6 eclipseShades_j7 jf_8 eclipseShades_j9 eclipseShades_j10 eclipseShades_j11 eclipseShades_j12 eclipseShades_j13 eclipseShades_j14 eclipseShades_j15 eclipseShades_j16 eclipseShades_j17 eclipseShades_j18 eclipseShades_j19 eclipseShades_j20 eclipseShades_j21 eclipseShades_j22 eclipseShades_j23 jf_24 jf_25 eclipseShades_j26 eclipseShades_j27 eclipseShades_j28 eclipseShades_j29 eclipseShades_j30 eclipseShades_j31)
    (of_decide_eq_true (by kernel_rfl)) (by unfold Func.isWrapper; first | (rw [if_pos (by decide +kernel)]; kernel_rfl) | (rw [if_neg (by decide +kernel)]; exact ⟨rfl, rfl⟩))
    (fun os started H enc _ => lifted (spec := Rows.eclipseShadesSpec) #[.slice none 0 0, .int .i64 0, .int .i64 0] Tryz.func6 (by kernel_rfl) Tryz.params6 (by kernel_rfl) rfl
      (fun hA => by
        obtain ⟨v0, vs0, d0, ds0, p0, q0, ha, rfl, rfl, h0, r0⟩ := ChangeShapes.trodAll_cons hA
        obtain ⟨v1, vs1, d1, ds1, p1, q1, rfl, rfl, rfl, h1, r1⟩ := ChangeShapes.trodAll_cons r0
        obtain ⟨v2, vs2, d2, ds2, p2, q2, rfl, rfl, rfl, h2, r2⟩ := ChangeShapes.trodAll_cons r1
        obtain ⟨rfl, rfl, rfl⟩ := ChangeShapes.trodAll_nil r2
        rfl)
      (by kernel_rfl) os started H enc (by kernel_rfl) (by kernel_rfl) (by kernel_rfl) (jf_world _ _)
      (fun W base args ds p hval hA hG => by
        obtain ⟨v0, vs0, d0, ds0, p0, q0, ha, rfl, rfl, h0, r0⟩ := ChangeShapes.trodAll_cons hA
        obtain ⟨v1, vs1, d1, ds1, p1, q1, rfl, rfl, rfl, h1, r1⟩ := ChangeShapes.trodAll_cons r0
        obtain ⟨v2, vs2, d2, ds2, p2, q2, rfl, rfl, rfl, h2, r2⟩ := ChangeShapes.trodAll_cons r1
        obtain ⟨rfl, rfl, rfl⟩ := ChangeShapes.trodAll_nil r2
        obtain rfl : args = #[v0, v1, v2] := by cases args; simp_all
        obtain ⟨s0, l0, rfl, hR0⟩ := op_balls (hval 0 37 v0 rfl rfl) h0
        obtain ⟨a1, rfl, hb1⟩ := op_num (hval 1 3 v1 rfl rfl) h1
        obtain ⟨a2, rfl, hb2⟩ := op_num (hval 2 3 v2 rfl rfl) h2
        exact EclipseShades_L s0 l0 a1 a2 W hR0 hG))
theorem eclipseShades_card : Rows.EclipseShadesCardSaid :=
  Claim7.holds_tied_plain_at .later [] [.data, .data, .data, .data, .pinned] true (true, "3935588a274329483ec0b5feff908a72916f84273b0dd370d56e5180bf3ed620") true eclipseShades_said (fun _ h => by cases h) eclipseShades_wf (fun _ h => by cases h) eclipseShades_row_tie rfl ⟨rfl, rfl⟩ jf_main rfl
    (fun f fn hf hfn => by
      obtain rfl : f = 6 := Option.some.inj (eclipseShades_fn.symm.trans hf) |>.symm
      obtain rfl : fn = Tryz.f6 := (Option.some.inj (Tryz.func6.symm.trans hfn)).symm
      exact ⟨jf_looks, fun j t ht => by
        rw [Tryz.params6] at ht
        have hm : t ∈ [37, 3, 3] := by simpa using Array.mem_of_getElem? ht
        have hall : ([37, 3, 3].all fun u => !Tryz.prog.wantsStandIn u) = true := by kernel_rfl
        exact (show Tryz.prog.wantsStandIn t = false by simpa using List.all_eq_true.1 hall t hm)⟩)
    eclipseShades_goes
#print axioms eclipseShades_card
end Go.Proofs.YtobofnkmbpfoiabGreatDoor
namespace Go.Proofs.Ec
end Go.Proofs.Ec
