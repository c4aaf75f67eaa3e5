/- The given statement of the law EclipseBigger holds: for all its arguments the law returns true and leaves its arguments as they were. Its conditions: the listed tables of the library lie as the program's text lays them (the tie is given). -/
import Derived.Test.YtobofnkmbpfoiabGreatDoorProg
import Derived.Test.YtobofnkmbpfoiabGreatDoorRows
import Derived.Test.YtobofnkmbpfoiabGreatDoorTie
import Derived.Test.YtobofnkmbpfoiabGreatDoorCards
import Derived.Test.YtobofnkmbpfoiabGreatDoorPQb
import Derived.Test.YtobofnkmbpfoiabGreatDoorPCx
import Derived.Test.YtobofnkmbpfoiabGreatDoorPW55
set_option linter.unusedVariables false
set_option linter.unusedSimpArgs false
set_option maxRecDepth 4000
namespace Go.Proofs.Ec
open Go.RowKit Go.Proofs.Sx
open Go Ecl
end Go.Proofs.Ec
namespace Go.Proofs.YtobofnkmbpfoiabGreatDoor
open Go Go.Proofs.Ec Go.Proofs.Sx Ecl
set_option maxRecDepth 100000
theorem eclipseBigger_j0 : (Rows.eclipseBiggerRow.wf (OpenSpec.ofChange Rows.eclipseBiggerSpec)) = true := by kernel_rfl
theorem eclipseBigger_j3 : (Tryz.f8.params.all (Tryz.prog.readableRec ·)) = true := by kernel_rfl
theorem eclipseBigger_j4 : (namedTie Tryz.prog Rows.eclipseBiggerRow.named Rows.eclipseBiggerSpec.vars) = true := by kernel_rfl
theorem eclipseBigger_j5 : ((Rows.eclipseBiggerRow.stops == [])) = true := by kernel_rfl
theorem eclipseBigger_j7 : ((Rows.eclipseBiggerRow.knobs == [])) = true := by kernel_rfl
theorem eclipseBigger_j9 : ((Rows.eclipseBiggerRow.inPlace == Tryz.prog.inPlace 8)) = true := by kernel_rfl
theorem eclipseBigger_j10 : ((Rows.eclipseBiggerRow.unfollowed == Tryz.prog.unfollowed 8)) = true := by kernel_rfl
theorem eclipseBigger_j11 : ((Rows.eclipseBiggerRow.recurses == Tryz.prog.recurses 8)) = true := by kernel_rfl
theorem eclipseBigger_j12 : ((Rows.eclipseBiggerRow.named == Tryz.prog.varsNamed 8)) = true := by kernel_rfl
theorem eclipseBigger_j13 : ((Rows.eclipseBiggerRow.maps == (Tryz.f8.params.toList ++ Rows.eclipseBiggerSpec.plain.varTypes Tryz.prog).any (Tryz.prog.mapsRec ·))) = true := by kernel_rfl
theorem eclipseBigger_j14 : ((Rows.eclipseBiggerRow.ifaces == (Tryz.f8.params.toList ++ Rows.eclipseBiggerSpec.plain.varTypes Tryz.prog).any (Tryz.prog.ifacesRec ·))) = true := by kernel_rfl
theorem eclipseBigger_j15 : ((Rows.eclipseBiggerRow.mapsOut == Tryz.prog.mapsAmong Tryz.f8.resultTypes.toList)) = true := by kernel_rfl
theorem eclipseBigger_j16 : ((Rows.eclipseBiggerRow.loops == (Tryz.f8.params.toList ++ Rows.eclipseBiggerSpec.plain.varTypes Tryz.prog).any (Tryz.prog.loopsFrom ·))) = true := by kernel_rfl
theorem eclipseBigger_j17 : ((Rows.eclipseBiggerRow.wideKeys == (Tryz.f8.params.toList ++ Rows.eclipseBiggerSpec.plain.varTypes Tryz.prog ++ Tryz.f8.resultTypes.toList).any (Tryz.prog.wideKeysFrom ·))) = true := by kernel_rfl
theorem eclipseBigger_j18 : (Rows.eclipseBiggerSpec.vars.all (Tryz.prog.varReadable ·)) = true := by kernel_rfl
theorem eclipseBigger_j19 : (Tryz.f8.resultTypes.all (fun t => Tryz.prog.readableRec t && decide (t < Tryz.prog.types.size))) = true := by kernel_rfl
theorem eclipseBigger_j20 : ((Rows.eclipseBiggerRow.ifacesOut == Tryz.f8.resultTypes.toList.any (Tryz.prog.ifacesRec ·))) = true := by kernel_rfl
theorem eclipseBigger_j21 : ((Rows.eclipseBiggerRow.loopsOut == Tryz.f8.resultTypes.toList.any (Tryz.prog.loopsFrom ·))) = true := by kernel_rfl
theorem eclipseBigger_j22 : ((Rows.eclipseBiggerRow.plainKeys == Tryz.prog.plainKeys)) = true := by kernel_rfl
theorem eclipseBigger_j23 : (Rows.eclipseBiggerRow.shortTexts.isNone) = true := by kernel_rfl
theorem eclipseBigger_j26 : ((Rows.eclipseBiggerRow.lifted == Tryz.prog.liftsFinal)) = true := by rw [jf_lifts]; rfl
theorem eclipseBigger_j27 : ((Tryz.prog.make == some Rows.eclipseBiggerRow.make)) = true := by kernel_rfl
theorem eclipseBigger_j28 : ((Rows.eclipseBiggerRow.kinds == (if Rows.eclipseBiggerRow.domain.isEmpty then [] else Tryz.f8.params.toList.map fun t => match Tryz.prog.underlying t with | some (.int k) => some k | _ => none))) = true := by kernel_rfl
theorem eclipseBigger_j29 : ((Rows.eclipseBiggerRow.pinned == Rows.eclipseBiggerRow.pinnedBy)) = true := by kernel_rfl
theorem eclipseBigger_j30 : ((Rows.eclipseBiggerRow.veiled == (Tryz.f8.params.toList ++ Rows.eclipseBiggerSpec.plain.varTypes Tryz.prog ++ Tryz.f8.resultTypes.toList).any (Tryz.prog.veiledRec ·))) = true := by kernel_rfl
theorem eclipseBigger_j31 : (Rows.eclipseBiggerRow.veiledFits Tryz.prog Tryz.f8.params.toList (Tryz.f8.params.toList ++ Rows.eclipseBiggerSpec.plain.varTypes Tryz.prog ++ Tryz.f8.resultTypes.toList)) = true := by kernel_rfl
theorem eclipseBigger_fn : Tryz.prog.funcNamed "tellurion/tellurionlaw07.EclipseBigger" = some 8 := by kernel_rfl
theorem eclipseBigger_goes : false = Rows.eclipseBiggerRow.goesBy Tryz.prog := by kernel_rfl
theorem eclipseBigger_wf : Rows.eclipseBiggerRow.wfByText (OpenSpec.ofChange Rows.eclipseBiggerSpec) = true := by kernel_rfl
theorem eclipseBigger_said : Rows.EclipseBiggerSaid :=
  OpenClaim.holds_of_wide 8 Tryz.f8 rfl rfl rfl rfl rfl rfl rfl ⟨rfl, rfl, rfl, rfl, rfl⟩ rfl rfl rfl rfl rfl eclipseBigger_fn Tryz.func8 (joined_of _ _ _ _ _ eclipseBigger_j0 jf_1 jf_2 eclipseBigger_j3 eclipseBigger_j4 eclipseBigger_j5 jf_6 eclipseBigger_j7 jf_8 eclipseBigger_j9 eclipseBigger_j10 eclipseBigger_j11 eclipseBigger_j12 eclipseBigger_j13 eclipseBigger_j14 eclipseBigger_j15 eclipseBigger_j16 eclipseBigger_j17 eclipseBigger_j18 eclipseBigger_j19 eclipseBigger_j20 eclipseBigger_j21 eclipseBigger_j22 eclipseBigger_j23 jf_24 jf_25 eclipseBigger_j26 eclipseBigger_j27 eclipseBigger_j28 eclipseBigger_j29 eclipseBigger_j30 eclipseBigger_j31)
    (of_decide_eq_true (by kernel_rfl)) (by unfold Func.isWrapper; first | (rw [if_pos (by decide +kernel)]; kernel_rfl) | (rw [if_neg (by decide +kernel)]; exact ⟨rfl, rfl⟩))
    (fun os started H enc _ => lifted (spec := Rows.eclipseBiggerSpec) #[.slice none 0 0, .int .i64 0, .int .i64 0, .int .i64 0] Tryz.func8 (by kernel_rfl) Tryz.params8 (by kernel_rfl) rfl
      (fun hA => by
        obtain ⟨v0, vs0, d0, ds0, p0, q0, ha, rfl, rfl, h0, r0⟩ := ChangeShapes.trodAll_cons hA
        obtain ⟨v1, vs1, d1, ds1, p1, q1, rfl, rfl, rfl, h1, r1⟩ := ChangeShapes.trodAll_cons r0
        obtain ⟨v2, vs2, d2, ds2, p2, q2, rfl, rfl, rfl, h2, r2⟩ := ChangeShapes.trodAll_cons r1
        obtain ⟨v3, vs3, d3, ds3, p3, q3, rfl, rfl, rfl, h3, r3⟩ := ChangeShapes.trodAll_cons r2
        obtain ⟨rfl, rfl, rfl⟩ := ChangeShapes.trodAll_nil r3
        rfl)
      (by kernel_rfl) os started H enc (by kernel_rfl) (by kernel_rfl) (by kernel_rfl) (jf_world _ _)
      (fun W base args ds p hval hA hG => by
        obtain ⟨v0, vs0, d0, ds0, p0, q0, ha, rfl, rfl, h0, r0⟩ := ChangeShapes.trodAll_cons hA
        obtain ⟨v1, vs1, d1, ds1, p1, q1, rfl, rfl, rfl, h1, r1⟩ := ChangeShapes.trodAll_cons r0
        obtain ⟨v2, vs2, d2, ds2, p2, q2, rfl, rfl, rfl, h2, r2⟩ := ChangeShapes.trodAll_cons r1
        obtain ⟨v3, vs3, d3, ds3, p3, q3, rfl, rfl, rfl, h3, r3⟩ := ChangeShapes.trodAll_cons r2
        obtain ⟨rfl, rfl, rfl⟩ := ChangeShapes.trodAll_nil r3
        obtain rfl : args = #[v0, v1, v2, v3] := by cases args; simp_all
        obtain ⟨s0, l0, rfl, hR0⟩ := op_balls (hval 0 37 v0 rfl rfl) h0
        obtain ⟨a1, rfl, hb1⟩ := op_num (hval 1 3 v1 rfl rfl) h1
        obtain ⟨a2, rfl, hb2⟩ := op_num (hval 2 3 v2 rfl rfl) h2
        obtain ⟨a3, rfl, hb3⟩ := op_num (hval 3 3 v3 rfl rfl) h3
        exact EclipseBigger_L s0 l0 a1 a2 a3 W hR0 hG))
theorem eclipseBigger_card : Rows.EclipseBiggerCardSaid :=
  Claim7.holds_tied_plain_at .later [] [.data, .data, .data, .data, .pinned] true (true, "3935588a274329483ec0b5feff908a72916f84273b0dd370d56e5180bf3ed620") true eclipseBigger_said (fun _ h => by cases h) eclipseBigger_wf (fun _ h => by cases h) eclipseBigger_row_tie rfl ⟨rfl, rfl⟩ jf_main rfl
    (fun f fn hf hfn => by
      obtain rfl : f = 8 := Option.some.inj (eclipseBigger_fn.symm.trans hf) |>.symm
      obtain rfl : fn = Tryz.f8 := (Option.some.inj (Tryz.func8.symm.trans hfn)).symm
      exact ⟨jf_looks, fun j t ht => by
        rw [Tryz.params8] at ht
        have hm : t ∈ [37, 3, 3, 3] := by simpa using Array.mem_of_getElem? ht
        have hall : ([37, 3, 3, 3].all fun u => !Tryz.prog.wantsStandIn u) = true := by kernel_rfl
        exact (show Tryz.prog.wantsStandIn t = false by simpa using List.all_eq_true.1 hall t hm)⟩)
    eclipseBigger_goes
#print axioms eclipseBigger_card
end Go.Proofs.YtobofnkmbpfoiabGreatDoor
namespace Go.Proofs.Ec
end Go.Proofs.Ec
