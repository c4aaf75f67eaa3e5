/- The given statement of the law EclipseFound holds: for every engine, all settings and all numbers the law returns true and leaves its arguments as they were. Its conditions: the listed tables of the library lie as the program's text lays them (the tie is given). -/
import Derived.Test.YtobofnkmbpfoiaaGreatDoorProg
import Derived.Test.YtobofnkmbpfoiaaGreatDoorRows
import Derived.Test.YtobofnkmbpfoiaaGreatDoorTie
import Derived.Test.YtobofnkmbpfoiaaGreatDoorCards
import Derived.Test.YtobofnkmbpfoiaaGreatDoorPQb
import Derived.Test.YtobofnkmbpfoiaaGreatDoorPCx
import Derived.Test.YtobofnkmbpfoiaaGreatDoorPW37
set_option linter.unusedVariables false
set_option linter.unusedSimpArgs false
set_option maxRecDepth 4000
namespace Go.Proofs.Ec
open Go.RowKit Go.Proofs.Sx
open Go Ecl
end Go.Proofs.Ec
namespace Go.Proofs.YtobofnkmbpfoiaaGreatDoor
open Go Go.Proofs.Ec Go.Proofs.Sx Ecl
set_option maxRecDepth 100000
theorem eclipseFound_j0 : (Rows.eclipseFoundRow.wf (OpenSpec.ofChange Rows.eclipseFoundSpec)) = true := by kernel_rfl
theorem eclipseFound_j3 : (Tryz.f9.params.all (Tryz.prog.readableRec ·)) = true := by kernel_rfl
theorem eclipseFound_j4 : (namedTie Tryz.prog Rows.eclipseFoundRow.named Rows.eclipseFoundSpec.vars) = true := by kernel_rfl
theorem eclipseFound_j5 : ((Rows.eclipseFoundRow.stops == [])) = true := by kernel_rfl
theorem eclipseFound_j7 : ((Rows.eclipseFoundRow.knobs == [])) = true := by kernel_rfl
theorem eclipseFound_j9 : ((Rows.eclipseFoundRow.inPlace == Tryz.prog.inPlace 9)) = true := by kernel_rfl
theorem eclipseFound_j10 : ((Rows.eclipseFoundRow.unfollowed == Tryz.prog.unfollowed 9)) = true := by kernel_rfl
theorem eclipseFound_j11 : ((Rows.eclipseFoundRow.recurses == Tryz.prog.recurses 9)) = true := by kernel_rfl
theorem eclipseFound_j12 : ((Rows.eclipseFoundRow.named == Tryz.prog.varsNamed 9)) = true := by kernel_rfl
theorem eclipseFound_j13 : ((Rows.eclipseFoundRow.maps == (Tryz.f9.params.toList ++ Rows.eclipseFoundSpec.plain.varTypes Tryz.prog).any (Tryz.prog.mapsRec ·))) = true := by kernel_rfl
theorem eclipseFound_j14 : ((Rows.eclipseFoundRow.ifaces == (Tryz.f9.params.toList ++ Rows.eclipseFoundSpec.plain.varTypes Tryz.prog).any (Tryz.prog.ifacesRec ·))) = true := by kernel_rfl
theorem eclipseFound_j15 : ((Rows.eclipseFoundRow.mapsOut == Tryz.prog.mapsAmong Tryz.f9.resultTypes.toList)) = true := by kernel_rfl
theorem eclipseFound_j16 : ((Rows.eclipseFoundRow.loops == (Tryz.f9.params.toList ++ Rows.eclipseFoundSpec.plain.varTypes Tryz.prog).any (Tryz.prog.loopsFrom ·))) = true := by kernel_rfl
theorem eclipseFound_j17 : ((Rows.eclipseFoundRow.wideKeys == (Tryz.f9.params.toList ++ Rows.eclipseFoundSpec.plain.varTypes Tryz.prog ++ Tryz.f9.resultTypes.toList).any (Tryz.prog.wideKeysFrom ·))) = true := by kernel_rfl
theorem eclipseFound_j18 : (Rows.eclipseFoundSpec.vars.all (Tryz.prog.varReadable ·)) = true := by kernel_rfl
theorem eclipseFound_j19 : (Tryz.f9.resultTypes.all (fun t => Tryz.prog.readableRec t && decide (t < Tryz.prog.types.size))) = true := by kernel_rfl
theorem eclipseFound_j20 : ((Rows.eclipseFoundRow.ifacesOut == Tryz.f9.resultTypes.toList.any (Tryz.prog.ifacesRec ·))) = true := by kernel_rfl
theorem eclipseFound_j21 : ((Rows.eclipseFoundRow.loopsOut == Tryz.f9.resultTypes.toList.any (Tryz.prog.loopsFrom ·))) = true := by kernel_rfl
theorem eclipseFound_j22 : ((Rows.eclipseFoundRow.plainKeys == Tryz.prog.plainKeys)) = true := by kernel_rfl
theorem eclipseFound_j23 : (Rows.eclipseFoundRow.shortTexts.isNone) = true := by kernel_rfl
theorem eclipseFound_j26 : ((Rows.eclipseFoundRow.lifted == Tryz.prog.liftsFinal)) = true := by rw [jf_lifts]; rfl
theorem eclipseFound_j27 : ((Tryz.prog.make == some Rows.eclipseFoundRow.make)) = true := by kernel_rfl
theorem eclipseFound_j28 : ((Rows.eclipseFoundRow.kinds == (if Rows.eclipseFoundRow.domain.isEmpty then [] else Tryz.f9.params.toList.map fun t => match Tryz.prog.underlying t with | some (.int k) => some k | _ => none))) = true := by kernel_rfl
theorem eclipseFound_j29 : ((Rows.eclipseFoundRow.pinned == Rows.eclipseFoundRow.pinnedBy)) = true := by kernel_rfl
theorem eclipseFound_j30 : ((Rows.eclipseFoundRow.veiled == (Tryz.f9.params.toList ++ Rows.eclipseFoundSpec.plain.varTypes Tryz.prog ++ Tryz.f9.resultTypes.toList).any (Tryz.prog.veiledRec ·))) = true := by kernel_rfl
theorem eclipseFound_j31 : (Rows.eclipseFoundRow.veiledFits Tryz.prog Tryz.f9.params.toList (Tryz.f9.params.toList ++ Rows.eclipseFoundSpec.plain.varTypes Tryz.prog ++ Tryz.f9.resultTypes.toList)) = true := by kernel_rfl
theorem eclipseFound_fn : Tryz.prog.funcNamed "tellurion/tellurionlaw07.EclipseFound" = some 9 := by kernel_rfl
theorem eclipseFound_goes : false = Rows.eclipseFoundRow.goesBy Tryz.prog := by kernel_rfl
theorem eclipseFound_wf : Rows.eclipseFoundRow.wfByText (OpenSpec.ofChange Rows.eclipseFoundSpec) = true := by kernel_rfl
theorem eclipseFound_said : Rows.EclipseFoundSaid :=
  OpenClaim.holds_of_wide 9 Tryz.f9 rfl rfl rfl rfl rfl rfl rfl ⟨rfl, rfl, rfl, rfl, rfl⟩ rfl rfl rfl rfl rfl eclipseFound_fn Tryz.func9 (joined_of _ _ _ _ _ eclipseFound_j0 jf_1 jf_2 eclipseFound_j3 eclipseFound_j4 eclipseFound_j5 jf_6 eclipseFound_j7 jf_8 eclipseFound_j9 eclipseFound_j10 eclipseFound_j11 eclipseFound_j12 eclipseFound_j13 eclipseFound_j14 eclipseFound_j15 eclipseFound_j16 eclipseFound_j17 eclipseFound_j18 eclipseFound_j19 eclipseFound_j20 eclipseFound_j21 eclipseFound_j22 eclipseFound_j23 jf_24 jf_25 eclipseFound_j26 eclipseFound_j27 eclipseFound_j28 eclipseFound_j29 eclipseFound_j30 eclipseFound_j31)
    (of_decide_eq_true (by kernel_rfl)) (by unfold Func.isWrapper; first | (rw [if_pos (by decide +kernel)]; kernel_rfl) | (rw [if_neg (by decide +kernel)]; exact ⟨rfl, rfl⟩))
    (fun os started H enc _ => lifted (spec := Rows.eclipseFoundSpec) #[.agg #[.slice none 0 0, .int .i64 0, .int .i64 0, .int .i64 0, .slice none 0 0, .slice none 0 0, .slice none 0 0, .slice none 0 0, .int .i64 0, .int .i64 0, .int .i64 0], .slice none 0 0, .int .i64 0, .int .i64 0, .int .i64 0] Tryz.func9 (by kernel_rfl) Tryz.params9 (by kernel_rfl) rfl
      (fun hA => by
        obtain ⟨v0, vs0, d0, ds0, p0, q0, ha, rfl, rfl, h0, r0⟩ := ChangeShapes.trodAll_cons hA
        obtain ⟨v1, vs1, d1, ds1, p1, q1, rfl, rfl, rfl, h1, r1⟩ := ChangeShapes.trodAll_cons r0
        obtain ⟨v2, vs2, d2, ds2, p2, q2, rfl, rfl, rfl, h2, r2⟩ := ChangeShapes.trodAll_cons r1
        obtain ⟨v3, vs3, d3, ds3, p3, q3, rfl, rfl, rfl, h3, r3⟩ := ChangeShapes.trodAll_cons r2
        obtain ⟨v4, vs4, d4, ds4, p4, q4, rfl, rfl, rfl, h4, r4⟩ := ChangeShapes.trodAll_cons r3
        obtain ⟨rfl, rfl, rfl⟩ := ChangeShapes.trodAll_nil r4
        rfl)
      (by kernel_rfl) os started H enc (by kernel_rfl) (by kernel_rfl) (by kernel_rfl) (jf_world _ _)
      (fun W base args ds p hval hA hG => by
        obtain ⟨v0, vs0, d0, ds0, p0, q0, ha, rfl, rfl, h0, r0⟩ := ChangeShapes.trodAll_cons hA
        obtain ⟨v1, vs1, d1, ds1, p1, q1, rfl, rfl, rfl, h1, r1⟩ := ChangeShapes.trodAll_cons r0
        obtain ⟨v2, vs2, d2, ds2, p2, q2, rfl, rfl, rfl, h2, r2⟩ := ChangeShapes.trodAll_cons r1
        obtain ⟨v3, vs3, d3, ds3, p3, q3, rfl, rfl, rfl, h3, r3⟩ := ChangeShapes.trodAll_cons r2
        obtain ⟨v4, vs4, d4, ds4, p4, q4, rfl, rfl, rfl, h4, r4⟩ := ChangeShapes.trodAll_cons r3
        obtain ⟨rfl, rfl, rfl⟩ := ChangeShapes.trodAll_nil r4
        obtain rfl : args = #[v0, v1, v2, v3, v4] := by cases args; simp_all
        obtain ⟨x, e, rfl, hE⟩ := op_eng (hval 0 32 v0 rfl rfl) h0
        obtain ⟨s2, st, rfl, hS⟩ := op_list (hval 1 30 v1 rfl rfl) h1
        obtain ⟨a2, rfl, hb2⟩ := op_num (hval 2 3 v2 rfl rfl) h2
        obtain ⟨a3, rfl, hb3⟩ := op_num (hval 3 3 v3 rfl rfl) h3
        obtain ⟨a4, rfl, hb4⟩ := op_num (hval 4 3 v4 rfl rfl) h4
        exact EclipseFound_L x e s2 st a2 a3 a4 W hE hS hG))
theorem eclipseFound_card : Rows.EclipseFoundCardSaid :=
  Claim7.holds_tied_plain_at .later [] [.data, .data, .data, .data, .pinned] true (true, "539264a627cb68ddccdac5f6e1e21e2c3e7f21e824bfeb59e102ee06b2d34115") true eclipseFound_said (fun _ h => by cases h) eclipseFound_wf (fun _ h => by cases h) eclipseFound_row_tie rfl ⟨rfl, rfl⟩ jf_main rfl
    (fun f fn hf hfn => by
      obtain rfl : f = 9 := Option.some.inj (eclipseFound_fn.symm.trans hf) |>.symm
      obtain rfl : fn = Tryz.f9 := (Option.some.inj (Tryz.func9.symm.trans hfn)).symm
      exact ⟨jf_looks, fun j t ht => by
        rw [Tryz.params9] at ht
        have hm : t ∈ [32, 30, 3, 3, 3] := by simpa using Array.mem_of_getElem? ht
        have hall : ([32, 30, 3, 3, 3].all fun u => !Tryz.prog.wantsStandIn u) = true := by kernel_rfl
        exact (show Tryz.prog.wantsStandIn t = false by simpa using List.all_eq_true.1 hall t hm)⟩)
    eclipseFound_goes
#print axioms eclipseFound_card
end Go.Proofs.YtobofnkmbpfoiaaGreatDoor
namespace Go.Proofs.Ec
end Go.Proofs.Ec
