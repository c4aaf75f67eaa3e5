/- The given statement of the law EclipseMore holds: for every engine, all settings and all numbers the law returns true and leaves its arguments as they were. Its conditions: the listed tables of the library lie as the program's text lays them (the tie is given). -/
import Derived.Test.YtobofnkmbpfoiaaGreatDoorProg
import Derived.Test.YtobofnkmbpfoiaaGreatDoorRows
import Derived.Test.YtobofnkmbpfoiaaGreatDoorTie
import Derived.Test.YtobofnkmbpfoiaaGreatDoorCards
import Derived.Test.YtobofnkmbpfoiaaGreatDoorPQb
import Derived.Test.YtobofnkmbpfoiaaGreatDoorPCx
import Derived.Test.YtobofnkmbpfoiaaGreatDoorPW43
set_option linter.unusedVariables false
set_option linter.unusedSimpArgs false
set_option maxRecDepth 4000
namespace Go.Proofs.Ec
open Go.RowKit Go.Proofs.Sx
open Go Ecl
end Go.Proofs.Ec
namespace Go.Proofs.YtobofnkmbpfoiaaGreatDoor
open Go Go.Proofs.Ec Go.Proofs.Sx Ecl
set_option maxRecDepth 100000
theorem eclipseMore_j0 : (Rows.eclipseMoreRow.wf (OpenSpec.ofChange Rows.eclipseMoreSpec)) = true := by kernel_rfl
theorem eclipseMore_j3 : (Tryz.f13.params.all (Tryz.prog.readableRec ·)) = true := by kernel_rfl
theorem eclipseMore_j4 : (namedTie Tryz.prog Rows.eclipseMoreRow.named Rows.eclipseMoreSpec.vars) = true := by kernel_rfl
theorem eclipseMore_j5 : ((Rows.eclipseMoreRow.stops == [])) = true := by kernel_rfl
theorem eclipseMore_j7 : ((Rows.eclipseMoreRow.knobs == [])) = true := by kernel_rfl
theorem eclipseMore_j9 : ((Rows.eclipseMoreRow.inPlace == Tryz.prog.inPlace 13)) = true := by kernel_rfl
theorem eclipseMore_j10 : ((Rows.eclipseMoreRow.unfollowed == Tryz.prog.unfollowed 13)) = true := by kernel_rfl
theorem eclipseMore_j11 : ((Rows.eclipseMoreRow.recurses == Tryz.prog.recurses 13)) = true := by kernel_rfl
theorem eclipseMore_j12 : ((Rows.eclipseMoreRow.named == Tryz.prog.varsNamed 13)) = true := by kernel_rfl
theorem eclipseMore_j13 : ((Rows.eclipseMoreRow.maps == (Tryz.f13.params.toList ++ Rows.eclipseMoreSpec.plain.varTypes Tryz.prog).any (Tryz.prog.mapsRec ·))) = true := by kernel_rfl
theorem eclipseMore_j14 : ((Rows.eclipseMoreRow.ifaces == (Tryz.f13.params.toList ++ Rows.eclipseMoreSpec.plain.varTypes Tryz.prog).any (Tryz.prog.ifacesRec ·))) = true := by kernel_rfl
theorem eclipseMore_j15 : ((Rows.eclipseMoreRow.mapsOut == Tryz.prog.mapsAmong Tryz.f13.resultTypes.toList)) = true := by kernel_rfl
theorem eclipseMore_j16 : ((Rows.eclipseMoreRow.loops == (Tryz.f13.params.toList ++ Rows.eclipseMoreSpec.plain.varTypes Tryz.prog).any (Tryz.prog.loopsFrom ·))) = true := by kernel_rfl
theorem eclipseMore_j17 : ((Rows.eclipseMoreRow.wideKeys == (Tryz.f13.params.toList ++ Rows.eclipseMoreSpec.plain.varTypes Tryz.prog ++ Tryz.f13.resultTypes.toList).any (Tryz.prog.wideKeysFrom ·))) = true := by kernel_rfl
theorem eclipseMore_j18 : (Rows.eclipseMoreSpec.vars.all (Tryz.prog.varReadable ·)) = true := by kernel_rfl
theorem eclipseMore_j19 : (Tryz.f13.resultTypes.all (fun t => Tryz.prog.readableRec t && decide (t < Tryz.prog.types.size))) = true := by kernel_rfl
theorem eclipseMore_j20 : ((Rows.eclipseMoreRow.ifacesOut == Tryz.f13.resultTypes.toList.any (Tryz.prog.ifacesRec ·))) = true := by kernel_rfl
theorem eclipseMore_j21 : ((Rows.eclipseMoreRow.loopsOut == Tryz.f13.resultTypes.toList.any (Tryz.prog.loopsFrom ·))) = true := by kernel_rfl
theorem eclipseMore_j22 : ((Rows.eclipseMoreRow.plainKeys == Tryz.prog.plainKeys)) = true := by kernel_rfl
theorem eclipseMore_j23 : (Rows.eclipseMoreRow.shortTexts.isNone) = true := by kernel_rfl
theorem eclipseMore_j26 : ((Rows.eclipseMoreRow.lifted == Tryz.prog.liftsFinal)) = true := by rw [jf_lifts]; rfl
theorem eclipseMore_j27 : ((Tryz.prog.make == some Rows.eclipseMoreRow.make)) = true := by kernel_rfl
theorem eclipseMore_j28 : ((Rows.eclipseMoreRow.kinds == (if Rows.eclipseMoreRow.domain.isEmpty then [] else Tryz.f13.params.toList.map fun t => match Tryz.prog.underlying t with | some (.int k) => some k | _ => none))) = true := by kernel_rfl
theorem eclipseMore_j29 : ((Rows.eclipseMoreRow.pinned == Rows.eclipseMoreRow.pinnedBy)) = true := by kernel_rfl
theorem eclipseMore_j30 : ((Rows.eclipseMoreRow.veiled == (Tryz.f13.params.toList ++ Rows.eclipseMoreSpec.plain.varTypes Tryz.prog ++ Tryz.f13.resultTypes.toList).any (Tryz.prog.veiledRec ·))) = true := by kernel_rfl
theorem eclipseMore_j31 : (Rows.eclipseMoreRow.veiledFits Tryz.prog Tryz.f13.params.toList (Tryz.f13.params.toList ++ Rows.eclipseMoreSpec.plain.varTypes Tryz.prog ++ Tryz.f13.resultTypes.toList)) = true := by kernel_rfl
theorem eclipseMore_fn : Tryz.prog.funcNamed "tellurion/tellurionlaw07.EclipseMore" = some 13 := by kernel_rfl
theorem eclipseMore_goes : false = Rows.eclipseMoreRow.goesBy Tryz.prog := by kernel_rfl
theorem eclipseMore_wf : Rows.eclipseMoreRow.wfByText (OpenSpec.ofChange Rows.eclipseMoreSpec) = true := by kernel_rfl
theorem eclipseMore_said : Rows.EclipseMoreSaid :=
  OpenClaim.holds_of_wide 13 Tryz.f13 rfl rfl rfl rfl rfl rfl rfl ⟨rfl, rfl, rfl, rfl, rfl⟩ rfl rfl rfl rfl rfl eclipseMore_fn Tryz.func13 (joined_of _ _ _ _ _ eclipseMore_j0 jf_1 jf_2 eclipseMore_j3 eclipseMore_j4 eclipseMore_j5 jf_6 eclipseMore_j7 jf_8 eclipseMore_j9 eclipseMore_j10 eclipseMore_j11 eclipseMore_j12 eclipseMore_j13 eclipseMore_j14 eclipseMore_j15 eclipseMore_j16 eclipseMore_j17 eclipseMore_j18 eclipseMore_j19 eclipseMore_j20 eclipseMore_j21 eclipseMore_j22 eclipseMore_j23 jf_24 jf_25 eclipseMore_j26 eclipseMore_j27 eclipseMore_j28 eclipseMore_j29 eclipseMore_j30 eclipseMore_j31)
    (of_decide_eq_true (by kernel_rfl)) (by unfold Func.isWrapper; first | (rw [if_pos (by decide +kernel)]; kernel_rfl) | (rw [if_neg (by decide +kernel)]; exact ⟨rfl, rfl⟩))
    (fun os started H enc _ => lifted (spec := Rows.eclipseMoreSpec) #[.agg #[.slice none 0 0, .int .i64 0, .int .i64 0, .int .i64 0, .slice none 0 0, .slice none 0 0, .slice none 0 0, .slice none 0 0, .int .i64 0, .int .i64 0, .int .i64 0], .slice none 0 0, .int .i64 0, .int .i64 0, .int .i64 0, .int .i64 0, .int .i64 0] Tryz.func13 (by kernel_rfl) Tryz.params13 (by kernel_rfl) rfl
      (fun hA => by
        obtain ⟨v0, vs0, d0, ds0, p0, q0, ha, rfl, rfl, h0, r0⟩ := ChangeShapes.trodAll_cons hA
        obtain ⟨v1, vs1, d1, ds1, p1, q1, rfl, rfl, rfl, h1, r1⟩ := ChangeShapes.trodAll_cons r0
        obtain ⟨v2, vs2, d2, ds2, p2, q2, rfl, rfl, rfl, h2, r2⟩ := ChangeShapes.trodAll_cons r1
        obtain ⟨v3, vs3, d3, ds3, p3, q3, rfl, rfl, rfl, h3, r3⟩ := ChangeShapes.trodAll_cons r2
        obtain ⟨v4, vs4, d4, ds4, p4, q4, rfl, rfl, rfl, h4, r4⟩ := ChangeShapes.trodAll_cons r3
        obtain ⟨v5, vs5, d5, ds5, p5, q5, rfl, rfl, rfl, h5, r5⟩ := ChangeShapes.trodAll_cons r4
        obtain ⟨v6, vs6, d6, ds6, p6, q6, rfl, rfl, rfl, h6, r6⟩ := ChangeShapes.trodAll_cons r5
        obtain ⟨rfl, rfl, rfl⟩ := ChangeShapes.trodAll_nil r6
        rfl)
      (by kernel_rfl) os started H enc (by kernel_rfl) (by kernel_rfl) (by kernel_rfl) (jf_world _ _)
      (fun W base args ds p hval hA hG => by
        obtain ⟨v0, vs0, d0, ds0, p0, q0, ha, rfl, rfl, h0, r0⟩ := ChangeShapes.trodAll_cons hA
        obtain ⟨v1, vs1, d1, ds1, p1, q1, rfl, rfl, rfl, h1, r1⟩ := ChangeShapes.trodAll_cons r0
        obtain ⟨v2, vs2, d2, ds2, p2, q2, rfl, rfl, rfl, h2, r2⟩ := ChangeShapes.trodAll_cons r1
        obtain ⟨v3, vs3, d3, ds3, p3, q3, rfl, rfl, rfl, h3, r3⟩ := ChangeShapes.trodAll_cons r2
        obtain ⟨v4, vs4, d4, ds4, p4, q4, rfl, rfl, rfl, h4, r4⟩ := ChangeShapes.trodAll_cons r3
        obtain ⟨v5, vs5, d5, ds5, p5, q5, rfl, rfl, rfl, h5, r5⟩ := ChangeShapes.trodAll_cons r4
        obtain ⟨v6, vs6, d6, ds6, p6, q6, rfl, rfl, rfl, h6, r6⟩ := ChangeShapes.trodAll_cons r5
        obtain ⟨rfl, rfl, rfl⟩ := ChangeShapes.trodAll_nil r6
        obtain rfl : args = #[v0, v1, v2, v3, v4, v5, v6] := by cases args; simp_all
        obtain ⟨x, e, rfl, hE⟩ := op_eng (hval 0 32 v0 rfl rfl) h0
        obtain ⟨s2, st, rfl, hS⟩ := op_list (hval 1 30 v1 rfl rfl) h1
        obtain ⟨a2, rfl, hb2⟩ := op_num (hval 2 3 v2 rfl rfl) h2
        obtain ⟨a3, rfl, hb3⟩ := op_num (hval 3 3 v3 rfl rfl) h3
        obtain ⟨a4, rfl, hb4⟩ := op_num (hval 4 3 v4 rfl rfl) h4
        obtain ⟨a5, rfl, hb5⟩ := op_num (hval 5 3 v5 rfl rfl) h5
        obtain ⟨a6, rfl, hb6⟩ := op_num (hval 6 3 v6 rfl rfl) h6
        exact EclipseMore_L x e s2 st a2 a3 a4 a5 a6 W hE hS hG))
theorem eclipseMore_card : Rows.EclipseMoreCardSaid :=
  Claim7.holds_tied_plain_at .later [] [.data, .data, .data, .data, .pinned] true (true, "539264a627cb68ddccdac5f6e1e21e2c3e7f21e824bfeb59e102ee06b2d34115") true eclipseMore_said (fun _ h => by cases h) eclipseMore_wf (fun _ h => by cases h) eclipseMore_row_tie rfl ⟨rfl, rfl⟩ jf_main rfl
    (fun f fn hf hfn => by
      obtain rfl : f = 13 := Option.some.inj (eclipseMore_fn.symm.trans hf) |>.symm
      obtain rfl : fn = Tryz.f13 := (Option.some.inj (Tryz.func13.symm.trans hfn)).symm
      exact ⟨jf_looks, fun j t ht => by
        rw [Tryz.params13] at ht
        have hm : t ∈ [32, 30, 3, 3, 3, 3, 3] := by simpa using Array.mem_of_getElem? ht
        have hall : ([32, 30, 3, 3, 3, 3, 3].all fun u => !Tryz.prog.wantsStandIn u) = true := by kernel_rfl
        exact (show Tryz.prog.wantsStandIn t = false by simpa using List.all_eq_true.1 hall t hm)⟩)
    eclipseMore_goes
#print axioms eclipseMore_card
end Go.Proofs.YtobofnkmbpfoiaaGreatDoor
namespace Go.Proofs.Ec
end Go.Proofs.Ec
