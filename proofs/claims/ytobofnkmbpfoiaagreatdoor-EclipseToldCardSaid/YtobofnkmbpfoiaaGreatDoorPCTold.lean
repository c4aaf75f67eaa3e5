/- The given statement of the law EclipseTold holds: for every engine, all settings and all numbers the law returns true and leaves its arguments as they were. Its conditions: the listed tables of the library lie as the program's text lays them (the tie is given). -/
import Derived.Test.YtobofnkmbpfoiaaGreatDoorProg
import Derived.Test.YtobofnkmbpfoiaaGreatDoorRows
import Derived.Test.YtobofnkmbpfoiaaGreatDoorTie
import Derived.Test.YtobofnkmbpfoiaaGreatDoorCards
import Derived.Test.YtobofnkmbpfoiaaGreatDoorPQb
import Derived.Test.YtobofnkmbpfoiaaGreatDoorPCx
import Derived.Test.YtobofnkmbpfoiaaGreatDoorPW33
set_option linter.unusedVariables false
set_option linter.unusedSimpArgs false
set_option maxRecDepth 4000
namespace Go.Proofs.Ec
open Go.RowKit Go.Proofs.Sx
open Go Ecl
end Go.Proofs.Ec
namespace Go.Proofs.YtobofnkmbpfoiaaGreatDoor
open Go Go.Proofs.Ec Go.Proofs.Sx Ecl
set_option maxRecDepth 100000
theorem eclipseTold_j0 : (Rows.eclipseToldRow.wf (OpenSpec.ofChange Rows.eclipseToldSpec)) = true := by kernel_rfl
theorem eclipseTold_j3 : (Tryz.f5.params.all (Tryz.prog.readableRec ·)) = true := by kernel_rfl
theorem eclipseTold_j4 : (namedTie Tryz.prog Rows.eclipseToldRow.named Rows.eclipseToldSpec.vars) = true := by kernel_rfl
theorem eclipseTold_j5 : ((Rows.eclipseToldRow.stops == [])) = true := by kernel_rfl
theorem eclipseTold_j7 : ((Rows.eclipseToldRow.knobs == [])) = true := by kernel_rfl
theorem eclipseTold_j9 : ((Rows.eclipseToldRow.inPlace == Tryz.prog.inPlace 5)) = true := by kernel_rfl
theorem eclipseTold_j10 : ((Rows.eclipseToldRow.unfollowed == Tryz.prog.unfollowed 5)) = true := by kernel_rfl
theorem eclipseTold_j11 : ((Rows.eclipseToldRow.recurses == Tryz.prog.recurses 5)) = true := by kernel_rfl
theorem eclipseTold_j12 : ((Rows.eclipseToldRow.named == Tryz.prog.varsNamed 5)) = true := by kernel_rfl
theorem eclipseTold_j13 : ((Rows.eclipseToldRow.maps == (Tryz.f5.params.toList ++ Rows.eclipseToldSpec.plain.varTypes Tryz.prog).any (Tryz.prog.mapsRec ·))) = true := by kernel_rfl
theorem eclipseTold_j14 : ((Rows.eclipseToldRow.ifaces == (Tryz.f5.params.toList ++ Rows.eclipseToldSpec.plain.varTypes Tryz.prog).any (Tryz.prog.ifacesRec ·))) = true := by kernel_rfl
theorem eclipseTold_j15 : ((Rows.eclipseToldRow.mapsOut == Tryz.prog.mapsAmong Tryz.f5.resultTypes.toList)) = true := by kernel_rfl
theorem eclipseTold_j16 : ((Rows.eclipseToldRow.loops == (Tryz.f5.params.toList ++ Rows.eclipseToldSpec.plain.varTypes Tryz.prog).any (Tryz.prog.loopsFrom ·))) = true := by kernel_rfl
theorem eclipseTold_j17 : ((Rows.eclipseToldRow.wideKeys == (Tryz.f5.params.toList ++ Rows.eclipseToldSpec.plain.varTypes Tryz.prog ++ Tryz.f5.resultTypes.toList).any (Tryz.prog.wideKeysFrom ·))) = true := by kernel_rfl
theorem eclipseTold_j18 : (Rows.eclipseToldSpec.vars.all (Tryz.prog.varReadable ·)) = true := by kernel_rfl
theorem eclipseTold_j19 : (Tryz.f5.resultTypes.all (fun t => Tryz.prog.readableRec t && decide (t < Tryz.prog.types.size))) = true := by kernel_rfl
theorem eclipseTold_j20 : ((Rows.eclipseToldRow.ifacesOut == Tryz.f5.resultTypes.toList.any (Tryz.prog.ifacesRec ·))) = true := by kernel_rfl
theorem eclipseTold_j21 : ((Rows.eclipseToldRow.loopsOut == Tryz.f5.resultTypes.toList.any (Tryz.prog.loopsFrom ·))) = true := by kernel_rfl
theorem eclipseTold_j22 : ((Rows.eclipseToldRow.plainKeys == Tryz.prog.plainKeys)) = true := by kernel_rfl
theorem eclipseTold_j23 : (Rows.eclipseToldRow.shortTexts.isNone) = true := by kernel_rfl
theorem eclipseTold_j26 : ((Rows.eclipseToldRow.lifted == Tryz.prog.liftsFinal)) = true := by rw [jf_lifts]; rfl
theorem eclipseTold_j27 : ((Tryz.prog.make == some Rows.eclipseToldRow.make)) = true := by kernel_rfl
theorem eclipseTold_j28 : ((Rows.eclipseToldRow.kinds == (if Rows.eclipseToldRow.domain.isEmpty then [] else Tryz.f5.params.toList.map fun t => match Tryz.prog.underlying t with | some (.int k) => some k | _ => none))) = true := by kernel_rfl
theorem eclipseTold_j29 : ((Rows.eclipseToldRow.pinned == Rows.eclipseToldRow.pinnedBy)) = true := by kernel_rfl
theorem eclipseTold_j30 : ((Rows.eclipseToldRow.veiled == (Tryz.f5.params.toList ++ Rows.eclipseToldSpec.plain.varTypes Tryz.prog ++ Tryz.f5.resultTypes.toList).any (Tryz.prog.veiledRec ·))) = true := by kernel_rfl
theorem eclipseTold_j31 : (Rows.eclipseToldRow.veiledFits Tryz.prog Tryz.f5.params.toList (Tryz.f5.params.toList ++ Rows.eclipseToldSpec.plain.varTypes Tryz.prog ++ Tryz.f5.resultTypes.toList)) = true := by kernel_rfl
theorem eclipseTold_fn : Tryz.prog.funcNamed "tellurion/tellurionlaw07.EclipseTold" = some 5 := by kernel_rfl
theorem eclipseTold_goes : false = Rows.eclipseToldRow.goesBy Tryz.prog := by kernel_rfl
theorem eclipseTold_wf : Rows.eclipseToldRow.wfByText (OpenSpec.ofChange Rows.eclipseToldSpec) = true := by kernel_rfl
theorem eclipseTold_said : Rows.EclipseToldSaid :=
  OpenClaim.holds_of_wide 5 Tryz.f5 rfl rfl rfl rfl rfl rfl rfl ⟨rfl, rfl, rfl, rfl, rfl⟩ rfl rfl rfl rfl rfl eclipseTold_fn Tryz.func5 (joined_of _ _ _ _ _ eclipseTold_j0 jf_1 jf_2 eclipseTold_j3 eclipseTold_j4 eclipseTold_j5 jf_6 eclipseTold_j7 jf_8 eclipseTold_j9 eclipseTold_j10 eclipseTold_j11 eclipseTold_j12 eclipseTold_j13 eclipseTold_j14 eclipseTold_j15 eclipseTold_j16 eclipseTold_j17 eclipseTold_j18 eclipseTold_j19 eclipseTold_j20 eclipseTold_j21 eclipseTold_j22 eclipseTold_j23 jf_24 jf_25 eclipseTold_j26 eclipseTold_j27 eclipseTold_j28 eclipseTold_j29 eclipseTold_j30 eclipseTold_j31)
    (of_decide_eq_true (by kernel_rfl)) (by unfold Func.isWrapper; first | (rw [if_pos (by decide +kernel)]; kernel_rfl) | (rw [if_neg (by decide +kernel)]; exact ⟨rfl, rfl⟩))
    (fun os started H enc _ => lifted (spec := Rows.eclipseToldSpec) #[.agg #[.slice none 0 0, .int .i64 0, .int .i64 0, .int .i64 0, .slice none 0 0, .slice none 0 0, .slice none 0 0, .slice none 0 0, .int .i64 0, .int .i64 0, .int .i64 0], .slice none 0 0, .int .i64 0, .int .i64 0, .int .i64 0, .bool false] Tryz.func5 (by kernel_rfl) Tryz.params5 (by kernel_rfl) rfl
      (fun hA => by
        obtain ⟨v0, vs0, d0, ds0, p0, q0, ha, rfl, rfl, h0, r0⟩ := ChangeShapes.trodAll_cons hA
        obtain ⟨v1, vs1, d1, ds1, p1, q1, rfl, rfl, rfl, h1, r1⟩ := ChangeShapes.trodAll_cons r0
        obtain ⟨v2, vs2, d2, ds2, p2, q2, rfl, rfl, rfl, h2, r2⟩ := ChangeShapes.trodAll_cons r1
        obtain ⟨v3, vs3, d3, ds3, p3, q3, rfl, rfl, rfl, h3, r3⟩ := ChangeShapes.trodAll_cons r2
        obtain ⟨v4, vs4, d4, ds4, p4, q4, rfl, rfl, rfl, h4, r4⟩ := ChangeShapes.trodAll_cons r3
        obtain ⟨v5, vs5, d5, ds5, p5, q5, rfl, rfl, rfl, h5, r5⟩ := ChangeShapes.trodAll_cons r4
        obtain ⟨rfl, rfl, rfl⟩ := ChangeShapes.trodAll_nil r5
        rfl)
      (by kernel_rfl) os started H enc (by kernel_rfl) (by kernel_rfl) (by kernel_rfl) (jf_world _ _)
      (fun W base args ds p hval hA hG => by
        obtain ⟨v0, vs0, d0, ds0, p0, q0, ha, rfl, rfl, h0, r0⟩ := ChangeShapes.trodAll_cons hA
        obtain ⟨v1, vs1, d1, ds1, p1, q1, rfl, rfl, rfl, h1, r1⟩ := ChangeShapes.trodAll_cons r0
        obtain ⟨v2, vs2, d2, ds2, p2, q2, rfl, rfl, rfl, h2, r2⟩ := ChangeShapes.trodAll_cons r1
        obtain ⟨v3, vs3, d3, ds3, p3, q3, rfl, rfl, rfl, h3, r3⟩ := ChangeShapes.trodAll_cons r2
        obtain ⟨v4, vs4, d4, ds4, p4, q4, rfl, rfl, rfl, h4, r4⟩ := ChangeShapes.trodAll_cons r3
        obtain ⟨v5, vs5, d5, ds5, p5, q5, rfl, rfl, rfl, h5, r5⟩ := ChangeShapes.trodAll_cons r4
        obtain ⟨rfl, rfl, rfl⟩ := ChangeShapes.trodAll_nil r5
        obtain rfl : args = #[v0, v1, v2, v3, v4, v5] := by cases args; simp_all
        obtain ⟨x, e, rfl, hE⟩ := op_eng (hval 0 32 v0 rfl rfl) h0
        obtain ⟨s2, st, rfl, hS⟩ := op_list (hval 1 30 v1 rfl rfl) h1
        obtain ⟨a2, rfl, hb2⟩ := op_num (hval 2 3 v2 rfl rfl) h2
        obtain ⟨a3, rfl, hb3⟩ := op_num (hval 3 3 v3 rfl rfl) h3
        obtain ⟨a4, rfl, hb4⟩ := op_num (hval 4 3 v4 rfl rfl) h4
        obtain ⟨a5, rfl⟩ := op_flag (hval 5 4 v5 rfl rfl) h5
        exact EclipseTold_L x e s2 st a2 a3 a4 a5 W hE hS hG))
theorem eclipseTold_card : Rows.EclipseToldCardSaid :=
  Claim7.holds_tied_plain_at .later [] [.data, .data, .data, .data, .pinned] true (true, "539264a627cb68ddccdac5f6e1e21e2c3e7f21e824bfeb59e102ee06b2d34115") true eclipseTold_said (fun _ h => by cases h) eclipseTold_wf (fun _ h => by cases h) eclipseTold_row_tie rfl ⟨rfl, rfl⟩ jf_main rfl
    (fun f fn hf hfn => by
      obtain rfl : f = 5 := Option.some.inj (eclipseTold_fn.symm.trans hf) |>.symm
      obtain rfl : fn = Tryz.f5 := (Option.some.inj (Tryz.func5.symm.trans hfn)).symm
      exact ⟨jf_looks, fun j t ht => by
        rw [Tryz.params5] at ht
        have hm : t ∈ [32, 30, 3, 3, 3, 4] := by simpa using Array.mem_of_getElem? ht
        have hall : ([32, 30, 3, 3, 3, 4].all fun u => !Tryz.prog.wantsStandIn u) = true := by kernel_rfl
        exact (show Tryz.prog.wantsStandIn t = false by simpa using List.all_eq_true.1 hall t hm)⟩)
    eclipseTold_goes
#print axioms eclipseTold_card
end Go.Proofs.YtobofnkmbpfoiaaGreatDoor
namespace Go.Proofs.Ec
end Go.Proofs.Ec
