/- The given statement of the law EclipseNever holds: for every engine, all settings and all numbers the law returns true and leaves its arguments as they were. Its conditions: the listed tables of the library lie as the program's text lays them (the tie is given). -/
import Derived.Test.YtobofnkmbpfoiaaGreatDoorProg
import Derived.Test.YtobofnkmbpfoiaaGreatDoorRows
import Derived.Test.YtobofnkmbpfoiaaGreatDoorTie
import Derived.Test.YtobofnkmbpfoiaaGreatDoorCards
import Derived.Test.YtobofnkmbpfoiaaGreatDoorPQb
import Derived.Test.YtobofnkmbpfoiaaGreatDoorPCx
import Derived.Test.YtobofnkmbpfoiaaGreatDoorPW42
set_option linter.unusedVariables false
set_option linter.unusedSimpArgs false
set_option maxRecDepth 4000
namespace Go.Proofs.Ec
open Go.RowKit Go.Proofs.Sx
open Go Ecl
end Go.Proofs.Ec
namespace Go.Proofs.YtobofnkmbpfoiaaGreatDoor
open Go Go.Proofs.Ec Go.Proofs.Sx Ecl
set_option maxRecDepth 100000
theorem eclipseNever_j0 : (Rows.eclipseNeverRow.wf (OpenSpec.ofChange Rows.eclipseNeverSpec)) = true := by kernel_rfl
theorem eclipseNever_j3 : (Tryz.f12.params.all (Tryz.prog.readableRec ·)) = true := by kernel_rfl
theorem eclipseNever_j4 : (namedTie Tryz.prog Rows.eclipseNeverRow.named Rows.eclipseNeverSpec.vars) = true := by kernel_rfl
theorem eclipseNever_j5 : ((Rows.eclipseNeverRow.stops == [])) = true := by kernel_rfl
theorem eclipseNever_j7 : ((Rows.eclipseNeverRow.knobs == [])) = true := by kernel_rfl
theorem eclipseNever_j9 : ((Rows.eclipseNeverRow.inPlace == Tryz.prog.inPlace 12)) = true := by kernel_rfl
theorem eclipseNever_j10 : ((Rows.eclipseNeverRow.unfollowed == Tryz.prog.unfollowed 12)) = true := by kernel_rfl
theorem eclipseNever_j11 : ((Rows.eclipseNeverRow.recurses == Tryz.prog.recurses 12)) = true := by kernel_rfl
theorem eclipseNever_j12 : ((Rows.eclipseNeverRow.named == Tryz.prog.varsNamed 12)) = true := by kernel_rfl
theorem eclipseNever_j13 : ((Rows.eclipseNeverRow.maps == (Tryz.f12.params.toList ++ Rows.eclipseNeverSpec.plain.varTypes Tryz.prog).any (Tryz.prog.mapsRec ·))) = true := by kernel_rfl
theorem eclipseNever_j14 : ((Rows.eclipseNeverRow.ifaces == (Tryz.f12.params.toList ++ Rows.eclipseNeverSpec.plain.varTypes Tryz.prog).any (Tryz.prog.ifacesRec ·))) = true := by kernel_rfl
theorem eclipseNever_j15 : ((Rows.eclipseNeverRow.mapsOut == Tryz.prog.mapsAmong Tryz.f12.resultTypes.toList)) = true := by kernel_rfl
theorem eclipseNever_j16 : ((Rows.eclipseNeverRow.loops == (Tryz.f12.params.toList ++ Rows.eclipseNeverSpec.plain.varTypes Tryz.prog).any (Tryz.prog.loopsFrom ·))) = true := by kernel_rfl
theorem eclipseNever_j17 : ((Rows.eclipseNeverRow.wideKeys == (Tryz.f12.params.toList ++ Rows.eclipseNeverSpec.plain.varTypes Tryz.prog ++ Tryz.f12.resultTypes.toList).any (Tryz.prog.wideKeysFrom ·))) = true := by kernel_rfl
theorem eclipseNever_j18 : (Rows.eclipseNeverSpec.vars.all (Tryz.prog.varReadable ·)) = true := by kernel_rfl
theorem eclipseNever_j19 : (Tryz.f12.resultTypes.all (fun t => Tryz.prog.readableRec t && decide (t < Tryz.prog.types.size))) = true := by kernel_rfl
theorem eclipseNever_j20 : ((Rows.eclipseNeverRow.ifacesOut == Tryz.f12.resultTypes.toList.any (Tryz.prog.ifacesRec ·))) = true := by kernel_rfl
theorem eclipseNever_j21 : ((Rows.eclipseNeverRow.loopsOut == Tryz.f12.resultTypes.toList.any (Tryz.prog.loopsFrom ·))) = true := by kernel_rfl
theorem eclipseNever_j22 : ((Rows.eclipseNeverRow.plainKeys == Tryz.prog.plainKeys)) = true := by kernel_rfl
theorem eclipseNever_j23 : (Rows.eclipseNeverRow.shortTexts.isNone) = true := by kernel_rfl
theorem eclipseNever_j26 : ((Rows.eclipseNeverRow.lifted == Tryz.prog.liftsFinal)) = true := by rw [jf_lifts]; rfl
theorem eclipseNever_j27 : ((Tryz.prog.make == some Rows.eclipseNeverRow.make)) = true := by kernel_rfl
theorem eclipseNever_j28 : ((Rows.eclipseNeverRow.kinds == (if Rows.eclipseNeverRow.domain.isEmpty then [] else Tryz.f12.params.toList.map fun t => match Tryz.prog.underlying t with | some (.int k) => some k | _ => none))) = true := by kernel_rfl
theorem eclipseNever_j29 : ((Rows.eclipseNeverRow.pinned == Rows.eclipseNeverRow.pinnedBy)) = true := by kernel_rfl
theorem eclipseNever_j30 : ((Rows.eclipseNeverRow.veiled == (Tryz.f12.params.toList ++ Rows.eclipseNeverSpec.plain.varTypes Tryz.prog ++ Tryz.f12.resultTypes.toList).any (Tryz.prog.veiledRec ·))) = true := by kernel_rfl
theorem eclipseNever_j31 : (Rows.eclipseNeverRow.veiledFits Tryz.prog Tryz.f12.params.toList (Tryz.f12.params.toList ++ Rows.eclipseNeverSpec.plain.varTypes Tryz.prog ++ Tryz.f12.resultTypes.toList)) = true := by kernel_rfl
theorem eclipseNever_fn : Tryz.prog.funcNamed "tellurion/tellurionlaw07.EclipseNever" = some 12 := by kernel_rfl
theorem eclipseNever_goes : false = Rows.eclipseNeverRow.goesBy Tryz.prog := by kernel_rfl
theorem eclipseNever_wf : Rows.eclipseNeverRow.wfByText (OpenSpec.ofChange Rows.eclipseNeverSpec) = true := by kernel_rfl
theorem eclipseNever_said : Rows.EclipseNeverSaid :=
  OpenClaim.holds_of_wide 12 Tryz.f12 rfl rfl rfl rfl rfl rfl rfl ⟨rfl, rfl, rfl, rfl, rfl⟩ rfl rfl rfl rfl rfl eclipseNever_fn Tryz.func12 (joined_of _ _ _ _ _ eclipseNever_j0 jf_1 jf_2 eclipseNever_j3 eclipseNever_j4 eclipseNever_j5 jf_6 eclipseNever_j7 jf_8 eclipseNever_j9 eclipseNever_j10 eclipseNever_j11 eclipseNever_j12 eclipseNever_j13 eclipseNever_j14 eclipseNever_j15 eclipseNever_j16 eclipseNever_j17 eclipseNever_j18 eclipseNever_j19 eclipseNever_j20 eclipseNever_j21 eclipseNever_j22 eclipseNever_j23 jf_24 jf_25 eclipseNever_j26 eclipseNever_j27 eclipseNever_j28 eclipseNever_j29 eclipseNever_j30 eclipseNever_j31)
    (of_decide_eq_true (by kernel_rfl)) (by unfold Func.isWrapper; first | (rw [if_pos (by decide +kernel)]; kernel_rfl) | (rw [if_neg (by decide +kernel)]; exact ⟨rfl, rfl⟩))
    (fun os started H enc _ => lifted (spec := Rows.eclipseNeverSpec) #[.agg #[.slice none 0 0, .int .i64 0, .int .i64 0, .int .i64 0, .slice none 0 0, .slice none 0 0, .slice none 0 0, .slice none 0 0, .int .i64 0, .int .i64 0, .int .i64 0], .slice none 0 0, .int .i64 0, .int .i64 0, .int .i64 0, .int .i64 0] Tryz.func12 (by kernel_rfl) Tryz.params12 (by kernel_rfl) rfl
      (fun hA => by
        obtain ⟨v0, vs0, d0, ds0, p0, q0, ha, rfl, rfl, h0, r0⟩ := ChangeShapes.trodAll_cons hA
        obtain ⟨v1, vs1, d1, ds1, p1, q1, rfl, rfl, rfl, h1, r1⟩ := ChangeShapes.trodAll_cons r0
        obtain ⟨v2, vs2, d2, ds2, p2, q2, rfl, rfl, rfl, h2, r2⟩ := ChangeShapes.trodAll_cons r1
        obtain ⟨v3, vs3, d3, ds3, p3, q3, rfl, rfl, rfl, h3, r3⟩ := ChangeShapes.trodAll_cons r2
        obtain ⟨v4, vs4, d4, ds4, p4, q4, rfl, rfl, rfl, h4, r4⟩ := ChangeShapes.trodAll_cons r3
        obtain ⟨v5, vs5, d5, ds5, p5, q5, rfl, rfl, rfl, h5, r5⟩ := ChangeShapes.trodAll_cons r4
        obtain ⟨rfl, rfl, rfl⟩ := ChangeShapes.trodAll_nil r5
        rfl)
      (by kernel_rfl) os started H enc (by kernel_rfl) (by kernel_rfl) (by kernel_rfl) (jf_world _ _)
      (fun W base args ds p hval hA hG => by
        obtain ⟨v0, vs0, d0, ds0, p0, q0, ha, rfl, rfl, h0, r0⟩ := ChangeShapes.trodAll_cons hA
        obtain ⟨v1, vs1, d1, ds1, p1, q1, rfl, rfl, rfl, h1, r1⟩ := ChangeShapes.trodAll_cons r0
        obtain ⟨v2, vs2, d2, ds2, p2, q2, rfl, rfl, rfl, h2, r2⟩ := ChangeShapes.trodAll_cons r1
        obtain ⟨v3, vs3, d3, ds3, p3, q3, rfl, rfl, rfl, h3, r3⟩ := ChangeShapes.trodAll_cons r2
        obtain ⟨v4, vs4, d4, ds4, p4, q4, rfl, rfl, rfl, h4, r4⟩ := ChangeShapes.trodAll_cons r3
        obtain ⟨v5, vs5, d5, ds5, p5, q5, rfl, rfl, rfl, h5, r5⟩ := ChangeShapes.trodAll_cons r4
        obtain ⟨rfl, rfl, rfl⟩ := ChangeShapes.trodAll_nil r5
        obtain rfl : args = #[v0, v1, v2, v3, v4, v5] := by cases args; simp_all
        obtain ⟨x, e, rfl, hE⟩ := op_eng (hval 0 32 v0 rfl rfl) h0
        obtain ⟨s2, st, rfl, hS⟩ := op_list (hval 1 30 v1 rfl rfl) h1
        obtain ⟨a2, rfl, hb2⟩ := op_num (hval 2 3 v2 rfl rfl) h2
        obtain ⟨a3, rfl, hb3⟩ := op_num (hval 3 3 v3 rfl rfl) h3
        obtain ⟨a4, rfl, hb4⟩ := op_num (hval 4 3 v4 rfl rfl) h4
        obtain ⟨a5, rfl, hb5⟩ := op_num (hval 5 3 v5 rfl rfl) h5
        exact EclipseNever_L x e s2 st a2 a3 a4 a5 W hE hS hG))
theorem eclipseNever_card : Rows.EclipseNeverCardSaid :=
  Claim7.holds_tied_plain_at .later [] [.data, .data, .data, .data, .pinned] true (true, "539264a627cb68ddccdac5f6e1e21e2c3e7f21e824bfeb59e102ee06b2d34115") true eclipseNever_said (fun _ h => by cases h) eclipseNever_wf (fun _ h => by cases h) eclipseNever_row_tie rfl ⟨rfl, rfl⟩ jf_main rfl
    (fun f fn hf hfn => by
      obtain rfl : f = 12 := Option.some.inj (eclipseNever_fn.symm.trans hf) |>.symm
      obtain rfl : fn = Tryz.f12 := (Option.some.inj (Tryz.func12.symm.trans hfn)).symm
      exact ⟨jf_looks, fun j t ht => by
        rw [Tryz.params12] at ht
        have hm : t ∈ [32, 30, 3, 3, 3, 3] := by simpa using Array.mem_of_getElem? ht
        have hall : ([32, 30, 3, 3, 3, 3].all fun u => !Tryz.prog.wantsStandIn u) = true := by kernel_rfl
        exact (show Tryz.prog.wantsStandIn t = false by simpa using List.all_eq_true.1 hall t hm)⟩)
    eclipseNever_goes
#print axioms eclipseNever_card
end Go.Proofs.YtobofnkmbpfoiaaGreatDoor
namespace Go.Proofs.Ec
end Go.Proofs.Ec
