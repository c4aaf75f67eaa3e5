/- The given statement of the law EclipseEnough holds: for every engine, all settings and all numbers the law returns true and leaves its arguments as they were. Its conditions: the listed tables of the library lie as the program's text lays them (the tie is given). -/
import Derived.Test.YtobofnkmbpfoiaaGreatDoorProg
import Derived.Test.YtobofnkmbpfoiaaGreatDoorRows
import Derived.Test.YtobofnkmbpfoiaaGreatDoorTie
import Derived.Test.YtobofnkmbpfoiaaGreatDoorCards
import Derived.Test.YtobofnkmbpfoiaaGreatDoorPQb
import Derived.Test.YtobofnkmbpfoiaaGreatDoorPCx
import Derived.Test.YtobofnkmbpfoiaaGreatDoorPW39
set_option linter.unusedVariables false
set_option linter.unusedSimpArgs false
set_option maxRecDepth 4000
namespace Go.Proofs.Ec
open Go.RowKit Go.Proofs.Sx
open Go Ecl
end Go.Proofs.Ec
namespace Go.Proofs.YtobofnkmbpfoiaaGreatDoor
open Go Go.Proofs.Ec Go.Proofs.Sx Ecl
set_option maxRecDepth 100000
theorem eclipseEnough_j0 : (Rows.eclipseEnoughRow.wf (OpenSpec.ofChange Rows.eclipseEnoughSpec)) = true := by kernel_rfl
theorem eclipseEnough_j3 : (Tryz.f11.params.all (Tryz.prog.readableRec ·)) = true := by kernel_rfl
theorem eclipseEnough_j4 : (namedTie Tryz.prog Rows.eclipseEnoughRow.named Rows.eclipseEnoughSpec.vars) = true := by kernel_rfl
theorem eclipseEnough_j5 : ((Rows.eclipseEnoughRow.stops == [])) = true := by kernel_rfl
theorem eclipseEnough_j7 : ((Rows.eclipseEnoughRow.knobs == [])) = true := by kernel_rfl
theorem eclipseEnough_j9 : ((Rows.eclipseEnoughRow.inPlace == Tryz.prog.inPlace 11)) = true := by kernel_rfl
theorem eclipseEnough_j10 : ((Rows.eclipseEnoughRow.unfollowed == Tryz.prog.unfollowed 11)) = true := by kernel_rfl
theorem eclipseEnough_j11 : ((Rows.eclipseEnoughRow.recurses == Tryz.prog.recurses 11)) = true := by kernel_rfl
theorem eclipseEnough_j12 : ((Rows.eclipseEnoughRow.named == Tryz.prog.varsNamed 11)) = true := by kernel_rfl
theorem eclipseEnough_j13 : ((Rows.eclipseEnoughRow.maps == (Tryz.f11.params.toList ++ Rows.eclipseEnoughSpec.plain.varTypes Tryz.prog).any (Tryz.prog.mapsRec ·))) = true := by kernel_rfl
theorem eclipseEnough_j14 : ((Rows.eclipseEnoughRow.ifaces == (Tryz.f11.params.toList ++ Rows.eclipseEnoughSpec.plain.varTypes Tryz.prog).any (Tryz.prog.ifacesRec ·))) = true := by kernel_rfl
theorem eclipseEnough_j15 : ((Rows.eclipseEnoughRow.mapsOut == Tryz.prog.mapsAmong Tryz.f11.resultTypes.toList)) = true := by kernel_rfl
theorem eclipseEnough_j16 : ((Rows.eclipseEnoughRow.loops == (Tryz.f11.params.toList ++ Rows.eclipseEnoughSpec.plain.varTypes Tryz.prog).any (Tryz.prog.loopsFrom ·))) = true := by kernel_rfl
theorem eclipseEnough_j17 : ((Rows.eclipseEnoughRow.wideKeys == (Tryz.f11.params.toList ++ Rows.eclipseEnoughSpec.plain.varTypes Tryz.prog ++ Tryz.f11.resultTypes.toList).any (Tryz.prog.wideKeysFrom ·))) = true := by kernel_rfl
theorem eclipseEnough_j18 : (Rows.eclipseEnoughSpec.vars.all (Tryz.prog.varReadable ·)) = true := by kernel_rfl
theorem eclipseEnough_j19 : (Tryz.f11.resultTypes.all (fun t => Tryz.prog.readableRec t && decide (t < Tryz.prog.types.size))) = true := by kernel_rfl
theorem eclipseEnough_j20 : ((Rows.eclipseEnoughRow.ifacesOut == Tryz.f11.resultTypes.toList.any (Tryz.prog.ifacesRec ·))) = true := by kernel_rfl
theorem eclipseEnough_j21 : ((Rows.eclipseEnoughRow.loopsOut == Tryz.f11.resultTypes.toList.any (Tryz.prog.loopsFrom ·))) = true := by kernel_rfl
theorem eclipseEnough_j22 : ((Rows.eclipseEnoughRow.plainKeys == Tryz.prog.plainKeys)) = true := by kernel_rfl
theorem eclipseEnough_j23 : (Rows.eclipseEnoughRow.shortTexts.isNone) = true := by kernel_rfl
theorem eclipseEnough_j26 : ((Rows.eclipseEnoughRow.lifted == Tryz.prog.liftsFinal)) = true := by rw [jf_lifts]; rfl
theorem eclipseEnough_j27 : ((Tryz.prog.make == some Rows.eclipseEnoughRow.make)) = true := by kernel_rfl
theorem eclipseEnough_j28 : ((Rows.eclipseEnoughRow.kinds == (if Rows.eclipseEnoughRow.domain.isEmpty then [] else Tryz.f11.params.toList.map fun t => match Tryz.prog.underlying t with | some (.int k) => some k | _ => none))) = true := by kernel_rfl
theorem eclipseEnough_j29 : ((Rows.eclipseEnoughRow.pinned == Rows.eclipseEnoughRow.pinnedBy)) = true := by kernel_rfl
theorem eclipseEnough_j30 : ((Rows.eclipseEnoughRow.veiled == (Tryz.f11.params.toList ++ Rows.eclipseEnoughSpec.plain.varTypes Tryz.prog ++ Tryz.f11.resultTypes.toList).any (Tryz.prog.veiledRec ·))) = true := by kernel_rfl
theorem eclipseEnough_j31 : (Rows.eclipseEnoughRow.veiledFits Tryz.prog Tryz.f11.params.toList (Tryz.f11.params.toList ++ Rows.eclipseEnoughSpec.plain.varTypes Tryz.prog ++ Tryz.f11.resultTypes.toList)) = true := by kernel_rfl
theorem eclipseEnough_fn : Tryz.prog.funcNamed "tellurion/tellurionlaw07.EclipseEnough" = some 11 := by kernel_rfl
theorem eclipseEnough_goes : false = Rows.eclipseEnoughRow.goesBy Tryz.prog := by kernel_rfl
theorem eclipseEnough_wf : Rows.eclipseEnoughRow.wfByText (OpenSpec.ofChange Rows.eclipseEnoughSpec) = true := by kernel_rfl
theorem eclipseEnough_said : Rows.EclipseEnoughSaid :=
  OpenClaim.holds_of_wide 11 Tryz.f11 rfl rfl rfl rfl rfl rfl rfl ⟨rfl, rfl, rfl, rfl, rfl⟩ rfl rfl rfl rfl rfl eclipseEnough_fn Tryz.func11 (joined_of _ _ _ _ _ eclipseEnough_j0 jf_1 jf_2 eclipseEnough_j3 eclipseEnough_j4 eclipseEnough_j5 jf_6 eclipseEnough_j7 jf_8 eclipseEnough_j9 eclipseEnough_j10 eclipseEnough_j11 eclipseEnough_j12 eclipseEnough_j13 eclipseEnough_j14 eclipseEnough_j15 eclipseEnough_j16 eclipseEnough_j17 eclipseEnough_j18 eclipseEnough_j19 eclipseEnough_j20 eclipseEnough_j21 eclipseEnough_j22 eclipseEnough_j23 jf_24 jf_25 eclipseEnough_j26 eclipseEnough_j27 eclipseEnough_j28 eclipseEnough_j29 eclipseEnough_j30 eclipseEnough_j31)
    (of_decide_eq_true (by kernel_rfl)) (by unfold Func.isWrapper; first | (rw [if_pos (by decide +kernel)]; kernel_rfl) | (rw [if_neg (by decide +kernel)]; exact ⟨rfl, rfl⟩))
    (fun os started H enc _ => lifted (spec := Rows.eclipseEnoughSpec) #[.agg #[.slice none 0 0, .int .i64 0, .int .i64 0, .int .i64 0, .slice none 0 0, .slice none 0 0, .slice none 0 0, .slice none 0 0, .int .i64 0, .int .i64 0, .int .i64 0], .slice none 0 0, .int .i64 0, .int .i64 0, .int .i64 0, .int .i64 0] Tryz.func11 (by kernel_rfl) Tryz.params11 (by kernel_rfl) rfl
      (fun hA => by
        obtain ⟨v0, vs0, d0, ds0, p0, q0, ha, rfl, rfl, h0, r0⟩ := ChangeShapes.trodAll_cons hA
        obtain ⟨v1, vs1, d1, ds1, p1, q1, rfl, rfl, rfl, h1, r1⟩ := ChangeShapes.trodAll_cons r0
        obtain ⟨v2, vs2, d2, ds2, p2, q2, rfl, rfl, rfl, h2, r2⟩ := ChangeShapes.trodAll_cons r1
        obtain ⟨v3, vs3, d3, ds3, p3, q3, rfl, rfl, rfl, h3, r3⟩ := ChangeShapes.trodAll_cons r2
        obtain ⟨v4, vs4, d4, ds4, p4, q4, rfl, rfl, rfl, h4, r4⟩ := ChangeShapes.trodAll_cons r3
        obtain ⟨v5, vs5, d5, ds5, p5, q5, rfl, rfl, rfl, h5, r5⟩ := ChangeShapes.trodAll_cons r4
        obtain ⟨rfl, rfl, rfl⟩ := ChangeShapes.trodAll_nil r5
        rfl)
      (by kernel_rfl) os started H enc (by kernel_rfl) (by kernel_rfl) (by kernel_rfl) (jf_world _ _)
      (fun W base args ds p hval hA hG => by
        obtain ⟨v0, vs0, d0, ds0, p0, q0, ha, rfl, rfl, h0, r0⟩ := ChangeShapes.trodAll_cons hA
        obtain ⟨v1, vs1, d1, ds1, p1, q1, rfl, rfl, rfl, h1, r1⟩ := ChangeShapes.trodAll_cons r0
        obtain ⟨v2, vs2, d2, ds2, p2, q2, rfl, rfl, rfl, h2, r2⟩ := ChangeShapes.trodAll_cons r1
        obtain ⟨v3, vs3, d3, ds3, p3, q3, rfl, rfl, rfl, h3, r3⟩ := ChangeShapes.trodAll_cons r2
        obtain ⟨v4, vs4, d4, ds4, p4, q4, rfl, rfl, rfl, h4, r4⟩ := ChangeShapes.trodAll_cons r3
        obtain ⟨v5, vs5, d5, ds5, p5, q5, rfl, rfl, rfl, h5, r5⟩ := ChangeShapes.trodAll_cons r4
        obtain ⟨rfl, rfl, rfl⟩ := ChangeShapes.trodAll_nil r5
        obtain rfl : args = #[v0, v1, v2, v3, v4, v5] := by cases args; simp_all
        obtain ⟨x, e, rfl, hE⟩ := op_eng (hval 0 32 v0 rfl rfl) h0
        obtain ⟨s2, st, rfl, hS⟩ := op_list (hval 1 30 v1 rfl rfl) h1
        obtain ⟨a2, rfl, hb2⟩ := op_num (hval 2 3 v2 rfl rfl) h2
        obtain ⟨a3, rfl, hb3⟩ := op_num (hval 3 3 v3 rfl rfl) h3
        obtain ⟨a4, rfl, hb4⟩ := op_num (hval 4 3 v4 rfl rfl) h4
        obtain ⟨a5, rfl, hb5⟩ := op_num (hval 5 3 v5 rfl rfl) h5
        exact EclipseEnough_L x e s2 st a2 a3 a4 a5 W hE hS hG))
theorem eclipseEnough_card : Rows.EclipseEnoughCardSaid :=
  Claim7.holds_tied_plain_at .later [] [.data, .data, .data, .data, .pinned] true (true, "539264a627cb68ddccdac5f6e1e21e2c3e7f21e824bfeb59e102ee06b2d34115") true eclipseEnough_said (fun _ h => by cases h) eclipseEnough_wf (fun _ h => by cases h) eclipseEnough_row_tie rfl ⟨rfl, rfl⟩ jf_main rfl
    (fun f fn hf hfn => by
      obtain rfl : f = 11 := Option.some.inj (eclipseEnough_fn.symm.trans hf) |>.symm
      obtain rfl : fn = Tryz.f11 := (Option.some.inj (Tryz.func11.symm.trans hfn)).symm
      exact ⟨jf_looks, fun j t ht => by
        rw [Tryz.params11] at ht
        have hm : t ∈ [32, 30, 3, 3, 3, 3] := by simpa using Array.mem_of_getElem? ht
        have hall : ([32, 30, 3, 3, 3, 3].all fun u => !Tryz.prog.wantsStandIn u) = true := by kernel_rfl
        exact (show Tryz.prog.wantsStandIn t = false by simpa using List.all_eq_true.1 hall t hm)⟩)
    eclipseEnough_goes
#print axioms eclipseEnough_card
end Go.Proofs.YtobofnkmbpfoiaaGreatDoor
namespace Go.Proofs.Ec
end Go.Proofs.Ec
