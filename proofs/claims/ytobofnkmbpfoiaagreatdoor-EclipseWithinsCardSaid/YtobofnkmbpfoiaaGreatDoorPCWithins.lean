/- The given statement of the law EclipseWithins holds: for every engine, all settings and all numbers the law returns true and leaves its arguments as they were. Its conditions: the listed tables of the library lie as the program's text lays them (the tie is given). -/
import Derived.Test.YtobofnkmbpfoiaaGreatDoorProg
import Derived.Test.YtobofnkmbpfoiaaGreatDoorRows
import Derived.Test.YtobofnkmbpfoiaaGreatDoorTie
import Derived.Test.YtobofnkmbpfoiaaGreatDoorCards
import Derived.Test.YtobofnkmbpfoiaaGreatDoorPQb
import Derived.Test.YtobofnkmbpfoiaaGreatDoorPCx
import Derived.Test.YtobofnkmbpfoiaaGreatDoorPW35
set_option linter.unusedVariables false
set_option linter.unusedSimpArgs false
set_option maxRecDepth 4000
namespace Go.Proofs.Ec
open Go.RowKit Go.Proofs.Sx
open Go Ecl
end Go.Proofs.Ec
namespace Go.Proofs.YtobofnkmbpfoiaaGreatDoor
open Go Go.Proofs.Ec Go.Proofs.Sx Ecl
set_option maxRecDepth 100000
theorem eclipseWithins_j0 : (Rows.eclipseWithinsRow.wf (OpenSpec.ofChange Rows.eclipseWithinsSpec)) = true := by kernel_rfl
theorem eclipseWithins_j3 : (Tryz.f6.params.all (Tryz.prog.readableRec ·)) = true := by kernel_rfl
theorem eclipseWithins_j4 : (namedTie Tryz.prog Rows.eclipseWithinsRow.named Rows.eclipseWithinsSpec.vars) = true := by kernel_rfl
theorem eclipseWithins_j5 : ((Rows.eclipseWithinsRow.stops == [])) = true := by kernel_rfl
theorem eclipseWithins_j7 : ((Rows.eclipseWithinsRow.knobs == [])) = true := by kernel_rfl
theorem eclipseWithins_j9 : ((Rows.eclipseWithinsRow.inPlace == Tryz.prog.inPlace 6)) = true := by kernel_rfl
theorem eclipseWithins_j10 : ((Rows.eclipseWithinsRow.unfollowed == Tryz.prog.unfollowed 6)) = true := by kernel_rfl
theorem eclipseWithins_j11 : ((Rows.eclipseWithinsRow.recurses == Tryz.prog.recurses 6)) = true := by kernel_rfl
theorem eclipseWithins_j12 : ((Rows.eclipseWithinsRow.named == Tryz.prog.varsNamed 6)) = true := by kernel_rfl
theorem eclipseWithins_j13 : ((Rows.eclipseWithinsRow.maps == (Tryz.f6.params.toList ++ Rows.eclipseWithinsSpec.plain.varTypes Tryz.prog).any (Tryz.prog.mapsRec ·))) = true := by kernel_rfl
theorem eclipseWithins_j14 : ((Rows.eclipseWithinsRow.ifaces == (Tryz.f6.params.toList ++ Rows.eclipseWithinsSpec.plain.varTypes Tryz.prog).any (Tryz.prog.ifacesRec ·))) = true := by kernel_rfl
theorem eclipseWithins_j15 : ((Rows.eclipseWithinsRow.mapsOut == Tryz.prog.mapsAmong Tryz.f6.resultTypes.toList)) = true := by kernel_rfl
theorem eclipseWithins_j16 : ((Rows.eclipseWithinsRow.loops == (Tryz.f6.params.toList ++ Rows.eclipseWithinsSpec.plain.varTypes Tryz.prog).any (Tryz.prog.loopsFrom ·))) = true := by kernel_rfl
theorem eclipseWithins_j17 : ((Rows.eclipseWithinsRow.wideKeys == (Tryz.f6.params.toList ++ Rows.eclipseWithinsSpec.plain.varTypes Tryz.prog ++ Tryz.f6.resultTypes.toList).any (Tryz.prog.wideKeysFrom ·))) = true := by kernel_rfl
theorem eclipseWithins_j18 : (Rows.eclipseWithinsSpec.vars.all (Tryz.prog.varReadable ·)) = true := by kernel_rfl
theorem eclipseWithins_j19 : (Tryz.f6.resultTypes.all (fun t => Tryz.prog.readableRec t && decide (t < Tryz.prog.types.size))) = true := by kernel_rfl
theorem eclipseWithins_j20 : ((Rows.eclipseWithinsRow.ifacesOut == Tryz.f6.resultTypes.toList.any (Tryz.prog.ifacesRec ·))) = true := by kernel_rfl
theorem eclipseWithins_j21 : ((Rows.eclipseWithinsRow.loopsOut == Tryz.f6.resultTypes.toList.any (Tryz.prog.loopsFrom ·))) = true := by kernel_rfl
theorem eclipseWithins_j22 : ((Rows.eclipseWithinsRow.plainKeys == Tryz.prog.plainKeys)) = true := by kernel_rfl
theorem eclipseWithins_j23 : (Rows.eclipseWithinsRow.shortTexts.isNone) = true := by kernel_rfl
theorem eclipseWithins_j26 : ((Rows.eclipseWithinsRow.lifted == Tryz.prog.liftsFinal)) = true := by rw [jf_lifts]; rfl
theorem eclipseWithins_j27 : ((Tryz.prog.make == some Rows.eclipseWithinsRow.make)) = true := by kernel_rfl
theorem eclipseWithins_j28 : ((Rows.eclipseWithinsRow.kinds == (if Rows.eclipseWithinsRow.domain.isEmpty then [] else Tryz.f6.params.toList.map fun t => match Tryz.prog.underlying t with | some (.int k) => some k | _ => none))) = true := by kernel_rfl
theorem eclipseWithins_j29 : ((Rows.eclipseWithinsRow.pinned == Rows.eclipseWithinsRow.pinnedBy)) = true := by kernel_rfl
theorem eclipseWithins_j30 : ((Rows.eclipseWithinsRow.veiled == (Tryz.f6.params.toList ++ Rows.eclipseWithinsSpec.plain.varTypes Tryz.prog ++ Tryz.f6.resultTypes.toList).any (Tryz.prog.veiledRec ·))) = true := by kernel_rfl
theorem eclipseWithins_j31 : (Rows.eclipseWithinsRow.veiledFits Tryz.prog Tryz.f6.params.toList (Tryz.f6.params.toList ++ Rows.eclipseWithinsSpec.plain.varTypes Tryz.prog ++ Tryz.f6.resultTypes.toList)) = true := by kernel_rfl
theorem eclipseWithins_fn : Tryz.prog.funcNamed "tellurion/tellurionlaw07.EclipseWithins" = some 6 := by kernel_rfl
theorem eclipseWithins_goes : false = Rows.eclipseWithinsRow.goesBy Tryz.prog := by kernel_rfl
theorem eclipseWithins_wf : Rows.eclipseWithinsRow.wfByText (OpenSpec.ofChange Rows.eclipseWithinsSpec) = true := by kernel_rfl
theorem eclipseWithins_said : Rows.EclipseWithinsSaid :=
  OpenClaim.holds_of_wide 6 Tryz.f6 rfl rfl rfl rfl rfl rfl rfl ⟨rfl, rfl, rfl, rfl, rfl⟩ rfl rfl rfl rfl rfl eclipseWithins_fn Tryz.func6 (joined_of _ _ _ _ _ eclipseWithins_j0 jf_1 jf_2 eclipseWithins_j3 eclipseWithins_j4 eclipseWithins_j5 jf_6 eclipseWithins_j7 jf_8 eclipseWithins_j9 eclipseWithins_j10 eclipseWithins_j11 eclipseWithins_j12 eclipseWithins_j13 eclipseWithins_j14 eclipseWithins_j15 eclipseWithins_j16 eclipseWithins_j17 eclipseWithins_j18 eclipseWithins_j19 eclipseWithins_j20 eclipseWithins_j21 eclipseWithins_j22 eclipseWithins_j23 jf_24 jf_25 eclipseWithins_j26 eclipseWithins_j27 eclipseWithins_j28 eclipseWithins_j29 eclipseWithins_j30 eclipseWithins_j31)
    (of_decide_eq_true (by kernel_rfl)) (by unfold Func.isWrapper; first | (rw [if_pos (by decide +kernel)]; kernel_rfl) | (rw [if_neg (by decide +kernel)]; exact ⟨rfl, rfl⟩))
    (fun os started H enc _ => lifted (spec := Rows.eclipseWithinsSpec) #[.agg #[.slice none 0 0, .int .i64 0, .int .i64 0, .int .i64 0, .slice none 0 0, .slice none 0 0, .slice none 0 0, .slice none 0 0, .int .i64 0, .int .i64 0, .int .i64 0], .slice none 0 0, .int .i64 0, .int .i64 0, .int .i64 0] Tryz.func6 (by kernel_rfl) Tryz.params6 (by kernel_rfl) rfl
      (fun hA => by
        obtain ⟨v0, vs0, d0, ds0, p0, q0, ha, rfl, rfl, h0, r0⟩ := ChangeShapes.trodAll_cons hA
        obtain ⟨v1, vs1, d1, ds1, p1, q1, rfl, rfl, rfl, h1, r1⟩ := ChangeShapes.trodAll_cons r0
        obtain ⟨v2, vs2, d2, ds2, p2, q2, rfl, rfl, rfl, h2, r2⟩ := ChangeShapes.trodAll_cons r1
        obtain ⟨v3, vs3, d3, ds3, p3, q3, rfl, rfl, rfl, h3, r3⟩ := ChangeShapes.trodAll_cons r2
        obtain ⟨v4, vs4, d4, ds4, p4, q4, rfl, rfl, rfl, h4, r4⟩ := ChangeShapes.trodAll_cons r3
        obtain ⟨rfl, rfl, rfl⟩ := ChangeShapes.trodAll_nil r4
        rfl)
      (by kernel_rfl) os started H enc (by kernel_rfl) (by kernel_rfl) (by kernel_rfl) (jf_world _ _)
      (fun W base args ds p hval hA hG => by
        obtain ⟨v0, vs0, d0, ds0, p0, q0, ha, rfl, rfl, h0, r0⟩ := ChangeShapes.trodAll_cons hA
        obtain ⟨v1, vs1, d1, ds1, p1, q1, rfl, rfl, rfl, h1, r1⟩ := ChangeShapes.trodAll_cons r0
        obtain ⟨v2, vs2, d2, ds2, p2, q2, rfl, rfl, rfl, h2, r2⟩ := ChangeShapes.trodAll_cons r1
        obtain ⟨v3, vs3, d3, ds3, p3, q3, rfl, rfl, rfl, h3, r3⟩ := ChangeShapes.trodAll_cons r2
        obtain ⟨v4, vs4, d4, ds4, p4, q4, rfl, rfl, rfl, h4, r4⟩ := ChangeShapes.trodAll_cons r3
        obtain ⟨rfl, rfl, rfl⟩ := ChangeShapes.trodAll_nil r4
        obtain rfl : args = #[v0, v1, v2, v3, v4] := by cases args; simp_all
        obtain ⟨x, e, rfl, hE⟩ := op_eng (hval 0 32 v0 rfl rfl) h0
        obtain ⟨s2, st, rfl, hS⟩ := op_list (hval 1 30 v1 rfl rfl) h1
        obtain ⟨a2, rfl, hb2⟩ := op_num (hval 2 3 v2 rfl rfl) h2
        obtain ⟨a3, rfl, hb3⟩ := op_num (hval 3 3 v3 rfl rfl) h3
        obtain ⟨a4, rfl, hb4⟩ := op_num (hval 4 3 v4 rfl rfl) h4
        exact EclipseWithins_L x e s2 st a2 a3 a4 W hE hS hG))
theorem eclipseWithins_card : Rows.EclipseWithinsCardSaid :=
  Claim7.holds_tied_plain_at .later [] [.data, .data, .data, .data, .pinned] true (true, "539264a627cb68ddccdac5f6e1e21e2c3e7f21e824bfeb59e102ee06b2d34115") true eclipseWithins_said (fun _ h => by cases h) eclipseWithins_wf (fun _ h => by cases h) eclipseWithins_row_tie rfl ⟨rfl, rfl⟩ jf_main rfl
    (fun f fn hf hfn => by
      obtain rfl : f = 6 := Option.some.inj (eclipseWithins_fn.symm.trans hf) |>.symm
      obtain rfl : fn = Tryz.f6 := (Option.some.inj (Tryz.func6.symm.trans hfn)).symm
      exact ⟨jf_looks, fun j t ht => by
        rw [Tryz.params6] at ht
        have hm : t ∈ [32, 30, 3, 3, 3] := by simpa using Array.mem_of_getElem? ht
        have hall : ([32, 30, 3, 3, 3].all fun u => !Tryz.prog.wantsStandIn u) = true := by kernel_rfl
        exact (show Tryz.prog.wantsStandIn t = false by simpa using List.all_eq_true.1 hall t hm)⟩)
    eclipseWithins_goes
#print axioms eclipseWithins_card
end Go.Proofs.YtobofnkmbpfoiaaGreatDoor
namespace Go.Proofs.Ec
end Go.Proofs.Ec
