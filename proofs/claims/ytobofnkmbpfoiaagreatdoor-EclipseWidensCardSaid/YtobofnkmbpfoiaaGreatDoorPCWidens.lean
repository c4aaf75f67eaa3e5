/- The given statement of the law EclipseWidens holds: for every engine, all settings and all numbers the law returns true and leaves its arguments as they were. Its conditions: the listed tables of the library lie as the program's text lays them (the tie is given). -/
import Derived.Test.YtobofnkmbpfoiaaGreatDoorProg
import Derived.Test.YtobofnkmbpfoiaaGreatDoorRows
import Derived.Test.YtobofnkmbpfoiaaGreatDoorTie
import Derived.Test.YtobofnkmbpfoiaaGreatDoorCards
import Derived.Test.YtobofnkmbpfoiaaGreatDoorPQb
import Derived.Test.YtobofnkmbpfoiaaGreatDoorPCx
import Derived.Test.YtobofnkmbpfoiaaGreatDoorPW38
set_option linter.unusedVariables false
set_option linter.unusedSimpArgs false
set_option maxRecDepth 4000
namespace Go.Proofs.Ec
open Go.RowKit Go.Proofs.Sx
open Go Ecl
end Go.Proofs.Ec
namespace Go.Proofs.YtobofnkmbpfoiaaGreatDoor
open Go Go.Proofs.Ec Go.Proofs.Sx Ecl
set_option maxRecDepth 100000
theorem eclipseWidens_j0 : (Rows.eclipseWidensRow.wf (OpenSpec.ofChange Rows.eclipseWidensSpec)) = true := by kernel_rfl
theorem eclipseWidens_j3 : (Tryz.f10.params.all (Tryz.prog.readableRec ·)) = true := by kernel_rfl
theorem eclipseWidens_j4 : (namedTie Tryz.prog Rows.eclipseWidensRow.named Rows.eclipseWidensSpec.vars) = true := by kernel_rfl
theorem eclipseWidens_j5 : ((Rows.eclipseWidensRow.stops == [])) = true := by kernel_rfl
theorem eclipseWidens_j7 : ((Rows.eclipseWidensRow.knobs == [])) = true := by kernel_rfl
theorem eclipseWidens_j9 : ((Rows.eclipseWidensRow.inPlace == Tryz.prog.inPlace 10)) = true := by kernel_rfl
theorem eclipseWidens_j10 : ((Rows.eclipseWidensRow.unfollowed == Tryz.prog.unfollowed 10)) = true := by kernel_rfl
theorem eclipseWidens_j11 : ((Rows.eclipseWidensRow.recurses == Tryz.prog.recurses 10)) = true := by kernel_rfl
theorem eclipseWidens_j12 : ((Rows.eclipseWidensRow.named == Tryz.prog.varsNamed 10)) = true := by kernel_rfl
theorem eclipseWidens_j13 : ((Rows.eclipseWidensRow.maps == (Tryz.f10.params.toList ++ Rows.eclipseWidensSpec.plain.varTypes Tryz.prog).any (Tryz.prog.mapsRec ·))) = true := by kernel_rfl
theorem eclipseWidens_j14 : ((Rows.eclipseWidensRow.ifaces == (Tryz.f10.params.toList ++ Rows.eclipseWidensSpec.plain.varTypes Tryz.prog).any (Tryz.prog.ifacesRec ·))) = true := by kernel_rfl
theorem eclipseWidens_j15 : ((Rows.eclipseWidensRow.mapsOut == Tryz.prog.mapsAmong Tryz.f10.resultTypes.toList)) = true := by kernel_rfl
theorem eclipseWidens_j16 : ((Rows.eclipseWidensRow.loops == (Tryz.f10.params.toList ++ Rows.eclipseWidensSpec.plain.varTypes Tryz.prog).any (Tryz.prog.loopsFrom ·))) = true := by kernel_rfl
theorem eclipseWidens_j17 : ((Rows.eclipseWidensRow.wideKeys == (Tryz.f10.params.toList ++ Rows.eclipseWidensSpec.plain.varTypes Tryz.prog ++ Tryz.f10.resultTypes.toList).any (Tryz.prog.wideKeysFrom ·))) = true := by kernel_rfl
theorem eclipseWidens_j18 : (Rows.eclipseWidensSpec.vars.all (Tryz.prog.varReadable ·)) = true := by kernel_rfl
theorem eclipseWidens_j19 : (Tryz.f10.resultTypes.all (fun t => Tryz.prog.readableRec t && decide (t < Tryz.prog.types.size))) = true := by kernel_rfl
theorem eclipseWidens_j20 : ((Rows.eclipseWidensRow.ifacesOut == Tryz.f10.resultTypes.toList.any (Tryz.prog.ifacesRec ·))) = true := by kernel_rfl
theorem eclipseWidens_j21 : ((Rows.eclipseWidensRow.loopsOut == Tryz.f10.resultTypes.toList.any (Tryz.prog.loopsFrom ·))) = true := by kernel_rfl
theorem eclipseWidens_j22 : ((Rows.eclipseWidensRow.plainKeys == Tryz.prog.plainKeys)) = true := by kernel_rfl
theorem eclipseWidens_j23 : (Rows.eclipseWidensRow.shortTexts.isNone) = true := by kernel_rfl
theorem eclipseWidens_j26 : ((Rows.eclipseWidensRow.lifted == Tryz.prog.liftsFinal)) = true := by rw [jf_lifts]; rfl
theorem eclipseWidens_j27 : ((Tryz.prog.make == some Rows.eclipseWidensRow.make)) = true := by kernel_rfl
theorem eclipseWidens_j28 : ((Rows.eclipseWidensRow.kinds == (if Rows.eclipseWidensRow.domain.isEmpty then [] else Tryz.f10.params.toList.map fun t => match Tryz.prog.underlying t with | some (.int k) => some k | _ => none))) = true := by kernel_rfl
theorem eclipseWidens_j29 : ((Rows.eclipseWidensRow.pinned == Rows.eclipseWidensRow.pinnedBy)) = true := by kernel_rfl
theorem eclipseWidens_j30 : ((Rows.eclipseWidensRow.veiled == (Tryz.f10.params.toList ++ Rows.eclipseWidensSpec.plain.varTypes Tryz.prog ++ Tryz.f10.resultTypes.toList).any (Tryz.prog.veiledRec ·))) = true := by kernel_rfl
theorem eclipseWidens_j31 : (Rows.eclipseWidensRow.veiledFits Tryz.prog Tryz.f10.params.toList (Tryz.f10.params.toList ++ Rows.eclipseWidensSpec.plain.varTypes Tryz.prog ++ Tryz.f10.resultTypes.toList)) = true := by kernel_rfl
theorem eclipseWidens_fn : Tryz.prog.funcNamed "tellurion/tellurionlaw07.EclipseWidens" = some 10 := by kernel_rfl
theorem eclipseWidens_goes : false = Rows.eclipseWidensRow.goesBy Tryz.prog := by kernel_rfl
theorem eclipseWidens_wf : Rows.eclipseWidensRow.wfByText (OpenSpec.ofChange Rows.eclipseWidensSpec) = true := by kernel_rfl
theorem eclipseWidens_said : Rows.EclipseWidensSaid :=
  OpenClaim.holds_of_wide 10 Tryz.f10 rfl rfl rfl rfl rfl rfl rfl ⟨rfl, rfl, rfl, rfl, rfl⟩ rfl rfl rfl rfl rfl eclipseWidens_fn Tryz.func10 (joined_of _ _ _ _ _ eclipseWidens_j0 jf_1 jf_2 eclipseWidens_j3 eclipseWidens_j4 eclipseWidens_j5 jf_6 eclipseWidens_j7 jf_8 eclipseWidens_j9 eclipseWidens_j10 eclipseWidens_j11 eclipseWidens_j12 eclipseWidens_j13 eclipseWidens_j14 eclipseWidens_j15 eclipseWidens_j16 eclipseWidens_j17 eclipseWidens_j18 eclipseWidens_j19 eclipseWidens_j20 eclipseWidens_j21 eclipseWidens_j22 eclipseWidens_j23 jf_24 jf_25 eclipseWidens_j26 eclipseWidens_j27 eclipseWidens_j28 eclipseWidens_j29 eclipseWidens_j30 eclipseWidens_j31)
    (of_decide_eq_true (by kernel_rfl)) (by unfold Func.isWrapper; first | (rw [if_pos (by decide +kernel)]; kernel_rfl) | (rw [if_neg (by decide +kernel)]; exact ⟨rfl, rfl⟩))
    (fun os started H enc _ => lifted (spec := Rows.eclipseWidensSpec) #[.agg #[.slice none 0 0, .int .i64 0, .int .i64 0, .int .i64 0, .slice none 0 0, .slice none 0 0, .slice none 0 0, .slice none 0 0, .int .i64 0, .int .i64 0, .int .i64 0], .slice none 0 0, .int .i64 0, .int .i64 0, .int .i64 0] Tryz.func10 (by kernel_rfl) Tryz.params10 (by kernel_rfl) rfl
      (fun hA => by
        obtain ⟨v0, vs0, d0, ds0, p0, q0, ha, rfl, rfl, h0, r0⟩ := ChangeShapes.trodAll_cons hA
        obtain ⟨v1, vs1, d1, ds1, p1, q1, rfl, rfl, rfl, h1, r1⟩ := ChangeShapes.trodAll_cons r0
        obtain ⟨v2, vs2, d2, ds2, p2, q2, rfl, rfl, rfl, h2, r2⟩ := ChangeShapes.trodAll_cons r1
        obtain ⟨v3, vs3, d3, ds3, p3, q3, rfl, rfl, rfl, h3, r3⟩ := ChangeShapes.trodAll_cons r2
        obtain ⟨v4, vs4, d4, ds4, p4, q4, rfl, rfl, rfl, h4, r4⟩ := ChangeShapes.trodAll_cons r3
        obtain ⟨rfl, rfl, rfl⟩ := ChangeShapes.trodAll_nil r4
        rfl)
      (by kernel_rfl) os started H enc (by kernel_rfl) (by kernel_rfl) (by kernel_rfl) (jf_world _ _)
      (fun W base args ds p hval hA hG => by
        obtain ⟨v0, vs0, d0, ds0, p0, q0, ha, rfl, rfl, h0, r0⟩ := ChangeShapes.trodAll_cons hA
        obtain ⟨v1, vs1, d1, ds1, p1, q1, rfl, rfl, rfl, h1, r1⟩ := ChangeShapes.trodAll_cons r0
        obtain ⟨v2, vs2, d2, ds2, p2, q2, rfl, rfl, rfl, h2, r2⟩ := ChangeShapes.trodAll_cons r1
        obtain ⟨v3, vs3, d3, ds3, p3, q3, rfl, rfl, rfl, h3, r3⟩ := ChangeShapes.trodAll_cons r2
        obtain ⟨v4, vs4, d4, ds4, p4, q4, rfl, rfl, rfl, h4, r4⟩ := ChangeShapes.trodAll_cons r3
        obtain ⟨rfl, rfl, rfl⟩ := ChangeShapes.trodAll_nil r4
        obtain rfl : args = #[v0, v1, v2, v3, v4] := by cases args; simp_all
        obtain ⟨x, e, rfl, hE⟩ := op_eng (hval 0 32 v0 rfl rfl) h0
        obtain ⟨s2, st, rfl, hS⟩ := op_list (hval 1 30 v1 rfl rfl) h1
        obtain ⟨a2, rfl, hb2⟩ := op_num (hval 2 3 v2 rfl rfl) h2
        obtain ⟨a3, rfl, hb3⟩ := op_num (hval 3 3 v3 rfl rfl) h3
        obtain ⟨a4, rfl, hb4⟩ := op_num (hval 4 3 v4 rfl rfl) h4
        exact EclipseWidens_L x e s2 st a2 a3 a4 W hE hS hG))
theorem eclipseWidens_card : Rows.EclipseWidensCardSaid :=
  Claim7.holds_tied_plain_at .later [] [.data, .data, .data, .data, .pinned] true (true, "539264a627cb68ddccdac5f6e1e21e2c3e7f21e824bfeb59e102ee06b2d34115") true eclipseWidens_said (fun _ h => by cases h) eclipseWidens_wf (fun _ h => by cases h) eclipseWidens_row_tie rfl ⟨rfl, rfl⟩ jf_main rfl
    (fun f fn hf hfn => by
      obtain rfl : f = 10 := Option.some.inj (eclipseWidens_fn.symm.trans hf) |>.symm
      obtain rfl : fn = Tryz.f10 := (Option.some.inj (Tryz.func10.symm.trans hfn)).symm
      exact ⟨jf_looks, fun j t ht => by
        rw [Tryz.params10] at ht
        have hm : t ∈ [32, 30, 3, 3, 3] := by simpa using Array.mem_of_getElem? ht
        have hall : ([32, 30, 3, 3, 3].all fun u => !Tryz.prog.wantsStandIn u) = true := by kernel_rfl
        exact (show Tryz.prog.wantsStandIn t = false by simpa using List.all_eq_true.1 hall t hm)⟩)
    eclipseWidens_goes
#print axioms eclipseWidens_card
end Go.Proofs.YtobofnkmbpfoiaaGreatDoor
namespace Go.Proofs.Ec
end Go.Proofs.Ec
