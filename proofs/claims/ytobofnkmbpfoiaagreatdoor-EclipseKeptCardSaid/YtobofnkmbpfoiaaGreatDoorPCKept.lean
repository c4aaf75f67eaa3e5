/- The given statement of the law EclipseKept holds: for every engine, all settings and all numbers the law returns true and leaves its arguments as they were. Its conditions: the listed tables of the library lie as the program's text lays them (the tie is given). -/
import Derived.Test.YtobofnkmbpfoiaaGreatDoorProg
import Derived.Test.YtobofnkmbpfoiaaGreatDoorRows
import Derived.Test.YtobofnkmbpfoiaaGreatDoorTie
import Derived.Test.YtobofnkmbpfoiaaGreatDoorCards
import Derived.Test.YtobofnkmbpfoiaaGreatDoorPQb
import Derived.Test.YtobofnkmbpfoiaaGreatDoorPCx
import Derived.Test.YtobofnkmbpfoiaaGreatDoorPW34
set_option linter.unusedVariables false
set_option linter.unusedSimpArgs false
set_option maxRecDepth 4000
namespace Go.Proofs.Ec
open Go.RowKit Go.Proofs.Sx
open Go Ecl
end Go.Proofs.Ec
namespace Go.Proofs.YtobofnkmbpfoiaaGreatDoor
open Go Go.Proofs.Ec Go.Proofs.Sx Ecl
set_option maxRecDepth 100000
theorem eclipseKept_j0 : (Rows.eclipseKeptRow.wf (OpenSpec.ofChange Rows.eclipseKeptSpec)) = true := by kernel_rfl
theorem eclipseKept_j3 : (Tryz.f3.params.all (Tryz.prog.readableRec ·)) = true := by kernel_rfl
theorem eclipseKept_j4 : (namedTie Tryz.prog Rows.eclipseKeptRow.named Rows.eclipseKeptSpec.vars) = true := by kernel_rfl
theorem eclipseKept_j5 : ((Rows.eclipseKeptRow.stops == [])) = true := by kernel_rfl
theorem eclipseKept_j7 : ((Rows.eclipseKeptRow.knobs == [])) = true := by kernel_rfl
theorem eclipseKept_j9 : ((Rows.eclipseKeptRow.inPlace == Tryz.prog.inPlace 3)) = true := by kernel_rfl
theorem eclipseKept_j10 : ((Rows.eclipseKeptRow.unfollowed == Tryz.prog.unfollowed 3)) = true := by kernel_rfl
theorem eclipseKept_j11 : ((Rows.eclipseKeptRow.recurses == Tryz.prog.recurses 3)) = true := by kernel_rfl
theorem eclipseKept_j12 : ((Rows.eclipseKeptRow.named == Tryz.prog.varsNamed 3)) = true := by kernel_rfl
theorem eclipseKept_j13 : ((Rows.eclipseKeptRow.maps == (Tryz.f3.params.toList ++ Rows.eclipseKeptSpec.plain.varTypes Tryz.prog).any (Tryz.prog.mapsRec ·))) = true := by kernel_rfl
theorem eclipseKept_j14 : ((Rows.eclipseKeptRow.ifaces == (Tryz.f3.params.toList ++ Rows.eclipseKeptSpec.plain.varTypes Tryz.prog).any (Tryz.prog.ifacesRec ·))) = true := by kernel_rfl
theorem eclipseKept_j15 : ((Rows.eclipseKeptRow.mapsOut == Tryz.prog.mapsAmong Tryz.f3.resultTypes.toList)) = true := by kernel_rfl
theorem eclipseKept_j16 : ((Rows.eclipseKeptRow.loops == (Tryz.f3.params.toList ++ Rows.eclipseKeptSpec.plain.varTypes Tryz.prog).any (Tryz.prog.loopsFrom ·))) = true := by kernel_rfl
theorem eclipseKept_j17 : ((Rows.eclipseKeptRow.wideKeys == (Tryz.f3.params.toList ++ Rows.eclipseKeptSpec.plain.varTypes Tryz.prog ++ Tryz.f3.resultTypes.toList).any (Tryz.prog.wideKeysFrom ·))) = true := by kernel_rfl
theorem eclipseKept_j18 : (Rows.eclipseKeptSpec.vars.all (Tryz.prog.varReadable ·)) = true := by kernel_rfl
theorem eclipseKept_j19 : (Tryz.f3.resultTypes.all (fun t => Tryz.prog.readableRec t && decide (t < Tryz.prog.types.size))) = true := by kernel_rfl
theorem eclipseKept_j20 : ((Rows.eclipseKeptRow.ifacesOut == Tryz.f3.resultTypes.toList.any (Tryz.prog.ifacesRec ·))) = true := by kernel_rfl
theorem eclipseKept_j21 : ((Rows.eclipseKeptRow.loopsOut == Tryz.f3.resultTypes.toList.any (Tryz.prog.loopsFrom ·))) = true := by kernel_rfl
theorem eclipseKept_j22 : ((Rows.eclipseKeptRow.plainKeys == Tryz.prog.plainKeys)) = true := by kernel_rfl
theorem eclipseKept_j23 : (Rows.eclipseKeptRow.shortTexts.isNone) = true := by kernel_rfl
theorem eclipseKept_j26 : ((Rows.eclipseKeptRow.lifted == Tryz.prog.liftsFinal)) = true := by rw [jf_lifts]; rfl
theorem eclipseKept_j27 : ((Tryz.prog.make == some Rows.eclipseKeptRow.make)) = true := by kernel_rfl
theorem eclipseKept_j28 : ((Rows.eclipseKeptRow.kinds == (if Rows.eclipseKeptRow.domain.isEmpty then [] else Tryz.f3.params.toList.map fun t => match Tryz.prog.underlying t with | some (.int k) => some k | _ => none))) = true := by kernel_rfl
theorem eclipseKept_j29 : ((Rows.eclipseKeptRow.pinned == Rows.eclipseKeptRow.pinnedBy)) = true := by kernel_rfl
theorem eclipseKept_j30 : ((Rows.eclipseKeptRow.veiled == (Tryz.f3.params.toList ++ Rows.eclipseKeptSpec.plain.varTypes Tryz.prog ++ Tryz.f3.resultTypes.toList).any (Tryz.prog.veiledRec ·))) = true := by kernel_rfl
theorem eclipseKept_j31 : (Rows.eclipseKeptRow.veiledFits Tryz.prog Tryz.f3.params.toList (Tryz.f3.params.toList ++ Rows.eclipseKeptSpec.plain.varTypes Tryz.prog ++ Tryz.f3.resultTypes.toList)) = true := by kernel_rfl
theorem eclipseKept_fn : Tryz.prog.funcNamed "tellurion/tellurionlaw07.EclipseKept" = some 3 := by kernel_rfl
theorem eclipseKept_goes : false = Rows.eclipseKeptRow.goesBy Tryz.prog := by kernel_rfl
theorem eclipseKept_wf : Rows.eclipseKeptRow.wfByText (OpenSpec.ofChange Rows.eclipseKeptSpec) = true := by kernel_rfl
theorem eclipseKept_said : Rows.EclipseKeptSaid :=
  OpenClaim.holds_of_wide 3 Tryz.f3 rfl rfl rfl rfl rfl rfl rfl ⟨rfl, rfl, rfl, rfl, rfl⟩ rfl rfl rfl rfl rfl eclipseKept_fn Tryz.func3 (joined_of _ _ _ _ _ eclipseKept_j0 jf_1 jf_2 eclipseKept_j3 eclipseKept_j4 eclipseKept_j5 jf_6 eclipseKept_j7 jf_8 eclipseKept_j9 eclipseKept_j10 eclipseKept_j11 eclipseKept_j12 eclipseKept_j13 eclipseKept_j14 eclipseKept_j15 eclipseKept_j16 eclipseKept_j17 eclipseKept_j18 eclipseKept_j19 eclipseKept_j20 eclipseKept_j21 eclipseKept_j22 eclipseKept_j23 jf_24 jf_25 eclipseKept_j26 eclipseKept_j27 eclipseKept_j28 eclipseKept_j29 eclipseKept_j30 eclipseKept_j31)
    (of_decide_eq_true (by kernel_rfl)) (by unfold Func.isWrapper; first | (rw [if_pos (by decide +kernel)]; kernel_rfl) | (rw [if_neg (by decide +kernel)]; exact ⟨rfl, rfl⟩))
    (fun os started H enc _ => lifted (spec := Rows.eclipseKeptSpec) #[.agg #[.slice none 0 0, .int .i64 0, .int .i64 0, .int .i64 0, .slice none 0 0, .slice none 0 0, .slice none 0 0, .slice none 0 0, .int .i64 0, .int .i64 0, .int .i64 0], .slice none 0 0, .int .i64 0, .int .i64 0] Tryz.func3 (by kernel_rfl) Tryz.params3 (by kernel_rfl) rfl
      (fun hA => by
        obtain ⟨v0, vs0, d0, ds0, p0, q0, ha, rfl, rfl, h0, r0⟩ := ChangeShapes.trodAll_cons hA
        obtain ⟨v1, vs1, d1, ds1, p1, q1, rfl, rfl, rfl, h1, r1⟩ := ChangeShapes.trodAll_cons r0
        obtain ⟨v2, vs2, d2, ds2, p2, q2, rfl, rfl, rfl, h2, r2⟩ := ChangeShapes.trodAll_cons r1
        obtain ⟨v3, vs3, d3, ds3, p3, q3, rfl, rfl, rfl, h3, r3⟩ := ChangeShapes.trodAll_cons r2
        obtain ⟨rfl, rfl, rfl⟩ := ChangeShapes.trodAll_nil r3
        rfl)
      (by kernel_rfl) os started H enc (by kernel_rfl) (by kernel_rfl) (by kernel_rfl) (jf_world _ _)
      (fun W base args ds p hval hA hG => by
        obtain ⟨v0, vs0, d0, ds0, p0, q0, ha, rfl, rfl, h0, r0⟩ := ChangeShapes.trodAll_cons hA
        obtain ⟨v1, vs1, d1, ds1, p1, q1, rfl, rfl, rfl, h1, r1⟩ := ChangeShapes.trodAll_cons r0
        obtain ⟨v2, vs2, d2, ds2, p2, q2, rfl, rfl, rfl, h2, r2⟩ := ChangeShapes.trodAll_cons r1
        obtain ⟨v3, vs3, d3, ds3, p3, q3, rfl, rfl, rfl, h3, r3⟩ := ChangeShapes.trodAll_cons r2
        obtain ⟨rfl, rfl, rfl⟩ := ChangeShapes.trodAll_nil r3
        obtain rfl : args = #[v0, v1, v2, v3] := by cases args; simp_all
        obtain ⟨x, e, rfl, hE⟩ := op_eng (hval 0 32 v0 rfl rfl) h0
        obtain ⟨s2, st, rfl, hS⟩ := op_list (hval 1 30 v1 rfl rfl) h1
        obtain ⟨a2, rfl, hb2⟩ := op_num (hval 2 3 v2 rfl rfl) h2
        obtain ⟨a3, rfl, hb3⟩ := op_num (hval 3 3 v3 rfl rfl) h3
        exact EclipseKept_L x e s2 st a2 a3 W hE hS hG))
theorem eclipseKept_card : Rows.EclipseKeptCardSaid :=
  Claim7.holds_tied_plain_at .later [] [.data, .data, .data, .data, .pinned] true (true, "539264a627cb68ddccdac5f6e1e21e2c3e7f21e824bfeb59e102ee06b2d34115") true eclipseKept_said (fun _ h => by cases h) eclipseKept_wf (fun _ h => by cases h) eclipseKept_row_tie rfl ⟨rfl, rfl⟩ jf_main rfl
    (fun f fn hf hfn => by
      obtain rfl : f = 3 := Option.some.inj (eclipseKept_fn.symm.trans hf) |>.symm
      obtain rfl : fn = Tryz.f3 := (Option.some.inj (Tryz.func3.symm.trans hfn)).symm
      exact ⟨jf_looks, fun j t ht => by
        rw [Tryz.params3] at ht
        have hm : t ∈ [32, 30, 3, 3] := by simpa using Array.mem_of_getElem? ht
        have hall : ([32, 30, 3, 3].all fun u => !Tryz.prog.wantsStandIn u) = true := by kernel_rfl
        exact (show Tryz.prog.wantsStandIn t = false by simpa using List.all_eq_true.1 hall t hm)⟩)
    eclipseKept_goes
#print axioms eclipseKept_card
end Go.Proofs.YtobofnkmbpfoiaaGreatDoor
namespace Go.Proofs.Ec
end Go.Proofs.Ec
