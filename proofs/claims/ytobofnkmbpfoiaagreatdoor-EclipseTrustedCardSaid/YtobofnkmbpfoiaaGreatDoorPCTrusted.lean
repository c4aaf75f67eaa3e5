/- The given statement of the law EclipseTrusted holds: for every engine, all settings and all numbers the law returns true and leaves its arguments as they were. Its conditions: the listed tables of the library lie as the program's text lays them (the tie is given). -/
import Derived.Test.YtobofnkmbpfoiaaGreatDoorProg
import Derived.Test.YtobofnkmbpfoiaaGreatDoorRows
import Derived.Test.YtobofnkmbpfoiaaGreatDoorTie
import Derived.Test.YtobofnkmbpfoiaaGreatDoorCards
import Derived.Test.YtobofnkmbpfoiaaGreatDoorPQb
import Derived.Test.YtobofnkmbpfoiaaGreatDoorPCx
import Derived.Test.YtobofnkmbpfoiaaGreatDoorPW36
set_option linter.unusedVariables false
set_option linter.unusedSimpArgs false
set_option maxRecDepth 4000
namespace Go.Proofs.Ec
open Go.RowKit Go.Proofs.Sx
open Go Ecl
end Go.Proofs.Ec
namespace Go.Proofs.YtobofnkmbpfoiaaGreatDoor
open Go Go.Proofs.Ec Go.Proofs.Sx Ecl
set_option maxRecDepth 100000
theorem eclipseTrusted_j0 : (Rows.eclipseTrustedRow.wf (OpenSpec.ofChange Rows.eclipseTrustedSpec)) = true := by kernel_rfl
theorem eclipseTrusted_j3 : (Tryz.f8.params.all (Tryz.prog.readableRec ·)) = true := by kernel_rfl
theorem eclipseTrusted_j4 : (namedTie Tryz.prog Rows.eclipseTrustedRow.named Rows.eclipseTrustedSpec.vars) = true := by kernel_rfl
theorem eclipseTrusted_j5 : ((Rows.eclipseTrustedRow.stops == [])) = true := by kernel_rfl
theorem eclipseTrusted_j7 : ((Rows.eclipseTrustedRow.knobs == [])) = true := by kernel_rfl
theorem eclipseTrusted_j9 : ((Rows.eclipseTrustedRow.inPlace == Tryz.prog.inPlace 8)) = true := by kernel_rfl
theorem eclipseTrusted_j10 : ((Rows.eclipseTrustedRow.unfollowed == Tryz.prog.unfollowed 8)) = true := by kernel_rfl
theorem eclipseTrusted_j11 : ((Rows.eclipseTrustedRow.recurses == Tryz.prog.recurses 8)) = true := by kernel_rfl
theorem eclipseTrusted_j12 : ((Rows.eclipseTrustedRow.named == Tryz.prog.varsNamed 8)) = true := by kernel_rfl
theorem eclipseTrusted_j13 : ((Rows.eclipseTrustedRow.maps == (Tryz.f8.params.toList ++ Rows.eclipseTrustedSpec.plain.varTypes Tryz.prog).any (Tryz.prog.mapsRec ·))) = true := by kernel_rfl
theorem eclipseTrusted_j14 : ((Rows.eclipseTrustedRow.ifaces == (Tryz.f8.params.toList ++ Rows.eclipseTrustedSpec.plain.varTypes Tryz.prog).any (Tryz.prog.ifacesRec ·))) = true := by kernel_rfl
theorem eclipseTrusted_j15 : ((Rows.eclipseTrustedRow.mapsOut == Tryz.prog.mapsAmong Tryz.f8.resultTypes.toList)) = true := by kernel_rfl
theorem eclipseTrusted_j16 : ((Rows.eclipseTrustedRow.loops == (Tryz.f8.params.toList ++ Rows.eclipseTrustedSpec.plain.varTypes Tryz.prog).any (Tryz.prog.loopsFrom ·))) = true := by kernel_rfl
theorem eclipseTrusted_j17 : ((Rows.eclipseTrustedRow.wideKeys == (Tryz.f8.params.toList ++ Rows.eclipseTrustedSpec.plain.varTypes Tryz.prog ++ Tryz.f8.resultTypes.toList).any (Tryz.prog.wideKeysFrom ·))) = true := by kernel_rfl
theorem eclipseTrusted_j18 : (Rows.eclipseTrustedSpec.vars.all (Tryz.prog.varReadable ·)) = true := by kernel_rfl
theorem eclipseTrusted_j19 : (Tryz.f8.resultTypes.all (fun t => Tryz.prog.readableRec t && decide (t < Tryz.prog.types.size))) = true := by kernel_rfl
theorem eclipseTrusted_j20 : ((Rows.eclipseTrustedRow.ifacesOut == Tryz.f8.resultTypes.toList.any (Tryz.prog.ifacesRec ·))) = true := by kernel_rfl
theorem eclipseTrusted_j21 : ((Rows.eclipseTrustedRow.loopsOut == Tryz.f8.resultTypes.toList.any (Tryz.prog.loopsFrom ·))) = true := by kernel_rfl
theorem eclipseTrusted_j22 : ((Rows.eclipseTrustedRow.plainKeys == Tryz.prog.plainKeys)) = true := by kernel_rfl
theorem eclipseTrusted_j23 : (Rows.eclipseTrustedRow.shortTexts.isNone) = true := by kernel_rfl
theorem eclipseTrusted_j26 : ((Rows.eclipseTrustedRow.lifted == Tryz.prog.liftsFinal)) = true := by rw [jf_lifts]; rfl
theorem eclipseTrusted_j27 : ((Tryz.prog.make == some Rows.eclipseTrustedRow.make)) = true := by kernel_rfl
theorem eclipseTrusted_j28 : ((Rows.eclipseTrustedRow.kinds == (if Rows.eclipseTrustedRow.domain.isEmpty then [] else Tryz.f8.params.toList.map fun t => match Tryz.prog.underlying t with | some (.int k) => some k | _ => none))) = true := by kernel_rfl
theorem eclipseTrusted_j29 : ((Rows.eclipseTrustedRow.pinned == Rows.eclipseTrustedRow.pinnedBy)) = true := by kernel_rfl
theorem eclipseTrusted_j30 : ((Rows.eclipseTrustedRow.veiled == (Tryz.f8.params.toList ++ Rows.eclipseTrustedSpec.plain.varTypes Tryz.prog ++ Tryz.f8.resultTypes.toList).any (Tryz.prog.veiledRec ·))) = true := by kernel_rfl
theorem eclipseTrusted_j31 : (Rows.eclipseTrustedRow.veiledFits Tryz.prog Tryz.f8.params.toList (Tryz.f8.params.toList ++ Rows.eclipseTrustedSpec.plain.varTypes Tryz.prog ++ Tryz.f8.resultTypes.toList)) = true := by kernel_rfl
theorem eclipseTrusted_fn : Tryz.prog.funcNamed "tellurion/tellurionlaw07.EclipseTrusted" = some 8 := by kernel_rfl
theorem eclipseTrusted_goes : false = Rows.eclipseTrustedRow.goesBy Tryz.prog := by kernel_rfl
theorem eclipseTrusted_wf : Rows.eclipseTrustedRow.wfByText (OpenSpec.ofChange Rows.eclipseTrustedSpec) = true := by kernel_rfl
theorem eclipseTrusted_said : Rows.EclipseTrustedSaid :=
  OpenClaim.holds_of_wide 8 Tryz.f8 rfl rfl rfl rfl rfl rfl rfl ⟨rfl, rfl, rfl, rfl, rfl⟩ rfl rfl rfl rfl rfl eclipseTrusted_fn Tryz.func8 (joined_of _ _ _ _ _ eclipseTrusted_j0 jf_1 jf_2 eclipseTrusted_j3 eclipseTrusted_j4 eclipseTrusted_j5 jf_6 eclipseTrusted_j7 jf_8 eclipseTrusted_j9 eclipseTrusted_j10 eclipseTrusted_j11 eclipseTrusted_j12 eclipseTrusted_j13 eclipseTrusted_j14 eclipseTrusted_j15 eclipseTrusted_j16 eclipseTrusted_j17 eclipseTrusted_j18 eclipseTrusted_j19 eclipseTrusted_j20 eclipseTrusted_j21 eclipseTrusted_j22 eclipseTrusted_j23 jf_24 jf_25 eclipseTrusted_j26 eclipseTrusted_j27 eclipseTrusted_j28 eclipseTrusted_j29 eclipseTrusted_j30 eclipseTrusted_j31)
    (of_decide_eq_true (by kernel_rfl)) (by unfold Func.isWrapper; first | (rw [if_pos (by decide +kernel)]; kernel_rfl) | (rw [if_neg (by decide +kernel)]; exact ⟨rfl, rfl⟩))
    (fun os started H enc _ => lifted (spec := Rows.eclipseTrustedSpec) #[.agg #[.slice none 0 0, .int .i64 0, .int .i64 0, .int .i64 0, .slice none 0 0, .slice none 0 0, .slice none 0 0, .slice none 0 0, .int .i64 0, .int .i64 0, .int .i64 0], .slice none 0 0, .int .i64 0, .int .i64 0, .int .i64 0] Tryz.func8 (by kernel_rfl) Tryz.params8 (by kernel_rfl) rfl
      (fun hA => by
        obtain ⟨v0, vs0, d0, ds0, p0, q0, ha, rfl, rfl, h0, r0⟩ := ChangeShapes.trodAll_cons hA
        obtain ⟨v1, vs1, d1, ds1, p1, q1, rfl, rfl, rfl, h1, r1⟩ := ChangeShapes.trodAll_cons r0
        obtain ⟨v2, vs2, d2, ds2, p2, q2, rfl, rfl, rfl, h2, r2⟩ := ChangeShapes.trodAll_cons r1
        obtain ⟨v3, vs3, d3, ds3, p3, q3, rfl, rfl, rfl, h3, r3⟩ := ChangeShapes.trodAll_cons r2
        obtain ⟨v4, vs4, d4, ds4, p4, q4, rfl, rfl, rfl, h4, r4⟩ := ChangeShapes.trodAll_cons r3
        obtain ⟨rfl, rfl, rfl⟩ := ChangeShapes.trodAll_nil r4
        rfl)
      (by kernel_rfl) os started H enc (by kernel_rfl) (by kernel_rfl) (by kernel_rfl) (jf_world _ _)
      (fun W base args ds p hval hA hG => by
        obtain ⟨v0, vs0, d0, ds0, p0, q0, ha, rfl, rfl, h0, r0⟩ := ChangeShapes.trodAll_cons hA
        obtain ⟨v1, vs1, d1, ds1, p1, q1, rfl, rfl, rfl, h1, r1⟩ := ChangeShapes.trodAll_cons r0
        obtain ⟨v2, vs2, d2, ds2, p2, q2, rfl, rfl, rfl, h2, r2⟩ := ChangeShapes.trodAll_cons r1
        obtain ⟨v3, vs3, d3, ds3, p3, q3, rfl, rfl, rfl, h3, r3⟩ := ChangeShapes.trodAll_cons r2
        obtain ⟨v4, vs4, d4, ds4, p4, q4, rfl, rfl, rfl, h4, r4⟩ := ChangeShapes.trodAll_cons r3
        obtain ⟨rfl, rfl, rfl⟩ := ChangeShapes.trodAll_nil r4
        obtain rfl : args = #[v0, v1, v2, v3, v4] := by cases args; simp_all
        obtain ⟨x, e, rfl, hE⟩ := op_eng (hval 0 32 v0 rfl rfl) h0
        obtain ⟨s2, st, rfl, hS⟩ := op_list (hval 1 30 v1 rfl rfl) h1
        obtain ⟨a2, rfl, hb2⟩ := op_num (hval 2 3 v2 rfl rfl) h2
        obtain ⟨a3, rfl, hb3⟩ := op_num (hval 3 3 v3 rfl rfl) h3
        obtain ⟨a4, rfl, hb4⟩ := op_num (hval 4 3 v4 rfl rfl) h4
        exact EclipseTrusted_L x e s2 st a2 a3 a4 W hE hS hG))
theorem eclipseTrusted_card : Rows.EclipseTrustedCardSaid :=
  Claim7.holds_tied_plain_at .later [] [.data, .data, .data, .data, .pinned] true (true, "539264a627cb68ddccdac5f6e1e21e2c3e7f21e824bfeb59e102ee06b2d34115") true eclipseTrusted_said (fun _ h => by cases h) eclipseTrusted_wf (fun _ h => by cases h) eclipseTrusted_row_tie rfl ⟨rfl, rfl⟩ jf_main rfl
    (fun f fn hf hfn => by
      obtain rfl : f = 8 := Option.some.inj (eclipseTrusted_fn.symm.trans hf) |>.symm
      obtain rfl : fn = Tryz.f8 := (Option.some.inj (Tryz.func8.symm.trans hfn)).symm
      exact ⟨jf_looks, fun j t ht => by
        rw [Tryz.params8] at ht
        have hm : t ∈ [32, 30, 3, 3, 3] := by simpa using Array.mem_of_getElem? ht
        have hall : ([32, 30, 3, 3, 3].all fun u => !Tryz.prog.wantsStandIn u) = true := by kernel_rfl
        exact (show Tryz.prog.wantsStandIn t = false by simpa using List.all_eq_true.1 hall t hm)⟩)
    eclipseTrusted_goes
#print axioms eclipseTrusted_card
end Go.Proofs.YtobofnkmbpfoiaaGreatDoor
namespace Go.Proofs.Ec
end Go.Proofs.Ec
