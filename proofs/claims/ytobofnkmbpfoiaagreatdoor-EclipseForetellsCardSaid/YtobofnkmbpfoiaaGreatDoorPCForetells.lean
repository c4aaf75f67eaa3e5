/- The given statement of the law EclipseForetells holds: for every engine, all settings and all numbers the law returns true and leaves its arguments as they were. Its conditions: the listed tables of the library lie as the program's text lays them (the tie is given). -/
import Derived.Test.YtobofnkmbpfoiaaGreatDoorProg
import Derived.Test.YtobofnkmbpfoiaaGreatDoorRows
import Derived.Test.YtobofnkmbpfoiaaGreatDoorTie
import Derived.Test.YtobofnkmbpfoiaaGreatDoorCards
import Derived.Test.YtobofnkmbpfoiaaGreatDoorPQb
import Derived.Test.YtobofnkmbpfoiaaGreatDoorPCx
import Derived.Test.YtobofnkmbpfoiaaGreatDoorPW32
set_option linter.unusedVariables false
set_option linter.unusedSimpArgs false
set_option maxRecDepth 4000
namespace Go.Proofs.Ec
open Go.RowKit Go.Proofs.Sx
open Go Ecl
theorem EclipseForetells_L (x : EV) (e : Eng) (s2 : SV) (st : List Int) (d1 d2 : Int) (w : World) (hG : RdG w x e) (hS2 : Rd w encI 1 s2.v st) (hGl : Glb w) : Ret Tryz.prog 4 #[.agg #[x.b.v, .int .i64 e.nnum, .int .i64 e.nden, .int .i64 e.nstart, x.s.v, x.m.v, x.n.v, x.f.v, .int .i64 e.new, .int .i64 e.full, .int .i64 e.wide], s2.v, .int .i64 d1, .int .i64 d2] w fun u w' => u = .bool true ∧ Below w.heap.size w w' := by
  cases hb : (isEngine e && isSet e st && (inR d1 1 9000 && inR d2 d1 9000 && decide (d2 - d1 ≤ 400))) with
  | false => exact EclipseForetells_b x e s2 st d1 d2 w hG hS2 hGl hb
  | true =>
    rw [Bool.and_eq_true, Bool.and_eq_true] at hb
    exact EclipseForetells_g x e s2 st d1 d2 w ⟨hG, hS2, hb.1.1, hb.1.2⟩ hGl hb.2
end Go.Proofs.Ec
namespace Go.Proofs.YtobofnkmbpfoiaaGreatDoor
open Go Go.Proofs.Ec Go.Proofs.Sx Ecl
set_option maxRecDepth 100000
theorem eclipseForetells_j0 : (Rows.eclipseForetellsRow.wf (OpenSpec.ofChange Rows.eclipseForetellsSpec)) = true := by kernel_rfl
theorem eclipseForetells_j3 : (Tryz.f4.params.all (Tryz.prog.readableRec ·)) = true := by kernel_rfl
theorem eclipseForetells_j4 : (namedTie Tryz.prog Rows.eclipseForetellsRow.named Rows.eclipseForetellsSpec.vars) = true := by kernel_rfl
theorem eclipseForetells_j5 : ((Rows.eclipseForetellsRow.stops == [])) = true := by kernel_rfl
theorem eclipseForetells_j7 : ((Rows.eclipseForetellsRow.knobs == [])) = true := by kernel_rfl
theorem eclipseForetells_j9 : ((Rows.eclipseForetellsRow.inPlace == Tryz.prog.inPlace 4)) = true := by kernel_rfl
theorem eclipseForetells_j10 : ((Rows.eclipseForetellsRow.unfollowed == Tryz.prog.unfollowed 4)) = true := by kernel_rfl
theorem eclipseForetells_j11 : ((Rows.eclipseForetellsRow.recurses == Tryz.prog.recurses 4)) = true := by kernel_rfl
theorem eclipseForetells_j12 : ((Rows.eclipseForetellsRow.named == Tryz.prog.varsNamed 4)) = true := by kernel_rfl
theorem eclipseForetells_j13 : ((Rows.eclipseForetellsRow.maps == (Tryz.f4.params.toList ++ Rows.eclipseForetellsSpec.plain.varTypes Tryz.prog).any (Tryz.prog.mapsRec ·))) = true := by kernel_rfl
theorem eclipseForetells_j14 : ((Rows.eclipseForetellsRow.ifaces == (Tryz.f4.params.toList ++ Rows.eclipseForetellsSpec.plain.varTypes Tryz.prog).any (Tryz.prog.ifacesRec ·))) = true := by kernel_rfl
theorem eclipseForetells_j15 : ((Rows.eclipseForetellsRow.mapsOut == Tryz.prog.mapsAmong Tryz.f4.resultTypes.toList)) = true := by kernel_rfl
theorem eclipseForetells_j16 : ((Rows.eclipseForetellsRow.loops == (Tryz.f4.params.toList ++ Rows.eclipseForetellsSpec.plain.varTypes Tryz.prog).any (Tryz.prog.loopsFrom ·))) = true := by kernel_rfl
theorem eclipseForetells_j17 : ((Rows.eclipseForetellsRow.wideKeys == (Tryz.f4.params.toList ++ Rows.eclipseForetellsSpec.plain.varTypes Tryz.prog ++ Tryz.f4.resultTypes.toList).any (Tryz.prog.wideKeysFrom ·))) = true := by kernel_rfl
theorem eclipseForetells_j18 : (Rows.eclipseForetellsSpec.vars.all (Tryz.prog.varReadable ·)) = true := by kernel_rfl
theorem eclipseForetells_j19 : (Tryz.f4.resultTypes.all (fun t => Tryz.prog.readableRec t && decide (t < Tryz.prog.types.size))) = true := by kernel_rfl
theorem eclipseForetells_j20 : ((Rows.eclipseForetellsRow.ifacesOut == Tryz.f4.resultTypes.toList.any (Tryz.prog.ifacesRec ·))) = true := by kernel_rfl
theorem eclipseForetells_j21 : ((Rows.eclipseForetellsRow.loopsOut == Tryz.f4.resultTypes.toList.any (Tryz.prog.loopsFrom ·))) = true := by kernel_rfl
theorem eclipseForetells_j22 : ((Rows.eclipseForetellsRow.plainKeys == Tryz.prog.plainKeys)) = true := by kernel_rfl
theorem eclipseForetells_j23 : (Rows.eclipseForetellsRow.shortTexts.isNone) = true := by kernel_rfl
theorem eclipseForetells_j26 : ((Rows.eclipseForetellsRow.lifted == Tryz.prog.liftsFinal)) = true := by rw [jf_lifts]; rfl
theorem eclipseForetells_j27 : ((Tryz.prog.make == some Rows.eclipseForetellsRow.make)) = true := by kernel_rfl
theorem eclipseForetells_j28 : ((Rows.eclipseForetellsRow.kinds == (if Rows.eclipseForetellsRow.domain.isEmpty then [] else Tryz.f4.params.toList.map fun t => match Tryz.prog.underlying t with | some (.int k) => some k | _ => none))) = true := by kernel_rfl
theorem eclipseForetells_j29 : ((Rows.eclipseForetellsRow.pinned == Rows.eclipseForetellsRow.pinnedBy)) = true := by kernel_rfl
theorem eclipseForetells_j30 : ((Rows.eclipseForetellsRow.veiled == (Tryz.f4.params.toList ++ Rows.eclipseForetellsSpec.plain.varTypes Tryz.prog ++ Tryz.f4.resultTypes.toList).any (Tryz.prog.veiledRec ·))) = true := by kernel_rfl
theorem eclipseForetells_j31 : (Rows.eclipseForetellsRow.veiledFits Tryz.prog Tryz.f4.params.toList (Tryz.f4.params.toList ++ Rows.eclipseForetellsSpec.plain.varTypes Tryz.prog ++ Tryz.f4.resultTypes.toList)) = true := by kernel_rfl
theorem eclipseForetells_fn : Tryz.prog.funcNamed "tellurion/tellurionlaw07.EclipseForetells" = some 4 := by kernel_rfl
theorem eclipseForetells_goes : false = Rows.eclipseForetellsRow.goesBy Tryz.prog := by kernel_rfl
theorem eclipseForetells_wf : Rows.eclipseForetellsRow.wfByText (OpenSpec.ofChange Rows.eclipseForetellsSpec) = true := by kernel_rfl
theorem eclipseForetells_said : Rows.EclipseForetellsSaid :=
  OpenClaim.holds_of_wide 4 Tryz.f4 rfl rfl rfl rfl rfl rfl rfl ⟨rfl, rfl, rfl, rfl, rfl⟩ rfl rfl rfl rfl rfl eclipseForetells_fn Tryz.func4 (joined_of _ _ _ _ _ eclipseForetells_j0 jf_1 jf_2 eclipseForetells_j3 eclipseForetells_j4 eclipseForetells_j5 jf_6 eclipseForetells_j7 jf_8 eclipseForetells_j9 eclipseForetells_j10 eclipseForetells_j11 eclipseForetells_j12 eclipseForetells_j13 eclipseForetells_j14 eclipseForetells_j15 eclipseForetells_j16 eclipseForetells_j17 eclipseForetells_j18 eclipseForetells_j19 eclipseForetells_j20 eclipseForetells_j21 eclipseForetells_j22 eclipseForetells_j23 jf_24 jf_25 eclipseForetells_j26 eclipseForetells_j27 eclipseForetells_j28 eclipseForetells_j29 eclipseForetells_j30 eclipseForetells_j31)
    (of_decide_eq_true (by kernel_rfl)) (by unfold Func.isWrapper; first | (rw [if_pos (by decide +kernel)]; kernel_rfl) | (rw [if_neg (by decide +kernel)]; exact ⟨rfl, rfl⟩))
    (fun os started H enc _ => lifted (spec := Rows.eclipseForetellsSpec) #[.agg #[.slice none 0 0, .int .i64 0, .int .i64 0, .int .i64 0, .slice none 0 0, .slice none 0 0, .slice none 0 0, .slice none 0 0, .int .i64 0, .int .i64 0, .int .i64 0], .slice none 0 0, .int .i64 0, .int .i64 0] Tryz.func4 (by kernel_rfl) Tryz.params4 (by kernel_rfl) rfl
      (fun hA => by
        obtain ⟨v0, vs0, d0, ds0, p0, q0, ha, rfl, rfl, h0, r0⟩ := ChangeShapes.trodAll_cons hA
        obtain ⟨v1, vs1, d1, ds1, p1, q1, rfl, rfl, rfl, h1, r1⟩ := ChangeShapes.trodAll_cons r0
        obtain ⟨v2, vs2, d2, ds2, p2, q2, rfl, rfl, rfl, h2, r2⟩ := ChangeShapes.trodAll_cons r1
        obtain ⟨v3, vs3, d3, ds3, p3, q3, rfl, rfl, rfl, h3, r3⟩ := ChangeShapes.trodAll_cons r2
        obtain ⟨rfl, rfl, rfl⟩ := ChangeShapes.trodAll_nil r3
        rfl)
      (by kernel_rfl) os started H enc (by kernel_rfl) (by kernel_rfl) (by kernel_rfl) (jf_world _ _)
      (fun W base args ds p hval hA hG => by
        obtain ⟨v0, vs0, d0, ds0, p0, q0, ha, rfl, rfl, h0, r0⟩ := ChangeShapes.trodAll_cons hA
        obtain ⟨v1, vs1, d1, ds1, p1, q1, rfl, rfl, rfl, h1, r1⟩ := ChangeShapes.trodAll_cons r0
        obtain ⟨v2, vs2, d2, ds2, p2, q2, rfl, rfl, rfl, h2, r2⟩ := ChangeShapes.trodAll_cons r1
        obtain ⟨v3, vs3, d3, ds3, p3, q3, rfl, rfl, rfl, h3, r3⟩ := ChangeShapes.trodAll_cons r2
        obtain ⟨rfl, rfl, rfl⟩ := ChangeShapes.trodAll_nil r3
        obtain rfl : args = #[v0, v1, v2, v3] := by cases args; simp_all
        obtain ⟨x, e, rfl, hE⟩ := op_eng (hval 0 32 v0 rfl rfl) h0
        obtain ⟨s2, st, rfl, hS⟩ := op_list (hval 1 30 v1 rfl rfl) h1
        obtain ⟨a2, rfl, hb2⟩ := op_num (hval 2 3 v2 rfl rfl) h2
        obtain ⟨a3, rfl, hb3⟩ := op_num (hval 3 3 v3 rfl rfl) h3
        exact EclipseForetells_L x e s2 st a2 a3 W hE hS hG))
theorem eclipseForetells_card : Rows.EclipseForetellsCardSaid :=
  Claim7.holds_tied_plain_at .later [] [.data, .data, .data, .data, .pinned] true (true, "539264a627cb68ddccdac5f6e1e21e2c3e7f21e824bfeb59e102ee06b2d34115") true eclipseForetells_said (fun _ h => by cases h) eclipseForetells_wf (fun _ h => by cases h) eclipseForetells_row_tie rfl ⟨rfl, rfl⟩ jf_main rfl
    (fun f fn hf hfn => by
      obtain rfl : f = 4 := Option.some.inj (eclipseForetells_fn.symm.trans hf) |>.symm
      obtain rfl : fn = Tryz.f4 := (Option.some.inj (Tryz.func4.symm.trans hfn)).symm
      exact ⟨jf_looks, fun j t ht => by
        rw [Tryz.params4] at ht
        have hm : t ∈ [32, 30, 3, 3] := by simpa using Array.mem_of_getElem? ht
        have hall : ([32, 30, 3, 3].all fun u => !Tryz.prog.wantsStandIn u) = true := by kernel_rfl
        exact (show Tryz.prog.wantsStandIn t = false by simpa using List.all_eq_true.1 hall t hm)⟩)
    eclipseForetells_goes
#print axioms eclipseForetells_card
end Go.Proofs.YtobofnkmbpfoiaaGreatDoor
namespace Go.Proofs.Ec
end Go.Proofs.Ec
