/- The given statement of the law EclipseHands holds: for every engine, all settings and all numbers the law returns true and leaves its arguments as they were. Its conditions: the listed tables of the library lie as the program's text lays them (the tie is given). -/
import Derived.Test.YtobofnkmbpfoiaaGreatDoorProg
import Derived.Test.YtobofnkmbpfoiaaGreatDoorRows
import Derived.Test.YtobofnkmbpfoiaaGreatDoorTie
import Derived.Test.YtobofnkmbpfoiaaGreatDoorCards
import Derived.Test.YtobofnkmbpfoiaaGreatDoorPQb
import Derived.Test.YtobofnkmbpfoiaaGreatDoorPCx
import Derived.Test.YtobofnkmbpfoiaaGreatDoorPW32
set_option linter.unusedVariables false
set_option linter.unusedSimpArgs false
set_option maxRecDepth 4000
namespace Go.Proofs.Ec
open Go.RowKit Go.Proofs.Sx
open Go Ecl
theorem EclipseHands_L (x : EV) (e : Eng) (s2 : SV) (st : List Int) (t : Int) (w : World) (hG : RdG w x e) (hS2 : Rd w encI 1 s2.v st) (hGl : Glb w) : Ret Tryz.prog 14 #[.agg #[x.b.v, .int .i64 e.nnum, .int .i64 e.nden, .int .i64 e.nstart, x.s.v, x.m.v, x.n.v, x.f.v, .int .i64 e.new, .int .i64 e.full, .int .i64 e.wide], s2.v, .int .i64 t] w fun u w' => u = .bool true ∧ Below w.heap.size w w' := by
  cases hb : (isEngine e && isSet e st && (inR t 0 9000)) with
  | false => exact EclipseHands_b x e s2 st t w hG hS2 hGl hb
  | true =>
    rw [Bool.and_eq_true, Bool.and_eq_true] at hb
    exact EclipseHands_g x e s2 st t w ⟨hG, hS2, hb.1.1, hb.1.2⟩ hGl hb.2
end Go.Proofs.Ec
namespace Go.Proofs.YtobofnkmbpfoiaaGreatDoor
open Go Go.Proofs.Ec Go.Proofs.Sx Ecl
set_option maxRecDepth 100000
theorem eclipseHands_j0 : (Rows.eclipseHandsRow.wf (OpenSpec.ofChange Rows.eclipseHandsSpec)) = true := by kernel_rfl
theorem eclipseHands_j3 : (Tryz.f14.params.all (Tryz.prog.readableRec ·)) = true := by kernel_rfl
theorem eclipseHands_j4 : (namedTie Tryz.prog Rows.eclipseHandsRow.named Rows.eclipseHandsSpec.vars) = true := by kernel_rfl
theorem eclipseHands_j5 : ((Rows.eclipseHandsRow.stops == [])) = true := by kernel_rfl
theorem eclipseHands_j7 : ((Rows.eclipseHandsRow.knobs == [])) = true := by kernel_rfl
theorem eclipseHands_j9 : ((Rows.eclipseHandsRow.inPlace == Tryz.prog.inPlace 14)) = true := by kernel_rfl
theorem eclipseHands_j10 : ((Rows.eclipseHandsRow.unfollowed == Tryz.prog.unfollowed 14)) = true := by kernel_rfl
theorem eclipseHands_j11 : ((Rows.eclipseHandsRow.recurses == Tryz.prog.recurses 14)) = true := by kernel_rfl
theorem eclipseHands_j12 : ((Rows.eclipseHandsRow.named == Tryz.prog.varsNamed 14)) = true := by kernel_rfl
theorem eclipseHands_j13 : ((Rows.eclipseHandsRow.maps == (Tryz.f14.params.toList ++ Rows.eclipseHandsSpec.plain.varTypes Tryz.prog).any (Tryz.prog.mapsRec ·))) = true := by kernel_rfl
theorem eclipseHands_j14 : ((Rows.eclipseHandsRow.ifaces == (Tryz.f14.params.toList ++ Rows.eclipseHandsSpec.plain.varTypes Tryz.prog).any (Tryz.prog.ifacesRec ·))) = true := by kernel_rfl
theorem eclipseHands_j15 : ((Rows.eclipseHandsRow.mapsOut == Tryz.prog.mapsAmong Tryz.f14.resultTypes.toList)) = true := by kernel_rfl
theorem eclipseHands_j16 : ((Rows.eclipseHandsRow.loops == (Tryz.f14.params.toList ++ Rows.eclipseHandsSpec.plain.varTypes Tryz.prog).any (Tryz.prog.loopsFrom ·))) = true := by kernel_rfl
theorem eclipseHands_j17 : ((Rows.eclipseHandsRow.wideKeys == (Tryz.f14.params.toList ++ Rows.eclipseHandsSpec.plain.varTypes Tryz.prog ++ Tryz.f14.resultTypes.toList).any (Tryz.prog.wideKeysFrom ·))) = true := by kernel_rfl
theorem eclipseHands_j18 : (Rows.eclipseHandsSpec.vars.all (Tryz.prog.varReadable ·)) = true := by kernel_rfl
theorem eclipseHands_j19 : (Tryz.f14.resultTypes.all (fun t => Tryz.prog.readableRec t && decide (t < Tryz.prog.types.size))) = true := by kernel_rfl
theorem eclipseHands_j20 : ((Rows.eclipseHandsRow.ifacesOut == Tryz.f14.resultTypes.toList.any (Tryz.prog.ifacesRec ·))) = true := by kernel_rfl
theorem eclipseHands_j21 : ((Rows.eclipseHandsRow.loopsOut == Tryz.f14.resultTypes.toList.any (Tryz.prog.loopsFrom ·))) = true := by kernel_rfl
theorem eclipseHands_j22 : ((Rows.eclipseHandsRow.plainKeys == Tryz.prog.plainKeys)) = true := by kernel_rfl
theorem eclipseHands_j23 : (Rows.eclipseHandsRow.shortTexts.isNone) = true := by kernel_rfl
theorem eclipseHands_j26 : ((Rows.eclipseHandsRow.lifted == Tryz.prog.liftsFinal)) = true := by rw [jf_lifts]; rfl
theorem eclipseHands_j27 : ((Tryz.prog.make == some Rows.eclipseHandsRow.make)) = true := by kernel_rfl
theorem eclipseHands_j28 : ((Rows.eclipseHandsRow.kinds == (if Rows.eclipseHandsRow.domain.isEmpty then [] else Tryz.f14.params.toList.map fun t => match Tryz.prog.underlying t with | some (.int k) => some k | _ => none))) = true := by kernel_rfl
theorem eclipseHands_j29 : ((Rows.eclipseHandsRow.pinned == Rows.eclipseHandsRow.pinnedBy)) = true := by kernel_rfl
theorem eclipseHands_j30 : ((Rows.eclipseHandsRow.veiled == (Tryz.f14.params.toList ++ Rows.eclipseHandsSpec.plain.varTypes Tryz.prog ++ Tryz.f14.resultTypes.toList).any (Tryz.prog.veiledRec ·))) = true := by kernel_rfl
theorem eclipseHands_j31 : (Rows.eclipseHandsRow.veiledFits Tryz.prog Tryz.f14.params.toList (Tryz.f14.params.toList ++ Rows.eclipseHandsSpec.plain.varTypes Tryz.prog ++ Tryz.f14.resultTypes.toList)) = true := by kernel_rfl
theorem eclipseHands_fn : Tryz.prog.funcNamed "tellurion/tellurionlaw07.EclipseHands" = some 14 := by kernel_rfl
theorem eclipseHands_goes : false = Rows.eclipseHandsRow.goesBy Tryz.prog := by kernel_rfl
theorem eclipseHands_wf : Rows.eclipseHandsRow.wfByText (OpenSpec.ofChange Rows.eclipseHandsSpec) = true := by kernel_rfl
theorem eclipseHands_said : Rows.EclipseHandsSaid :=
  OpenClaim.holds_of_wide 14 Tryz.f14 rfl rfl rfl rfl rfl rfl rfl ⟨rfl, rfl, rfl, rfl, rfl⟩ rfl rfl rfl rfl rfl eclipseHands_fn Tryz.func14 (joined_of _ _ _ _ _ eclipseHands_j0 jf_1 jf_2 eclipseHands_j3 eclipseHands_j4 eclipseHands_j5 jf_6 eclipseHands_j7 jf_8 eclipseHands_j9 eclipseHands_j10 eclipseHands_j11 eclipseHands_j12 eclipseHands_j13 eclipseHands_j14 eclipseHands_j15 eclipseHands_j16 eclipseHands_j17 eclipseHands_j18 eclipseHands_j19 eclipseHands_j20 eclipseHands_j21 eclipseHands_j22 eclipseHands_j23 jf_24 jf_25 eclipseHands_j26 eclipseHands_j27 eclipseHands_j28 eclipseHands_j29 eclipseHands_j30 eclipseHands_j31)
    (of_decide_eq_true (by kernel_rfl)) (by unfold Func.isWrapper; first | (rw [if_pos (by decide +kernel)]; kernel_rfl) | (rw [if_neg (by decide +kernel)]; exact ⟨rfl, rfl⟩))
    (fun os started H enc _ => lifted (spec := Rows.eclipseHandsSpec) #[.agg #[.slice none 0 0, .int .i64 0, .int .i64 0, .int .i64 0, .slice none 0 0, .slice none 0 0, .slice none 0 0, .slice none 0 0, .int .i64 0, .int .i64 0, .int .i64 0], .slice none 0 0, .int .i64 0] Tryz.func14 (by kernel_rfl) Tryz.params14 (by kernel_rfl) rfl
      (fun hA => by
        obtain ⟨v0, vs0, d0, ds0, p0, q0, ha, rfl, rfl, h0, r0⟩ := ChangeShapes.trodAll_cons hA
        obtain ⟨v1, vs1, d1, ds1, p1, q1, rfl, rfl, rfl, h1, r1⟩ := ChangeShapes.trodAll_cons r0
        obtain ⟨v2, vs2, d2, ds2, p2, q2, rfl, rfl, rfl, h2, r2⟩ := ChangeShapes.trodAll_cons r1
        obtain ⟨rfl, rfl, rfl⟩ := ChangeShapes.trodAll_nil r2
        rfl)
      (by kernel_rfl) os started H enc (by kernel_rfl) (by kernel_rfl) (by kernel_rfl) (jf_world _ _)
      (fun W base args ds p hval hA hG => by
        obtain ⟨v0, vs0, d0, ds0, p0, q0, ha, rfl, rfl, h0, r0⟩ := ChangeShapes.trodAll_cons hA
        obtain ⟨v1, vs1, d1, ds1, p1, q1, rfl, rfl, rfl, h1, r1⟩ := ChangeShapes.trodAll_cons r0
        obtain ⟨v2, vs2, d2, ds2, p2, q2, rfl, rfl, rfl, h2, r2⟩ := ChangeShapes.trodAll_cons r1
        obtain ⟨rfl, rfl, rfl⟩ := ChangeShapes.trodAll_nil r2
        obtain rfl : args = #[v0, v1, v2] := by cases args; simp_all
        obtain ⟨x, e, rfl, hE⟩ := op_eng (hval 0 32 v0 rfl rfl) h0
        obtain ⟨s2, st, rfl, hS⟩ := op_list (hval 1 30 v1 rfl rfl) h1
        obtain ⟨a2, rfl, hb2⟩ := op_num (hval 2 3 v2 rfl rfl) h2
        exact EclipseHands_L x e s2 st a2 W hE hS hG))
theorem eclipseHands_card : Rows.EclipseHandsCardSaid :=
  Claim7.holds_tied_plain_at .later [] [.data, .data, .data, .data, .pinned] true (true, "539264a627cb68ddccdac5f6e1e21e2c3e7f21e824bfeb59e102ee06b2d34115") true eclipseHands_said (fun _ h => by cases h) eclipseHands_wf (fun _ h => by cases h) eclipseHands_row_tie rfl ⟨rfl, rfl⟩ jf_main rfl
    (fun f fn hf hfn => by
      obtain rfl : f = 14 := Option.some.inj (eclipseHands_fn.symm.trans hf) |>.symm
      obtain rfl : fn = Tryz.f14 := (Option.some.inj (Tryz.func14.symm.trans hfn)).symm
      exact ⟨jf_looks, fun j t ht => by
        rw [Tryz.params14] at ht
        have hm : t ∈ [32, 30, 3] := by simpa using Array.mem_of_getElem? ht
        have hall : ([32, 30, 3].all fun u => !Tryz.prog.wantsStandIn u) = true := by kernel_rfl
        exact (show Tryz.prog.wantsStandIn t = false by simpa using List.all_eq_true.1 hall t hm)⟩)
    eclipseHands_goes
#print axioms eclipseHands_card
end Go.Proofs.YtobofnkmbpfoiaaGreatDoor
namespace Go.Proofs.Ec
end Go.Proofs.Ec
