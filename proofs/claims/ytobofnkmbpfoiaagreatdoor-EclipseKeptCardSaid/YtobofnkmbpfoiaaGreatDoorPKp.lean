import Derived.Test.YtobofnkmbpfoiaaGreatDoorPQc
import Derived.Test.YtobofnkmbpfoiaaGreatDoorPQa
set_option linter.unusedVariables false
set_option linter.unusedSimpArgs false
namespace Go.Proofs.Ec
open Go.RowKit Go.Proofs.Sx Ecl
theorem body0 {e : Eng} (hs : isSky e = true) : isBodyB e.b0 = true ∧ isBodyB e.b1 = true := by
  obtain ⟨-, -, -, ⟨h2, -⟩, hb⟩ := sky_bd hs
  have h : ∀ i (hi : i < e.bodies.length), isBodyB (e.bodies.getD i noBody) = true := fun i hi => by
    rw [List.getD_eq_getElem?_getD, List.getElem?_eq_getElem hi]
    exact hb _ (List.getElem_mem hi)
  exact ⟨h 0 (by omega), h 1 (by omega)⟩
theorem eng_good {e : Eng} (ok : EngOk e) : Ecl.Good e := by
  obtain ⟨h0, h1⟩ := body0 ok.sky
  obtain ⟨a1, a2, a3, -⟩ := body_bd h0
  obtain ⟨b1, b2, b3, -⟩ := body_bd h1
  obtain ⟨c1, c2, -⟩ := sky_bd ok.sky
  have t1 := turns_bd ok.sun
  have t2 := turns_bd ok.moon
  have t3 := turns_bd ok.node
  have h4 : 4 * e.nden ≤ e.nnum := by
    have := ok.sky
    simp only [isSky, isPeriod, Bool.and_eq_true, decide_eq_true_eq] at this
    exact this.1.1.2.2
  constructor <;> omega
theorem set_feasts {e : Eng} {st : List Int} (hf : (rising 1 10000 e.feasts && decide (e.feasts.length ≤ 8)) = true) (hs : isSet e st = true) : (st.map (at0 e.feasts)).Pairwise (· < ·) ∧ ∀ f ∈ st.map (at0 e.feasts), 0 < f ∧ f ≤ 10000 := by
  rw [Bool.and_eq_true] at hf
  obtain ⟨hp, hb⟩ := (rising_iff 1 10000 e.feasts).1 hf.1
  obtain ⟨sp, sb⟩ := (isSet_iff e st).1 hs
  have ha : ∀ n, 0 ≤ n → n < (e.feasts.length : Int) → ∃ h : n.toNat < e.feasts.length, at0 e.feasts n = e.feasts[n.toNat] := fun n h0 h1 => by
    have h2 : n.toNat < e.feasts.length := by omega
    exact ⟨h2, by unfold at0; rw [List.getD_eq_getElem?_getD, List.getElem?_eq_getElem h2]; rfl⟩
  constructor
  · rw [List.pairwise_map]
    refine sp.imp_of_mem fun {a b} ma mb hab => ?_
    have qa := sb a ma
    have qb := sb b mb
    obtain ⟨h1, e1⟩ := ha a (by omega) (by omega)
    obtain ⟨h2, e2⟩ := ha b (by omega) (by omega)
    rw [e1, e2]
    exact List.pairwise_iff_getElem.1 hp _ _ h1 h2 (by omega)
  · intro f hf
    obtain ⟨n, hn, rfl⟩ := List.mem_map.1 hf
    have qn := sb n hn
    obtain ⟨h1, e1⟩ := ha n (by omega) (by omega)
    rw [e1]
    have := hb _ (List.getElem_mem h1)
    omega
theorem near_of_keeps {e : Eng} {st : List Int} {x : Int × Int} {fn fd L u t : Int} (hf : (rising 1 10000 e.feasts && decide (e.feasts.length ≤ 8)) = true) (hs : isSet e st = true) (hx : 0 < x.2) (hd : 0 < fd) (hL : 0 ≤ L) (h0 : 0 ≤ t) (htu : t ≤ u) (h : keepsS (withinB x fn fd L) e.feasts u st 0 = true) :
    uWay x fn fd (lastSet e.feasts t st 0) t ≤ rWay fn fd t + L ∧ rWay fn fd t ≤ uWay x fn fd (lastSet e.feasts t st 0) t + L := by
  obtain ⟨hp, hb⟩ := set_feasts hf hs
  rw [keepsS_iff] at h
  have hl : 0 ≤ L * (x.2 * fd) := Int.mul_nonneg hL (Int.le_of_lt (Int.mul_pos hx hd))
  have := kept_at hl htu hp (fun f q => (hb f q).1) h0 h
  rw [lastSet_eq]
  exact near_of_within hx hd this
theorem off_sun {e : Eng} (g : Ecl.Good e) (st : List Int) (t : Int) : (off e st t).sun = signed (uWay (turns e.sun) e.b0.den e.b0.num (lastSet e.feasts t st 0) t - rWay e.b0.den e.b0.num t) := by
  show signed ((hands e st t).sun - around (mean e.b0 t)) = _
  rw [g.sun, signed_sub]
  congr 1
  show e.b0.start + uWay _ _ _ _ _ - (e.b0.start + rWay e.b0.den e.b0.num t) = _
  omega
theorem off_moon {e : Eng} (g : Ecl.Good e) (st : List Int) (t : Int) : (off e st t).moon = signed (uWay (turns e.moon) e.b1.den e.b1.num (lastSet e.feasts t st 0) t - rWay e.b1.den e.b1.num t) := by
  show signed ((hands e st t).moon - around (mean e.b1 t)) = _
  rw [g.moon, signed_sub]
  congr 1
  show e.b1.start + uWay _ _ _ _ _ - (e.b1.start + rWay e.b1.den e.b1.num t) = _
  omega
theorem off_node {e : Eng} (g : Ecl.Good e) (st : List Int) (t : Int) : (off e st t).node = signed (rWay e.nden e.nnum t - uWay (turns e.node) e.nden e.nnum (lastSet e.feasts t st 0) t) := by
  show signed ((hands e st t).node - around (e.nstart - gone e.nnum e.nden t)) = _
  rw [g.node, signed_sub]
  congr 1
  show e.nstart - uWay _ _ _ _ _ - (e.nstart - rWay e.nden e.nnum t) = _
  omega
theorem off_set {e : Eng} {st : List Int} (ok : EngOk e) (hs : isSet e st = true) {n : Int} (hn : n ∈ st) : off e st (at0 e.feasts n) = ⟨0, 0, 0⟩ := by
  have g := eng_good ok
  obtain ⟨hp, -⟩ := set_feasts ok.feasts hs
  have hl : lastSet e.feasts (at0 e.feasts n) st 0 = at0 e.feasts n := by
    rw [lastSet_eq]
    exact lastF_mem hp (List.mem_map_of_mem hn)
  have h1 := off_sun g st (at0 e.feasts n)
  have h2 := off_moon g st (at0 e.feasts n)
  have h3 := off_node g st (at0 e.feasts n)
  rw [hl, just_set g.s0, Int.sub_self, signed_zero] at h1
  rw [hl, just_set g.m0, Int.sub_self, signed_zero] at h2
  rw [hl, just_set g.n0, Int.sub_self, signed_zero] at h3
  cases ho : off e st (at0 e.feasts n) with
  | mk a b c =>
    rw [ho] at h1 h2 h3
    simp only at h1 h2 h3
    rw [h1, h2, h3]
theorem kept_off {a b L : Int} (h : a ≤ b + L ∧ b ≤ a + L) (h0 : 0 ≤ L) (hL : L ≤ 10800) : (decide (signed (a - b) ≤ L) && decide (-L ≤ signed (a - b))) = true := by
  obtain ⟨h1, h2⟩ := signed_kept (z := a - b) (L := L) (by omega) (by omega) hL
  rw [Bool.and_eq_true, decide_eq_true_eq, decide_eq_true_eq]
  exact ⟨h1, h2⟩
end Go.Proofs.Ec
