import Derived.Lib.SplitLaws
import Derived.Lib.ItoaNum
import Derived.Lib.Join
set_option linter.unusedVariables false
set_option linter.unusedSimpArgs false
section
namespace Ecl
structure Body where
  num : Int
  den : Int
  start : Int
  road : List Int
structure Eng where
  bodies : List Body
  nnum : Int
  nden : Int
  nstart : Int
  sun : List (Int × Int)
  moon : List (Int × Int)
  node : List (Int × Int)
  feasts : List Int
  new : Int
  full : Int
  wide : Int
structure Hand where
  sun : Int
  moon : Int
  node : Int
deriving DecidableEq
structure Mark where
  day : Int
  full : Bool
  far : Int
deriving DecidableEq
def noBody : Body := ⟨0, 0, 0, []⟩
def Eng.b0 (e : Eng) : Body := e.bodies.getD 0 noBody
def Eng.b1 (e : Eng) : Body := e.bodies.getD 1 noBody
def inR (x low high : Int) : Bool := decide (low ≤ x) && decide (x ≤ high)
def isTeeth (n : Int) : Bool := inR n 4 60
def isTrain (l : List (Int × Int)) : Bool := inR l.length 1 3 && l.all fun p => isTeeth p.1 && isTeeth p.2
def isPeriod (num den : Int) : Bool := inR num 1 10000 && inR den 1 10000 && decide (4 * den ≤ num)
def isPlace (n : Int) : Bool := inR n 0 21599
def isBodyB (b : Body) : Bool := isPeriod b.num b.den && isPlace b.start && inR b.road.length 1 8 && b.road.all fun n => inR n (-600) 600
def rising (low high : Int) : List Int → Bool
  | [] => true
  | [n] => inR n low high
  | n :: m :: r => inR n low high && decide (n < m) && rising low high (m :: r)
def isLimit (n : Int) : Bool := inR n 0 5400
def isSky (e : Eng) : Bool := inR e.bodies.length 2 4 && isPeriod e.nnum e.nden && isPlace e.nstart && e.bodies.all isBodyB
def slow (e : Eng) : Int := e.b1.den * e.b0.num - e.b0.den * e.b1.num
def isEngine (e : Eng) : Bool := isTrain e.sun && isTrain e.moon && isTrain e.node && isSky e && decide (0 < slow e) && decide (e.feasts.length ≤ 8) && rising 1 10000 e.feasts && isLimit e.new && isLimit e.full && isLimit e.wide
def isSet (e : Eng) (set : List Int) : Bool := rising 0 ((e.feasts.length : Int) - 1) set
def isDay (n : Int) : Bool := inR n 0 9000
def isSpan (a b : Int) : Bool := inR a 1 9000 && inR b a 9000 && decide (b - a ≤ 400)
def isLate (n : Int) : Bool := inR n 0 30
def prodA : List (Int × Int) → Int → Int
  | [], n => n
  | p :: r, n => prodA r (n * p.1)
def prodB : List (Int × Int) → Int → Int
  | [], n => n
  | p :: r, n => prodB r (n * p.2)
def turns (l : List (Int × Int)) : Int × Int :=
  let a := prodA l 1
  let b := prodB l 1
  let g : Int := Int.gcd a b
  (a / g, b / g)
def at0 (l : List Int) (n : Int) : Int := l.getD n.toNat 0
def lastSet (feasts : List Int) (turn : Int) : List Int → Int → Int
  | [], z => z
  | n :: r, z => lastSet feasts turn r (if at0 feasts n ≤ turn then at0 feasts n else z)
def shownX (x : Int × Int) (fn fd last t : Int) : Int :=
  (fn * last * x.2 + x.1 * (t - last) * fd) % (x.2 * fd) * 21600 / (x.2 * fd)
def shown (l : List (Int × Int)) (fn fd : Int) (feasts set : List Int) (t : Int) : Int :=
  shownX (turns l) fn fd (lastSet feasts t set 0) t
def around (n : Int) : Int := n % 21600
def signed (n : Int) : Int := around (n + 10800) - 10800
def hands (e : Eng) (set : List Int) (t : Int) : Hand where
  sun := around (e.b0.start + shown e.sun e.b0.den e.b0.num e.feasts set t)
  moon := around (e.b1.start + shown e.moon e.b1.den e.b1.num e.feasts set t)
  node := around (e.nstart - shown e.node e.nden e.nnum e.feasts set t)
def gone (num den t : Int) : Int := t * 21600 * den / num
def mean (b : Body) (t : Int) : Int := b.start + gone b.num b.den t
def way (b : Body) (t : Int) : Int :=
  let n := around (mean b t) * b.road.length
  let i := n / 21600
  let z := at0 b.road i
  mean b t + z + (at0 b.road ((i + 1) % b.road.length) - z) * (n % 21600) / 21600
def nodeAt (e : Eng) (t : Int) : Int := around (e.nstart - gone e.nnum e.nden t)
def off (e : Eng) (set : List Int) (t : Int) : Hand :=
  let h := hands e set t
  { sun := signed (h.sun - around (mean e.b0 t)), moon := signed (h.moon - around (mean e.b1 t)), node := signed (h.node - nodeAt e t) }
def lunar (e : Eng) (t : Int) : Int := way e.b1 t - way e.b0 t
def halfIf (full : Bool) : Int := if full then 10800 else 0
def skyMoon (e : Eng) (t : Int) (full : Bool) : Bool := decide ((lunar e (t - 1) - halfIf full) / 21600 < (lunar e t - halfIf full) / 21600)
def farOf (x : Int) : Int := min (x % 10800) (10800 - x % 10800)
def skyFar (e : Eng) (t : Int) : Int := farOf (way e.b1 t - nodeAt e t)
def skyLimit (e : Eng) (full : Bool) : Int := if full then e.full else e.new
def daysN : Nat → Int → List Int
  | 0, _ => []
  | n + 1, d => d :: daysN n (d + 1)
def days (a b : Int) : List Int := daysN (b + 1 - a).toNat a
def skyOn (e : Eng) (full : Bool) (t : Int) : List Mark := if skyMoon e t full = true ∧ skyFar e t ≤ skyLimit e full then [⟨t, full, skyFar e t⟩] else []
def skyAll (e : Eng) (a b : Int) : List Mark := (days a b).flatMap fun t => skyOn e false t ++ skyOn e true t
def lead (h : Hand) : Int := around (h.moon - h.sun)
def crossed (a b : Hand) (full : Bool) : Bool :=
  let by_ := signed (lead b - lead a)
  let x := if full then around (lead a - 10800) else lead a
  decide (0 < by_) && decide (21600 ≤ x + by_)
def handFar (h : Hand) : Int := farOf (h.moon - h.node)
def tellOn (e : Eng) (set : List Int) (full : Bool) (t : Int) : List Mark :=
  if crossed (hands e set (t - 1)) (hands e set t) full = true ∧ handFar (hands e set t) ≤ skyLimit e full + e.wide then [⟨t, full, handFar (hands e set t)⟩] else []
def tellAll (e : Eng) (set : List Int) (a b : Int) : List Mark := (days a b).flatMap fun t => tellOn e set false t ++ tellOn e set true t
def beside (l : List Mark) (x : Mark) (late : Int) : Bool := l.any fun y => y.full == x.full && decide (x.day - late ≤ y.day) && decide (y.day ≤ x.day + late)
def told (e : Eng) (set : List Int) (x : Mark) (late : Int) : Bool := (tellAll e set (max 1 (x.day - late)) (x.day + late)).any fun y => y.full == x.full
def missed (e : Eng) (set : List Int) (a b late : Int) : List Mark := (skyAll e a b).filter fun x => !told e set x late
def leastFrom (p : Int → Bool) : Nat → Int → Option Int
  | 0, _ => none
  | n + 1, d => if p d then some d else leastFrom p n (d + 1)
def within (e : Eng) (set : List Int) (a b : Int) : Option Int := leastFrom (fun late => (missed e set a b late).isEmpty) 31 0
def until_ (e : Eng) (set : List Int) (a b late : Int) : Int := match missed e set a b late with
  | [] => b
  | x :: _ => x.day - 1
def leastWide (e : Eng) (set : List Int) (late : Int) (y : Mark) : Int :=
  (days (max 1 (y.day - late)) (y.day + late)).foldl (fun z t => if crossed (hands e set (t - 1)) (hands e set t) y.full then min z (max 0 (handFar (hands e set t) - skyLimit e y.full)) else z) 10800
def widens (e : Eng) (set : List Int) (a b late : Int) : Int := (skyAll e a b).foldl (fun z y => max z (leastWide e set late y)) 0
def sets : Nat → Int → List (List Int)
  | 0, _ => [[]]
  | n + 1, d => (sets n (d + 1)).map (d :: ·) ++ sets n (d + 1)
def cmpL : List Int → List Int → Int
  | [], [] => 0
  | [], _ => -1
  | _, [] => 1
  | a :: r, b :: s => if a < b then -1 else if b < a then 1 else cmpL r s
def better (a b : List Int) : Bool := if a.length < b.length then true else if b.length < a.length then false else decide (cmpL a b < 0)
def bestOf : List (List Int) → Option (List Int)
  | [] => none
  | x :: r => some (r.foldl (fun z y => if better y z then y else z) x)
def settings (e : Eng) (a b late : Int) : Option (List Int) := bestOf ((sets e.feasts.length 0).filter fun s => (missed e s a b late).isEmpty)
def G : Eng where
  bodies := [⟨360, 1, 0, [0]⟩, ⟨27, 1, 0, [0, 300, 0, -300]⟩]
  nnum := 1800
  nden := 1
  nstart := 1000
  sun := [(4, 16), (4, 36), (4, 40)]
  moon := [(4, 11), (4, 39)]
  node := [(4, 32), (4, 60), (4, 60)]
  feasts := [10, 20, 40]
  new := 1900
  full := 600
  wide := 0
def H : Eng := { G with new := 0, full := 313 }
end Ecl
open Ecl
theorem g_hands : hands G [] 15 = ⟨900, 12083, 820⟩ := by decide +kernel
theorem g_off : off G [] 15 = ⟨0, 83, 0⟩ := by decide +kernel
theorem g_tell : tellAll G [] 1 44 = [⟨15, true, 463⟩, ⟨29, false, 1110⟩] := by decide +kernel
theorem g_missed : missed G [] 1 44 0 = [⟨30, false, 1893⟩] := by decide +kernel
theorem g_within : within G [] 1 44 = some 1 := by decide +kernel
theorem g_until : until_ G [] 1 44 0 = 29 := by decide +kernel
theorem g_widens : widens H [] 1 44 0 = 150 := by decide +kernel
theorem g_settings : settings G 1 44 0 = some [0] := by decide +kernel
end
section
namespace Ecl
def uWay (x : Int × Int) (fn fd last t : Int) : Int := (fn * last * x.2 + x.1 * (t - last) * fd) * 21600 / (x.2 * fd)
theorem shownX_mod {x : Int × Int} {fn fd last t : Int} (hx : 0 < x.2) (hf : 0 < fd) : shownX x fn fd last t = uWay x fn fd last t % 21600 := by
  unfold shownX uWay
  generalize fn * last * x.2 + x.1 * (t - last) * fd = N
  have hd : 0 < x.2 * fd := Int.mul_pos hx hf
  generalize x.2 * fd = d at *
  have h1 : N * 21600 = N % d * 21600 + N / d * 21600 * d := by
    have := Int.emod_add_mul_ediv N d
    have : N * 21600 = (N % d + d * (N / d)) * 21600 := by rw [this]
    rw [this]; grind
  have h0 := Int.emod_nonneg N (show d ≠ 0 by omega)
  have h2 := Int.emod_lt_of_pos N hd
  rw [h1, Int.add_mul_ediv_right _ _ (by omega)]
  have h3 : 0 ≤ N % d * 21600 / d := Int.ediv_nonneg (by omega) (by omega)
  have h4 : N % d * 21600 / d < 21600 := Int.ediv_lt_of_lt_mul hd (by
    have : N % d * 21600 < d * 21600 := by omega
    grind)
  rw [Int.add_mul_emod_self_right, Int.emod_eq_of_lt h3 h4]
theorem around_add (a b : Int) : around (a + b % 21600) = around (a + b) := by unfold around; omega
theorem around_sub (a b : Int) : around (a - b % 21600) = around (a - b) := by unfold around; omega
def withinT (x : Int × Int) (fn fd limit turns : Int) : Prop :=
  (x.1 * fd - fn * x.2) * turns * 21600 ≤ limit * (x.2 * fd) ∧ -((x.1 * fd - fn * x.2) * turns * 21600) ≤ limit * (x.2 * fd)
theorem withinT.mono {x : Int × Int} {fn fd limit s t : Int} (h0 : 0 ≤ s) (h1 : s ≤ t) (hl : 0 ≤ limit * (x.2 * fd)) (h : withinT x fn fd limit t) : withinT x fn fd limit s := by
  unfold withinT at *
  generalize x.1 * fd - fn * x.2 = K at *
  generalize limit * (x.2 * fd) = R at *
  rcases Int.le_total 0 K with k | k
  · have a1 := Int.mul_le_mul_of_nonneg_left h1 k
    have a2 := Int.mul_nonneg k h0
    omega
  · have a1 := Int.mul_le_mul_of_nonneg_left h1 (show 0 ≤ -K by omega)
    have a2 := Int.mul_nonneg (show 0 ≤ -K by omega) h0
    have e1 : -K * s = -(K * s) := by grind
    have e2 : -K * t = -(K * t) := by grind
    omega
def lastF (t : Int) : List Int → Int → Int
  | [], z => z
  | f :: r, z => lastF t r (if f ≤ t then f else z)
end Ecl
end
section
namespace Ecl
theorem inR_iff {x a b : Int} : inR x a b = true ↔ a ≤ x ∧ x ≤ b := by simp [inR]
theorem mem_daysN {x : Int} : ∀ {n : Nat} {d : Int}, x ∈ daysN n d ↔ d ≤ x ∧ x < d + n
  | 0, d => by simp only [daysN, List.not_mem_nil, false_iff]; omega
  | n + 1, d => by
    unfold daysN
    rw [List.mem_cons, mem_daysN]
    omega
theorem mem_days {a b x : Int} : x ∈ days a b ↔ a ≤ x ∧ x ≤ b := by
  unfold days
  rw [mem_daysN]
  omega
theorem mem_skyOn {e : Eng} {full : Bool} {t : Int} {x : Mark} : x ∈ skyOn e full t ↔ (skyMoon e t full = true ∧ skyFar e t ≤ skyLimit e full) ∧ x = ⟨t, full, skyFar e t⟩ := by
  unfold skyOn
  split
  · rename_i h; rw [List.mem_singleton]; exact ⟨fun e => ⟨h, e⟩, fun e => e.2⟩
  · rename_i h; exact ⟨fun e => absurd e (by simp), fun e => absurd e.1 h⟩
theorem mem_skyAll {e : Eng} {a b : Int} {x : Mark} : x ∈ skyAll e a b ↔ (a ≤ x.day ∧ x.day ≤ b) ∧ x ∈ skyOn e x.full x.day := by
  unfold skyAll
  rw [List.mem_flatMap]
  constructor
  · rintro ⟨t, ht, hx⟩
    rw [mem_days] at ht
    rcases List.mem_append.1 hx with hx | hx
    · have := (mem_skyOn.1 hx).2
      subst this
      exact ⟨ht, hx⟩
    · have := (mem_skyOn.1 hx).2
      subst this
      exact ⟨ht, hx⟩
  · rintro ⟨ht, hx⟩
    refine ⟨x.day, mem_days.2 ht, ?_⟩
    rw [List.mem_append]
    cases h : x.full
    · rw [h] at hx; exact .inl hx
    · rw [h] at hx; exact .inr hx
theorem crosses {a b : Hand} {full : Bool} {x y k : Int} (ha : around (a.moon - a.sun) = around x) (hb : around (b.moon - b.sun) = around y)
    (h1 : x - halfIf full - k * 21600 < 0) (h2 : 0 ≤ y - halfIf full - k * 21600) (h3 : y - x ≤ 10799) : crossed a b full = true := by
  unfold crossed lead
  rw [ha, hb]
  unfold around at *
  unfold halfIf at *
  unfold signed around
  cases full
  · simp only [Bool.false_eq_true, if_false, Bool.and_eq_true, decide_eq_true_eq] at *
    omega
  · simp only [if_true, Bool.and_eq_true, decide_eq_true_eq] at *
    omega
section
variable (e : Eng) (set : List Int)
def uSun (t : Int) : Int := e.b0.start + uWay (turns e.sun) e.b0.den e.b0.num (lastSet e.feasts t set 0) t
def uMoon (t : Int) : Int := e.b1.start + uWay (turns e.moon) e.b1.den e.b1.num (lastSet e.feasts t set 0) t
def uNode (t : Int) : Int := e.nstart - uWay (turns e.node) e.nden e.nnum (lastSet e.feasts t set 0) t
structure Good : Prop where
  s0 : 0 < (turns e.sun).2
  m0 : 0 < (turns e.moon).2
  n0 : 0 < (turns e.node).2
  sn : 0 < e.b0.num
  mn : 0 < e.b1.num
  nn : 0 < e.nnum
  sd : 0 ≤ e.b0.den
  md : 0 ≤ e.b1.den
  nd : 0 ≤ e.nden
  s4 : 4 * e.b0.den ≤ e.b0.num
  m4 : 4 * e.b1.den ≤ e.b1.num
  n4 : 4 * e.nden ≤ e.nnum
variable {e}
theorem Good.sun (h : Good e) (t : Int) : (hands e set t).sun = around (uSun e set t) := by
  unfold hands uSun shown
  simp only
  rw [shownX_mod h.s0 h.sn, around_add]
theorem Good.moon (h : Good e) (t : Int) : (hands e set t).moon = around (uMoon e set t) := by
  unfold hands uMoon shown
  simp only
  rw [shownX_mod h.m0 h.mn, around_add]
theorem Good.node (h : Good e) (t : Int) : (hands e set t).node = around (uNode e set t) := by
  unfold hands uNode shown
  simp only
  rw [shownX_mod h.n0 h.nn, around_sub]
theorem Good.crossed (h : Good e) {t k : Int} {full : Bool} (h1 : uMoon e set (t - 1) - uSun e set (t - 1) - halfIf full - k * 21600 < 0) (h2 : 0 ≤ uMoon e set t - uSun e set t - halfIf full - k * 21600)
    (h3 : (uMoon e set t - uSun e set t) - (uMoon e set (t - 1) - uSun e set (t - 1)) ≤ 10799) : crossed (hands e set (t - 1)) (hands e set t) full = true := by
  refine crosses (x := uMoon e set (t - 1) - uSun e set (t - 1)) (y := uMoon e set t - uSun e set t) (k := k) ?_ ?_ h1 h2 h3
  · rw [h.sun, h.moon]; unfold around; omega
  · rw [h.sun, h.moon]; unfold around; omega
variable {set}
end
end Ecl
end
section
namespace Ecl
variable {e : Eng} {set : List Int}
theorem skyOn_length (full : Bool) (t : Int) : (skyOn e full t).length ≤ 1 := by unfold skyOn; split <;> simp
theorem tellOn_length (full : Bool) (t : Int) : (tellOn e set full t).length ≤ 1 := by unfold tellOn; split <;> simp
theorem daysN_length : ∀ (n : Nat) (d : Int), (daysN n d).length = n
  | 0, _ => rfl
  | n + 1, d => by simp [daysN, daysN_length n]
theorem flat_length {α β : Type} {f : α → List β} (h : ∀ x, (f x).length ≤ 2) : ∀ l : List α, (l.flatMap f).length ≤ 2 * l.length
  | [] => by simp
  | x :: r => by
    have := flat_length h r
    have := h x
    simp only [List.flatMap_cons, List.length_append, List.length_cons]
    omega
theorem skyAll_length (a b : Int) : ((skyAll e a b).length : Int) ≤ 2 * max 0 (b + 1 - a) := by
  have := flat_length (f := fun t => skyOn e false t ++ skyOn e true t) (fun t => by
    have := skyOn_length (e := e) false t
    have := skyOn_length (e := e) true t
    simp only [List.length_append]; omega) (days a b)
  unfold skyAll
  have h2 : (days a b).length = (b + 1 - a).toNat := daysN_length _ _
  omega
theorem tellAll_length (a b : Int) : ((tellAll e set a b).length : Int) ≤ 2 * max 0 (b + 1 - a) := by
  have := flat_length (f := fun t => tellOn e set false t ++ tellOn e set true t) (fun t => by
    have := tellOn_length (e := e) (set := set) false t
    have := tellOn_length (e := e) (set := set) true t
    simp only [List.length_append]; omega) (days a b)
  unfold tellAll
  have h2 : (days a b).length = (b + 1 - a).toNat := daysN_length _ _
  omega
end Ecl
end
section
namespace Ecl
def Incr (d n : Int) (s : List Int) : Prop := s.Pairwise (· < ·) ∧ ∀ x ∈ s, d ≤ x ∧ x < d + n
theorem Incr.cons {d n x : Int} {r : List Int} : Incr d n (x :: r) ↔ (d ≤ x ∧ x < d + n) ∧ Incr (x + 1) (d + n - (x + 1)) r := by
  unfold Incr
  rw [List.pairwise_cons, List.forall_mem_cons]
  constructor
  · rintro ⟨⟨h1, h2⟩, h3, h4⟩
    exact ⟨h3, h2, fun y hy => by have := h1 y hy; have := h4 y hy; omega⟩
  · rintro ⟨h3, h2, h4⟩
    exact ⟨⟨fun y hy => by have := h4 y hy; omega, h2⟩, h3, fun y hy => by have := h4 y hy; omega⟩
theorem mem_sets : ∀ {n : Nat} {d : Int} {s : List Int}, s ∈ sets n d ↔ Incr d n s
  | 0, d, s => by
    unfold sets
    rw [List.mem_singleton]
    constructor
    · rintro rfl; exact ⟨.nil, by simp⟩
    · rintro ⟨_, h⟩
      rw [List.eq_nil_iff_forall_not_mem]
      intro x hx
      have := h x hx
      omega
  | n + 1, d, s => by
    unfold sets
    rw [List.mem_append, List.mem_map]
    constructor
    · rintro (⟨r, hr, rfl⟩ | h)
      · rw [mem_sets] at hr
        refine Incr.cons.2 ⟨by omega, hr.1, fun x hx => by have := hr.2 x hx; omega⟩
      · rw [mem_sets] at h
        exact ⟨h.1, fun x hx => by have := h.2 x hx; omega⟩
    · intro h
      cases s with
      | nil => exact .inr (mem_sets.2 ⟨.nil, by simp⟩)
      | cons x r =>
        obtain ⟨h1, h2⟩ := Incr.cons.1 h
        by_cases hx : x = d
        · subst hx
          exact .inl ⟨r, mem_sets.2 ⟨h2.1, fun y hy => by have := h2.2 y hy; omega⟩, rfl⟩
        · refine .inr (mem_sets.2 (Incr.cons.2 ⟨by omega, h2.1, fun y hy => by have := h2.2 y hy; omega⟩))
theorem Incr.len : ∀ {s : List Int} {n d : Int}, 0 ≤ n → Incr d n s → (s.length : Int) ≤ n
  | [], n, d, h, _ => by simpa using h
  | x :: r, n, d, h, k => by
    obtain ⟨h1, h2⟩ := Incr.cons.1 k
    have := Incr.len (by omega) h2
    simp only [List.length_cons]
    omega
theorem rising_iff (low high : Int) : ∀ s : List Int, rising low high s = true ↔ s.Pairwise (· < ·) ∧ ∀ x ∈ s, low ≤ x ∧ x ≤ high
  | [] => by simp [rising]
  | [n] => by simp [rising, inR]
  | n :: m :: r => by
    unfold rising
    rw [Bool.and_eq_true, Bool.and_eq_true, inR_iff, decide_eq_true_eq, rising_iff low high (m :: r)]
    constructor
    · rintro ⟨⟨h1, h2⟩, h3, h4⟩
      refine ⟨List.pairwise_cons.2 ⟨?_, h3⟩, ?_⟩
      · intro x hx
        rcases List.mem_cons.1 hx with rfl | hx
        · exact h2
        · have := (List.pairwise_cons.1 h3).1 x hx
          omega
      · intro x hx
        rcases List.mem_cons.1 hx with rfl | hx
        · exact h1
        · exact h4 x hx
    · rintro ⟨h1, h2⟩
      have h3 := List.pairwise_cons.1 h1
      exact ⟨⟨h2 n (by simp), h3.1 m (by simp)⟩, h3.2, fun x hx => h2 x (by simp [hx])⟩
theorem isSet_iff (e : Eng) (s : List Int) : isSet e s = true ↔ Incr 0 e.feasts.length s := by
  unfold isSet Incr
  rw [rising_iff]
  exact and_congr Iff.rfl ⟨fun h x hx => by have := h x hx; omega, fun h x hx => by have := h x hx; omega⟩
end Ecl
end
section
namespace Ecl
open Go.Lib
abbrev Bs := List UInt8
def bs (l : Bs) : ByteArray := ⟨l.toArray⟩
theorem bs_data (l : Bs) : (bs l).data.toList = l := by simp [bs]
theorem bs_size (l : Bs) : (bs l).size = l.length := by simp [bs, ByteArray.size]
theorem bs_of (s : ByteArray) : bs s.data.toList = s := by cases s; simp [bs]
theorem bs_add (a b : Bs) : bs a ++ bs b = bs (a ++ b) := by
  apply ByteArray.ext
  simp [bs]
def splitL (c : UInt8) : Bs → List Bs
  | [] => [[]]
  | b :: r => if b = c then [] :: splitL c r else match splitL c r with
    | x :: t => (b :: x) :: t
    | [] => [[b]]
theorem splitL_ne (c : UInt8) : ∀ l, splitL c l ≠ []
  | [] => by simp [splitL]
  | b :: r => by
    unfold splitL
    split
    · simp
    · split <;> simp
theorem index_one (b c : UInt8) (r : Bs) : index (b :: r) [c] = if b = c then 0 else if index r [c] = -1 then -1 else index r [c] + 1 := by
  show (if [c].isPrefixOf (b :: r) then (0 : Int) else if index r [c] == -1 then -1 else index r [c] + 1) = _
  by_cases h : b = c
  · subst h; simp [List.isPrefixOf]
  · have h' : ¬ c = b := fun e => h e.symm
    simp [List.isPrefixOf, h, h']
theorem split_eq (c : UInt8) : ∀ l : Bs, splitK [c] 0 (count l [c]) l = splitL c l
  | [] => by
    have : index [] [c] = -1 := by simp [index]
    rw [count_miss this]
    rfl
  | b :: r => by
    by_cases h : b = c
    · subst h
      rw [count_cons_eq, Nat.add_comm, splitK, index_one, if_pos rfl, splitL, if_pos rfl, ← split_eq b r]
      simp
    · rw [count_cons_ne b c r h, splitL, if_neg h, ← split_eq c r]
      cases hk : count r [c] with
      | zero => rfl
      | succ k =>
        have hi : index r [c] ≠ -1 := fun e => by rw [count_miss e] at hk; omega
        have hge := index_ge r [c]
        rw [splitK, splitK, index_one, if_neg h, if_neg hi]
        have e1 : ¬ ((index r [c] + 1 == -1) = true) := by rw [beq_iff_eq]; omega
        have e2 : ¬ ((index r [c] == -1) = true) := by rw [beq_iff_eq]; exact hi
        rw [if_neg e1, if_neg e2]
        have e3 : (index r [c] + 1).toNat = (index r [c]).toNat + 1 := by omega
        rw [e3]
        simp
theorem splitL_len (c : UInt8) (l : Bs) : (splitL c l).length ≤ l.length + 1 := by
  induction l with
  | nil => simp [splitL]
  | cons b r ih =>
    unfold splitL
    split
    · simp; exact ih
    · split
      · rename_i x t h; rw [h] at ih; simp at ih ⊢; omega
      · simp
theorem splitL_mem (c : UInt8) : ∀ (l : Bs), ∀ x ∈ splitL c l, x.length ≤ l.length
  | [], x, h => by simp [splitL] at h; simp [h]
  | b :: r, x, h => by
    have ih := splitL_mem c r
    unfold splitL at h
    split at h
    · rcases List.mem_cons.1 h with rfl | h
      · simp
      · have := ih x h; simp; omega
    · split at h
      · rename_i y t hy
        rw [hy] at ih
        rcases List.mem_cons.1 h with rfl | h
        · have := ih y List.mem_cons_self; simp; exact this
        · have := ih x (List.mem_cons_of_mem _ h); simp; omega
      · simp at h; subst h; simp
def noMark : Mark := ⟨0, false, 0⟩
def okMark (x : Mark) : Bool := inR x.day 1 20000 && isLimit x.far
def badPair (x y : Mark) : Bool := decide (y.day < x.day) || decide (y.day = x.day) && (x.full || !y.full)
def okAt (l : List Mark) (i : Nat) : Bool := okMark (l.getD i noMark) && !(decide (0 < i) && badPair (l.getD (i - 1) noMark) (l.getD i noMark))
def marksTo (l : List Mark) (k : Nat) : Bool := (List.range k).all fun i => okAt l i
def isList (l : List Mark) : Bool := marksTo l l.length && decide (l.length ≤ 20)
theorem marks_succ (l : List Mark) (k : Nat) : marksTo l (k + 1) = (marksTo l k && okAt l k) := by
  unfold marksTo
  rw [List.range_succ, List.all_append]
  simp
theorem marks_bad {l : List Mark} {k : Nat} (hk : k < l.length) (h : okAt l k = false) : marksTo l l.length = false := by
  cases hb : marksTo l l.length with
  | false => rfl
  | true =>
    rw [marksTo, List.all_eq_true] at hb
    rw [hb k (List.mem_range.2 hk)] at h
    cases h
theorem okAt_eq {l : List Mark} {k : Nat} {y : Mark} (h : l[k]? = some y) : okAt l k = (okMark y && !(decide (0 < k) && badPair (l.getD (k - 1) noMark) y)) := by
  rw [okAt, show l.getD k noMark = y by rw [List.getD_eq_getElem?_getD, h]; rfl]
theorem getD_at {l : List Mark} {k : Nat} {y : Mark} (h : l[k]? = some y) : l.getD k noMark = y := by rw [List.getD_eq_getElem?_getD, h]; rfl
def wNew : Bs := [110, 101, 119]
def wFull : Bs := [102, 117, 108, 108]
def wordOf (full : Bool) : Bs := if full then wFull else wNew
def lineOf (x : Mark) : Bs := wordOf x.full ++ [32] ++ itoa x.day ++ [32] ++ itoa x.far
def headOf (n : Nat) : Bs := [101, 99, 108, 105, 112, 115, 101, 115, 32] ++ itoa n
def linesOf (l : List Mark) : List Bs := headOf l.length :: l.map lineOf
def lineSum (m : Int) : Nat → Bs → Int
  | _, [] => 0
  | k, c :: r => (c.toNat : Int) * (k + 1) * m + lineSum m (k + 1) r
def allSum : Nat → List Bs → Int
  | _, [] => 0
  | i, s :: r => lineSum (i + 1) 0 s + allSum (i + 1) r
def checkOf (ls : List Bs) : Int := allSum 0 ls % 139
def text (l : List Mark) : Bs :=
  let c := checkOf (linesOf l)
  join (linesOf l) [10] ++ [10, 101, 110, 100, 32] ++ itoa (c / 100) ++ itoa (c / 10 % 10) ++ itoa (c % 10) ++ [10]
theorem lineSum_snoc (m : Int) : ∀ (p : Bs) (k : Nat) (c : UInt8), lineSum m k (p ++ [c]) = lineSum m k p + (c.toNat : Int) * ((k + p.length : Nat) + 1) * m
  | [], k, c => by simp [lineSum]
  | b :: r, k, c => by
    rw [List.cons_append, lineSum, lineSum, lineSum_snoc m r (k + 1) c, List.length_cons, show k + 1 + r.length = k + (r.length + 1) by omega]
    omega
theorem allSum_snoc : ∀ (p : List Bs) (i : Nat) (s : Bs), allSum i (p ++ [s]) = allSum i p + lineSum ((i + p.length : Nat) + 1) 0 s
  | [], i, s => by simp [allSum]
  | b :: r, i, s => by
    rw [List.cons_append, allSum, allSum, allSum_snoc r (i + 1) s, List.length_cons, show i + 1 + r.length = i + (r.length + 1) by omega]
    omega
def digit (c : UInt8) : Bool := decide (48 ≤ c.toNat) && decide (c.toNat ≤ 57)
def numVal : Bs → Int → Int
  | [], n => n
  | c :: r, n => numVal r (10 * n + ((c.toNat : Int) - 48))
def isNum (w : Bs) : Bool := w.all (fun c => digit c && decide (w.length ≤ 5)) && (!w.isEmpty && itoa (numVal w 0) == w)
def rowOf (w : List Bs) : Option Mark := match w with
  | [a, d, f] => if (a == wFull || a == wNew) && isNum d && isNum f then some ⟨numVal d 0, a == wFull, numVal f 0⟩ else none
  | _ => none
def rowsOf : List Bs → Option (List Mark)
  | [] => some []
  | l :: r => match rowOf (splitL 32 l), rowsOf r with
    | some x, some t => some (x :: t)
    | _, _ => none
def parse (s : Bs) : Option (List Mark) :=
  let ls := splitL 10 s
  if 3 ≤ ls.length then match rowsOf ((ls.drop 1).take (ls.length - 3)) with
    | some l => if text l == s then some l else none
    | none => none
  else none
end Ecl
end
section
namespace Ecl
structure Ball where
  x : Int
  y : Int
  r : Int
deriving DecidableEq
def sqSum : List Int → Int
  | [] => 0
  | x :: r => x * x + sqSum r
def Ball.pow (b : Ball) : Int := b.x * b.x + b.y * b.y - b.r * b.r
def okBall (b : Ball) : Bool := inR b.x (-100) 100 && inR b.y (-100) 100 && inR b.r 1 20 && decide (0 < b.pow)
def apartB (a b : Ball) : Bool := decide ((a.r + b.r) * (a.r + b.r) < (a.x - b.x) * (a.x - b.x) + (a.y - b.y) * (a.y - b.y))
def ballsGo (pre : List Ball) : List Ball → Bool
  | [] => true
  | b :: r => okBall b && pre.all (fun a => apartB a b) && ballsGo (pre ++ [b]) r
def ballsOk (l : List Ball) : Bool := ballsGo [] l
def isBalls (l : List Ball) : Bool := inR l.length 1 5 && ballsOk l
def shadesB (a b : Ball) : Int :=
  let dot := a.x * b.x + a.y * b.y
  let both := a.r * b.r
  if b.pow ≤ a.pow then 1
  else if b.r * b.r * (a.x * a.x + a.y * a.y) ≤ a.r * a.r * (b.x * b.x + b.y * b.y) ∧ both ≤ dot ∧ a.pow * b.pow ≤ (dot - both) * (dot - both) then 3
  else if -both < dot ∧ a.pow * b.pow < (dot + both) * (dot + both) then 2
  else 1
def noBall : Ball := ⟨0, 0, 0⟩
def darkGo (z : Ball) (n : Nat) : Nat → List Ball → Int → Int
  | _, [], m => m
  | k, b :: r, m => darkGo z n (k + 1) r (if k = n then m else max m (shadesB b z))
def darkest (l : List Ball) (n : Nat) : Int := darkGo (l.getD n noBall) n 0 l 1
def dark (l : List Ball) : List Int := (List.range l.length).map (darkest l)
theorem ballsGo_app : ∀ (l1 l2 pre : List Ball), ballsGo pre (l1 ++ l2) = (ballsGo pre l1 && ballsGo (pre ++ l1) l2)
  | [], l2, pre => by simp [ballsGo]
  | b :: r, l2, pre => by
    rw [List.cons_append, ballsGo, ballsGo, ballsGo_app r l2 (pre ++ [b]), Bool.and_assoc, Bool.and_assoc, Bool.and_assoc]
    simp
theorem balls_snoc {l : List Ball} {k : Nat} {y : Ball} (h : l[k]? = some y) : ballsOk (l.take (k + 1)) = (ballsOk (l.take k) && (okBall y && (l.take k).all (fun a => apartB a y))) := by
  rw [List.take_add_one, h, Option.toList_some, ballsOk, ballsGo_app]
  simp [ballsOk, ballsGo]
theorem balls_bad {l : List Ball} {k : Nat} (h : ballsOk (l.take k) = false) : ballsOk l = false := by
  rw [← List.take_append_drop k l, ballsOk, ballsGo_app]
  rw [ballsOk] at h
  rw [h, Bool.false_and]
theorem ballsGo_mem : ∀ {l pre : List Ball}, ballsGo pre l = true → ∀ b ∈ l, okBall b = true
  | [], _, _, _, hb => by cases hb
  | a :: r, pre, h, b, hb => by
    rw [ballsGo, Bool.and_eq_true, Bool.and_eq_true] at h
    rcases List.mem_cons.1 hb with rfl | hb
    · exact h.1.1
    · exact ballsGo_mem h.2 b hb
structure BallBd (b : Ball) : Prop where
  x : -100 ≤ b.x ∧ b.x ≤ 100
  y : -100 ≤ b.y ∧ b.y ≤ 100
  r : 1 ≤ b.r ∧ b.r ≤ 20
  p : 0 < b.pow
theorem okBall_iff {b : Ball} : okBall b = true ↔ BallBd b := by
  simp only [okBall, inR, Bool.and_eq_true, decide_eq_true_eq]
  exact ⟨fun h => ⟨h.1.1.1, h.1.1.2, h.1.2, h.2⟩, fun h => ⟨⟨⟨h.x, h.y⟩, h.r⟩, h.p⟩⟩
theorem balls_bd {l : List Ball} (h : isBalls l = true) : ∀ b ∈ l, BallBd b := fun b hb => by
  rw [isBalls, Bool.and_eq_true] at h
  exact okBall_iff.1 (ballsGo_mem h.2 b hb)
theorem balls_len {l : List Ball} (h : isBalls l = true) : 1 ≤ l.length ∧ l.length ≤ 5 := by
  rw [isBalls, Bool.and_eq_true, inR, Bool.and_eq_true, decide_eq_true_eq, decide_eq_true_eq] at h
  omega
theorem sq_bd {x : Int} {m : Int} (h : -m ≤ x ∧ x ≤ m) : 0 ≤ x * x ∧ x * x ≤ m * m := by
  have h0 : 0 ≤ m := by omega
  have h1 : 0 ≤ (m - x) * (m + x) := Int.mul_nonneg (by omega) (by omega)
  have e : (m - x) * (m + x) = m * m - x * x := by
    rw [Int.sub_mul, Int.mul_add, Int.mul_add, Int.mul_comm x m]
    omega
  have h2 : 0 ≤ x * x := by
    rcases Int.le_total 0 x with h | h
    · exact Int.mul_nonneg h h
    · have := Int.mul_nonneg (Int.neg_nonneg_of_nonpos h) (Int.neg_nonneg_of_nonpos h)
      rwa [Int.neg_mul_neg] at this
  omega
theorem mul_bd3 {x y m n : Int} (h : -m ≤ x ∧ x ≤ m) (k : -n ≤ y ∧ y ≤ n) : -(m * n) ≤ x * y ∧ x * y ≤ m * n := by
  have h0 : 0 ≤ m := by omega
  have k0 : 0 ≤ n := by omega
  have a1 : 0 ≤ (m - x) * (n + y) := Int.mul_nonneg (by omega) (by omega)
  have a2 : 0 ≤ (m + x) * (n - y) := Int.mul_nonneg (by omega) (by omega)
  have a3 : 0 ≤ (m - x) * (n - y) := Int.mul_nonneg (by omega) (by omega)
  have a4 : 0 ≤ (m + x) * (n + y) := Int.mul_nonneg (by omega) (by omega)
  have e1 : (m - x) * (n + y) = m * n + m * y - x * n - x * y := by rw [Int.sub_mul, Int.mul_add, Int.mul_add]; omega
  have e2 : (m + x) * (n - y) = m * n - m * y + x * n - x * y := by rw [Int.add_mul, Int.mul_sub, Int.mul_sub]; omega
  have e3 : (m - x) * (n - y) = m * n - m * y - x * n + x * y := by rw [Int.sub_mul, Int.mul_sub, Int.mul_sub]; omega
  have e4 : (m + x) * (n + y) = m * n + m * y + x * n + x * y := by rw [Int.add_mul, Int.mul_add, Int.mul_add]; omega
  omega
theorem dark_snoc {l : List Ball} {z : Ball} {n : Nat} : ∀ {r : List Ball} {k : Nat} {m : Int} {y : Ball} (r' : List Ball), darkGo z n k (r ++ y :: r') m = darkGo z n (k + r.length + 1) r' (if k + r.length = n then darkGo z n k r m else max (darkGo z n k r m) (shadesB y z))
  | [], k, m, y, r' => by simp [darkGo]
  | b :: r, k, m, y, r' => by
    rw [List.cons_append, darkGo, darkGo, dark_snoc (l := l) (r := r) r', List.length_cons]
    rw [show k + 1 + r.length + 1 = k + (r.length + 1) + 1 from by omega, show k + 1 + r.length = k + (r.length + 1) from by omega]
theorem dark_take {l : List Ball} {z : Ball} {n k : Nat} {y : Ball} (h : l[k]? = some y) : darkGo z n 0 (l.take (k + 1)) 1 = if k = n then darkGo z n 0 (l.take k) 1 else max (darkGo z n 0 (l.take k) 1) (shadesB y z) := by
  have hk : k < l.length := (List.getElem?_eq_some_iff.1 h).1
  rw [List.take_add_one, h, Option.toList_some, dark_snoc (l := l) [], List.length_take, Nat.zero_add, show min k l.length = k from by omega]
  rfl
end Ecl
end
section
namespace Geo
theorem sq_nonneg (x : Int) : 0 ≤ x * x := by
  rcases Int.le_total 0 x with h | h
  · exact Int.mul_nonneg h h
  · exact Int.mul_nonneg_of_nonpos_of_nonpos h h
theorem sq_le {a b : Int} (ha : 0 ≤ a) (h : a ≤ b) : a * a ≤ b * b := Int.mul_le_mul h h ha (Int.le_trans ha h)
theorem le_of_sq {a b : Int} (hb : 0 ≤ b) (h : a * a ≤ b * b) : a ≤ b := by
  rcases Int.lt_or_le b a with h1 | h1
  · have h2 := Int.mul_le_mul_of_nonneg_left (a := b) (b := a) (c := b) (by omega) hb
    have h3 : b * a < a * a := Int.mul_lt_mul_of_pos_right h1 (by omega)
    omega
  · exact h1
theorem of_mul {p x y : Int} (hp : 0 < p) (h : p * x ≤ p * y) : x ≤ y := Int.le_of_mul_le_mul_left h hp
structure Dark (A r B q D : Int) : Prop where
  hr : 0 < r
  hq : 0 < q
  ha : 0 < A - r * r
  hb : 0 < B - q * q
  wide : q * q * A ≤ r * r * B
  e0 : 0 ≤ D - r * q
  e1 : (A - r * r) * (B - q * q) ≤ (D - r * q) * (D - r * q)
  cs : D * D ≤ A * B
variable {A r B q D X : Int}
theorem Dark.A0 (h : Dark A r B q D) : 0 < A := by have := sq_nonneg r; have := h.ha; omega
theorem Dark.B0 (h : Dark A r B q D) : 0 < B := by have := sq_nonneg q; have := h.hb; omega
theorem Dark.e2 (h : Dark A r B q D) : 0 < D - r * q := by
  have h1 := Int.mul_pos h.ha h.hb
  have h2 := h.e1
  have h3 := h.e0
  rcases Int.lt_or_eq_of_le h3 with h4 | h4
  · exact h4
  · rw [← h4] at h2; omega
theorem Dark.tight (h : Dark A r B q D) : q * D ≤ r * B := by
  have h0 := h.B0
  refine le_of_sq (Int.mul_nonneg (Int.le_of_lt h.hr) (Int.le_of_lt h0)) ?_
  have h1 := Int.mul_le_mul_of_nonneg_left h.cs (sq_nonneg q)
  have h2 := Int.mul_le_mul_of_nonneg_right h.wide (Int.le_of_lt h0)
  grind
theorem Dark.cross (h : Dark A r B q D) (hx : D * D + X * X = A * B) : X * X * (B - q * q) ≤ (r * B - q * D) * (r * B - q * D) := by
  have h1 := h.e1
  have h2 := Int.mul_le_mul_of_nonneg_right h1 (Int.le_of_lt h.hb)
  have h3 : X * X = A * B - D * D := by omega
  rw [h3]
  have h4 := Int.mul_le_mul_of_nonneg_left h1 (Int.le_of_lt h.B0)
  grind
theorem Dark.trans {C s D2 D3 Y : Int} (h : Dark A r B q D) (k : Dark B q C s D2) (hx : D * D + X * X = A * B) (hy : D2 * D2 + Y * Y = B * C) (h3 : B * D3 = D * D2 - X * Y) (hc3 : D3 * D3 ≤ A * C) : Dark A r C s D3 := by
  have hB := h.B0
  have hA := h.A0
  have hb := h.hb
  have c1 := h.cross hx
  have t1 := h.tight
  -- the other side of the middle ball
  have k1 : Y * Y * (B - q * q) ≤ (q * D2 - s * B) * (q * D2 - s * B) := by
    have h3 : Y * Y = B * C - D2 * D2 := by omega
    rw [h3]
    have h4 := Int.mul_le_mul_of_nonneg_left k.e1 (Int.le_of_lt hB)
    grind
  have k2 : s * B ≤ q * D2 := by
    have w1 : s * s * (B - q * q) ≤ q * q * (C - s * s) := by have := k.wide; grind
    have w2 := Int.mul_le_mul_of_nonneg_right w1 (Int.le_of_lt hb)
    have w3 := Int.mul_le_mul_of_nonneg_left k.e1 (sq_nonneg q)
    have w4 : s * (B - q * q) ≤ q * (D2 - q * s) := by
      refine le_of_sq (Int.mul_nonneg (Int.le_of_lt k.hr) k.e0) ?_
      grind
    grind
  have m0 : 0 ≤ (r * B - q * D) * (q * D2 - s * B) := Int.mul_nonneg (by omega) (by omega)
  have m1 : (B - q * q) * (X * Y) ≤ (r * B - q * D) * (q * D2 - s * B) := by
    refine le_of_sq m0 ?_
    have := Int.mul_le_mul c1 k1 (Int.mul_nonneg (sq_nonneg Y) (Int.le_of_lt hb)) (sq_nonneg _)
    grind
  have m2 : B * ((D - r * q) * (D2 - q * s)) ≤ B * ((B - q * q) * (D3 - r * s)) := by
    have z1 : B * ((B - q * q) * (D3 - r * s)) = (B - q * q) * (D * D2 - X * Y) - (B - q * q) * (r * s * B) := by rw [← h3]; grind
    rw [z1]
    grind
  have m3 := of_mul hB m2
  have m4 : 0 < (D - r * q) * (D2 - q * s) := Int.mul_pos h.e2 k.e2
  have m5 : 0 < D3 - r * s := by
    rcases Int.lt_or_le 0 (D3 - r * s) with z | z
    · exact z
    · have := Int.mul_le_mul_of_nonneg_left z (Int.le_of_lt hb)
      omega
  have m6 := sq_le (Int.le_of_lt m4) m3
  have m7 := Int.mul_le_mul h.e1 k.e1 (Int.mul_nonneg (Int.le_of_lt k.ha) (Int.le_of_lt k.hb)) (sq_nonneg _)
  refine ⟨h.hr, k.hq, h.ha, k.hb, ?_, Int.le_of_lt m5, ?_, hc3⟩
  · refine of_mul hB ?_
    have v1 := Int.mul_le_mul_of_nonneg_right h.wide (Int.le_of_lt (k.B0))
    have v2 := Int.mul_le_mul_of_nonneg_left k.wide (Int.le_of_lt hA)
    grind
  · refine of_mul hb (of_mul hb ?_)
    grind
end Geo
end
section
namespace Ecl
open Go.Lib
theorem numVal_snoc (c : UInt8) : ∀ (a : Bs) (n : Int), numVal (a ++ [c]) n = 10 * numVal a n + ((c.toNat : Int) - 48)
  | [], n => rfl
  | b :: r, n => by rw [List.cons_append, numVal, numVal_snoc c r]; rfl
theorem of_digit {u : Nat} (h : u < 10) : (UInt8.ofNat (48 + u)).toNat = 48 + u := by
  rw [UInt8.toNat_ofNat']
  omega
theorem dec_ok (u : Nat) : numVal (decDigits u) 0 = (u : Int) ∧ (decDigits u).all digit = true ∧ 1 ≤ (decDigits u).length := by
  induction u using Nat.strongRecOn with
  | _ u ih =>
    rw [decDigits]
    split
    · rename_i h
      refine ⟨?_, ?_, by simp⟩
      · simp only [numVal, of_digit h]
        omega
      · simp only [List.all_cons, List.all_nil, digit, of_digit h, Bool.and_true, Bool.and_eq_true, decide_eq_true_eq]
        omega
    · rename_i h
      obtain ⟨h1, h2, h3⟩ := ih (u / 10) (by omega)
      have hm : u % 10 < 10 := Nat.mod_lt _ (by decide)
      refine ⟨?_, ?_, by simp⟩
      · rw [numVal_snoc, h1, of_digit hm]
        omega
      · rw [List.all_append, h2, Bool.true_and]
        simp only [List.all_cons, List.all_nil, digit, of_digit hm, Bool.and_true, Bool.and_eq_true, decide_eq_true_eq]
        omega
theorem dec_len : ∀ (k u : Nat), u < 10 ^ (k + 1) → (decDigits u).length ≤ k + 1
  | 0, u, h => by
    rw [decDigits, dif_pos (by simpa using h)]
    simp
  | k + 1, u, h => by
    rw [decDigits]
    split
    · simp
    · have := dec_len k (u / 10) (by rw [Nat.div_lt_iff_lt_mul (by decide)]; rw [Nat.pow_succ] at h; exact h)
      rw [List.length_append, List.length_singleton]
      omega
theorem itoa_nat (n : Int) (h : 0 ≤ n) : itoa n = decDigits n.toNat := by
  unfold itoa
  rw [if_neg (by omega)]
theorem itoa_val {n : Int} (h : 0 ≤ n) : numVal (itoa n) 0 = n := by
  rw [itoa_nat n h, (dec_ok _).1]
  omega
theorem itoa_digits {n : Int} (h : 0 ≤ n) : (itoa n).all digit = true := by
  rw [itoa_nat n h]
  exact (dec_ok _).2.1
theorem itoa_pos {n : Int} (h : 0 ≤ n) : 1 ≤ (itoa n).length := by
  rw [itoa_nat n h]
  exact (dec_ok _).2.2
theorem itoa_len {n : Int} (h : 0 ≤ n) (k : Nat) (hk : n < 10 ^ (k + 1)) : (itoa n).length ≤ k + 1 := by
  rw [itoa_nat n h]
  refine dec_len k _ ?_
  have : ((n.toNat : Nat) : Int) < ((10 ^ (k + 1) : Nat) : Int) := by
    rw [Int.toNat_of_nonneg h]
    simpa using hk
  exact_mod_cast this
theorem num_itoa {n : Int} (h : 0 ≤ n) (hn : n < 100000) : isNum (itoa n) = true := by
  have h1 := itoa_digits h
  have h2 := itoa_len h 4 (by simpa using hn)
  have h3 := itoa_pos h
  unfold isNum
  rw [itoa_val h, Bool.and_eq_true, Bool.and_eq_true, List.all_eq_true]
  rw [List.all_eq_true] at h1
  refine ⟨fun c hc => by rw [Bool.and_eq_true, decide_eq_true_eq]; exact ⟨h1 c hc, h2⟩, ?_, by simp⟩
  cases hi : itoa n with
  | nil => rw [hi] at h3; simp at h3
  | cons a r => rfl
theorem splitL_app (c : UInt8) : ∀ (a r : Bs), (∀ x ∈ a, x ≠ c) → splitL c (a ++ c :: r) = a :: splitL c r
  | [], r, _ => by rw [List.nil_append, splitL, if_pos rfl]
  | b :: a, r, h => by
    have hb : b ≠ c := h b (by simp)
    rw [List.cons_append, splitL, if_neg hb, splitL_app c a r (fun x hx => h x (by simp [hx]))]
theorem splitL_one (c : UInt8) : ∀ (a : Bs), (∀ x ∈ a, x ≠ c) → splitL c a = [a]
  | [], _ => rfl
  | b :: a, h => by
    have hb : b ≠ c := h b (by simp)
    rw [splitL, if_neg hb, splitL_one c a (fun x hx => h x (by simp [hx]))]
theorem join_cons (a b : Bs) (r : List Bs) (sep : Bs) : join (a :: b :: r) sep = a ++ sep ++ join (b :: r) sep := by
  unfold join
  rw [List.intercalate_cons_cons]
theorem join_one (a sep : Bs) : join [a] sep = a := by
  unfold join
  simp [List.intercalate]
theorem splitL_join (c : UInt8) (t : Bs) : ∀ (ls : List Bs), ls ≠ [] → (∀ a ∈ ls, ∀ x ∈ a, x ≠ c) → splitL c (join ls [c] ++ c :: t) = ls ++ splitL c t
  | [a], _, h => by rw [join_one, splitL_app c a t (h a (by simp))]; rfl
  | a :: b :: r, _, h => by
    rw [join_cons, List.append_assoc, List.append_assoc, List.singleton_append, splitL_app c a _ (h a (by simp)), splitL_join c t (b :: r) (by simp) (fun d hd => h d (by simp [hd]))]
    rfl
theorem digit_ne {c d : UInt8} (h : digit c = true) (hd : d.toNat < 48) : c ≠ d := by
  rintro rfl
  rw [digit, Bool.and_eq_true, decide_eq_true_eq] at h
  omega
theorem itoa_ne {n : Int} (h : 0 ≤ n) {d : UInt8} (hd : d.toNat < 48) : ∀ x ∈ itoa n, x ≠ d := fun x hx => digit_ne (List.all_eq_true.1 (itoa_digits h) x hx) hd
theorem word_ne (f : Bool) : ∀ x ∈ wordOf f, x ≠ 32 ∧ x ≠ 10 := by cases f <;> decide
def NumM (x : Mark) : Prop := (0 ≤ x.day ∧ x.day < 100000) ∧ 0 ≤ x.far ∧ x.far < 100000
theorem row_line {x : Mark} (h : NumM x) : rowOf (splitL 32 (lineOf x)) = some x := by
  have e : lineOf x = wordOf x.full ++ 32 :: (itoa x.day ++ 32 :: itoa x.far) := by simp [lineOf]
  rw [e, splitL_app 32 _ _ (fun y hy => (word_ne _ y hy).1), splitL_app 32 _ _ (itoa_ne h.1.1 (by decide)), splitL_one 32 _ (itoa_ne h.2.1 (by decide))]
  unfold rowOf
  simp only
  rw [num_itoa h.1.1 h.1.2, num_itoa h.2.1 h.2.2, itoa_val h.1.1, itoa_val h.2.1]
  obtain ⟨d, f, r⟩ := x
  cases f <;> rfl
theorem rows_lines : ∀ {l : List Mark}, (∀ x ∈ l, NumM x) → rowsOf (l.map lineOf) = some l
  | [], _ => rfl
  | x :: r, h => by
    rw [List.map_cons, rowsOf, row_line (h x (by simp)), rows_lines (fun y hy => h y (by simp [hy]))]
theorem line_ne {x : Mark} (h : NumM x) : ∀ c ∈ lineOf x, c ≠ 10 := by
  intro c hc
  simp only [lineOf, List.mem_append, List.mem_singleton] at hc
  rcases hc with (((hc | rfl) | hc) | rfl) | hc
  · exact (word_ne _ c hc).2
  · decide
  · exact itoa_ne h.1.1 (by decide) c hc
  · decide
  · exact itoa_ne h.2.1 (by decide) c hc
theorem head_ne (n : Nat) : ∀ c ∈ headOf n, c ≠ 10 := by
  intro c hc
  rw [headOf, List.mem_append] at hc
  rcases hc with hc | hc
  · revert c
    decide
  · exact itoa_ne (by omega) (by decide) c hc
theorem check_bd (ls : List Bs) : 0 ≤ checkOf ls ∧ checkOf ls < 139 := ⟨Int.emod_nonneg _ (by decide), Int.emod_lt_of_pos _ (by decide)⟩
def endOf (c : Int) : Bs := [101, 110, 100, 32] ++ itoa (c / 100) ++ itoa (c / 10 % 10) ++ itoa (c % 10)
theorem text_parts (l : List Mark) : text l = join (linesOf l) [10] ++ 10 :: (endOf (checkOf (linesOf l)) ++ [10]) := by simp [text, endOf]
theorem end_ne {c : Int} (h : 0 ≤ c ∧ c < 139) : ∀ x ∈ endOf c, x ≠ 10 := by
  intro x hx
  simp only [endOf, List.mem_append] at hx
  rcases hx with ((hx | hx) | hx) | hx
  · revert x
    decide
  · exact itoa_ne (by omega) (by decide) x hx
  · exact itoa_ne (by omega) (by decide) x hx
  · exact itoa_ne (by omega) (by decide) x hx
theorem split_text {l : List Mark} (h : ∀ x ∈ l, NumM x) : splitL 10 (text l) = linesOf l ++ [endOf (checkOf (linesOf l)), []] := by
  rw [text_parts, splitL_join 10 _ _ (by simp [linesOf]) (fun a ha => ?_), splitL_app 10 _ _ (end_ne (check_bd _))]
  · rfl
  · rw [linesOf, List.mem_cons, List.mem_map] at ha
    rcases ha with rfl | ⟨x, hx, rfl⟩
    · exact head_ne _
    · exact line_ne (h x hx)
theorem parse_text {l : List Mark} (h : ∀ x ∈ l, NumM x) : parse (text l) = some l := by
  unfold parse
  rw [split_text h]
  have e1 : (linesOf l ++ [endOf (checkOf (linesOf l)), []]).length = l.length + 3 := by simp [linesOf]
  have e2 : ((linesOf l ++ [endOf (checkOf (linesOf l)), []]).drop 1).take (l.length + 3 - 3) = l.map lineOf := by
    simp [linesOf]
  simp only
  rw [e1, if_pos (by omega), e2, rows_lines h]
  simp
theorem join_len : ∀ (ls : List Bs), (join ls [10]).length ≤ (ls.map fun a => a.length + 1).sum
  | [] => by simp [join, List.intercalate]
  | [a] => by rw [join_one]; simp
  | a :: b :: r => by
    rw [join_cons]
    have := join_len (b :: r)
    simp only [List.length_append, List.length_singleton, List.map_cons, List.sum_cons] at this ⊢
    omega
theorem sum_le {l : List Mark} (h : ∀ x ∈ l, (lineOf x).length ≤ 15) : (l.map fun x => (lineOf x).length + 1).sum ≤ 16 * l.length := by
  induction l with
  | nil => simp
  | cons x r ih =>
    have h1 := h x (by simp)
    have h2 := ih (fun y hy => h y (by simp [hy]))
    simp only [List.map_cons, List.sum_cons, List.length_cons]
    omega
theorem line_len {x : Mark} (hd : 0 ≤ x.day ∧ x.day ≤ 20000) (hf : 0 ≤ x.far ∧ x.far ≤ 5400) : (lineOf x).length ≤ 15 := by
  have h1 := itoa_len hd.1 4 (by omega)
  have h2 := itoa_len hf.1 3 (by omega)
  have h3 : (wordOf x.full).length ≤ 4 := by cases x.full <;> decide
  simp only [lineOf, List.length_append, List.length_singleton]
  omega
theorem text_len {l : List Mark} (hl : l.length ≤ 20) (hd : ∀ x ∈ l, (0 ≤ x.day ∧ x.day ≤ 20000) ∧ 0 ≤ x.far ∧ x.far ≤ 5400) : (text l).length ≤ 400 := by
  rw [text_parts]
  have h1 := join_len (linesOf l)
  have h2 := sum_le (l := l) (fun x hx => line_len (hd x hx).1 (hd x hx).2)
  have h3 : (headOf l.length).length ≤ 11 := by
    have := itoa_len (n := (l.length : Int)) (by omega) 1 (by omega)
    simp only [headOf, List.length_append, List.length_cons, List.length_nil]
    omega
  have hc := check_bd (linesOf l)
  have h4 : (endOf (checkOf (linesOf l))).length ≤ 7 := by
    have a1 := itoa_len (n := checkOf (linesOf l) / 100) (by omega) 0 (by omega)
    have a2 := itoa_len (n := checkOf (linesOf l) / 10 % 10) (by omega) 0 (by omega)
    have a3 := itoa_len (n := checkOf (linesOf l) % 10) (by omega) 0 (by omega)
    simp only [endOf, List.length_append, List.length_cons, List.length_nil]
    omega
  have h5 : ((linesOf l).map fun a => a.length + 1).sum = (headOf l.length).length + 1 + (l.map fun x => (lineOf x).length + 1).sum := by
    simp [linesOf, List.map_map, Function.comp_def]
  simp only [List.length_append, List.length_cons, List.length_nil]
  omega
theorem list_marks {l : List Mark} (h : isList l = true) : l.length ≤ 20 ∧ ∀ x ∈ l, (1 ≤ x.day ∧ x.day ≤ 20000) ∧ 0 ≤ x.far ∧ x.far ≤ 5400 := by
  rw [isList, Bool.and_eq_true, decide_eq_true_eq, marksTo, List.all_eq_true] at h
  refine ⟨h.2, fun x hx => ?_⟩
  obtain ⟨i, hi⟩ := List.mem_iff_getElem?.1 hx
  have h1 := h.1 i (List.mem_range.2 (List.getElem?_eq_some_iff.1 hi).1)
  rw [okAt_eq hi, Bool.and_eq_true, okMark, Bool.and_eq_true] at h1
  have h2 := h1.1
  simp only [inR, isLimit, Bool.and_eq_true, decide_eq_true_eq] at h2
  exact h2
theorem read_back {l : List Mark} (h : isList l = true) : parse (text l) = some l ∧ (text l).length ≤ 400 := by
  obtain ⟨h1, h2⟩ := list_marks h
  exact ⟨parse_text fun x hx => by have := h2 x hx; unfold NumM; omega, text_len h1 fun x hx => by have := h2 x hx; omega⟩
end Ecl
end
