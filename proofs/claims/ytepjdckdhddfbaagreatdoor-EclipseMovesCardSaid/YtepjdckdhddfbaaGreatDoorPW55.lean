import Derived.Test.YtepjdckdhddfbaaGreatDoorProg
import Derived.Test.YtepjdckdhddfbaaGreatDoorPFa
import Derived.Test.YtepjdckdhddfbaaGreatDoorPQb
import Derived.Test.YtepjdckdhddfbaaGreatDoorPW51
import Derived.Test.YtepjdckdhddfbaaGreatDoorPQa
import Derived.Test.YtepjdckdhddfbaaGreatDoorPBa
set_option linter.unusedVariables false
set_option linter.unusedSimpArgs false
set_option maxRecDepth 4000
namespace Go.Proofs.Ec
open Go.RowKit Go.Proofs.Sx
open Ecl
theorem ap37_W55 : apT Tryz.prog 37 = some (51, 3, 24) := by kernel_rfl
theorem putB {l : List Ball} {d : Ball} {q : Int} (h1 : q.toNat < l.length) : putL ([] ++ l.flatMap encL) (0 + q.toNat * 3) (encL d) = (l.set q.toNat d).flatMap encL := by
 rw [List.nil_append, Nat.zero_add]
 exact putL_flat q.toNat (fun _ _ => rfl) rfl h1
theorem one_encL : ∀ y : Ball, ∀ u ∈ encL y, u.oneCell' = true := by
 intro y u hu
 simp only [encL, List.mem_cons, List.not_mem_nil, or_false] at hu
 rcases hu with rfl | rfl | rfl <;> rfl
theorem Put_R (s : SV) (l : List Ball) (q : Int) (d1 : Ball) (w : World) (hR : Rd w encL 3 s.v l) (h0 : 0 ≤ q) (h1 : q.toNat < l.length) (hl : l.length ≤ 8) : Ret Tryz.prog 28 #[s.v, .int .i64 q, .agg #[.int .i64 d1.x, .int .i64 d1.y, .int .i64 d1.r]] w fun u w' => (∃ s' : SV, u = s'.v ∧ Fr w w' encL 3 s'.v (l.set q.toNat d1)) ∧ Below w.heap.size w w' := by
 have hfit := hR.fits
 obtain ⟨cp, hcp⟩ := hR.slice h1
 have hp : Hp c0 w w [] := Hp.start trivial
 refine enter Tryz.func28 rfl (N := 15) rfl rfl fun a h => ?_
 refine rg ?_
 refine wl (box (cs := #[_, _, _]) h hp rfl rfl fun a w1 g1 hg1 h hp => ?_)
 refine wsn h rfl fun a h => ?_
 refine rg ?_
 refine wmv h rfl fun a h => ?_
 have hp := hp.nilB 51 3
 refine wl (appR 1 h hp rfl rfl rfl ap37_W55 (hR.keep (by decide) hp cl0) hcp one_encL (by omega) (by omega) fun a w91 r9 h hp => ?_)
 obtain ⟨g9, cap9, hv9⟩ := hp.bufAt (i := 1) rfl (by omega)
 rw [hv9] at h hp
 refine wsn h rfl fun a h => ?_
 refine rg ?_
 refine wm2 h rfl rfl rfl rfl fun a h => ?_
 refine wvl h (ldO (us := [_, _, _]) h hp rfl 0 rfl sz51 rfl ag51) fun a h => ?_
 refine wvl h (iad h rfl rfl Tryz.underlying37 sz51 (by omega) (by omega)) fun a h => ?_
 refine wl (stB h hp rfl rfl 1 rfl sz51 (by show 0 + q.toNat * 3 + 3 ≤ (0 + l.length) * 3; omega) rfl fun w92 hp => ?_)
 refine wn ?_
 refine rg ?_
 refine wmv h rfl fun a h => ?_
 refine wsn h rfl fun a h => ?_
 refine wp_ret ?_
 try simp only [xqs]
 refine rt_1 h rfl (rvT h rfl) ?_
 exact ⟨_, rfl, ⟨⟨some ⟨g9, 0, none⟩, 0 + l.length, cap9⟩, rfl, hp.frB (i := 1) rfl (putB h1) (by rw [List.length_set, Nat.zero_add]) (fun _ _ => rfl)⟩, hp.bel⟩
end Go.Proofs.Ec
