import Derived.Test.YtepjdckdhddfbaaGreatDoorProg
import Derived.Test.YtepjdckdhddfbaaGreatDoorPFa
import Derived.Test.YtepjdckdhddfbaaGreatDoorPQb
import Derived.Test.YtepjdckdhddfbaaGreatDoorPW13
set_option linter.unusedVariables false
set_option linter.unusedSimpArgs false
set_option maxRecDepth 4000
namespace Go.Proofs.Ec
open Go.RowKit Go.Proofs.Sx
open Ecl
abbrev frS (x : EV) (e : Eng) (d1 d2 lt : Int) (ge gs ga gb gl gt : Nat) (pool : PL) (al : SV) (ps : PL) : HL := [rdsE pool, .blk ge (.cells #[x.b.v, .int .i64 e.nnum, .int .i64 e.nden, .int .i64 e.nstart, x.s.v, x.m.v, x.n.v, x.f.v, .int .i64 e.new, .int .i64 e.full, .int .i64 e.wide] 76 (0, 0)), .blk gs (.cells #[.func (.func 79) #[] #[.pointer (some ⟨ge, 0, none⟩), .pointer (some ⟨gs, 0, none⟩), .pointer (some ⟨ga, 0, none⟩), .pointer (some ⟨gb, 0, none⟩), .pointer (some ⟨gl, 0, none⟩), .pointer (some ⟨gt, 0, none⟩)]] 126 (0, 0)), .blk ga (.cells #[.int .i64 d1] 3 (0, 0)), .blk gb (.cells #[.int .i64 d2] 3 (0, 0)), .blk gl (.cells #[.int .i64 lt] 3 (0, 0)), .blk gt (.cells #[al.v] 125 (0, 0)), .buf 74 1 al.v ps.length (ps.flatMap encS)]
def SrS (x : EV) (e : Eng) (d1 d2 lt : Int) (w0 : World) (ge gs ga gb gl gt n : Nat) : Prop := ∀ (nx : Int) (s : SV) (l : List Int) (pool ps : PL) (al : SV) (w : World), nx + n = e.feasts.length → (l.length : Int) ≤ nx → (s, l) ∈ pool → (∀ p ∈ ps, p ∈ pool) → (∀ r ∈ sets n nx, isSet e (l ++ r) = true) → ps.length + 2 ^ n ≤ 1000 → Hp c0 w0 w (frS x e d1 d2 lt ge gs ga gb gl gt pool al ps) →
 Ret Tryz.prog 79 #[s.v, .int .i64 nx, .pointer (some ⟨ge, 0, none⟩), .pointer (some ⟨gs, 0, none⟩), .pointer (some ⟨ga, 0, none⟩), .pointer (some ⟨gb, 0, none⟩), .pointer (some ⟨gl, 0, none⟩), .pointer (some ⟨gt, 0, none⟩)] w fun u w' => u = .tuple #[] ∧ ∃ (pool' ps' : PL) (al' : SV), (∀ p ∈ pool, p ∈ pool') ∧ (∀ p ∈ ps', p ∈ pool') ∧ ps'.map (·.2) = ps.map (·.2) ++ ((sets n nx).map (l ++ ·)).filter (fun s => (missed e s d1 d2 lt).isEmpty) ∧ Hp c0 w0 w' (frS x e d1 d2 lt ge gs ga gb gl gt pool' al' ps')
theorem search_leaf {w0 : World} (x : EV) (e : Eng) (d1 d2 lt : Int) (ge gs ga gb gl gt : Nat) (nx : Int) (s : SV) (l : List Int) (pool ps : PL) (al : SV) (w : World) (hG : RdG w0 x e) (hok : isEngine e = true) (hsp : (isSpan d1 d2 && isLate lt) = true) (hl : (l.length : Int) ≤ nx) (hm : (s, l) ∈ pool) (hq : ∀ p ∈ ps, p ∈ pool) (hn : nx = e.feasts.length) (hset : isSet e l = true) (hc : ps.length ≤ 1000) (hp : Hp c0 w0 w (frS x e d1 d2 lt ge gs ga gb gl gt pool al ps)) : Ret Tryz.prog 79 #[s.v, .int .i64 nx, .pointer (some ⟨ge, 0, none⟩), .pointer (some ⟨gs, 0, none⟩), .pointer (some ⟨ga, 0, none⟩), .pointer (some ⟨gb, 0, none⟩), .pointer (some ⟨gl, 0, none⟩), .pointer (some ⟨gt, 0, none⟩)] w fun u w' => u = .tuple #[] ∧ ∃ (pool' ps' : PL) (al' : SV), (∀ p ∈ pool, p ∈ pool') ∧ (∀ p ∈ ps', p ∈ pool') ∧ ps'.map (·.2) = ps.map (·.2) ++ ((sets 0 nx).map (l ++ ·)).filter (fun s => (missed e s d1 d2 lt).isEmpty) ∧ Hp c0 w0 w' (frS x e d1 d2 lt ge gs ga gb gl gt pool' al' ps') := by
 have hd := hsp
 simp only [isSpan, isLate, inR, Bool.and_eq_true, decide_eq_true_eq] at hd
 refine enter Tryz.func79 rfl (N := 52) rfl rfl fun a h => ?_
 refine wp_seq ?_
 refine rg ?_
 refine wmv h rfl fun a h => ?_
 refine wvl h (fad h rfl fo76_4) fun a h => ?_
 refine wvl h (ldo h hp rfl 1 rfl rfl ag74) fun a h => ?_
 refine wvl h (lenR h rfl Tryz.underlying74 (hG.keep hp cl0).f) fun a h => ?_
 refine wvl h (lss h rfl rfl) fun a h => ?_
 refine wn ?_
 refine cnd1 h rfl (fun hb1 => ?_) (fun hb1 => ?_)
 ·exact absurd (of_decide_eq_true hb1) (by omega)
 refine skp ?_
 refine rg ?_
 refine wvl h (ldO (us := [_, _, _, _, _, _, _, _, _, _, _]) h hp rfl 1 rfl sz76 rfl ag76) fun a h => ?_
 refine wmv h rfl fun a h => ?_
 refine wl (cal h rfl en62 (asked_s x e s l _ _ ⟨hG.keep hp cl0, Hp.poolR hp (i := 0) rfl hm, hok, hset⟩ rfl) fun u w1 ⟨⟨b9, e1, hb9, hm9⟩, e2⟩ a h => ?_)
 subst e1
 have hp := hp.keepF (hp.below e2) (F := mapAt (hE e l) b9) (D := fun k => k = b9) (fun w1 w2 hs ⟨es, cl, h1, h2⟩ => ⟨es, cl, (hs _ rfl).trans h1, h2⟩) hm9 (by rintro k rfl; exact ⟨hb9, hm9.lt⟩)
 refine wmv h rfl fun a h => ?_
 refine wvl h (ext h rfl rfl) fun a h => ?_
 refine wvl h (ext h rfl rfl) fun a h => ?_
 refine wl (all h hp zc105 fun a w2 g1 hg1 h hp => ?_)
 refine wl (sta h hp rfl rfl 9 rfl sz105 rfl rfl fun w3 hp => ?_)
 refine wsn h rfl fun a h => ?_
 refine rg ?_
 obtain ⟨hp, hb8⟩ := Hp.toM (hp.pick [8, 0, 1, 2, 3, 4, 5, 6, 7, 9] (by decide) rfl)
 have hcl : Cl (cM (hE e l) b9) w0 := clN hb8
 refine wmv h rfl fun a h => ?_
 refine wvl h (eqi h rfl rfl) fun a h => ?_
 refine wmv h rfl fun a h => ?_
 refine split (t := 39) h rfl (fun hb2 => ?_) (fun hb2 => ?_)
 ·refine wl (stp_on h rfl rfl rfl hb2 (vl h (ldO (us := [_, _, _, _, _, _, _, _, _, _, _, _, _]) h hp rfl 8 rfl sz105 rfl ag105) fun a h => ?_))
  refine wl (stp_on h rfl rfl rfl hb2 (vl h (ldo h hp rfl 3 rfl rfl ag3) fun a h => ?_))
  refine wl (stp_on h rfl rfl rfl hb2 (vl h (ldo h hp rfl 4 rfl rfl ag3) fun a h => ?_))
  refine wl (stp_on h rfl rfl rfl hb2 (vl h (ldo h hp rfl 5 rfl rfl ag3) fun a h => ?_))
  refine wl (stp_on h rfl rfl rfl hb2 (cal h rfl en72 (missed_e x e s l b9 _ _ _ _ ⟨hG.keep hp hcl, Hp.poolR hp (i := 0) rfl hm, hok, hset⟩ hp.inv (by omega) (by omega)) fun u w4 ⟨⟨s29, e1, hf⟩, e2, e3⟩ a h => ?_))
  subst e1
  have hp := hp.got (hp.grow e2 e3) (by decide) hf
  refine wl (stp_on h rfl rfl rfl hb2 (vl h (lenR h rfl Tryz.underlying22 (hp.rdF (i := 9) rfl)) fun a h => ?_))
  refine wl (stp_on h rfl rfl rfl hb2 (vl h (eqi h rfl rfl) fun a h => ?_))
  refine wvl h (pckT h rfl hb2 rfl) fun a h => ?_
  refine wn ?_
  refine cnd1 h rfl (fun hb3 => ?_) (fun hb3 => ?_)
  ·have hms : (missed e l d1 d2 lt).isEmpty = true := by rw [← missed_max hd.1.1.1.1, ← len0]; exact hb3
   have hp := Hp.toC0 hp hb8
   refine rg1 ?_
   refine wvl h (ldo h hp rfl 6 rfl rfl ag125) fun a h => ?_
   refine wmv h rfl fun a h => ?_
   refine wl (bsl h hp rfl (bs125_1_0 _ _ _) fun a w5 g2 hg2 h hp => ?_)
   refine wl (app1 7 h hp rfl rfl rfl ap125 10 rfl rfl rfl (by omega) (by omega) fun a w6 v h hp => ?_)
   refine wl (st1 h hp rfl rfl 6 rfl rfl sz125 rfl fun w7 hp => ?_)
   refine wn' ?_
   try simp only [xqs, ↓reduceIte, Nat.reduceEqDiff]
   refine rt0 h rfl ?_
   exact ⟨_, rfl, rfl, pool, ps ++ [(s, l)], v, fun p h => h, fun p hp => (List.mem_append.1 hp).elim (hq p) (fun h => by rw [List.mem_singleton.1 h]; exact hm), by simp [sets, hms], hp.pre 8 (by simp [encS, nth]; rfl)⟩
  have hms : (missed e l d1 d2 lt).isEmpty = false := by rw [← missed_max hd.1.1.1.1, ← len0]; exact hb3
  have hp := Hp.toC0 hp hb8
  refine wp_skip ?_
  refine rt0 h rfl ?_
  exact ⟨_, rfl, rfl, pool, ps, al, fun p h => h, hq, by simp [sets, hms], hp.pre 8 rfl⟩
 exact absurd hb2 (by decide)
theorem search_go {w0 : World} (x : EV) (e : Eng) (d1 d2 lt : Int) (ge gs ga gb gl gt : Nat) (n : Nat) (nx : Int) (s : SV) (l : List Int) (pool ps : PL) (al : SV) (w : World) (hG : RdG w0 x e) (hok : isEngine e = true) (hsp : (isSpan d1 d2 && isLate lt) = true) (hl : (l.length : Int) ≤ nx) (hm : (s, l) ∈ pool) (hq : ∀ p ∈ ps, p ∈ pool) (ih : SrS x e d1 d2 lt w0 ge gs ga gb gl gt n) (hn : nx + ((n + 1 : Nat) : Int) = e.feasts.length) (hset : ∀ r ∈ sets (n + 1) nx, isSet e (l ++ r) = true) (hc : ps.length + 2 ^ (n + 1) ≤ 1000) (hp : Hp c0 w0 w (frS x e d1 d2 lt ge gs ga gb gl gt pool al ps)) : Ret Tryz.prog 79 #[s.v, .int .i64 nx, .pointer (some ⟨ge, 0, none⟩), .pointer (some ⟨gs, 0, none⟩), .pointer (some ⟨ga, 0, none⟩), .pointer (some ⟨gb, 0, none⟩), .pointer (some ⟨gl, 0, none⟩), .pointer (some ⟨gt, 0, none⟩)] w fun u w' => u = .tuple #[] ∧ ∃ (pool' ps' : PL) (al' : SV), (∀ p ∈ pool, p ∈ pool') ∧ (∀ p ∈ ps', p ∈ pool') ∧ ps'.map (·.2) = ps.map (·.2) ++ ((sets (n + 1) nx).map (l ++ ·)).filter (fun s => (missed e s d1 d2 lt).isEmpty) ∧ Hp c0 w0 w' (frS x e d1 d2 lt ge gs ga gb gl gt pool' al' ps') := by
 have ok := eng_ok hok
 have hf8 : e.feasts.length ≤ 8 := by have := ok.feasts; simp only [Bool.and_eq_true, decide_eq_true_eq] at this; exact this.2
 have hpw : 2 ^ (n + 1) = 2 ^ n + 2 ^ n := by omega
 have hpw0 : 0 < 2 ^ n := Nat.pow_pos (by decide)
 refine enter Tryz.func79 rfl (N := 52) rfl rfl fun a h => ?_
 refine wp_seq ?_
 refine rg ?_
 refine wmv h rfl fun a h => ?_
 refine wvl h (fad h rfl fo76_4) fun a h => ?_
 refine wvl h (ldo h hp rfl 1 rfl rfl ag74) fun a h => ?_
 refine wvl h (lenR h rfl Tryz.underlying74 (hG.keep hp cl0).f) fun a h => ?_
 refine wvl h (lss h rfl rfl) fun a h => ?_
 refine wn ?_
 refine cnd1 h rfl (fun hb1 => ?_) (fun hb1 => ?_)
 ·refine rdh (n := 9) ((hp).pick [1, 2, 3, 4, 5] (by decide) rfl) mixed rfl ?_
  have hp := hp.drew
  refine tkq 0 h rfl ((hp).pick [1, 2, 3, 4, 5] (by decide) rfl) (fun W hp => ldo h hp rfl 1 rfl rfl ag126) fun a h => ?_
  refine tkm 1 h rfl ((hp).pick [1, 2, 3, 4, 5] (by decide) rfl) rfl fun a h => ?_
  refine tkm 3 h rfl ((hp).pick [1, 2, 3, 4, 5] (by decide) rfl) rfl fun a h => ?_
  refine tkm 6 h rfl ((hp).pick [1, 2, 3, 4, 5] (by decide) rfl) rfl fun a h => ?_
  refine tkq 7 h rfl ((hp).pick [1, 2, 3, 4, 5] (by decide) rfl) (fun W _ => add h rfl rfl (by omega)) fun a h => ?_
  refine two 2 4 (by kernel_rfl) rfl rfl ?_ ?_
  ·refine (cal h rfl en80 (clone s l _ (Hp.poolR hp (i := 0) rfl hm) (by omega)) fun u w1 ⟨⟨s8, e1, ho⟩, e2⟩ a h => ⟨((hp.below e2).pick [1, 2, 3, 4, 5] (by decide) rfl), ?_⟩)
   subst e1
   have hp := hp.gotB (hp.below e2) ho
   refine one 4 (by kernel_rfl) rfl (bsl h hp rfl (bs74_1_0 _) fun a w2 g1 hg1 h hp => ⟨((hp).pick [1, 2, 3, 4, 5] (by decide) rfl), ?_⟩)
   refine one 5 (by kernel_rfl) rfl (app1 8 h hp rfl rfl rfl ap74 9 rfl rfl rfl (by omega) (by omega) fun a w3 v h hp => ⟨((hp).pick [1, 2, 3, 4, 5] (by decide) rfl), ?_⟩)
   refine one 8 (by kernel_rfl) rfl (calv h rfl rfl en79 (ih (nx + 1) v (l ++ [nx]) ((v, l ++ [nx]) :: pool) ps al _ (by omega) (by rw [List.length_append]; simp; omega) List.mem_cons_self (fun p h => List.mem_cons_of_mem _ (hq p h)) (sets_in1 (p := fun s => isSet e s = true) hset) (by omega) (Hp.intoPool (hp.pick [8, 0, 1, 2, 3, 4, 5, 6, 7] (by decide) rfl) (by simp [encI]) (by simp))) fun u w4 ⟨e1, pool1, ps1, all1, hm1, hq1, he1, hp⟩ a h => ⟨((hp).pick [1, 2, 3, 4, 5] (by decide) rfl), ?_⟩)
   subst e1
   have hc1 := sets_cnt he1
   have hm2 : (s, l) ∈ pool1 := hm1 _ (List.mem_cons_of_mem _ hm)
   refine dn (by kernel_rfl) ?_
   refine rg ?_
   refine wvl h (ldo h hp rfl 2 rfl rfl ag126) fun a h => ?_
   refine wm2 h rfl rfl rfl rfl fun a h => ?_
   refine wvl h (add h rfl rfl (by omega)) fun a h => ?_
   refine wl (calv h rfl rfl en79 (ih (nx + 1) s l pool1 ps1 all1 _ (by omega) (by omega) hm2 hq1 (sets_in2 (p := fun s => isSet e s = true) hset) (by omega) hp) fun u w5 ⟨e1, pool2, ps2, all2, hm3, hq2, he2, hp⟩ a h => ?_)
   subst e1
   refine wn ?_
   refine wp_ret ?_
   try simp only [xqs]
   refine rt0' h rfl ?_
   exact ⟨_, rfl, rfl, pool2, ps2, all2, fun p h => hm3 p (hm1 p (List.mem_cons_of_mem _ h)), hq2, by rw [he2, he1, sets_go, List.filter_append, List.append_assoc], hp⟩
  refine (bsl h hp rfl (bs74_1_0 _) fun a w6 g2 hg2 h hp => ⟨((hp).pick [1, 2, 3, 4, 5] (by decide) rfl), ?_⟩)
  refine one 2 (by kernel_rfl) rfl (cal h rfl en80 (clone s l _ (Hp.poolR hp (i := 0) rfl hm) (by omega)) fun u w7 ⟨⟨s8, e1, ho⟩, e2⟩ a h => ⟨((hp.below e2).pick [1, 2, 3, 4, 5] (by decide) rfl), ?_⟩)
  subst e1
  have hp := hp.gotB (hp.below e2) ho
  refine one 5 (by kernel_rfl) rfl (app1 9 h hp rfl rfl rfl ap74 8 rfl rfl rfl (by omega) (by omega) fun a w8 v h hp => ⟨((hp).pick [1, 2, 3, 4, 5] (by decide) rfl), ?_⟩)
  refine one 8 (by kernel_rfl) rfl (calv h rfl rfl en79 (ih (nx + 1) v (l ++ [nx]) ((v, l ++ [nx]) :: pool) ps al _ (by omega) (by rw [List.length_append]; simp; omega) List.mem_cons_self (fun p h => List.mem_cons_of_mem _ (hq p h)) (sets_in1 (p := fun s => isSet e s = true) hset) (by omega) (Hp.intoPool (hp.pick [9, 0, 1, 2, 3, 4, 5, 6, 7] (by decide) rfl) (by simp [encI]) (by simp))) fun u w9 ⟨e1, pool1, ps1, all1, hm1, hq1, he1, hp⟩ a h => ⟨((hp).pick [1, 2, 3, 4, 5] (by decide) rfl), ?_⟩)
  subst e1
  have hc1 := sets_cnt he1
  have hm2 : (s, l) ∈ pool1 := hm1 _ (List.mem_cons_of_mem _ hm)
  refine dn (by kernel_rfl) ?_
  refine rg ?_
  refine wvl h (ldo h hp rfl 2 rfl rfl ag126) fun a h => ?_
  refine wm2 h rfl rfl rfl rfl fun a h => ?_
  refine wvl h (add h rfl rfl (by omega)) fun a h => ?_
  refine wl (calv h rfl rfl en79 (ih (nx + 1) s l pool1 ps1 all1 _ (by omega) (by omega) hm2 hq1 (sets_in2 (p := fun s => isSet e s = true) hset) (by omega) hp) fun u w10 ⟨e1, pool2, ps2, all2, hm3, hq2, he2, hp⟩ a h => ?_)
  subst e1
  refine wn ?_
  refine wp_ret ?_
  try simp only [xqs]
  refine rt0' h rfl ?_
  exact ⟨_, rfl, rfl, pool2, ps2, all2, fun p h => hm3 p (hm1 p (List.mem_cons_of_mem _ h)), hq2, by rw [he2, he1, sets_go, List.filter_append, List.append_assoc], hp⟩
 exact absurd (of_decide_eq_false hb1) (by omega)
theorem search (x : EV) (e : Eng) (d1 d2 lt : Int) (w0 : World) (ge gs ga gb gl gt : Nat) (hG : RdG w0 x e) (hok : isEngine e = true) (hsp : (isSpan d1 d2 && isLate lt) = true) : ∀ n, SrS x e d1 d2 lt w0 ge gs ga gb gl gt n
 | 0 => fun nx s l pool ps al w hn hl hm hq hset hc hp => search_leaf x e d1 d2 lt ge gs ga gb gl gt nx s l pool ps al w hG hok hsp hl hm hq (by omega) (by have := hset [] (by simp [sets]); rwa [List.append_nil] at this) (by omega) hp
 | n + 1 => fun nx s l pool ps al w hn hl hm hq hset hc hp => search_go x e d1 d2 lt ge gs ga gb gl gt n nx s l pool ps al w hG hok hsp hl hm hq (search x e d1 d2 lt w0 ge gs ga gb gl gt hG hok hsp n) hn hset hc hp
end Go.Proofs.Ec
