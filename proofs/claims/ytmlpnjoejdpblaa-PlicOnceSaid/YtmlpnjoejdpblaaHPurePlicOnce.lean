import Derived.Test.YtmlpnjoejdpblaaHSaidPlicOnce
import Derived.Test.YtmlpnjoejdpblaaHZ1
namespace Go.Proofs.Ytmlpnjoejdpblaa.Pure
open Go.RowKit Go.Proofs.Ytmlpnjoejdpblaa.Q Go.Proofs.YtmlpnjoejdpblaaW.PrintWords Go.Proofs.YtmlpnjoejdpblaaW.PrintLast Go.Proofs.YtmlpnjoejdpblaaW.PrintMore Go.Proofs.Ytmlpnjoejdpblaa.L
set_option linter.unusedVariables false
set_option linter.unusedSimpArgs false
set_option linter.unusedSectionVars false
theorem t_off1 : (([0, 2, 4, 6] : List Int).all fun p => ([0, 2, 4, 6] : List Int).all fun c => ([0, 2, 4, 6] : List Int).all fun y => ([0, 2, 4, 6] : List Int).all fun e => !upZ (Go.bits .or .i64 (Go.bits .andNot .i64 p 2) (Go.bits .andNot .i64 y (Go.bits .or .i64 c 2))) e 1) = true := by kernel_rfl
theorem t_off2 : (([0, 2, 4, 6] : List Int).all fun p => ([0, 2, 4, 6] : List Int).all fun c => ([0, 2, 4, 6] : List Int).all fun y => ([0, 2, 4, 6] : List Int).all fun e => !upZ (Go.bits .or .i64 (Go.bits .andNot .i64 p 4) (Go.bits .andNot .i64 y (Go.bits .or .i64 c 4))) e 2) = true := by kernel_rfl
theorem t_on1 : (([0, 2, 4, 6] : List Int).all fun p => ([0, 2, 4, 6] : List Int).all fun c => ([0, 2, 4, 6] : List Int).all fun q => ([0, 2, 4, 6] : List Int).all fun e => !upZ p e 1 || (upZ (Go.bits .or .i64 q (Go.bits .andNot .i64 (Go.bits .and .i64 2 6) (Go.bits .andNot .i64 (Go.bits .or .i64 c 2) (Go.bits .and .i64 2 e)))) e 1 && decide (¬ Go.bits .and .i64 (Go.bits .or .i64 q (Go.bits .andNot .i64 (Go.bits .and .i64 2 6) (Go.bits .andNot .i64 (Go.bits .or .i64 c 2) (Go.bits .and .i64 2 e)))) 2 = 0))) = true := by kernel_rfl
theorem t_on2 : (([0, 2, 4, 6] : List Int).all fun p => ([0, 2, 4, 6] : List Int).all fun c => ([0, 2, 4, 6] : List Int).all fun q => ([0, 2, 4, 6] : List Int).all fun e => !upZ p e 2 || (upZ (Go.bits .or .i64 q (Go.bits .andNot .i64 (Go.bits .and .i64 4 6) (Go.bits .andNot .i64 (Go.bits .or .i64 c 4) (Go.bits .and .i64 4 e)))) e 2 && decide (¬ Go.bits .and .i64 (Go.bits .or .i64 q (Go.bits .andNot .i64 (Go.bits .and .i64 4 6) (Go.bits .andNot .i64 (Go.bits .or .i64 c 4) (Go.bits .and .i64 4 e)))) 4 = 0))) = true := by kernel_rfl
/-- A source and its bit. -/
def src (s t : Int) : Prop := (s = 1 ∧ t = 2) ∨ (s = 2 ∧ t = 4)
theorem up_off {s t p c y e : Int} (hst : src s t) (hp : m6 p) (hc : m6 c) (hy : m6 y) (he : m6 e) : upZ (Go.bits .or .i64 (Go.bits .andNot .i64 p t) (Go.bits .andNot .i64 y (Go.bits .or .i64 c t))) e s = false := by
  rcases hst with ⟨rfl, rfl⟩ | ⟨rfl, rfl⟩
  · have := all4 (all4 (all4 (all4 t_off1 hp) hc) hy) he
    rwa [Bool.not_eq_true'] at this
  · have := all4 (all4 (all4 (all4 t_off2 hp) hc) hy) he
    rwa [Bool.not_eq_true'] at this
theorem up_on {s t p c q e : Int} (hst : src s t) (hp : m6 p) (hc : m6 c) (hq : m6 q) (he : m6 e) (hu : upZ p e s = true) :
    upZ (Go.bits .or .i64 q (Go.bits .andNot .i64 (Go.bits .and .i64 t 6) (Go.bits .andNot .i64 (Go.bits .or .i64 c t) (Go.bits .and .i64 t e)))) e s = true ∧
    ¬ Go.bits .and .i64 (Go.bits .or .i64 q (Go.bits .andNot .i64 (Go.bits .and .i64 t 6) (Go.bits .andNot .i64 (Go.bits .or .i64 c t) (Go.bits .and .i64 t e)))) t = 0 := by
  rcases hst with ⟨rfl, rfl⟩ | ⟨rfl, rfl⟩
  · have := all4 (all4 (all4 (all4 t_on1 hp) hc) hq) he
    rw [hu, Bool.not_true, Bool.false_or, Bool.and_eq_true, decide_eq_true_eq] at this
    exact this
  · have := all4 (all4 (all4 (all4 t_on2 hp) hc) hq) he
    rw [hu, Bool.not_true, Bool.false_or, Bool.and_eq_true, decide_eq_true_eq] at this
    exact this
theorem hit_up {l0 : List Int} {p : Int} {l3 l4 : List Int} {k s b : Int} (h : hitZ l0 p l3 l4 k s b = true) : upZ p (rd l3 k) s = true ∧ rd l0 s > rd l4 k := by
  unfold hitZ at h
  rw [Bool.and_eq_true, Bool.and_eq_true, decide_eq_true_eq] at h
  exact ⟨h.1, h.2.1⟩
theorem best_up {l0 : List Int} {p : Int} {l3 l4 : List Int} {k s t : Int} (hst : src s t) (h : bestZ l0 p l3 l4 k = s) : upZ p (rd l3 k) s = true ∧ rd l0 s > rd l4 k := by
  by_cases h1 : hitZ l0 p l3 l4 k 1 (b2Z l0 p l3 l4 k) = true
  · have e : bestZ l0 p l3 l4 k = 1 := by unfold bestZ; rw [if_pos h1]
    have : s = 1 := by omega
    subst this; exact hit_up h1
  · have e : bestZ l0 p l3 l4 k = b2Z l0 p l3 l4 k := by unfold bestZ; rw [if_neg h1]
    rw [e] at h
    by_cases h2 : hitZ l0 p l3 l4 k 2 0 = true
    · have e2 : b2Z l0 p l3 l4 k = 2 := by unfold b2Z; rw [if_pos h2]
      have : s = 2 := by omega
      subst this; exact hit_up h2
    · have e2 : b2Z l0 p l3 l4 k = 0 := by unfold b2Z; rw [if_neg h2]
      unfold src at hst; omega
theorem best_not0 {l0 : List Int} {p : Int} {l3 l4 : List Int} {k s t : Int} (hst : src s t) (hu : upZ p (rd l3 k) s = true) (hg : rd l0 s > rd l4 k) (h0 : rd l0 s ≥ rd l0 0) : ¬ bestZ l0 p l3 l4 k = 0 := by
  intro h
  have hh : hitZ l0 p l3 l4 k s 0 = true := by unfold hitZ; rw [hu, decide_eq_true hg, decide_eq_true h0]; rfl
  by_cases h1 : hitZ l0 p l3 l4 k 1 (b2Z l0 p l3 l4 k) = true
  · have e : bestZ l0 p l3 l4 k = 1 := by unfold bestZ; rw [if_pos h1]
    omega
  · have e : bestZ l0 p l3 l4 k = b2Z l0 p l3 l4 k := by unfold bestZ; rw [if_neg h1]
    rw [e] at h
    by_cases h2 : hitZ l0 p l3 l4 k 2 0 = true
    · have e2 : b2Z l0 p l3 l4 k = 2 := by unfold b2Z; rw [if_pos h2]
      omega
    · rcases hst with ⟨rfl, _⟩ | ⟨rfl, _⟩
      · rw [h] at h1; exact h1 hh
      · exact h2 hh
section
variable {a b p c e f g h : Int} (ha : s7 a) (hb : s7 b) (hp : m6 p) (hc : m6 c) (he : m6 e) (hf : m6 f) (hg : s7 g) (hh : s7 h)
include ha hb hp hc he hf hg hh
theorem load_claim {k : Int} (hk : k = 0 ∨ k = 1) : plic_Load.f [0, a, b] p c [e, f] [g, h] (IntKind.u64.wrap (2097156 + (IntKind.u64.wrap ((IntKind.u64.wrap (k)) * 4096)))) 4 = claimZ [0, a, b] p c [e, f] [g, h] k := by
  unfold plic_Load.f
  rw [if_pos ⟨check_put ha hb hp hc he hf hg hh, rfl⟩]
  rcases hk with rfl | rfl
  · rw [show IntKind.u64.wrap (2097156 + (IntKind.u64.wrap ((IntKind.u64.wrap (0)) * 4096))) = 2097156 by kernel_rfl]
    rw [if_neg (by decide), if_neg (by decide), if_neg (by decide), if_neg (by decide), if_neg (by decide), if_neg (by decide), if_neg (by decide), if_pos rfl]
  · rw [show IntKind.u64.wrap (2097156 + (IntKind.u64.wrap ((IntKind.u64.wrap (1)) * 4096))) = 2101252 by kernel_rfl]
    rw [if_neg (by decide), if_neg (by decide), if_neg (by decide), if_neg (by decide), if_neg (by decide), if_neg (by decide), if_neg (by decide), if_neg (by decide), if_pos rfl]
theorem store_give {k s t : Int} (hst : src s t) (hk : k = 0 ∨ k = 1) : plic_Store.f [0, a, b] p c [e, f] [g, h] (IntKind.u64.wrap (2097156 + (IntKind.u64.wrap ((IntKind.u64.wrap (k)) * 4096)))) 4 s = some ([0, a, b], p, Go.bits .andNot .i64 c (Go.bits .and .i64 t (rd [e, f] k)), [e, f], [g, h], true) := by
  have hgv : giveZ [0, a, b] p c [e, f] [g, h] k s = some ([0, a, b], p, Go.bits .andNot .i64 c (Go.bits .and .i64 t (rd [e, f] k)), [e, f], [g, h], true) := by
    unfold giveZ
    rcases hst with ⟨rfl, rfl⟩ | ⟨rfl, rfl⟩
    · rw [show IntKind.u32.wrap 1 = 1 by kernel_rfl, if_pos rfl]
    · rw [show IntKind.u32.wrap 2 = 2 by kernel_rfl, if_neg (by decide), if_pos rfl]
  rw [← hgv]
  unfold plic_Store.f
  rw [if_pos ⟨check_put ha hb hp hc he hf hg hh, rfl⟩]
  rcases hk with rfl | rfl
  · rw [show IntKind.u64.wrap (2097156 + (IntKind.u64.wrap ((IntKind.u64.wrap (0)) * 4096))) = 2097156 by kernel_rfl]
    rw [if_neg (by decide), if_neg (by decide), if_neg (by decide), if_neg (by decide), if_neg (by decide), if_neg (by decide), if_neg (by decide), if_pos rfl]
  · rw [show IntKind.u64.wrap (2097156 + (IntKind.u64.wrap ((IntKind.u64.wrap (1)) * 4096))) = 2101252 by kernel_rfl]
    rw [if_neg (by decide), if_neg (by decide), if_neg (by decide), if_neg (by decide), if_neg (by decide), if_neg (by decide), if_neg (by decide), if_neg (by decide), if_pos rfl]
theorem once_hit {k x m s t : Int} (hst : src s t) (hk : k = 0 ∨ k = 1) (hm : m = 0 ∨ m = 1) (hbest : bestZ [0, a, b] p [e, f] [g, h] k = s) :
    drawbridgelaw10_PlicOnce.j1 19 k x m s (wrap64 s != s) [0, a, b] p c [e, f] [g, h] [0, a, b] (Go.bits .andNot .i64 p t) (Go.bits .or .i64 c t) [e, f] [g, h] = some true := by
  have mt : m6 t := by rcases hst with ⟨_, rfl⟩ | ⟨_, rfl⟩; exact m6_2; exact m6_4
  have hw : wrap64 s = s := by rcases hst with ⟨rfl, _⟩ | ⟨rfl, _⟩ <;> kernel_rfl
  have hs0 : ¬ s = 0 := by unfold src at hst; omega
  have hsl : shl .i64 1 s = t := by rcases hst with ⟨rfl, rfl⟩ | ⟨rfl, rfl⟩ <;> kernel_rfl
  have mE := rd_or he hf hk
  have mF := rd_or he hf hm
  have mP := (m6_all hp mt).1
  have mC := (m6_all hc mt).2.1
  have mQ := set_m6 ha hb mP mC he hf hg hh x
  have hoff := up_off hst hp hc (and6 x) mF
  obtain ⟨hu, hgt⟩ := best_up hst hbest
  have hne : ¬ bestZ [0, a, b] (Go.bits .or .i64 (Go.bits .andNot .i64 p t) (Go.bits .andNot .i64 (Go.bits .and .i64 x 6) (Go.bits .or .i64 c t))) [e, f] [g, h] m = s := by
    intro hx
    have := (best_up hst hx).1
    rw [hoff] at this; cases this
  have mD := (m6_all mC (m6_all mt mE).2.2).1
  obtain ⟨hon, hbit⟩ := up_on hst hp hc mQ mE hu
  have mR := set_m6 ha hb mQ mD he hf hg hh t
  have hB1 : plic_Best.f 18 _ _ _ _ _ m = _ := best_is [0, a, b] (Go.bits .or .i64 (Go.bits .andNot .i64 p t) (Go.bits .andNot .i64 (Go.bits .and .i64 x 6) (Go.bits .or .i64 c t))) (Go.bits .or .i64 c t) [e, f] [g, h] m 14 (check_put ha hb mQ mC he hf hg hh) hm
  have hB2 : plic_Best.f 17 _ _ _ _ _ k = _ := best_is [0, a, b] _ _ [e, f] [g, h] k 13 (check_put ha hb mR mD he hf hg hh) hk
  have h40 : 0 ≤ rd [g, h] k := by rcases hk with rfl | rfl; exact hg.1; exact hh.1
  have h00 : rd [0, a, b] 0 = 0 := rfl
  have hn0 := best_not0 hst hon hgt (by omega)
  have hck1 : plic_Check.f [0, a, b] (Go.bits .or .i64 (Go.bits .andNot .i64 p t) (Go.bits .andNot .i64 (Go.bits .and .i64 x 6) (Go.bits .or .i64 c t))) (Go.bits .or .i64 c t) [e, f] [g, h] = some true := congrArg some (check_put ha hb mQ mC he hf hg hh)
  rw [show (19 : Nat) = 18 + 1 from rfl, drawbridgelaw10_PlicOnce.j1, hw, if_neg (by simp), if_neg hs0, set_is ha hb mP mC he hf hg hh x, Option.bind_some]
  dsimp only
  rw [hB1, Option.bind_some, if_neg hne, hck1, Option.bind_some]
  rw [show (18 : Nat) = 17 + 1 from rfl, drawbridgelaw10_PlicOnce.j2, if_neg (by decide), store_give ha hb mQ mC he hf hg hh hst hk, Option.bind_some]
  dsimp only
  rw [if_pos (by unfold src at hst; omega), hsl, set_is ha hb mQ mD he hf hg hh t, Option.bind_some]
  dsimp only
  rw [if_pos rfl, hB2, Option.bind_some, if_neg hn0, if_neg hbit]
  rfl
theorem once_core {k x m : Int} (hk : k = 0 ∨ k = 1) (hm : m = 0 ∨ m = 1) : drawbridgelaw10_PlicOnce.j0 20 k x m false [0, a, b] p c [e, f] [g, h] = some true := by
  have hck := check_put ha hb hp hc he hf hg hh
  have hS : plic_Best.f 19 _ _ _ _ _ k = _ := best_is [0, a, b] p c [e, f] [g, h] k 15 hck hk
  rw [show (20 : Nat) = 19 + 1 from rfl, drawbridgelaw10_PlicOnce.j0, if_neg (by decide), load_claim ha hb hp hc he hf hg hh hk]
  rcases best_cases [0, a, b] p [e, f] [g, h] k with h0 | h1 | h2
  · rw [claimZ, if_pos h0, Option.bind_some]
    dsimp only
    rw [if_pos rfl, hS, Option.bind_some, h0, show (wrap64 0 != 0) = false by kernel_rfl, show (19 : Nat) = 18 + 1 from rfl, drawbridgelaw10_PlicOnce.j1, if_neg (by decide), if_pos rfl,
      same_refl 18 [0, a, b] p c [e, f] [g, h] (by show 3 ≤ 9223372036854775807; decide) (by show 2 ≤ 9223372036854775807; decide) (by show 2 ≤ 9223372036854775807; decide) (by show 3 < 18; decide) (by show 2 < 18; decide) (by show 2 < 18; decide), Option.bind_some, if_pos rfl]
    rfl
  · rw [claimZ, if_neg (by omega), if_pos h1, Option.bind_some]
    dsimp only
    rw [if_pos rfl, hS, Option.bind_some, h1]
    exact once_hit ha hb hp hc he hf hg hh (.inl ⟨rfl, rfl⟩) hk hm h1
  · rw [claimZ, if_neg (by omega), if_neg (by omega), Option.bind_some]
    dsimp only
    rw [if_pos rfl, hS, Option.bind_some, h2]
    exact once_hit ha hb hp hc he hf hg hh (.inr ⟨rfl, rfl⟩) hk hm h2
end
theorem PlicOnce : PlicOnce.Said := by
  intro l0 p c l3 l4 k x m hl0 w0 wp wc hl3 w3 hl4 w4 wk wx wm
  refine ⟨20, ?_⟩
  have hset : drawbridgelaw10_PlicOnce.j0 20 k x m true l0 p c l3 l4 = some true := by
    rw [show (20 : Nat) = 19 + 1 from rfl, drawbridgelaw10_PlicOnce.j0, if_pos rfl]; rfl
  unfold drawbridgelaw10_PlicOnce.f plic_Check.f
  rw [Option.bind_some]
  by_cases hck : checkZ l0 p c l3 l4 = true
  · obtain ⟨a, b, e, f, g, h, rfl, rfl, rfl, ha, hb, hp, hc, he, hf, hg, hh⟩ := check_get hck (wf_R wp) (wf_R wc) (fun z hz => wf_R (w3 z hz))
    rw [if_pos hck]
    by_cases h1 : k < 0
    · rw [if_pos h1, hset]
    rw [if_neg h1]
    by_cases h2 : k > 1
    · rw [if_pos h2, hset]
    rw [if_neg h2]
    by_cases h3 : m < 0
    · rw [if_pos h3, hset]
    rw [if_neg h3]
    by_cases h4 : m > 1
    · rw [decide_eq_true h4, hset]
    rw [decide_eq_false h4]
    exact once_core ha hb hp hc he hf hg hh (by omega) (by omega)
  · rw [if_neg hck, hset]
end Go.Proofs.Ytmlpnjoejdpblaa.Pure
