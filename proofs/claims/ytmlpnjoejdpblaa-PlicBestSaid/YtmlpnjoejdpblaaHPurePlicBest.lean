import Derived.Test.YtmlpnjoejdpblaaHSaidPlicBest
import Derived.Test.YtmlpnjoejdpblaaHZ1
namespace Go.Proofs.Ytmlpnjoejdpblaa.Pure
open Go.RowKit Go.Proofs.Ytmlpnjoejdpblaa.Q Go.Proofs.YtmlpnjoejdpblaaW.PrintWords Go.Proofs.YtmlpnjoejdpblaaW.PrintLast Go.Proofs.YtmlpnjoejdpblaaW.PrintMore Go.Proofs.Ytmlpnjoejdpblaa.L
set_option linter.unusedVariables false
set_option linter.unusedSimpArgs false
set_option linter.unusedSectionVars false
/-- A source and its bit. -/
def src (s t : Int) : Prop := (s = 1 ∧ t = 2) ∨ (s = 2 ∧ t = 4)
theorem hit_up {l0 : List Int} {p : Int} {l3 l4 : List Int} {k s b : Int} (h : hitZ l0 p l3 l4 k s b = true) : upZ p (rd l3 k) s = true ∧ rd l0 s > rd l4 k := by
  unfold hitZ at h
  rw [Bool.and_eq_true, Bool.and_eq_true, decide_eq_true_eq] at h
  exact ⟨h.1, h.2.1⟩
theorem best_up {l0 : List Int} {p : Int} {l3 l4 : List Int} {k s t : Int} (hst : src s t) (h : bestZ l0 p l3 l4 k = s) : upZ p (rd l3 k) s = true ∧ rd l0 s > rd l4 k := by
  by_cases h1 : hitZ l0 p l3 l4 k 1 (b2Z l0 p l3 l4 k) = true
  · have e : bestZ l0 p l3 l4 k = 1 := by unfold bestZ; rw [if_pos h1]
    have : s = 1 := by omega
    subst this; exact hit_up h1
  · have e : bestZ l0 p l3 l4 k = b2Z l0 p l3 l4 k := by unfold bestZ; rw [if_neg h1]
    rw [e] at h
    by_cases h2 : hitZ l0 p l3 l4 k 2 0 = true
    · have e2 : b2Z l0 p l3 l4 k = 2 := by unfold b2Z; rw [if_pos h2]
      have : s = 2 := by omega
      subst this; exact hit_up h2
    · have e2 : b2Z l0 p l3 l4 k = 0 := by unfold b2Z; rw [if_neg h2]
      unfold src at hst; omega
theorem best_not0 {l0 : List Int} {p : Int} {l3 l4 : List Int} {k s t : Int} (hst : src s t) (hu : upZ p (rd l3 k) s = true) (hg : rd l0 s > rd l4 k) (h0 : rd l0 s ≥ rd l0 0) : ¬ bestZ l0 p l3 l4 k = 0 := by
  intro h
  have hh : hitZ l0 p l3 l4 k s 0 = true := by unfold hitZ; rw [hu, decide_eq_true hg, decide_eq_true h0]; rfl
  by_cases h1 : hitZ l0 p l3 l4 k 1 (b2Z l0 p l3 l4 k) = true
  · have e : bestZ l0 p l3 l4 k = 1 := by unfold bestZ; rw [if_pos h1]
    omega
  · have e : bestZ l0 p l3 l4 k = b2Z l0 p l3 l4 k := by unfold bestZ; rw [if_neg h1]
    rw [e] at h
    by_cases h2 : hitZ l0 p l3 l4 k 2 0 = true
    · have e2 : b2Z l0 p l3 l4 k = 2 := by unfold b2Z; rw [if_pos h2]
      omega
    · rcases hst with ⟨rfl, _⟩ | ⟨rfl, _⟩
      · rw [h] at h1; exact h1 hh
      · exact h2 hh
theorem t_up1 : (([0, 2, 4, 6] : List Int).all fun p => ([0, 2, 4, 6] : List Int).all fun e => upZ p e 1 == decide (¬ Go.bits .and .i64 (Go.bits .and .i64 p e) 2 = 0)) = true := by kernel_rfl
theorem t_up2 : (([0, 2, 4, 6] : List Int).all fun p => ([0, 2, 4, 6] : List Int).all fun e => upZ p e 2 == decide (¬ Go.bits .and .i64 (Go.bits .and .i64 p e) 4 = 0)) = true := by kernel_rfl
theorem up_bit {s t p e : Int} (hst : src s t) (hp : m6 p) (he : m6 e) : upZ p e s = decide (¬ Go.bits .and .i64 (Go.bits .and .i64 p e) t = 0) := by
  rcases hst with ⟨rfl, rfl⟩ | ⟨rfl, rfl⟩
  · exact beq_iff_eq.mp (all4 (all4 t_up1 hp) he)
  · exact beq_iff_eq.mp (all4 (all4 t_up2 hp) he)
theorem best_top {l0 : List Int} {p : Int} {l3 l4 : List Int} {k s t : Int} (hst : src s t) (hu : upZ p (rd l3 k) s = true) (hg : rd l0 s > rd l4 k) (h0 : rd l0 s ≥ rd l0 0) :
    rd l0 (bestZ l0 p l3 l4 k) > rd l0 s ∨ (rd l0 (bestZ l0 p l3 l4 k) = rd l0 s ∧ bestZ l0 p l3 l4 k ≤ s) := by
  by_cases h1 : hitZ l0 p l3 l4 k 1 (b2Z l0 p l3 l4 k) = true
  · have e : bestZ l0 p l3 l4 k = 1 := by unfold bestZ; rw [if_pos h1]
    rw [e]
    rcases hst with ⟨rfl, _⟩ | ⟨rfl, _⟩
    · exact .inr ⟨rfl, by decide⟩
    · have h2 : hitZ l0 p l3 l4 k 2 0 = true := by unfold hitZ; rw [hu, decide_eq_true hg, decide_eq_true h0]; rfl
      have e2 : b2Z l0 p l3 l4 k = 2 := by unfold b2Z; rw [if_pos h2]
      rw [e2] at h1
      unfold hitZ at h1
      rw [Bool.and_eq_true, Bool.and_eq_true, decide_eq_true_eq, decide_eq_true_eq] at h1
      have := h1.2.2
      omega
  · have e : bestZ l0 p l3 l4 k = b2Z l0 p l3 l4 k := by unfold bestZ; rw [if_neg h1]
    rw [e]
    by_cases h2 : hitZ l0 p l3 l4 k 2 0 = true
    · have e2 : b2Z l0 p l3 l4 k = 2 := by unfold b2Z; rw [if_pos h2]
      rw [e2] at h1 ⊢
      rcases hst with ⟨rfl, _⟩ | ⟨rfl, _⟩
      · unfold hitZ at h1
        rw [hu, decide_eq_true hg, Bool.true_and, Bool.true_and, decide_eq_true_eq] at h1
        omega
      · exact .inr ⟨rfl, by decide⟩
    · have e2 : b2Z l0 p l3 l4 k = 0 := by unfold b2Z; rw [if_neg h2]
      rcases hst with ⟨rfl, _⟩ | ⟨rfl, _⟩
      · rw [e2] at h1
        unfold hitZ at h1
        rw [hu, decide_eq_true hg, decide_eq_true h0] at h1
        exact absurd rfl h1
      · unfold hitZ at h2
        rw [hu, decide_eq_true hg, decide_eq_true h0] at h2
        exact absurd rfl h2
section
variable {a b p c e f g h : Int} (ha : s7 a) (hb : s7 b) (hp : m6 p) (hc : m6 c) (he : m6 e) (hf : m6 f) (hg : s7 g) (hh : s7 h)
include ha hb hp hc he hf hg hh
theorem best_round {k s t : Int} (hst : src s t) (hk : k = 0 ∨ k = 1) (n : Nat) :
    drawbridgelaw10_PlicBest.l0 (n + 1) k (bestZ [0, a, b] p [e, f] [g, h] k) s [0, a, b] p c [e, f] [g, h] = drawbridgelaw10_PlicBest.l0 n k (bestZ [0, a, b] p [e, f] [g, h] k) (wrap64 (s + 1)) [0, a, b] p c [e, f] [g, h] := by
  have hs2 : 1 ≤ s ∧ s ≤ 2 := by unfold src at hst; omega
  have hus : IntKind.u64.wrap s = s := by rcases hst with ⟨rfl, rfl⟩ | ⟨rfl, rfl⟩ <;> kernel_rfl
  have hsl : shl .i64 1 s = t := by rcases hst with ⟨rfl, rfl⟩ | ⟨rfl, rfl⟩ <;> kernel_rfl
  have h40 : 0 ≤ rd [g, h] k := by rcases hk with rfl | rfl; exact hg.1; exact hh.1
  have h00 : rd [0, a, b] 0 = 0 := rfl
  have l0l : (([0, a, b] : List Int).length : Int) = 3 := rfl
  have l3l : (([e, f] : List Int).length : Int) = 2 := rfl
  have l4l : (([g, h] : List Int).length : Int) = 2 := rfl
  have hub := up_bit hst hp (rd_or he hf hk)
  have hB := best_cases [0, a, b] p [e, f] [g, h] k
  have hno : bestZ [0, a, b] p [e, f] [g, h] k = s → ¬ Go.bits .and .i64 (Go.bits .and .i64 p (rd [e, f] k)) t = 0 ∧ rd [0, a, b] s > rd [g, h] k := fun hx => by
    have := best_up hst hx
    rw [hub, decide_eq_true_eq] at this
    exact this
  have hyes : ¬ Go.bits .and .i64 (Go.bits .and .i64 p (rd [e, f] k)) t = 0 → rd [0, a, b] s > rd [g, h] k → ¬ bestZ [0, a, b] p [e, f] [g, h] k = 0 ∧ (rd [0, a, b] (bestZ [0, a, b] p [e, f] [g, h] k) > rd [0, a, b] s ∨ (rd [0, a, b] (bestZ [0, a, b] p [e, f] [g, h] k) = rd [0, a, b] s ∧ bestZ [0, a, b] p [e, f] [g, h] k ≤ s)) := fun hx hy => by
    have hu : upZ p (rd [e, f] k) s = true := by rw [hub]; exact decide_eq_true hx
    exact ⟨best_not0 hst hu hy (by omega), best_top hst hu hy (by omega)⟩
  rw [drawbridgelaw10_PlicBest.l0, hus, hsl, l0l, l3l, l4l]
  generalize bestZ [0, a, b] p [e, f] [g, h] k = B at *
  generalize Go.bits .and .i64 (Go.bits .and .i64 p (rd [e, f] k)) t = z at *
  rw [if_pos (by omega), if_pos (by omega), if_pos (by omega), if_pos (by omega)]
  by_cases hz : z = 0
  · rw [if_pos hz, if_neg (fun hx => (hno hx).1 hz)]
  · rw [if_neg hz, if_pos (by omega), if_pos (by omega), if_pos (by omega)]
    by_cases hy : rd [0, a, b] s > rd [g, h] k
    · obtain ⟨hB0, ht⟩ := hyes hz hy
      have e1 : ¬ rd [0, a, b] B < rd [0, a, b] s := by omega
      simp only [if_pos hy, if_neg hB0, if_neg e1, if_pos (show 0 ≤ B by omega), if_pos (show B < 3 by omega), ite_self]
      by_cases hq : rd [0, a, b] B = rd [0, a, b] s
      · simp only [if_pos hq, if_neg (show ¬ B > s by omega), ite_self]
      · simp only [if_neg hq, ite_self]
    · rw [if_neg (fun hx => hy (hno hx).2), if_neg hy]
theorem best_core {k : Int} (hk : k = 0 ∨ k = 1) : drawbridgelaw10_PlicBest.j0 20 k false [0, a, b] p c [e, f] [g, h] = some true := by
  have hck := check_put ha hb hp hc he hf hg hh
  have hS : plic_Best.f 19 _ _ _ _ _ k = _ := best_is [0, a, b] p c [e, f] [g, h] k 15 hck hk
  have hB := best_cases [0, a, b] p [e, f] [g, h] k
  rw [show (20 : Nat) = 19 + 1 from rfl, drawbridgelaw10_PlicBest.j0, if_neg (by decide), hS, Option.bind_some, show (19 : Nat) = 18 + 1 from rfl,
    best_round ha hb hp hc he hf hg hh (.inl ⟨rfl, rfl⟩) hk 18, show wrap64 (1 + 1) = 2 by kernel_rfl, show (18 : Nat) = 17 + 1 from rfl,
    best_round ha hb hp hc he hf hg hh (.inr ⟨rfl, rfl⟩) hk 17, show wrap64 (2 + 1) = 3 by kernel_rfl, show (17 : Nat) = 16 + 1 from rfl, drawbridgelaw10_PlicBest.l0,
    if_neg (by decide), if_pos (by omega), if_pos (by omega)]
  rfl
end
theorem PlicBest : PlicBest.Said := by
  intro l0 p c l3 l4 k hl0 w0 wp wc hl3 w3 hl4 w4 wk
  refine ⟨20, ?_⟩
  have hset : checkZ l0 p c l3 l4 = false ∨ k < 0 ∨ 2 ≤ k → drawbridgelaw10_PlicBest.j0 20 k true l0 p c l3 l4 = some true := fun hq => by
    have hS : plic_Best.f 19 l0 p c l3 l4 k = some 0 := best_no l0 p c l3 l4 k 18 hq
    rw [show (20 : Nat) = 19 + 1 from rfl, drawbridgelaw10_PlicBest.j0, if_pos rfl, hS, Option.bind_some, if_pos rfl]; rfl
  unfold drawbridgelaw10_PlicBest.f plic_Check.f
  rw [Option.bind_some]
  by_cases hck : checkZ l0 p c l3 l4 = true
  · rw [if_pos hck]
    by_cases h1 : k < 0
    · rw [if_pos h1, hset (.inr (.inl h1))]
    rw [if_neg h1]
    by_cases h2 : k > 1
    · rw [decide_eq_true h2, hset (.inr (.inr (by omega)))]
    rw [decide_eq_false h2]
    obtain ⟨a, b, e, f, g, h, rfl, rfl, rfl, ha, hb, hp, hc, he, hf, hg, hh⟩ := check_get hck (wf_R wp) (wf_R wc) (fun z hz => wf_R (w3 z hz))
    exact best_core ha hb hp hc he hf hg hh (by omega)
  · rw [if_neg hck, hset (.inl (Bool.eq_false_iff.mpr hck))]
end Go.Proofs.Ytmlpnjoejdpblaa.Pure
