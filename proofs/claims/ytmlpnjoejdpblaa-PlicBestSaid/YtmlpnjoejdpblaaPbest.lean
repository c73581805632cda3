/- Which source is told: plic.Best, in plain numbers. -/
import Derived.Test.YtmlpnjoejdpblaaEchk
import Derived.Test.YtmlpnjoejdpblaaQx2
namespace Go.Proofs.Ytmlpnjoejdpblaa.Q
open Go.RowKit Go.Proofs.YtmlpnjoejdpblaaW.PrintWords Go.Proofs.YtmlpnjoejdpblaaW.PrintLast Go.Proofs.YtmlpnjoejdpblaaW.PrintMore Go.Proofs.Ytmlpnjoejdpblaa.L
set_option linter.unusedVariables false
set_option linter.unusedSimpArgs false
def upZ (p e s : Int) : Bool := Go.bits .and .i64 (shr .i64 (Go.bits .and .i64 p e) s) 1 == 1
def hitZ (l0 : List Int) (p : Int) (l3 l4 : List Int) (k s b : Int) : Bool := upZ p (rd l3 k) s && (decide (rd l0 s > rd l4 k) && decide (rd l0 s ≥ rd l0 b))
def b2Z (l0 : List Int) (p : Int) (l3 l4 : List Int) (k : Int) : Int := if hitZ l0 p l3 l4 k 2 0 = true then 2 else 0
def bestZ (l0 : List Int) (p : Int) (l3 l4 : List Int) (k : Int) : Int := if hitZ l0 p l3 l4 k 1 (b2Z l0 p l3 l4 k) = true then 1 else b2Z l0 p l3 l4 k
theorem best_step (l0 : List Int) (p c : Int) (l3 l4 : List Int) (k s b : Int) (m : Nat) (h0 : l0.length = 3) (h3 : l3.length = 2) (h4 : l4.length = 2) (hk : k = 0 ∨ k = 1) (hs : s = 1 ∨ s = 2) (hb : b = 0 ∨ b = 2) :
    plic_Best.l0 (m + 1) k b s l0 p c l3 l4 = plic_Best.l0 m k (if hitZ l0 p l3 l4 k s b = true then s else b) (s - 1) l0 p c l3 l4 := by
  have hw : wrap64 (s - 1) = s - 1 := by unfold wrap64; omega
  rw [plic_Best.l0, if_pos (by omega), if_pos (by omega), if_pos (by omega), if_pos (by omega), hw]
  unfold hitZ upZ
  by_cases h1 : Go.bits .and .i64 (shr .i64 (Go.bits .and .i64 p (rd l3 k)) s) 1 = 1
  · rw [if_pos h1, if_pos (by omega), if_pos (by omega), beq_iff_eq.mpr h1, Bool.true_and]
    by_cases h2 : rd l0 s > rd l4 k
    · rw [if_pos h2, if_pos (by omega), if_pos (by omega), decide_eq_true h2, Bool.true_and]
      by_cases h3 : rd l0 s ≥ rd l0 b
      · rw [if_pos h3, decide_eq_true h3, if_pos rfl]
      · rw [if_neg h3, decide_eq_false h3, if_neg (by decide)]
    · rw [if_neg h2, decide_eq_false h2, Bool.false_and, if_neg (by decide)]
  · rw [if_neg h1, beq_eq_false_iff_ne.mpr h1, Bool.false_and, if_neg (by decide)]
theorem check_len {l0 : List Int} {p c : Int} {l3 l4 : List Int} (h : checkZ l0 p c l3 l4 = true) : l0.length = 3 ∧ l3.length = 2 ∧ l4.length = 2 ∧ rd l0 0 = 0 := by
  unfold checkZ shapeZ at h
  simp only [Bool.and_eq_true, decide_eq_true_eq] at h
  exact ⟨h.1.1.1.1.1, h.1.1.1.1.2, h.1.1.1.2, h.1.1.2⟩
theorem b2_cases (l0 : List Int) (p : Int) (l3 l4 : List Int) (k : Int) : b2Z l0 p l3 l4 k = 0 ∨ b2Z l0 p l3 l4 k = 2 := by unfold b2Z; split; exact .inr rfl; exact .inl rfl
theorem best_cases (l0 : List Int) (p : Int) (l3 l4 : List Int) (k : Int) : bestZ l0 p l3 l4 k = 0 ∨ bestZ l0 p l3 l4 k = 1 ∨ bestZ l0 p l3 l4 k = 2 := by
  unfold bestZ
  split
  · exact .inr (.inl rfl)
  · rcases b2_cases l0 p l3 l4 k with h | h
    · exact .inl h
    · exact .inr (.inr h)
theorem best_is (l0 : List Int) (p c : Int) (l3 l4 : List Int) (k : Int) (m : Nat) (hck : checkZ l0 p c l3 l4 = true) (hk : k = 0 ∨ k = 1) : plic_Best.f (m + 4) l0 p c l3 l4 k = some (bestZ l0 p l3 l4 k) := by
  obtain ⟨h0, h3, h4, _⟩ := check_len hck
  unfold plic_Best.f plic_Check.f
  rw [hck, Option.bind_some, if_pos rfl, if_neg (by omega), decide_eq_false (by omega), plic_Best.j0, if_neg (by decide), best_step l0 p c l3 l4 k 2 0 (m + 2) h0 h3 h4 hk (.inr rfl) (.inl rfl)]
  show plic_Best.l0 (m + 2) k (b2Z l0 p l3 l4 k) (2 - 1) l0 p c l3 l4 = _
  rw [show (2 : Int) - 1 = 1 by decide, best_step l0 p c l3 l4 k 1 _ (m + 1) h0 h3 h4 hk (.inl rfl) (b2_cases l0 p l3 l4 k)]
  show plic_Best.l0 (m + 1) k (bestZ l0 p l3 l4 k) (1 - 1) l0 p c l3 l4 = _
  rw [show (1 : Int) - 1 = 0 by decide, plic_Best.l0, if_neg (by decide)]
theorem best_no (l0 : List Int) (p c : Int) (l3 l4 : List Int) (k : Int) (m : Nat) (h : checkZ l0 p c l3 l4 = false ∨ k < 0 ∨ 2 ≤ k) : plic_Best.f (m + 1) l0 p c l3 l4 k = some 0 := by
  unfold plic_Best.f plic_Check.f
  rw [Option.bind_some]
  cases hc : checkZ l0 p c l3 l4
  · rw [if_neg (by decide), plic_Best.j0, if_pos rfl]
  · rw [if_pos rfl]
    rcases h with h | h
    · rw [hc] at h; cases h
    · by_cases hn : k < 0
      · rw [if_pos hn, plic_Best.j0, if_pos rfl]
      · rw [if_neg hn, decide_eq_true (by omega), plic_Best.j0, if_pos rfl]
end Go.Proofs.Ytmlpnjoejdpblaa.Q
