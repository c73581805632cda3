/- Plain laws of what the timer's functions come to. -/
import Derived.Test.YtfnealbmackjaaaEclint
namespace Go.Proofs.Ytfnealbmackjaaa.Q
open Go.RowKit Go.Proofs.Ytfnealbmackjaaa.L
set_option linter.unusedVariables false
set_option linter.unusedSimpArgs false
theorem clLoad_snd (t c t' c' : Int) (s s' : Bool) (off size : Int) : (clLoad t c s off size).2 = (clLoad t' c' s' off size).2 := by
  unfold clLoad
  repeat' split
  all_goals rfl
theorem clStore_no (t c : Int) (s : Bool) (off size x : Int) (h : (clStore t c s off size x).2.2.2 = false) : clStore t c s off size x = (t, c, s, false) := by
  revert h; unfold clStore
  repeat' split
  all_goals simp
def clWant (off size x : Int) : Int := if off = 0 then x % 2 else if size = 4 then x % 4294967296 else x
theorem mod2_eq (x : Int) : (if (x % 2 == 1) = true then (1 : Int) else 0) = x % 2 := by
  by_cases h : x % 2 = 1
  · rw [h]; rfl
  · rw [if_neg (by simpa using h)]; omega
theorem lo_lo (r x : Int) : clLo r x % 4294967296 = x % 4294967296 := by unfold clLo; omega
theorem lo_hi (r x : Int) : clLo r x / 4294967296 = r / 4294967296 := by unfold clLo; omega
theorem hi_lo (r x : Int) : clHi r x % 4294967296 = r % 4294967296 := by unfold clHi; omega
theorem hi_hi (r x : Int) : clHi r x / 4294967296 = x % 4294967296 := by unfold clHi; omega
theorem u64_lo (r x : Int) (h : u64B r) : u64B (clLo r x) := by obtain ⟨a, b⟩ := h; unfold u64B clLo; omega
theorem u64_hi (r x : Int) (h : u64B r) : u64B (clHi r x) := by obtain ⟨a, b⟩ := h; unfold u64B clHi; omega
theorem clBack (t c : Int) (s : Bool) (off size x other : Int) (ht : u64B t) (hc : u64B c) (hx : u64B x) (hok : (clStore t c s off size x).2.2.2 = true) :
    ∃ t' c' s', clStore t c s off size x = (t', c', s', true) ∧ u64B t' ∧ u64B c' ∧ clLoad t' c' s' off size = (clWant off size x, true) ∧ (off = 0 → size = 4) ∧ (size = 4 ∨ size = 8) ∧
      ((other < off ∧ off - other ≥ 4 ∨ other > off ∧ other - off ≥ size) → (clLoad t' c' s' other 4).1 = (clLoad t c s other 4).1) := by
  by_cases e1 : off = 0 ∧ size = 4
  · obtain ⟨rfl, rfl⟩ := e1
    refine ⟨t, c, x % 2 == 1, rfl, ht, hc, ?_, by omega, by omega, ?_⟩
    · simp only [clLoad, clWant, and_self, if_true]; rw [mod2_eq]
    · intro h; unfold clLoad
      have : other ≠ 0 := by omega
      simp [this]
  by_cases e2 : off = 16384 ∧ size = 8
  · obtain ⟨rfl, rfl⟩ := e2
    refine ⟨t, x, s, rfl, ht, hx, rfl, by omega, by omega, ?_⟩
    intro h; unfold clLoad
    have h1 : other ≠ 16384 := by omega
    have h2 : other ≠ 16388 := by omega
    simp [h1, h2]
  by_cases e3 : off = 16384 ∧ size = 4
  · obtain ⟨rfl, rfl⟩ := e3
    refine ⟨t, clLo c x, s, rfl, ht, u64_lo c x hc, by simp [clLoad, clWant, lo_lo], by omega, by omega, ?_⟩
    intro h; unfold clLoad
    have h1 : other ≠ 16384 := by omega
    simp [h1, lo_hi]
  by_cases e4 : off = 16388 ∧ size = 4
  · obtain ⟨rfl, rfl⟩ := e4
    refine ⟨t, clHi c x, s, rfl, ht, u64_hi c x hc, by simp [clLoad, clWant, hi_hi], by omega, by omega, ?_⟩
    intro h; unfold clLoad
    have h1 : other ≠ 16388 := by omega
    simp [h1, hi_lo]
  by_cases e5 : off = 49144 ∧ size = 8
  · obtain ⟨rfl, rfl⟩ := e5
    refine ⟨x, c, s, rfl, hx, hc, rfl, by omega, by omega, ?_⟩
    intro h; unfold clLoad
    have h1 : other ≠ 49144 := by omega
    have h2 : other ≠ 49148 := by omega
    simp [h1, h2]
  by_cases e6 : off = 49144 ∧ size = 4
  · obtain ⟨rfl, rfl⟩ := e6
    refine ⟨clLo t x, c, s, rfl, u64_lo t x ht, hc, by simp [clLoad, clWant, lo_lo], by omega, by omega, ?_⟩
    intro h; unfold clLoad
    have h1 : other ≠ 49144 := by omega
    simp [h1, lo_hi]
  by_cases e7 : off = 49148 ∧ size = 4
  · obtain ⟨rfl, rfl⟩ := e7
    refine ⟨clHi t x, c, s, rfl, u64_hi t x ht, hc, by simp [clLoad, clWant, hi_hi], by omega, by omega, ?_⟩
    intro h; unfold clLoad
    have h1 : other ≠ 49148 := by omega
    simp [h1, hi_lo]
  exact absurd hok (by unfold clStore; simp [e1, e2, e3, e4, e5, e6, e7])
end Go.Proofs.Ytfnealbmackjaaa.Q
