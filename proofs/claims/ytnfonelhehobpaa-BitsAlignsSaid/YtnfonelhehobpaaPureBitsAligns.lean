/- BitsAligns: what is a multiple of eight is one of four, two and one, none is one of three or nought; sums and differences of multiples are multiples. No condition. -/
import Derived.Test.YtnfonelhehobpaaQx4
import Derived.Test.YtnfonelhehobpaaBh
set_option linter.unusedVariables false
namespace Go.Proofs.Ytnfonelhehobpaa.Pure
open Go.RowKit Go.Proofs.Ytnfonelhehobpaa.Q Go.Proofs.YtnfonelhehobpaaW.PrintWords Go.Proofs.YtnfonelhehobpaaW.PrintLast Go.Proofs.YtnfonelhehobpaaW.PrintMore Go.Proofs.Ytnfonelhehobpaa.L

theorem align_iff (x n : Int) : alignB x n = true ↔ (n = 1 ∨ n = 2 ∨ n = 4 ∨ n = 8) ∧ x % n = 0 := by
  unfold alignB
  simp only [Bool.and_eq_true, Bool.or_eq_true, beq_iff_eq]
  omega
theorem wrapB (x : Int) : u64B (IntKind.u64.wrap x) := by rw [IntKind.wrap_u64]; exact ⟨by omega, by omega⟩
theorem j1_tells (x y c : Int) (hx : u64B x) (hy : u64B y) (hc : -9223372036854775808 ≤ c ∧ c ≤ 9223372036854775807) (ax : alignB x c = true) (ay : alignB y c = true) : drawbridgelaw01_BitsAligns.j1 2 x y c false = some true := by
  have hh := heads01
  obtain ⟨h1, h2⟩ := (align_iff x c).1 ax
  obtain ⟨_, h3⟩ := (align_iff y c).1 ay
  have hs : alignB (IntKind.u64.wrap (x + y)) c = true := by
    refine (align_iff _ _).2 ⟨h1, ?_⟩
    rw [IntKind.wrap_u64]
    rcases h1 with rfl | rfl | rfl | rfl <;> omega
  have hd : alignB (IntKind.u64.wrap (x - y)) c = true := by
    refine (align_iff _ _).2 ⟨h1, ?_⟩
    rw [IntKind.wrap_u64]
    rcases h1 with rfl | rfl | rfl | rfl <;> omega
  simp only [drawbridgelaw01_BitsAligns.j1]
  rw [if_neg (by decide), align_tells _ _ (wrapB _) hc, hs]
  simp only [Option.bind_some, if_true]
  rw [align_tells _ _ (wrapB _) hc, hd]
  simp only [Option.bind_some, if_true]
  by_cases e : c = 1
  · rw [if_pos e, hh]; rfl
  · have hn : alignB (IntKind.u64.wrap (x + 1)) c = false := by
      rw [← Bool.not_eq_true, align_iff, IntKind.wrap_u64]
      rintro ⟨_, h⟩
      rcases h1 with rfl | rfl | rfl | rfl <;> omega
    rw [if_neg e, align_tells _ _ (wrapB _) hc, hn, hh]; rfl
theorem j1_true (x y c : Int) : drawbridgelaw01_BitsAligns.j1 2 x y c true = some true := by
  simp only [drawbridgelaw01_BitsAligns.j1]
  rw [if_pos trivial, heads01]; rfl
theorem j0_tells (x y c : Int) (hx : u64B x) (hy : u64B y) (hc : -9223372036854775808 ≤ c ∧ c ≤ 9223372036854775807) : drawbridgelaw01_BitsAligns.j0 3 x y c false = some true := by
  simp only [drawbridgelaw01_BitsAligns.j0]
  rw [if_neg (by decide), align_tells _ _ hx hc, align_tells _ _ hy hc]
  simp only [Option.bind_some]
  by_cases ax : alignB x c = true
  · rw [if_pos ax]
    by_cases ay : alignB y c = true
    · rw [ay]; exact j1_tells x y c hx hy hc ax ay
    · rw [Bool.eq_false_iff.2 ay]; exact j1_true x y c
  · rw [if_neg ax]; exact j1_true x y c
theorem BitsAligns : drawbridgelaw01_BitsAligns.Pure := by
  intro x y c w0 w1 w2
  have hx := wf_u64 w0
  have hy := wf_u64 w1
  have hc := bounds_i64 w2
  refine ⟨3, ?_⟩
  unfold drawbridgelaw01_BitsAligns.f
  rw [align_tells x 8 hx (by omega), align_tells x 4 hx (by omega), align_tells x 2 hx (by omega), align_tells x 1 hx (by omega), align_tells x 3 hx (by omega), align_tells x 0 hx (by omega)]
  simp only [Option.bind_some]
  have h1 : alignB x 1 = true := (align_iff _ _).2 ⟨by omega, by omega⟩
  have h3 : alignB x 3 = false := by rw [← Bool.not_eq_true, align_iff]; omega
  have h0 : alignB x 0 = false := by rw [← Bool.not_eq_true, align_iff]; omega
  have hj := j0_tells x y c hx hy hc
  by_cases h8 : alignB x 8 = true
  · obtain ⟨_, h⟩ := (align_iff _ _).1 h8
    have h4 : alignB x 4 = true := (align_iff _ _).2 ⟨by omega, by omega⟩
    have h2 : alignB x 2 = true := (align_iff _ _).2 ⟨by omega, by omega⟩
    rw [if_pos h8, if_pos h4, if_pos h2, if_pos h1, if_neg (by rw [h3]; decide), h0]; exact hj
  · rw [if_neg h8, if_pos h1, if_neg (by rw [h3]; decide), h0]; exact hj
end Go.Proofs.Ytnfonelhehobpaa.Pure
