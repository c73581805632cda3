-- Ytnlmndpdalgppaa: written by a program for this claim (several laws of one seat at once)
import Derived.Test.YtnlmndpdalgppaaQx0
namespace Go.Proofs.Ytnlmndpdalgppaa.Q
open Go.RowKit Go.Proofs.YtnlmndpdalgppaaW.PrintWords Go.Proofs.YtnlmndpdalgppaaW.PrintLast Go.Proofs.YtnlmndpdalgppaaW.PrintMore
attribute [local go_sem] max2_int min2_int max_two min_two max_three min_three max_four min_four   -- for this text's walks alone
set_option linter.unusedVariables false
set_option linter.unusedSimpArgs false

/-! ### drawbridgeref05_Status: function 26 -/
def drawbridgeref05_Status.f (a0 : Int) : Option (Int) := if (Int.tmod ((Go.bits .and .u64 a0 8264106) / 2048) 4) = 2 then (some (IntKind.u64.wrap ((Go.bits .and .u64 a0 8264106) - 4096))) else (some (Go.bits .and .u64 a0 8264106))
set_option maxHeartbeats 8000000 in
set_option maxRecDepth 100000 in
theorem drawbridgeref05_Status.calls (a0 : Int) (r : Int) (w : World) (h : drawbridgeref05_Status.f a0 = some r) :
    Calls Try.prog 26 #[.int .u64 a0] w fun e w' => e = .returned (.int .u64 r) ∧ Drawn0 w w' := by
  have H : (if (Int.tmod ((Go.bits .and .u64 a0 8264106) / 2048) 4) = 2 then (some (IntKind.u64.wrap ((Go.bits .and .u64 a0 8264106) - 4096))) else (some (Go.bits .and .u64 a0 8264106))) = some r := h
  clear h
  by_cases c2 : (Int.tmod ((Go.bits .and .u64 a0 8264106) / 2048) 4) = 2
  · rw [if_pos c2] at H
    have c2b0 : ((Int.tmod ((Go.bits .and .u64 a0 8264106) / 2048) 4) == 2) = true := beq_iff_eq.mpr c2
    have c2b1 : ((Int.tmod ((Go.bits .and .u64 a0 8264106) / 2048) 4) != 2) = false := bne_eq_false_iff_eq.mpr c2
    clear c2
    obtain rfl := Option.some.inj H
    go_enter Try.func26, Try.ntmps26
    go_wp2
    go_ret
    exact ⟨by first | rfl | (simp; done) | (simp [*]; done), by repeat (first | exact Drawn0.refl _ | apply Drawn0.step)⟩
  · rw [if_neg c2] at H
    have c2b0 : ((Int.tmod ((Go.bits .and .u64 a0 8264106) / 2048) 4) == 2) = false := beq_eq_false_iff_ne.mpr c2
    have c2b1 : ((Int.tmod ((Go.bits .and .u64 a0 8264106) / 2048) 4) != 2) = true := bne_iff_ne.mpr c2
    obtain rfl := Option.some.inj H
    go_enter Try.func26, Try.ntmps26
    go_wp2
    go_ret
    exact ⟨by first | rfl | (simp; done) | (simp [*]; done), by repeat (first | exact Drawn0.refl _ | apply Drawn0.step)⟩

/-! ### trap_bit: function 18 -/
def trap_bit.f (a0 : Int) (a1 : Int) : Option (Int) := if 0 ≤ a1 then (some (Go.bits .and .u64 (shr .u64 a0 a1) 1)) else (none)
set_option maxHeartbeats 8000000 in
set_option maxRecDepth 100000 in
theorem trap_bit.calls (a0 : Int) (a1 : Int) (r : Int) (w : World) (h : trap_bit.f a0 a1 = some r) :
    Calls Try.prog 18 #[.int .u64 a0, .int .i64 a1] w fun e w' => e = .returned (.int .u64 r) ∧ Drawn0 w w' := by
  have H : (if 0 ≤ a1 then (some (Go.bits .and .u64 (shr .u64 a0 a1) 1)) else (none)) = some r := h
  clear h
  by_cases c3 : 0 ≤ a1
  · rw [if_pos c3] at H
    have c3b0 := eq_true c3
    have c3b1 : decide (0 ≤ a1) = true := decide_eq_true c3
    clear c3
    obtain ⟨ji4, hji4⟩ : ∃ j_ : Int, (shr .u64 a0 a1) = j_ := ⟨_, rfl⟩
    replace H : (some (Go.bits .and .u64 (ji4) 1)) = some r := by first | (rw [hji4] at H; exact H) | (simp only [hji4] at H ⊢; exact H)
    have hji4_ : (a0 / 2 ^ min a1.toNat 64) = ji4 := hji4
    have hji4z : a1 ≤ 64 → (a0 / 2 ^ a1.toNat) = ji4 := shr_small hji4
    obtain rfl := Option.some.inj H
    go_enter Try.func18, Try.ntmps18
    go_wp2
    go_ret
    exact ⟨by first | rfl | (simp; done) | (simp only [← hji4] <;> (first | rfl | simp)) | (simp [*]; done), by repeat (first | exact Drawn0.refl _ | apply Drawn0.step)⟩
  · rw [if_neg c3] at H
    exact absurd H (by simp)

-- NOT PRINTED: function 19 (trap_order)

end Go.Proofs.Ytnlmndpdalgppaa.Q
