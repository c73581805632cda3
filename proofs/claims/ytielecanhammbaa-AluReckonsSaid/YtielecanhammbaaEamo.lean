/- The contract of alu.amo. -/
import Derived.Test.YtielecanhammbaaQx1
import Derived.Test.YtielecanhammbaaKt
import Derived.RegionTactic
import Derived.BigRegion
namespace Go.Proofs.Ytielecanhammbaa.Q
open Go.RowKit Go.Proofs.YtielecanhammbaaW.PrintWords Go.Proofs.YtielecanhammbaaW.PrintLast Go.Proofs.YtielecanhammbaaW.PrintMore Go.Proofs.Ytielecanhammbaa.L
attribute [local go_sem] Instr.field part asAgg lt_step max2_int min2_int max_two min_two max_three min_three max_four min_four lt_0_1 lt_0_2 lt_1_2 lt_0_3 lt_1_3 lt_2_3 lt_0_4 lt_1_4 lt_2_4 lt_3_4 lt_0_5 lt_1_5 lt_2_5 lt_3_5 lt_4_5 lt_0_6 lt_1_6 lt_2_6 lt_3_6 lt_4_6 lt_5_6 lt_0_7 lt_1_7 lt_2_7 lt_3_7 lt_4_7 lt_5_7 lt_6_7 lt_0_8 lt_1_8 lt_2_8 lt_3_8 lt_4_8 lt_5_8 lt_6_8 lt_7_8
set_option linter.unusedVariables false
set_option linter.unusedSimpArgs false
def alu_amo.f (f a b : Int) : Option Int :=
  if f = 0 then some (IntKind.u64.wrap (a + b)) else
  if f = 1 then some (b) else
  if f = 4 then some (Go.bits .xor .u64 a b) else
  if f = 8 then some (Go.bits .or .u64 a b) else
  if f = 12 then some (Go.bits .and .u64 a b) else
  if f = 16 then some (IntKind.u64.wrap (mn (wrap64 a) (wrap64 b))) else
  if f = 20 then some (IntKind.u64.wrap (mx (wrap64 a) (wrap64 b))) else
  if f = 24 then some (mn a b) else
  if f = 28 then some (mx a b) else
  some a
set_option maxHeartbeats 1600000 in
set_option maxRecDepth 100000 in
theorem alu_amo.calls (f a b r : Int) (w : World) (h : alu_amo.f f a b = some r) :
    Calls Try.prog 24 #[.int .i64 f, .int .u64 a, .int .u64 b] w fun e w' => e = .returned (.int .u64 r) ∧ Drawn0 w w' := by
  unfold alu_amo.f at h
  by_cases e0 : f = 0
  · subst e0
    rw [if_pos rfl] at h
    injection h with h
    subst h
    go_enter Try.func24, Try.ntmps24
    go_wp2
    refine bodyPost_ret (v := .int .u64 (IntKind.u64.wrap (a + b))) (by simp [results, Try.results24, go_sem]) rfl ?_
    exact ⟨rfl, by repeat (first | exact Drawn0.refl _ | apply Drawn0.step)⟩
  rw [if_neg e0] at h
  by_cases e1 : f = 1
  · subst e1
    rw [if_pos rfl] at h
    injection h with h
    subst h
    go_enter Try.func24, Try.ntmps24
    go_wp2
    refine bodyPost_ret (v := .int .u64 (b)) (by simp [results, Try.results24, go_sem]) rfl ?_
    exact ⟨rfl, by repeat (first | exact Drawn0.refl _ | apply Drawn0.step)⟩
  rw [if_neg e1] at h
  by_cases e4 : f = 4
  · subst e4
    rw [if_pos rfl] at h
    injection h with h
    subst h
    go_enter Try.func24, Try.ntmps24
    go_wp2
    refine bodyPost_ret (v := .int .u64 (Go.bits .xor .u64 a b)) (by simp [results, Try.results24, go_sem]) rfl ?_
    exact ⟨rfl, by repeat (first | exact Drawn0.refl _ | apply Drawn0.step)⟩
  rw [if_neg e4] at h
  by_cases e8 : f = 8
  · subst e8
    rw [if_pos rfl] at h
    injection h with h
    subst h
    go_enter Try.func24, Try.ntmps24
    go_wp2
    refine bodyPost_ret (v := .int .u64 (Go.bits .or .u64 a b)) (by simp [results, Try.results24, go_sem]) rfl ?_
    exact ⟨rfl, by repeat (first | exact Drawn0.refl _ | apply Drawn0.step)⟩
  rw [if_neg e8] at h
  by_cases e12 : f = 12
  · subst e12
    rw [if_pos rfl] at h
    injection h with h
    subst h
    go_enter Try.func24, Try.ntmps24
    go_wp2
    refine bodyPost_ret (v := .int .u64 (Go.bits .and .u64 a b)) (by simp [results, Try.results24, go_sem]) rfl ?_
    exact ⟨rfl, by repeat (first | exact Drawn0.refl _ | apply Drawn0.step)⟩
  rw [if_neg e12] at h
  by_cases e16 : f = 16
  · subst e16
    rw [if_pos rfl] at h
    injection h with h
    subst h
    go_enter Try.func24, Try.ntmps24
    go_wp2
    all_goals (refine bodyPost_ret (v := .int .u64 (IntKind.u64.wrap (mn (wrap64 a) (wrap64 b)))) (by simp [results, Try.results24, go_sem]; unfold mn; split <;> first | rfl | (exfalso; omega)) rfl ?_; exact ⟨rfl, by repeat (first | exact Drawn0.refl _ | apply Drawn0.step)⟩)
  rw [if_neg e16] at h
  by_cases e20 : f = 20
  · subst e20
    rw [if_pos rfl] at h
    injection h with h
    subst h
    go_enter Try.func24, Try.ntmps24
    go_wp2
    all_goals (refine bodyPost_ret (v := .int .u64 (IntKind.u64.wrap (mx (wrap64 a) (wrap64 b)))) (by simp [results, Try.results24, go_sem]; unfold mx; split <;> first | rfl | (exfalso; omega)) rfl ?_; exact ⟨rfl, by repeat (first | exact Drawn0.refl _ | apply Drawn0.step)⟩)
  rw [if_neg e20] at h
  by_cases e24 : f = 24
  · subst e24
    rw [if_pos rfl] at h
    injection h with h
    subst h
    go_enter Try.func24, Try.ntmps24
    go_wp2
    all_goals (refine bodyPost_ret (v := .int .u64 (mn a b)) (by simp [results, Try.results24, go_sem]; unfold mn; split <;> first | rfl | (exfalso; omega)) rfl ?_; exact ⟨rfl, by repeat (first | exact Drawn0.refl _ | apply Drawn0.step)⟩)
  rw [if_neg e24] at h
  by_cases e28 : f = 28
  · subst e28
    rw [if_pos rfl] at h
    injection h with h
    subst h
    go_enter Try.func24, Try.ntmps24
    go_wp2
    all_goals (refine bodyPost_ret (v := .int .u64 (mx a b)) (by simp [results, Try.results24, go_sem]; unfold mx; split <;> first | rfl | (exfalso; omega)) rfl ?_; exact ⟨rfl, by repeat (first | exact Drawn0.refl _ | apply Drawn0.step)⟩)
  rw [if_neg e28] at h
  injection h with h
  subst h
  go_enter Try.func24, Try.ntmps24
  go_wp2
  refine bodyPost_ret (v := .int .u64 a) (by simp [results, Try.results24, go_sem]) rfl ?_
  exact ⟨rfl, Drawn0.refl _⟩
end Go.Proofs.Ytielecanhammbaa.Q
