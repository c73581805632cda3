import Derived.Test.YtncdhfigfbhohaaSaidCsrViews
import Derived.Test.YtncdhfigfbhohaaPcsr
namespace Go.Proofs.Ytncdhfigfbhohaa.Pure
open Go.RowKit Go.Proofs.Ytncdhfigfbhohaa.Q Go.Proofs.YtncdhfigfbhohaaW.PrintWords Go.Proofs.YtncdhfigfbhohaaW.PrintLast Go.Proofs.YtncdhfigfbhohaaW.PrintMore Go.Proofs.Ytncdhfigfbhohaa.L
set_option linter.unusedVariables false
set_option linter.unusedSimpArgs false
theorem CsrViews_bnd {a0_0 a0_1 a0_2 a0_3 a0_4 a0_5 a0_6 a0_7 a0_8 a0_9 a0_10 a0_11 a0_12 a0_13 a0_14 a0_15 a0_16 : Int} (h0 : u64B a0_0) (h1 : u64B a0_1) (h2 : u64B a0_2) (h3 : u64B a0_3) (h4 : u64B a0_4) (h5 : u64B a0_5) (h6 : u64B a0_6) (h7 : u64B a0_7) (h8 : u64B a0_8) (h9 : u64B a0_9) (h10 : u64B a0_10) (h11 : u64B a0_11) (h12 : u64B a0_12) (h13 : u64B a0_13) (h14 : u64B a0_14) (h15 : u64B a0_15) (h16 : u64B a0_16) : bnd (cO a0_0 a0_1 a0_2 a0_3 a0_4 a0_5 a0_6 a0_7 a0_8 a0_9 a0_10 a0_11 a0_12 a0_13 a0_14 a0_15 a0_16) := fun i => by
  show u64B ([a0_0, a0_1, a0_2, a0_3, a0_4, a0_5, a0_6, a0_7, a0_8, a0_9, a0_10, a0_11, a0_12, a0_13, a0_14, a0_15, a0_16].getD i 0)
  match i with
  | 0 => exact h0
  | 1 => exact h1
  | 2 => exact h2
  | 3 => exact h3
  | 4 => exact h4
  | 5 => exact h5
  | 6 => exact h6
  | 7 => exact h7
  | 8 => exact h8
  | 9 => exact h9
  | 10 => exact h10
  | 11 => exact h11
  | 12 => exact h12
  | 13 => exact h13
  | 14 => exact h14
  | 15 => exact h15
  | 16 => exact h16
  | n + 17 => exact ⟨by show (0 : Int) ≤ 0; omega, by show (0 : Int) < _; omega⟩
section
variable {c : Nat → Int} {x : Int} (b0 : u64B (c 0)) (hx : u64B x)
include b0 hx
theorem v1 : (Go.bits .andNot .u64 (Go.bits .xor .u64 (Go.bits .or .u64 (Go.bits .andNot .u64 (c 0) 64424509440) 42949672960) (Go.bits .or .u64 (Go.bits .andNot .u64 (Go.bits .or .u64 (Go.bits .andNot .u64 (c 0) 786722) (Go.bits .and .u64 x 786722)) 64424509440) 42949672960)) 786722) = 0 := by
  refine wd_eq (by repeat (first | (with_reducible first | apply wd_and | apply wd_or | apply wd_andNot | apply wd_xor | exact wd_var (by assumption)) | exact wd_var ⟨by omega, by omega⟩)) (by repeat (first | (with_reducible first | apply wd_and | apply wd_or | apply wd_andNot | apply wd_xor | exact wd_var (by assumption)) | exact wd_var ⟨by omega, by omega⟩)) (fun i hi => ?_)
  try dsimp only
  generalize tb (c 0) i = qc0
  generalize tb x i = qx
  revert i qc0 qx
  decide +kernel
theorem v2 : (Go.bits .and .u64 (Go.bits .or .u64 (Go.bits .andNot .u64 (Go.bits .or .u64 (Go.bits .andNot .u64 (c 0) 786722) (Go.bits .and .u64 x 786722)) 64424509440) 42949672960) 786722) = (Go.bits .and .u64 x 786722) := by
  refine wd_eq (by repeat (first | (with_reducible first | apply wd_and | apply wd_or | apply wd_andNot | apply wd_xor | exact wd_var (by assumption)) | exact wd_var ⟨by omega, by omega⟩)) (by repeat (first | (with_reducible first | apply wd_and | apply wd_or | apply wd_andNot | apply wd_xor | exact wd_var (by assumption)) | exact wd_var ⟨by omega, by omega⟩)) (fun i hi => ?_)
  try dsimp only
  generalize tb (c 0) i = qc0
  generalize tb x i = qx
  revert i qc0 qx
  decide +kernel
theorem v3 : (Go.bits .and .u64 (Go.bits .or .u64 (Go.bits .and .u64 (Go.bits .or .u64 (Go.bits .andNot .u64 (c 0) 786722) (Go.bits .and .u64 x 786722)) 786722) 8589934592) 786722) = (Go.bits .and .u64 x 786722) := by
  refine wd_eq (by repeat (first | (with_reducible first | apply wd_and | apply wd_or | apply wd_andNot | apply wd_xor | exact wd_var (by assumption)) | exact wd_var ⟨by omega, by omega⟩)) (by repeat (first | (with_reducible first | apply wd_and | apply wd_or | apply wd_andNot | apply wd_xor | exact wd_var (by assumption)) | exact wd_var ⟨by omega, by omega⟩)) (fun i hi => ?_)
  try dsimp only
  generalize tb (c 0) i = qc0
  generalize tb x i = qx
  revert i qc0 qx
  decide +kernel
end
/-- The plain law of CsrViews. -/
theorem CsrViews : CsrViews.Said := by
  intro a0_0 a0_1 a0_2 a0_3 a0_4 a0_5 a0_6 a0_7 a0_8 a0_9 a0_10 a0_11 a0_12 a0_13 a0_14 a0_15 a0_16 a1 h0 h1 h2 h3 h4 h5 h6 h7 h8 h9 h10 h11 h12 h13 h14 h15 h16
  intro w3
  unfold drawbridgelaw05_CsrViews.f
  rw [if_pos]
  intro hc
  have hb := CsrViews_bnd (wf_u64B h0) (wf_u64B h1) (wf_u64B h2) (wf_u64B h3) (wf_u64B h4) (wf_u64B h5) (wf_u64B h6) (wf_u64B h7) (wf_u64B h8) (wf_u64B h9) (wf_u64B h10) (wf_u64B h11) (wf_u64B h12) (wf_u64B h13) (wf_u64B h14) (wf_u64B h15) (wf_u64B h16)
  generalize (cO a0_0 a0_1 a0_2 a0_3 a0_4 a0_5 a0_6 a0_7 a0_8 a0_9 a0_10 a0_11 a0_12 a0_13 a0_14 a0_15 a0_16) = c at *
  have hx := wf_u64B w3
  have hr : ∀ d : Nat → Int, refuses d 256 1 = false := fun d => rfl
  have hr3 : ∀ d : Nat → Int, refuses d 768 3 = false := fun d => rfl
  have e1 : ∀ d : Nat → Int, readZ d 256 1 = some (Go.bits .or .u64 (Go.bits .and .u64 (d 0) 786722) 8589934592) := fun d => by unfold readZ; rw [hr]; rfl
  have e3 : ∀ d : Nat → Int, readZ d 768 3 = some (Go.bits .or .u64 (Go.bits .andNot .u64 (d 0) 64424509440) 42949672960) := fun d => by unfold readZ; rw [hr3]; rfl
  have e0 : okW c 256 1 = true := by unfold okW; rw [e1]; rfl
  have es : stW c 256 1 a1 = upd c 0 (Go.bits .or .u64 (Go.bits .andNot .u64 (c 0) 786722) (Go.bits .and .u64 a1 786722)) := by unfold stW; rw [e0]; rfl
  rw [es]
  refine ⟨?_, same17_of fun i _ => ?_⟩
  · unfold viewsZ rdV
    rw [e0, e1, e3, e3]
    show ((((((true && true) && true) && true) && ((Go.bits .andNot .u64 (Go.bits .xor .u64 (Go.bits .or .u64 (Go.bits .andNot .u64 (c 0) 64424509440) 42949672960) (Go.bits .or .u64 (Go.bits .andNot .u64 (Go.bits .or .u64 (Go.bits .andNot .u64 (c 0) 786722) (Go.bits .and .u64 a1 786722)) 64424509440) 42949672960)) 786722) == 0)) && ((Go.bits .and .u64 (Go.bits .or .u64 (Go.bits .andNot .u64 (Go.bits .or .u64 (Go.bits .andNot .u64 (c 0) 786722) (Go.bits .and .u64 a1 786722)) 64424509440) 42949672960) 786722) == (Go.bits .and .u64 a1 786722))) && ((Go.bits .and .u64 (Go.bits .or .u64 (Go.bits .and .u64 (Go.bits .or .u64 (Go.bits .andNot .u64 (c 0) 786722) (Go.bits .and .u64 a1 786722)) 786722) 8589934592) 786722) == (Go.bits .and .u64 a1 786722))) = true
    rw [v1 (hb 0) hx, v2 (hb 0) hx, v3 (hb 0) hx, beq_self_eq_true, beq_self_eq_true]
    rfl
  · rw [upd_twice]
    unfold upd
    split
    · rename_i h; rw [h]
    · rfl
end Go.Proofs.Ytncdhfigfbhohaa.Pure
