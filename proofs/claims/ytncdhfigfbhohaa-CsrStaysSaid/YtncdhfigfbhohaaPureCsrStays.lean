import Derived.Test.YtncdhfigfbhohaaSaidCsrStays
import Derived.Test.YtncdhfigfbhohaaPcsr
namespace Go.Proofs.Ytncdhfigfbhohaa.Pure
open Go.RowKit Go.Proofs.Ytncdhfigfbhohaa.Q Go.Proofs.YtncdhfigfbhohaaW.PrintWords Go.Proofs.YtncdhfigfbhohaaW.PrintLast Go.Proofs.YtncdhfigfbhohaaW.PrintMore Go.Proofs.Ytncdhfigfbhohaa.L
set_option linter.unusedVariables false
set_option linter.unusedSimpArgs false
theorem CsrStays_bnd {a0_0 a0_1 a0_2 a0_3 a0_4 a0_5 a0_6 a0_7 a0_8 a0_9 a0_10 a0_11 a0_12 a0_13 a0_14 a0_15 a0_16 : Int} (h0 : u64B a0_0) (h1 : u64B a0_1) (h2 : u64B a0_2) (h3 : u64B a0_3) (h4 : u64B a0_4) (h5 : u64B a0_5) (h6 : u64B a0_6) (h7 : u64B a0_7) (h8 : u64B a0_8) (h9 : u64B a0_9) (h10 : u64B a0_10) (h11 : u64B a0_11) (h12 : u64B a0_12) (h13 : u64B a0_13) (h14 : u64B a0_14) (h15 : u64B a0_15) (h16 : u64B a0_16) : bnd (cO a0_0 a0_1 a0_2 a0_3 a0_4 a0_5 a0_6 a0_7 a0_8 a0_9 a0_10 a0_11 a0_12 a0_13 a0_14 a0_15 a0_16) := fun i => by
  show u64B ([a0_0, a0_1, a0_2, a0_3, a0_4, a0_5, a0_6, a0_7, a0_8, a0_9, a0_10, a0_11, a0_12, a0_13, a0_14, a0_15, a0_16].getD i 0)
  match i with
  | 0 => exact h0
  | 1 => exact h1
  | 2 => exact h2
  | 3 => exact h3
  | 4 => exact h4
  | 5 => exact h5
  | 6 => exact h6
  | 7 => exact h7
  | 8 => exact h8
  | 9 => exact h9
  | 10 => exact h10
  | 11 => exact h11
  | 12 => exact h12
  | 13 => exact h13
  | 14 => exact h14
  | 15 => exact h15
  | 16 => exact h16
  | n + 17 => exact ⟨by show (0 : Int) ≤ 0; omega, by show (0 : Int) < _; omega⟩
theorem ok_of {c : Nat → Int} {n p : Int} (h : okW c n p = true) : (∃ v, readZ c n p = some v ∧ seenZ c n = some v ∧ refuses c n p = false) ∧ (n = 769 ∨ ∃ i, ofI n = some i) := by
  unfold okW at h
  rw [Bool.and_eq_true, Bool.not_eq_true'] at h
  obtain ⟨h1, h2⟩ := h
  cases hr : readZ c n p with
  | none => rw [hr] at h1; cases h1
  | some v =>
    unfold readZ at hr
    cases hf : refuses c n p with
    | true => rw [hf] at hr; cases hr
    | false => rw [hf] at hr; exact ⟨⟨v, rfl, hr, rfl⟩, seen_of hr h2⟩
theorem write_769 (c : Nat → Int) (x : Int) : writeZ c 769 x = c := rfl
/-- The plain law of CsrStays. -/
theorem CsrStays : CsrStays.Said := by
  intro a0_0 a0_1 a0_2 a0_3 a0_4 a0_5 a0_6 a0_7 a0_8 a0_9 a0_10 a0_11 a0_12 a0_13 a0_14 a0_15 a0_16 a1 a2 a3 h0 h1 h2 h3 h4 h5 h6 h7 h8 h9 h10 h11 h12 h13 h14 h15 h16
  intro _ _ w3
  unfold drawbridgelaw05_CsrStays.f
  rw [if_pos]
  intro hc hok
  have hb := CsrStays_bnd (wf_u64B h0) (wf_u64B h1) (wf_u64B h2) (wf_u64B h3) (wf_u64B h4) (wf_u64B h5) (wf_u64B h6) (wf_u64B h7) (wf_u64B h8) (wf_u64B h9) (wf_u64B h10) (wf_u64B h11) (wf_u64B h12) (wf_u64B h13) (wf_u64B h14) (wf_u64B h15) (wf_u64B h16)
  generalize (cO a0_0 a0_1 a0_2 a0_3 a0_4 a0_5 a0_6 a0_7 a0_8 a0_9 a0_10 a0_11 a0_12 a0_13 a0_14 a0_15 a0_16) = c at *
  have hx := wf_u64B w3
  unfold stW
  rw [hok]
  show chk (writeZ c a1 a3) = true
  rcases (ok_of hok).2 with rfl | ⟨i, hi⟩
  · exact hc
  · rw [write_is hi]
    cases hm : modeBad a1 a3 with
    | true => exact hc
    | false => exact chk_upd hb (val_B hb hx hi) hc (kept hb hx hi hc hm)
end Go.Proofs.Ytncdhfigfbhohaa.Pure
