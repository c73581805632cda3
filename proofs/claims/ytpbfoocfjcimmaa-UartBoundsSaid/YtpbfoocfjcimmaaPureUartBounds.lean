/- UartBounds: a line holds no more than sixteen bytes, and counts all that it lost; for all rows of bytes that are typed. No condition beyond the statement's own. -/
import Derived.Test.YtpbfoocfjcimmaaSaidUartBounds
namespace Go.Proofs.Ytpbfoocfjcimmaa.Pure
open Go.RowKit Go.Proofs.Ytpbfoocfjcimmaa.Q Go.Proofs.YtpbfoocfjcimmaaW.PrintWords Go.Proofs.YtpbfoocfjcimmaaW.PrintLast Go.Proofs.YtpbfoocfjcimmaaW.PrintMore Go.Proofs.Ytpbfoocfjcimmaa.L
set_option linter.unusedVariables false
theorem type_tells (i l : List Int) (lost : Int) (hi : i.length ≤ 16) (hl : l.length ≤ 1000) (h0 : 0 ≤ lost) (h1 : lost ≤ 1000000) :
    uart_Type.f i [] 0 lost l = some (i ++ l.take (min l.length (16 - i.length)), [], 0, lost + ((l.length : Int) - (min l.length (16 - i.length) : Nat))) := by
  unfold uart_Type.f
  have h16 : wrap64 (16 - (i.length : Int)) = ((16 - i.length : Nat) : Int) := by unfold wrap64; omega
  have hmn : mn (l.length : Int) ((16 - i.length : Nat) : Int) = ((min l.length (16 - i.length) : Nat) : Int) := by unfold mn; split <;> omega
  have hmx : mx 0 ((min l.length (16 - i.length) : Nat) : Int) = ((min l.length (16 - i.length) : Nat) : Int) := by unfold mx; split <;> omega
  have hcl : slices_Clone_byte_byte.f i = some i := by unfold slices_Clone_byte_byte.f; rw [if_pos (by omega)]
  rw [h16, hmn, hmx, hcl, Option.bind_some, if_pos (by omega), if_pos (by omega), if_pos (by simp; omega), Option.bind_some, if_pos (by omega), Int.toNat_natCast]
  obtain ⟨m, hm, hm1⟩ : ∃ m, min l.length (16 - i.length) = m ∧ m ≤ l.length := ⟨_, rfl, Nat.min_le_left _ _⟩
  rw [hm]
  have e1 : wrap64 ((l.length : Int) - (m : Nat)) = (l.length : Int) - (m : Nat) := w64 (by omega) (by omega)
  have e3 : wrap64 (lost + ((l.length : Int) - (m : Nat))) = lost + ((l.length : Int) - (m : Nat)) := w64 (by omega) (by omega)
  rw [e1, e3]
  have e2 : mn 2147483648 (lost + ((l.length : Int) - (m : Nat))) = lost + ((l.length : Int) - (m : Nat)) := by unfold mn; split <;> omega
  rw [e2]
theorem bounds_loop (L : List (List Int)) (hL : L.length ≤ 50) (d : Nat) : ∀ (k i : Nat) (n : Int) (u : List Int) (lost : Int), i ≤ L.length → L.length - i = d → d < k → u.length ≤ 16 → 0 ≤ lost → (u.length : Int) + lost = n → n ≤ 1000 * i →
    drawbridgelaw11_UartBounds.l0 k L n i u [] 0 lost = some true := by
  induction d with
  | zero =>
    intro k i n u lost h1 h2 h3 h4 h5 h6 h7
    obtain ⟨k, rfl⟩ : ∃ m, k = m + 1 := ⟨k - 1, by omega⟩
    rw [drawbridgelaw11_UartBounds.l0, if_neg (by omega)]; rfl
  | succ d ih =>
    intro k i n u lost h1 h2 h3 h4 h5 h6 h7
    obtain ⟨k, rfl⟩ : ∃ m, k = m + 1 := ⟨k - 1, by omega⟩
    rw [drawbridgelaw11_UartBounds.l0, if_pos (by omega), if_pos (by omega)]
    by_cases hb : ((rd_L1 L (i : Int)).length : Int) > 1000
    · rw [if_pos hb]; rfl
    · rw [if_neg hb, type_tells u _ lost h4 (by omega) h5 (by omega), Option.bind_some]
      obtain ⟨l, hl⟩ : ∃ l, rd_L1 L (i : Int) = l := ⟨_, rfl⟩
      rw [hl] at hb ⊢
      have hlen : (u ++ l.take (min l.length (16 - u.length))).length = u.length + min l.length (16 - u.length) := by rw [List.length_append, List.length_take]; omega
      simp only [hlen]
      obtain ⟨m, hm, hm1, hm2⟩ : ∃ m, min l.length (16 - u.length) = m ∧ m ≤ l.length ∧ m + u.length ≤ 16 := ⟨_, rfl, Nat.min_le_left _ _, by omega⟩
      rw [hm] at hlen ⊢
      have e0 : ((u.length + m : Nat) : Int) + (lost + ((l.length : Int) - (m : Nat))) = n + l.length := by omega
      have g4 : (u ++ l.take m).length ≤ 16 := by rw [hlen]; omega
      have g6 : ((u ++ l.take m).length : Int) + (lost + ((l.length : Int) - (m : Nat))) = n + l.length := by rw [hlen]; exact e0
      have g5 : 0 ≤ lost + ((l.length : Int) - (m : Nat)) := by omega
      have g7 : n + (l.length : Int) ≤ 1000 * ((i + 1 : Nat) : Int) := by omega
      have g8 : ¬ ((u.length + m : Nat) : Int) > 16 := by omega
      have j1 : i + 1 ≤ L.length := by omega
      have j2 : L.length - (i + 1) = d := by omega
      have j3 : d < k := by omega
      have e1 : wrap64 (((u.length + m : Nat) : Int) + (lost + ((l.length : Int) - (m : Nat)))) = n + l.length := by rw [e0]; exact w64 (by omega) (by omega)
      have e2 : wrap64 (n + (l.length : Int)) = n + l.length := w64 (by omega) (by omega)
      have e3 : wrap64 ((i : Int) + 1) = ((i + 1 : Nat) : Int) := by rw [w64 (by omega) (by omega)]; omega
      rw [if_neg g8, e1, e2, if_pos rfl, if_pos trivial, if_pos (by rfl), e3]
      exact ih k (i + 1) (n + l.length) (u ++ l.take m) (lost + ((l.length : Int) - (m : Nat))) j1 j2 j3 g4 g5 g6 g7
theorem UartBounds : UartBounds.Said := by
  intro L _ _
  refine ⟨52, ?_⟩
  unfold drawbridgelaw11_UartBounds.f
  by_cases h : (L.length : Int) > 50
  · rw [if_pos h]; rfl
  · rw [if_neg h]
    exact bounds_loop L (by omega) L.length 52 0 0 [] 0 (by omega) (by omega) (by omega) (by decide) (by decide) (by decide) (by decide)
end Go.Proofs.Ytpbfoocfjcimmaa.Pure
