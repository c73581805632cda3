import Derived.Test.YtbidnolopbjlaaaHSaidSv39Apart
import Derived.Test.YtbidnolopbjlaaaHZ4
/- Sv39Apart: what lets a user in by pages never lets a supervisor fetch, nor read or write without its leave; for every memory, registers, address and kind. No condition beyond the statement's own. -/
set_option linter.unusedVariables false
set_option linter.unusedSimpArgs false
namespace Go.Proofs.Ytbidnolopbjlaaa.Pure
open Go.RowKit Go.Proofs.Ytbidnolopbjlaaa.Q Go.Proofs.YtbidnolopbjlaaaW.PrintWords Go.Proofs.YtbidnolopbjlaaaW.PrintLast Go.Proofs.YtbidnolopbjlaaaW.PrintMore Go.Proofs.Ytbidnolopbjlaaa.L
theorem not_sum (st : Int) (h : u64B st) : Go.bits .and .u64 (Go.bits .andNot .u64 st 262144) 262144 = 0 := by
  obtain ⟨S, rfl⟩ := Int.eq_ofNat_of_zero_le h.1
  have hS : S < 18446744073709551616 := by have := h.2; omega
  have e1 : Go.bits .andNot .u64 (S : Int) 262144 = ((S &&& (18446744073709551615 - 262144) : Nat) : Int) := u64_andNot_nat S 262144 hS (by decide)
  have hlt : S &&& (18446744073709551615 - 262144) < 18446744073709551616 := Nat.lt_of_le_of_lt Nat.and_le_left hS
  have e2 : Go.bits .and .u64 ((S &&& (18446744073709551615 - 262144) : Nat) : Int) 262144 = (((S &&& (18446744073709551615 - 262144)) &&& 262144 : Nat) : Int) := u64_and_nat _ 262144 hlt (by decide)
  rw [e1, e2, Nat.and_assoc, show (18446744073709551615 - 262144) &&& 262144 = 0 by decide +kernel, Nat.and_zero]
  rfl
theorem Sv39Apart : Sv39Apart.Said := by
  intro l satp status at_ kind hl hlb hs hst hat hk
  have hS := u64_wf hs
  have hST := u64_wf hst
  have hAT := u64_wf hat
  have hB : ∀ z ∈ l, byte z := fun z hz => byte_wf (hlb z hz)
  refine ⟨2, ?_⟩
  unfold drawbridgelaw08_Sv39Apart.f
  by_cases h : (l.length : Int) > 70000
  · rw [if_pos h]; rfl
  have hL : (l.length : Int) ≤ 70000 := by omega
  rw [if_neg h, drawbridgelaw08_Sv39Apart.j0]
  by_cases hm : satp / 1152921504606846976 = 8
  rotate_left
  · rw [if_pos (bne_iff_ne.2 hm)]; rfl
  have hST2 : u64B (Go.bits .andNot .u64 status 262144) := by
    obtain ⟨S, rfl⟩ := Int.eq_ofNat_of_zero_le hST.1
    have hS2 : S < 18446744073709551616 := by have := hST.2; omega
    have e1 : Go.bits .andNot .u64 (S : Int) 262144 = ((S &&& (18446744073709551615 - 262144) : Nat) : Int) := u64_andNot_nat S 262144 hS2 (by decide)
    rw [e1]
    have : S &&& (18446744073709551615 - 262144) ≤ S := Nat.and_le_left
    exact ⟨by omega, by omega⟩
  rw [hm, bne_self_eq_false, if_neg (by decide), trans_is l satp status 0 at_ kind hS hST hAT hL hB, Option.bind_some, trans_is l satp status 1 at_ 0 hS hST hAT hL hB, Option.bind_some, trans_is l satp _ 1 at_ kind hS hST2 hAT hL hB, Option.bind_some]
  have t0 : transZ l satp status 0 at_ kind = finZ l status 0 at_ kind (leafZ l at_ 3 (T0Z satp)) := by rw [trans_fin, if_neg (by omega)]
  have t1 : transZ l satp status 1 at_ 0 = finZ l status 1 at_ 0 (leafZ l at_ 3 (T0Z satp)) := by rw [trans_fin, if_neg (by omega)]
  have t2 : transZ l satp (Go.bits .andNot .u64 status 262144) 1 at_ kind = finZ l (Go.bits .andNot .u64 status 262144) 1 at_ kind (leafZ l at_ 3 (T0Z satp)) := by rw [trans_fin, if_neg (by omega)]
  rw [t0, t1, t2]
  rcases fin_cases l status 0 at_ kind (leafZ l at_ 3 (T0Z satp)) with ⟨f, hf, e, _⟩ | ⟨p, e, i, hLf, hmy, hk2, e1⟩
  · rw [e]; simp only [Bool.false_eq_true, if_false]; rfl
  · rw [e1, hLf]
    simp only [if_true]
    have hu : Go.bits .and .u64 e 16 > 0 := by
      unfold mayZ sv39_may.f at hmy
      apply Decidable.byContradiction
      intro hn
      simp only [hn, if_false, show ¬ ((0 : Int) ≥ 1) by decide] at hmy
      revert hmy
      (repeat' split) <;> simp
    have f1 : mayZ e status 1 0 = false := by
      unfold mayZ sv39_may.f
      rw [if_pos rfl, if_pos (by decide), if_pos hu]; rfl
    have f2 : mayZ e (Go.bits .andNot .u64 status 262144) 1 kind = false := by
      unfold mayZ sv39_may.f
      rw [not_sum status hST]
      simp only [hu, if_true, show ¬ ((0 : Int) > 0) by decide, if_false, show (1 : Int) ≥ 1 by decide]
      (repeat' split) <;> rfl
    rcases fin_cases l status 1 at_ 0 (2, p, e, i) with ⟨f, hf, g, _⟩ | ⟨p', e', i', hE, hy, _, _⟩
    rotate_left
    · injection hE with _ hE; injection hE with _ hE; injection hE with hE _
      rw [← hE, f1] at hy; cases hy
    rcases fin_cases l (Go.bits .andNot .u64 status 262144) 1 at_ kind (2, p, e, i) with ⟨f', hf', g', _⟩ | ⟨p', e', i', hE, hy, _, _⟩
    rotate_left
    · injection hE with _ hE; injection hE with _ hE; injection hE with hE _
      rw [← hE, f2] at hy; cases hy
    rw [g, g']
    simp only [Bool.false_eq_true, if_false]
    rfl
end Go.Proofs.Ytbidnolopbjlaaa.Pure
