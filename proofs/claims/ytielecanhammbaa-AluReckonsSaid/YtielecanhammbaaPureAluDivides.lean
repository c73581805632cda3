/- AluDivides, in plain numbers. -/
import Derived.Test.YtielecanhammbaaQx6
import Derived.Test.YtielecanhammbaaBa
import Derived.Test.YtielecanhammbaaBb
namespace Go.Proofs.Ytielecanhammbaa.Pure
open Go.RowKit Go.Proofs.Ytielecanhammbaa.Q Go.Proofs.Ytielecanhammbaa.L Go.Proofs.YtielecanhammbaaW.PrintWords Go.Proofs.YtielecanhammbaaW.PrintLast Go.Proofs.YtielecanhammbaaW.PrintMore
set_option linter.unusedVariables false
set_option linter.unusedSimpArgs false
theorem do_divu (a b : Int) : alu_Do.f 21 false a b = alu_number_divu.f a b := rfl
theorem do_remu (a b : Int) : alu_Do.f 23 false a b = alu_number_remu.f a b := rfl
theorem do_div (a b : Int) : alu_Do.f 20 false a b = alu_number_div.f a b := rfl
theorem do_rem (a b : Int) : alu_Do.f 22 false a b = alu_number_rem.f a b := rfl
theorem mod_sum {M s b t S B T : Int} (hs : s % M = S % M) (hb : b % M = B % M) (ht : t % M = T % M) : (s * b % M + t) % M = (S * B + T) % M := by
  rw [Int.add_emod, Int.emod_emod, Int.mul_emod, hs, hb, ht, ← Int.mul_emod, ← Int.add_emod]
theorem sg_mod (a : Int) : wrap64 a % 18446744073709551616 = a % 18446744073709551616 := by unfold wrap64; omega
/-- signed quotient and rest -/
theorem signed_parts (a b : Int) (ha : u64B a) (hb : u64B b) (h0 : b ≠ 0) : ∃ s t, alu_number_div.f a b = some s ∧ alu_number_rem.f a b = some t ∧ IntKind.u64.wrap (IntKind.u64.wrap (s * b) + t) = a ∧ (t = 0 ∨ decide (t ≥ 9223372036854775808) = decide (a ≥ 9223372036854775808)) := by
  have hA := sg_range a
  have hB := sg_range b
  have mA := sg_mod a
  have mB := sg_mod b
  have cA := wrap64_cases a ha
  have cB := wrap64_cases b hb
  have hB0 : wrap64 b ≠ 0 := by intro h; rw [h] at mB; obtain ⟨b0, b1⟩ := hb; omega
  unfold alu_number_div.f alu_number_rem.f
  rw [if_neg h0, if_neg h0, if_neg hB0, if_neg hB0]
  generalize hSA : wrap64 a = A at *
  generalize hSB : wrap64 b = B at *
  obtain ⟨a0, a1⟩ := ha
  obtain ⟨b0, b1⟩ := hb
  by_cases hm : B = -1
  · subst hm
    have hbv : b = 18446744073709551615 := by omega
    rw [if_pos rfl]
    by_cases hl : A = -9223372036854775808
    · rw [if_pos hl, if_pos rfl]
      refine ⟨_, _, rfl, rfl, ?_, Or.inl rfl⟩
      rw [hbv]; simp only [IntKind.wrap_u64]; omega
    · rw [if_neg hl]
      refine ⟨_, _, rfl, rfl, ?_, Or.inl rfl⟩
      have hd : Int.tdiv A (-1) = -A := by rw [Int.tdiv_neg, Int.tdiv_one]
      rw [hbv, hd, w64 (by omega) (by omega)]; simp only [IntKind.wrap_u64]; omega
  · rw [if_neg hm, ite_self, if_neg hm]
    refine ⟨_, _, rfl, rfl, ?_, ?_⟩
    · have e := mod_sum (M := 18446744073709551616) (s := IntKind.u64.wrap (wrap64 (A.tdiv B))) (b := b) (t := IntKind.u64.wrap (A.tmod B)) (S := A.tdiv B) (B := B) (T := A.tmod B)
        (by rw [IntKind.wrap_u64, Int.emod_emod]; exact sg_mod _) mB.symm (by rw [IntKind.wrap_u64, Int.emod_emod])
      rw [IntKind.wrap_u64, IntKind.wrap_u64, e, Int.mul_comm, Int.mul_tdiv_add_tmod]
      omega
    · rcases (show A < 0 ∨ 0 ≤ A by omega) with hn | hp
      · have h1 : A.tmod B ≤ 0 := by
          have := Int.tmod_nonneg (a := -A) B (by omega)
          rw [Int.neg_tmod] at this; omega
        have h2 : A ≤ A.tmod B := by
          have h3 := Int.natAbs_tmod A B
          have h4 := Nat.mod_le A.natAbs B.natAbs
          omega
        by_cases hz : A.tmod B = 0
        · left; rw [hz]; decide
        · right
          have : IntKind.u64.wrap (A.tmod B) = A.tmod B + 18446744073709551616 := by rw [IntKind.wrap_u64]; omega
          rw [this, decide_eq_true (by omega), decide_eq_true (by omega)]
      · have h1 : 0 ≤ A.tmod B := Int.tmod_nonneg B hp
        have h2 : A.tmod B ≤ A := by
          have h3 := Int.natAbs_tmod A B
          have h4 := Nat.mod_le A.natAbs B.natAbs
          omega
        right
        have : IntKind.u64.wrap (A.tmod B) = A.tmod B := by rw [IntKind.wrap_u64]; omega
        rw [this, decide_eq_false (by omega), decide_eq_false (by omega)]
theorem AluDivides : drawbridgelaw04_AluDivides.Pure := by
  intro a b h0 h1
  have ha := wf_u64B h0
  have hb := wf_u64B h1
  refine ⟨4, ?_⟩
  unfold drawbridgelaw04_AluDivides.f
  rw [do_divu, do_remu, do_div, do_rem]
  by_cases hz : b = 0
  · subst hz
    unfold alu_number_divu.f alu_number_remu.f alu_number_div.f alu_number_rem.f
    simp only [if_true, Option.bind_some, heads04]
  · obtain ⟨s, t, es, et, e1, e2⟩ := signed_parts a b ha hb hz
    rw [es, et]
    unfold alu_number_divu.f alu_number_remu.f
    obtain ⟨a0, a1⟩ := ha
    obtain ⟨b0, b1⟩ := hb
    have q0 : 0 ≤ Int.tdiv a b := Int.tdiv_nonneg a0 b0
    have q1 : Int.tdiv a b ≤ a := by rw [Int.tdiv_eq_ediv_of_nonneg a0]; exact Int.ediv_le_self _ a0
    have r0 : 0 ≤ Int.tmod a b := Int.tmod_nonneg b a0
    have r1 : Int.tmod a b < b := Int.tmod_lt_of_pos a (by omega)
    have hs := Int.mul_tdiv_add_tmod a b
    have wq : IntKind.u64.wrap (Int.tdiv a b) = Int.tdiv a b := by rw [IntKind.wrap_u64]; omega
    have e3 : IntKind.u64.wrap (IntKind.u64.wrap (Int.tdiv a b * b) + Int.tmod a b) = a := by
      rw [Int.mul_comm]
      have : 0 ≤ b * Int.tdiv a b := Int.mul_nonneg b0 q0
      simp only [IntKind.wrap_u64]; omega
    simp only [if_neg hz, Option.bind_some, wq]
    rw [if_pos e3, if_neg (by omega), e1]
    have hne : (a != a) = false := by simp
    rw [hne]
    simp only [drawbridgelaw04_AluDivides.j0, drawbridgeref04_Neg.f, Option.bind_some, heads04]
    rw [if_neg (by decide)]
    rcases e2 with e2 | e2
    · rw [if_pos e2]
    · rw [e2]; simp
end Go.Proofs.Ytielecanhammbaa.Pure
