/- TrapFirst, in plain numbers. -/
import Derived.Test.YtnlmndpdalgppaaSaidTrapFirst
import Derived.Test.YtnlmndpdalgppaaPpend
set_option linter.unusedVariables false
namespace Go.Proofs.Ytnlmndpdalgppaa.Pure
open Go.RowKit Go.Proofs.Ytnlmndpdalgppaa.Q Go.Proofs.YtnlmndpdalgppaaW.PrintWords Go.Proofs.YtnlmndpdalgppaaW.PrintLast Go.Proofs.YtnlmndpdalgppaaW.PrintMore Go.Proofs.Ytnlmndpdalgppaa.L
theorem tb_2730 : ∀ i, i < 64 → tb 2730 i = decide (i = 1 ∨ i = 3 ∨ i = 5 ∨ i = 7 ∨ i = 9 ∨ i = 11) := by decide +kernel
theorem TrapFirst : TrapFirst.Said := by
  intro s a0_1 d ie ip a0_5 a0_6 a0_7 a0_8 a0_9 a0_10 a0_11 a0_12 a0_13 a0_14 a0_15 a0_16 priv h0 h1 h2 h3 h4 h5 h6 h7 h8 h9 h10 h11 h12 h13 h14 h15 h16 _
  have hs := wf_u64B h0
  have hd := wf_u64B h2
  have he := wf_u64B h3
  have hp := wf_u64B h4
  have hw := and_B hp he
  have hB : u64B 2730 := by decide
  have hm := and_B (andNot_B hw hd) hB
  refine ⟨0 + 2, ?_⟩
  unfold drawbridgelaw06_TrapFirst.f trap_Pending.f
  rw [Option.bind_some]
  have tm : ∀ i, i < 64 → tb (Go.bits .and .u64 (Go.bits .andNot .u64 (Go.bits .and .u64 ip ie) d) 2730) i = ((tb (Go.bits .and .u64 ip ie) i && !tb d i) && decide (i = 1 ∨ i = 3 ∨ i = 5 ∨ i = 7 ∨ i = 9 ∨ i = 11)) := fun i hi => by
    rw [tb_and (andNot_B hw hd) hB, tb_andNot hw hd, tb_2730 i hi]
  have hc := pend_cases s d ie ip priv hd he hp
  have g1 : (pendZ s d ie ip priv).1 ≥ 0 ∧ (pendZ s d ie ip priv).1 ≤ 11 := by
    rcases hc with ⟨n, hn, e, _⟩ | ⟨e, _⟩
    · rw [e]; rcases ordL_mem hn with rfl | rfl | rfl | rfl | rfl | rfl <;> decide
    · rw [e]; decide
  have fin : ∀ (k : Nat) (n : Int) (ok : Bool), n ≥ 0 → n ≤ 11 → drawbridgelaw06_TrapFirst.j1 (k + 1) n ok false = some true := fun k n ok h0 h1 => by
    rw [drawbridgelaw06_TrapFirst.j1, if_neg (by decide), if_pos h0, if_pos h1]; rfl
  by_cases hlt : priv < 3
  · rw [if_pos hlt, drawbridgelaw06_TrapFirst.j0]
    have hc1 : c1Z s priv = true := by unfold c1Z; rw [decide_eq_true hlt]; rfl
    by_cases hz : Go.bits .and .u64 (Go.bits .andNot .u64 (Go.bits .and .u64 ip ie) d) 2730 = 0
    · rw [hz, if_neg (by decide), if_neg (by omega)]
      exact fin 0 _ _ g1.1 g1.2
    · rw [if_pos (bne_iff_ne.mpr hz)]
      have hex : ∃ i, i < 64 ∧ (tb (Go.bits .and .u64 ip ie) i && !tb d i) = true ∧ (i = 1 ∨ i = 3 ∨ i = 5 ∨ i = 7 ∨ i = 9 ∨ i = 11) := by
        apply Classical.byContradiction
        intro hno
        refine hz (tb_ext hm B_0 (fun i hi => ?_))
        rw [tm i hi, tb_zero]
        cases hh : ((tb (Go.bits .and .u64 ip ie) i && !tb d i) && decide (i = 1 ∨ i = 3 ∨ i = 5 ∨ i = 7 ∨ i = 9 ∨ i = 11))
        · rfl
        · rw [Bool.and_eq_true] at hh
          exact absurd ⟨i, hi, hh.1, of_decide_eq_true hh.2⟩ hno
      obtain ⟨i, hi, hti, hio⟩ := hex
      have hmem : ((i : Nat) : Int) ∈ ordL := by rcases hio with rfl | rfl | rfl | rfl | rfl | rfl <;> decide
      have hbad : ¬ (c1Z s priv = true → ∀ m ∈ ordL, (tb (Go.bits .and .u64 ip ie) m.toNat && !tb d m.toNat) = false) := fun h => by
        have := h hc1 _ hmem
        rw [Int.toNat_natCast, hti] at this
        cases this
      rcases hc with ⟨n, hn, e, t, ⟨_, td⟩ | ⟨_, _, h⟩⟩ | ⟨_, h⟩
      · rw [e, if_pos rfl]
        have hn64 : n = ((n.toNat : Nat) : Int) ∧ n.toNat < 64 := by have := ordL_small n hn; omega
        have hwn : IntKind.u64.wrap n = ((n.toNat : Nat) : Int) := by rw [IntKind.wrap_u64]; omega
        rw [hwn, if_pos (by omega), shr_lit _ n.toNat _ rfl hn64.2, bit_one _ _ hm hn64.2]
        have : tb (Go.bits .and .u64 (Go.bits .andNot .u64 (Go.bits .and .u64 ip ie) d) 2730) n.toNat = true := by
          rw [tm _ hn64.2, t, td]
          rcases ordL_mem hn with rfl | rfl | rfl | rfl | rfl | rfl <;> decide
        rw [if_pos (by rw [this]; rfl)]
        rfl
      · exact absurd h hbad
      · exact absurd h hbad
  · rw [if_neg hlt, drawbridgelaw06_TrapFirst.j0, if_neg (by decide), if_pos (by omega)]
    by_cases h8 : Go.bits .and .u64 s 8 = 0
    · have hb3 : tb s 3 = false := by
        have := and_bit s 3 hs (by decide) 8 (by decide)
        rw [h8] at this
        cases h : tb s 3
        · rfl
        · rw [h, if_pos rfl] at this; exact absurd this (by decide)
      have hc1 : c1Z s priv = false := by
        unfold c1Z
        rw [decide_eq_false hlt, bitZ_is s 3 3 hs rfl (by decide), hb3]; rfl
      have hc2 : c2Z s priv = false := by
        unfold c2Z
        rw [decide_eq_false (by omega), decide_eq_false (by omega)]; rfl
      rcases hc with ⟨n, hn, e, t, ⟨h, _⟩ | ⟨h, _⟩⟩ | ⟨e, _⟩
      · rw [hc1] at h; cases h
      · rw [hc2] at h; cases h
      · rw [e, h8, drawbridgelaw06_TrapFirst.j1, if_pos (by decide), if_neg (by decide)]
        rfl
    · rw [show (Go.bits .and .u64 s 8 == 0) = false from beq_eq_false_iff_ne.mpr h8]
      exact fin 0 _ _ g1.1 g1.2
end Go.Proofs.Ytnlmndpdalgppaa.Pure
