import Derived.Test.YtmlpnjoejdpblaaEld1
import Derived.Test.YtmlpnjoejdpblaaEld2
import Derived.Test.YtmlpnjoejdpblaaEld3
import Derived.Test.YtmlpnjoejdpblaaEld4
import Derived.Test.YtmlpnjoejdpblaaEld5
import Derived.Test.YtmlpnjoejdpblaaPbest
import Derived.Test.YtmlpnjoejdpblaaVf
import Derived.Test.YtmlpnjoejdpblaaEst1
import Derived.Test.YtmlpnjoejdpblaaEst2
import Derived.Test.YtmlpnjoejdpblaaEst3
import Derived.Test.YtmlpnjoejdpblaaEst4
import Derived.Test.YtmlpnjoejdpblaaEst5
import Derived.Test.YtmlpnjoejdpblaaQx0
import Derived.Laws.BitsAllLaws
import Derived.Laws.BitsLemmas
import Derived.Test.YtmlpnjoejdpblaaSq
import Derived.Test.YtmlpnjoejdpblaaQx2
import Derived.Test.YtmlpnjoejdpblaaQx5
import Derived.Test.YtmlpnjoejdpblaaSt
section
/- plic.Load, as those who call it have it. -/
namespace Go.Proofs.Ytmlpnjoejdpblaa.Q
open Go.RowKit Go.Proofs.YtmlpnjoejdpblaaW.PrintWords Go.Proofs.YtmlpnjoejdpblaaW.PrintLast Go.Proofs.YtmlpnjoejdpblaaW.PrintMore Go.Proofs.Ytmlpnjoejdpblaa.L
attribute [local go_sem] Instr.field part asAgg lt_step max2_int min2_int max_two min_two max_three min_three max_four min_four lt_0_1 lt_0_2 lt_1_2 lt_0_3 lt_1_3 lt_2_3 lt_0_4 lt_1_4 lt_2_4 lt_3_4 lt_0_5 lt_1_5 lt_2_5 lt_3_5 lt_4_5 lt_0_6 lt_1_6 lt_2_6 lt_3_6 lt_4_6 lt_5_6 lt_0_7 lt_1_7 lt_2_7 lt_3_7 lt_4_7 lt_5_7 lt_6_7 lt_0_8 lt_1_8 lt_2_8 lt_3_8 lt_4_8 lt_5_8 lt_6_8 lt_7_8
set_option linter.unusedVariables false
set_option linter.unusedSimpArgs false
def claimZ (l0_0 : List Int) (a0_1 : Int) (a0_2 : Int) (l0_3 : List Int) (l0_4 : List Int) (k : Int) : Option (Int × List Int × Int × Int × List Int × List Int × Bool) :=
  if bestZ l0_0 a0_1 l0_3 l0_4 k = 0 then some (0, l0_0, a0_1, a0_2, l0_3, l0_4, true) else if bestZ l0_0 a0_1 l0_3 l0_4 k = 1 then some (1, l0_0, Go.bits .andNot .i64 a0_1 2, Go.bits .or .i64 a0_2 2, l0_3, l0_4, true) else some (2, l0_0, Go.bits .andNot .i64 a0_1 4, Go.bits .or .i64 a0_2 4, l0_3, l0_4, true)
def plic_Load.f (l0_0 : List Int) (a0_1 : Int) (a0_2 : Int) (l0_3 : List Int) (l0_4 : List Int) (a1 : Int) (a2 : Int) : Option (Int × List Int × Int × Int × List Int × List Int × Bool) :=
  if checkZ l0_0 a0_1 a0_2 l0_3 l0_4 = true ∧ a2 = 4 then
    (if a1 = 4 then some (IntKind.u64.wrap (rd l0_0 1), l0_0, a0_1, a0_2, l0_3, l0_4, true) else if a1 = 8 then some (IntKind.u64.wrap (rd l0_0 2), l0_0, a0_1, a0_2, l0_3, l0_4, true) else if a1 = 4096 then some (IntKind.u64.wrap a0_1, l0_0, a0_1, a0_2, l0_3, l0_4, true) else if a1 = 8192 then some (IntKind.u64.wrap (rd l0_3 0), l0_0, a0_1, a0_2, l0_3, l0_4, true) else if a1 = 8320 then some (IntKind.u64.wrap (rd l0_3 1), l0_0, a0_1, a0_2, l0_3, l0_4, true) else if a1 = 2097152 then some (IntKind.u64.wrap (rd l0_4 0), l0_0, a0_1, a0_2, l0_3, l0_4, true) else if a1 = 2101248 then some (IntKind.u64.wrap (rd l0_4 1), l0_0, a0_1, a0_2, l0_3, l0_4, true)
     else if a1 = 2097156 then claimZ l0_0 a0_1 a0_2 l0_3 l0_4 0 else if a1 = 2101252 then claimZ l0_0 a0_1 a0_2 l0_3 l0_4 1 else some (0, l0_0, a0_1, a0_2, l0_3, l0_4, false))
  else some (0, l0_0, a0_1, a0_2, l0_3, l0_4, false)
theorem plic_Load.calls (P0_0_ : Nat → Prop) (A0_0 : Option Addr) (c0_0 : Nat) (l0_0 : List Int) (a0_1 : Int) (a0_2 : Int) (P0_3_ : Nat → Prop) (A0_3 : Option Addr) (c0_3 : Nat) (l0_3 : List Int) (P0_4_ : Nat → Prop) (A0_4 : Option Addr) (c0_4 : Nat) (l0_4 : List Int) (a1 : Int) (a2 : Int) (r1 : Int) (r2 : List Int) (r3 : Int) (r4 : Int) (r5 : List Int) (r6 : List Int) (r7 : Bool) (w : World) (hs0_0 : Kd.V (Kd.int .i64) 3 w w.heap.size (fun k_ => P0_0_ k_) (.slice A0_0 l0_0.length c0_0) l0_0) (hs0_3 : Kd.V (Kd.int .i64) 3 w w.heap.size (fun k_ => P0_3_ k_) (.slice A0_3 l0_3.length c0_3) l0_3) (hs0_4 : Kd.V (Kd.int .i64) 3 w w.heap.size (fun k_ => P0_4_ k_) (.slice A0_4 l0_4.length c0_4) l0_4) (h : plic_Load.f l0_0 a0_1 a0_2 l0_3 l0_4 a1 a2 = some (r1, r2, r3, r4, r5, r6, r7)) :
    Calls Try.prog 11 #[.agg #[.slice A0_0 l0_0.length c0_0, .int .i64 a0_1, .int .i64 a0_2, .slice A0_3 l0_3.length c0_3, .slice A0_4 l0_4.length c0_4], .int .u64 a1, .int .i64 a2] w fun e w' => ∃ v1_ v4_ v5_ : Value, e = .returned (.tuple #[.int .u64 r1, .agg #[v1_, .int .i64 r3, .int .i64 r4, v4_, v5_], .bool r7]) ∧ Kd.V (Kd.int .i64) 3 w' w.heap.size (fun k_ => ((P0_0_ k_ ∨ P0_3_ k_ ∨ P0_4_ k_) ∨ w.heap.size ≤ k_)) v1_ r2 ∧ Kd.V (Kd.int .i64) 3 w' w.heap.size (fun k_ => ((P0_0_ k_ ∨ P0_3_ k_ ∨ P0_4_ k_) ∨ w.heap.size ≤ k_)) v4_ r5 ∧ Kd.V (Kd.int .i64) 3 w' w.heap.size (fun k_ => ((P0_0_ k_ ∨ P0_3_ k_ ∨ P0_4_ k_) ∨ w.heap.size ≤ k_)) v5_ r6 ∧ Below w.heap.size w w' := by
  obtain ⟨_, hc0, hF0⟩ := V_F hs0_0
  obtain ⟨_, hc3, hF3⟩ := V_F hs0_3
  obtain ⟨_, hc4, hF4⟩ := V_F hs0_4
  have g0 := Kd.F_now hF0
  have g3 := Kd.F_now hF3
  have g4 := Kd.F_now hF4
  have key : r2 = l0_0 ∧ r5 = l0_3 ∧ r6 = l0_4 ∧ Calls Try.prog 11 #[.agg #[.slice A0_0 l0_0.length c0_0, .int .i64 a0_1, .int .i64 a0_2, .slice A0_3 l0_3.length c0_3, .slice A0_4 l0_4.length c0_4], .int .u64 a1, .int .i64 a2] w fun e w' => e = .returned (.tuple #[.int .u64 r1, .agg #[.slice A0_0 l0_0.length c0_0, .int .i64 r3, .int .i64 r4, .slice A0_3 l0_3.length c0_3, .slice A0_4 l0_4.length c0_4], .bool r7]) ∧ Below w.heap.size w w' := by
    unfold plic_Load.f at h
    by_cases hg : checkZ l0_0 a0_1 a0_2 l0_3 l0_4 = true ∧ a2 = 4
    · rw [if_pos hg] at h
      obtain ⟨hck, rfl⟩ := hg
      by_cases h4 : a1 = 4
      · rw [if_pos h4] at h
        subst h4
        simp only [Option.some.injEq, Prod.mk.injEq] at h
        obtain ⟨rfl, rfl, rfl, rfl, rfl, rfl, rfl⟩ := h
        exact ⟨rfl, rfl, rfl, load_p1 _ _ l0_0 a0_1 a0_2 _ _ l0_3 _ _ l0_4 w hck g0 g3 g4 hc0 hc3 hc4⟩
      rw [if_neg h4] at h
      by_cases h8 : a1 = 8
      · rw [if_pos h8] at h
        subst h8
        simp only [Option.some.injEq, Prod.mk.injEq] at h
        obtain ⟨rfl, rfl, rfl, rfl, rfl, rfl, rfl⟩ := h
        exact ⟨rfl, rfl, rfl, load_p2 _ _ l0_0 a0_1 a0_2 _ _ l0_3 _ _ l0_4 w hck g0 g3 g4 hc0 hc3 hc4⟩
      rw [if_neg h8] at h
      by_cases h4096 : a1 = 4096
      · rw [if_pos h4096] at h
        subst h4096
        simp only [Option.some.injEq, Prod.mk.injEq] at h
        obtain ⟨rfl, rfl, rfl, rfl, rfl, rfl, rfl⟩ := h
        exact ⟨rfl, rfl, rfl, load_pend _ _ l0_0 a0_1 a0_2 _ _ l0_3 _ _ l0_4 w hck g0 g3 g4 hc0 hc3 hc4⟩
      rw [if_neg h4096] at h
      by_cases h8192 : a1 = 8192
      · rw [if_pos h8192] at h
        subst h8192
        simp only [Option.some.injEq, Prod.mk.injEq] at h
        obtain ⟨rfl, rfl, rfl, rfl, rfl, rfl, rfl⟩ := h
        exact ⟨rfl, rfl, rfl, load_e0 _ _ l0_0 a0_1 a0_2 _ _ l0_3 _ _ l0_4 w hck g0 g3 g4 hc0 hc3 hc4⟩
      rw [if_neg h8192] at h
      by_cases h8320 : a1 = 8320
      · rw [if_pos h8320] at h
        subst h8320
        simp only [Option.some.injEq, Prod.mk.injEq] at h
        obtain ⟨rfl, rfl, rfl, rfl, rfl, rfl, rfl⟩ := h
        exact ⟨rfl, rfl, rfl, load_e1 _ _ l0_0 a0_1 a0_2 _ _ l0_3 _ _ l0_4 w hck g0 g3 g4 hc0 hc3 hc4⟩
      rw [if_neg h8320] at h
      by_cases h2097152 : a1 = 2097152
      · rw [if_pos h2097152] at h
        subst h2097152
        simp only [Option.some.injEq, Prod.mk.injEq] at h
        obtain ⟨rfl, rfl, rfl, rfl, rfl, rfl, rfl⟩ := h
        exact ⟨rfl, rfl, rfl, load_t0 _ _ l0_0 a0_1 a0_2 _ _ l0_3 _ _ l0_4 w hck g0 g3 g4 hc0 hc3 hc4⟩
      rw [if_neg h2097152] at h
      by_cases h2101248 : a1 = 2101248
      · rw [if_pos h2101248] at h
        subst h2101248
        simp only [Option.some.injEq, Prod.mk.injEq] at h
        obtain ⟨rfl, rfl, rfl, rfl, rfl, rfl, rfl⟩ := h
        exact ⟨rfl, rfl, rfl, load_t1 _ _ l0_0 a0_1 a0_2 _ _ l0_3 _ _ l0_4 w hck g0 g3 g4 hc0 hc3 hc4⟩
      rw [if_neg h2101248] at h
      by_cases h2097156 : a1 = 2097156
      · rw [if_pos h2097156] at h
        subst h2097156
        unfold claimZ at h
        have hb := best_is l0_0 a0_1 a0_2 l0_3 l0_4 0 0 hck (by decide)
        by_cases hb0 : bestZ l0_0 a0_1 l0_3 l0_4 0 = 0
        · rw [if_pos hb0] at h
          rw [hb0] at hb
          simp only [Option.some.injEq, Prod.mk.injEq] at h
          obtain ⟨rfl, rfl, rfl, rfl, rfl, rfl, rfl⟩ := h
          exact ⟨rfl, rfl, rfl, load_c00 _ _ l0_0 a0_1 a0_2 _ _ l0_3 _ _ l0_4 w hck hb g0 g3 g4 hc0 hc3 hc4⟩
        rw [if_neg hb0] at h
        by_cases hb1 : bestZ l0_0 a0_1 l0_3 l0_4 0 = 1
        · rw [if_pos hb1] at h
          rw [hb1] at hb
          simp only [Option.some.injEq, Prod.mk.injEq] at h
          obtain ⟨rfl, rfl, rfl, rfl, rfl, rfl, rfl⟩ := h
          exact ⟨rfl, rfl, rfl, load_c01 _ _ l0_0 a0_1 a0_2 _ _ l0_3 _ _ l0_4 w hck hb g0 g3 g4 hc0 hc3 hc4⟩
        rw [if_neg hb1] at h
        rw [show bestZ l0_0 a0_1 l0_3 l0_4 0 = 2 by rcases best_cases l0_0 a0_1 l0_3 l0_4 0 with e | e | e; exact absurd e hb0; exact absurd e hb1; exact e] at hb
        simp only [Option.some.injEq, Prod.mk.injEq] at h
        obtain ⟨rfl, rfl, rfl, rfl, rfl, rfl, rfl⟩ := h
        exact ⟨rfl, rfl, rfl, load_c02 _ _ l0_0 a0_1 a0_2 _ _ l0_3 _ _ l0_4 w hck hb g0 g3 g4 hc0 hc3 hc4⟩
      rw [if_neg h2097156] at h
      by_cases h2101252 : a1 = 2101252
      · rw [if_pos h2101252] at h
        subst h2101252
        unfold claimZ at h
        have hb := best_is l0_0 a0_1 a0_2 l0_3 l0_4 1 0 hck (by decide)
        by_cases hb0 : bestZ l0_0 a0_1 l0_3 l0_4 1 = 0
        · rw [if_pos hb0] at h
          rw [hb0] at hb
          simp only [Option.some.injEq, Prod.mk.injEq] at h
          obtain ⟨rfl, rfl, rfl, rfl, rfl, rfl, rfl⟩ := h
          exact ⟨rfl, rfl, rfl, load_c10 _ _ l0_0 a0_1 a0_2 _ _ l0_3 _ _ l0_4 w hck hb g0 g3 g4 hc0 hc3 hc4⟩
        rw [if_neg hb0] at h
        by_cases hb1 : bestZ l0_0 a0_1 l0_3 l0_4 1 = 1
        · rw [if_pos hb1] at h
          rw [hb1] at hb
          simp only [Option.some.injEq, Prod.mk.injEq] at h
          obtain ⟨rfl, rfl, rfl, rfl, rfl, rfl, rfl⟩ := h
          exact ⟨rfl, rfl, rfl, load_c11 _ _ l0_0 a0_1 a0_2 _ _ l0_3 _ _ l0_4 w hck hb g0 g3 g4 hc0 hc3 hc4⟩
        rw [if_neg hb1] at h
        rw [show bestZ l0_0 a0_1 l0_3 l0_4 1 = 2 by rcases best_cases l0_0 a0_1 l0_3 l0_4 1 with e | e | e; exact absurd e hb0; exact absurd e hb1; exact e] at hb
        simp only [Option.some.injEq, Prod.mk.injEq] at h
        obtain ⟨rfl, rfl, rfl, rfl, rfl, rfl, rfl⟩ := h
        exact ⟨rfl, rfl, rfl, load_c12 _ _ l0_0 a0_1 a0_2 _ _ l0_3 _ _ l0_4 w hck hb g0 g3 g4 hc0 hc3 hc4⟩
      rw [if_neg h2101252] at h
      simp only [Option.some.injEq, Prod.mk.injEq] at h
      obtain ⟨rfl, rfl, rfl, rfl, rfl, rfl, rfl⟩ := h
      exact ⟨rfl, rfl, rfl, load_none _ _ l0_0 a0_1 a0_2 _ _ l0_3 _ _ l0_4 a1 w hck (beq_eq_false_iff_ne.mpr h4) (beq_eq_false_iff_ne.mpr h8) (beq_eq_false_iff_ne.mpr h4096) ((if_neg h8192).trans (if_neg h8320)) ((if_neg h2097152).trans (if_neg h2101248)) ((if_neg h2097156).trans (if_neg h2101252)) g0 g3 g4 hc0 hc3 hc4⟩
    · rw [if_neg hg] at h
      simp only [Option.some.injEq, Prod.mk.injEq] at h
      obtain ⟨rfl, rfl, rfl, rfl, rfl, rfl, rfl⟩ := h
      refine ⟨rfl, rfl, rfl, ?_⟩
      cases hck : checkZ l0_0 a0_1 a0_2 l0_3 l0_4
      · exact load_nock _ _ l0_0 a0_1 a0_2 _ _ l0_3 _ _ l0_4 a1 a2 w hck g0 g3 g4
      · exact load_nosz _ _ l0_0 a0_1 a0_2 _ _ l0_3 _ _ l0_4 a1 a2 w hck (bne_iff_ne.mpr (fun e => hg ⟨hck, e⟩)) g0 g3 g4
  obtain ⟨rfl, rfl, rfl, key⟩ := key
  refine key.mono ?_
  rintro e w' ⟨he, hB⟩
  exact ⟨_, _, _, he, Kd.V_mk hc0 (Kd.F_mono (Kd.F_below hF0 hB) (fun j h => .inl (.inl h))), Kd.V_mk hc3 (Kd.F_mono (Kd.F_below hF3 hB) (fun j h => .inl (.inr (.inl h)))), Kd.V_mk hc4 (Kd.F_mono (Kd.F_below hF4 hB) (fun j h => .inl (.inr (.inr h)))), hB⟩
end Go.Proofs.Ytmlpnjoejdpblaa.Q
end
section
/- plic.Store, as those who call it have it. -/
namespace Go.Proofs.Ytmlpnjoejdpblaa.Q
open Go.RowKit Go.Proofs.YtmlpnjoejdpblaaW.PrintWords Go.Proofs.YtmlpnjoejdpblaaW.PrintLast Go.Proofs.YtmlpnjoejdpblaaW.PrintMore Go.Proofs.Ytmlpnjoejdpblaa.L
attribute [local go_sem] Instr.field part asAgg lt_step max2_int min2_int max_two min_two max_three min_three max_four min_four lt_0_1 lt_0_2 lt_1_2 lt_0_3 lt_1_3 lt_2_3 lt_0_4 lt_1_4 lt_2_4 lt_3_4 lt_0_5 lt_1_5 lt_2_5 lt_3_5 lt_4_5 lt_0_6 lt_1_6 lt_2_6 lt_3_6 lt_4_6 lt_5_6 lt_0_7 lt_1_7 lt_2_7 lt_3_7 lt_4_7 lt_5_7 lt_6_7 lt_0_8 lt_1_8 lt_2_8 lt_3_8 lt_4_8 lt_5_8 lt_6_8 lt_7_8
set_option linter.unusedVariables false
set_option linter.unusedSimpArgs false
def giveZ (l0_0 : List Int) (a0_1 : Int) (a0_2 : Int) (l0_3 : List Int) (l0_4 : List Int) (k a3 : Int) : Option (List Int × Int × Int × List Int × List Int × Bool) :=
  if (IntKind.u32.wrap a3) = 1 then some (l0_0, a0_1, Go.bits .andNot .i64 a0_2 (Go.bits .and .i64 2 (rd l0_3 k)), l0_3, l0_4, true) else if (IntKind.u32.wrap a3) = 2 then some (l0_0, a0_1, Go.bits .andNot .i64 a0_2 (Go.bits .and .i64 4 (rd l0_3 k)), l0_3, l0_4, true) else some (l0_0, a0_1, a0_2, l0_3, l0_4, true)
def plic_Store.f (l0_0 : List Int) (a0_1 : Int) (a0_2 : Int) (l0_3 : List Int) (l0_4 : List Int) (a1 : Int) (a2 : Int) (a3 : Int) : Option (List Int × Int × Int × List Int × List Int × Bool) :=
  if checkZ l0_0 a0_1 a0_2 l0_3 l0_4 = true ∧ a2 = 4 then
    (if a1 = 4 then some (l0_0.set 1 (Go.bits .and .i64 (IntKind.u32.wrap a3) 7), a0_1, a0_2, l0_3, l0_4, true) else if a1 = 8 then some (l0_0.set 2 (Go.bits .and .i64 (IntKind.u32.wrap a3) 7), a0_1, a0_2, l0_3, l0_4, true) else if a1 = 4096 then some (l0_0, a0_1, a0_2, l0_3, l0_4, true) else if a1 = 8192 then some (l0_0, a0_1, a0_2, l0_3.set 0 (Go.bits .and .i64 (IntKind.u32.wrap a3) 6), l0_4, true) else if a1 = 8320 then some (l0_0, a0_1, a0_2, l0_3.set 1 (Go.bits .and .i64 (IntKind.u32.wrap a3) 6), l0_4, true) else if a1 = 2097152 then some (l0_0, a0_1, a0_2, l0_3, l0_4.set 0 (Go.bits .and .i64 (IntKind.u32.wrap a3) 7), true) else if a1 = 2101248 then some (l0_0, a0_1, a0_2, l0_3, l0_4.set 1 (Go.bits .and .i64 (IntKind.u32.wrap a3) 7), true)
     else if a1 = 2097156 then giveZ l0_0 a0_1 a0_2 l0_3 l0_4 0 a3 else if a1 = 2101252 then giveZ l0_0 a0_1 a0_2 l0_3 l0_4 1 a3 else some (l0_0, a0_1, a0_2, l0_3, l0_4, false))
  else some (l0_0, a0_1, a0_2, l0_3, l0_4, false)
theorem plic_Store.calls (P0_0_ : Nat → Prop) (A0_0 : Option Addr) (c0_0 : Nat) (l0_0 : List Int) (a0_1 : Int) (a0_2 : Int) (P0_3_ : Nat → Prop) (A0_3 : Option Addr) (c0_3 : Nat) (l0_3 : List Int) (P0_4_ : Nat → Prop) (A0_4 : Option Addr) (c0_4 : Nat) (l0_4 : List Int) (a1 : Int) (a2 : Int) (a3 : Int) (r1 : List Int) (r2 : Int) (r3 : Int) (r4 : List Int) (r5 : List Int) (r6 : Bool) (w : World) (hs0_0 : Kd.V (Kd.int .i64) 3 w w.heap.size (fun k_ => P0_0_ k_) (.slice A0_0 l0_0.length c0_0) l0_0) (hs0_3 : Kd.V (Kd.int .i64) 3 w w.heap.size (fun k_ => P0_3_ k_) (.slice A0_3 l0_3.length c0_3) l0_3) (hs0_4 : Kd.V (Kd.int .i64) 3 w w.heap.size (fun k_ => P0_4_ k_) (.slice A0_4 l0_4.length c0_4) l0_4) (h : plic_Store.f l0_0 a0_1 a0_2 l0_3 l0_4 a1 a2 a3 = some (r1, r2, r3, r4, r5, r6)) :
    Calls Try.prog 12 #[.agg #[.slice A0_0 l0_0.length c0_0, .int .i64 a0_1, .int .i64 a0_2, .slice A0_3 l0_3.length c0_3, .slice A0_4 l0_4.length c0_4], .int .u64 a1, .int .i64 a2, .int .u64 a3] w fun e w' => ∃ v0_ v3_ v4_ : Value, e = .returned (.tuple #[.agg #[v0_, .int .i64 r2, .int .i64 r3, v3_, v4_], .bool r6]) ∧ Kd.V (Kd.int .i64) 3 w' w.heap.size (fun k_ => ((P0_0_ k_ ∨ P0_3_ k_ ∨ P0_4_ k_) ∨ w.heap.size ≤ k_)) v0_ r1 ∧ Kd.V (Kd.int .i64) 3 w' w.heap.size (fun k_ => ((P0_0_ k_ ∨ P0_3_ k_ ∨ P0_4_ k_) ∨ w.heap.size ≤ k_)) v3_ r4 ∧ Kd.V (Kd.int .i64) 3 w' w.heap.size (fun k_ => ((P0_0_ k_ ∨ P0_3_ k_ ∨ P0_4_ k_) ∨ w.heap.size ≤ k_)) v4_ r5 ∧ Below w.heap.size w w' := by
  obtain ⟨_, hc0, hF0⟩ := V_F hs0_0
  obtain ⟨_, hc3, hF3⟩ := V_F hs0_3
  obtain ⟨_, hc4, hF4⟩ := V_F hs0_4
  have g0 := Kd.F_now hF0
  have g3 := Kd.F_now hF3
  have g4 := Kd.F_now hF4
  have hY0 : 0 ≤ IntKind.u32.wrap a3 ∧ IntKind.u32.wrap a3 < 4294967296 := by rw [IntKind.wrap_u32']; omega
  unfold plic_Store.f at h
  by_cases hg : checkZ l0_0 a0_1 a0_2 l0_3 l0_4 = true ∧ a2 = 4
  · rw [if_pos hg] at h
    obtain ⟨hck, rfl⟩ := hg
    by_cases h4 : a1 = 4
    · rw [if_pos h4] at h
      subst h4
      simp only [Option.some.injEq, Prod.mk.injEq] at h
      obtain ⟨rfl, rfl, rfl, rfl, rfl, rfl⟩ := h
      refine (store_p1 _ _ l0_0 a0_1 a0_2 _ _ l0_3 _ _ l0_4 a3 _ w rfl hY0.1 hY0.2 hck g0 g3 g4 hc0 hc3 hc4).mono ?_
      rintro e w' ⟨A', c', he, hc', hF', hB⟩
      exact ⟨_, _, _, he, Kd.V_mk hc' (Kd.F_mono hF' (fun j h => .inr h)), Kd.V_mk hc3 (Kd.F_mono (Kd.F_below hF3 hB) (fun j h => .inl (.inr (.inl h)))), Kd.V_mk hc4 (Kd.F_mono (Kd.F_below hF4 hB) (fun j h => .inl (.inr (.inr h)))), hB⟩
    rw [if_neg h4] at h
    by_cases h8 : a1 = 8
    · rw [if_pos h8] at h
      subst h8
      simp only [Option.some.injEq, Prod.mk.injEq] at h
      obtain ⟨rfl, rfl, rfl, rfl, rfl, rfl⟩ := h
      refine (store_p2 _ _ l0_0 a0_1 a0_2 _ _ l0_3 _ _ l0_4 a3 _ w rfl hY0.1 hY0.2 hck g0 g3 g4 hc0 hc3 hc4).mono ?_
      rintro e w' ⟨A', c', he, hc', hF', hB⟩
      exact ⟨_, _, _, he, Kd.V_mk hc' (Kd.F_mono hF' (fun j h => .inr h)), Kd.V_mk hc3 (Kd.F_mono (Kd.F_below hF3 hB) (fun j h => .inl (.inr (.inl h)))), Kd.V_mk hc4 (Kd.F_mono (Kd.F_below hF4 hB) (fun j h => .inl (.inr (.inr h)))), hB⟩
    rw [if_neg h8] at h
    by_cases h4096 : a1 = 4096
    · rw [if_pos h4096] at h
      subst h4096
      simp only [Option.some.injEq, Prod.mk.injEq] at h
      obtain ⟨rfl, rfl, rfl, rfl, rfl, rfl⟩ := h
      refine (store_pend _ _ l0_0 a0_1 a0_2 _ _ l0_3 _ _ l0_4 a3 _ w rfl hY0.1 hY0.2 hck g0 g3 g4 hc0 hc3 hc4).mono ?_
      rintro e w' ⟨he, hB⟩
      exact ⟨_, _, _, he, Kd.V_mk hc0 (Kd.F_mono (Kd.F_below hF0 hB) (fun j h => .inl (.inl h))), Kd.V_mk hc3 (Kd.F_mono (Kd.F_below hF3 hB) (fun j h => .inl (.inr (.inl h)))), Kd.V_mk hc4 (Kd.F_mono (Kd.F_below hF4 hB) (fun j h => .inl (.inr (.inr h)))), hB⟩
    rw [if_neg h4096] at h
    by_cases h8192 : a1 = 8192
    · rw [if_pos h8192] at h
      subst h8192
      simp only [Option.some.injEq, Prod.mk.injEq] at h
      obtain ⟨rfl, rfl, rfl, rfl, rfl, rfl⟩ := h
      refine (store_e0 _ _ l0_0 a0_1 a0_2 _ _ l0_3 _ _ l0_4 a3 _ w rfl hY0.1 hY0.2 hck g0 g3 g4 hc0 hc3 hc4).mono ?_
      rintro e w' ⟨A', c', he, hc', hF', hB⟩
      exact ⟨_, _, _, he, Kd.V_mk hc0 (Kd.F_mono (Kd.F_below hF0 hB) (fun j h => .inl (.inl h))), Kd.V_mk hc' (Kd.F_mono hF' (fun j h => .inr h)), Kd.V_mk hc4 (Kd.F_mono (Kd.F_below hF4 hB) (fun j h => .inl (.inr (.inr h)))), hB⟩
    rw [if_neg h8192] at h
    by_cases h8320 : a1 = 8320
    · rw [if_pos h8320] at h
      subst h8320
      simp only [Option.some.injEq, Prod.mk.injEq] at h
      obtain ⟨rfl, rfl, rfl, rfl, rfl, rfl⟩ := h
      refine (store_e1 _ _ l0_0 a0_1 a0_2 _ _ l0_3 _ _ l0_4 a3 _ w rfl hY0.1 hY0.2 hck g0 g3 g4 hc0 hc3 hc4).mono ?_
      rintro e w' ⟨A', c', he, hc', hF', hB⟩
      exact ⟨_, _, _, he, Kd.V_mk hc0 (Kd.F_mono (Kd.F_below hF0 hB) (fun j h => .inl (.inl h))), Kd.V_mk hc' (Kd.F_mono hF' (fun j h => .inr h)), Kd.V_mk hc4 (Kd.F_mono (Kd.F_below hF4 hB) (fun j h => .inl (.inr (.inr h)))), hB⟩
    rw [if_neg h8320] at h
    by_cases h2097152 : a1 = 2097152
    · rw [if_pos h2097152] at h
      subst h2097152
      simp only [Option.some.injEq, Prod.mk.injEq] at h
      obtain ⟨rfl, rfl, rfl, rfl, rfl, rfl⟩ := h
      refine (store_t0 _ _ l0_0 a0_1 a0_2 _ _ l0_3 _ _ l0_4 a3 _ w rfl hY0.1 hY0.2 hck g0 g3 g4 hc0 hc3 hc4).mono ?_
      rintro e w' ⟨A', c', he, hc', hF', hB⟩
      exact ⟨_, _, _, he, Kd.V_mk hc0 (Kd.F_mono (Kd.F_below hF0 hB) (fun j h => .inl (.inl h))), Kd.V_mk hc3 (Kd.F_mono (Kd.F_below hF3 hB) (fun j h => .inl (.inr (.inl h)))), Kd.V_mk hc' (Kd.F_mono hF' (fun j h => .inr h)), hB⟩
    rw [if_neg h2097152] at h
    by_cases h2101248 : a1 = 2101248
    · rw [if_pos h2101248] at h
      subst h2101248
      simp only [Option.some.injEq, Prod.mk.injEq] at h
      obtain ⟨rfl, rfl, rfl, rfl, rfl, rfl⟩ := h
      refine (store_t1 _ _ l0_0 a0_1 a0_2 _ _ l0_3 _ _ l0_4 a3 _ w rfl hY0.1 hY0.2 hck g0 g3 g4 hc0 hc3 hc4).mono ?_
      rintro e w' ⟨A', c', he, hc', hF', hB⟩
      exact ⟨_, _, _, he, Kd.V_mk hc0 (Kd.F_mono (Kd.F_below hF0 hB) (fun j h => .inl (.inl h))), Kd.V_mk hc3 (Kd.F_mono (Kd.F_below hF3 hB) (fun j h => .inl (.inr (.inl h)))), Kd.V_mk hc' (Kd.F_mono hF' (fun j h => .inr h)), hB⟩
    rw [if_neg h2101248] at h
    by_cases h2097156 : a1 = 2097156
    · rw [if_pos h2097156] at h
      subst h2097156
      unfold giveZ at h
      by_cases hy1 : (IntKind.u32.wrap a3) = 1
      · rw [if_pos hy1] at h
        simp only [Option.some.injEq, Prod.mk.injEq] at h
        obtain ⟨rfl, rfl, rfl, rfl, rfl, rfl⟩ := h
        refine (store_c01 _ _ l0_0 a0_1 a0_2 _ _ l0_3 _ _ l0_4 a3 w hy1 hck g0 g3 g4 hc0 hc3 hc4).mono ?_
        rintro e w' ⟨he, hB⟩
        exact ⟨_, _, _, he, Kd.V_mk hc0 (Kd.F_mono (Kd.F_below hF0 hB) (fun j h => .inl (.inl h))), Kd.V_mk hc3 (Kd.F_mono (Kd.F_below hF3 hB) (fun j h => .inl (.inr (.inl h)))), Kd.V_mk hc4 (Kd.F_mono (Kd.F_below hF4 hB) (fun j h => .inl (.inr (.inr h)))), hB⟩
      rw [if_neg hy1] at h
      by_cases hy2 : (IntKind.u32.wrap a3) = 2
      · rw [if_pos hy2] at h
        simp only [Option.some.injEq, Prod.mk.injEq] at h
        obtain ⟨rfl, rfl, rfl, rfl, rfl, rfl⟩ := h
        refine (store_c02 _ _ l0_0 a0_1 a0_2 _ _ l0_3 _ _ l0_4 a3 w hy2 hck g0 g3 g4 hc0 hc3 hc4).mono ?_
        rintro e w' ⟨he, hB⟩
        exact ⟨_, _, _, he, Kd.V_mk hc0 (Kd.F_mono (Kd.F_below hF0 hB) (fun j h => .inl (.inl h))), Kd.V_mk hc3 (Kd.F_mono (Kd.F_below hF3 hB) (fun j h => .inl (.inr (.inl h)))), Kd.V_mk hc4 (Kd.F_mono (Kd.F_below hF4 hB) (fun j h => .inl (.inr (.inr h)))), hB⟩
      rw [if_neg hy2] at h
      simp only [Option.some.injEq, Prod.mk.injEq] at h
      obtain ⟨rfl, rfl, rfl, rfl, rfl, rfl⟩ := h
      refine (store_c0n _ _ l0_0 a0_1 a0_2 _ _ l0_3 _ _ l0_4 a3 _ w rfl hY0.1 hY0.2 hck (by omega) g0 g3 g4 hc0 hc3 hc4).mono ?_
      rintro e w' ⟨he, hB⟩
      exact ⟨_, _, _, he, Kd.V_mk hc0 (Kd.F_mono (Kd.F_below hF0 hB) (fun j h => .inl (.inl h))), Kd.V_mk hc3 (Kd.F_mono (Kd.F_below hF3 hB) (fun j h => .inl (.inr (.inl h)))), Kd.V_mk hc4 (Kd.F_mono (Kd.F_below hF4 hB) (fun j h => .inl (.inr (.inr h)))), hB⟩
    rw [if_neg h2097156] at h
    by_cases h2101252 : a1 = 2101252
    · rw [if_pos h2101252] at h
      subst h2101252
      unfold giveZ at h
      by_cases hy1 : (IntKind.u32.wrap a3) = 1
      · rw [if_pos hy1] at h
        simp only [Option.some.injEq, Prod.mk.injEq] at h
        obtain ⟨rfl, rfl, rfl, rfl, rfl, rfl⟩ := h
        refine (store_c11 _ _ l0_0 a0_1 a0_2 _ _ l0_3 _ _ l0_4 a3 w hy1 hck g0 g3 g4 hc0 hc3 hc4).mono ?_
        rintro e w' ⟨he, hB⟩
        exact ⟨_, _, _, he, Kd.V_mk hc0 (Kd.F_mono (Kd.F_below hF0 hB) (fun j h => .inl (.inl h))), Kd.V_mk hc3 (Kd.F_mono (Kd.F_below hF3 hB) (fun j h => .inl (.inr (.inl h)))), Kd.V_mk hc4 (Kd.F_mono (Kd.F_below hF4 hB) (fun j h => .inl (.inr (.inr h)))), hB⟩
      rw [if_neg hy1] at h
      by_cases hy2 : (IntKind.u32.wrap a3) = 2
      · rw [if_pos hy2] at h
        simp only [Option.some.injEq, Prod.mk.injEq] at h
        obtain ⟨rfl, rfl, rfl, rfl, rfl, rfl⟩ := h
        refine (store_c12 _ _ l0_0 a0_1 a0_2 _ _ l0_3 _ _ l0_4 a3 w hy2 hck g0 g3 g4 hc0 hc3 hc4).mono ?_
        rintro e w' ⟨he, hB⟩
        exact ⟨_, _, _, he, Kd.V_mk hc0 (Kd.F_mono (Kd.F_below hF0 hB) (fun j h => .inl (.inl h))), Kd.V_mk hc3 (Kd.F_mono (Kd.F_below hF3 hB) (fun j h => .inl (.inr (.inl h)))), Kd.V_mk hc4 (Kd.F_mono (Kd.F_below hF4 hB) (fun j h => .inl (.inr (.inr h)))), hB⟩
      rw [if_neg hy2] at h
      simp only [Option.some.injEq, Prod.mk.injEq] at h
      obtain ⟨rfl, rfl, rfl, rfl, rfl, rfl⟩ := h
      refine (store_c1n _ _ l0_0 a0_1 a0_2 _ _ l0_3 _ _ l0_4 a3 _ w rfl hY0.1 hY0.2 hck (by omega) g0 g3 g4 hc0 hc3 hc4).mono ?_
      rintro e w' ⟨he, hB⟩
      exact ⟨_, _, _, he, Kd.V_mk hc0 (Kd.F_mono (Kd.F_below hF0 hB) (fun j h => .inl (.inl h))), Kd.V_mk hc3 (Kd.F_mono (Kd.F_below hF3 hB) (fun j h => .inl (.inr (.inl h)))), Kd.V_mk hc4 (Kd.F_mono (Kd.F_below hF4 hB) (fun j h => .inl (.inr (.inr h)))), hB⟩
    rw [if_neg h2101252] at h
    simp only [Option.some.injEq, Prod.mk.injEq] at h
    obtain ⟨rfl, rfl, rfl, rfl, rfl, rfl⟩ := h
    refine (store_none _ _ l0_0 a0_1 a0_2 _ _ l0_3 _ _ l0_4 a1 a3 _ w rfl hY0.1 hY0.2 hck (beq_eq_false_iff_ne.mpr h4) (beq_eq_false_iff_ne.mpr h8) (beq_eq_false_iff_ne.mpr h4096) ((if_neg h8192).trans (if_neg h8320)) ((if_neg h2097152).trans (if_neg h2101248)) ((if_neg h2097156).trans (if_neg h2101252)) g0 g3 g4 hc0 hc3 hc4).mono ?_
    rintro e w' ⟨he, hB⟩
    exact ⟨_, _, _, he, Kd.V_mk hc0 (Kd.F_mono (Kd.F_below hF0 hB) (fun j h => .inl (.inl h))), Kd.V_mk hc3 (Kd.F_mono (Kd.F_below hF3 hB) (fun j h => .inl (.inr (.inl h)))), Kd.V_mk hc4 (Kd.F_mono (Kd.F_below hF4 hB) (fun j h => .inl (.inr (.inr h)))), hB⟩
  · rw [if_neg hg] at h
    simp only [Option.some.injEq, Prod.mk.injEq] at h
    obtain ⟨rfl, rfl, rfl, rfl, rfl, rfl⟩ := h
    have key : Calls Try.prog 12 #[.agg #[.slice A0_0 l0_0.length c0_0, .int .i64 a0_1, .int .i64 a0_2, .slice A0_3 l0_3.length c0_3, .slice A0_4 l0_4.length c0_4], .int .u64 a1, .int .i64 a2, .int .u64 a3] w fun e w' => e = .returned (.tuple #[.agg #[.slice A0_0 l0_0.length c0_0, .int .i64 a0_1, .int .i64 a0_2, .slice A0_3 l0_3.length c0_3, .slice A0_4 l0_4.length c0_4], .bool false]) ∧ Below w.heap.size w w' := by
      cases hck : checkZ l0_0 a0_1 a0_2 l0_3 l0_4
      · exact store_nock _ _ l0_0 a0_1 a0_2 _ _ l0_3 _ _ l0_4 a1 a2 a3 w hck g0 g3 g4
      · exact store_nosz _ _ l0_0 a0_1 a0_2 _ _ l0_3 _ _ l0_4 a1 a2 a3 w hck (bne_iff_ne.mpr (fun e => hg ⟨hck, e⟩)) g0 g3 g4
    refine (key).mono ?_
    rintro e w' ⟨he, hB⟩
    exact ⟨_, _, _, he, Kd.V_mk hc0 (Kd.F_mono (Kd.F_below hF0 hB) (fun j h => .inl (.inl h))), Kd.V_mk hc3 (Kd.F_mono (Kd.F_below hF3 hB) (fun j h => .inl (.inr (.inl h)))), Kd.V_mk hc4 (Kd.F_mono (Kd.F_below hF4 hB) (fun j h => .inl (.inr (.inr h)))), hB⟩
end Go.Proofs.Ytmlpnjoejdpblaa.Q
end
section
/- Whole numbers of 64 bits with a sign: their bits as vectors. -/
set_option linter.unusedVariables false
set_option linter.unusedSimpArgs false
namespace Go.Proofs.Ytmlpnjoejdpblaa.L
open Go.RowKit
def i64R (x : Int) : Prop := -9223372036854775808 ≤ x ∧ x ≤ 9223372036854775807
def bv (x : Int) : BitVec 64 := BitVec.ofInt 64 x
theorem toInt_bv {x : Int} (h : i64R x) : (bv x).toInt = x := by
  unfold bv
  rw [BitVec.toInt_ofInt]
  exact Int.bmod_eq_of_le (by have := h.1; omega) (by have := h.2; omega)
theorem wrap_toInt (v : BitVec 64) : IntKind.i64.wrap (v.toNat : Int) = v.toInt := by
  have e := BitVec.toInt_eq_toNat_bmod v
  rw [e]
  have hl := v.isLt
  have hw : IntKind.i64.wrap (v.toNat : Int) = if v.toNat < 9223372036854775808 then (v.toNat : Int) else (v.toNat : Int) - 18446744073709551616 := by
    rw [IntKind.wrap_i64]; split <;> omega
  rw [hw]
  unfold Int.bmod
  have hm : (v.toNat : Int) % ((2 ^ 64 : Nat) : Int) = v.toNat := by omega
  rw [hm]
  dsimp only
  have hz : ((2 ^ 64 : Nat) : Int) = 18446744073709551616 := by decide
  rw [hz]
  split <;> split <;> omega
theorem i64_and (x y : Int) : Go.bits .and .i64 x y = (bv x &&& bv y).toInt := wrap_toInt _
theorem i64_or (x y : Int) : Go.bits .or .i64 x y = (bv x ||| bv y).toInt := wrap_toInt _
theorem i64_andNot (x y : Int) : Go.bits .andNot .i64 x y = (bv x &&& ~~~ bv y).toInt := wrap_toInt _
theorem toInt_zero {v : BitVec 64} (h : v.toInt = 0) : v = 0#64 := by
  have := congrArg (BitVec.ofInt 64) h
  rwa [BitVec.ofInt_toInt] at this
def m6 (x : Int) : Prop := x = 0 ∨ x = 2 ∨ x = 4 ∨ x = 6
instance (x : Int) : Decidable (m6 x) := inferInstanceAs (Decidable (_ ∨ _))
theorem small6 : ∀ n : Nat, n < 7 → n &&& 6 = n → n = 0 ∨ n = 2 ∨ n = 4 ∨ n = 6 := by decide
theorem and6_m6 (v : BitVec 64) : m6 (v &&& 6#64).toInt := by
  have hn : (v &&& 6#64).toNat = v.toNat &&& 6 := by rw [BitVec.toNat_and]; rfl
  have hle : (v &&& 6#64).toNat < 7 := by rw [hn]; have := Nat.and_le_right (n := v.toNat) (m := 6); omega
  have hi : (v &&& 6#64).toNat &&& 6 = (v &&& 6#64).toNat := by rw [hn, Nat.and_assoc]; rfl
  have e : (v &&& 6#64).toInt = ((v &&& 6#64).toNat : Int) := by
    rw [BitVec.toInt_eq_toNat_cond, if_pos (by omega)]
  have := small6 _ hle hi
  unfold m6
  omega
theorem m6_of_clear (x : Int) (hx : i64R x) (h : Go.bits .andNot .i64 x 6 = 0) : m6 x := by
  rw [i64_andNot] at h
  have hz := toInt_zero h
  have e : bv x &&& 6#64 = bv x := by
    apply BitVec.eq_of_getLsbD_eq
    intro i hi
    have := congrArg (fun v => BitVec.getLsbD v i) hz
    simp only [BitVec.getLsbD_and, BitVec.getLsbD_not, BitVec.getLsbD_zero, hi, decide_true, Bool.true_and] at this ⊢
    show (BitVec.getLsbD (bv x) i && BitVec.getLsbD (6#64) i) = _
    have h6 : BitVec.getLsbD (bv 6) i = BitVec.getLsbD (6#64) i := rfl
    rw [h6] at this
    cases hb : BitVec.getLsbD (bv x) i
    · rfl
    · rw [hb] at this
      cases hc : BitVec.getLsbD (6#64) i
      · rw [hc] at this; cases this
      · rfl
  have := and6_m6 (bv x)
  rw [e, toInt_bv hx] at this
  exact this
theorem and6 (x : Int) : m6 (Go.bits .and .i64 x 6) := by rw [i64_and]; exact and6_m6 _
theorem or_clear (x y : Int) (hx : i64R x) (hy : i64R y) (h : Go.bits .andNot .i64 (Go.bits .or .i64 x y) 6 = 0) : m6 x ∧ m6 y := by
  rw [i64_or, i64_andNot] at h
  have hz := toInt_zero h
  have hb : bv (bv x ||| bv y).toInt = bv x ||| bv y := BitVec.ofInt_toInt ..
  rw [hb] at hz
  have key : bv x &&& ~~~ bv 6 = 0#64 ∧ bv y &&& ~~~ bv 6 = 0#64 := by
    constructor
    all_goals
      apply BitVec.eq_of_getLsbD_eq
      intro i hi
      have := congrArg (fun v => BitVec.getLsbD v i) hz
      simp only [BitVec.getLsbD_and, BitVec.getLsbD_or, BitVec.getLsbD_not, BitVec.getLsbD_zero, hi, decide_true, Bool.true_and] at this ⊢
      revert this
      cases BitVec.getLsbD (bv x) i <;> cases BitVec.getLsbD (bv y) i <;> cases BitVec.getLsbD (bv 6) i <;> decide
  exact ⟨m6_of_clear x hx (by rw [i64_andNot, key.1]; rfl), m6_of_clear y hy (by rw [i64_andNot, key.2]; rfl)⟩
theorem m6_clear {x : Int} (h : m6 x) : Go.bits .andNot .i64 x 6 = 0 := by rcases h with rfl | rfl | rfl | rfl <;> decide
theorem m6_R {x : Int} (h : m6 x) : i64R x := by rcases h with rfl | rfl | rfl | rfl <;> exact ⟨by decide, by decide⟩
theorem and7 (x : Int) (h0 : 0 ≤ x) (h1 : x < 4294967296) : 0 ≤ Go.bits .and .i64 x 7 ∧ Go.bits .and .i64 x 7 ≤ 7 := by
  rw [i64_and]
  have hn : (bv x &&& bv 7).toNat ≤ 7 := by
    rw [BitVec.toNat_and]
    have : (bv 7).toNat = 7 := rfl
    rw [this]
    exact Nat.and_le_right
  have e : (bv x &&& bv 7).toInt = ((bv x &&& bv 7).toNat : Int) := by rw [BitVec.toInt_eq_toNat_cond, if_pos (by omega)]
  rw [e]; omega
end Go.Proofs.Ytmlpnjoejdpblaa.L
end
section
/- What must come at any rate, layer 10. -/
namespace Go.Proofs.Ytmlpnjoejdpblaa.Q
open Go.RowKit Go.Proofs.YtmlpnjoejdpblaaW.PrintWords Go.Proofs.YtmlpnjoejdpblaaW.PrintLast Go.Proofs.YtmlpnjoejdpblaaW.PrintMore Go.Proofs.Ytmlpnjoejdpblaa.L
attribute [local go_sem] Instr.field part asAgg lt_step max2_int min2_int max_two min_two max_three min_three max_four min_four lt_0_1 lt_0_2 lt_1_2 lt_0_3 lt_1_3 lt_2_3 lt_0_4 lt_1_4 lt_2_4 lt_3_4 lt_0_5 lt_1_5 lt_2_5 lt_3_5 lt_4_5 lt_0_6 lt_1_6 lt_2_6 lt_3_6 lt_4_6 lt_5_6 lt_0_7 lt_1_7 lt_2_7 lt_3_7 lt_4_7 lt_5_7 lt_6_7 lt_0_8 lt_1_8 lt_2_8 lt_3_8 lt_4_8 lt_5_8 lt_6_8 lt_7_8
set_option linter.unusedVariables false
set_option linter.unusedSimpArgs false
def drawbridgelaw10_heads.f : Option Bool := some true
theorem check_nil (w : World) : Calls Try.prog 7 #[.agg #[.slice none 0 0, .int .i64 0, .int .i64 0, .slice none 0 0, .slice none 0 0]] w fun e w' => e = .returned (.bool false) ∧ Below w.heap.size w w' := plic_Check.calls none 0 [] 0 0 none 0 [] none 0 [] false w (Kd.C_nil _ _) (Nat.le_refl _) (Kd.C_nil _ _) (Nat.le_refl _) (Kd.C_nil _ _) (Nat.le_refl _) (by kernel_rfl)
theorem infPl : (Try.prog.info? 24).map (·.size) = some 5 := by kernel_rfl
set_option maxHeartbeats 1600000 in
set_option maxRecDepth 100000 in
theorem heads_runs (w : World) : Calls Try.prog 10 #[] w fun e w' => e = .returned (.bool true) ∧ Below w.heap.size w w' := by
  have HB := Aside0.mk (Below.refl w.heap.size w)
  have hu := Try.underlying24
  obtain ⟨l0, hl0⟩ : ∃ l : List Int, l = [0, 0, 0] := ⟨_, rfl⟩
  obtain ⟨e0, he0⟩ : ∃ l : List Int, l = [0, 0] := ⟨_, rfl⟩
  obtain ⟨t0, ht0⟩ : ∃ l : List Int, l = [0, 0] := ⟨_, rfl⟩
  obtain ⟨l1, hl1⟩ : ∃ l : List Int, l = [0, 3, 0] := ⟨_, rfl⟩
  obtain ⟨e1, he1⟩ : ∃ l : List Int, l = [2, 0] := ⟨_, rfl⟩
  have N0 : Aside0 (plic_New.f = some (l0, 0, 0, e0, t0)) := ⟨by rw [hl0, he0, ht0]; kernel_rfl⟩
  have N1 : Aside0 (plic_Store.f l0 0 0 e0 t0 4 4 3 = some (l1, 0, 0, e0, t0, true)) := ⟨by rw [hl0, he0, ht0, hl1]; kernel_rfl⟩
  have N2 : Aside0 (plic_Store.f l1 0 0 e0 t0 8192 4 2 = some (l1, 0, 0, e1, t0, true)) := ⟨by rw [he0, ht0, hl1, he1]; kernel_rfl⟩
  have N3 : Aside0 (plic_Set.f l1 0 0 e1 t0 2 = some (l1, 2, 0, e1, t0)) := ⟨by rw [ht0, hl1, he1]; kernel_rfl⟩
  have N4 : Aside0 (plic_Load.f l1 2 0 e1 t0 2097156 4 = some (1, l1, 0, 2, e1, t0, true)) := ⟨by rw [ht0, hl1, he1]; kernel_rfl⟩
  have N5 : Aside0 (plic_Load.f l1 0 2 e1 t0 2097156 4 = some (0, l1, 0, 2, e1, t0, true)) := ⟨by rw [ht0, hl1, he1]; kernel_rfl⟩
  have N6 : Aside0 (plic_Load.f l1 2 0 e1 t0 12 4 = some (0, l1, 2, 0, e1, t0, false)) := ⟨by rw [ht0, hl1, he1]; kernel_rfl⟩
  have N7 : Aside0 (plic_Best.f 4 l1 2 0 e1 t0 0 = some 1) := ⟨by rw [ht0, hl1, he1]; kernel_rfl⟩
  have N8 : Aside0 (plic_Best.f 4 l1 2 0 e1 t0 1 = some 0) := ⟨by rw [ht0, hl1, he1]; kernel_rfl⟩
  have N9 : Aside0 (plic_Check.f l1 0 2 e1 t0 = some true) := ⟨by rw [ht0, hl1, he1]; kernel_rfl⟩
  have N10 : Aside0 (plic_Check.f [] 0 0 [] [] = some false) := ⟨by kernel_rfl⟩
  clear hl0 he0 ht0 hl1 he1
  go_enter Try.func10, Try.ntmps10
  go_wp2_with fail
  (go_at_call 19; (with_reducible refine (plic_New.calls _ _ _ _ _ _ N0.out).mono ?_); rintro e_ w1 ⟨v_x, v_y, v_z, rfl, hr_x, hr_y, hr_z, hb_⟩; have HB_ : Aside0 (Below w.heap.size w w1) := Aside0.mk (below_step (bG HB) hb_); have hzw1 := hb_.size; (try simp at hzw1); clear HB hb_; have HB := HB_; clear HB_; obtain ⟨A_x, c_x, ev_, hc_x, hf_x⟩ := R_Fl hr_x; subst ev_; have xc := Aside0.mk hc_x; have x := Aside0.mk (Kd.F_bound hf_x); clear hc_x hf_x hr_x; obtain ⟨A_y, c_y, ev_, hc_y, hf_y⟩ := R_Fl hr_y; subst ev_; have yc := Aside0.mk hc_y; have y := Aside0.mk (Kd.F_bound hf_y); clear hc_y hf_y hr_y; obtain ⟨A_z, c_z, ev_, hc_z, hf_z⟩ := R_Fl hr_z; subst ev_; have zc := Aside0.mk hc_z; have z := Aside0.mk (Kd.F_bound hf_z); clear hc_z hf_z hr_z; skip)
  (have x_ := Aside0.mk (Kd.F_mono (ok' := fun k_ => w.heap.size ≤ k_ ∧ k_ < w1.heap.size) x.out (fun j_ hj_ => by (try dsimp only at hj_); (try dsimp only); (try simp only [sz_alloc, sz_drew, sz_drewN, sz_set] at hj_); (try simp only [sz_alloc, sz_drew, sz_drewN, sz_set]); omega)); clear x; have x := x_; clear x_; have y_ := Aside0.mk (Kd.F_mono (ok' := fun k_ => w.heap.size ≤ k_ ∧ k_ < w1.heap.size) y.out (fun j_ hj_ => by (try dsimp only at hj_); (try dsimp only); (try simp only [sz_alloc, sz_drew, sz_drewN, sz_set] at hj_); (try simp only [sz_alloc, sz_drew, sz_drewN, sz_set]); omega)); clear y; have y := y_; clear y_; have z_ := Aside0.mk (Kd.F_mono (ok' := fun k_ => w.heap.size ≤ k_ ∧ k_ < w1.heap.size) z.out (fun j_ hj_ => by (try dsimp only at hj_); (try dsimp only); (try simp only [sz_alloc, sz_drew, sz_drewN, sz_set] at hj_); (try simp only [sz_alloc, sz_drew, sz_drewN, sz_set]); omega)); clear z; have z := z_; clear z_)
  go_wp2_with fail
  (go_at_call 12; (with_reducible refine (plic_Store.calls _ _ _ l0 0 0 _ _ _ e0 _ _ _ t0 4 4 3 _ _ _ _ _ _ _ (Kd.V_mk xc.out (fG x)) (Kd.V_mk yc.out (fG y)) (Kd.V_mk zc.out (fG z)) N1.out).mono ?_); rintro e_ w2 ⟨v_a, v_b, v_d, rfl, ⟨A_a, c_a, rfl, hc_a, hr_a⟩, ⟨A_b, c_b, rfl, hc_b, hr_b⟩, ⟨A_d, c_d, rfl, hc_d, hr_d⟩, hb_⟩; have HB_ : Aside0 (Below w.heap.size w w2) := Aside0.mk (below_step (bG HB) hb_); have hzw2 := hb_.size; (try simp at hzw2); clear x xc; clear y yc; clear z zc; clear HB hb_; have HB := HB_; clear HB_; have ac := Aside0.mk hc_a; have a := Aside0.mk (Kd.F_bound hr_a); clear hc_a hr_a; have bc := Aside0.mk hc_b; have b := Aside0.mk (Kd.F_bound hr_b); clear hc_b hr_b; have dc := Aside0.mk hc_d; have d := Aside0.mk (Kd.F_bound hr_d); clear hc_d hr_d; skip)
  (have a_ := Aside0.mk (Kd.F_mono (ok' := fun k_ => w.heap.size ≤ k_ ∧ k_ < w2.heap.size) a.out (fun j_ hj_ => by (try dsimp only at hj_); (try dsimp only); (try simp only [sz_alloc, sz_drew, sz_drewN, sz_set] at hj_); (try simp only [sz_alloc, sz_drew, sz_drewN, sz_set]); omega)); clear a; have a := a_; clear a_; have b_ := Aside0.mk (Kd.F_mono (ok' := fun k_ => w.heap.size ≤ k_ ∧ k_ < w2.heap.size) b.out (fun j_ hj_ => by (try dsimp only at hj_); (try dsimp only); (try simp only [sz_alloc, sz_drew, sz_drewN, sz_set] at hj_); (try simp only [sz_alloc, sz_drew, sz_drewN, sz_set]); omega)); clear b; have b := b_; clear b_; have d_ := Aside0.mk (Kd.F_mono (ok' := fun k_ => w.heap.size ≤ k_ ∧ k_ < w2.heap.size) d.out (fun j_ hj_ => by (try dsimp only at hj_); (try dsimp only); (try simp only [sz_alloc, sz_drew, sz_drewN, sz_set] at hj_); (try simp only [sz_alloc, sz_drew, sz_drewN, sz_set]); omega)); clear d; have d := d_; clear d_)
  go_wp2_with fail
  (go_at_call 12; (with_reducible refine (plic_Store.calls _ _ _ l1 0 0 _ _ _ e0 _ _ _ t0 8192 4 2 _ _ _ _ _ _ _ (Kd.V_mk ac.out (fG a)) (Kd.V_mk bc.out (fG b)) (Kd.V_mk dc.out (fG d)) N2.out).mono ?_); rintro e_ w3 ⟨v_a2, v_b2, v_d2, rfl, ⟨A_a2, c_a2, rfl, hc_a2, hr_a2⟩, ⟨A_b2, c_b2, rfl, hc_b2, hr_b2⟩, ⟨A_d2, c_d2, rfl, hc_d2, hr_d2⟩, hb_⟩; have HB_ : Aside0 (Below w.heap.size w w3) := Aside0.mk (below_step (bG HB) hb_); have hzw3 := hb_.size; (try simp at hzw3); clear a ac; clear b bc; clear d dc; have op_ := Aside0.mk (box_below hb_ (by repeat (with_reducible first | exact nb_1 w2 _ | apply ext_drew | apply ext_drewN | apply ext_alloc | refine blk_far ?_ (by show _ ≠ _; dsimp only; omega) _))); (try clear op opc opf opl); have op := op_; clear op_; obtain ⟨opc, opf, opl⟩ := cells_of op.out; clear HB hb_; have HB := HB_; clear HB_; have a2c := Aside0.mk hc_a2; have a2 := Aside0.mk (Kd.F_bound hr_a2); clear hc_a2 hr_a2; have b2c := Aside0.mk hc_b2; have b2 := Aside0.mk (Kd.F_bound hr_b2); clear hc_b2 hr_b2; have d2c := Aside0.mk hc_d2; have d2 := Aside0.mk (Kd.F_bound hr_d2); clear hc_d2 hr_d2; skip)
  (have a2_ := Aside0.mk (Kd.F_mono (ok' := fun k_ => k_ ≠ w2.heap.size ∧ k_ < w3.heap.size) a2.out (fun j_ hj_ => by (try dsimp only at hj_); (try dsimp only); (try simp only [sz_alloc, sz_drew, sz_drewN, sz_set] at hj_); (try simp only [sz_alloc, sz_drew, sz_drewN, sz_set]); omega)); clear a2; have a2 := a2_; clear a2_; have b2_ := Aside0.mk (Kd.F_mono (ok' := fun k_ => k_ ≠ w2.heap.size ∧ k_ < w3.heap.size) b2.out (fun j_ hj_ => by (try dsimp only at hj_); (try dsimp only); (try simp only [sz_alloc, sz_drew, sz_drewN, sz_set] at hj_); (try simp only [sz_alloc, sz_drew, sz_drewN, sz_set]); omega)); clear b2; have b2 := b2_; clear b2_; have d2_ := Aside0.mk (Kd.F_mono (ok' := fun k_ => k_ ≠ w2.heap.size ∧ k_ < w3.heap.size) d2.out (fun j_ hj_ => by (try dsimp only at hj_); (try dsimp only); (try simp only [sz_alloc, sz_drew, sz_drewN, sz_set] at hj_); (try simp only [sz_alloc, sz_drew, sz_drewN, sz_set]); omega)); clear d2; have d2 := d2_; clear d2_)
  go_wp2_with (first | ((with_reducible refine gate_store (t := 24) (p := 1) (v := .tmp 21) rfl ?_); refine wpList_store_all rfl 24 _ _ rfl rfl _ #[.slice A_a2 l1.length c_a2, .int .i64 0, .int .i64 0, .slice A_b2 e1.length c_b2, .slice A_d2 t0.length c_d2] (by rfl) (by rfl) _ _ op.out rfl infPl (by simp [Value.oneCell']) ?_; rintro w4 ⟨hx_, hk_, hb_, hzz_⟩; have HB_ : Aside0 (Below w.heap.size w w4) := Aside0.mk (Below.trans (bG HB) (Below.mono hb_ (by first | omega | (simp only [sz_alloc, sz_drew, sz_drewN]; omega)))); have hzw4 := hzz_; (try simp at hzw4); clear hzz_; have a2_ := Aside0.mk (Kd.F_step (fG a2) (fun j_ hj_ hl_ => hk_ j_ (by (try dsimp only at hj_); (try simp only [sz_alloc, sz_drew, sz_drewN, sz_set] at hj_); omega))); clear a2; have a2 := a2_; clear a2_; have b2_ := Aside0.mk (Kd.F_step (fG b2) (fun j_ hj_ hl_ => hk_ j_ (by (try dsimp only at hj_); (try simp only [sz_alloc, sz_drew, sz_drewN, sz_set] at hj_); omega))); clear b2; have b2 := b2_; clear b2_; have d2_ := Aside0.mk (Kd.F_step (fG d2) (fun j_ hj_ hl_ => hk_ j_ (by (try dsimp only at hj_); (try simp only [sz_alloc, sz_drew, sz_drewN, sz_set] at hj_); omega))); clear d2; have d2 := d2_; clear d2_; (try clear op opc opf opl); have op := Aside0.mk hx_; obtain ⟨opc, opf, opl⟩ := cells_of op.out; clear HB hb_ hk_ hx_; have HB := HB_; clear HB_))
  (go_at_call 9; (with_reducible refine (plic_Set.calls _ _ _ l1 0 0 _ _ _ e1 _ _ _ t0 2 _ _ _ _ _ _ (Kd.V_mk a2c.out (fG a2)) (Kd.V_mk b2c.out (fG b2)) (Kd.V_mk d2c.out (fG d2)) N3.out).mono ?_); rintro e_ w5 ⟨v_a3, v_b3, v_d3, rfl, ⟨A_a3, c_a3, rfl, hc_a3, hr_a3⟩, ⟨A_b3, c_b3, rfl, hc_b3, hr_b3⟩, ⟨A_d3, c_d3, rfl, hc_d3, hr_d3⟩, hb_⟩; have HB_ : Aside0 (Below w.heap.size w w5) := Aside0.mk (below_step (bG HB) hb_); have hzw5 := hb_.size; (try simp at hzw5); clear a2 a2c; clear b2 b2c; clear d2 d2c; have op_ := Aside0.mk (box_below hb_ (eG op)); (try clear op opc opf opl); have op := op_; clear op_; obtain ⟨opc, opf, opl⟩ := cells_of op.out; clear HB hb_; have HB := HB_; clear HB_; have a3c := Aside0.mk hc_a3; have a3 := Aside0.mk (Kd.F_bound hr_a3); clear hc_a3 hr_a3; have b3c := Aside0.mk hc_b3; have b3 := Aside0.mk (Kd.F_bound hr_b3); clear hc_b3 hr_b3; have d3c := Aside0.mk hc_d3; have d3 := Aside0.mk (Kd.F_bound hr_d3); clear hc_d3 hr_d3; skip)
  (have a3_ := Aside0.mk (Kd.F_mono (ok' := fun k_ => k_ ≠ w2.heap.size ∧ k_ < w5.heap.size) a3.out (fun j_ hj_ => by (try dsimp only at hj_); (try dsimp only); (try simp only [sz_alloc, sz_drew, sz_drewN, sz_set] at hj_); (try simp only [sz_alloc, sz_drew, sz_drewN, sz_set]); omega)); clear a3; have a3 := a3_; clear a3_; have b3_ := Aside0.mk (Kd.F_mono (ok' := fun k_ => k_ ≠ w2.heap.size ∧ k_ < w5.heap.size) b3.out (fun j_ hj_ => by (try dsimp only at hj_); (try dsimp only); (try simp only [sz_alloc, sz_drew, sz_drewN, sz_set] at hj_); (try simp only [sz_alloc, sz_drew, sz_drewN, sz_set]); omega)); clear b3; have b3 := b3_; clear b3_; have d3_ := Aside0.mk (Kd.F_mono (ok' := fun k_ => k_ ≠ w2.heap.size ∧ k_ < w5.heap.size) d3.out (fun j_ hj_ => by (try dsimp only at hj_); (try dsimp only); (try simp only [sz_alloc, sz_drew, sz_drewN, sz_set] at hj_); (try simp only [sz_alloc, sz_drew, sz_drewN, sz_set]); omega)); clear d3; have d3 := d3_; clear d3_)
  go_wp2_with (first | ((with_reducible refine gate_store (t := 24) (p := 1) (v := .tmp 24) rfl ?_); refine wpList_store_all rfl 24 _ _ rfl rfl _ #[.slice A_a3 l1.length c_a3, .int .i64 2, .int .i64 0, .slice A_b3 e1.length c_b3, .slice A_d3 t0.length c_d3] (by rfl) (by rfl) _ _ op.out rfl infPl (by simp [Value.oneCell']) ?_; rintro w6 ⟨hx_, hk_, hb_, hzz_⟩; have HB_ : Aside0 (Below w.heap.size w w6) := Aside0.mk (Below.trans (bG HB) (Below.mono hb_ (by first | omega | (simp only [sz_alloc, sz_drew, sz_drewN]; omega)))); have hzw6 := hzz_; (try simp at hzw6); clear hzz_; have a3_ := Aside0.mk (Kd.F_step (fG a3) (fun j_ hj_ hl_ => hk_ j_ (by (try dsimp only at hj_); (try simp only [sz_alloc, sz_drew, sz_drewN, sz_set] at hj_); omega))); clear a3; have a3 := a3_; clear a3_; have b3_ := Aside0.mk (Kd.F_step (fG b3) (fun j_ hj_ hl_ => hk_ j_ (by (try dsimp only at hj_); (try simp only [sz_alloc, sz_drew, sz_drewN, sz_set] at hj_); omega))); clear b3; have b3 := b3_; clear b3_; have d3_ := Aside0.mk (Kd.F_step (fG d3) (fun j_ hj_ hl_ => hk_ j_ (by (try dsimp only at hj_); (try simp only [sz_alloc, sz_drew, sz_drewN, sz_set] at hj_); omega))); clear d3; have d3 := d3_; clear d3_; (try clear op opc opf opl); have op := Aside0.mk hx_; obtain ⟨opc, opf, opl⟩ := cells_of op.out; clear HB hb_ hk_ hx_; have HB := HB_; clear HB_))
  (go_at_call 11; (with_reducible refine (plic_Load.calls _ _ _ l1 2 0 _ _ _ e1 _ _ _ t0 2097156 4 _ _ _ _ _ _ _ _ (Kd.V_mk a3c.out (fG a3)) (Kd.V_mk b3c.out (fG b3)) (Kd.V_mk d3c.out (fG d3)) N4.out).mono ?_); rintro e_ w7 ⟨v_a4, v_b4, v_d4, rfl, ⟨A_a4, c_a4, rfl, hc_a4, hr_a4⟩, ⟨A_b4, c_b4, rfl, hc_b4, hr_b4⟩, ⟨A_d4, c_d4, rfl, hc_d4, hr_d4⟩, hb_⟩; have HB_ : Aside0 (Below w.heap.size w w7) := Aside0.mk (below_step (bG HB) hb_); have hzw7 := hb_.size; (try simp at hzw7); have op_ := Aside0.mk (box_below hb_ (eG op)); have a3_ := Aside0.mk (Kd.F_below (fG a3) hb_); clear a3; have a3 := a3_; clear a3_; have b3_ := Aside0.mk (Kd.F_below (fG b3) hb_); clear b3; have b3 := b3_; clear b3_; have d3_ := Aside0.mk (Kd.F_below (fG d3) hb_); clear d3; have d3 := d3_; clear d3_; (try clear op opc opf opl); have op := op_; clear op_; obtain ⟨opc, opf, opl⟩ := cells_of op.out; clear HB hb_; have HB := HB_; clear HB_; have a4c := Aside0.mk hc_a4; have a4 := Aside0.mk (Kd.F_bound hr_a4); clear hc_a4 hr_a4; have b4c := Aside0.mk hc_b4; have b4 := Aside0.mk (Kd.F_bound hr_b4); clear hc_b4 hr_b4; have d4c := Aside0.mk hc_d4; have d4 := Aside0.mk (Kd.F_bound hr_d4); clear hc_d4 hr_d4; skip)
  (have a4_ := Aside0.mk (Kd.F_mono (ok' := fun k_ => k_ ≠ w2.heap.size ∧ k_ < w7.heap.size) a4.out (fun j_ hj_ => by (try dsimp only at hj_); (try dsimp only); (try simp only [sz_alloc, sz_drew, sz_drewN, sz_set] at hj_); (try simp only [sz_alloc, sz_drew, sz_drewN, sz_set]); omega)); clear a4; have a4 := a4_; clear a4_; have b4_ := Aside0.mk (Kd.F_mono (ok' := fun k_ => k_ ≠ w2.heap.size ∧ k_ < w7.heap.size) b4.out (fun j_ hj_ => by (try dsimp only at hj_); (try dsimp only); (try simp only [sz_alloc, sz_drew, sz_drewN, sz_set] at hj_); (try simp only [sz_alloc, sz_drew, sz_drewN, sz_set]); omega)); clear b4; have b4 := b4_; clear b4_; have d4_ := Aside0.mk (Kd.F_mono (ok' := fun k_ => k_ ≠ w2.heap.size ∧ k_ < w7.heap.size) d4.out (fun j_ hj_ => by (try dsimp only at hj_); (try dsimp only); (try simp only [sz_alloc, sz_drew, sz_drewN, sz_set] at hj_); (try simp only [sz_alloc, sz_drew, sz_drewN, sz_set]); omega)); clear d4; have d4 := d4_; clear d4_)
  go_wp2_with fail
  (go_at_call 11; (with_reducible refine (plic_Load.calls _ _ _ l1 0 2 _ _ _ e1 _ _ _ t0 2097156 4 _ _ _ _ _ _ _ _ (Kd.V_mk a4c.out (fG a4)) (Kd.V_mk b4c.out (fG b4)) (Kd.V_mk d4c.out (fG d4)) N5.out).mono ?_); rintro e_ w8 ⟨v_a5, v_b5, v_d5, rfl, ⟨A_a5, c_a5, rfl, hc_a5, hr_a5⟩, ⟨A_b5, c_b5, rfl, hc_b5, hr_b5⟩, ⟨A_d5, c_d5, rfl, hc_d5, hr_d5⟩, hb_⟩; have HB_ : Aside0 (Below w.heap.size w w8) := Aside0.mk (below_step (bG HB) hb_); have hzw8 := hb_.size; (try simp at hzw8); have op_ := Aside0.mk (box_below hb_ (eG op)); have oq_ := Aside0.mk (box_below hb_ (by repeat (with_reducible first | exact nb_1 w7 _ | apply ext_drew | apply ext_drewN | apply ext_alloc | refine blk_far ?_ (by show _ ≠ _; dsimp only; omega) _))); have a3_ := Aside0.mk (Kd.F_below (fG a3) hb_); clear a3; have a3 := a3_; clear a3_; have b3_ := Aside0.mk (Kd.F_below (fG b3) hb_); clear b3; have b3 := b3_; clear b3_; have d3_ := Aside0.mk (Kd.F_below (fG d3) hb_); clear d3; have d3 := d3_; clear d3_; have a4_ := Aside0.mk (Kd.F_below (fG a4) hb_); clear a4; have a4 := a4_; clear a4_; have b4_ := Aside0.mk (Kd.F_below (fG b4) hb_); clear b4; have b4 := b4_; clear b4_; have d4_ := Aside0.mk (Kd.F_below (fG d4) hb_); clear d4; have d4 := d4_; clear d4_; (try clear op opc opf opl); have op := op_; clear op_; obtain ⟨opc, opf, opl⟩ := cells_of op.out; (try clear oq oqc oqf oql); have oq := oq_; clear oq_; obtain ⟨oqc, oqf, oql⟩ := cells_of oq.out; clear HB hb_; have HB := HB_; clear HB_; have a5c := Aside0.mk hc_a5; have a5 := Aside0.mk (Kd.F_bound hr_a5); clear hc_a5 hr_a5; have b5c := Aside0.mk hc_b5; have b5 := Aside0.mk (Kd.F_bound hr_b5); clear hc_b5 hr_b5; have d5c := Aside0.mk hc_d5; have d5 := Aside0.mk (Kd.F_bound hr_d5); clear hc_d5 hr_d5; skip)
  go_wp2_with fail
  (go_at_call 11; (with_reducible refine (plic_Load.calls _ _ _ l1 2 0 _ _ _ e1 _ _ _ t0 12 4 _ _ _ _ _ _ _ _ (Kd.V_mk a3c.out (fG a3)) (Kd.V_mk b3c.out (fG b3)) (Kd.V_mk d3c.out (fG d3)) N6.out).mono ?_); rintro e_ w9 ⟨v_a6, v_b6, v_d6, rfl, ⟨A_a6, c_a6, rfl, hc_a6, hr_a6⟩, ⟨A_b6, c_b6, rfl, hc_b6, hr_b6⟩, ⟨A_d6, c_d6, rfl, hc_d6, hr_d6⟩, hb_⟩; have HB_ : Aside0 (Below w.heap.size w w9) := Aside0.mk (below_step (bG HB) hb_); have hzw9 := hb_.size; (try simp at hzw9); clear a5 a5c; clear b5 b5c; clear d5 d5c; have op_ := Aside0.mk (box_below hb_ (eG op)); have oq_ := Aside0.mk (box_below hb_ (eG oq)); have a3_ := Aside0.mk (Kd.F_below (fG a3) hb_); clear a3; have a3 := a3_; clear a3_; have b3_ := Aside0.mk (Kd.F_below (fG b3) hb_); clear b3; have b3 := b3_; clear b3_; have d3_ := Aside0.mk (Kd.F_below (fG d3) hb_); clear d3; have d3 := d3_; clear d3_; have a4_ := Aside0.mk (Kd.F_below (fG a4) hb_); clear a4; have a4 := a4_; clear a4_; have b4_ := Aside0.mk (Kd.F_below (fG b4) hb_); clear b4; have b4 := b4_; clear b4_; have d4_ := Aside0.mk (Kd.F_below (fG d4) hb_); clear d4; have d4 := d4_; clear d4_; (try clear op opc opf opl); have op := op_; clear op_; obtain ⟨opc, opf, opl⟩ := cells_of op.out; (try clear oq oqc oqf oql); have oq := oq_; clear oq_; obtain ⟨oqc, oqf, oql⟩ := cells_of oq.out; clear HB hb_; have HB := HB_; clear HB_; have a6c := Aside0.mk hc_a6; have a6 := Aside0.mk (Kd.F_bound hr_a6); clear hc_a6 hr_a6; have b6c := Aside0.mk hc_b6; have b6 := Aside0.mk (Kd.F_bound hr_b6); clear hc_b6 hr_b6; have d6c := Aside0.mk hc_d6; have d6 := Aside0.mk (Kd.F_bound hr_d6); clear hc_d6 hr_d6; skip)
  go_wp2_with fail
  clear a6 a6c b6 b6c d6 d6c
  (go_at_call 16; (with_reducible refine (plic_Best.calls 4 _ _ l1 2 0 _ _ e1 _ _ t0 0 1 _ (Kd.F_now (fG a3)) a3c.out (Kd.F_now (fG b3)) b3c.out (Kd.F_now (fG d3)) d3c.out N7.out).mono ?_); rintro e_ w10 ⟨rfl, hb_⟩; have HB_ : Aside0 (Below w.heap.size w w10) := Aside0.mk (below_step (bG HB) hb_); have hzw10 := hb_.size; (try simp at hzw10); have op_ := Aside0.mk (box_below hb_ (eG op)); have oq_ := Aside0.mk (box_below hb_ (eG oq)); have a3_ := Aside0.mk (Kd.F_below (fG a3) hb_); clear a3; have a3 := a3_; clear a3_; have b3_ := Aside0.mk (Kd.F_below (fG b3) hb_); clear b3; have b3 := b3_; clear b3_; have d3_ := Aside0.mk (Kd.F_below (fG d3) hb_); clear d3; have d3 := d3_; clear d3_; have a4_ := Aside0.mk (Kd.F_below (fG a4) hb_); clear a4; have a4 := a4_; clear a4_; have b4_ := Aside0.mk (Kd.F_below (fG b4) hb_); clear b4; have b4 := b4_; clear b4_; have d4_ := Aside0.mk (Kd.F_below (fG d4) hb_); clear d4; have d4 := d4_; clear d4_; (try clear op opc opf opl); have op := op_; clear op_; obtain ⟨opc, opf, opl⟩ := cells_of op.out; (try clear oq oqc oqf oql); have oq := oq_; clear oq_; obtain ⟨oqc, oqf, oql⟩ := cells_of oq.out; clear HB hb_; have HB := HB_; clear HB_)
  go_wp2_with fail
  (go_at_call 16; (with_reducible refine (plic_Best.calls 4 _ _ l1 2 0 _ _ e1 _ _ t0 1 0 _ (Kd.F_now (fG a3)) a3c.out (Kd.F_now (fG b3)) b3c.out (Kd.F_now (fG d3)) d3c.out N8.out).mono ?_); rintro e_ w11 ⟨rfl, hb_⟩; have HB_ : Aside0 (Below w.heap.size w w11) := Aside0.mk (below_step (bG HB) hb_); have hzw11 := hb_.size; (try simp at hzw11); have op_ := Aside0.mk (box_below hb_ (eG op)); have oq_ := Aside0.mk (box_below hb_ (eG oq)); have a3_ := Aside0.mk (Kd.F_below (fG a3) hb_); clear a3; have a3 := a3_; clear a3_; have b3_ := Aside0.mk (Kd.F_below (fG b3) hb_); clear b3; have b3 := b3_; clear b3_; have d3_ := Aside0.mk (Kd.F_below (fG d3) hb_); clear d3; have d3 := d3_; clear d3_; have a4_ := Aside0.mk (Kd.F_below (fG a4) hb_); clear a4; have a4 := a4_; clear a4_; have b4_ := Aside0.mk (Kd.F_below (fG b4) hb_); clear b4; have b4 := b4_; clear b4_; have d4_ := Aside0.mk (Kd.F_below (fG d4) hb_); clear d4; have d4 := d4_; clear d4_; (try clear op opc opf opl); have op := op_; clear op_; obtain ⟨opc, opf, opl⟩ := cells_of op.out; (try clear oq oqc oqf oql); have oq := oq_; clear oq_; obtain ⟨oqc, oqf, oql⟩ := cells_of oq.out; clear HB hb_; have HB := HB_; clear HB_)
  go_wp2_with fail
  (go_at_call 7; (with_reducible refine (plic_Check.calls _ _ l1 0 2 _ _ e1 _ _ t0 true _ (Kd.F_now (fG a4)) a4c.out (Kd.F_now (fG b4)) b4c.out (Kd.F_now (fG d4)) d4c.out N9.out).mono ?_); rintro e_ w12 ⟨rfl, hb_⟩; have HB_ : Aside0 (Below w.heap.size w w12) := Aside0.mk (below_step (bG HB) hb_); have hzw12 := hb_.size; (try simp at hzw12); have op_ := Aside0.mk (box_below hb_ (eG op)); have oq_ := Aside0.mk (box_below hb_ (eG oq)); have a3_ := Aside0.mk (Kd.F_below (fG a3) hb_); clear a3; have a3 := a3_; clear a3_; have b3_ := Aside0.mk (Kd.F_below (fG b3) hb_); clear b3; have b3 := b3_; clear b3_; have d3_ := Aside0.mk (Kd.F_below (fG d3) hb_); clear d3; have d3 := d3_; clear d3_; have a4_ := Aside0.mk (Kd.F_below (fG a4) hb_); clear a4; have a4 := a4_; clear a4_; have b4_ := Aside0.mk (Kd.F_below (fG b4) hb_); clear b4; have b4 := b4_; clear b4_; have d4_ := Aside0.mk (Kd.F_below (fG d4) hb_); clear d4; have d4 := d4_; clear d4_; (try clear op opc opf opl); have op := op_; clear op_; obtain ⟨opc, opf, opl⟩ := cells_of op.out; (try clear oq oqc oqf oql); have oq := oq_; clear oq_; obtain ⟨oqc, oqf, oql⟩ := cells_of oq.out; clear HB hb_; have HB := HB_; clear HB_)
  go_wp2_with fail
  (go_at_call 7; (with_reducible refine (check_nil _).mono ?_); rintro e_ w13 ⟨rfl, hb_⟩; have HB_ : Aside0 (Below w.heap.size w w13) := Aside0.mk (below_step (bG HB) hb_); have hzw13 := hb_.size; (try simp at hzw13); have op_ := Aside0.mk (box_below hb_ (eG op)); have oq_ := Aside0.mk (box_below hb_ (eG oq)); have a3_ := Aside0.mk (Kd.F_below (fG a3) hb_); clear a3; have a3 := a3_; clear a3_; have b3_ := Aside0.mk (Kd.F_below (fG b3) hb_); clear b3; have b3 := b3_; clear b3_; have d3_ := Aside0.mk (Kd.F_below (fG d3) hb_); clear d3; have d3 := d3_; clear d3_; have a4_ := Aside0.mk (Kd.F_below (fG a4) hb_); clear a4; have a4 := a4_; clear a4_; have b4_ := Aside0.mk (Kd.F_below (fG b4) hb_); clear b4; have b4 := b4_; clear b4_; have d4_ := Aside0.mk (Kd.F_below (fG d4) hb_); clear d4; have d4 := d4_; clear d4_; (try clear op opc opf opl); have op := op_; clear op_; obtain ⟨opc, opf, opl⟩ := cells_of op.out; (try clear oq oqc oqf oql); have oq := oq_; clear oq_; obtain ⟨oqc, oqf, oql⟩ := cells_of oq.out; clear HB hb_; have HB := HB_; clear HB_)
  go_wp2
  refine bodyPost_ret (v := .bool true) (by simp [results, Try.results10, go_sem] <;> first | assumption | omega | (symm; assumption)) rfl ?_
  exact ⟨rfl, (bG HB)⟩
theorem drawbridgelaw10_heads.calls (r : Bool) (w : World) (h : drawbridgelaw10_heads.f = some r) : Calls Try.prog 10 #[] w fun e w' => e = .returned (.bool r) ∧ Below w.heap.size w w' := by
  injection h with h; subst h; exact heads_runs w
end Go.Proofs.Ytmlpnjoejdpblaa.Q
end
section
/- The interrupt controller in plain numbers: what a checked one is, and what keeps it so. -/
namespace Go.Proofs.Ytmlpnjoejdpblaa.Q
open Go.RowKit Go.Proofs.YtmlpnjoejdpblaaW.PrintWords Go.Proofs.YtmlpnjoejdpblaaW.PrintLast Go.Proofs.YtmlpnjoejdpblaaW.PrintMore Go.Proofs.Ytmlpnjoejdpblaa.L
set_option linter.unusedVariables false
set_option linter.unusedSimpArgs false
theorem wf_R {x : Int} (h : (Lit.int .i64 x).wf = true) : i64R x := by
  have h1 : (decide ((-9223372036854775808 : Int) ≤ x) && decide (x ≤ (9223372036854775807 : Int))) = true := h
  simp only [Bool.and_eq_true, decide_eq_true_eq] at h1
  exact h1
def s7 (x : Int) : Prop := 0 ≤ x ∧ x ≤ 7
theorem all4 {P : Int → Bool} (h : ([0, 2, 4, 6] : List Int).all P = true) {x : Int} (hx : m6 x) : P x = true := by
  have h' := List.all_eq_true.mp h
  rcases hx with rfl | rfl | rfl | rfl
  · exact h' 0 (by decide)
  · exact h' 2 (by decide)
  · exact h' 4 (by decide)
  · exact h' 6 (by decide)
theorem t_or : (([0, 2, 4, 6] : List Int).all fun p => ([0, 2, 4, 6] : List Int).all fun c => decide (Go.bits .andNot .i64 (Go.bits .or .i64 p c) 6 = 0)) = true := by kernel_rfl
theorem t_and : (([0, 2, 4, 6] : List Int).all fun p => ([0, 2, 4, 6] : List Int).all fun c => decide (m6 (Go.bits .andNot .i64 p c)) && (decide (m6 (Go.bits .or .i64 p c)) && decide (m6 (Go.bits .and .i64 p c)))) = true := by kernel_rfl
theorem t_odd : (([0, 2, 4, 6] : List Int).all fun p => !oddZ p) = true := by kernel_rfl
theorem m6_all {p c : Int} (hp : m6 p) (hc : m6 c) : m6 (Go.bits .andNot .i64 p c) ∧ m6 (Go.bits .or .i64 p c) ∧ m6 (Go.bits .and .i64 p c) := by
  have := all4 (all4 t_and hp) hc
  simp only [Bool.and_eq_true, decide_eq_true_eq] at this
  exact this
theorem m6_2 : m6 2 := .inr (.inl rfl)
theorem m6_4 : m6 4 := .inr (.inr (.inl rfl))
theorem great_no {x : Int} (h : s7 x) : greatZ x = false := by
  have h1 := h.1; have h2 := h.2
  unfold greatZ
  rw [decide_eq_false (by omega), decide_eq_false (by omega)]; rfl
theorem not_great {x : Int} (h : greatZ x = false) : s7 x := by
  unfold greatZ at h
  simp only [Bool.or_eq_false_iff, decide_eq_false_iff_not] at h
  exact ⟨by omega, by omega⟩
theorem check_put {a b p c e f g h : Int} (ha : s7 a) (hb : s7 b) (hp : m6 p) (hc : m6 c) (he : m6 e) (hf : m6 f) (hg : s7 g) (hh : s7 h) : checkZ [0, a, b] p c [e, f] [g, h] = true := by
  have h1 := of_decide_eq_true (all4 (all4 t_or hp) hc)
  have h2 := all4 t_odd he
  have h3 := all4 t_odd hf
  simp only [Bool.not_eq_true'] at h2 h3
  unfold checkZ shapeZ
  rw [decide_eq_true h1]
  simp only [List.any_cons, List.any_nil, great_no ha, great_no hb, great_no hg, great_no hh, h2, h3]
  rfl
theorem check_get {l0 : List Int} {p c : Int} {l3 l4 : List Int} (hck : checkZ l0 p c l3 l4 = true) (hp : i64R p) (hc : i64R c) (h3 : ∀ z ∈ l3, i64R z) :
    ∃ a b e f g h, l0 = [0, a, b] ∧ l3 = [e, f] ∧ l4 = [g, h] ∧ s7 a ∧ s7 b ∧ m6 p ∧ m6 c ∧ m6 e ∧ m6 f ∧ s7 g ∧ s7 h := by
  obtain ⟨e0, e3, e4, ez⟩ := check_len hck
  unfold checkZ shapeZ at hck
  simp only [Bool.and_eq_true, decide_eq_true_eq, Bool.not_eq_true'] at hck
  obtain ⟨⟨_, hpc⟩, ⟨hg0, hg4⟩, ho⟩ := hck
  obtain ⟨mp, mc⟩ := or_clear p c hp hc hpc
  match l0, e0, l3, e3, l4, e4 with
  | [z, a, b], _, [e, f], _, [g, h], _ =>
    simp only [List.any_cons, List.any_nil, Bool.or_eq_false_iff] at hg0 hg4 ho
    have hz : z = 0 := ez
    subst hz
    refine ⟨a, b, e, f, g, h, rfl, rfl, rfl, not_great hg0.2.1, not_great hg0.2.2.1, mp, mc, m6_of_clear e (h3 e (by simp)) ?_, m6_of_clear f (h3 f (by simp)) ?_, not_great hg4.1, not_great hg4.2.1⟩
    · have := ho.1; unfold oddZ at this; exact bne_eq_false_iff_eq.mp this
    · have := ho.2.1; unfold oddZ at this; exact bne_eq_false_iff_eq.mp this
theorem ints_refl (l : List Int) (hm : l.length ≤ 9223372036854775807) : ∀ (d m : Nat) (i : Int), 0 ≤ i → i + d = l.length → d < m → drawbridgeref10_ints.l0 m l l i = some true := by
  intro d
  induction d with
  | zero =>
    intro m i h0 hi hd
    obtain ⟨n, rfl⟩ : ∃ n, m = n + 1 := ⟨m - 1, by omega⟩
    rw [drawbridgeref10_ints.l0, if_neg (by omega)]
  | succ d ih =>
    intro m i h0 hi hd
    obtain ⟨n, rfl⟩ : ∃ n, m = n + 1 := ⟨m - 1, by omega⟩
    have hw : wrap64 (i + 1) = i + 1 := by unfold wrap64; omega
    rw [drawbridgeref10_ints.l0, if_pos (by omega), if_pos h0, if_pos (by omega), if_pos rfl, hw]
    exact ih n (i + 1) (by omega) (by omega) (by omega)
theorem same_refl (k : Nat) (l0 : List Int) (p c : Int) (l3 l4 : List Int) (h0 : l0.length ≤ 9223372036854775807) (h3 : l3.length ≤ 9223372036854775807) (h4 : l4.length ≤ 9223372036854775807) (k0 : l0.length < k) (k3 : l3.length < k) (k4 : l4.length < k) :
    drawbridgeref10_Same.f k l0 p c l3 l4 l0 p c l3 l4 = some true := by
  unfold drawbridgeref10_Same.f drawbridgeref10_ints.f
  rw [if_pos rfl, ints_refl l0 h0 l0.length k 0 (by decide) (by omega) k0, Option.bind_some, if_pos rfl, if_pos rfl, if_pos rfl, if_pos rfl, ints_refl l3 h3 l3.length k 0 (by decide) (by omega) k3, Option.bind_some, if_pos rfl, if_pos rfl, ints_refl l4 h4 l4.length k 0 (by decide) (by omega) k4]
  rfl
theorem u64_small {x : Int} (h0 : 0 ≤ x) (h1 : x ≤ 7) : 0 ≤ IntKind.u64.wrap x ∧ IntKind.u64.wrap x ≤ 7 := by
  have : IntKind.u64.wrap x = x % 18446744073709551616 := by simp [IntKind.wrap, IntKind.bits, IntKind.signed]
  rw [this]; omega
theorem m6_small {x : Int} (h : m6 x) : 0 ≤ x ∧ x ≤ 7 := by rcases h with h | h | h | h <;> omega
theorem u32_R (x : Int) : 0 ≤ IntKind.u32.wrap x ∧ IntKind.u32.wrap x < 4294967296 := by rw [IntKind.wrap_u32]; omega
theorem rd_or {e f k : Int} (he : m6 e) (hf : m6 f) (hk : k = 0 ∨ k = 1) : m6 (rd [e, f] k) := by rcases hk with rfl | rfl; exact he; exact hf
theorem ite_P {α : Type} {P : α → Prop} {c : Prop} [Decidable c] {x y : α} (hx : P x) (hy : P y) : P (if c then x else y) := by split; exact hx; exact hy
def LoadOk (a b e f g h : Int) (o : Option (Int × List Int × Int × Int × List Int × List Int × Bool)) : Prop := ∃ y p' c' ok, o = some (y, [0, a, b], p', c', [e, f], [g, h], ok) ∧ m6 p' ∧ m6 c' ∧ y ≤ 7
def StoreOk (p : Int) (o : Option (List Int × Int × Int × List Int × List Int × Bool)) : Prop := ∃ l0 c' l3 l4 ok, o = some (l0, p, c', l3, l4, ok) ∧ checkZ l0 p c' l3 l4 = true
set_option linter.unusedSectionVars false
section
variable {a b p c e f g h : Int} (ha : s7 a) (hb : s7 b) (hp : m6 p) (hc : m6 c) (he : m6 e) (hf : m6 f) (hg : s7 g) (hh : s7 h)
include ha hb hp hc he hf hg hh
theorem claim_keeps (k : Int) : ∃ y p' c' ok, claimZ [0, a, b] p c [e, f] [g, h] k = some (y, [0, a, b], p', c', [e, f], [g, h], ok) ∧ m6 p' ∧ m6 c' ∧ y ≤ 7 := by
  unfold claimZ
  split
  · exact ⟨_, _, _, _, rfl, hp, hc, by decide⟩
  · split
    · exact ⟨_, _, _, _, rfl, (m6_all hp m6_2).1, (m6_all hc m6_2).2.1, by decide⟩
    · exact ⟨_, _, _, _, rfl, (m6_all hp m6_4).1, (m6_all hc m6_4).2.1, by decide⟩
theorem load_ok (off : Int) : LoadOk a b e f g h (plic_Load.f [0, a, b] p c [e, f] [g, h] off 4) := by
  unfold plic_Load.f
  rw [if_pos ⟨check_put ha hb hp hc he hf hg hh, rfl⟩]
  repeat' (with_reducible apply ite_P (P := LoadOk a b e f g h))
  · exact ⟨_, _, _, _, rfl, hp, hc, (u64_small ha.1 ha.2).2⟩
  · exact ⟨_, _, _, _, rfl, hp, hc, (u64_small hb.1 hb.2).2⟩
  · exact ⟨_, _, _, _, rfl, hp, hc, (u64_small (m6_small hp).1 (m6_small hp).2).2⟩
  · exact ⟨_, _, _, _, rfl, hp, hc, (u64_small (m6_small he).1 (m6_small he).2).2⟩
  · exact ⟨_, _, _, _, rfl, hp, hc, (u64_small (m6_small hf).1 (m6_small hf).2).2⟩
  · exact ⟨_, _, _, _, rfl, hp, hc, (u64_small hg.1 hg.2).2⟩
  · exact ⟨_, _, _, _, rfl, hp, hc, (u64_small hh.1 hh.2).2⟩
  · exact claim_keeps ha hb hp hc he hf hg hh _
  · exact claim_keeps ha hb hp hc he hf hg hh _
  · exact ⟨_, _, _, _, rfl, hp, hc, by decide⟩
theorem load_keeps (off : Int) : ∃ y p' c' ok, plic_Load.f [0, a, b] p c [e, f] [g, h] off 4 = some (y, [0, a, b], p', c', [e, f], [g, h], ok) ∧ m6 p' ∧ m6 c' ∧ y ≤ 7 := by
  exact load_ok ha hb hp hc he hf hg hh off
theorem give_keeps (k v : Int) (hk : k = 0 ∨ k = 1) : ∃ c' ok, giveZ [0, a, b] p c [e, f] [g, h] k v = some ([0, a, b], p, c', [e, f], [g, h], ok) ∧ m6 c' := by
  unfold giveZ
  split
  · exact ⟨_, _, rfl, (m6_all hc (m6_all m6_2 (rd_or he hf hk)).2.2).1⟩
  · split
    · exact ⟨_, _, rfl, (m6_all hc (m6_all m6_4 (rd_or he hf hk)).2.2).1⟩
    · exact ⟨_, _, rfl, hc⟩
theorem store_ok (off v : Int) : StoreOk p (plic_Store.f [0, a, b] p c [e, f] [g, h] off 4 v) := by
  have h7 : s7 (Go.bits .and .i64 (IntKind.u32.wrap v) 7) := and7 _ (u32_R v).1 (u32_R v).2
  have h6 : m6 (Go.bits .and .i64 (IntKind.u32.wrap v) 6) := and6 _
  unfold plic_Store.f
  rw [if_pos ⟨check_put ha hb hp hc he hf hg hh, rfl⟩]
  repeat' (with_reducible apply ite_P (P := StoreOk p))
  · exact ⟨_, _, _, _, _, rfl, check_put h7 hb hp hc he hf hg hh⟩
  · exact ⟨_, _, _, _, _, rfl, check_put ha h7 hp hc he hf hg hh⟩
  · exact ⟨_, _, _, _, _, rfl, check_put ha hb hp hc he hf hg hh⟩
  · exact ⟨_, _, _, _, _, rfl, check_put ha hb hp hc h6 hf hg hh⟩
  · exact ⟨_, _, _, _, _, rfl, check_put ha hb hp hc he h6 hg hh⟩
  · exact ⟨_, _, _, _, _, rfl, check_put ha hb hp hc he hf h7 hh⟩
  · exact ⟨_, _, _, _, _, rfl, check_put ha hb hp hc he hf hg h7⟩
  · obtain ⟨c', ok, e1, m1⟩ := give_keeps ha hb hp hc he hf hg hh 0 v (.inl rfl); exact ⟨_, _, _, _, _, e1, check_put ha hb hp m1 he hf hg hh⟩
  · obtain ⟨c', ok, e1, m1⟩ := give_keeps ha hb hp hc he hf hg hh 1 v (.inr rfl); exact ⟨_, _, _, _, _, e1, check_put ha hb hp m1 he hf hg hh⟩
  · exact ⟨_, _, _, _, _, rfl, check_put ha hb hp hc he hf hg hh⟩
theorem store_keeps (off v : Int) : ∃ l0 c' l3 l4 ok, plic_Store.f [0, a, b] p c [e, f] [g, h] off 4 v = some (l0, p, c', l3, l4, ok) ∧ checkZ l0 p c' l3 l4 = true := by
  exact store_ok ha hb hp hc he hf hg hh off v
theorem set_is (x : Int) : plic_Set.f [0, a, b] p c [e, f] [g, h] x = some ([0, a, b], Go.bits .or .i64 p (Go.bits .andNot .i64 (Go.bits .and .i64 x 6) c), c, [e, f], [g, h]) := by
  unfold plic_Set.f plic_Check.f
  rw [check_put ha hb hp hc he hf hg hh, Option.bind_some, if_pos rfl]
theorem set_m6 (x : Int) : m6 (Go.bits .or .i64 p (Go.bits .andNot .i64 (Go.bits .and .i64 x 6) c)) := (m6_all hp (m6_all (and6 x) hc).1).2.1
end
end Go.Proofs.Ytmlpnjoejdpblaa.Q
end
