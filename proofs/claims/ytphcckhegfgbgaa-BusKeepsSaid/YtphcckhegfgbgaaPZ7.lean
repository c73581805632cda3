import Derived.Test.YtphcckhegfgbgaaPXEst1
import Derived.Test.YtphcckhegfgbgaaPXEst2
import Derived.Test.YtphcckhegfgbgaaPXEst3
import Derived.Test.YtphcckhegfgbgaaPXEst4
import Derived.Test.YtphcckhegfgbgaaPZ3
import Derived.Test.YtphcckhegfgbgaaPZ1
import Derived.Test.YtphcckhegfgbgaaPZ4
import Derived.Test.YtphcckhegfgbgaaPZ5
import Derived.Test.YtphcckhegfgbgaaPZ2
import Derived.Test.YtphcckhegfgbgaaPXQx10
import Derived.Test.YtphcckhegfgbgaaPZ6
import Derived.Laws.StructEq
import Derived.Deep.DeepCutAuto
import Derived.RegionTactic
import Derived.BigRegion
section
/- plic.Store, as those who call it have it. -/
namespace Go.Proofs.Ytphcckhegfgbgaa.Q
open Go.RowKit Go.Proofs.YtphcckhegfgbgaaW.PrintWords Go.Proofs.YtphcckhegfgbgaaW.PrintLast Go.Proofs.YtphcckhegfgbgaaW.PrintMore Go.Proofs.Ytphcckhegfgbgaa.L
attribute [local go_sem] Instr.field part asAgg lt_step max2_int min2_int max_two min_two max_three min_three max_four min_four lt_0_1 lt_0_2 lt_1_2 lt_0_3 lt_1_3 lt_2_3 lt_0_4 lt_1_4 lt_2_4 lt_3_4 lt_0_5 lt_1_5 lt_2_5 lt_3_5 lt_4_5 lt_0_6 lt_1_6 lt_2_6 lt_3_6 lt_4_6 lt_5_6 lt_0_7 lt_1_7 lt_2_7 lt_3_7 lt_4_7 lt_5_7 lt_6_7 lt_0_8 lt_1_8 lt_2_8 lt_3_8 lt_4_8 lt_5_8 lt_6_8 lt_7_8
set_option linter.unusedVariables false
set_option linter.unusedSimpArgs false
def giveZ (l0_0 : List Int) (a0_1 : Int) (a0_2 : Int) (l0_3 : List Int) (l0_4 : List Int) (k a3 : Int) : Option (List Int × Int × Int × List Int × List Int × Bool) :=
  if (IntKind.u32.wrap a3) = 1 then some (l0_0, a0_1, Go.bits .andNot .i64 a0_2 (Go.bits .and .i64 2 (rd l0_3 k)), l0_3, l0_4, true) else if (IntKind.u32.wrap a3) = 2 then some (l0_0, a0_1, Go.bits .andNot .i64 a0_2 (Go.bits .and .i64 4 (rd l0_3 k)), l0_3, l0_4, true) else some (l0_0, a0_1, a0_2, l0_3, l0_4, true)
def plic_Store.f (l0_0 : List Int) (a0_1 : Int) (a0_2 : Int) (l0_3 : List Int) (l0_4 : List Int) (a1 : Int) (a2 : Int) (a3 : Int) : Option (List Int × Int × Int × List Int × List Int × Bool) :=
  if checkZ l0_0 a0_1 a0_2 l0_3 l0_4 = true ∧ a2 = 4 then
    (if a1 = 4 then some (l0_0.set 1 (Go.bits .and .i64 (IntKind.u32.wrap a3) 7), a0_1, a0_2, l0_3, l0_4, true) else if a1 = 8 then some (l0_0.set 2 (Go.bits .and .i64 (IntKind.u32.wrap a3) 7), a0_1, a0_2, l0_3, l0_4, true) else if a1 = 4096 then some (l0_0, a0_1, a0_2, l0_3, l0_4, true) else if a1 = 8192 then some (l0_0, a0_1, a0_2, l0_3.set 0 (Go.bits .and .i64 (IntKind.u32.wrap a3) 6), l0_4, true) else if a1 = 8320 then some (l0_0, a0_1, a0_2, l0_3.set 1 (Go.bits .and .i64 (IntKind.u32.wrap a3) 6), l0_4, true) else if a1 = 2097152 then some (l0_0, a0_1, a0_2, l0_3, l0_4.set 0 (Go.bits .and .i64 (IntKind.u32.wrap a3) 7), true) else if a1 = 2101248 then some (l0_0, a0_1, a0_2, l0_3, l0_4.set 1 (Go.bits .and .i64 (IntKind.u32.wrap a3) 7), true)
     else if a1 = 2097156 then giveZ l0_0 a0_1 a0_2 l0_3 l0_4 0 a3 else if a1 = 2101252 then giveZ l0_0 a0_1 a0_2 l0_3 l0_4 1 a3 else some (l0_0, a0_1, a0_2, l0_3, l0_4, false))
  else some (l0_0, a0_1, a0_2, l0_3, l0_4, false)
theorem plic_Store.calls (P0_0_ : Nat → Prop) (A0_0 : Option Addr) (c0_0 : Nat) (l0_0 : List Int) (a0_1 : Int) (a0_2 : Int) (P0_3_ : Nat → Prop) (A0_3 : Option Addr) (c0_3 : Nat) (l0_3 : List Int) (P0_4_ : Nat → Prop) (A0_4 : Option Addr) (c0_4 : Nat) (l0_4 : List Int) (a1 : Int) (a2 : Int) (a3 : Int) (r1 : List Int) (r2 : Int) (r3 : Int) (r4 : List Int) (r5 : List Int) (r6 : Bool) (w : World) (hs0_0 : Kd.V (Kd.int .i64) 3 w w.heap.size (fun k_ => P0_0_ k_) (.slice A0_0 l0_0.length c0_0) l0_0) (hs0_3 : Kd.V (Kd.int .i64) 3 w w.heap.size (fun k_ => P0_3_ k_) (.slice A0_3 l0_3.length c0_3) l0_3) (hs0_4 : Kd.V (Kd.int .i64) 3 w w.heap.size (fun k_ => P0_4_ k_) (.slice A0_4 l0_4.length c0_4) l0_4) (h : plic_Store.f l0_0 a0_1 a0_2 l0_3 l0_4 a1 a2 a3 = some (r1, r2, r3, r4, r5, r6)) :
    Calls Try.prog 17 #[.agg #[.slice A0_0 l0_0.length c0_0, .int .i64 a0_1, .int .i64 a0_2, .slice A0_3 l0_3.length c0_3, .slice A0_4 l0_4.length c0_4], .int .u64 a1, .int .i64 a2, .int .u64 a3] w fun e w' => ∃ v0_ v3_ v4_ : Value, e = .returned (.tuple #[.agg #[v0_, .int .i64 r2, .int .i64 r3, v3_, v4_], .bool r6]) ∧ Kd.V (Kd.int .i64) 3 w' w.heap.size (fun k_ => ((P0_0_ k_ ∨ P0_3_ k_ ∨ P0_4_ k_) ∨ w.heap.size ≤ k_)) v0_ r1 ∧ Kd.V (Kd.int .i64) 3 w' w.heap.size (fun k_ => ((P0_0_ k_ ∨ P0_3_ k_ ∨ P0_4_ k_) ∨ w.heap.size ≤ k_)) v3_ r4 ∧ Kd.V (Kd.int .i64) 3 w' w.heap.size (fun k_ => ((P0_0_ k_ ∨ P0_3_ k_ ∨ P0_4_ k_) ∨ w.heap.size ≤ k_)) v4_ r5 ∧ Below w.heap.size w w' := by
  obtain ⟨_, hc0, hF0⟩ := V_F hs0_0
  obtain ⟨_, hc3, hF3⟩ := V_F hs0_3
  obtain ⟨_, hc4, hF4⟩ := V_F hs0_4
  have g0 := Kd.F_now hF0
  have g3 := Kd.F_now hF3
  have g4 := Kd.F_now hF4
  have hY0 : 0 ≤ IntKind.u32.wrap a3 ∧ IntKind.u32.wrap a3 < 4294967296 := by rw [IntKind.wrap_u32']; omega
  unfold plic_Store.f at h
  by_cases hg : checkZ l0_0 a0_1 a0_2 l0_3 l0_4 = true ∧ a2 = 4
  · rw [if_pos hg] at h
    obtain ⟨hck, rfl⟩ := hg
    by_cases h4 : a1 = 4
    · rw [if_pos h4] at h
      subst h4
      simp only [Option.some.injEq, Prod.mk.injEq] at h
      obtain ⟨rfl, rfl, rfl, rfl, rfl, rfl⟩ := h
      refine (store_p1 _ _ l0_0 a0_1 a0_2 _ _ l0_3 _ _ l0_4 a3 _ w rfl hY0.1 hY0.2 hck g0 g3 g4 hc0 hc3 hc4).mono ?_
      rintro e w' ⟨A', c', he, hc', hF', hB⟩
      exact ⟨_, _, _, he, Kd.V_mk hc' (Kd.F_mono hF' (fun j h => .inr h)), Kd.V_mk hc3 (Kd.F_mono (Kd.F_below hF3 hB) (fun j h => .inl (.inr (.inl h)))), Kd.V_mk hc4 (Kd.F_mono (Kd.F_below hF4 hB) (fun j h => .inl (.inr (.inr h)))), hB⟩
    rw [if_neg h4] at h
    by_cases h8 : a1 = 8
    · rw [if_pos h8] at h
      subst h8
      simp only [Option.some.injEq, Prod.mk.injEq] at h
      obtain ⟨rfl, rfl, rfl, rfl, rfl, rfl⟩ := h
      refine (store_p2 _ _ l0_0 a0_1 a0_2 _ _ l0_3 _ _ l0_4 a3 _ w rfl hY0.1 hY0.2 hck g0 g3 g4 hc0 hc3 hc4).mono ?_
      rintro e w' ⟨A', c', he, hc', hF', hB⟩
      exact ⟨_, _, _, he, Kd.V_mk hc' (Kd.F_mono hF' (fun j h => .inr h)), Kd.V_mk hc3 (Kd.F_mono (Kd.F_below hF3 hB) (fun j h => .inl (.inr (.inl h)))), Kd.V_mk hc4 (Kd.F_mono (Kd.F_below hF4 hB) (fun j h => .inl (.inr (.inr h)))), hB⟩
    rw [if_neg h8] at h
    by_cases h4096 : a1 = 4096
    · rw [if_pos h4096] at h
      subst h4096
      simp only [Option.some.injEq, Prod.mk.injEq] at h
      obtain ⟨rfl, rfl, rfl, rfl, rfl, rfl⟩ := h
      refine (store_pend _ _ l0_0 a0_1 a0_2 _ _ l0_3 _ _ l0_4 a3 _ w rfl hY0.1 hY0.2 hck g0 g3 g4 hc0 hc3 hc4).mono ?_
      rintro e w' ⟨he, hB⟩
      exact ⟨_, _, _, he, Kd.V_mk hc0 (Kd.F_mono (Kd.F_below hF0 hB) (fun j h => .inl (.inl h))), Kd.V_mk hc3 (Kd.F_mono (Kd.F_below hF3 hB) (fun j h => .inl (.inr (.inl h)))), Kd.V_mk hc4 (Kd.F_mono (Kd.F_below hF4 hB) (fun j h => .inl (.inr (.inr h)))), hB⟩
    rw [if_neg h4096] at h
    by_cases h8192 : a1 = 8192
    · rw [if_pos h8192] at h
      subst h8192
      simp only [Option.some.injEq, Prod.mk.injEq] at h
      obtain ⟨rfl, rfl, rfl, rfl, rfl, rfl⟩ := h
      refine (store_e0 _ _ l0_0 a0_1 a0_2 _ _ l0_3 _ _ l0_4 a3 _ w rfl hY0.1 hY0.2 hck g0 g3 g4 hc0 hc3 hc4).mono ?_
      rintro e w' ⟨A', c', he, hc', hF', hB⟩
      exact ⟨_, _, _, he, Kd.V_mk hc0 (Kd.F_mono (Kd.F_below hF0 hB) (fun j h => .inl (.inl h))), Kd.V_mk hc' (Kd.F_mono hF' (fun j h => .inr h)), Kd.V_mk hc4 (Kd.F_mono (Kd.F_below hF4 hB) (fun j h => .inl (.inr (.inr h)))), hB⟩
    rw [if_neg h8192] at h
    by_cases h8320 : a1 = 8320
    · rw [if_pos h8320] at h
      subst h8320
      simp only [Option.some.injEq, Prod.mk.injEq] at h
      obtain ⟨rfl, rfl, rfl, rfl, rfl, rfl⟩ := h
      refine (store_e1 _ _ l0_0 a0_1 a0_2 _ _ l0_3 _ _ l0_4 a3 _ w rfl hY0.1 hY0.2 hck g0 g3 g4 hc0 hc3 hc4).mono ?_
      rintro e w' ⟨A', c', he, hc', hF', hB⟩
      exact ⟨_, _, _, he, Kd.V_mk hc0 (Kd.F_mono (Kd.F_below hF0 hB) (fun j h => .inl (.inl h))), Kd.V_mk hc' (Kd.F_mono hF' (fun j h => .inr h)), Kd.V_mk hc4 (Kd.F_mono (Kd.F_below hF4 hB) (fun j h => .inl (.inr (.inr h)))), hB⟩
    rw [if_neg h8320] at h
    by_cases h2097152 : a1 = 2097152
    · rw [if_pos h2097152] at h
      subst h2097152
      simp only [Option.some.injEq, Prod.mk.injEq] at h
      obtain ⟨rfl, rfl, rfl, rfl, rfl, rfl⟩ := h
      refine (store_t0 _ _ l0_0 a0_1 a0_2 _ _ l0_3 _ _ l0_4 a3 _ w rfl hY0.1 hY0.2 hck g0 g3 g4 hc0 hc3 hc4).mono ?_
      rintro e w' ⟨A', c', he, hc', hF', hB⟩
      exact ⟨_, _, _, he, Kd.V_mk hc0 (Kd.F_mono (Kd.F_below hF0 hB) (fun j h => .inl (.inl h))), Kd.V_mk hc3 (Kd.F_mono (Kd.F_below hF3 hB) (fun j h => .inl (.inr (.inl h)))), Kd.V_mk hc' (Kd.F_mono hF' (fun j h => .inr h)), hB⟩
    rw [if_neg h2097152] at h
    by_cases h2101248 : a1 = 2101248
    · rw [if_pos h2101248] at h
      subst h2101248
      simp only [Option.some.injEq, Prod.mk.injEq] at h
      obtain ⟨rfl, rfl, rfl, rfl, rfl, rfl⟩ := h
      refine (store_t1 _ _ l0_0 a0_1 a0_2 _ _ l0_3 _ _ l0_4 a3 _ w rfl hY0.1 hY0.2 hck g0 g3 g4 hc0 hc3 hc4).mono ?_
      rintro e w' ⟨A', c', he, hc', hF', hB⟩
      exact ⟨_, _, _, he, Kd.V_mk hc0 (Kd.F_mono (Kd.F_below hF0 hB) (fun j h => .inl (.inl h))), Kd.V_mk hc3 (Kd.F_mono (Kd.F_below hF3 hB) (fun j h => .inl (.inr (.inl h)))), Kd.V_mk hc' (Kd.F_mono hF' (fun j h => .inr h)), hB⟩
    rw [if_neg h2101248] at h
    by_cases h2097156 : a1 = 2097156
    · rw [if_pos h2097156] at h
      subst h2097156
      unfold giveZ at h
      by_cases hy1 : (IntKind.u32.wrap a3) = 1
      · rw [if_pos hy1] at h
        simp only [Option.some.injEq, Prod.mk.injEq] at h
        obtain ⟨rfl, rfl, rfl, rfl, rfl, rfl⟩ := h
        refine (store_c01 _ _ l0_0 a0_1 a0_2 _ _ l0_3 _ _ l0_4 a3 w hy1 hck g0 g3 g4 hc0 hc3 hc4).mono ?_
        rintro e w' ⟨he, hB⟩
        exact ⟨_, _, _, he, Kd.V_mk hc0 (Kd.F_mono (Kd.F_below hF0 hB) (fun j h => .inl (.inl h))), Kd.V_mk hc3 (Kd.F_mono (Kd.F_below hF3 hB) (fun j h => .inl (.inr (.inl h)))), Kd.V_mk hc4 (Kd.F_mono (Kd.F_below hF4 hB) (fun j h => .inl (.inr (.inr h)))), hB⟩
      rw [if_neg hy1] at h
      by_cases hy2 : (IntKind.u32.wrap a3) = 2
      · rw [if_pos hy2] at h
        simp only [Option.some.injEq, Prod.mk.injEq] at h
        obtain ⟨rfl, rfl, rfl, rfl, rfl, rfl⟩ := h
        refine (store_c02 _ _ l0_0 a0_1 a0_2 _ _ l0_3 _ _ l0_4 a3 w hy2 hck g0 g3 g4 hc0 hc3 hc4).mono ?_
        rintro e w' ⟨he, hB⟩
        exact ⟨_, _, _, he, Kd.V_mk hc0 (Kd.F_mono (Kd.F_below hF0 hB) (fun j h => .inl (.inl h))), Kd.V_mk hc3 (Kd.F_mono (Kd.F_below hF3 hB) (fun j h => .inl (.inr (.inl h)))), Kd.V_mk hc4 (Kd.F_mono (Kd.F_below hF4 hB) (fun j h => .inl (.inr (.inr h)))), hB⟩
      rw [if_neg hy2] at h
      simp only [Option.some.injEq, Prod.mk.injEq] at h
      obtain ⟨rfl, rfl, rfl, rfl, rfl, rfl⟩ := h
      refine (store_c0n _ _ l0_0 a0_1 a0_2 _ _ l0_3 _ _ l0_4 a3 _ w rfl hY0.1 hY0.2 hck (by omega) g0 g3 g4 hc0 hc3 hc4).mono ?_
      rintro e w' ⟨he, hB⟩
      exact ⟨_, _, _, he, Kd.V_mk hc0 (Kd.F_mono (Kd.F_below hF0 hB) (fun j h => .inl (.inl h))), Kd.V_mk hc3 (Kd.F_mono (Kd.F_below hF3 hB) (fun j h => .inl (.inr (.inl h)))), Kd.V_mk hc4 (Kd.F_mono (Kd.F_below hF4 hB) (fun j h => .inl (.inr (.inr h)))), hB⟩
    rw [if_neg h2097156] at h
    by_cases h2101252 : a1 = 2101252
    · rw [if_pos h2101252] at h
      subst h2101252
      unfold giveZ at h
      by_cases hy1 : (IntKind.u32.wrap a3) = 1
      · rw [if_pos hy1] at h
        simp only [Option.some.injEq, Prod.mk.injEq] at h
        obtain ⟨rfl, rfl, rfl, rfl, rfl, rfl⟩ := h
        refine (store_c11 _ _ l0_0 a0_1 a0_2 _ _ l0_3 _ _ l0_4 a3 w hy1 hck g0 g3 g4 hc0 hc3 hc4).mono ?_
        rintro e w' ⟨he, hB⟩
        exact ⟨_, _, _, he, Kd.V_mk hc0 (Kd.F_mono (Kd.F_below hF0 hB) (fun j h => .inl (.inl h))), Kd.V_mk hc3 (Kd.F_mono (Kd.F_below hF3 hB) (fun j h => .inl (.inr (.inl h)))), Kd.V_mk hc4 (Kd.F_mono (Kd.F_below hF4 hB) (fun j h => .inl (.inr (.inr h)))), hB⟩
      rw [if_neg hy1] at h
      by_cases hy2 : (IntKind.u32.wrap a3) = 2
      · rw [if_pos hy2] at h
        simp only [Option.some.injEq, Prod.mk.injEq] at h
        obtain ⟨rfl, rfl, rfl, rfl, rfl, rfl⟩ := h
        refine (store_c12 _ _ l0_0 a0_1 a0_2 _ _ l0_3 _ _ l0_4 a3 w hy2 hck g0 g3 g4 hc0 hc3 hc4).mono ?_
        rintro e w' ⟨he, hB⟩
        exact ⟨_, _, _, he, Kd.V_mk hc0 (Kd.F_mono (Kd.F_below hF0 hB) (fun j h => .inl (.inl h))), Kd.V_mk hc3 (Kd.F_mono (Kd.F_below hF3 hB) (fun j h => .inl (.inr (.inl h)))), Kd.V_mk hc4 (Kd.F_mono (Kd.F_below hF4 hB) (fun j h => .inl (.inr (.inr h)))), hB⟩
      rw [if_neg hy2] at h
      simp only [Option.some.injEq, Prod.mk.injEq] at h
      obtain ⟨rfl, rfl, rfl, rfl, rfl, rfl⟩ := h
      refine (store_c1n _ _ l0_0 a0_1 a0_2 _ _ l0_3 _ _ l0_4 a3 _ w rfl hY0.1 hY0.2 hck (by omega) g0 g3 g4 hc0 hc3 hc4).mono ?_
      rintro e w' ⟨he, hB⟩
      exact ⟨_, _, _, he, Kd.V_mk hc0 (Kd.F_mono (Kd.F_below hF0 hB) (fun j h => .inl (.inl h))), Kd.V_mk hc3 (Kd.F_mono (Kd.F_below hF3 hB) (fun j h => .inl (.inr (.inl h)))), Kd.V_mk hc4 (Kd.F_mono (Kd.F_below hF4 hB) (fun j h => .inl (.inr (.inr h)))), hB⟩
    rw [if_neg h2101252] at h
    simp only [Option.some.injEq, Prod.mk.injEq] at h
    obtain ⟨rfl, rfl, rfl, rfl, rfl, rfl⟩ := h
    refine (store_none _ _ l0_0 a0_1 a0_2 _ _ l0_3 _ _ l0_4 a1 a3 _ w rfl hY0.1 hY0.2 hck (beq_eq_false_iff_ne.mpr h4) (beq_eq_false_iff_ne.mpr h8) (beq_eq_false_iff_ne.mpr h4096) ((if_neg h8192).trans (if_neg h8320)) ((if_neg h2097152).trans (if_neg h2101248)) ((if_neg h2097156).trans (if_neg h2101252)) g0 g3 g4 hc0 hc3 hc4).mono ?_
    rintro e w' ⟨he, hB⟩
    exact ⟨_, _, _, he, Kd.V_mk hc0 (Kd.F_mono (Kd.F_below hF0 hB) (fun j h => .inl (.inl h))), Kd.V_mk hc3 (Kd.F_mono (Kd.F_below hF3 hB) (fun j h => .inl (.inr (.inl h)))), Kd.V_mk hc4 (Kd.F_mono (Kd.F_below hF4 hB) (fun j h => .inl (.inr (.inr h)))), hB⟩
  · rw [if_neg hg] at h
    simp only [Option.some.injEq, Prod.mk.injEq] at h
    obtain ⟨rfl, rfl, rfl, rfl, rfl, rfl⟩ := h
    have key : Calls Try.prog 17 #[.agg #[.slice A0_0 l0_0.length c0_0, .int .i64 a0_1, .int .i64 a0_2, .slice A0_3 l0_3.length c0_3, .slice A0_4 l0_4.length c0_4], .int .u64 a1, .int .i64 a2, .int .u64 a3] w fun e w' => e = .returned (.tuple #[.agg #[.slice A0_0 l0_0.length c0_0, .int .i64 a0_1, .int .i64 a0_2, .slice A0_3 l0_3.length c0_3, .slice A0_4 l0_4.length c0_4], .bool false]) ∧ Below w.heap.size w w' := by
      cases hck : checkZ l0_0 a0_1 a0_2 l0_3 l0_4
      · exact store_nock _ _ l0_0 a0_1 a0_2 _ _ l0_3 _ _ l0_4 a1 a2 a3 w hck g0 g3 g4
      · exact store_nosz _ _ l0_0 a0_1 a0_2 _ _ l0_3 _ _ l0_4 a1 a2 a3 w hck (bne_iff_ne.mpr (fun e => hg ⟨hck, e⟩)) g0 g3 g4
    refine (key).mono ?_
    rintro e w' ⟨he, hB⟩
    exact ⟨_, _, _, he, Kd.V_mk hc0 (Kd.F_mono (Kd.F_below hF0 hB) (fun j h => .inl (.inl h))), Kd.V_mk hc3 (Kd.F_mono (Kd.F_below hF3 hB) (fun j h => .inl (.inr (.inl h)))), Kd.V_mk hc4 (Kd.F_mono (Kd.F_below hF4 hB) (fun j h => .inl (.inr (.inr h)))), hB⟩
end Go.Proofs.Ytphcckhegfgbgaa.Q
end
section
/- The devices, as the board has them: their slices as values. -/
namespace Go.Proofs.Ytphcckhegfgbgaa.Q
open Go.RowKit Go.Proofs.YtphcckhegfgbgaaW.PrintWords Go.Proofs.YtphcckhegfgbgaaW.PrintLast Go.Proofs.YtphcckhegfgbgaaW.PrintMore Go.Proofs.Ytphcckhegfgbgaa.L
set_option linter.unusedVariables false
section
variable {w : World} {ok : Nat → Prop} {b : Bd} {v : Vs} (hF : BF w ok b v)
include hF
theorem uartSt_c (off size x : Int) (i o : List Int) (a c : Int) (r : Bool) (h : uart_Store.f b.i b.o b.ie b.lo off size x = some (i, o, a, c, r)) :
    Calls Try.prog 18 #[.agg (Buart b v), .int .u64 off, .int .i64 size, .int .u64 x] w fun e w' => ∃ u0 u1 : Value, e = .returned (.tuple #[.agg #[u0, u1, .int .i64 a, .int .i64 c], .bool r]) ∧ (SL .u8 w' (fun j => ok j ∨ w.heap.size ≤ j) u0 i ∧ SL .u8 w' (fun j => ok j ∨ w.heap.size ≤ j) u1 o) ∧ Below w.heap.size w w' := by
  obtain ⟨A0, c0, e0, h0⟩ := hF.u0.V (ty := 5) (n := w.heap.size)
  obtain ⟨A1, c1, e1, h1⟩ := hF.u1.V (ty := 5) (n := w.heap.size)
  unfold Buart
  rw [e0, e1]
  refine (uart_Store.calls ok A0 c0 b.i ok A1 c1 b.o b.ie b.lo off size x i o a c r w h0 h1 h).mono ?_
  rintro e w' ⟨v0, v1, he, s0, s1, hb⟩
  exact ⟨v0, v1, he, ⟨(SL.of_V s0).mono (fun j hj => by simpa using hj), (SL.of_V s1).mono (fun j hj => by simpa using hj)⟩, hb⟩
theorem ramWr_c (at_ size x : Int) (l : List Int) (r : Bool) (h : ram_Write.f b.ram at_ size x = some (l, r)) :
    Calls Try.prog 20 #[.agg #[v.D], .int .u64 at_, .int .i64 size, .int .u64 x] w fun e w' => ∃ D : Value, e = .returned (.tuple #[.agg #[D], .bool r]) ∧ SL .u8 w' (fun j => ok j ∨ w.heap.size ≤ j) D l ∧ Below w.heap.size w w' := by
  obtain ⟨A0, c0, e0, h0⟩ := hF.D.V (ty := 5) (n := w.heap.size)
  rw [e0]
  refine (ram_Write.calls ok A0 c0 b.ram at_ size x l r w h0 h).mono ?_
  rintro e w' ⟨v0, he, s0, hb⟩
  exact ⟨v0, he, SL.of_V s0, hb⟩
end
theorem in_c (r : Bool) (x base size : Int) (g : Nat) (w : World) (hr : inZ x base size = r) (hg : w.heap[g]? = some (.cells #[.int .u64 x] 25 (0, 0))) :
    Calls Try.prog 39 #[.int .u64 base, .int .u64 size, .pointer (some ⟨g, 0, none⟩)] w fun e w' => e = .returned (.bool r) ∧ w = w' := by
  subst hr; exact in_is x base size g w hg
end Go.Proofs.Ytphcckhegfgbgaa.Q
end
section
/- The devices that are read, and the closure of bus.Lines. -/
namespace Go.Proofs.Ytphcckhegfgbgaa.Q
open Go.RowKit Go.Proofs.YtphcckhegfgbgaaW.PrintWords Go.Proofs.YtphcckhegfgbgaaW.PrintLast Go.Proofs.YtphcckhegfgbgaaW.PrintMore Go.Proofs.Ytphcckhegfgbgaa.L
attribute [local go_sem] Instr.field part asAgg lt_step max2_int min2_int max_two min_two max_three min_three max_four min_four lt_0_1 lt_0_2 lt_1_2 lt_0_3 lt_1_3 lt_2_3 lt_0_4 lt_1_4 lt_2_4 lt_3_4 lt_0_5 lt_1_5 lt_2_5 lt_3_5 lt_4_5 lt_0_6 lt_1_6 lt_2_6 lt_3_6 lt_4_6 lt_5_6 lt_0_7 lt_1_7 lt_2_7 lt_3_7 lt_4_7 lt_5_7 lt_6_7 lt_0_8 lt_1_8 lt_2_8 lt_3_8 lt_4_8 lt_5_8 lt_6_8 lt_7_8
set_option linter.unusedVariables false
set_option linter.unusedSimpArgs false
section
variable {w : World} {ok : Nat → Prop} {b : Bd} {v : Vs} (hF : BF w ok b v)
include hF
theorem uartLine_c (r : Bool) (h : uart_Line.f b.i b.o b.ie b.lo = some r) : Calls Try.prog 30 #[.agg (Buart b v)] w fun e w' => e = .returned (.bool r) ∧ Below w.heap.size w w' := by
  obtain ⟨A0, c0, e0, h0, g0⟩ := hF.u0
  obtain ⟨A1, c1, e1, h1, g1⟩ := hF.u1
  unfold Buart
  rw [e0, e1]
  exact uart_Line.calls A0 c0 b.i A1 c1 b.o b.ie b.lo r w (Kd.F_now g0) h0 (Kd.F_now g1) h1 h
theorem nicLine_c (r : Bool) (h : lineZ b.c b.mac.length = r) : Calls Try.prog 31 #[.agg (C14 b.c v.M)] w fun e w' => e = .returned (.bool r) ∧ Below w.heap.size w w' := by
  obtain ⟨A0, c0, e0, h0, g0⟩ := hF.M
  subst h
  rw [e0]
  exact Line_is b.c A0 b.mac.length c0 w _ rfl
theorem plicBest_c (k : Int) (r : Int) (h : plic_Best.f 4 b.q0 b.x b.y b.q3 b.q4 k = some r) : Calls Try.prog 35 #[.agg (Bplic b v), .int .i64 k] w fun e w' => e = .returned (.int .i64 r) ∧ Below w.heap.size w w' := by
  obtain ⟨A0, c0, e0, h0, g0⟩ := hF.p0
  obtain ⟨A3, c3, e3, h3, g3⟩ := hF.p3
  obtain ⟨A4, c4, e4, h4, g4⟩ := hF.p4
  unfold Bplic
  rw [e0, e3, e4]
  exact plic_Best.calls 4 A0 c0 b.q0 b.x b.y A3 c3 b.q3 A4 c4 b.q4 k r w (Kd.F_now g0) h0 (Kd.F_now g3) h3 (Kd.F_now g4) h4 h
theorem plicSet_c (k : Int) (q0 : List Int) (a c : Int) (q3 q4 : List Int) (h : plic_Set.f b.q0 b.x b.y b.q3 b.q4 k = some (q0, a, c, q3, q4)) :
    Calls Try.prog 32 #[.agg (Bplic b v), .int .i64 k] w fun e w' => ∃ p0 p3 p4 : Value, e = .returned (.agg #[p0, .int .i64 a, .int .i64 c, p3, p4]) ∧ (SL .i64 w' (fun j => ok j ∨ w.heap.size ≤ j) p0 q0 ∧ SL .i64 w' (fun j => ok j ∨ w.heap.size ≤ j) p3 q3 ∧ SL .i64 w' (fun j => ok j ∨ w.heap.size ≤ j) p4 q4) ∧ Below w.heap.size w w' := by
  obtain ⟨A0, c0, e0, h0⟩ := hF.p0.V (ty := 3) (n := w.heap.size)
  obtain ⟨A3, c3, e3, h3⟩ := hF.p3.V (ty := 3) (n := w.heap.size)
  obtain ⟨A4, c4, e4, h4⟩ := hF.p4.V (ty := 3) (n := w.heap.size)
  unfold Bplic
  rw [e0, e3, e4]
  refine (plic_Set.calls ok A0 c0 b.q0 b.x b.y ok A3 c3 b.q3 ok A4 c4 b.q4 k q0 a c q3 q4 w h0 h3 h4 h).mono ?_
  rintro e w' ⟨v0, v3, v4, he, s0, s3, s4, hb⟩
  exact ⟨v0, v3, v4, he, ⟨(SL.of_V s0).mono (fun j hj => by simpa using hj), (SL.of_V s3).mono (fun j hj => by simpa using hj), (SL.of_V s4).mono (fun j hj => by simpa using hj)⟩, hb⟩
theorem ramRead_c (k : Nat) (at_ size x : Int) (r : Bool) (h : ram_Read.f k b.ram at_ size = some (x, r)) : Calls Try.prog 25 #[.agg #[v.D], .int .u64 at_, .int .i64 size] w fun e w' => e = .returned (.tuple #[.int .u64 x, .bool r]) ∧ Below w.heap.size w w' := by
  obtain ⟨A0, c0, e0, h0, g0⟩ := hF.D
  rw [e0]
  exact ram_Read.calls k A0 c0 b.ram at_ size x r w (Kd.F_now g0) h0 h
end
theorem clintLines_c (b : Bd) (s t : Bool) (w : World) (h : clint_Lines.f b.t b.k b.s = some (s, t)) : Calls Try.prog 34 #[.agg (Bclint b)] w fun e w' => e = .returned (.tuple #[.bool s, .bool t]) ∧ Below w.heap.size w w' := clint_Lines.calls b.t b.k b.s s t w h
def raiseZ (is : Bool) (bit u : Int) : Int := if is then Go.bits .or .u64 u bit else u
theorem raise_is (is : Bool) (bit u : Int) (g : Nat) (w : World) (hg : w.heap[g]? = some (.cells #[.int .u64 u] 25 (0, 0))) :
    Calls Try.prog 33 #[.bool is, .int .u64 bit, .pointer (some ⟨g, 0, none⟩)] w fun e w' => e = .returned (.tuple #[]) ∧ w'.heap[g]? = some (.cells #[.int .u64 (raiseZ is bit u)] 25 (0, 0)) ∧ (∀ i, i ≠ g → w'.heap[i]? = w.heap[i]?) ∧ Below g w w' ∧ w'.heap.size = w.heap.size := by
  obtain ⟨gc, gf, gl⟩ := cells_of hg
  have hc : w.cell? ⟨g, 0, none⟩ = some (.int .u64 u) := gc 0
  have hf : w.frozen? ⟨g, 0, none⟩ = false := gf 0
  cases is
  · have key : Calls Try.prog 33 #[.bool false, .int .u64 bit, .pointer (some ⟨g, 0, none⟩)] w fun e w' => e = .returned (.tuple #[]) ∧ w = w' := by
      go_enter Try.func33, Try.ntmps33
      go_wp2
      simp [bodyPost, results, go_sem]
      try rfl
    refine key.mono ?_
    rintro e w' ⟨rfl, rfl⟩
    exact ⟨rfl, hg, fun i _ => rfl, Below.refl _ _, rfl⟩
  · have key : Calls Try.prog 33 #[.bool true, .int .u64 bit, .pointer (some ⟨g, 0, none⟩)] w fun e w' => e = .returned (.tuple #[]) ∧ w' = w.setCell ⟨g, 0, none⟩ (.int .u64 (Go.bits .or .u64 u bit)) := by
      go_enter Try.func33, Try.ntmps33
      (go_wp2; (first | go_region | skip); (all_goals go_wp2))
      all_goals (simp [bodyPost, results, go_sem]; try rfl)
    refine key.mono ?_
    rintro e w' ⟨rfl, rfl⟩
    exact ⟨rfl, blk_put hg 0 _ rfl, fun i hi => Below.heap_setCell w ⟨g, 0, none⟩ _ i hi, Below.setCell (Below.refl g w) (p := ⟨g, 0, none⟩) (Nat.le_refl _) _, by simp⟩
end Go.Proofs.Ytphcckhegfgbgaa.Q
end
section
/- The document's Same on two boards that are equal; small. -/
namespace Go.Proofs.Ytphcckhegfgbgaa.Q
open Go.RowKit Go.Proofs.YtphcckhegfgbgaaW.PrintWords Go.Proofs.YtphcckhegfgbgaaW.PrintLast Go.Proofs.YtphcckhegfgbgaaW.PrintMore Go.Proofs.Ytphcckhegfgbgaa.L
attribute [local go_sem] Instr.field part asAgg lt_step max2_int min2_int max_two min_two max_three min_three max_four min_four lt_0_1 lt_0_2 lt_1_2 lt_0_3 lt_1_3 lt_2_3 lt_0_4 lt_1_4 lt_2_4 lt_3_4 lt_0_5 lt_1_5 lt_2_5 lt_3_5 lt_4_5 lt_0_6 lt_1_6 lt_2_6 lt_3_6 lt_4_6 lt_5_6 lt_0_7 lt_1_7 lt_2_7 lt_3_7 lt_4_7 lt_5_7 lt_6_7 lt_0_8 lt_1_8 lt_2_8 lt_3_8 lt_4_8 lt_5_8 lt_6_8 lt_7_8
set_option linter.unusedVariables false
set_option linter.unusedSimpArgs false
set_option maxRecDepth 100000 in
theorem eqClint (b : Bd) (x y : Operand) (w : World) : (eqGuard .eql 27 x y (.agg (Bclint b)) (.agg (Bclint b))).run Try.prog w = .ok () w ∧
    (binOp .eql 27 (.agg (Bclint b)) (.agg (Bclint b))).run Try.prog w = .ok (.bool true) w := by
  unfold Bclint
  constructor
  · exact run_eqGuard_agg _ _ _ _ _ _ _ (by kernel_rfl)
  · rw [run_eql_struct]
    have hu := Try.underlying27
    go_simp
theorem ints_l (l : List Int) (hl : l.length ≤ 9223372036854775807) : ∀ n i : Nat, l.length = i + n → drawbridgeref10_ints.l0 (n + 1) l l (i : Int) = some true
  | 0, i, h => by
    unfold drawbridgeref10_ints.l0
    rw [if_neg (by omega)]
  | n + 1, i, h => by
    unfold drawbridgeref10_ints.l0
    rw [if_pos (by omega), if_pos (by omega), if_pos (by omega), if_pos (by omega)]
    rw [show wrap64 ((i : Int) + 1) = ((i + 1 : Nat) : Int) by unfold wrap64; omega]
    exact ints_l l hl n (i + 1) (by omega)
theorem ints_same (l : List Int) (hl : l.length ≤ 9223372036854775807) : drawbridgeref10_ints.f (l.length + 1) l l = some true := by
  unfold drawbridgeref10_ints.f
  rw [if_pos rfl]
  exact ints_l l hl l.length 0 (by omega)
theorem ints_more {k n : Nat} {l : List Int} (hk : k ≤ n) (h : drawbridgeref10_ints.f k l l = some true) : drawbridgeref10_ints.f n l l = some true := by
  obtain ⟨m, rfl⟩ : ∃ m, n = k + m := ⟨n - k, by omega⟩
  clear hk
  induction m with
  | zero => exact h
  | succ m ih => exact drawbridgeref10_ints.mono _ _ _ _ ih
section
variable {w : World} {ok ok' : Nat → Prop} {b : Bd} {v v' : Vs} (hF : BF w ok b v) (hG : BF w ok' b v')
include hF hG
theorem same07_c : Calls Try.prog 26 #[.agg #[v.D], .agg #[v'.D]] w fun e w' => e = .returned (.bool true) ∧ Below w.heap.size w w' := by
  obtain ⟨A0, c0, e0, h0, g0⟩ := hF.D
  obtain ⟨A1, c1, e1, h1, g1⟩ := hG.D
  rw [e0, e1]
  exact drawbridgeref07_Same.calls A0 c0 b.ram A1 c1 b.ram true w (Kd.F_now g0) h0 (Kd.F_now g1) h1 (by unfold drawbridgeref07_Same.f; rw [beq_self_eq_true])
theorem same10_c : Calls Try.prog 27 #[.agg (Bplic b v), .agg (Bplic b v')] w fun e w' => e = .returned (.bool true) ∧ Below w.heap.size w w' := by
  have l0 := hF.p0.len
  have l3 := hF.p3.len
  have l4 := hF.p4.len
  obtain ⟨A0, c0, e0, h0, g0⟩ := hF.p0
  obtain ⟨A3, c3, e3, h3, g3⟩ := hF.p3
  obtain ⟨A4, c4, e4, h4, g4⟩ := hF.p4
  obtain ⟨B0, d0, f0, k0, m0⟩ := hG.p0
  obtain ⟨B3, d3, f3, k3, m3⟩ := hG.p3
  obtain ⟨B4, d4, f4, k4, m4⟩ := hG.p4
  unfold Bplic
  rw [e0, e3, e4, f0, f3, f4]
  refine drawbridgeref10_Same.calls (b.q0.length + 1 + (b.q3.length + 1) + (b.q4.length + 1)) A0 c0 b.q0 b.x b.y A3 c3 b.q3 A4 c4 b.q4 B0 d0 b.q0 b.x b.y B3 d3 b.q3 B4 d4 b.q4 true w (Kd.F_now g0) h0 (Kd.F_now g3) h3 (Kd.F_now g4) h4 (Kd.F_now m0) k0 (Kd.F_now m3) k3 (Kd.F_now m4) k4 ?_
  unfold drawbridgeref10_Same.f
  rw [ints_more (by omega) (ints_same b.q0 l0), ints_more (by omega) (ints_same b.q3 l3), ints_more (by omega) (ints_same b.q4 l4)]
  simp
theorem same11_c : Calls Try.prog 28 #[.agg (Buart b v), .agg (Buart b v')] w fun e w' => e = .returned (.bool true) ∧ Below w.heap.size w w' := by
  obtain ⟨A0, c0, e0, h0, g0⟩ := hF.u0
  obtain ⟨A1, c1, e1, h1, g1⟩ := hF.u1
  obtain ⟨B0, d0, f0, k0, m0⟩ := hG.u0
  obtain ⟨B1, d1, f1, k1, m1⟩ := hG.u1
  unfold Buart
  rw [e0, e1, f0, f1]
  exact drawbridgeref11_Same.calls A0 c0 b.i A1 c1 b.o b.ie b.lo B0 d0 b.i B1 d1 b.o b.ie b.lo true w (Kd.F_now g0) h0 (Kd.F_now g1) h1 (Kd.F_now m0) k0 (Kd.F_now m1) k1 (by unfold drawbridgeref11_Same.f; simp)
theorem same12_c : Calls Try.prog 29 #[.agg (C14 b.c v.M), .agg (C14 b.c v'.M)] w fun e w' => e = .returned (.bool true) ∧ Below w.heap.size w w' := by
  obtain ⟨A0, c0, e0, h0, g0⟩ := hF.M
  obtain ⟨B0, d0, f0, k0, m0⟩ := hG.M
  unfold C14
  rw [e0, f0]
  exact drawbridgeref12_Same.calls _ _ _ _ _ _ _ _ _ _ _ _ _ A0 c0 b.mac _ _ _ _ _ _ _ _ _ _ _ _ _ B0 d0 b.mac true w (Kd.F_now g0) h0 (Kd.F_now m0) k0 (by unfold drawbridgeref12_Same.f; simp)
set_option maxHeartbeats 1600000 in
set_option maxRecDepth 100000 in
theorem same13_c : Calls Try.prog 11 #[.agg (BD b v), .agg (BD b v')] w fun e w' => e = .returned (.bool true) ∧ Below w.heap.size w w' := by
  have HB := Aside0.mk (Below.refl w.heap.size w)
  have HF := Aside0.mk hF
  have HG := Aside0.mk hG
  have hu := Try.underlying36
  clear hF hG
  go_enter Try.func11, Try.ntmps11
  go_upto_region 1 with fail
  obtain ⟨wa, hwa, on0, pn0, hb_, hz0⟩ := letter2 w (.cells (BD b v) 36 (0, 0)) (.cells (BD b v') 36 (0, 0))
  rw [hwa]
  clear hwa
  have hzwa := Nat.le_of_eq hz0.symm
  clear hz0
  have on := Aside0.mk on0
  have pn := Aside0.mk pn0
  clear on0 pn0
  obtain ⟨onc, onf, onl⟩ := cells_of on.out
  obtain ⟨pnc, pnf, pnl⟩ := cells_of pn.out
  have HB_ : Aside0 (Below w.heap.size w wa) := ⟨hb_⟩
  have HF_ := Aside0.mk (HF.out.below hb_)
  have HG_ := Aside0.mk (HG.out.below hb_)
  clear HB HF HG hb_; have HB := HB_; have HF := HF_; have HG := HG_; clear HB_ HF_ HG_
  go_wp2_with (first | ((with_reducible refine gate_dst (N := 6) rfl ?_); (try (refine gate_guard (by rfl) ?_; dsimp only)); refine wpList_load_part rfl 24 _ rfl _ 0 (by rfl) #[v.D] (BD b v) _ (eG on) rfl _ Try.underlying24 rfl infRam ?_) | ((with_reducible refine gate_dst (N := 8) rfl ?_); (try (refine gate_guard (by rfl) ?_; dsimp only)); refine wpList_load_part rfl 24 _ rfl _ 0 (by rfl) #[v'.D] (BD b v') _ (eG pn) rfl _ Try.underlying24 rfl infRam ?_))
  (go_at_call 26; (with_reducible refine (same07_c HF.out HG.out).mono ?_); rintro e_ w1 ⟨rfl, hb_⟩; have HB_ : Aside0 (Below w.heap.size w w1) := Aside0.mk (below_step (bG HB) hb_); have hzw1 := hb_.size; (try simp at hzw1); have on_ := Aside0.mk (box_below hb_ (eG on)); have pn_ := Aside0.mk (box_below hb_ (eG pn)); (try clear on onc onf onl); have on := on_; clear on_; obtain ⟨onc, onf, onl⟩ := cells_of on.out; (try clear pn pnc pnf pnl); have pn := pn_; clear pn_; obtain ⟨pnc, pnf, pnl⟩ := cells_of pn.out; have HF_ := Aside0.mk (BF.below (by repeat (with_reducible first | exact HF.out | apply BF.drew | apply BF.drewN | apply BF.alloc)) hb_); clear HF; have HF := HF_; clear HF_; have HG_ := Aside0.mk (BF.below (by repeat (with_reducible first | exact HG.out | apply BF.drew | apply BF.drewN | apply BF.alloc)) hb_); clear HG; have HG := HG_; clear HG_; clear HB hb_; have HB := HB_; clear HB_)
  go_wp2_with (first | ((with_reducible refine gate_dst (N := 12) rfl ?_); (try (refine gate_guard (by rfl) ?_; dsimp only)); refine wpList_load_part rfl 27 _ rfl _ 1 (by rfl) (Bclint b) (BD b v) _ (eG on) rfl _ Try.underlying27 rfl infClint ?_) | ((with_reducible refine gate_dst (N := 14) rfl ?_); (try (refine gate_guard (by rfl) ?_; dsimp only)); refine wpList_load_part rfl 27 _ rfl _ 1 (by rfl) (Bclint b) (BD b v') _ (eG pn) rfl _ Try.underlying27 rfl infClint ?_) | ((with_reducible refine gate_dst (N := 15) rfl ?_); (try (refine gate_guard (by rfl) ?_; dsimp only)); refine st_eq rfl rfl (by rfl) (by rfl) (eqClint b _ _ _) ?_) | ((with_reducible refine gate_dst (N := 19) rfl ?_); (try (refine gate_guard (by rfl) ?_; dsimp only)); refine wpList_load_part rfl 30 _ rfl _ 4 (by rfl) (Bplic b v) (BD b v) _ (eG on) rfl _ Try.underlying30 rfl infPlic ?_) | ((with_reducible refine gate_dst (N := 21) rfl ?_); (try (refine gate_guard (by rfl) ?_; dsimp only)); refine wpList_load_part rfl 30 _ rfl _ 4 (by rfl) (Bplic b v') (BD b v') _ (eG pn) rfl _ Try.underlying30 rfl infPlic ?_))
  (go_at_call 27; (with_reducible refine (same10_c HF.out HG.out).mono ?_); rintro e_ w2 ⟨rfl, hb_⟩; have HB_ : Aside0 (Below w.heap.size w w2) := Aside0.mk (below_step (bG HB) hb_); have hzw2 := hb_.size; (try simp at hzw2); have on_ := Aside0.mk (box_below hb_ (eG on)); have pn_ := Aside0.mk (box_below hb_ (eG pn)); (try clear on onc onf onl); have on := on_; clear on_; obtain ⟨onc, onf, onl⟩ := cells_of on.out; (try clear pn pnc pnf pnl); have pn := pn_; clear pn_; obtain ⟨pnc, pnf, pnl⟩ := cells_of pn.out; have HF_ := Aside0.mk (BF.below (by repeat (with_reducible first | exact HF.out | apply BF.drew | apply BF.drewN | apply BF.alloc)) hb_); clear HF; have HF := HF_; clear HF_; have HG_ := Aside0.mk (BF.below (by repeat (with_reducible first | exact HG.out | apply BF.drew | apply BF.drewN | apply BF.alloc)) hb_); clear HG; have HG := HG_; clear HG_; clear HB hb_; have HB := HB_; clear HB_)
  go_wp2_with (first | ((with_reducible refine gate_dst (N := 26) rfl ?_); (try (refine gate_guard (by rfl) ?_; dsimp only)); refine wpList_load_part rfl 32 _ rfl _ 9 (by rfl) (Buart b v) (BD b v) _ (eG on) rfl _ Try.underlying32 rfl infUart ?_) | ((with_reducible refine gate_dst (N := 28) rfl ?_); (try (refine gate_guard (by rfl) ?_; dsimp only)); refine wpList_load_part rfl 32 _ rfl _ 9 (by rfl) (Buart b v') (BD b v') _ (eG pn) rfl _ Try.underlying32 rfl infUart ?_))
  (go_at_call 28; (with_reducible refine (same11_c HF.out HG.out).mono ?_); rintro e_ w3 ⟨rfl, hb_⟩; have HB_ : Aside0 (Below w.heap.size w w3) := Aside0.mk (below_step (bG HB) hb_); have hzw3 := hb_.size; (try simp at hzw3); have on_ := Aside0.mk (box_below hb_ (eG on)); have pn_ := Aside0.mk (box_below hb_ (eG pn)); (try clear on onc onf onl); have on := on_; clear on_; obtain ⟨onc, onf, onl⟩ := cells_of on.out; (try clear pn pnc pnf pnl); have pn := pn_; clear pn_; obtain ⟨pnc, pnf, pnl⟩ := cells_of pn.out; have HF_ := Aside0.mk (BF.below (by repeat (with_reducible first | exact HF.out | apply BF.drew | apply BF.drewN | apply BF.alloc)) hb_); clear HF; have HF := HF_; clear HF_; have HG_ := Aside0.mk (BF.below (by repeat (with_reducible first | exact HG.out | apply BF.drew | apply BF.drewN | apply BF.alloc)) hb_); clear HG; have HG := HG_; clear HG_; clear HB hb_; have HB := HB_; clear HB_)
  go_wp2_with (first | ((with_reducible refine gate_dst (N := 33) rfl ?_); (try (refine gate_guard (by rfl) ?_; dsimp only)); refine wpList_load_part rfl 34 _ rfl _ 13 (by rfl) (C14 b.c v.M) (BD b v) _ (eG on) rfl _ Try.underlying34 rfl infNic ?_) | ((with_reducible refine gate_dst (N := 35) rfl ?_); (try (refine gate_guard (by rfl) ?_; dsimp only)); refine wpList_load_part rfl 34 _ rfl _ 13 (by rfl) (C14 b.c v'.M) (BD b v') _ (eG pn) rfl _ Try.underlying34 rfl infNic ?_))
  (go_at_call 29; (with_reducible refine (same12_c HF.out HG.out).mono ?_); rintro e_ w4 ⟨rfl, hb_⟩; have HB_ : Aside0 (Below w.heap.size w w4) := Aside0.mk (below_step (bG HB) hb_); have hzw4 := hb_.size; (try simp at hzw4); have on_ := Aside0.mk (box_below hb_ (eG on)); have pn_ := Aside0.mk (box_below hb_ (eG pn)); (try clear on onc onf onl); have on := on_; clear on_; obtain ⟨onc, onf, onl⟩ := cells_of on.out; (try clear pn pnc pnf pnl); have pn := pn_; clear pn_; obtain ⟨pnc, pnf, pnl⟩ := cells_of pn.out; have HF_ := Aside0.mk (BF.below (by repeat (with_reducible first | exact HF.out | apply BF.drew | apply BF.drewN | apply BF.alloc)) hb_); clear HF; have HF := HF_; clear HF_; have HG_ := Aside0.mk (BF.below (by repeat (with_reducible first | exact HG.out | apply BF.drew | apply BF.drewN | apply BF.alloc)) hb_); clear HG; have HG := HG_; clear HG_; clear HB hb_; have HB := HB_; clear HB_)
  go_wp2
  go_ret
  exact ⟨rfl, HB.out⟩
end
set_option maxHeartbeats 1600000 in
set_option maxRecDepth 100000 in
theorem small_c (b : Bd) (v : Vs) (w : World) (ok : Nat → Prop) (hF : BF w ok b v) (r : Bool) (h : (decide (b.ram.length ≤ 70000) && decide (b.i.length ≤ 5000) && decide (b.o.length ≤ 5000)) = r) :
    Calls Try.prog 6 #[.agg (BD b v)] w fun e w' => e = .returned (.bool r) ∧ Below w.heap.size w w' := by
  obtain ⟨A0, c0, e0, h0, g0⟩ := hF.D
  obtain ⟨A1, c1, e1, h1, g1⟩ := hF.p0
  obtain ⟨A2, c2, e2, h2, g2⟩ := hF.p3
  obtain ⟨A3, c3, e3, h3, g3⟩ := hF.p4
  obtain ⟨A4, c4, e4, h4, g4⟩ := hF.u0
  obtain ⟨A5, c5, e5, h5, g5⟩ := hF.u1
  obtain ⟨A6, c6, e6, h6, g6⟩ := hF.M
  unfold BD
  rw [e0, e1, e2, e3, e4, e5, e6]
  refine drawbridgelaw13_small.calls A0 c0 b.ram b.t b.k b.s A1 c1 b.q0 b.x b.y A2 c2 b.q3 A3 c3 b.q4 A4 c4 b.i A5 c5 b.o b.ie b.lo _ _ _ _ _ _ _ _ _ _ _ _ _ A6 c6 b.mac r w (Kd.F_now g0) h0 (Kd.F_now g1) h1 (Kd.F_now g2) h2 (Kd.F_now g3) h3 (Kd.F_now g4) h4 (Kd.F_now g5) h5 (Kd.F_now g6) h6 ?_
  subst h
  unfold drawbridgelaw13_small.f
  split
  · split
    · congr 1
      rw [decide_eq_true (show b.ram.length ≤ 70000 by omega), decide_eq_true (show b.i.length ≤ 5000 by omega)]
      simp
      omega
    · rw [decide_eq_false (show ¬ b.i.length ≤ 5000 by omega)]; simp
  · rw [decide_eq_false (show ¬ b.ram.length ≤ 70000 by omega)]; simp
end Go.Proofs.Ytphcckhegfgbgaa.Q
end
section
/- bus.Store, ram. -/
namespace Go.Proofs.Ytphcckhegfgbgaa.Q
open Go.RowKit Go.Proofs.YtphcckhegfgbgaaW.PrintWords Go.Proofs.YtphcckhegfgbgaaW.PrintLast Go.Proofs.YtphcckhegfgbgaaW.PrintMore Go.Proofs.Ytphcckhegfgbgaa.L
attribute [local go_sem] Instr.field part asAgg lt_step max2_int min2_int max_two min_two max_three min_three max_four min_four lt_0_1 lt_0_2 lt_1_2 lt_0_3 lt_1_3 lt_2_3 lt_0_4 lt_1_4 lt_2_4 lt_3_4 lt_0_5 lt_1_5 lt_2_5 lt_3_5 lt_4_5 lt_0_6 lt_1_6 lt_2_6 lt_3_6 lt_4_6 lt_5_6 lt_0_7 lt_1_7 lt_2_7 lt_3_7 lt_4_7 lt_5_7 lt_6_7 lt_0_8 lt_1_8 lt_2_8 lt_3_8 lt_4_8 lt_5_8 lt_6_8 lt_7_8
set_option linter.unusedVariables false
set_option linter.unusedSimpArgs false
set_option maxHeartbeats 1600000 in
set_option maxRecDepth 100000 in
theorem bst_ram (b : Bd) (v : Vs) (at_ size x : Int) (l : List Int) (r : Bool) (w : World) (ok : Nat → Prop) (hF : BF w ok b v) (h1 : inZ at_ 33554432 65536 = false) (h2 : inZ at_ 201326592 4194304 = false) (h3 : inZ at_ 268435456 8 = false) (h4 : inZ at_ 268439552 256 = false) (h : ram_Write.f b.ram at_ size x = some (l, r)) :
    Calls Try.prog 9 #[.agg (BD b v), .int .u64 at_, .int .i64 size, .int .u64 x] w fun e w' => ∃ v' : Vs, e = .returned (.tuple #[.agg (BD ({ b with ram := l } : Bd) v'), .bool r]) ∧ BF w' (fun j => ok j ∨ w.heap.size ≤ j) ({ b with ram := l } : Bd) v' ∧ Below w.heap.size w w' := by
  have H1 := Aside0.mk h1
  have H2 := Aside0.mk h2
  have H3 := Aside0.mk h3
  have H4 := Aside0.mk h4
  have HH := Aside0.mk h
  clear h
  clear h1 h2 h3 h4
  have HB := Aside0.mk (Below.refl w.heap.size w)
  have HF := Aside0.mk hF.bound
  have hu := Try.underlying36
  clear hF
  go_enter Try.func9, Try.ntmps9
  go_upto_region 1 with fail
  obtain ⟨wa, hwa, on0, pn0, hb_, hz0⟩ := letter2 w (.cells (BD b v) 36 (0, 0)) (.cells BDz 36 (0, 0))
  unfold BDz at hwa
  rw [hwa]
  clear hwa
  have hzwa := Nat.le_of_eq hz0.symm
  clear hz0
  have on := Aside0.mk on0
  have pn := Aside0.mk pn0
  clear on0 pn0
  obtain ⟨onc, onf, onl⟩ := cells_of on.out
  obtain ⟨pnc, pnf, pnl⟩ := cells_of pn.out
  have HB_ : Aside0 (Below w.heap.size w wa) := ⟨hb_⟩
  have HF_ : Aside0 (BF wa (fun j => (ok j ∨ w.heap.size ≤ j) ∧ j ≠ w.heap.size ∧ j ≠ w.heap.size + 1) b v) := ⟨(HF.out.below hb_).mono (fun j hj => ⟨.inl hj.1, by omega, by omega⟩)⟩
  clear HB HF hb_; have HB := HB_; have HF := HF_; clear HB_ HF_
  go_wp2_with fail
  (go_at_call 15; (with_reducible refine (within_is at_ _).mono ?_); rintro e_ w1 ⟨rfl, og, hb_⟩; have HB_ : Aside0 (Below w.heap.size w w1) := Aside0.mk (below_step (bG HB) hb_); have hzw1 := hb_.size; (try simp at hzw1); have on_ := Aside0.mk (box_below hb_ (eG on)); have pn_ := Aside0.mk (box_below hb_ (eG pn)); (try clear on onc onf onl); have on := on_; clear on_; obtain ⟨onc, onf, onl⟩ := cells_of on.out; (try clear pn pnc pnf pnl); have pn := pn_; clear pn_; obtain ⟨pnc, pnf, pnl⟩ := cells_of pn.out; have HF_ := Aside0.mk (BF.below (by repeat (with_reducible first | exact HF.out | apply BF.drew | apply BF.drewN | apply BF.alloc)) hb_); clear HF; have HF := HF_; clear HF_; clear HB hb_; have HB := HB_; clear HB_; have og_ := Aside0.mk og; clear og; have og := og_; clear og_; skip)
  go_wp2_with (first | (go_at_call 39; (with_reducible refine (in_c false at_ 33554432 65536 _ _ H1.out og.out).mono ?_); rintro e_ w_ ⟨rfl, rfl⟩) | (go_at_call 39; (with_reducible refine (in_c false at_ 201326592 4194304 _ _ H2.out og.out).mono ?_); rintro e_ w_ ⟨rfl, rfl⟩) | (go_at_call 39; (with_reducible refine (in_c false at_ 268435456 8 _ _ H3.out og.out).mono ?_); rintro e_ w_ ⟨rfl, rfl⟩) | (go_at_call 39; (with_reducible refine (in_c false at_ 268439552 256 _ _ H4.out og.out).mono ?_); rintro e_ w_ ⟨rfl, rfl⟩) | ((with_reducible refine gate_dst (N := 15) rfl ?_); (try (refine gate_guard (by rfl) ?_; dsimp only)); refine wpList_load_part rfl 24 _ rfl _ 0 (by rfl) #[v.D] (BD b v) _ (eG on) rfl _ Try.underlying24 rfl infRam ?_))
  (go_at_call 20; (with_reducible refine (ramWr_c HF.out at_ size x l r HH.out).mono ?_); rintro e_ w2 ⟨D, rfl, sl_, hb_⟩; have HB_ : Aside0 (Below w.heap.size w w2) := Aside0.mk (below_step (bG HB) hb_); have hzw2 := hb_.size; (try simp at hzw2); have on_ := Aside0.mk (box_below hb_ (eG on)); have pn_ := Aside0.mk (box_below hb_ (eG pn)); (try clear on onc onf onl); have on := on_; clear on_; obtain ⟨onc, onf, onl⟩ := cells_of on.out; (try clear pn pnc pnf pnl); have pn := pn_; clear pn_; obtain ⟨pnc, pnf, pnl⟩ := cells_of pn.out; have HF_ := Aside0.mk (BF.below (by repeat (with_reducible first | exact HF.out | apply BF.drew | apply BF.drewN | apply BF.alloc)) hb_); clear HF; have HF := HF_; clear HF_; clear HB hb_; have HB := HB_; clear HB_; have sl__ := Aside0.mk sl_; clear sl_; have sl_ := sl__; clear sl__; skip)
  have hk9 : ∀ j, ((fun j => (ok j ∨ w.heap.size ≤ j) ∧ j ≠ w.heap.size ∧ j ≠ w.heap.size + 1) j ∨ w1.heap.size ≤ j) → (fun j => (ok j ∨ w.heap.size ≤ j) ∧ j ≠ w.heap.size ∧ j ≠ w.heap.size + 1) j := fun j hj => by
    rcases hj with hj | hj
    · exact hj
    · exact ⟨.inr (by omega), by omega, by omega⟩
  have HN : Aside0 (BF w2 (fun j => (ok j ∨ w.heap.size ≤ j) ∧ j ≠ w.heap.size ∧ j ≠ w.heap.size + 1) ({ b with ram := l } : Bd) ({ v with D := D } : Vs)) := ⟨⟨sl_.out.mono hk9, HF.out.p0, HF.out.p3, HF.out.p4, HF.out.u0, HF.out.u1, HF.out.M⟩⟩
  go_wp2_with (first | ((with_reducible refine gate_store (t := 24) (p := 22) (v := .tmp 20) rfl ?_); refine wpList_store_part rfl 24 _ _ rfl rfl _ 0 #[D] (by rfl) (by rfl) (BD b v) (BD ({ b with ram := l } : Bd) ({ v with D := D } : Vs)) _ (eG on) (Nat.le_of_ble_eq_true rfl) rfl infRam (by obtain ⟨_, _, e1_, _⟩ := sl_.out; rw [e1_]; simp [Value.oneCell']) ?_; rintro w3 ⟨hx_, hk_, hb_, hzz_⟩; have HB_ : Aside0 (Below w.heap.size w w3) := Aside0.mk (Below.trans (bG HB) (Below.mono hb_ (by omega))); have hzw3 := Nat.le_of_eq hzz_.symm; (try simp at hzw3); clear hzz_; have pn_ := Aside0.mk (st_put pn.out hk_ (fun h_ => (by repeat (with_reducible first | exact h_ | apply ext_drew | apply ext_drewN | apply ext_alloc | refine blk_far ?_ (by show _ ≠ _; dsimp only; omega) _))) (by omega)); clear pn; (try clear pnc pnf pnl); have pn := pn_; clear pn_; obtain ⟨pnc, pnf, pnl⟩ := cells_of pn.out; (first | (have HN_ := Aside0.mk (BF.step HN.out (fun j hj _ => hk_ j (hj.2.1)))) | (have HN_ := Aside0.mk (BF.step (BF.alloc HN.out _) (fun j hj _ => hk_ j (hj.2.1))))); clear HN; have HN := HN_; clear HN_; (try clear on onc onf onl); have on := Aside0.mk hx_; obtain ⟨onc, onf, onl⟩ := cells_of on.out; clear HB hb_ hk_ hx_; have HB := HB_; clear HB_) | ((with_reducible refine gate_dst (N := 79) rfl ?_); (try (refine gate_guard (by rfl) ?_; dsimp only)); refine wpList_load_row rfl 36 _ rfl _ (by rfl) _ (BD ({ b with ram := l } : Bd) ({ v with D := D } : Vs)) _ _ (eG on) Try.underlying36 rfl infBoard ?_) | ((with_reducible refine gate_store (t := 36) (p := 8) (v := .tmp 79) rfl ?_); refine wpList_store_all rfl 36 _ _ rfl rfl _ (BD ({ b with ram := l } : Bd) ({ v with D := D } : Vs)) (by rfl) (by rfl) _ _ pn.out rfl infBoard (HN.out.one) ?_; rintro w4 ⟨hx_, hk_, hb_, hzz_⟩; have HB_ : Aside0 (Below w.heap.size w w4) := Aside0.mk (Below.trans (bG HB) (Below.mono hb_ (by first | omega | (simp only [sz_alloc, sz_drew, sz_drewN]; omega)))); have hzw4 := hzz_; (try simp at hzw4); clear hzz_; have on_ := Aside0.mk (st_put on.out hk_ (fun h_ => (by repeat (with_reducible first | exact h_ | apply ext_drew | apply ext_drewN | apply ext_alloc | refine blk_far ?_ (by show _ ≠ _; dsimp only; omega) _))) (by omega)); clear on onc onf onl; have on := on_; clear on_; obtain ⟨onc, onf, onl⟩ := cells_of on.out; (first | (have HN_ := Aside0.mk (BF.step HN.out (fun j hj _ => hk_ j (hj.2.2)))) | (have HN_ := Aside0.mk (BF.step (BF.alloc HN.out _) (fun j hj _ => hk_ j (hj.2.2))))); clear HN; have HN := HN_; clear HN_; (try clear pn pnc pnf pnl); have pn := Aside0.mk hx_; obtain ⟨pnc, pnf, pnl⟩ := cells_of pn.out; clear HB hb_ hk_ hx_; have HB := HB_; clear HB_))
  refine bodyPost_ret (results_ct rfl _ _ (w.heap.size + 1) 36 (BD ({ b with ram := l } : Bd) ({ v with D := D } : Vs)) (0, 0) _ rfl pn.out Try.underlying36 rfl infBoard) rfl ⟨({ v with D := D } : Vs), rfl, HN.out.mono (fun j hj => hj.1), (bG HB)⟩
end Go.Proofs.Ytphcckhegfgbgaa.Q
end
section
/- bus.Store, uart. -/
namespace Go.Proofs.Ytphcckhegfgbgaa.Q
open Go.RowKit Go.Proofs.YtphcckhegfgbgaaW.PrintWords Go.Proofs.YtphcckhegfgbgaaW.PrintLast Go.Proofs.YtphcckhegfgbgaaW.PrintMore Go.Proofs.Ytphcckhegfgbgaa.L
attribute [local go_sem] Instr.field part asAgg lt_step max2_int min2_int max_two min_two max_three min_three max_four min_four lt_0_1 lt_0_2 lt_1_2 lt_0_3 lt_1_3 lt_2_3 lt_0_4 lt_1_4 lt_2_4 lt_3_4 lt_0_5 lt_1_5 lt_2_5 lt_3_5 lt_4_5 lt_0_6 lt_1_6 lt_2_6 lt_3_6 lt_4_6 lt_5_6 lt_0_7 lt_1_7 lt_2_7 lt_3_7 lt_4_7 lt_5_7 lt_6_7 lt_0_8 lt_1_8 lt_2_8 lt_3_8 lt_4_8 lt_5_8 lt_6_8 lt_7_8
set_option linter.unusedVariables false
set_option linter.unusedSimpArgs false
set_option maxHeartbeats 1600000 in
set_option maxRecDepth 100000 in
theorem bst_uart (b : Bd) (v : Vs) (at_ size x : Int) (i o : List Int) (a c : Int) (r : Bool) (w : World) (ok : Nat → Prop) (hF : BF w ok b v) (h1 : inZ at_ 33554432 65536 = false) (h2 : inZ at_ 201326592 4194304 = false) (h3 : inZ at_ 268435456 8 = true) (h : uart_Store.f b.i b.o b.ie b.lo (IntKind.u64.wrap (at_ - 268435456)) size x = some (i, o, a, c, r)) :
    Calls Try.prog 9 #[.agg (BD b v), .int .u64 at_, .int .i64 size, .int .u64 x] w fun e w' => ∃ v' : Vs, e = .returned (.tuple #[.agg (BD ({ b with i := i, o := o, ie := a, lo := c } : Bd) v'), .bool r]) ∧ BF w' (fun j => ok j ∨ w.heap.size ≤ j) ({ b with i := i, o := o, ie := a, lo := c } : Bd) v' ∧ Below w.heap.size w w' := by
  have H1 := Aside0.mk h1
  have H2 := Aside0.mk h2
  have H3 := Aside0.mk h3
  have HH := Aside0.mk h
  clear h
  clear h1 h2 h3
  have HB := Aside0.mk (Below.refl w.heap.size w)
  have HF := Aside0.mk hF.bound
  have hu := Try.underlying36
  clear hF
  go_enter Try.func9, Try.ntmps9
  go_upto_region 1 with fail
  obtain ⟨wa, hwa, on0, pn0, hb_, hz0⟩ := letter2 w (.cells (BD b v) 36 (0, 0)) (.cells BDz 36 (0, 0))
  unfold BDz at hwa
  rw [hwa]
  clear hwa
  have hzwa := Nat.le_of_eq hz0.symm
  clear hz0
  have on := Aside0.mk on0
  have pn := Aside0.mk pn0
  clear on0 pn0
  obtain ⟨onc, onf, onl⟩ := cells_of on.out
  obtain ⟨pnc, pnf, pnl⟩ := cells_of pn.out
  have HB_ : Aside0 (Below w.heap.size w wa) := ⟨hb_⟩
  have HF_ : Aside0 (BF wa (fun j => (ok j ∨ w.heap.size ≤ j) ∧ j ≠ w.heap.size ∧ j ≠ w.heap.size + 1) b v) := ⟨(HF.out.below hb_).mono (fun j hj => ⟨.inl hj.1, by omega, by omega⟩)⟩
  clear HB HF hb_; have HB := HB_; have HF := HF_; clear HB_ HF_
  go_wp2_with fail
  (go_at_call 15; (with_reducible refine (within_is at_ _).mono ?_); rintro e_ w1 ⟨rfl, og, hb_⟩; have HB_ : Aside0 (Below w.heap.size w w1) := Aside0.mk (below_step (bG HB) hb_); have hzw1 := hb_.size; (try simp at hzw1); have on_ := Aside0.mk (box_below hb_ (eG on)); have pn_ := Aside0.mk (box_below hb_ (eG pn)); (try clear on onc onf onl); have on := on_; clear on_; obtain ⟨onc, onf, onl⟩ := cells_of on.out; (try clear pn pnc pnf pnl); have pn := pn_; clear pn_; obtain ⟨pnc, pnf, pnl⟩ := cells_of pn.out; have HF_ := Aside0.mk (BF.below (by repeat (with_reducible first | exact HF.out | apply BF.drew | apply BF.drewN | apply BF.alloc)) hb_); clear HF; have HF := HF_; clear HF_; clear HB hb_; have HB := HB_; clear HB_; have og_ := Aside0.mk og; clear og; have og := og_; clear og_; skip)
  go_wp2_with (first | (go_at_call 39; (with_reducible refine (in_c false at_ 33554432 65536 _ _ H1.out og.out).mono ?_); rintro e_ w_ ⟨rfl, rfl⟩) | (go_at_call 39; (with_reducible refine (in_c false at_ 201326592 4194304 _ _ H2.out og.out).mono ?_); rintro e_ w_ ⟨rfl, rfl⟩) | (go_at_call 39; (with_reducible refine (in_c true at_ 268435456 8 _ _ H3.out og.out).mono ?_); rintro e_ w_ ⟨rfl, rfl⟩) | ((with_reducible refine gate_dst (N := 56) rfl ?_); (try (refine gate_guard (by rfl) ?_; dsimp only)); refine wpList_load_part rfl 32 _ rfl _ 9 (by rfl) (Buart b v) (BD b v) _ (eG on) rfl _ Try.underlying32 rfl infUart ?_))
  (go_at_call 18; (with_reducible refine (uartSt_c HF.out _ size x i o a c r HH.out).mono ?_); rintro e_ w2 ⟨u0, u1, rfl, sl_, hb_⟩; have HB_ : Aside0 (Below w.heap.size w w2) := Aside0.mk (below_step (bG HB) hb_); have hzw2 := hb_.size; (try simp at hzw2); have on_ := Aside0.mk (box_below hb_ (eG on)); have pn_ := Aside0.mk (box_below hb_ (eG pn)); (try clear on onc onf onl); have on := on_; clear on_; obtain ⟨onc, onf, onl⟩ := cells_of on.out; (try clear pn pnc pnf pnl); have pn := pn_; clear pn_; obtain ⟨pnc, pnf, pnl⟩ := cells_of pn.out; have HF_ := Aside0.mk (BF.below (by repeat (with_reducible first | exact HF.out | apply BF.drew | apply BF.drewN | apply BF.alloc)) hb_); clear HF; have HF := HF_; clear HF_; clear HB hb_; have HB := HB_; clear HB_; have sl__ := Aside0.mk sl_; clear sl_; have sl_ := sl__; clear sl__; skip)
  have hk9 : ∀ j, ((fun j => (ok j ∨ w.heap.size ≤ j) ∧ j ≠ w.heap.size ∧ j ≠ w.heap.size + 1) j ∨ w1.heap.size ≤ j) → (fun j => (ok j ∨ w.heap.size ≤ j) ∧ j ≠ w.heap.size ∧ j ≠ w.heap.size + 1) j := fun j hj => by
    rcases hj with hj | hj
    · exact hj
    · exact ⟨.inr (by omega), by omega, by omega⟩
  have HN : Aside0 (BF w2 (fun j => (ok j ∨ w.heap.size ≤ j) ∧ j ≠ w.heap.size ∧ j ≠ w.heap.size + 1) ({ b with i := i, o := o, ie := a, lo := c } : Bd) ({ v with u0 := u0, u1 := u1 } : Vs)) := ⟨⟨HF.out.D, HF.out.p0, HF.out.p3, HF.out.p4, sl_.out.1.mono hk9, sl_.out.2.mono hk9, HF.out.M⟩⟩
  go_wp2_with (first | ((with_reducible refine gate_store (t := 32) (p := 64) (v := .tmp 62) rfl ?_); refine wpList_store_part rfl 32 _ _ rfl rfl _ 9 #[u0, u1, .int .i64 a, .int .i64 c] (by rfl) (by rfl) (BD b v) (BD ({ b with i := i, o := o, ie := a, lo := c } : Bd) ({ v with u0 := u0, u1 := u1 } : Vs)) _ (eG on) (Nat.le_of_ble_eq_true rfl) rfl infUart (by obtain ⟨s1_, s2_⟩ := sl_.out; obtain ⟨_, _, e1_, _⟩ := s1_; obtain ⟨_, _, e2_, _⟩ := s2_; rw [e1_, e2_]; simp [Value.oneCell']) ?_; rintro w3 ⟨hx_, hk_, hb_, hzz_⟩; have HB_ : Aside0 (Below w.heap.size w w3) := Aside0.mk (Below.trans (bG HB) (Below.mono hb_ (by omega))); have hzw3 := Nat.le_of_eq hzz_.symm; (try simp at hzw3); clear hzz_; have pn_ := Aside0.mk (st_put pn.out hk_ (fun h_ => (by repeat (with_reducible first | exact h_ | apply ext_drew | apply ext_drewN | apply ext_alloc | refine blk_far ?_ (by show _ ≠ _; dsimp only; omega) _))) (by omega)); clear pn; (try clear pnc pnf pnl); have pn := pn_; clear pn_; obtain ⟨pnc, pnf, pnl⟩ := cells_of pn.out; (first | (have HN_ := Aside0.mk (BF.step HN.out (fun j hj _ => hk_ j (hj.2.1)))) | (have HN_ := Aside0.mk (BF.step (BF.alloc HN.out _) (fun j hj _ => hk_ j (hj.2.1))))); clear HN; have HN := HN_; clear HN_; (try clear on onc onf onl); have on := Aside0.mk hx_; obtain ⟨onc, onf, onl⟩ := cells_of on.out; clear HB hb_ hk_ hx_; have HB := HB_; clear HB_) | ((with_reducible refine gate_dst (N := 79) rfl ?_); (try (refine gate_guard (by rfl) ?_; dsimp only)); refine wpList_load_row rfl 36 _ rfl _ (by rfl) _ (BD ({ b with i := i, o := o, ie := a, lo := c } : Bd) ({ v with u0 := u0, u1 := u1 } : Vs)) _ _ (eG on) Try.underlying36 rfl infBoard ?_) | ((with_reducible refine gate_store (t := 36) (p := 8) (v := .tmp 79) rfl ?_); refine wpList_store_all rfl 36 _ _ rfl rfl _ (BD ({ b with i := i, o := o, ie := a, lo := c } : Bd) ({ v with u0 := u0, u1 := u1 } : Vs)) (by rfl) (by rfl) _ _ pn.out rfl infBoard (HN.out.one) ?_; rintro w4 ⟨hx_, hk_, hb_, hzz_⟩; have HB_ : Aside0 (Below w.heap.size w w4) := Aside0.mk (Below.trans (bG HB) (Below.mono hb_ (by first | omega | (simp only [sz_alloc, sz_drew, sz_drewN]; omega)))); have hzw4 := hzz_; (try simp at hzw4); clear hzz_; have on_ := Aside0.mk (st_put on.out hk_ (fun h_ => (by repeat (with_reducible first | exact h_ | apply ext_drew | apply ext_drewN | apply ext_alloc | refine blk_far ?_ (by show _ ≠ _; dsimp only; omega) _))) (by omega)); clear on onc onf onl; have on := on_; clear on_; obtain ⟨onc, onf, onl⟩ := cells_of on.out; (first | (have HN_ := Aside0.mk (BF.step HN.out (fun j hj _ => hk_ j (hj.2.2)))) | (have HN_ := Aside0.mk (BF.step (BF.alloc HN.out _) (fun j hj _ => hk_ j (hj.2.2))))); clear HN; have HN := HN_; clear HN_; (try clear pn pnc pnf pnl); have pn := Aside0.mk hx_; obtain ⟨pnc, pnf, pnl⟩ := cells_of pn.out; clear HB hb_ hk_ hx_; have HB := HB_; clear HB_))
  refine bodyPost_ret (results_ct rfl _ _ (w.heap.size + 1) 36 (BD ({ b with i := i, o := o, ie := a, lo := c } : Bd) ({ v with u0 := u0, u1 := u1 } : Vs)) (0, 0) _ rfl pn.out Try.underlying36 rfl infBoard) rfl ⟨({ v with u0 := u0, u1 := u1 } : Vs), rfl, HN.out.mono (fun j hj => hj.1), (bG HB)⟩
end Go.Proofs.Ytphcckhegfgbgaa.Q
end
section
/- bus.Store, bus.Load of memory. -/
namespace Go.Proofs.Ytphcckhegfgbgaa.Q
open Go.RowKit Go.Proofs.YtphcckhegfgbgaaW.PrintWords Go.Proofs.YtphcckhegfgbgaaW.PrintLast Go.Proofs.YtphcckhegfgbgaaW.PrintMore Go.Proofs.Ytphcckhegfgbgaa.L
attribute [local go_sem] Instr.field part asAgg lt_step max2_int min2_int max_two min_two max_three min_three max_four min_four lt_0_1 lt_0_2 lt_1_2 lt_0_3 lt_1_3 lt_2_3 lt_0_4 lt_1_4 lt_2_4 lt_3_4 lt_0_5 lt_1_5 lt_2_5 lt_3_5 lt_4_5 lt_0_6 lt_1_6 lt_2_6 lt_3_6 lt_4_6 lt_5_6 lt_0_7 lt_1_7 lt_2_7 lt_3_7 lt_4_7 lt_5_7 lt_6_7 lt_0_8 lt_1_8 lt_2_8 lt_3_8 lt_4_8 lt_5_8 lt_6_8 lt_7_8
set_option linter.unusedVariables false
set_option linter.unusedSimpArgs false
theorem results_tct {P : Program} {fn : Func} {u p x : Tmp} {ty : TypeId} (h : fn.results = #[.tmp u, .cell p ty, .tmp x]) (tmps : Array Value) (w : World) (g : Nat) (t : TypeId) (cs : Array Value) (fr : Nat × Nat) (d : TypeDesc)
    (hp : tmps.getD p undef = .pointer (some ⟨g, 0, none⟩)) (hg : w.heap[g]? = some (.cells cs t fr)) (hu : P.underlying ty = some d) (hd : (match d with | .struct _ | .array _ _ => true | _ => false) = true) (hi : (P.info? ty).map (·.size) = some cs.size) : (results fn tmps).run P w = .ok (.tuple #[tmps.getD u undef, .agg cs, tmps.getD x undef]) w := by
  have h1 : tmps[p]?.getD undef = .pointer (some ⟨g, 0, none⟩) := by simpa using hp
  simp [results, h, h1, asAddr, run_loadVar_row w g t ty cs fr d hg hu hd hi]
set_option maxHeartbeats 1600000 in
set_option maxRecDepth 100000 in
theorem bld_ram (b : Bd) (v : Vs) (kf : Nat) (at_ size x : Int) (r : Bool) (w : World) (ok : Nat → Prop) (hF : BF w ok b v) (h1 : inZ at_ 33554432 65536 = false) (h2 : inZ at_ 201326592 4194304 = false) (h3 : inZ at_ 268435456 8 = false) (h4 : inZ at_ 268439552 256 = false) (h : ram_Read.f kf b.ram at_ size = some (x, r)) :
    Calls Try.prog 10 #[.agg (BD b v), .int .u64 at_, .int .i64 size] w fun e w' => e = .returned (.tuple #[.int .u64 x, .agg (BD b v), .bool r]) ∧ BF w' (fun j => ok j ∨ w.heap.size ≤ j) b v ∧ Below w.heap.size w w' := by
  have H1 := Aside0.mk h1
  have H2 := Aside0.mk h2
  have H3 := Aside0.mk h3
  have H4 := Aside0.mk h4
  have HH := Aside0.mk h
  clear h h1 h2 h3 h4
  have HB := Aside0.mk (Below.refl w.heap.size w)
  have HF := Aside0.mk hF.bound
  have hu := Try.underlying36
  clear hF
  go_enter Try.func10, Try.ntmps10
  go_upto_region 1 with fail
  obtain ⟨wa, hwa, on0, pn0, hb_, hz0⟩ := letter2 w (.cells (BD b v) 36 (0, 0)) (.cells BDz 36 (0, 0))
  unfold BDz at hwa
  rw [hwa]
  clear hwa
  have hzwa := Nat.le_of_eq hz0.symm
  clear hz0
  have on := Aside0.mk on0
  have pn := Aside0.mk pn0
  clear on0 pn0
  obtain ⟨onc, onf, onl⟩ := cells_of on.out
  obtain ⟨pnc, pnf, pnl⟩ := cells_of pn.out
  have HB_ : Aside0 (Below w.heap.size w wa) := ⟨hb_⟩
  have HF_ : Aside0 (BF wa (fun j => (ok j ∨ w.heap.size ≤ j) ∧ j ≠ w.heap.size ∧ j ≠ w.heap.size + 1) b v) := ⟨(HF.out.below hb_).mono (fun j hj => ⟨.inl hj.1, by omega, by omega⟩)⟩
  clear HB HF hb_; have HB := HB_; have HF := HF_; clear HB_ HF_
  go_wp2_with fail
  (go_at_call 15; (with_reducible refine (within_is at_ _).mono ?_); rintro e_ w1 ⟨rfl, og, hb_⟩; have HB_ : Aside0 (Below w.heap.size w w1) := Aside0.mk (below_step (bG HB) hb_); have hzw1 := hb_.size; (try simp at hzw1); have on_ := Aside0.mk (box_below hb_ (eG on)); have pn_ := Aside0.mk (box_below hb_ (eG pn)); (try clear on onc onf onl); have on := on_; clear on_; obtain ⟨onc, onf, onl⟩ := cells_of on.out; (try clear pn pnc pnf pnl); have pn := pn_; clear pn_; obtain ⟨pnc, pnf, pnl⟩ := cells_of pn.out; have HF_ := Aside0.mk (BF.below (by repeat (with_reducible first | exact HF.out | apply BF.drew | apply BF.drewN | apply BF.alloc)) hb_); clear HF; have HF := HF_; clear HF_; clear HB hb_; have HB := HB_; clear HB_; have og_ := Aside0.mk og; clear og; have og := og_; clear og_; skip)
  go_wp2_with (first | (go_at_call 39; (with_reducible refine (in_c false at_ 33554432 65536 _ _ H1.out og.out).mono ?_); rintro e_ w_ ⟨rfl, rfl⟩) | (go_at_call 39; (with_reducible refine (in_c false at_ 201326592 4194304 _ _ H2.out og.out).mono ?_); rintro e_ w_ ⟨rfl, rfl⟩) | (go_at_call 39; (with_reducible refine (in_c false at_ 268435456 8 _ _ H3.out og.out).mono ?_); rintro e_ w_ ⟨rfl, rfl⟩) | (go_at_call 39; (with_reducible refine (in_c false at_ 268439552 256 _ _ H4.out og.out).mono ?_); rintro e_ w_ ⟨rfl, rfl⟩) | ((with_reducible refine gate_dst (N := 14) rfl ?_); (try (refine gate_guard (by rfl) ?_; dsimp only)); refine wpList_load_part rfl 24 _ rfl _ 0 (by rfl) #[v.D] (BD b v) _ (eG on) rfl _ Try.underlying24 rfl infRam ?_))
  (go_at_call 25; (with_reducible refine (ramRead_c HF.out kf at_ size x r HH.out).mono ?_); rintro e_ w2 ⟨rfl, hb_⟩; have HB_ : Aside0 (Below w.heap.size w w2) := Aside0.mk (below_step (bG HB) hb_); have hzw2 := hb_.size; (try simp at hzw2); have on_ := Aside0.mk (box_below hb_ (eG on)); have pn_ := Aside0.mk (box_below hb_ (eG pn)); (try clear on onc onf onl); have on := on_; clear on_; obtain ⟨onc, onf, onl⟩ := cells_of on.out; (try clear pn pnc pnf pnl); have pn := pn_; clear pn_; obtain ⟨pnc, pnf, pnl⟩ := cells_of pn.out; have HF_ := Aside0.mk (BF.below (by repeat (with_reducible first | exact HF.out | apply BF.drew | apply BF.drewN | apply BF.alloc)) hb_); clear HF; have HF := HF_; clear HF_; clear HB hb_; have HB := HB_; clear HB_)
  go_upto_region 11 with fail
  refine start_ (n := 6) (S := fun w' => w'.heap[w.heap.size]? = some (.cells (BD b v) 36 (0, 0))) (ds := []) #[false, false, false, false, false, false] (by kernel_rfl) rfl rfl (eG on) (fun hHeld => ?_)
  refine pure_ (i := 0) (N := some 72) (v := ?_) (a' := ?_) #[true, false, false, false, false, false] rfl rfl (by kernel_rfl) (fun _ _ _ h => h) (Or.inl ⟨by rfl, ?_⟩) ?_ ?_
  rotate_left
  · intro w'
    go_simp
    with_reducible rfl
  rotate_left
  · simp only [Act.put, List.setIfInBounds_toArray, List.set_cons_zero, List.set_cons_succ, i64_w, i32_w]
    rfl
  refine rowL_ (i := 1) (N := some 73) #[true, true, false, false, false, false] rfl rfl (by kernel_rfl) 36 _ rfl (w.heap.size) (BD b v) (fun _ _ _ h => h) (by rfl) (by rfl) _ _ _ (fun _ h => h) Try.underlying36 rfl infBoard hHeld (a' := ?_) ?_ ?_
  rotate_left
  · simp only [Act.put, List.setIfInBounds_toArray, List.set_cons_zero, List.set_cons_succ, i64_w, i32_w]
    rfl
  refine pure_ (i := 2) (N := some 74) (v := ?_) (a' := ?_) #[true, true, true, false, false, false] rfl rfl (by kernel_rfl) (fun _ _ _ h => h) (Or.inl ⟨by rfl, ?_⟩) ?_ ?_
  rotate_left
  · intro w'
    go_simp
    with_reducible rfl
  rotate_left
  · simp only [Act.put, List.setIfInBounds_toArray, List.set_cons_zero, List.set_cons_succ, i64_w, i32_w]
    rfl
  refine pure_ (i := 3) (N := some 6) (v := ?_) (a' := ?_) #[true, true, true, true, false, false] rfl rfl (by kernel_rfl) (fun _ _ _ h => h) (Or.inl ⟨by rfl, ?_⟩) ?_ ?_
  rotate_left
  · intro w'
    go_simp
    with_reducible rfl
  rotate_left
  · simp only [Act.put, List.setIfInBounds_toArray, List.set_cons_zero, List.set_cons_succ, i64_w, i32_w]
    rfl
  refine rowS_ (i := 4) #[true, true, true, true, true, false] rfl rfl (by kernel_rfl) (by decide) 36 _ _ rfl (w.heap.size + 1) (BD b v) (by rfl) (by rfl) (by rfl) (BDz) 36 (eG pn) rfl infBoard (HF.out.one) ?_
  (rintro wq1 ⟨hx_, hk_, hb_, hzz_⟩; have HB_ : Aside0 (Below w.heap.size w wq1) := Aside0.mk (Below.trans (bG HB) (Below.mono hb_ (by first | omega | (simp only [sz_alloc, sz_drew, sz_drewN]; omega)))); have hzwq1 := hzz_; (try simp at hzwq1); clear hzz_; have on_ := Aside0.mk (st_put on.out hk_ (fun h_ => (by repeat (with_reducible first | exact h_ | apply ext_drew | apply ext_drewN | apply ext_alloc | refine blk_far ?_ (by show _ ≠ _; dsimp only; omega) _))) (by omega)); clear on onc onf onl; have on := on_; clear on_; obtain ⟨onc, onf, onl⟩ := cells_of on.out; (first | (have HF_ := Aside0.mk (BF.step HF.out (fun j hj _ => hk_ j (hj.2.2)))) | (have HF_ := Aside0.mk (BF.step (BF.alloc HF.out _) (fun j hj _ => hk_ j (hj.2.2))))); clear HF; have HF := HF_; clear HF_; (try clear pn pnc pnf pnl); have pn := Aside0.mk hx_; obtain ⟨pnc, pnf, pnl⟩ := cells_of pn.out; clear HB hb_ hk_ hx_; have HB := HB_; clear HB_)
  refine ⟨(eG on), ?_⟩
  refine pure_ (i := 5) (N := some 8) (v := ?_) (a' := ?_) #[true, true, true, true, true, true] rfl rfl (by kernel_rfl) (fun _ _ _ h => h) (Or.inl ⟨by rfl, ?_⟩) ?_ ?_
  rotate_left
  · intro w'
    go_simp
    with_reducible rfl
  rotate_left
  · simp only [Act.put, List.setIfInBounds_toArray, List.set_cons_zero, List.set_cons_succ, i64_w, i32_w]
    rfl
  refine done_ (by kernel_rfl) ?_
  go_wp2
  refine bodyPost_ret (results_tct rfl _ _ (w.heap.size + 1) 36 (BD b v) (0, 0) _ rfl pn.out Try.underlying36 rfl infBoard) rfl ⟨rfl, HF.out.mono (fun j hj => hj.1), (bG HB)⟩
end Go.Proofs.Ytphcckhegfgbgaa.Q
end
