import Derived.Test.YtmlpnjoejdpblaaPZ5
import Derived.Test.YtmlpnjoejdpblaaPZ6
import Derived.Test.YtmlpnjoejdpblaaPZ1
import Derived.Test.YtmlpnjoejdpblaaPZ3
import Derived.Test.YtmlpnjoejdpblaaPZ2
import Derived.Test.YtmlpnjoejdpblaaPXQx2
import Derived.Test.YtmlpnjoejdpblaaPXQx7
import Derived.Deep.DeepCutAuto
import Derived.RegionTactic
import Derived.BigRegion
section
/- plic.Store, as those who call it have it. -/
namespace Go.Proofs.Ytmlpnjoejdpblaa.Q
open Go.RowKit Go.Proofs.YtmlpnjoejdpblaaW.PrintWords Go.Proofs.YtmlpnjoejdpblaaW.PrintLast Go.Proofs.YtmlpnjoejdpblaaW.PrintMore Go.Proofs.Ytmlpnjoejdpblaa.L
attribute [local go_sem] Instr.field part asAgg lt_step max2_int min2_int max_two min_two max_three min_three max_four min_four lt_0_1 lt_0_2 lt_1_2 lt_0_3 lt_1_3 lt_2_3 lt_0_4 lt_1_4 lt_2_4 lt_3_4 lt_0_5 lt_1_5 lt_2_5 lt_3_5 lt_4_5 lt_0_6 lt_1_6 lt_2_6 lt_3_6 lt_4_6 lt_5_6 lt_0_7 lt_1_7 lt_2_7 lt_3_7 lt_4_7 lt_5_7 lt_6_7 lt_0_8 lt_1_8 lt_2_8 lt_3_8 lt_4_8 lt_5_8 lt_6_8 lt_7_8
set_option linter.unusedVariables false
set_option linter.unusedSimpArgs false
def giveZ (l0_0 : List Int) (a0_1 : Int) (a0_2 : Int) (l0_3 : List Int) (l0_4 : List Int) (k a3 : Int) : Option (List Int × Int × Int × List Int × List Int × Bool) :=
  if (IntKind.u32.wrap a3) = 1 then some (l0_0, a0_1, Go.bits .andNot .i64 a0_2 (Go.bits .and .i64 2 (rd l0_3 k)), l0_3, l0_4, true) else if (IntKind.u32.wrap a3) = 2 then some (l0_0, a0_1, Go.bits .andNot .i64 a0_2 (Go.bits .and .i64 4 (rd l0_3 k)), l0_3, l0_4, true) else some (l0_0, a0_1, a0_2, l0_3, l0_4, true)
def plic_Store.f (l0_0 : List Int) (a0_1 : Int) (a0_2 : Int) (l0_3 : List Int) (l0_4 : List Int) (a1 : Int) (a2 : Int) (a3 : Int) : Option (List Int × Int × Int × List Int × List Int × Bool) :=
  if checkZ l0_0 a0_1 a0_2 l0_3 l0_4 = true ∧ a2 = 4 then
    (if a1 = 4 then some (l0_0.set 1 (Go.bits .and .i64 (IntKind.u32.wrap a3) 7), a0_1, a0_2, l0_3, l0_4, true) else if a1 = 8 then some (l0_0.set 2 (Go.bits .and .i64 (IntKind.u32.wrap a3) 7), a0_1, a0_2, l0_3, l0_4, true) else if a1 = 4096 then some (l0_0, a0_1, a0_2, l0_3, l0_4, true) else if a1 = 8192 then some (l0_0, a0_1, a0_2, l0_3.set 0 (Go.bits .and .i64 (IntKind.u32.wrap a3) 6), l0_4, true) else if a1 = 8320 then some (l0_0, a0_1, a0_2, l0_3.set 1 (Go.bits .and .i64 (IntKind.u32.wrap a3) 6), l0_4, true) else if a1 = 2097152 then some (l0_0, a0_1, a0_2, l0_3, l0_4.set 0 (Go.bits .and .i64 (IntKind.u32.wrap a3) 7), true) else if a1 = 2101248 then some (l0_0, a0_1, a0_2, l0_3, l0_4.set 1 (Go.bits .and .i64 (IntKind.u32.wrap a3) 7), true)
     else if a1 = 2097156 then giveZ l0_0 a0_1 a0_2 l0_3 l0_4 0 a3 else if a1 = 2101252 then giveZ l0_0 a0_1 a0_2 l0_3 l0_4 1 a3 else some (l0_0, a0_1, a0_2, l0_3, l0_4, false))
  else some (l0_0, a0_1, a0_2, l0_3, l0_4, false)
theorem plic_Store.calls (P0_0_ : Nat → Prop) (A0_0 : Option Addr) (c0_0 : Nat) (l0_0 : List Int) (a0_1 : Int) (a0_2 : Int) (P0_3_ : Nat → Prop) (A0_3 : Option Addr) (c0_3 : Nat) (l0_3 : List Int) (P0_4_ : Nat → Prop) (A0_4 : Option Addr) (c0_4 : Nat) (l0_4 : List Int) (a1 : Int) (a2 : Int) (a3 : Int) (r1 : List Int) (r2 : Int) (r3 : Int) (r4 : List Int) (r5 : List Int) (r6 : Bool) (w : World) (hs0_0 : Kd.V (Kd.int .i64) 3 w w.heap.size (fun k_ => P0_0_ k_) (.slice A0_0 l0_0.length c0_0) l0_0) (hs0_3 : Kd.V (Kd.int .i64) 3 w w.heap.size (fun k_ => P0_3_ k_) (.slice A0_3 l0_3.length c0_3) l0_3) (hs0_4 : Kd.V (Kd.int .i64) 3 w w.heap.size (fun k_ => P0_4_ k_) (.slice A0_4 l0_4.length c0_4) l0_4) (h : plic_Store.f l0_0 a0_1 a0_2 l0_3 l0_4 a1 a2 a3 = some (r1, r2, r3, r4, r5, r6)) :
    Calls Try.prog 12 #[.agg #[.slice A0_0 l0_0.length c0_0, .int .i64 a0_1, .int .i64 a0_2, .slice A0_3 l0_3.length c0_3, .slice A0_4 l0_4.length c0_4], .int .u64 a1, .int .i64 a2, .int .u64 a3] w fun e w' => ∃ v0_ v3_ v4_ : Value, e = .returned (.tuple #[.agg #[v0_, .int .i64 r2, .int .i64 r3, v3_, v4_], .bool r6]) ∧ Kd.V (Kd.int .i64) 3 w' w.heap.size (fun k_ => ((P0_0_ k_ ∨ P0_3_ k_ ∨ P0_4_ k_) ∨ w.heap.size ≤ k_)) v0_ r1 ∧ Kd.V (Kd.int .i64) 3 w' w.heap.size (fun k_ => ((P0_0_ k_ ∨ P0_3_ k_ ∨ P0_4_ k_) ∨ w.heap.size ≤ k_)) v3_ r4 ∧ Kd.V (Kd.int .i64) 3 w' w.heap.size (fun k_ => ((P0_0_ k_ ∨ P0_3_ k_ ∨ P0_4_ k_) ∨ w.heap.size ≤ k_)) v4_ r5 ∧ Below w.heap.size w w' := by
  obtain ⟨_, hc0, hF0⟩ := V_F hs0_0
  obtain ⟨_, hc3, hF3⟩ := V_F hs0_3
  obtain ⟨_, hc4, hF4⟩ := V_F hs0_4
  have g0 := Kd.F_now hF0
  have g3 := Kd.F_now hF3
  have g4 := Kd.F_now hF4
  have hY0 : 0 ≤ IntKind.u32.wrap a3 ∧ IntKind.u32.wrap a3 < 4294967296 := by rw [IntKind.wrap_u32']; omega
  unfold plic_Store.f at h
  by_cases hg : checkZ l0_0 a0_1 a0_2 l0_3 l0_4 = true ∧ a2 = 4
  · rw [if_pos hg] at h
    obtain ⟨hck, rfl⟩ := hg
    by_cases h4 : a1 = 4
    · rw [if_pos h4] at h
      subst h4
      simp only [Option.some.injEq, Prod.mk.injEq] at h
      obtain ⟨rfl, rfl, rfl, rfl, rfl, rfl⟩ := h
      refine (store_p1 _ _ l0_0 a0_1 a0_2 _ _ l0_3 _ _ l0_4 a3 _ w rfl hY0.1 hY0.2 hck g0 g3 g4 hc0 hc3 hc4).mono ?_
      rintro e w' ⟨A', c', he, hc', hF', hB⟩
      exact ⟨_, _, _, he, Kd.V_mk hc' (Kd.F_mono hF' (fun j h => .inr h)), Kd.V_mk hc3 (Kd.F_mono (Kd.F_below hF3 hB) (fun j h => .inl (.inr (.inl h)))), Kd.V_mk hc4 (Kd.F_mono (Kd.F_below hF4 hB) (fun j h => .inl (.inr (.inr h)))), hB⟩
    rw [if_neg h4] at h
    by_cases h8 : a1 = 8
    · rw [if_pos h8] at h
      subst h8
      simp only [Option.some.injEq, Prod.mk.injEq] at h
      obtain ⟨rfl, rfl, rfl, rfl, rfl, rfl⟩ := h
      refine (store_p2 _ _ l0_0 a0_1 a0_2 _ _ l0_3 _ _ l0_4 a3 _ w rfl hY0.1 hY0.2 hck g0 g3 g4 hc0 hc3 hc4).mono ?_
      rintro e w' ⟨A', c', he, hc', hF', hB⟩
      exact ⟨_, _, _, he, Kd.V_mk hc' (Kd.F_mono hF' (fun j h => .inr h)), Kd.V_mk hc3 (Kd.F_mono (Kd.F_below hF3 hB) (fun j h => .inl (.inr (.inl h)))), Kd.V_mk hc4 (Kd.F_mono (Kd.F_below hF4 hB) (fun j h => .inl (.inr (.inr h)))), hB⟩
    rw [if_neg h8] at h
    by_cases h4096 : a1 = 4096
    · rw [if_pos h4096] at h
      subst h4096
      simp only [Option.some.injEq, Prod.mk.injEq] at h
      obtain ⟨rfl, rfl, rfl, rfl, rfl, rfl⟩ := h
      refine (store_pend _ _ l0_0 a0_1 a0_2 _ _ l0_3 _ _ l0_4 a3 _ w rfl hY0.1 hY0.2 hck g0 g3 g4 hc0 hc3 hc4).mono ?_
      rintro e w' ⟨he, hB⟩
      exact ⟨_, _, _, he, Kd.V_mk hc0 (Kd.F_mono (Kd.F_below hF0 hB) (fun j h => .inl (.inl h))), Kd.V_mk hc3 (Kd.F_mono (Kd.F_below hF3 hB) (fun j h => .inl (.inr (.inl h)))), Kd.V_mk hc4 (Kd.F_mono (Kd.F_below hF4 hB) (fun j h => .inl (.inr (.inr h)))), hB⟩
    rw [if_neg h4096] at h
    by_cases h8192 : a1 = 8192
    · rw [if_pos h8192] at h
      subst h8192
      simp only [Option.some.injEq, Prod.mk.injEq] at h
      obtain ⟨rfl, rfl, rfl, rfl, rfl, rfl⟩ := h
      refine (store_e0 _ _ l0_0 a0_1 a0_2 _ _ l0_3 _ _ l0_4 a3 _ w rfl hY0.1 hY0.2 hck g0 g3 g4 hc0 hc3 hc4).mono ?_
      rintro e w' ⟨A', c', he, hc', hF', hB⟩
      exact ⟨_, _, _, he, Kd.V_mk hc0 (Kd.F_mono (Kd.F_below hF0 hB) (fun j h => .inl (.inl h))), Kd.V_mk hc' (Kd.F_mono hF' (fun j h => .inr h)), Kd.V_mk hc4 (Kd.F_mono (Kd.F_below hF4 hB) (fun j h => .inl (.inr (.inr h)))), hB⟩
    rw [if_neg h8192] at h
    by_cases h8320 : a1 = 8320
    · rw [if_pos h8320] at h
      subst h8320
      simp only [Option.some.injEq, Prod.mk.injEq] at h
      obtain ⟨rfl, rfl, rfl, rfl, rfl, rfl⟩ := h
      refine (store_e1 _ _ l0_0 a0_1 a0_2 _ _ l0_3 _ _ l0_4 a3 _ w rfl hY0.1 hY0.2 hck g0 g3 g4 hc0 hc3 hc4).mono ?_
      rintro e w' ⟨A', c', he, hc', hF', hB⟩
      exact ⟨_, _, _, he, Kd.V_mk hc0 (Kd.F_mono (Kd.F_below hF0 hB) (fun j h => .inl (.inl h))), Kd.V_mk hc' (Kd.F_mono hF' (fun j h => .inr h)), Kd.V_mk hc4 (Kd.F_mono (Kd.F_below hF4 hB) (fun j h => .inl (.inr (.inr h)))), hB⟩
    rw [if_neg h8320] at h
    by_cases h2097152 : a1 = 2097152
    · rw [if_pos h2097152] at h
      subst h2097152
      simp only [Option.some.injEq, Prod.mk.injEq] at h
      obtain ⟨rfl, rfl, rfl, rfl, rfl, rfl⟩ := h
      refine (store_t0 _ _ l0_0 a0_1 a0_2 _ _ l0_3 _ _ l0_4 a3 _ w rfl hY0.1 hY0.2 hck g0 g3 g4 hc0 hc3 hc4).mono ?_
      rintro e w' ⟨A', c', he, hc', hF', hB⟩
      exact ⟨_, _, _, he, Kd.V_mk hc0 (Kd.F_mono (Kd.F_below hF0 hB) (fun j h => .inl (.inl h))), Kd.V_mk hc3 (Kd.F_mono (Kd.F_below hF3 hB) (fun j h => .inl (.inr (.inl h)))), Kd.V_mk hc' (Kd.F_mono hF' (fun j h => .inr h)), hB⟩
    rw [if_neg h2097152] at h
    by_cases h2101248 : a1 = 2101248
    · rw [if_pos h2101248] at h
      subst h2101248
      simp only [Option.some.injEq, Prod.mk.injEq] at h
      obtain ⟨rfl, rfl, rfl, rfl, rfl, rfl⟩ := h
      refine (store_t1 _ _ l0_0 a0_1 a0_2 _ _ l0_3 _ _ l0_4 a3 _ w rfl hY0.1 hY0.2 hck g0 g3 g4 hc0 hc3 hc4).mono ?_
      rintro e w' ⟨A', c', he, hc', hF', hB⟩
      exact ⟨_, _, _, he, Kd.V_mk hc0 (Kd.F_mono (Kd.F_below hF0 hB) (fun j h => .inl (.inl h))), Kd.V_mk hc3 (Kd.F_mono (Kd.F_below hF3 hB) (fun j h => .inl (.inr (.inl h)))), Kd.V_mk hc' (Kd.F_mono hF' (fun j h => .inr h)), hB⟩
    rw [if_neg h2101248] at h
    by_cases h2097156 : a1 = 2097156
    · rw [if_pos h2097156] at h
      subst h2097156
      unfold giveZ at h
      by_cases hy1 : (IntKind.u32.wrap a3) = 1
      · rw [if_pos hy1] at h
        simp only [Option.some.injEq, Prod.mk.injEq] at h
        obtain ⟨rfl, rfl, rfl, rfl, rfl, rfl⟩ := h
        refine (store_c01 _ _ l0_0 a0_1 a0_2 _ _ l0_3 _ _ l0_4 a3 w hy1 hck g0 g3 g4 hc0 hc3 hc4).mono ?_
        rintro e w' ⟨he, hB⟩
        exact ⟨_, _, _, he, Kd.V_mk hc0 (Kd.F_mono (Kd.F_below hF0 hB) (fun j h => .inl (.inl h))), Kd.V_mk hc3 (Kd.F_mono (Kd.F_below hF3 hB) (fun j h => .inl (.inr (.inl h)))), Kd.V_mk hc4 (Kd.F_mono (Kd.F_below hF4 hB) (fun j h => .inl (.inr (.inr h)))), hB⟩
      rw [if_neg hy1] at h
      by_cases hy2 : (IntKind.u32.wrap a3) = 2
      · rw [if_pos hy2] at h
        simp only [Option.some.injEq, Prod.mk.injEq] at h
        obtain ⟨rfl, rfl, rfl, rfl, rfl, rfl⟩ := h
        refine (store_c02 _ _ l0_0 a0_1 a0_2 _ _ l0_3 _ _ l0_4 a3 w hy2 hck g0 g3 g4 hc0 hc3 hc4).mono ?_
        rintro e w' ⟨he, hB⟩
        exact ⟨_, _, _, he, Kd.V_mk hc0 (Kd.F_mono (Kd.F_below hF0 hB) (fun j h => .inl (.inl h))), Kd.V_mk hc3 (Kd.F_mono (Kd.F_below hF3 hB) (fun j h => .inl (.inr (.inl h)))), Kd.V_mk hc4 (Kd.F_mono (Kd.F_below hF4 hB) (fun j h => .inl (.inr (.inr h)))), hB⟩
      rw [if_neg hy2] at h
      simp only [Option.some.injEq, Prod.mk.injEq] at h
      obtain ⟨rfl, rfl, rfl, rfl, rfl, rfl⟩ := h
      refine (store_c0n _ _ l0_0 a0_1 a0_2 _ _ l0_3 _ _ l0_4 a3 _ w rfl hY0.1 hY0.2 hck (by omega) g0 g3 g4 hc0 hc3 hc4).mono ?_
      rintro e w' ⟨he, hB⟩
      exact ⟨_, _, _, he, Kd.V_mk hc0 (Kd.F_mono (Kd.F_below hF0 hB) (fun j h => .inl (.inl h))), Kd.V_mk hc3 (Kd.F_mono (Kd.F_below hF3 hB) (fun j h => .inl (.inr (.inl h)))), Kd.V_mk hc4 (Kd.F_mono (Kd.F_below hF4 hB) (fun j h => .inl (.inr (.inr h)))), hB⟩
    rw [if_neg h2097156] at h
    by_cases h2101252 : a1 = 2101252
    · rw [if_pos h2101252] at h
      subst h2101252
      unfold giveZ at h
      by_cases hy1 : (IntKind.u32.wrap a3) = 1
      · rw [if_pos hy1] at h
        simp only [Option.some.injEq, Prod.mk.injEq] at h
        obtain ⟨rfl, rfl, rfl, rfl, rfl, rfl⟩ := h
        refine (store_c11 _ _ l0_0 a0_1 a0_2 _ _ l0_3 _ _ l0_4 a3 w hy1 hck g0 g3 g4 hc0 hc3 hc4).mono ?_
        rintro e w' ⟨he, hB⟩
        exact ⟨_, _, _, he, Kd.V_mk hc0 (Kd.F_mono (Kd.F_below hF0 hB) (fun j h => .inl (.inl h))), Kd.V_mk hc3 (Kd.F_mono (Kd.F_below hF3 hB) (fun j h => .inl (.inr (.inl h)))), Kd.V_mk hc4 (Kd.F_mono (Kd.F_below hF4 hB) (fun j h => .inl (.inr (.inr h)))), hB⟩
      rw [if_neg hy1] at h
      by_cases hy2 : (IntKind.u32.wrap a3) = 2
      · rw [if_pos hy2] at h
        simp only [Option.some.injEq, Prod.mk.injEq] at h
        obtain ⟨rfl, rfl, rfl, rfl, rfl, rfl⟩ := h
        refine (store_c12 _ _ l0_0 a0_1 a0_2 _ _ l0_3 _ _ l0_4 a3 w hy2 hck g0 g3 g4 hc0 hc3 hc4).mono ?_
        rintro e w' ⟨he, hB⟩
        exact ⟨_, _, _, he, Kd.V_mk hc0 (Kd.F_mono (Kd.F_below hF0 hB) (fun j h => .inl (.inl h))), Kd.V_mk hc3 (Kd.F_mono (Kd.F_below hF3 hB) (fun j h => .inl (.inr (.inl h)))), Kd.V_mk hc4 (Kd.F_mono (Kd.F_below hF4 hB) (fun j h => .inl (.inr (.inr h)))), hB⟩
      rw [if_neg hy2] at h
      simp only [Option.some.injEq, Prod.mk.injEq] at h
      obtain ⟨rfl, rfl, rfl, rfl, rfl, rfl⟩ := h
      refine (store_c1n _ _ l0_0 a0_1 a0_2 _ _ l0_3 _ _ l0_4 a3 _ w rfl hY0.1 hY0.2 hck (by omega) g0 g3 g4 hc0 hc3 hc4).mono ?_
      rintro e w' ⟨he, hB⟩
      exact ⟨_, _, _, he, Kd.V_mk hc0 (Kd.F_mono (Kd.F_below hF0 hB) (fun j h => .inl (.inl h))), Kd.V_mk hc3 (Kd.F_mono (Kd.F_below hF3 hB) (fun j h => .inl (.inr (.inl h)))), Kd.V_mk hc4 (Kd.F_mono (Kd.F_below hF4 hB) (fun j h => .inl (.inr (.inr h)))), hB⟩
    rw [if_neg h2101252] at h
    simp only [Option.some.injEq, Prod.mk.injEq] at h
    obtain ⟨rfl, rfl, rfl, rfl, rfl, rfl⟩ := h
    refine (store_none _ _ l0_0 a0_1 a0_2 _ _ l0_3 _ _ l0_4 a1 a3 _ w rfl hY0.1 hY0.2 hck (beq_eq_false_iff_ne.mpr h4) (beq_eq_false_iff_ne.mpr h8) (beq_eq_false_iff_ne.mpr h4096) ((if_neg h8192).trans (if_neg h8320)) ((if_neg h2097152).trans (if_neg h2101248)) ((if_neg h2097156).trans (if_neg h2101252)) g0 g3 g4 hc0 hc3 hc4).mono ?_
    rintro e w' ⟨he, hB⟩
    exact ⟨_, _, _, he, Kd.V_mk hc0 (Kd.F_mono (Kd.F_below hF0 hB) (fun j h => .inl (.inl h))), Kd.V_mk hc3 (Kd.F_mono (Kd.F_below hF3 hB) (fun j h => .inl (.inr (.inl h)))), Kd.V_mk hc4 (Kd.F_mono (Kd.F_below hF4 hB) (fun j h => .inl (.inr (.inr h)))), hB⟩
  · rw [if_neg hg] at h
    simp only [Option.some.injEq, Prod.mk.injEq] at h
    obtain ⟨rfl, rfl, rfl, rfl, rfl, rfl⟩ := h
    have key : Calls Try.prog 12 #[.agg #[.slice A0_0 l0_0.length c0_0, .int .i64 a0_1, .int .i64 a0_2, .slice A0_3 l0_3.length c0_3, .slice A0_4 l0_4.length c0_4], .int .u64 a1, .int .i64 a2, .int .u64 a3] w fun e w' => e = .returned (.tuple #[.agg #[.slice A0_0 l0_0.length c0_0, .int .i64 a0_1, .int .i64 a0_2, .slice A0_3 l0_3.length c0_3, .slice A0_4 l0_4.length c0_4], .bool false]) ∧ Below w.heap.size w w' := by
      cases hck : checkZ l0_0 a0_1 a0_2 l0_3 l0_4
      · exact store_nock _ _ l0_0 a0_1 a0_2 _ _ l0_3 _ _ l0_4 a1 a2 a3 w hck g0 g3 g4
      · exact store_nosz _ _ l0_0 a0_1 a0_2 _ _ l0_3 _ _ l0_4 a1 a2 a3 w hck (bne_iff_ne.mpr (fun e => hg ⟨hck, e⟩)) g0 g3 g4
    refine (key).mono ?_
    rintro e w' ⟨he, hB⟩
    exact ⟨_, _, _, he, Kd.V_mk hc0 (Kd.F_mono (Kd.F_below hF0 hB) (fun j h => .inl (.inl h))), Kd.V_mk hc3 (Kd.F_mono (Kd.F_below hF3 hB) (fun j h => .inl (.inr (.inl h)))), Kd.V_mk hc4 (Kd.F_mono (Kd.F_below hF4 hB) (fun j h => .inl (.inr (.inr h)))), hB⟩
end Go.Proofs.Ytmlpnjoejdpblaa.Q
end
section
/- The interrupt controller in plain numbers: what a checked one is, and what keeps it so. -/
namespace Go.Proofs.Ytmlpnjoejdpblaa.Q
open Go.RowKit Go.Proofs.YtmlpnjoejdpblaaW.PrintWords Go.Proofs.YtmlpnjoejdpblaaW.PrintLast Go.Proofs.YtmlpnjoejdpblaaW.PrintMore Go.Proofs.Ytmlpnjoejdpblaa.L
set_option linter.unusedVariables false
set_option linter.unusedSimpArgs false
theorem wf_R {x : Int} (h : (Lit.int .i64 x).wf = true) : i64R x := by
  have h1 : (decide ((-9223372036854775808 : Int) ≤ x) && decide (x ≤ (9223372036854775807 : Int))) = true := h
  simp only [Bool.and_eq_true, decide_eq_true_eq] at h1
  exact h1
def s7 (x : Int) : Prop := 0 ≤ x ∧ x ≤ 7
theorem all4 {P : Int → Bool} (h : ([0, 2, 4, 6] : List Int).all P = true) {x : Int} (hx : m6 x) : P x = true := by
  have h' := List.all_eq_true.mp h
  rcases hx with rfl | rfl | rfl | rfl
  · exact h' 0 (by decide)
  · exact h' 2 (by decide)
  · exact h' 4 (by decide)
  · exact h' 6 (by decide)
theorem t_or : (([0, 2, 4, 6] : List Int).all fun p => ([0, 2, 4, 6] : List Int).all fun c => decide (Go.bits .andNot .i64 (Go.bits .or .i64 p c) 6 = 0)) = true := by kernel_rfl
theorem t_odd : (([0, 2, 4, 6] : List Int).all fun p => !oddZ p) = true := by kernel_rfl
theorem great_no {x : Int} (h : s7 x) : greatZ x = false := by
  have h1 := h.1; have h2 := h.2
  unfold greatZ
  rw [decide_eq_false (by omega), decide_eq_false (by omega)]; rfl
theorem not_great {x : Int} (h : greatZ x = false) : s7 x := by
  unfold greatZ at h
  simp only [Bool.or_eq_false_iff, decide_eq_false_iff_not] at h
  exact ⟨by omega, by omega⟩
theorem check_put {a b p c e f g h : Int} (ha : s7 a) (hb : s7 b) (hp : m6 p) (hc : m6 c) (he : m6 e) (hf : m6 f) (hg : s7 g) (hh : s7 h) : checkZ [0, a, b] p c [e, f] [g, h] = true := by
  have h1 := of_decide_eq_true (all4 (all4 t_or hp) hc)
  have h2 := all4 t_odd he
  have h3 := all4 t_odd hf
  simp only [Bool.not_eq_true'] at h2 h3
  unfold checkZ shapeZ
  rw [decide_eq_true h1]
  simp only [List.any_cons, List.any_nil, great_no ha, great_no hb, great_no hg, great_no hh, h2, h3]
  rfl
theorem check_get {l0 : List Int} {p c : Int} {l3 l4 : List Int} (hck : checkZ l0 p c l3 l4 = true) (hp : i64R p) (hc : i64R c) (h3 : ∀ z ∈ l3, i64R z) :
    ∃ a b e f g h, l0 = [0, a, b] ∧ l3 = [e, f] ∧ l4 = [g, h] ∧ s7 a ∧ s7 b ∧ m6 p ∧ m6 c ∧ m6 e ∧ m6 f ∧ s7 g ∧ s7 h := by
  obtain ⟨e0, e3, e4, ez⟩ := check_len hck
  unfold checkZ shapeZ at hck
  simp only [Bool.and_eq_true, decide_eq_true_eq, Bool.not_eq_true'] at hck
  obtain ⟨⟨_, hpc⟩, ⟨hg0, hg4⟩, ho⟩ := hck
  obtain ⟨mp, mc⟩ := or_clear p c hp hc hpc
  match l0, e0, l3, e3, l4, e4 with
  | [z, a, b], _, [e, f], _, [g, h], _ =>
    simp only [List.any_cons, List.any_nil, Bool.or_eq_false_iff] at hg0 hg4 ho
    have hz : z = 0 := ez
    subst hz
    refine ⟨a, b, e, f, g, h, rfl, rfl, rfl, not_great hg0.2.1, not_great hg0.2.2.1, mp, mc, m6_of_clear e (h3 e (by simp)) ?_, m6_of_clear f (h3 f (by simp)) ?_, not_great hg4.1, not_great hg4.2.1⟩
    · have := ho.1; unfold oddZ at this; exact bne_eq_false_iff_eq.mp this
    · have := ho.2.1; unfold oddZ at this; exact bne_eq_false_iff_eq.mp this
theorem ints_refl (l : List Int) (hm : l.length ≤ 9223372036854775807) : ∀ (d m : Nat) (i : Int), 0 ≤ i → i + d = l.length → d < m → drawbridgeref10_ints.l0 m l l i = some true := by
  intro d
  induction d with
  | zero =>
    intro m i h0 hi hd
    obtain ⟨n, rfl⟩ : ∃ n, m = n + 1 := ⟨m - 1, by omega⟩
    rw [drawbridgeref10_ints.l0, if_neg (by omega)]
  | succ d ih =>
    intro m i h0 hi hd
    obtain ⟨n, rfl⟩ : ∃ n, m = n + 1 := ⟨m - 1, by omega⟩
    have hw : wrap64 (i + 1) = i + 1 := by unfold wrap64; omega
    rw [drawbridgeref10_ints.l0, if_pos (by omega), if_pos h0, if_pos (by omega), if_pos rfl, hw]
    exact ih n (i + 1) (by omega) (by omega) (by omega)
theorem same_refl (k : Nat) (l0 : List Int) (p c : Int) (l3 l4 : List Int) (h0 : l0.length ≤ 9223372036854775807) (h3 : l3.length ≤ 9223372036854775807) (h4 : l4.length ≤ 9223372036854775807) (k0 : l0.length < k) (k3 : l3.length < k) (k4 : l4.length < k) :
    drawbridgeref10_Same.f k l0 p c l3 l4 l0 p c l3 l4 = some true := by
  unfold drawbridgeref10_Same.f drawbridgeref10_ints.f
  rw [if_pos rfl, ints_refl l0 h0 l0.length k 0 (by decide) (by omega) k0, Option.bind_some, if_pos rfl, if_pos rfl, if_pos rfl, if_pos rfl, ints_refl l3 h3 l3.length k 0 (by decide) (by omega) k3, Option.bind_some, if_pos rfl, if_pos rfl, ints_refl l4 h4 l4.length k 0 (by decide) (by omega) k4]
  rfl
theorem rd_or {e f k : Int} (he : m6 e) (hf : m6 f) (hk : k = 0 ∨ k = 1) : m6 (rd [e, f] k) := by rcases hk with rfl | rfl; exact he; exact hf
set_option linter.unusedSectionVars false
section
variable {a b p c e f g h : Int} (ha : s7 a) (hb : s7 b) (hp : m6 p) (hc : m6 c) (he : m6 e) (hf : m6 f) (hg : s7 g) (hh : s7 h)
include ha hb hp hc he hf hg hh
end
end Go.Proofs.Ytmlpnjoejdpblaa.Q
end
section
/- PlicDoes, plain part: the document's Check is the program's. -/
namespace Go.Proofs.Ytmlpnjoejdpblaa.Q
open Go.RowKit Go.Proofs.YtmlpnjoejdpblaaW.PrintWords Go.Proofs.YtmlpnjoejdpblaaW.PrintLast Go.Proofs.YtmlpnjoejdpblaaW.PrintMore Go.Proofs.Ytmlpnjoejdpblaa.L
set_option linter.unusedVariables false
set_option linter.unusedSimpArgs false
def no6 (x : Int) : Prop := Go.bits .andNot .i64 x 6 = 0
instance (x : Int) : Decidable (no6 x) := inferInstanceAs (Decidable (_ = _))
instance (x : Int) : Decidable (s7 x) := inferInstanceAs (Decidable (_ ∧ _))
theorem t_no6 : (([0, 2, 4, 6] : List Int).all fun p => decide (Go.bits .andNot .i64 p 6 = 0)) = true := by kernel_rfl
theorem no6_of {x : Int} (h : m6 x) : no6 x := of_decide_eq_true (all4 t_no6 h)
theorem rc_one (m : Nat) (i : Int) (l0 : List Int) (p c : Int) (l3 l4 : List Int) (a e g : Int) (hi : i = 0 ∨ i = 1) (hl0 : l0.length = 3) (hl3 : l3.length = 2) (hl4 : l4.length = 2) (ha : rd l0 (i + 1) = a) (he : rd l3 i = e) (hg : rd l4 i = g) :
    drawbridgeref10_Check.l0 (m + 1) i l0 p c l3 l4 = if s7 a ∧ no6 e ∧ s7 g then drawbridgeref10_Check.l0 m (i + 1) l0 p c l3 l4 else some false := by
  have hw : wrap64 (i + 1) = i + 1 := by unfold wrap64; omega
  rw [drawbridgeref10_Check.l0, if_pos (by omega), hw, if_pos (by omega), if_pos (by omega), ha, he, hg]
  by_cases h1 : a < 0
  · rw [if_pos h1, if_neg (fun h => by have := h.1.1; omega)]
  rw [if_neg h1]
  by_cases h2 : a > 7
  · rw [if_pos h2, if_neg (fun h => by have := h.1.2; omega)]
  rw [if_neg h2, if_pos (by omega), if_pos (by omega)]
  by_cases h3 : Go.bits .andNot .i64 e 6 = 0
  · rw [if_pos h3, if_pos (by omega)]
    by_cases h4 : g < 0
    · rw [if_pos h4, if_neg (fun h => by have := h.2.2.1; omega)]
    rw [if_neg h4]
    by_cases h5 : g > 7
    · rw [if_pos h5, if_neg (fun h => by have := h.2.2.2; omega)]
    rw [if_neg h5, if_pos ⟨⟨by omega, by omega⟩, h3, by omega, by omega⟩]
  · rw [if_neg h3, if_neg (fun h => h3 h.2.1)]
theorem rc_all (m : Nat) (l0 : List Int) (p c : Int) (l3 l4 : List Int) (a b e f g h : Int) (hl0 : l0.length = 3) (hl3 : l3.length = 2) (hl4 : l4.length = 2) (ha : rd l0 1 = a) (hb : rd l0 2 = b) (he : rd l3 0 = e) (hf : rd l3 1 = f) (hg : rd l4 0 = g) (hh : rd l4 1 = h) :
    drawbridgeref10_Check.l0 (m + 3) 0 l0 p c l3 l4 = some (decide ((s7 a ∧ no6 e ∧ s7 g) ∧ (s7 b ∧ no6 f ∧ s7 h))) := by
  rw [rc_one (m + 2) 0 l0 p c l3 l4 a e g (.inl rfl) hl0 hl3 hl4 ha he hg]
  by_cases h1 : s7 a ∧ no6 e ∧ s7 g
  · rw [if_pos h1, show (0 : Int) + 1 = 1 from rfl, rc_one (m + 1) 1 l0 p c l3 l4 b f h (.inr rfl) hl0 hl3 hl4 hb hf hh]
    by_cases h2 : s7 b ∧ no6 f ∧ s7 h
    · rw [if_pos h2, drawbridgeref10_Check.l0, if_neg (by decide), decide_eq_true (⟨h1, h2⟩)]
    · rw [if_neg h2, decide_eq_false (fun hh => h2 hh.2)]
  · rw [if_neg h1, decide_eq_false (fun hh => h1 hh.1)]
theorem rcheck_is (m : Nat) (l0 : List Int) (p c : Int) (l3 l4 : List Int) (hp : i64R p) (hc : i64R c) (h3 : ∀ z ∈ l3, i64R z) : drawbridgeref10_Check.f (m + 4) l0 p c l3 l4 = some (checkZ l0 p c l3 l4) := by
  have hj : drawbridgeref10_Check.j0 (m + 4) true l0 p c l3 l4 = some false := by rw [drawbridgeref10_Check.j0, if_pos rfl]
  unfold drawbridgeref10_Check.f
  rw [hj]
  have hno : ¬ checkZ l0 p c l3 l4 = true → checkZ l0 p c l3 l4 = false := fun h => Bool.eq_false_iff.2 h
  by_cases e0 : l0.length = 3
  · rw [if_pos (by omega)]
    by_cases e3 : l3.length = 2
    · rw [if_pos (by omega)]
      by_cases e4 : l4.length = 2
      · rw [if_pos (by omega), if_pos (by omega)]
        by_cases z0 : rd l0 0 = 0
        · rw [if_pos z0]
          by_cases n6 : Go.bits .andNot .i64 p 6 = 0
          · rw [if_pos n6, drawbridgeref10_Check.j0]
            by_cases c6 : Go.bits .andNot .i64 c 6 = 0
            · rw [if_neg (by rw [c6]; decide), rc_all m l0 p c l3 l4 _ _ _ _ _ _ e0 e3 e4 rfl rfl rfl rfl rfl rfl]
              refine congrArg some (Bool.eq_iff_iff.2 ?_)
              rw [decide_eq_true_eq]
              match l0, e0, l3, e3, l4, e4, h3, z0 with
              | [z, a, b], _, [e, f], _, [g, h], _, h3, z0 =>
                have hz : z = 0 := z0
                subst hz
                constructor
                · rintro ⟨⟨a1, a2, a3⟩, a4, a5, a6⟩
                  exact check_put a1 a4 (m6_of_clear p hp n6) (m6_of_clear c hc c6) (m6_of_clear e (h3 e (by simp)) a2) (m6_of_clear f (h3 f (by simp)) a5) a3 a6
                · intro hck
                  obtain ⟨a', b', e', f', g', h', q1, q2, q3, r1, r2, _, _, r3, r4, r5, r6⟩ := check_get hck hp hc h3
                  simp only [List.cons.injEq, and_true, true_and] at q1 q2 q3
                  obtain ⟨rfl, rfl⟩ := q1
                  obtain ⟨rfl, rfl⟩ := q2
                  obtain ⟨rfl, rfl⟩ := q3
                  exact ⟨⟨r1, no6_of r3, r5⟩, r2, no6_of r4, r6⟩
            · rw [if_pos (bne_iff_ne.2 c6), hno (fun hck => ?_)]
              obtain ⟨_, _, _, _, _, _, _, _, _, _, _, _, mc, _⟩ := check_get hck hp hc h3
              exact c6 (no6_of mc)
          · rw [if_neg n6, hno (fun hck => ?_)]
            obtain ⟨_, _, _, _, _, _, _, _, _, _, _, mp, _⟩ := check_get hck hp hc h3
            exact n6 (no6_of mp)
        · rw [if_neg z0, hno (fun hck => z0 (check_len hck).2.2.2)]
      · rw [if_neg (by omega), hno (fun hck => e4 (check_len hck).2.2.1)]
    · rw [if_neg (by omega), hno (fun hck => e3 (check_len hck).2.1)]
  · rw [if_neg (by omega), hno (fun hck => e0 (check_len hck).1)]
end Go.Proofs.Ytmlpnjoejdpblaa.Q
end
section
/- PlicDoes, plain part: the document's Set is the program's. -/
namespace Go.Proofs.Ytmlpnjoejdpblaa.Q
open Go.RowKit Go.Proofs.YtmlpnjoejdpblaaW.PrintWords Go.Proofs.YtmlpnjoejdpblaaW.PrintLast Go.Proofs.YtmlpnjoejdpblaaW.PrintMore Go.Proofs.Ytmlpnjoejdpblaa.L
set_option linter.unusedVariables false
set_option linter.unusedSimpArgs false
theorem rset_is (m : Nat) (l0 : List Int) (p c : Int) (l3 l4 : List Int) (x : Int) (hp : i64R p) (hc : i64R c) (h3 : ∀ z ∈ l3, i64R z) : drawbridgeref10_Set.f (m + 4) l0 p c l3 l4 x = plic_Set.f l0 p c l3 l4 x := by
  unfold drawbridgeref10_Set.f plic_Set.f plic_Check.f
  rw [rcheck_is m l0 p c l3 l4 hp hc h3]
end Go.Proofs.Ytmlpnjoejdpblaa.Q
end
section
/- PlicDoes, plain part: the document's Best is the program's. -/
namespace Go.Proofs.Ytmlpnjoejdpblaa.Q
open Go.RowKit Go.Proofs.YtmlpnjoejdpblaaW.PrintWords Go.Proofs.YtmlpnjoejdpblaaW.PrintLast Go.Proofs.YtmlpnjoejdpblaaW.PrintMore Go.Proofs.Ytmlpnjoejdpblaa.L
set_option linter.unusedVariables false
set_option linter.unusedSimpArgs false
theorem t_up : (([0, 2, 4, 6] : List Int).all fun p => ([0, 2, 4, 6] : List Int).all fun e => (decide (Go.bits .and .i64 (Go.bits .and .i64 p e) (shl .i64 1 (IntKind.u64.wrap 1)) = 0) == !upZ p e 1) && (decide (Go.bits .and .i64 (Go.bits .and .i64 p e) (shl .i64 1 (IntKind.u64.wrap 2)) = 0) == !upZ p e 2)) = true := by kernel_rfl
theorem up_is {p e : Int} (hp : m6 p) (he : m6 e) (s : Int) (hs : s = 1 ∨ s = 2) : decide (Go.bits .and .i64 (Go.bits .and .i64 p e) (shl .i64 1 (IntKind.u64.wrap s)) = 0) = !upZ p e s := by
  have := all4 (all4 t_up hp) he
  simp only [Bool.and_eq_true, beq_iff_eq] at this
  rcases hs with rfl | rfl
  · exact this.1
  · exact this.2
theorem rb_one (m : Nat) (k best prio s : Int) (l0 : List Int) (p c : Int) (l3 l4 : List Int) (h0 : l0.length = 3) (h3 : l3.length = 2) (hk : k = 0 ∨ k = 1) (hs : s = 1 ∨ s = 2) (hp : m6 p) (he : m6 (rd l3 k)) :
    drawbridgeref10_Best.l0 (m + 1) k best prio s l0 p c l3 l4 = if upZ p (rd l3 k) s = true ∧ rd l0 s > prio then drawbridgeref10_Best.l0 m k s (rd l0 s) (s + 1) l0 p c l3 l4 else drawbridgeref10_Best.l0 m k best prio (s + 1) l0 p c l3 l4 := by
  have hw : wrap64 (s + 1) = s + 1 := by unfold wrap64; omega
  have hu : 0 ≤ IntKind.u64.wrap s := by rcases hs with rfl | rfl <;> decide
  have hup := up_is hp he s hs
  rw [drawbridgeref10_Best.l0, if_pos (by omega), if_pos (by omega), if_pos (by omega), if_pos hu, hw]
  cases hb : upZ p (rd l3 k) s
  · rw [hb] at hup
    rw [if_pos (of_decide_eq_true hup), if_neg (by simp)]
  · rw [hb] at hup
    rw [if_neg (of_decide_eq_false hup), if_pos (by omega), if_pos (by omega)]
    by_cases hg : rd l0 s > prio
    · rw [if_pos hg, if_pos ⟨rfl, hg⟩]
    · rw [if_neg hg, if_neg (fun h => hg h.2)]
theorem rbest_is (m : Nat) {a b p c e f g h : Int} (ha : s7 a) (hb : s7 b) (hp : m6 p) (hc : m6 c) (he : m6 e) (hf : m6 f) (hg : s7 g) (hh : s7 h) (k : Int) (hk : k = 0 ∨ k = 1) (hck : drawbridgeref10_Check.f (m + 4) [0, a, b] p c [e, f] [g, h] = some true) :
    drawbridgeref10_Best.f (m + 4) [0, a, b] p c [e, f] [g, h] k = some (bestZ [0, a, b] p [e, f] [g, h] k) := by
  unfold drawbridgeref10_Best.f
  have hr0 : rd [0, a, b] 0 = 0 := rfl
  have hr1 : rd [0, a, b] 1 = a := rfl
  have hr2 : rd [0, a, b] 2 = b := rfl
  have hm : m6 (rd [e, f] k) := rd_or he hf hk
  have hgk : 0 ≤ rd [g, h] k := by rcases hk with rfl | rfl; exact hg.1; exact hh.1
  rw [hck, Option.bind_some, if_pos rfl, if_neg (by omega), decide_eq_false (by omega), drawbridgeref10_Best.j0, if_neg (by decide), if_pos (by omega), if_pos (by show k < 2; omega),
    rb_one (m + 2) k 0 (rd [g, h] k) 1 _ _ _ _ _ rfl rfl hk (.inl rfl) hp hm, show (1 : Int) + 1 = 2 from rfl,
    rb_one (m + 1) k 1 _ 2 _ _ _ _ _ rfl rfl hk (.inr rfl) hp hm, rb_one (m + 1) k 0 (rd [g, h] k) 2 _ _ _ _ _ rfl rfl hk (.inr rfl) hp hm, hr1, hr2]
  have hend : ∀ (x y : Int), drawbridgeref10_Best.l0 (m + 1) k x y (2 + 1) [0, a, b] p c [e, f] [g, h] = some x := fun x y => by rw [drawbridgeref10_Best.l0, if_neg (by decide)]
  simp only [hend]
  have h1 := ha.1
  have h2 := hb.1
  unfold bestZ b2Z hitZ
  cases hu1 : upZ p (rd [e, f] k) 1 <;> cases hu2 : upZ p (rd [e, f] k) 2 <;> simp only [hr0, hr1, hr2, Bool.false_and, Bool.true_and, Bool.false_eq_true, false_and, true_and, if_false, if_true, Bool.and_eq_true, decide_eq_true_eq] <;> (repeat' split) <;> (try rfl) <;> (simp_all; try omega)
end Go.Proofs.Ytmlpnjoejdpblaa.Q
end
section
/- PlicDoes, plain part: the document's claim and Load are the program's. -/
namespace Go.Proofs.Ytmlpnjoejdpblaa.Q
open Go.RowKit Go.Proofs.YtmlpnjoejdpblaaW.PrintWords Go.Proofs.YtmlpnjoejdpblaaW.PrintLast Go.Proofs.YtmlpnjoejdpblaaW.PrintMore Go.Proofs.Ytmlpnjoejdpblaa.L
set_option linter.unusedVariables false
set_option linter.unusedSimpArgs false
section
variable (m : Nat) {a b p c e f g h : Int} (ha : s7 a) (hb : s7 b) (hp : m6 p) (hc : m6 c) (he : m6 e) (hf : m6 f) (hg : s7 g) (hh : s7 h) (hck : drawbridgeref10_Check.f (m + 4) [0, a, b] p c [e, f] [g, h] = some true)
include ha hb hp hc he hf hg hh hck
theorem rclaim_is (k : Int) (hk : k = 0 ∨ k = 1) : drawbridgeref10_claim.f (m + 4) [0, a, b] p c [e, f] [g, h] k = claimZ [0, a, b] p c [e, f] [g, h] k := by
  unfold drawbridgeref10_claim.f claimZ
  rw [rbest_is m ha hb hp hc he hf hg hh k hk hck, Option.bind_some]
  rcases best_cases [0, a, b] p [e, f] [g, h] k with e1 | e1 | e1 <;> rw [e1] <;> rfl
end
end Go.Proofs.Ytmlpnjoejdpblaa.Q
end
section
/- The document's Check, claim, with, and the program's functions, over the letters. -/
namespace Go.Proofs.Ytmlpnjoejdpblaa.Q
open Go.RowKit Go.Proofs.YtmlpnjoejdpblaaW.PrintWords Go.Proofs.YtmlpnjoejdpblaaW.PrintLast Go.Proofs.YtmlpnjoejdpblaaW.PrintMore Go.Proofs.Ytmlpnjoejdpblaa.L
set_option linter.unusedVariables false
def ckP (p : Pd) : Bool := checkZ p.q0 p.x p.y p.q3 p.q4
structure OKP (p : Pd) : Prop where
  x : i64R p.x
  y : i64R p.y
  q3 : ∀ z ∈ p.q3, i64R z
section
variable {w : World} {ok : Nat → Prop} {p : Pd} {v : Pv} (hF : PF w ok p v)
include hF
theorem rcheck_c (ho : OKP p) (r : Bool) (h : ckP p = r) : Calls Try.prog 18 #[.agg (PC p v)] w fun e w' => e = .returned (.bool r) ∧ Below w.heap.size w w' := by
  obtain ⟨A0, c0, e0, h0, g0⟩ := hF.p0
  obtain ⟨A3, c3, e3, h3, g3⟩ := hF.p3
  obtain ⟨A4, c4, e4, h4, g4⟩ := hF.p4
  unfold PC
  rw [e0, e3, e4]
  subst h
  exact drawbridgeref10_Check.calls 4 A0 c0 p.q0 p.x p.y A3 c3 p.q3 A4 c4 p.q4 _ w (Kd.F_now g0) h0 (Kd.F_now g3) h3 (Kd.F_now g4) h4 (rcheck_is 0 _ _ _ _ _ ho.x ho.y ho.q3)
theorem rclaim_c (k r1 : Int) (p2 : Pd) (r7 : Bool) (h : drawbridgeref10_claim.f 4 p.q0 p.x p.y p.q3 p.q4 k = some (r1, p2.q0, p2.x, p2.y, p2.q3, p2.q4, r7)) :
    Calls Try.prog 30 #[.agg (PC p v), .int .i64 k] w fun e w' => ∃ v' : Pv, e = .returned (.tuple #[.int .u64 r1, .agg (PC p2 v'), .bool r7]) ∧ PF w' (fun j => ok j ∨ w.heap.size ≤ j) p2 v' ∧ Below w.heap.size w w' := by
  obtain ⟨A0, c0, e0, h0⟩ := hF.p0.V (ty := 3) (n := w.heap.size)
  obtain ⟨A3, c3, e3, h3⟩ := hF.p3.V (ty := 3) (n := w.heap.size)
  obtain ⟨A4, c4, e4, h4⟩ := hF.p4.V (ty := 3) (n := w.heap.size)
  unfold PC
  rw [e0, e3, e4]
  refine (drawbridgeref10_claim.calls 4 ok A0 c0 p.q0 p.x p.y ok A3 c3 p.q3 ok A4 c4 p.q4 k r1 p2.q0 p2.x p2.y p2.q3 p2.q4 r7 w h0 h3 h4 h).mono ?_
  rintro e w' ⟨v0, v3, v4, he, s0, s3, s4, hb⟩
  exact ⟨⟨v0, v3, v4⟩, he, ⟨(SL.of_V s0).mono (fun j hj => by simpa using hj), (SL.of_V s3).mono (fun j hj => by simpa using hj), (SL.of_V s4).mono (fun j hj => by simpa using hj)⟩, hb⟩
theorem rset_c (k : Int) (p2 : Pd) (h : drawbridgeref10_Set.f 4 p.q0 p.x p.y p.q3 p.q4 k = some (p2.q0, p2.x, p2.y, p2.q3, p2.q4)) :
    Calls Try.prog 15 #[.agg (PC p v), .int .i64 k] w fun e w' => ∃ v' : Pv, e = .returned (.agg (PC p2 v')) ∧ PF w' (fun j => ok j ∨ w.heap.size ≤ j) p2 v' ∧ Below w.heap.size w w' := by
  obtain ⟨A0, c0, e0, h0⟩ := hF.p0.V (ty := 3) (n := w.heap.size)
  obtain ⟨A3, c3, e3, h3⟩ := hF.p3.V (ty := 3) (n := w.heap.size)
  obtain ⟨A4, c4, e4, h4⟩ := hF.p4.V (ty := 3) (n := w.heap.size)
  unfold PC
  rw [e0, e3, e4]
  refine (drawbridgeref10_Set.calls 4 ok A0 c0 p.q0 p.x p.y ok A3 c3 p.q3 ok A4 c4 p.q4 k p2.q0 p2.x p2.y p2.q3 p2.q4 w h0 h3 h4 h).mono ?_
  rintro e w' ⟨v0, v3, v4, he, s0, s3, s4, hb⟩
  exact ⟨⟨v0, v3, v4⟩, he, ⟨(SL.of_V s0).mono (fun j hj => by simpa using hj), (SL.of_V s3).mono (fun j hj => by simpa using hj), (SL.of_V s4).mono (fun j hj => by simpa using hj)⟩, hb⟩
end
theorem rwith_c (k i n : Int) (v : Value) (l r : List Int) (w : World) (ok : Nat → Prop) (hv : SL .i64 w ok v l) (h : drawbridgeref10_with.f l i n = some r) :
    Calls Try.prog 31 #[v, .int .u64 i, .int .i64 n] w fun e w' => ∃ v' : Value, e = .returned v' ∧ SL .i64 w' (fun j => w.heap.size ≤ j) v' r ∧ Below w.heap.size w w' := by
  obtain ⟨A0, c0, e0, h0, g0⟩ := hv
  rw [e0]
  refine (drawbridgeref10_with.calls A0 c0 l i n r w (Kd.F_now g0) h0 h).mono ?_
  rintro e w' ⟨v', he, hr, hb⟩
  exact ⟨v', he, SL.of_R hr, hb⟩
end Go.Proofs.Ytmlpnjoejdpblaa.Q
end
section
/- The document's Load, refused. -/
namespace Go.Proofs.Ytmlpnjoejdpblaa.Q
open Go.RowKit Go.Proofs.YtmlpnjoejdpblaaW.PrintWords Go.Proofs.YtmlpnjoejdpblaaW.PrintLast Go.Proofs.YtmlpnjoejdpblaaW.PrintMore Go.Proofs.Ytmlpnjoejdpblaa.L
attribute [local go_sem] Instr.field part asAgg lt_step max2_int min2_int max_two min_two max_three min_three max_four min_four lt_0_1 lt_0_2 lt_1_2 lt_0_3 lt_1_3 lt_2_3 lt_0_4 lt_1_4 lt_2_4 lt_3_4 lt_0_5 lt_1_5 lt_2_5 lt_3_5 lt_4_5 lt_0_6 lt_1_6 lt_2_6 lt_3_6 lt_4_6 lt_5_6 lt_0_7 lt_1_7 lt_2_7 lt_3_7 lt_4_7 lt_5_7 lt_6_7 lt_0_8 lt_1_8 lt_2_8 lt_3_8 lt_4_8 lt_5_8 lt_6_8 lt_7_8
set_option linter.unusedVariables false
set_option linter.unusedSimpArgs false
theorem results_tct {P : Program} {fn : Func} {u p x : Tmp} {ty : TypeId} (h : fn.results = #[.tmp u, .cell p ty, .tmp x]) (tmps : Array Value) (w : World) (g : Nat) (t : TypeId) (cs : Array Value) (fr : Nat × Nat) (d : TypeDesc)
    (hp : tmps.getD p undef = .pointer (some ⟨g, 0, none⟩)) (hg : w.heap[g]? = some (.cells cs t fr)) (hu : P.underlying ty = some d) (hd : (match d with | .struct _ | .array _ _ => true | _ => false) = true) (hi : (P.info? ty).map (·.size) = some cs.size) : (results fn tmps).run P w = .ok (.tuple #[tmps.getD u undef, .agg cs, tmps.getD x undef]) w := by
  have h1 : tmps[p]?.getD undef = .pointer (some ⟨g, 0, none⟩) := by simpa using hp
  simp [results, h, h1, asAddr, run_loadVar_row w g t ty cs fr d hg hu hd hi]
set_option maxHeartbeats 1600000 in
set_option maxRecDepth 100000 in
theorem rload_nock (p : Pd) (v : Pv) (off : Int) (size : Int) (w : World) (ok : Nat → Prop) (hF : PF w ok p v) (ho : OKP p) (hk : ckP p = false) :
    Calls Try.prog 13 #[.agg (PC p v), .int .u64 off, .int .i64 size] w fun e w' => ∃ v' : Pv, e = .returned (.tuple #[.int .u64 0, .agg (PC p v'), .bool false]) ∧ PF w' (fun j => ok j ∨ w.heap.size ≤ j) p v' ∧ Below w.heap.size w w' := by
  have HK := Aside0.mk hk
  clear hk
  have HB := Aside0.mk (Below.refl w.heap.size w)
  have HF := Aside0.mk hF.bound
  have HO := Aside0.mk ho
  have hu := Try.underlying24
  clear hF ho
  go_enter Try.func13, Try.ntmps13
  go_upto_region 1 with fail
  obtain ⟨wa, hwa, on0, pn0, hb_, hz0⟩ := letter2 w (.cells (PC p v) 24 (0, 0)) (.cells PZ 24 (0, 0))
  unfold PZ at hwa
  rw [hwa]
  clear hwa
  have hzwa := Nat.le_of_eq hz0.symm
  clear hz0
  have on := Aside0.mk on0
  have pn := Aside0.mk pn0
  clear on0 pn0
  obtain ⟨onc, onf, onl⟩ := cells_of on.out
  obtain ⟨pnc, pnf, pnl⟩ := cells_of pn.out
  have HB_ : Aside0 (Below w.heap.size w wa) := ⟨hb_⟩
  have HF_ : Aside0 (PF wa (fun j => (ok j ∨ w.heap.size ≤ j) ∧ j ≠ w.heap.size ∧ j ≠ w.heap.size + 1) p v) := ⟨(HF.out.below hb_).mono (fun j hj => ⟨.inl hj.1, by have h_ := hj.2; omega, by have h_ := hj.2; omega⟩)⟩
  clear HB HF hb_; have HB := HB_; have HF := HF_; clear HB_ HF_
  go_wp2_with (first | ((with_reducible refine gate_dst (N := 9) rfl ?_); (try (refine gate_guard (by rfl) ?_; dsimp only)); refine wpList_load_row rfl 24 _ rfl _ (by rfl) _ (PC p v) _ _ (eG on) Try.underlying24 rfl infPC ?_))
  (go_at_call 18; (with_reducible refine (rcheck_c HF.out HO.out false HK.out).mono ?_); rintro e_ w1 ⟨rfl, hb_⟩; have HB_ : Aside0 (Below w.heap.size w w1) := Aside0.mk (below_step (bG HB) hb_); have hzw1 := hb_.size; (try simp at hzw1); have on_ := Aside0.mk (box_below hb_ (eG on)); have pn_ := Aside0.mk (box_below hb_ (eG pn)); (try clear on onc onf onl); have on := on_; clear on_; obtain ⟨onc, onf, onl⟩ := cells_of on.out; (try clear pn pnc pnf pnl); have pn := pn_; clear pn_; obtain ⟨pnc, pnf, pnl⟩ := cells_of pn.out; have HF_ := Aside0.mk (PF.below (by repeat (with_reducible first | exact HF.out | apply PF.drew | apply PF.drewN | apply PF.alloc)) hb_); clear HF; have HF := HF_; clear HF_; clear HB hb_; have HB := HB_; clear HB_)
  go_upto_region 2 with fail
  refine start_ (n := 4) (S := fun w' => w'.heap[w.heap.size]? = some (.cells (PC p v) 24 (0, 0))) (ds := []) #[false, false, false, false] (by kernel_rfl) rfl rfl (eG on) (fun hHeld => ?_)
  refine rowL_ (i := 0) (N := some 16) #[true, false, false, false] rfl rfl (by kernel_rfl) 24 _ rfl (w.heap.size) (PC p v) (fun _ _ _ h => h) (by rfl) (by rfl) _ _ _ (fun _ h => h) Try.underlying24 rfl infPC hHeld (a' := ?_) ?_ ?_
  rotate_left
  · simp only [Act.put, List.setIfInBounds_toArray, List.set_cons_zero, List.set_cons_succ, i64_w, i32_w]
    rfl
  refine pure_ (i := 1) (N := some 6) (v := ?_) (a' := ?_) #[true, true, false, false] rfl rfl (by kernel_rfl) (fun _ _ _ h => h) (Or.inl ⟨by rfl, ?_⟩) ?_ ?_
  rotate_left
  · intro w'
    go_simp
    with_reducible rfl
  rotate_left
  · simp only [Act.put, List.setIfInBounds_toArray, List.set_cons_zero, List.set_cons_succ, i64_w, i32_w]
    rfl
  refine rowS_ (i := 2) #[true, true, true, false] rfl rfl (by kernel_rfl) (by decide) 24 _ _ rfl (w.heap.size + 1) (PC p v) (by rfl) (by rfl) (by rfl) PZ 24 (eG pn) rfl infPC HF.out.one ?_
  (rintro w2 ⟨hx_, hk_, hb_, hzz_⟩; have HB_ : Aside0 (Below w.heap.size w w2) := Aside0.mk (Below.trans (bG HB) (Below.mono hb_ (by first | omega | (simp only [sz_alloc, sz_drew, sz_drewN]; omega)))); have hzw2 := hzz_; (try simp at hzw2); clear hzz_; have on_ := Aside0.mk (st_put on.out hk_ (fun h_ => (by repeat (with_reducible first | exact h_ | apply ext_drew | apply ext_drewN | apply ext_alloc | refine blk_far ?_ (by show _ ≠ _; dsimp only; omega) _))) (by omega)); clear on onc onf onl; have on := on_; clear on_; obtain ⟨onc, onf, onl⟩ := cells_of on.out; (first | (have HF_ := Aside0.mk (PF.step HF.out (fun j hj _ => hk_ j (hj.2.2)))) | (have HF_ := Aside0.mk (PF.step (PF.alloc HF.out _) (fun j hj _ => hk_ j (hj.2.2))))); clear HF; have HF := HF_; clear HF_; (try clear pn pnc pnf pnl); have pn := Aside0.mk hx_; obtain ⟨pnc, pnf, pnl⟩ := cells_of pn.out; clear HB hb_ hk_ hx_; have HB := HB_; clear HB_)
  refine ⟨(eG on), ?_⟩
  refine pure_ (i := 3) (N := some 8) (v := ?_) (a' := ?_) #[true, true, true, true] rfl rfl (by kernel_rfl) (fun _ _ _ h => h) (Or.inl ⟨by rfl, ?_⟩) ?_ ?_
  rotate_left
  · intro w'
    go_simp
    with_reducible rfl
  rotate_left
  · simp only [Act.put, List.setIfInBounds_toArray, List.set_cons_zero, List.set_cons_succ, i64_w, i32_w]
    rfl
  refine done_ (by kernel_rfl) ?_
  go_wp2
  refine bodyPost_ret (results_tct rfl _ _ (w.heap.size + 1) 24 (PC p v) (0, 0) _ rfl pn.out Try.underlying24 rfl infPC) rfl ⟨v, rfl, HF.out.mono (fun j hj => hj.1), (bG HB)⟩
set_option maxHeartbeats 1600000 in
set_option maxRecDepth 100000 in
theorem rload_nosz (p : Pd) (v : Pv) (off : Int) (size : Int) (w : World) (ok : Nat → Prop) (hF : PF w ok p v) (ho : OKP p) (hk : ckP p = true) (hsz : (size != 4) = true) :
    Calls Try.prog 13 #[.agg (PC p v), .int .u64 off, .int .i64 size] w fun e w' => ∃ v' : Pv, e = .returned (.tuple #[.int .u64 0, .agg (PC p v'), .bool false]) ∧ PF w' (fun j => ok j ∨ w.heap.size ≤ j) p v' ∧ Below w.heap.size w w' := by
  have HK := Aside0.mk hk
  clear hk
  have HB := Aside0.mk (Below.refl w.heap.size w)
  have HF := Aside0.mk hF.bound
  have HO := Aside0.mk ho
  have hu := Try.underlying24
  clear hF ho
  go_enter Try.func13, Try.ntmps13
  go_upto_region 1 with fail
  obtain ⟨wa, hwa, on0, pn0, hb_, hz0⟩ := letter2 w (.cells (PC p v) 24 (0, 0)) (.cells PZ 24 (0, 0))
  unfold PZ at hwa
  rw [hwa]
  clear hwa
  have hzwa := Nat.le_of_eq hz0.symm
  clear hz0
  have on := Aside0.mk on0
  have pn := Aside0.mk pn0
  clear on0 pn0
  obtain ⟨onc, onf, onl⟩ := cells_of on.out
  obtain ⟨pnc, pnf, pnl⟩ := cells_of pn.out
  have HB_ : Aside0 (Below w.heap.size w wa) := ⟨hb_⟩
  have HF_ : Aside0 (PF wa (fun j => (ok j ∨ w.heap.size ≤ j) ∧ j ≠ w.heap.size ∧ j ≠ w.heap.size + 1) p v) := ⟨(HF.out.below hb_).mono (fun j hj => ⟨.inl hj.1, by have h_ := hj.2; omega, by have h_ := hj.2; omega⟩)⟩
  clear HB HF hb_; have HB := HB_; have HF := HF_; clear HB_ HF_
  go_wp2_with (first | ((with_reducible refine gate_dst (N := 9) rfl ?_); (try (refine gate_guard (by rfl) ?_; dsimp only)); refine wpList_load_row rfl 24 _ rfl _ (by rfl) _ (PC p v) _ _ (eG on) Try.underlying24 rfl infPC ?_))
  (go_at_call 18; (with_reducible refine (rcheck_c HF.out HO.out true HK.out).mono ?_); rintro e_ w1 ⟨rfl, hb_⟩; have HB_ : Aside0 (Below w.heap.size w w1) := Aside0.mk (below_step (bG HB) hb_); have hzw1 := hb_.size; (try simp at hzw1); have on_ := Aside0.mk (box_below hb_ (eG on)); have pn_ := Aside0.mk (box_below hb_ (eG pn)); (try clear on onc onf onl); have on := on_; clear on_; obtain ⟨onc, onf, onl⟩ := cells_of on.out; (try clear pn pnc pnf pnl); have pn := pn_; clear pn_; obtain ⟨pnc, pnf, pnl⟩ := cells_of pn.out; have HF_ := Aside0.mk (PF.below (by repeat (with_reducible first | exact HF.out | apply PF.drew | apply PF.drewN | apply PF.alloc)) hb_); clear HF; have HF := HF_; clear HF_; clear HB hb_; have HB := HB_; clear HB_)
  go_upto_region 2 with fail
  refine start_ (n := 4) (S := fun w' => w'.heap[w.heap.size]? = some (.cells (PC p v) 24 (0, 0))) (ds := []) #[false, false, false, false] (by kernel_rfl) rfl rfl (eG on) (fun hHeld => ?_)
  refine rowL_ (i := 0) (N := some 16) #[true, false, false, false] rfl rfl (by kernel_rfl) 24 _ rfl (w.heap.size) (PC p v) (fun _ _ _ h => h) (by rfl) (by rfl) _ _ _ (fun _ h => h) Try.underlying24 rfl infPC hHeld (a' := ?_) ?_ ?_
  rotate_left
  · simp only [Act.put, List.setIfInBounds_toArray, List.set_cons_zero, List.set_cons_succ, i64_w, i32_w]
    rfl
  refine pure_ (i := 1) (N := some 6) (v := ?_) (a' := ?_) #[true, true, false, false] rfl rfl (by kernel_rfl) (fun _ _ _ h => h) (Or.inl ⟨by rfl, ?_⟩) ?_ ?_
  rotate_left
  · intro w'
    go_simp
    with_reducible rfl
  rotate_left
  · simp only [Act.put, List.setIfInBounds_toArray, List.set_cons_zero, List.set_cons_succ, i64_w, i32_w]
    rfl
  refine rowS_ (i := 2) #[true, true, true, false] rfl rfl (by kernel_rfl) (by decide) 24 _ _ rfl (w.heap.size + 1) (PC p v) (by rfl) (by rfl) (by rfl) PZ 24 (eG pn) rfl infPC HF.out.one ?_
  (rintro w2 ⟨hx_, hk_, hb_, hzz_⟩; have HB_ : Aside0 (Below w.heap.size w w2) := Aside0.mk (Below.trans (bG HB) (Below.mono hb_ (by first | omega | (simp only [sz_alloc, sz_drew, sz_drewN]; omega)))); have hzw2 := hzz_; (try simp at hzw2); clear hzz_; have on_ := Aside0.mk (st_put on.out hk_ (fun h_ => (by repeat (with_reducible first | exact h_ | apply ext_drew | apply ext_drewN | apply ext_alloc | refine blk_far ?_ (by show _ ≠ _; dsimp only; omega) _))) (by omega)); clear on onc onf onl; have on := on_; clear on_; obtain ⟨onc, onf, onl⟩ := cells_of on.out; (first | (have HF_ := Aside0.mk (PF.step HF.out (fun j hj _ => hk_ j (hj.2.2)))) | (have HF_ := Aside0.mk (PF.step (PF.alloc HF.out _) (fun j hj _ => hk_ j (hj.2.2))))); clear HF; have HF := HF_; clear HF_; (try clear pn pnc pnf pnl); have pn := Aside0.mk hx_; obtain ⟨pnc, pnf, pnl⟩ := cells_of pn.out; clear HB hb_ hk_ hx_; have HB := HB_; clear HB_)
  refine ⟨(eG on), ?_⟩
  refine pure_ (i := 3) (N := some 8) (v := ?_) (a' := ?_) #[true, true, true, true] rfl rfl (by kernel_rfl) (fun _ _ _ h => h) (Or.inl ⟨by rfl, ?_⟩) ?_ ?_
  rotate_left
  · intro w'
    go_simp
    with_reducible rfl
  rotate_left
  · simp only [Act.put, List.setIfInBounds_toArray, List.set_cons_zero, List.set_cons_succ, i64_w, i32_w]
    rfl
  refine done_ (by kernel_rfl) ?_
  go_wp2
  refine bodyPost_ret (results_tct rfl _ _ (w.heap.size + 1) 24 (PC p v) (0, 0) _ rfl pn.out Try.underlying24 rfl infPC) rfl ⟨v, rfl, HF.out.mono (fun j hj => hj.1), (bG HB)⟩
set_option maxHeartbeats 1600000 in
set_option maxRecDepth 100000 in
theorem rload_none (p : Pd) (v : Pv) (off : Int) (size : Int) (w : World) (ok : Nat → Prop) (hF : PF w ok p v) (ho : OKP p) (hk : ckP p = true) (hs : size = 4) (h0 : (off == 4) = false) (h1 : (off == 8) = false) (h2 : (off == 4096) = false) (h3 : (off == 8192) = false) (h4 : (off == 8320) = false) (h5 : (off == 2097152) = false) (h6 : (off == 2101248) = false) (h7 : (off == 2097156) = false) (h8 : (off == 2101252) = false) :
    Calls Try.prog 13 #[.agg (PC p v), .int .u64 off, .int .i64 size] w fun e w' => ∃ v' : Pv, e = .returned (.tuple #[.int .u64 0, .agg (PC p v'), .bool false]) ∧ PF w' (fun j => ok j ∨ w.heap.size ≤ j) p v' ∧ Below w.heap.size w w' := by
  subst hs
  have HK := Aside0.mk hk
  clear hk
  have HB := Aside0.mk (Below.refl w.heap.size w)
  have HF := Aside0.mk hF.bound
  have HO := Aside0.mk ho
  have hu := Try.underlying24
  clear hF ho
  go_enter Try.func13, Try.ntmps13
  go_upto_region 1 with fail
  obtain ⟨wa, hwa, on0, pn0, hb_, hz0⟩ := letter2 w (.cells (PC p v) 24 (0, 0)) (.cells PZ 24 (0, 0))
  unfold PZ at hwa
  rw [hwa]
  clear hwa
  have hzwa := Nat.le_of_eq hz0.symm
  clear hz0
  have on := Aside0.mk on0
  have pn := Aside0.mk pn0
  clear on0 pn0
  obtain ⟨onc, onf, onl⟩ := cells_of on.out
  obtain ⟨pnc, pnf, pnl⟩ := cells_of pn.out
  have HB_ : Aside0 (Below w.heap.size w wa) := ⟨hb_⟩
  have HF_ : Aside0 (PF wa (fun j => (ok j ∨ w.heap.size ≤ j) ∧ j ≠ w.heap.size ∧ j ≠ w.heap.size + 1) p v) := ⟨(HF.out.below hb_).mono (fun j hj => ⟨.inl hj.1, by have h_ := hj.2; omega, by have h_ := hj.2; omega⟩)⟩
  clear HB HF hb_; have HB := HB_; have HF := HF_; clear HB_ HF_
  go_wp2_with (first | ((with_reducible refine gate_dst (N := 9) rfl ?_); (try (refine gate_guard (by rfl) ?_; dsimp only)); refine wpList_load_row rfl 24 _ rfl _ (by rfl) _ (PC p v) _ _ (eG on) Try.underlying24 rfl infPC ?_))
  (go_at_call 18; (with_reducible refine (rcheck_c HF.out HO.out true HK.out).mono ?_); rintro e_ w1 ⟨rfl, hb_⟩; have HB_ : Aside0 (Below w.heap.size w w1) := Aside0.mk (below_step (bG HB) hb_); have hzw1 := hb_.size; (try simp at hzw1); have on_ := Aside0.mk (box_below hb_ (eG on)); have pn_ := Aside0.mk (box_below hb_ (eG pn)); (try clear on onc onf onl); have on := on_; clear on_; obtain ⟨onc, onf, onl⟩ := cells_of on.out; (try clear pn pnc pnf pnl); have pn := pn_; clear pn_; obtain ⟨pnc, pnf, pnl⟩ := cells_of pn.out; have HF_ := Aside0.mk (PF.below (by repeat (with_reducible first | exact HF.out | apply PF.drew | apply PF.drewN | apply PF.alloc)) hb_); clear HF; have HF := HF_; clear HF_; clear HB hb_; have HB := HB_; clear HB_)
  go_upto_region 18 with fail
  refine start_ (n := 4) (S := fun w' => w'.heap[w.heap.size]? = some (.cells (PC p v) 24 (0, 0))) (ds := []) #[false, false, false, false] (by kernel_rfl) rfl rfl (eG on) (fun hHeld => ?_)
  refine rowL_ (i := 0) (N := some 71) #[true, false, false, false] rfl rfl (by kernel_rfl) 24 _ rfl (w.heap.size) (PC p v) (fun _ _ _ h => h) (by rfl) (by rfl) _ _ _ (fun _ h => h) Try.underlying24 rfl infPC hHeld (a' := ?_) ?_ ?_
  rotate_left
  · simp only [Act.put, List.setIfInBounds_toArray, List.set_cons_zero, List.set_cons_succ, i64_w, i32_w]
    rfl
  refine pure_ (i := 1) (N := some 6) (v := ?_) (a' := ?_) #[true, true, false, false] rfl rfl (by kernel_rfl) (fun _ _ _ h => h) (Or.inl ⟨by rfl, ?_⟩) ?_ ?_
  rotate_left
  · intro w'
    go_simp
    with_reducible rfl
  rotate_left
  · simp only [Act.put, List.setIfInBounds_toArray, List.set_cons_zero, List.set_cons_succ, i64_w, i32_w]
    rfl
  refine rowS_ (i := 2) #[true, true, true, false] rfl rfl (by kernel_rfl) (by decide) 24 _ _ rfl (w.heap.size + 1) (PC p v) (by rfl) (by rfl) (by rfl) PZ 24 (eG pn) rfl infPC HF.out.one ?_
  (rintro w2 ⟨hx_, hk_, hb_, hzz_⟩; have HB_ : Aside0 (Below w.heap.size w w2) := Aside0.mk (Below.trans (bG HB) (Below.mono hb_ (by first | omega | (simp only [sz_alloc, sz_drew, sz_drewN]; omega)))); have hzw2 := hzz_; (try simp at hzw2); clear hzz_; have on_ := Aside0.mk (st_put on.out hk_ (fun h_ => (by repeat (with_reducible first | exact h_ | apply ext_drew | apply ext_drewN | apply ext_alloc | refine blk_far ?_ (by show _ ≠ _; dsimp only; omega) _))) (by omega)); clear on onc onf onl; have on := on_; clear on_; obtain ⟨onc, onf, onl⟩ := cells_of on.out; (first | (have HF_ := Aside0.mk (PF.step HF.out (fun j hj _ => hk_ j (hj.2.2)))) | (have HF_ := Aside0.mk (PF.step (PF.alloc HF.out _) (fun j hj _ => hk_ j (hj.2.2))))); clear HF; have HF := HF_; clear HF_; (try clear pn pnc pnf pnl); have pn := Aside0.mk hx_; obtain ⟨pnc, pnf, pnl⟩ := cells_of pn.out; clear HB hb_ hk_ hx_; have HB := HB_; clear HB_)
  refine ⟨(eG on), ?_⟩
  refine pure_ (i := 3) (N := some 8) (v := ?_) (a' := ?_) #[true, true, true, true] rfl rfl (by kernel_rfl) (fun _ _ _ h => h) (Or.inl ⟨by rfl, ?_⟩) ?_ ?_
  rotate_left
  · intro w'
    go_simp
    with_reducible rfl
  rotate_left
  · simp only [Act.put, List.setIfInBounds_toArray, List.set_cons_zero, List.set_cons_succ, i64_w, i32_w]
    rfl
  refine done_ (by kernel_rfl) ?_
  go_wp2
  refine bodyPost_ret (results_tct rfl _ _ (w.heap.size + 1) 24 (PC p v) (0, 0) _ rfl pn.out Try.underlying24 rfl infPC) rfl ⟨v, rfl, HF.out.mono (fun j hj => hj.1), (bG HB)⟩
end Go.Proofs.Ytmlpnjoejdpblaa.Q
end
