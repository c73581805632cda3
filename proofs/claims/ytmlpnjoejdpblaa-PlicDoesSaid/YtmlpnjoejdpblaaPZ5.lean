import Derived.Test.YtmlpnjoejdpblaaPZ3
import Derived.Test.YtmlpnjoejdpblaaPZ4
import Derived.Test.YtmlpnjoejdpblaaPZ1
import Derived.Test.YtmlpnjoejdpblaaPXQx2
import Derived.Deep.DrawnRows
section
/- plic.Load, as those who call it have it. -/
namespace Go.Proofs.Ytmlpnjoejdpblaa.Q
open Go.RowKit Go.Proofs.YtmlpnjoejdpblaaW.PrintWords Go.Proofs.YtmlpnjoejdpblaaW.PrintLast Go.Proofs.YtmlpnjoejdpblaaW.PrintMore Go.Proofs.Ytmlpnjoejdpblaa.L
attribute [local go_sem] Instr.field part asAgg lt_step max2_int min2_int max_two min_two max_three min_three max_four min_four lt_0_1 lt_0_2 lt_1_2 lt_0_3 lt_1_3 lt_2_3 lt_0_4 lt_1_4 lt_2_4 lt_3_4 lt_0_5 lt_1_5 lt_2_5 lt_3_5 lt_4_5 lt_0_6 lt_1_6 lt_2_6 lt_3_6 lt_4_6 lt_5_6 lt_0_7 lt_1_7 lt_2_7 lt_3_7 lt_4_7 lt_5_7 lt_6_7 lt_0_8 lt_1_8 lt_2_8 lt_3_8 lt_4_8 lt_5_8 lt_6_8 lt_7_8
set_option linter.unusedVariables false
set_option linter.unusedSimpArgs false
def claimZ (l0_0 : List Int) (a0_1 : Int) (a0_2 : Int) (l0_3 : List Int) (l0_4 : List Int) (k : Int) : Option (Int × List Int × Int × Int × List Int × List Int × Bool) :=
  if bestZ l0_0 a0_1 l0_3 l0_4 k = 0 then some (0, l0_0, a0_1, a0_2, l0_3, l0_4, true) else if bestZ l0_0 a0_1 l0_3 l0_4 k = 1 then some (1, l0_0, Go.bits .andNot .i64 a0_1 2, Go.bits .or .i64 a0_2 2, l0_3, l0_4, true) else some (2, l0_0, Go.bits .andNot .i64 a0_1 4, Go.bits .or .i64 a0_2 4, l0_3, l0_4, true)
def plic_Load.f (l0_0 : List Int) (a0_1 : Int) (a0_2 : Int) (l0_3 : List Int) (l0_4 : List Int) (a1 : Int) (a2 : Int) : Option (Int × List Int × Int × Int × List Int × List Int × Bool) :=
  if checkZ l0_0 a0_1 a0_2 l0_3 l0_4 = true ∧ a2 = 4 then
    (if a1 = 4 then some (IntKind.u64.wrap (rd l0_0 1), l0_0, a0_1, a0_2, l0_3, l0_4, true) else if a1 = 8 then some (IntKind.u64.wrap (rd l0_0 2), l0_0, a0_1, a0_2, l0_3, l0_4, true) else if a1 = 4096 then some (IntKind.u64.wrap a0_1, l0_0, a0_1, a0_2, l0_3, l0_4, true) else if a1 = 8192 then some (IntKind.u64.wrap (rd l0_3 0), l0_0, a0_1, a0_2, l0_3, l0_4, true) else if a1 = 8320 then some (IntKind.u64.wrap (rd l0_3 1), l0_0, a0_1, a0_2, l0_3, l0_4, true) else if a1 = 2097152 then some (IntKind.u64.wrap (rd l0_4 0), l0_0, a0_1, a0_2, l0_3, l0_4, true) else if a1 = 2101248 then some (IntKind.u64.wrap (rd l0_4 1), l0_0, a0_1, a0_2, l0_3, l0_4, true)
     else if a1 = 2097156 then claimZ l0_0 a0_1 a0_2 l0_3 l0_4 0 else if a1 = 2101252 then claimZ l0_0 a0_1 a0_2 l0_3 l0_4 1 else some (0, l0_0, a0_1, a0_2, l0_3, l0_4, false))
  else some (0, l0_0, a0_1, a0_2, l0_3, l0_4, false)
theorem plic_Load.calls (P0_0_ : Nat → Prop) (A0_0 : Option Addr) (c0_0 : Nat) (l0_0 : List Int) (a0_1 : Int) (a0_2 : Int) (P0_3_ : Nat → Prop) (A0_3 : Option Addr) (c0_3 : Nat) (l0_3 : List Int) (P0_4_ : Nat → Prop) (A0_4 : Option Addr) (c0_4 : Nat) (l0_4 : List Int) (a1 : Int) (a2 : Int) (r1 : Int) (r2 : List Int) (r3 : Int) (r4 : Int) (r5 : List Int) (r6 : List Int) (r7 : Bool) (w : World) (hs0_0 : Kd.V (Kd.int .i64) 3 w w.heap.size (fun k_ => P0_0_ k_) (.slice A0_0 l0_0.length c0_0) l0_0) (hs0_3 : Kd.V (Kd.int .i64) 3 w w.heap.size (fun k_ => P0_3_ k_) (.slice A0_3 l0_3.length c0_3) l0_3) (hs0_4 : Kd.V (Kd.int .i64) 3 w w.heap.size (fun k_ => P0_4_ k_) (.slice A0_4 l0_4.length c0_4) l0_4) (h : plic_Load.f l0_0 a0_1 a0_2 l0_3 l0_4 a1 a2 = some (r1, r2, r3, r4, r5, r6, r7)) :
    Calls Try.prog 11 #[.agg #[.slice A0_0 l0_0.length c0_0, .int .i64 a0_1, .int .i64 a0_2, .slice A0_3 l0_3.length c0_3, .slice A0_4 l0_4.length c0_4], .int .u64 a1, .int .i64 a2] w fun e w' => ∃ v1_ v4_ v5_ : Value, e = .returned (.tuple #[.int .u64 r1, .agg #[v1_, .int .i64 r3, .int .i64 r4, v4_, v5_], .bool r7]) ∧ Kd.V (Kd.int .i64) 3 w' w.heap.size (fun k_ => ((P0_0_ k_ ∨ P0_3_ k_ ∨ P0_4_ k_) ∨ w.heap.size ≤ k_)) v1_ r2 ∧ Kd.V (Kd.int .i64) 3 w' w.heap.size (fun k_ => ((P0_0_ k_ ∨ P0_3_ k_ ∨ P0_4_ k_) ∨ w.heap.size ≤ k_)) v4_ r5 ∧ Kd.V (Kd.int .i64) 3 w' w.heap.size (fun k_ => ((P0_0_ k_ ∨ P0_3_ k_ ∨ P0_4_ k_) ∨ w.heap.size ≤ k_)) v5_ r6 ∧ Below w.heap.size w w' := by
  obtain ⟨_, hc0, hF0⟩ := V_F hs0_0
  obtain ⟨_, hc3, hF3⟩ := V_F hs0_3
  obtain ⟨_, hc4, hF4⟩ := V_F hs0_4
  have g0 := Kd.F_now hF0
  have g3 := Kd.F_now hF3
  have g4 := Kd.F_now hF4
  have key : r2 = l0_0 ∧ r5 = l0_3 ∧ r6 = l0_4 ∧ Calls Try.prog 11 #[.agg #[.slice A0_0 l0_0.length c0_0, .int .i64 a0_1, .int .i64 a0_2, .slice A0_3 l0_3.length c0_3, .slice A0_4 l0_4.length c0_4], .int .u64 a1, .int .i64 a2] w fun e w' => e = .returned (.tuple #[.int .u64 r1, .agg #[.slice A0_0 l0_0.length c0_0, .int .i64 r3, .int .i64 r4, .slice A0_3 l0_3.length c0_3, .slice A0_4 l0_4.length c0_4], .bool r7]) ∧ Below w.heap.size w w' := by
    unfold plic_Load.f at h
    by_cases hg : checkZ l0_0 a0_1 a0_2 l0_3 l0_4 = true ∧ a2 = 4
    · rw [if_pos hg] at h
      obtain ⟨hck, rfl⟩ := hg
      by_cases h4 : a1 = 4
      · rw [if_pos h4] at h
        subst h4
        simp only [Option.some.injEq, Prod.mk.injEq] at h
        obtain ⟨rfl, rfl, rfl, rfl, rfl, rfl, rfl⟩ := h
        exact ⟨rfl, rfl, rfl, load_p1 _ _ l0_0 a0_1 a0_2 _ _ l0_3 _ _ l0_4 w hck g0 g3 g4 hc0 hc3 hc4⟩
      rw [if_neg h4] at h
      by_cases h8 : a1 = 8
      · rw [if_pos h8] at h
        subst h8
        simp only [Option.some.injEq, Prod.mk.injEq] at h
        obtain ⟨rfl, rfl, rfl, rfl, rfl, rfl, rfl⟩ := h
        exact ⟨rfl, rfl, rfl, load_p2 _ _ l0_0 a0_1 a0_2 _ _ l0_3 _ _ l0_4 w hck g0 g3 g4 hc0 hc3 hc4⟩
      rw [if_neg h8] at h
      by_cases h4096 : a1 = 4096
      · rw [if_pos h4096] at h
        subst h4096
        simp only [Option.some.injEq, Prod.mk.injEq] at h
        obtain ⟨rfl, rfl, rfl, rfl, rfl, rfl, rfl⟩ := h
        exact ⟨rfl, rfl, rfl, load_pend _ _ l0_0 a0_1 a0_2 _ _ l0_3 _ _ l0_4 w hck g0 g3 g4 hc0 hc3 hc4⟩
      rw [if_neg h4096] at h
      by_cases h8192 : a1 = 8192
      · rw [if_pos h8192] at h
        subst h8192
        simp only [Option.some.injEq, Prod.mk.injEq] at h
        obtain ⟨rfl, rfl, rfl, rfl, rfl, rfl, rfl⟩ := h
        exact ⟨rfl, rfl, rfl, load_e0 _ _ l0_0 a0_1 a0_2 _ _ l0_3 _ _ l0_4 w hck g0 g3 g4 hc0 hc3 hc4⟩
      rw [if_neg h8192] at h
      by_cases h8320 : a1 = 8320
      · rw [if_pos h8320] at h
        subst h8320
        simp only [Option.some.injEq, Prod.mk.injEq] at h
        obtain ⟨rfl, rfl, rfl, rfl, rfl, rfl, rfl⟩ := h
        exact ⟨rfl, rfl, rfl, load_e1 _ _ l0_0 a0_1 a0_2 _ _ l0_3 _ _ l0_4 w hck g0 g3 g4 hc0 hc3 hc4⟩
      rw [if_neg h8320] at h
      by_cases h2097152 : a1 = 2097152
      · rw [if_pos h2097152] at h
        subst h2097152
        simp only [Option.some.injEq, Prod.mk.injEq] at h
        obtain ⟨rfl, rfl, rfl, rfl, rfl, rfl, rfl⟩ := h
        exact ⟨rfl, rfl, rfl, load_t0 _ _ l0_0 a0_1 a0_2 _ _ l0_3 _ _ l0_4 w hck g0 g3 g4 hc0 hc3 hc4⟩
      rw [if_neg h2097152] at h
      by_cases h2101248 : a1 = 2101248
      · rw [if_pos h2101248] at h
        subst h2101248
        simp only [Option.some.injEq, Prod.mk.injEq] at h
        obtain ⟨rfl, rfl, rfl, rfl, rfl, rfl, rfl⟩ := h
        exact ⟨rfl, rfl, rfl, load_t1 _ _ l0_0 a0_1 a0_2 _ _ l0_3 _ _ l0_4 w hck g0 g3 g4 hc0 hc3 hc4⟩
      rw [if_neg h2101248] at h
      by_cases h2097156 : a1 = 2097156
      · rw [if_pos h2097156] at h
        subst h2097156
        unfold claimZ at h
        have hb := best_is l0_0 a0_1 a0_2 l0_3 l0_4 0 0 hck (by decide)
        by_cases hb0 : bestZ l0_0 a0_1 l0_3 l0_4 0 = 0
        · rw [if_pos hb0] at h
          rw [hb0] at hb
          simp only [Option.some.injEq, Prod.mk.injEq] at h
          obtain ⟨rfl, rfl, rfl, rfl, rfl, rfl, rfl⟩ := h
          exact ⟨rfl, rfl, rfl, load_c00 _ _ l0_0 a0_1 a0_2 _ _ l0_3 _ _ l0_4 w hck hb g0 g3 g4 hc0 hc3 hc4⟩
        rw [if_neg hb0] at h
        by_cases hb1 : bestZ l0_0 a0_1 l0_3 l0_4 0 = 1
        · rw [if_pos hb1] at h
          rw [hb1] at hb
          simp only [Option.some.injEq, Prod.mk.injEq] at h
          obtain ⟨rfl, rfl, rfl, rfl, rfl, rfl, rfl⟩ := h
          exact ⟨rfl, rfl, rfl, load_c01 _ _ l0_0 a0_1 a0_2 _ _ l0_3 _ _ l0_4 w hck hb g0 g3 g4 hc0 hc3 hc4⟩
        rw [if_neg hb1] at h
        rw [show bestZ l0_0 a0_1 l0_3 l0_4 0 = 2 by rcases best_cases l0_0 a0_1 l0_3 l0_4 0 with e | e | e; exact absurd e hb0; exact absurd e hb1; exact e] at hb
        simp only [Option.some.injEq, Prod.mk.injEq] at h
        obtain ⟨rfl, rfl, rfl, rfl, rfl, rfl, rfl⟩ := h
        exact ⟨rfl, rfl, rfl, load_c02 _ _ l0_0 a0_1 a0_2 _ _ l0_3 _ _ l0_4 w hck hb g0 g3 g4 hc0 hc3 hc4⟩
      rw [if_neg h2097156] at h
      by_cases h2101252 : a1 = 2101252
      · rw [if_pos h2101252] at h
        subst h2101252
        unfold claimZ at h
        have hb := best_is l0_0 a0_1 a0_2 l0_3 l0_4 1 0 hck (by decide)
        by_cases hb0 : bestZ l0_0 a0_1 l0_3 l0_4 1 = 0
        · rw [if_pos hb0] at h
          rw [hb0] at hb
          simp only [Option.some.injEq, Prod.mk.injEq] at h
          obtain ⟨rfl, rfl, rfl, rfl, rfl, rfl, rfl⟩ := h
          exact ⟨rfl, rfl, rfl, load_c10 _ _ l0_0 a0_1 a0_2 _ _ l0_3 _ _ l0_4 w hck hb g0 g3 g4 hc0 hc3 hc4⟩
        rw [if_neg hb0] at h
        by_cases hb1 : bestZ l0_0 a0_1 l0_3 l0_4 1 = 1
        · rw [if_pos hb1] at h
          rw [hb1] at hb
          simp only [Option.some.injEq, Prod.mk.injEq] at h
          obtain ⟨rfl, rfl, rfl, rfl, rfl, rfl, rfl⟩ := h
          exact ⟨rfl, rfl, rfl, load_c11 _ _ l0_0 a0_1 a0_2 _ _ l0_3 _ _ l0_4 w hck hb g0 g3 g4 hc0 hc3 hc4⟩
        rw [if_neg hb1] at h
        rw [show bestZ l0_0 a0_1 l0_3 l0_4 1 = 2 by rcases best_cases l0_0 a0_1 l0_3 l0_4 1 with e | e | e; exact absurd e hb0; exact absurd e hb1; exact e] at hb
        simp only [Option.some.injEq, Prod.mk.injEq] at h
        obtain ⟨rfl, rfl, rfl, rfl, rfl, rfl, rfl⟩ := h
        exact ⟨rfl, rfl, rfl, load_c12 _ _ l0_0 a0_1 a0_2 _ _ l0_3 _ _ l0_4 w hck hb g0 g3 g4 hc0 hc3 hc4⟩
      rw [if_neg h2101252] at h
      simp only [Option.some.injEq, Prod.mk.injEq] at h
      obtain ⟨rfl, rfl, rfl, rfl, rfl, rfl, rfl⟩ := h
      exact ⟨rfl, rfl, rfl, load_none _ _ l0_0 a0_1 a0_2 _ _ l0_3 _ _ l0_4 a1 w hck (beq_eq_false_iff_ne.mpr h4) (beq_eq_false_iff_ne.mpr h8) (beq_eq_false_iff_ne.mpr h4096) ((if_neg h8192).trans (if_neg h8320)) ((if_neg h2097152).trans (if_neg h2101248)) ((if_neg h2097156).trans (if_neg h2101252)) g0 g3 g4 hc0 hc3 hc4⟩
    · rw [if_neg hg] at h
      simp only [Option.some.injEq, Prod.mk.injEq] at h
      obtain ⟨rfl, rfl, rfl, rfl, rfl, rfl, rfl⟩ := h
      refine ⟨rfl, rfl, rfl, ?_⟩
      cases hck : checkZ l0_0 a0_1 a0_2 l0_3 l0_4
      · exact load_nock _ _ l0_0 a0_1 a0_2 _ _ l0_3 _ _ l0_4 a1 a2 w hck g0 g3 g4
      · exact load_nosz _ _ l0_0 a0_1 a0_2 _ _ l0_3 _ _ l0_4 a1 a2 w hck (bne_iff_ne.mpr (fun e => hg ⟨hck, e⟩)) g0 g3 g4
  obtain ⟨rfl, rfl, rfl, key⟩ := key
  refine key.mono ?_
  rintro e w' ⟨he, hB⟩
  exact ⟨_, _, _, he, Kd.V_mk hc0 (Kd.F_mono (Kd.F_below hF0 hB) (fun j h => .inl (.inl h))), Kd.V_mk hc3 (Kd.F_mono (Kd.F_below hF3 hB) (fun j h => .inl (.inr (.inl h)))), Kd.V_mk hc4 (Kd.F_mono (Kd.F_below hF4 hB) (fun j h => .inl (.inr (.inr h)))), hB⟩
end Go.Proofs.Ytmlpnjoejdpblaa.Q
end
section
/- plic.Store, what its walks share. -/
namespace Go.Proofs.Ytmlpnjoejdpblaa.Q
open Go.RowKit Go.Proofs.YtmlpnjoejdpblaaW.PrintWords Go.Proofs.YtmlpnjoejdpblaaW.PrintLast Go.Proofs.YtmlpnjoejdpblaaW.PrintMore Go.Proofs.Ytmlpnjoejdpblaa.L
attribute [local go_sem] Instr.field part asAgg lt_step max2_int min2_int max_two min_two max_three min_three max_four min_four lt_0_1 lt_0_2 lt_1_2 lt_0_3 lt_1_3 lt_2_3 lt_0_4 lt_1_4 lt_2_4 lt_3_4 lt_0_5 lt_1_5 lt_2_5 lt_3_5 lt_4_5 lt_0_6 lt_1_6 lt_2_6 lt_3_6 lt_4_6 lt_5_6 lt_0_7 lt_1_7 lt_2_7 lt_3_7 lt_4_7 lt_5_7 lt_6_7 lt_0_8 lt_1_8 lt_2_8 lt_3_8 lt_4_8 lt_5_8 lt_6_8 lt_7_8
set_option linter.unusedVariables false
set_option linter.unusedSimpArgs false
theorem with_is (l : List Int) (i : Nat) (n : Int) (hi : i < l.length) (hl : l.length < 100) : plic_with.f l (i : Int) n = some (l.set i n) := by
  unfold plic_with.f slices_Clone_int_int.f
  rw [if_pos (by omega), Option.bind_some, if_pos (by omega), if_pos (by omega), Int.toNat_natCast]
end Go.Proofs.Ytmlpnjoejdpblaa.Q
end
section
/- plic.Store, its walks rows. -/
namespace Go.Proofs.Ytmlpnjoejdpblaa.Q
open Go.RowKit Go.Proofs.YtmlpnjoejdpblaaW.PrintWords Go.Proofs.YtmlpnjoejdpblaaW.PrintLast Go.Proofs.YtmlpnjoejdpblaaW.PrintMore Go.Proofs.Ytmlpnjoejdpblaa.L
attribute [local go_sem] Instr.field part asAgg lt_step max2_int min2_int max_two min_two max_three min_three max_four min_four lt_0_1 lt_0_2 lt_1_2 lt_0_3 lt_1_3 lt_2_3 lt_0_4 lt_1_4 lt_2_4 lt_3_4 lt_0_5 lt_1_5 lt_2_5 lt_3_5 lt_4_5 lt_0_6 lt_1_6 lt_2_6 lt_3_6 lt_4_6 lt_5_6 lt_0_7 lt_1_7 lt_2_7 lt_3_7 lt_4_7 lt_5_7 lt_6_7 lt_0_8 lt_1_8 lt_2_8 lt_3_8 lt_4_8 lt_5_8 lt_6_8 lt_7_8
set_option linter.unusedVariables false
set_option linter.unusedSimpArgs false
attribute [local go_sem ↓] Go.wp_at_zero Go.wp_at_succ
set_option maxHeartbeats 1600000 in
set_option maxRecDepth 100000 in
theorem store_p1 (A0 : Option Addr) (c0 : Nat) (l0 : List Int) (p c : Int) (A3 : Option Addr) (c3 : Nat) (l3 : List Int) (A4 : Option Addr) (c4 : Nat) (l4 : List Int) (x Y : Int) (w : World) (hY : IntKind.u32.wrap x = Y) (hY0 : 0 ≤ Y) (hY1 : Y < 4294967296) (hck : checkZ l0 p c l3 l4 = true) (hr0 : Kd.C (Kd.int .i64) w A0 l0.length l0) (hr3 : Kd.C (Kd.int .i64) w A3 l3.length l3) (hr4 : Kd.C (Kd.int .i64) w A4 l4.length l4) (hc0 : l0.length ≤ c0) (hc3 : l3.length ≤ c3) (hc4 : l4.length ≤ c4) :
    Calls Try.prog 12 #[.agg #[.slice A0 l0.length c0, .int .i64 p, .int .i64 c, .slice A3 l3.length c3, .slice A4 l4.length c4], .int .u64 4, .int .i64 4, .int .u64 x] w fun e w' => ∃ A' c', e = .returned (.tuple #[.agg #[.slice A' (l0.set 1 (Go.bits .and .i64 Y 7)).length c', .int .i64 p, .int .i64 c, .slice A3 l3.length c3, .slice A4 l4.length c4], .bool true]) ∧ (l0.set 1 (Go.bits .and .i64 Y 7)).length ≤ c' ∧ Kd.F (Kd.int .i64) w' (fun j => w.heap.size ≤ j) A' (l0.set 1 (Go.bits .and .i64 Y 7)).length (l0.set 1 (Go.bits .and .i64 Y 7)) ∧ Below w.heap.size w w' := by
  have HB := Aside0.mk (Below.refl w.heap.size w)
  have hu := Try.underlying24
  obtain ⟨hl0, hl3, hl4⟩ := check_lens hck
  have r0 := Aside0.mk (F_in hr0)
  have r3 := Aside0.mk (F_in hr3)
  have r4 := Aside0.mk (F_in hr4)
  have HK := Aside0.mk hck
  have HC0 := Aside0.mk hc0
  have HC3 := Aside0.mk hc3
  have HC4 := Aside0.mk hc4
  have HWI := Aside0.mk (with_is l0 1 (Go.bits .and .i64 Y 7) (by omega) (by omega))
  clear hr0 hr3 hr4 hck hc0 hc3 hc4 hl0 hl3 hl4
  go_enter Try.func12, Try.ntmps12
  go_wp2_with fail
  (go_at_call 7; (with_reducible refine (check_c true _ _ l0 p c _ _ l3 _ _ l4 _ HK.out (Kd.F_now (fG r0)) (Kd.F_now (fG r3)) (Kd.F_now (fG r4))).mono ?_); rintro e_ w1 ⟨rfl, hb_⟩; have HB_ : Aside0 (Below w.heap.size w w1) := Aside0.mk (below_step (bG HB) hb_); have hzw1 := hb_.size; (try simp at hzw1); have oc_ := Aside0.mk (box_below hb_ (by repeat (with_reducible first | exact nb_1 w _ | apply ext_drew | apply ext_drewN | apply ext_alloc | refine blk_far ?_ (by show _ ≠ _; dsimp only; omega) _))); have oz_ := Aside0.mk (box_below hb_ (by repeat (with_reducible first | exact nb_2 w _ _ | apply ext_drew | apply ext_drewN | apply ext_alloc | refine blk_far ?_ (by show _ ≠ _; dsimp only; omega) _))); have r0_ := Aside0.mk (Kd.F_below (fG r0) hb_); clear r0; have r0 := r0_; clear r0_; have r3_ := Aside0.mk (Kd.F_below (fG r3) hb_); clear r3; have r3 := r3_; clear r3_; have r4_ := Aside0.mk (Kd.F_below (fG r4) hb_); clear r4; have r4 := r4_; clear r4_; (try clear oc occ ocf ocl); have oc := oc_; clear oc_; obtain ⟨occ, ocf, ocl⟩ := cells_of oc.out; (try clear oz ozc ozf ozl); have oz := oz_; clear oz_; obtain ⟨ozc, ozf, ozl⟩ := cells_of oz.out; clear HB hb_; have HB := HB_; clear HB_)
  go_wp2_with fail
  (go_at_call 25; (with_reducible refine (enables_runs _).mono ?_); rintro e_ w2 ⟨rfl, hb_⟩; have HB_ : Aside0 (Below w.heap.size w w2) := Aside0.mk (below_step (bG HB) hb_); have hzw2 := hb_.size; (try simp at hzw2); have oc_ := Aside0.mk (box_below hb_ (eG oc)); have oz_ := Aside0.mk (box_below hb_ (eG oz)); have r0_ := Aside0.mk (Kd.F_below (fG r0) hb_); clear r0; have r0 := r0_; clear r0_; have r3_ := Aside0.mk (Kd.F_below (fG r3) hb_); clear r3; have r3 := r3_; clear r3_; have r4_ := Aside0.mk (Kd.F_below (fG r4) hb_); clear r4; have r4 := r4_; clear r4_; (try clear oc occ ocf ocl); have oc := oc_; clear oc_; obtain ⟨occ, ocf, ocl⟩ := cells_of oc.out; (try clear oz ozc ozf ozl); have oz := oz_; clear oz_; obtain ⟨ozc, ozf, ozl⟩ := cells_of oz.out; clear HB hb_; have HB := HB_; clear HB_)
  go_wp2_with fail
  (go_at_call 26; (with_reducible refine (at_c 8192 8320 4 (-1) _ rfl).mono ?_); rintro e_ w3 ⟨rfl, hb_⟩; have HB_ : Aside0 (Below w.heap.size w w3) := Aside0.mk (below_step (bG HB) hb_); have hzw3 := hb_.size; (try simp at hzw3); have oc_ := Aside0.mk (box_below hb_ (eG oc)); have oz_ := Aside0.mk (box_below hb_ (eG oz)); have r0_ := Aside0.mk (Kd.F_below (fG r0) hb_); clear r0; have r0 := r0_; clear r0_; have r3_ := Aside0.mk (Kd.F_below (fG r3) hb_); clear r3; have r3 := r3_; clear r3_; have r4_ := Aside0.mk (Kd.F_below (fG r4) hb_); clear r4; have r4 := r4_; clear r4_; (try clear oc occ ocf ocl); have oc := oc_; clear oc_; obtain ⟨occ, ocf, ocl⟩ := cells_of oc.out; (try clear oz ozc ozf ozl); have oz := oz_; clear oz_; obtain ⟨ozc, ozf, ozl⟩ := cells_of oz.out; clear HB hb_; have HB := HB_; clear HB_)
  go_wp2_with fail
  (go_at_call 27; (with_reducible refine (thresholds_runs _).mono ?_); rintro e_ w4 ⟨rfl, hb_⟩; have HB_ : Aside0 (Below w.heap.size w w4) := Aside0.mk (below_step (bG HB) hb_); have hzw4 := hb_.size; (try simp at hzw4); have oc_ := Aside0.mk (box_below hb_ (eG oc)); have oz_ := Aside0.mk (box_below hb_ (eG oz)); have r0_ := Aside0.mk (Kd.F_below (fG r0) hb_); clear r0; have r0 := r0_; clear r0_; have r3_ := Aside0.mk (Kd.F_below (fG r3) hb_); clear r3; have r3 := r3_; clear r3_; have r4_ := Aside0.mk (Kd.F_below (fG r4) hb_); clear r4; have r4 := r4_; clear r4_; (try clear oc occ ocf ocl); have oc := oc_; clear oc_; obtain ⟨occ, ocf, ocl⟩ := cells_of oc.out; (try clear oz ozc ozf ozl); have oz := oz_; clear oz_; obtain ⟨ozc, ozf, ozl⟩ := cells_of oz.out; clear HB hb_; have HB := HB_; clear HB_)
  go_wp2_with fail
  (go_at_call 26; (with_reducible refine (at_c 2097152 2101248 4 (-1) _ rfl).mono ?_); rintro e_ w5 ⟨rfl, hb_⟩; have HB_ : Aside0 (Below w.heap.size w w5) := Aside0.mk (below_step (bG HB) hb_); have hzw5 := hb_.size; (try simp at hzw5); have oc_ := Aside0.mk (box_below hb_ (eG oc)); have oz_ := Aside0.mk (box_below hb_ (eG oz)); have r0_ := Aside0.mk (Kd.F_below (fG r0) hb_); clear r0; have r0 := r0_; clear r0_; have r3_ := Aside0.mk (Kd.F_below (fG r3) hb_); clear r3; have r3 := r3_; clear r3_; have r4_ := Aside0.mk (Kd.F_below (fG r4) hb_); clear r4; have r4 := r4_; clear r4_; (try clear oc occ ocf ocl); have oc := oc_; clear oc_; obtain ⟨occ, ocf, ocl⟩ := cells_of oc.out; (try clear oz ozc ozf ozl); have oz := oz_; clear oz_; obtain ⟨ozc, ozf, ozl⟩ := cells_of oz.out; clear HB hb_; have HB := HB_; clear HB_)
  go_wp2_with fail
  (go_at_call 28; (with_reducible refine (claims_runs _).mono ?_); rintro e_ w6 ⟨rfl, hb_⟩; have HB_ : Aside0 (Below w.heap.size w w6) := Aside0.mk (below_step (bG HB) hb_); have hzw6 := hb_.size; (try simp at hzw6); have oc_ := Aside0.mk (box_below hb_ (eG oc)); have oz_ := Aside0.mk (box_below hb_ (eG oz)); have r0_ := Aside0.mk (Kd.F_below (fG r0) hb_); clear r0; have r0 := r0_; clear r0_; have r3_ := Aside0.mk (Kd.F_below (fG r3) hb_); clear r3; have r3 := r3_; clear r3_; have r4_ := Aside0.mk (Kd.F_below (fG r4) hb_); clear r4; have r4 := r4_; clear r4_; (try clear oc occ ocf ocl); have oc := oc_; clear oc_; obtain ⟨occ, ocf, ocl⟩ := cells_of oc.out; (try clear oz ozc ozf ozl); have oz := oz_; clear oz_; obtain ⟨ozc, ozf, ozl⟩ := cells_of oz.out; clear HB hb_; have HB := HB_; clear HB_)
  go_wp2_with fail
  (go_at_call 26; (with_reducible refine (at_c 2097156 2101252 4 (-1) _ rfl).mono ?_); rintro e_ w7 ⟨rfl, hb_⟩; have HB_ : Aside0 (Below w.heap.size w w7) := Aside0.mk (below_step (bG HB) hb_); have hzw7 := hb_.size; (try simp at hzw7); have oc_ := Aside0.mk (box_below hb_ (eG oc)); have oz_ := Aside0.mk (box_below hb_ (eG oz)); have r0_ := Aside0.mk (Kd.F_below (fG r0) hb_); clear r0; have r0 := r0_; clear r0_; have r3_ := Aside0.mk (Kd.F_below (fG r3) hb_); clear r3; have r3 := r3_; clear r3_; have r4_ := Aside0.mk (Kd.F_below (fG r4) hb_); clear r4; have r4 := r4_; clear r4_; (try clear oc occ ocf ocl); have oc := oc_; clear oc_; obtain ⟨occ, ocf, ocl⟩ := cells_of oc.out; (try clear oz ozc ozf ozl); have oz := oz_; clear oz_; obtain ⟨ozc, ozf, ozl⟩ := cells_of oz.out; clear HB hb_; have HB := HB_; clear HB_)
  go_wp2_with fail
  (go_at_call 29; (with_reducible refine (plic_with.calls _ _ l0 1 (Go.bits .and .i64 Y 7) _ _ (Kd.F_now (fG r0)) HC0.out HWI.out).mono ?_); rintro e_ w8 ⟨v_q, rfl, hr_q, hb_⟩; have HB_ : Aside0 (Below w.heap.size w w8) := Aside0.mk (below_step (bG HB) hb_); have hzw8 := hb_.size; (try simp at hzw8); have oc_ := Aside0.mk (box_below hb_ (eG oc)); have oz_ := Aside0.mk (box_below hb_ (eG oz)); have r0_ := Aside0.mk (Kd.F_below (fG r0) hb_); clear r0; have r0 := r0_; clear r0_; have r3_ := Aside0.mk (Kd.F_below (fG r3) hb_); clear r3; have r3 := r3_; clear r3_; have r4_ := Aside0.mk (Kd.F_below (fG r4) hb_); clear r4; have r4 := r4_; clear r4_; (try clear oc occ ocf ocl); have oc := oc_; clear oc_; obtain ⟨occ, ocf, ocl⟩ := cells_of oc.out; (try clear oz ozc ozf ozl); have oz := oz_; clear oz_; obtain ⟨ozc, ozf, ozl⟩ := cells_of oz.out; clear HB hb_; have HB := HB_; clear HB_; obtain ⟨A_q, c_q, ev_, hc_q, hf_q⟩ := R_Fl hr_q; subst ev_; have qc := Aside0.mk hc_q; have q := Aside0.mk (Kd.F_bound hf_q); clear hc_q hf_q hr_q; skip)
  go_wp2
  (first | go_region | skip)
  all_goals go_wp2
  all_goals refine bodyPost_ret (v := .tuple #[.agg #[.slice A_q (l0.set 1 (Go.bits .and .i64 Y 7)).length c_q, .int .i64 p, .int .i64 c, .slice A3 l3.length c3, .slice A4 l4.length c4], .bool true]) (by simp [results, Try.results12, go_sem, occ, ozc] <;> first | assumption | omega | (symm; assumption)) rfl ?_
  all_goals exact ⟨A_q, c_q, rfl, qc.out, (by refine F_res (ok := ?_) ?_ ?_; rotate_left; (repeat (with_reducible first | exact q.out | apply Kd.F_drew | apply Kd.F_drewN | apply Kd.F_alloc | refine Kd.F_far ?_ ?_ _)); all_goals (intro j_ hj_; (try dsimp only at hj_); (try dsimp only); (try simp only [sz_alloc, sz_drew, sz_drewN, sz_set] at hj_); first | omega | exact .inl hj_.1 | exact .inl hj_ | exact .inr (by omega) | (rcases hj_ with hj_ | hj_; exact .inl hj_.1; exact .inr (by omega)) | (rcases hj_ with hj_ | hj_; exact .inl hj_; exact .inr (by omega)) | (rcases hj_.1 with hk_ | hk_; (first | exact .inl hk_.1 | exact .inl hk_); exact .inr (by omega)))), (bG HB)⟩
set_option maxHeartbeats 1600000 in
set_option maxRecDepth 100000 in
theorem store_p2 (A0 : Option Addr) (c0 : Nat) (l0 : List Int) (p c : Int) (A3 : Option Addr) (c3 : Nat) (l3 : List Int) (A4 : Option Addr) (c4 : Nat) (l4 : List Int) (x Y : Int) (w : World) (hY : IntKind.u32.wrap x = Y) (hY0 : 0 ≤ Y) (hY1 : Y < 4294967296) (hck : checkZ l0 p c l3 l4 = true) (hr0 : Kd.C (Kd.int .i64) w A0 l0.length l0) (hr3 : Kd.C (Kd.int .i64) w A3 l3.length l3) (hr4 : Kd.C (Kd.int .i64) w A4 l4.length l4) (hc0 : l0.length ≤ c0) (hc3 : l3.length ≤ c3) (hc4 : l4.length ≤ c4) :
    Calls Try.prog 12 #[.agg #[.slice A0 l0.length c0, .int .i64 p, .int .i64 c, .slice A3 l3.length c3, .slice A4 l4.length c4], .int .u64 8, .int .i64 4, .int .u64 x] w fun e w' => ∃ A' c', e = .returned (.tuple #[.agg #[.slice A' (l0.set 2 (Go.bits .and .i64 Y 7)).length c', .int .i64 p, .int .i64 c, .slice A3 l3.length c3, .slice A4 l4.length c4], .bool true]) ∧ (l0.set 2 (Go.bits .and .i64 Y 7)).length ≤ c' ∧ Kd.F (Kd.int .i64) w' (fun j => w.heap.size ≤ j) A' (l0.set 2 (Go.bits .and .i64 Y 7)).length (l0.set 2 (Go.bits .and .i64 Y 7)) ∧ Below w.heap.size w w' := by
  have HB := Aside0.mk (Below.refl w.heap.size w)
  have hu := Try.underlying24
  obtain ⟨hl0, hl3, hl4⟩ := check_lens hck
  have r0 := Aside0.mk (F_in hr0)
  have r3 := Aside0.mk (F_in hr3)
  have r4 := Aside0.mk (F_in hr4)
  have HK := Aside0.mk hck
  have HC0 := Aside0.mk hc0
  have HC3 := Aside0.mk hc3
  have HC4 := Aside0.mk hc4
  have HWI := Aside0.mk (with_is l0 2 (Go.bits .and .i64 Y 7) (by omega) (by omega))
  clear hr0 hr3 hr4 hck hc0 hc3 hc4 hl0 hl3 hl4
  go_enter Try.func12, Try.ntmps12
  go_wp2_with fail
  (go_at_call 7; (with_reducible refine (check_c true _ _ l0 p c _ _ l3 _ _ l4 _ HK.out (Kd.F_now (fG r0)) (Kd.F_now (fG r3)) (Kd.F_now (fG r4))).mono ?_); rintro e_ w1 ⟨rfl, hb_⟩; have HB_ : Aside0 (Below w.heap.size w w1) := Aside0.mk (below_step (bG HB) hb_); have hzw1 := hb_.size; (try simp at hzw1); have oc_ := Aside0.mk (box_below hb_ (by repeat (with_reducible first | exact nb_1 w _ | apply ext_drew | apply ext_drewN | apply ext_alloc | refine blk_far ?_ (by show _ ≠ _; dsimp only; omega) _))); have oz_ := Aside0.mk (box_below hb_ (by repeat (with_reducible first | exact nb_2 w _ _ | apply ext_drew | apply ext_drewN | apply ext_alloc | refine blk_far ?_ (by show _ ≠ _; dsimp only; omega) _))); have r0_ := Aside0.mk (Kd.F_below (fG r0) hb_); clear r0; have r0 := r0_; clear r0_; have r3_ := Aside0.mk (Kd.F_below (fG r3) hb_); clear r3; have r3 := r3_; clear r3_; have r4_ := Aside0.mk (Kd.F_below (fG r4) hb_); clear r4; have r4 := r4_; clear r4_; (try clear oc occ ocf ocl); have oc := oc_; clear oc_; obtain ⟨occ, ocf, ocl⟩ := cells_of oc.out; (try clear oz ozc ozf ozl); have oz := oz_; clear oz_; obtain ⟨ozc, ozf, ozl⟩ := cells_of oz.out; clear HB hb_; have HB := HB_; clear HB_)
  go_wp2_with fail
  (go_at_call 25; (with_reducible refine (enables_runs _).mono ?_); rintro e_ w2 ⟨rfl, hb_⟩; have HB_ : Aside0 (Below w.heap.size w w2) := Aside0.mk (below_step (bG HB) hb_); have hzw2 := hb_.size; (try simp at hzw2); have oc_ := Aside0.mk (box_below hb_ (eG oc)); have oz_ := Aside0.mk (box_below hb_ (eG oz)); have r0_ := Aside0.mk (Kd.F_below (fG r0) hb_); clear r0; have r0 := r0_; clear r0_; have r3_ := Aside0.mk (Kd.F_below (fG r3) hb_); clear r3; have r3 := r3_; clear r3_; have r4_ := Aside0.mk (Kd.F_below (fG r4) hb_); clear r4; have r4 := r4_; clear r4_; (try clear oc occ ocf ocl); have oc := oc_; clear oc_; obtain ⟨occ, ocf, ocl⟩ := cells_of oc.out; (try clear oz ozc ozf ozl); have oz := oz_; clear oz_; obtain ⟨ozc, ozf, ozl⟩ := cells_of oz.out; clear HB hb_; have HB := HB_; clear HB_)
  go_wp2_with fail
  (go_at_call 26; (with_reducible refine (at_c 8192 8320 8 (-1) _ rfl).mono ?_); rintro e_ w3 ⟨rfl, hb_⟩; have HB_ : Aside0 (Below w.heap.size w w3) := Aside0.mk (below_step (bG HB) hb_); have hzw3 := hb_.size; (try simp at hzw3); have oc_ := Aside0.mk (box_below hb_ (eG oc)); have oz_ := Aside0.mk (box_below hb_ (eG oz)); have r0_ := Aside0.mk (Kd.F_below (fG r0) hb_); clear r0; have r0 := r0_; clear r0_; have r3_ := Aside0.mk (Kd.F_below (fG r3) hb_); clear r3; have r3 := r3_; clear r3_; have r4_ := Aside0.mk (Kd.F_below (fG r4) hb_); clear r4; have r4 := r4_; clear r4_; (try clear oc occ ocf ocl); have oc := oc_; clear oc_; obtain ⟨occ, ocf, ocl⟩ := cells_of oc.out; (try clear oz ozc ozf ozl); have oz := oz_; clear oz_; obtain ⟨ozc, ozf, ozl⟩ := cells_of oz.out; clear HB hb_; have HB := HB_; clear HB_)
  go_wp2_with fail
  (go_at_call 27; (with_reducible refine (thresholds_runs _).mono ?_); rintro e_ w4 ⟨rfl, hb_⟩; have HB_ : Aside0 (Below w.heap.size w w4) := Aside0.mk (below_step (bG HB) hb_); have hzw4 := hb_.size; (try simp at hzw4); have oc_ := Aside0.mk (box_below hb_ (eG oc)); have oz_ := Aside0.mk (box_below hb_ (eG oz)); have r0_ := Aside0.mk (Kd.F_below (fG r0) hb_); clear r0; have r0 := r0_; clear r0_; have r3_ := Aside0.mk (Kd.F_below (fG r3) hb_); clear r3; have r3 := r3_; clear r3_; have r4_ := Aside0.mk (Kd.F_below (fG r4) hb_); clear r4; have r4 := r4_; clear r4_; (try clear oc occ ocf ocl); have oc := oc_; clear oc_; obtain ⟨occ, ocf, ocl⟩ := cells_of oc.out; (try clear oz ozc ozf ozl); have oz := oz_; clear oz_; obtain ⟨ozc, ozf, ozl⟩ := cells_of oz.out; clear HB hb_; have HB := HB_; clear HB_)
  go_wp2_with fail
  (go_at_call 26; (with_reducible refine (at_c 2097152 2101248 8 (-1) _ rfl).mono ?_); rintro e_ w5 ⟨rfl, hb_⟩; have HB_ : Aside0 (Below w.heap.size w w5) := Aside0.mk (below_step (bG HB) hb_); have hzw5 := hb_.size; (try simp at hzw5); have oc_ := Aside0.mk (box_below hb_ (eG oc)); have oz_ := Aside0.mk (box_below hb_ (eG oz)); have r0_ := Aside0.mk (Kd.F_below (fG r0) hb_); clear r0; have r0 := r0_; clear r0_; have r3_ := Aside0.mk (Kd.F_below (fG r3) hb_); clear r3; have r3 := r3_; clear r3_; have r4_ := Aside0.mk (Kd.F_below (fG r4) hb_); clear r4; have r4 := r4_; clear r4_; (try clear oc occ ocf ocl); have oc := oc_; clear oc_; obtain ⟨occ, ocf, ocl⟩ := cells_of oc.out; (try clear oz ozc ozf ozl); have oz := oz_; clear oz_; obtain ⟨ozc, ozf, ozl⟩ := cells_of oz.out; clear HB hb_; have HB := HB_; clear HB_)
  go_wp2_with fail
  (go_at_call 28; (with_reducible refine (claims_runs _).mono ?_); rintro e_ w6 ⟨rfl, hb_⟩; have HB_ : Aside0 (Below w.heap.size w w6) := Aside0.mk (below_step (bG HB) hb_); have hzw6 := hb_.size; (try simp at hzw6); have oc_ := Aside0.mk (box_below hb_ (eG oc)); have oz_ := Aside0.mk (box_below hb_ (eG oz)); have r0_ := Aside0.mk (Kd.F_below (fG r0) hb_); clear r0; have r0 := r0_; clear r0_; have r3_ := Aside0.mk (Kd.F_below (fG r3) hb_); clear r3; have r3 := r3_; clear r3_; have r4_ := Aside0.mk (Kd.F_below (fG r4) hb_); clear r4; have r4 := r4_; clear r4_; (try clear oc occ ocf ocl); have oc := oc_; clear oc_; obtain ⟨occ, ocf, ocl⟩ := cells_of oc.out; (try clear oz ozc ozf ozl); have oz := oz_; clear oz_; obtain ⟨ozc, ozf, ozl⟩ := cells_of oz.out; clear HB hb_; have HB := HB_; clear HB_)
  go_wp2_with fail
  (go_at_call 26; (with_reducible refine (at_c 2097156 2101252 8 (-1) _ rfl).mono ?_); rintro e_ w7 ⟨rfl, hb_⟩; have HB_ : Aside0 (Below w.heap.size w w7) := Aside0.mk (below_step (bG HB) hb_); have hzw7 := hb_.size; (try simp at hzw7); have oc_ := Aside0.mk (box_below hb_ (eG oc)); have oz_ := Aside0.mk (box_below hb_ (eG oz)); have r0_ := Aside0.mk (Kd.F_below (fG r0) hb_); clear r0; have r0 := r0_; clear r0_; have r3_ := Aside0.mk (Kd.F_below (fG r3) hb_); clear r3; have r3 := r3_; clear r3_; have r4_ := Aside0.mk (Kd.F_below (fG r4) hb_); clear r4; have r4 := r4_; clear r4_; (try clear oc occ ocf ocl); have oc := oc_; clear oc_; obtain ⟨occ, ocf, ocl⟩ := cells_of oc.out; (try clear oz ozc ozf ozl); have oz := oz_; clear oz_; obtain ⟨ozc, ozf, ozl⟩ := cells_of oz.out; clear HB hb_; have HB := HB_; clear HB_)
  go_wp2_with fail
  (go_at_call 29; (with_reducible refine (plic_with.calls _ _ l0 2 (Go.bits .and .i64 Y 7) _ _ (Kd.F_now (fG r0)) HC0.out HWI.out).mono ?_); rintro e_ w8 ⟨v_q, rfl, hr_q, hb_⟩; have HB_ : Aside0 (Below w.heap.size w w8) := Aside0.mk (below_step (bG HB) hb_); have hzw8 := hb_.size; (try simp at hzw8); have oc_ := Aside0.mk (box_below hb_ (eG oc)); have oz_ := Aside0.mk (box_below hb_ (eG oz)); have r0_ := Aside0.mk (Kd.F_below (fG r0) hb_); clear r0; have r0 := r0_; clear r0_; have r3_ := Aside0.mk (Kd.F_below (fG r3) hb_); clear r3; have r3 := r3_; clear r3_; have r4_ := Aside0.mk (Kd.F_below (fG r4) hb_); clear r4; have r4 := r4_; clear r4_; (try clear oc occ ocf ocl); have oc := oc_; clear oc_; obtain ⟨occ, ocf, ocl⟩ := cells_of oc.out; (try clear oz ozc ozf ozl); have oz := oz_; clear oz_; obtain ⟨ozc, ozf, ozl⟩ := cells_of oz.out; clear HB hb_; have HB := HB_; clear HB_; obtain ⟨A_q, c_q, ev_, hc_q, hf_q⟩ := R_Fl hr_q; subst ev_; have qc := Aside0.mk hc_q; have q := Aside0.mk (Kd.F_bound hf_q); clear hc_q hf_q hr_q; skip)
  go_wp2
  (first | go_region | skip)
  all_goals go_wp2
  all_goals refine bodyPost_ret (v := .tuple #[.agg #[.slice A_q (l0.set 2 (Go.bits .and .i64 Y 7)).length c_q, .int .i64 p, .int .i64 c, .slice A3 l3.length c3, .slice A4 l4.length c4], .bool true]) (by simp [results, Try.results12, go_sem, occ, ozc] <;> first | assumption | omega | (symm; assumption)) rfl ?_
  all_goals exact ⟨A_q, c_q, rfl, qc.out, (by refine F_res (ok := ?_) ?_ ?_; rotate_left; (repeat (with_reducible first | exact q.out | apply Kd.F_drew | apply Kd.F_drewN | apply Kd.F_alloc | refine Kd.F_far ?_ ?_ _)); all_goals (intro j_ hj_; (try dsimp only at hj_); (try dsimp only); (try simp only [sz_alloc, sz_drew, sz_drewN, sz_set] at hj_); first | omega | exact .inl hj_.1 | exact .inl hj_ | exact .inr (by omega) | (rcases hj_ with hj_ | hj_; exact .inl hj_.1; exact .inr (by omega)) | (rcases hj_ with hj_ | hj_; exact .inl hj_; exact .inr (by omega)) | (rcases hj_.1 with hk_ | hk_; (first | exact .inl hk_.1 | exact .inl hk_); exact .inr (by omega)))), (bG HB)⟩
set_option maxHeartbeats 1600000 in
set_option maxRecDepth 100000 in
theorem store_e0 (A0 : Option Addr) (c0 : Nat) (l0 : List Int) (p c : Int) (A3 : Option Addr) (c3 : Nat) (l3 : List Int) (A4 : Option Addr) (c4 : Nat) (l4 : List Int) (x Y : Int) (w : World) (hY : IntKind.u32.wrap x = Y) (hY0 : 0 ≤ Y) (hY1 : Y < 4294967296) (hck : checkZ l0 p c l3 l4 = true) (hr0 : Kd.C (Kd.int .i64) w A0 l0.length l0) (hr3 : Kd.C (Kd.int .i64) w A3 l3.length l3) (hr4 : Kd.C (Kd.int .i64) w A4 l4.length l4) (hc0 : l0.length ≤ c0) (hc3 : l3.length ≤ c3) (hc4 : l4.length ≤ c4) :
    Calls Try.prog 12 #[.agg #[.slice A0 l0.length c0, .int .i64 p, .int .i64 c, .slice A3 l3.length c3, .slice A4 l4.length c4], .int .u64 8192, .int .i64 4, .int .u64 x] w fun e w' => ∃ A' c', e = .returned (.tuple #[.agg #[.slice A0 l0.length c0, .int .i64 p, .int .i64 c, .slice A' (l3.set 0 (Go.bits .and .i64 Y 6)).length c', .slice A4 l4.length c4], .bool true]) ∧ (l3.set 0 (Go.bits .and .i64 Y 6)).length ≤ c' ∧ Kd.F (Kd.int .i64) w' (fun j => w.heap.size ≤ j) A' (l3.set 0 (Go.bits .and .i64 Y 6)).length (l3.set 0 (Go.bits .and .i64 Y 6)) ∧ Below w.heap.size w w' := by
  have HB := Aside0.mk (Below.refl w.heap.size w)
  have hu := Try.underlying24
  obtain ⟨hl0, hl3, hl4⟩ := check_lens hck
  have r0 := Aside0.mk (F_in hr0)
  have r3 := Aside0.mk (F_in hr3)
  have r4 := Aside0.mk (F_in hr4)
  have HK := Aside0.mk hck
  have HC0 := Aside0.mk hc0
  have HC3 := Aside0.mk hc3
  have HC4 := Aside0.mk hc4
  have HWI := Aside0.mk (with_is l3 0 (Go.bits .and .i64 Y 6) (by omega) (by omega))
  clear hr0 hr3 hr4 hck hc0 hc3 hc4 hl0 hl3 hl4
  go_enter Try.func12, Try.ntmps12
  go_wp2_with fail
  (go_at_call 7; (with_reducible refine (check_c true _ _ l0 p c _ _ l3 _ _ l4 _ HK.out (Kd.F_now (fG r0)) (Kd.F_now (fG r3)) (Kd.F_now (fG r4))).mono ?_); rintro e_ w1 ⟨rfl, hb_⟩; have HB_ : Aside0 (Below w.heap.size w w1) := Aside0.mk (below_step (bG HB) hb_); have hzw1 := hb_.size; (try simp at hzw1); have oc_ := Aside0.mk (box_below hb_ (by repeat (with_reducible first | exact nb_1 w _ | apply ext_drew | apply ext_drewN | apply ext_alloc | refine blk_far ?_ (by show _ ≠ _; dsimp only; omega) _))); have oz_ := Aside0.mk (box_below hb_ (by repeat (with_reducible first | exact nb_2 w _ _ | apply ext_drew | apply ext_drewN | apply ext_alloc | refine blk_far ?_ (by show _ ≠ _; dsimp only; omega) _))); have r0_ := Aside0.mk (Kd.F_below (fG r0) hb_); clear r0; have r0 := r0_; clear r0_; have r3_ := Aside0.mk (Kd.F_below (fG r3) hb_); clear r3; have r3 := r3_; clear r3_; have r4_ := Aside0.mk (Kd.F_below (fG r4) hb_); clear r4; have r4 := r4_; clear r4_; (try clear oc occ ocf ocl); have oc := oc_; clear oc_; obtain ⟨occ, ocf, ocl⟩ := cells_of oc.out; (try clear oz ozc ozf ozl); have oz := oz_; clear oz_; obtain ⟨ozc, ozf, ozl⟩ := cells_of oz.out; clear HB hb_; have HB := HB_; clear HB_)
  go_wp2_with fail
  (go_at_call 25; (with_reducible refine (enables_runs _).mono ?_); rintro e_ w2 ⟨rfl, hb_⟩; have HB_ : Aside0 (Below w.heap.size w w2) := Aside0.mk (below_step (bG HB) hb_); have hzw2 := hb_.size; (try simp at hzw2); have oc_ := Aside0.mk (box_below hb_ (eG oc)); have oz_ := Aside0.mk (box_below hb_ (eG oz)); have r0_ := Aside0.mk (Kd.F_below (fG r0) hb_); clear r0; have r0 := r0_; clear r0_; have r3_ := Aside0.mk (Kd.F_below (fG r3) hb_); clear r3; have r3 := r3_; clear r3_; have r4_ := Aside0.mk (Kd.F_below (fG r4) hb_); clear r4; have r4 := r4_; clear r4_; (try clear oc occ ocf ocl); have oc := oc_; clear oc_; obtain ⟨occ, ocf, ocl⟩ := cells_of oc.out; (try clear oz ozc ozf ozl); have oz := oz_; clear oz_; obtain ⟨ozc, ozf, ozl⟩ := cells_of oz.out; clear HB hb_; have HB := HB_; clear HB_)
  go_wp2_with fail
  (go_at_call 26; (with_reducible refine (at_c 8192 8320 8192 (0) _ rfl).mono ?_); rintro e_ w3 ⟨rfl, hb_⟩; have HB_ : Aside0 (Below w.heap.size w w3) := Aside0.mk (below_step (bG HB) hb_); have hzw3 := hb_.size; (try simp at hzw3); have oc_ := Aside0.mk (box_below hb_ (eG oc)); have oz_ := Aside0.mk (box_below hb_ (eG oz)); have r0_ := Aside0.mk (Kd.F_below (fG r0) hb_); clear r0; have r0 := r0_; clear r0_; have r3_ := Aside0.mk (Kd.F_below (fG r3) hb_); clear r3; have r3 := r3_; clear r3_; have r4_ := Aside0.mk (Kd.F_below (fG r4) hb_); clear r4; have r4 := r4_; clear r4_; (try clear oc occ ocf ocl); have oc := oc_; clear oc_; obtain ⟨occ, ocf, ocl⟩ := cells_of oc.out; (try clear oz ozc ozf ozl); have oz := oz_; clear oz_; obtain ⟨ozc, ozf, ozl⟩ := cells_of oz.out; clear HB hb_; have HB := HB_; clear HB_)
  go_wp2_with fail
  (go_at_call 27; (with_reducible refine (thresholds_runs _).mono ?_); rintro e_ w4 ⟨rfl, hb_⟩; have HB_ : Aside0 (Below w.heap.size w w4) := Aside0.mk (below_step (bG HB) hb_); have hzw4 := hb_.size; (try simp at hzw4); have oc_ := Aside0.mk (box_below hb_ (eG oc)); have oz_ := Aside0.mk (box_below hb_ (eG oz)); have r0_ := Aside0.mk (Kd.F_below (fG r0) hb_); clear r0; have r0 := r0_; clear r0_; have r3_ := Aside0.mk (Kd.F_below (fG r3) hb_); clear r3; have r3 := r3_; clear r3_; have r4_ := Aside0.mk (Kd.F_below (fG r4) hb_); clear r4; have r4 := r4_; clear r4_; (try clear oc occ ocf ocl); have oc := oc_; clear oc_; obtain ⟨occ, ocf, ocl⟩ := cells_of oc.out; (try clear oz ozc ozf ozl); have oz := oz_; clear oz_; obtain ⟨ozc, ozf, ozl⟩ := cells_of oz.out; clear HB hb_; have HB := HB_; clear HB_)
  go_wp2_with fail
  (go_at_call 26; (with_reducible refine (at_c 2097152 2101248 8192 (-1) _ rfl).mono ?_); rintro e_ w5 ⟨rfl, hb_⟩; have HB_ : Aside0 (Below w.heap.size w w5) := Aside0.mk (below_step (bG HB) hb_); have hzw5 := hb_.size; (try simp at hzw5); have oc_ := Aside0.mk (box_below hb_ (eG oc)); have oz_ := Aside0.mk (box_below hb_ (eG oz)); have r0_ := Aside0.mk (Kd.F_below (fG r0) hb_); clear r0; have r0 := r0_; clear r0_; have r3_ := Aside0.mk (Kd.F_below (fG r3) hb_); clear r3; have r3 := r3_; clear r3_; have r4_ := Aside0.mk (Kd.F_below (fG r4) hb_); clear r4; have r4 := r4_; clear r4_; (try clear oc occ ocf ocl); have oc := oc_; clear oc_; obtain ⟨occ, ocf, ocl⟩ := cells_of oc.out; (try clear oz ozc ozf ozl); have oz := oz_; clear oz_; obtain ⟨ozc, ozf, ozl⟩ := cells_of oz.out; clear HB hb_; have HB := HB_; clear HB_)
  go_wp2_with fail
  (go_at_call 28; (with_reducible refine (claims_runs _).mono ?_); rintro e_ w6 ⟨rfl, hb_⟩; have HB_ : Aside0 (Below w.heap.size w w6) := Aside0.mk (below_step (bG HB) hb_); have hzw6 := hb_.size; (try simp at hzw6); have oc_ := Aside0.mk (box_below hb_ (eG oc)); have oz_ := Aside0.mk (box_below hb_ (eG oz)); have r0_ := Aside0.mk (Kd.F_below (fG r0) hb_); clear r0; have r0 := r0_; clear r0_; have r3_ := Aside0.mk (Kd.F_below (fG r3) hb_); clear r3; have r3 := r3_; clear r3_; have r4_ := Aside0.mk (Kd.F_below (fG r4) hb_); clear r4; have r4 := r4_; clear r4_; (try clear oc occ ocf ocl); have oc := oc_; clear oc_; obtain ⟨occ, ocf, ocl⟩ := cells_of oc.out; (try clear oz ozc ozf ozl); have oz := oz_; clear oz_; obtain ⟨ozc, ozf, ozl⟩ := cells_of oz.out; clear HB hb_; have HB := HB_; clear HB_)
  go_wp2_with fail
  (go_at_call 26; (with_reducible refine (at_c 2097156 2101252 8192 (-1) _ rfl).mono ?_); rintro e_ w7 ⟨rfl, hb_⟩; have HB_ : Aside0 (Below w.heap.size w w7) := Aside0.mk (below_step (bG HB) hb_); have hzw7 := hb_.size; (try simp at hzw7); have oc_ := Aside0.mk (box_below hb_ (eG oc)); have oz_ := Aside0.mk (box_below hb_ (eG oz)); have r0_ := Aside0.mk (Kd.F_below (fG r0) hb_); clear r0; have r0 := r0_; clear r0_; have r3_ := Aside0.mk (Kd.F_below (fG r3) hb_); clear r3; have r3 := r3_; clear r3_; have r4_ := Aside0.mk (Kd.F_below (fG r4) hb_); clear r4; have r4 := r4_; clear r4_; (try clear oc occ ocf ocl); have oc := oc_; clear oc_; obtain ⟨occ, ocf, ocl⟩ := cells_of oc.out; (try clear oz ozc ozf ozl); have oz := oz_; clear oz_; obtain ⟨ozc, ozf, ozl⟩ := cells_of oz.out; clear HB hb_; have HB := HB_; clear HB_)
  go_wp2_with fail
  (go_at_call 29; (with_reducible refine (plic_with.calls _ _ l3 0 (Go.bits .and .i64 Y 6) _ _ (Kd.F_now (fG r3)) HC3.out HWI.out).mono ?_); rintro e_ w8 ⟨v_q, rfl, hr_q, hb_⟩; have HB_ : Aside0 (Below w.heap.size w w8) := Aside0.mk (below_step (bG HB) hb_); have hzw8 := hb_.size; (try simp at hzw8); have oc_ := Aside0.mk (box_below hb_ (eG oc)); have oz_ := Aside0.mk (box_below hb_ (eG oz)); have r0_ := Aside0.mk (Kd.F_below (fG r0) hb_); clear r0; have r0 := r0_; clear r0_; have r3_ := Aside0.mk (Kd.F_below (fG r3) hb_); clear r3; have r3 := r3_; clear r3_; have r4_ := Aside0.mk (Kd.F_below (fG r4) hb_); clear r4; have r4 := r4_; clear r4_; (try clear oc occ ocf ocl); have oc := oc_; clear oc_; obtain ⟨occ, ocf, ocl⟩ := cells_of oc.out; (try clear oz ozc ozf ozl); have oz := oz_; clear oz_; obtain ⟨ozc, ozf, ozl⟩ := cells_of oz.out; clear HB hb_; have HB := HB_; clear HB_; obtain ⟨A_q, c_q, ev_, hc_q, hf_q⟩ := R_Fl hr_q; subst ev_; have qc := Aside0.mk hc_q; have q := Aside0.mk (Kd.F_bound hf_q); clear hc_q hf_q hr_q; skip)
  go_wp2
  (first | go_region | skip)
  all_goals go_wp2
  all_goals refine bodyPost_ret (v := .tuple #[.agg #[.slice A0 l0.length c0, .int .i64 p, .int .i64 c, .slice A_q (l3.set 0 (Go.bits .and .i64 Y 6)).length c_q, .slice A4 l4.length c4], .bool true]) (by simp [results, Try.results12, go_sem, occ, ozc] <;> first | assumption | omega | (symm; assumption)) rfl ?_
  all_goals exact ⟨A_q, c_q, rfl, qc.out, (by refine F_res (ok := ?_) ?_ ?_; rotate_left; (repeat (with_reducible first | exact q.out | apply Kd.F_drew | apply Kd.F_drewN | apply Kd.F_alloc | refine Kd.F_far ?_ ?_ _)); all_goals (intro j_ hj_; (try dsimp only at hj_); (try dsimp only); (try simp only [sz_alloc, sz_drew, sz_drewN, sz_set] at hj_); first | omega | exact .inl hj_.1 | exact .inl hj_ | exact .inr (by omega) | (rcases hj_ with hj_ | hj_; exact .inl hj_.1; exact .inr (by omega)) | (rcases hj_ with hj_ | hj_; exact .inl hj_; exact .inr (by omega)) | (rcases hj_.1 with hk_ | hk_; (first | exact .inl hk_.1 | exact .inl hk_); exact .inr (by omega)))), (bG HB)⟩
end Go.Proofs.Ytmlpnjoejdpblaa.Q
end
section
/- plic.Store, its walks rows. -/
namespace Go.Proofs.Ytmlpnjoejdpblaa.Q
open Go.RowKit Go.Proofs.YtmlpnjoejdpblaaW.PrintWords Go.Proofs.YtmlpnjoejdpblaaW.PrintLast Go.Proofs.YtmlpnjoejdpblaaW.PrintMore Go.Proofs.Ytmlpnjoejdpblaa.L
attribute [local go_sem] Instr.field part asAgg lt_step max2_int min2_int max_two min_two max_three min_three max_four min_four lt_0_1 lt_0_2 lt_1_2 lt_0_3 lt_1_3 lt_2_3 lt_0_4 lt_1_4 lt_2_4 lt_3_4 lt_0_5 lt_1_5 lt_2_5 lt_3_5 lt_4_5 lt_0_6 lt_1_6 lt_2_6 lt_3_6 lt_4_6 lt_5_6 lt_0_7 lt_1_7 lt_2_7 lt_3_7 lt_4_7 lt_5_7 lt_6_7 lt_0_8 lt_1_8 lt_2_8 lt_3_8 lt_4_8 lt_5_8 lt_6_8 lt_7_8
set_option linter.unusedVariables false
set_option linter.unusedSimpArgs false
attribute [local go_sem ↓] Go.wp_at_zero Go.wp_at_succ
set_option maxHeartbeats 1600000 in
set_option maxRecDepth 100000 in
theorem store_e1 (A0 : Option Addr) (c0 : Nat) (l0 : List Int) (p c : Int) (A3 : Option Addr) (c3 : Nat) (l3 : List Int) (A4 : Option Addr) (c4 : Nat) (l4 : List Int) (x Y : Int) (w : World) (hY : IntKind.u32.wrap x = Y) (hY0 : 0 ≤ Y) (hY1 : Y < 4294967296) (hck : checkZ l0 p c l3 l4 = true) (hr0 : Kd.C (Kd.int .i64) w A0 l0.length l0) (hr3 : Kd.C (Kd.int .i64) w A3 l3.length l3) (hr4 : Kd.C (Kd.int .i64) w A4 l4.length l4) (hc0 : l0.length ≤ c0) (hc3 : l3.length ≤ c3) (hc4 : l4.length ≤ c4) :
    Calls Try.prog 12 #[.agg #[.slice A0 l0.length c0, .int .i64 p, .int .i64 c, .slice A3 l3.length c3, .slice A4 l4.length c4], .int .u64 8320, .int .i64 4, .int .u64 x] w fun e w' => ∃ A' c', e = .returned (.tuple #[.agg #[.slice A0 l0.length c0, .int .i64 p, .int .i64 c, .slice A' (l3.set 1 (Go.bits .and .i64 Y 6)).length c', .slice A4 l4.length c4], .bool true]) ∧ (l3.set 1 (Go.bits .and .i64 Y 6)).length ≤ c' ∧ Kd.F (Kd.int .i64) w' (fun j => w.heap.size ≤ j) A' (l3.set 1 (Go.bits .and .i64 Y 6)).length (l3.set 1 (Go.bits .and .i64 Y 6)) ∧ Below w.heap.size w w' := by
  have HB := Aside0.mk (Below.refl w.heap.size w)
  have hu := Try.underlying24
  obtain ⟨hl0, hl3, hl4⟩ := check_lens hck
  have r0 := Aside0.mk (F_in hr0)
  have r3 := Aside0.mk (F_in hr3)
  have r4 := Aside0.mk (F_in hr4)
  have HK := Aside0.mk hck
  have HC0 := Aside0.mk hc0
  have HC3 := Aside0.mk hc3
  have HC4 := Aside0.mk hc4
  have HWI := Aside0.mk (with_is l3 1 (Go.bits .and .i64 Y 6) (by omega) (by omega))
  clear hr0 hr3 hr4 hck hc0 hc3 hc4 hl0 hl3 hl4
  go_enter Try.func12, Try.ntmps12
  go_wp2_with fail
  (go_at_call 7; (with_reducible refine (check_c true _ _ l0 p c _ _ l3 _ _ l4 _ HK.out (Kd.F_now (fG r0)) (Kd.F_now (fG r3)) (Kd.F_now (fG r4))).mono ?_); rintro e_ w1 ⟨rfl, hb_⟩; have HB_ : Aside0 (Below w.heap.size w w1) := Aside0.mk (below_step (bG HB) hb_); have hzw1 := hb_.size; (try simp at hzw1); have oc_ := Aside0.mk (box_below hb_ (by repeat (with_reducible first | exact nb_1 w _ | apply ext_drew | apply ext_drewN | apply ext_alloc | refine blk_far ?_ (by show _ ≠ _; dsimp only; omega) _))); have oz_ := Aside0.mk (box_below hb_ (by repeat (with_reducible first | exact nb_2 w _ _ | apply ext_drew | apply ext_drewN | apply ext_alloc | refine blk_far ?_ (by show _ ≠ _; dsimp only; omega) _))); have r0_ := Aside0.mk (Kd.F_below (fG r0) hb_); clear r0; have r0 := r0_; clear r0_; have r3_ := Aside0.mk (Kd.F_below (fG r3) hb_); clear r3; have r3 := r3_; clear r3_; have r4_ := Aside0.mk (Kd.F_below (fG r4) hb_); clear r4; have r4 := r4_; clear r4_; (try clear oc occ ocf ocl); have oc := oc_; clear oc_; obtain ⟨occ, ocf, ocl⟩ := cells_of oc.out; (try clear oz ozc ozf ozl); have oz := oz_; clear oz_; obtain ⟨ozc, ozf, ozl⟩ := cells_of oz.out; clear HB hb_; have HB := HB_; clear HB_)
  go_wp2_with fail
  (go_at_call 25; (with_reducible refine (enables_runs _).mono ?_); rintro e_ w2 ⟨rfl, hb_⟩; have HB_ : Aside0 (Below w.heap.size w w2) := Aside0.mk (below_step (bG HB) hb_); have hzw2 := hb_.size; (try simp at hzw2); have oc_ := Aside0.mk (box_below hb_ (eG oc)); have oz_ := Aside0.mk (box_below hb_ (eG oz)); have r0_ := Aside0.mk (Kd.F_below (fG r0) hb_); clear r0; have r0 := r0_; clear r0_; have r3_ := Aside0.mk (Kd.F_below (fG r3) hb_); clear r3; have r3 := r3_; clear r3_; have r4_ := Aside0.mk (Kd.F_below (fG r4) hb_); clear r4; have r4 := r4_; clear r4_; (try clear oc occ ocf ocl); have oc := oc_; clear oc_; obtain ⟨occ, ocf, ocl⟩ := cells_of oc.out; (try clear oz ozc ozf ozl); have oz := oz_; clear oz_; obtain ⟨ozc, ozf, ozl⟩ := cells_of oz.out; clear HB hb_; have HB := HB_; clear HB_)
  go_wp2_with fail
  (go_at_call 26; (with_reducible refine (at_c 8192 8320 8320 (1) _ rfl).mono ?_); rintro e_ w3 ⟨rfl, hb_⟩; have HB_ : Aside0 (Below w.heap.size w w3) := Aside0.mk (below_step (bG HB) hb_); have hzw3 := hb_.size; (try simp at hzw3); have oc_ := Aside0.mk (box_below hb_ (eG oc)); have oz_ := Aside0.mk (box_below hb_ (eG oz)); have r0_ := Aside0.mk (Kd.F_below (fG r0) hb_); clear r0; have r0 := r0_; clear r0_; have r3_ := Aside0.mk (Kd.F_below (fG r3) hb_); clear r3; have r3 := r3_; clear r3_; have r4_ := Aside0.mk (Kd.F_below (fG r4) hb_); clear r4; have r4 := r4_; clear r4_; (try clear oc occ ocf ocl); have oc := oc_; clear oc_; obtain ⟨occ, ocf, ocl⟩ := cells_of oc.out; (try clear oz ozc ozf ozl); have oz := oz_; clear oz_; obtain ⟨ozc, ozf, ozl⟩ := cells_of oz.out; clear HB hb_; have HB := HB_; clear HB_)
  go_wp2_with fail
  (go_at_call 27; (with_reducible refine (thresholds_runs _).mono ?_); rintro e_ w4 ⟨rfl, hb_⟩; have HB_ : Aside0 (Below w.heap.size w w4) := Aside0.mk (below_step (bG HB) hb_); have hzw4 := hb_.size; (try simp at hzw4); have oc_ := Aside0.mk (box_below hb_ (eG oc)); have oz_ := Aside0.mk (box_below hb_ (eG oz)); have r0_ := Aside0.mk (Kd.F_below (fG r0) hb_); clear r0; have r0 := r0_; clear r0_; have r3_ := Aside0.mk (Kd.F_below (fG r3) hb_); clear r3; have r3 := r3_; clear r3_; have r4_ := Aside0.mk (Kd.F_below (fG r4) hb_); clear r4; have r4 := r4_; clear r4_; (try clear oc occ ocf ocl); have oc := oc_; clear oc_; obtain ⟨occ, ocf, ocl⟩ := cells_of oc.out; (try clear oz ozc ozf ozl); have oz := oz_; clear oz_; obtain ⟨ozc, ozf, ozl⟩ := cells_of oz.out; clear HB hb_; have HB := HB_; clear HB_)
  go_wp2_with fail
  (go_at_call 26; (with_reducible refine (at_c 2097152 2101248 8320 (-1) _ rfl).mono ?_); rintro e_ w5 ⟨rfl, hb_⟩; have HB_ : Aside0 (Below w.heap.size w w5) := Aside0.mk (below_step (bG HB) hb_); have hzw5 := hb_.size; (try simp at hzw5); have oc_ := Aside0.mk (box_below hb_ (eG oc)); have oz_ := Aside0.mk (box_below hb_ (eG oz)); have r0_ := Aside0.mk (Kd.F_below (fG r0) hb_); clear r0; have r0 := r0_; clear r0_; have r3_ := Aside0.mk (Kd.F_below (fG r3) hb_); clear r3; have r3 := r3_; clear r3_; have r4_ := Aside0.mk (Kd.F_below (fG r4) hb_); clear r4; have r4 := r4_; clear r4_; (try clear oc occ ocf ocl); have oc := oc_; clear oc_; obtain ⟨occ, ocf, ocl⟩ := cells_of oc.out; (try clear oz ozc ozf ozl); have oz := oz_; clear oz_; obtain ⟨ozc, ozf, ozl⟩ := cells_of oz.out; clear HB hb_; have HB := HB_; clear HB_)
  go_wp2_with fail
  (go_at_call 28; (with_reducible refine (claims_runs _).mono ?_); rintro e_ w6 ⟨rfl, hb_⟩; have HB_ : Aside0 (Below w.heap.size w w6) := Aside0.mk (below_step (bG HB) hb_); have hzw6 := hb_.size; (try simp at hzw6); have oc_ := Aside0.mk (box_below hb_ (eG oc)); have oz_ := Aside0.mk (box_below hb_ (eG oz)); have r0_ := Aside0.mk (Kd.F_below (fG r0) hb_); clear r0; have r0 := r0_; clear r0_; have r3_ := Aside0.mk (Kd.F_below (fG r3) hb_); clear r3; have r3 := r3_; clear r3_; have r4_ := Aside0.mk (Kd.F_below (fG r4) hb_); clear r4; have r4 := r4_; clear r4_; (try clear oc occ ocf ocl); have oc := oc_; clear oc_; obtain ⟨occ, ocf, ocl⟩ := cells_of oc.out; (try clear oz ozc ozf ozl); have oz := oz_; clear oz_; obtain ⟨ozc, ozf, ozl⟩ := cells_of oz.out; clear HB hb_; have HB := HB_; clear HB_)
  go_wp2_with fail
  (go_at_call 26; (with_reducible refine (at_c 2097156 2101252 8320 (-1) _ rfl).mono ?_); rintro e_ w7 ⟨rfl, hb_⟩; have HB_ : Aside0 (Below w.heap.size w w7) := Aside0.mk (below_step (bG HB) hb_); have hzw7 := hb_.size; (try simp at hzw7); have oc_ := Aside0.mk (box_below hb_ (eG oc)); have oz_ := Aside0.mk (box_below hb_ (eG oz)); have r0_ := Aside0.mk (Kd.F_below (fG r0) hb_); clear r0; have r0 := r0_; clear r0_; have r3_ := Aside0.mk (Kd.F_below (fG r3) hb_); clear r3; have r3 := r3_; clear r3_; have r4_ := Aside0.mk (Kd.F_below (fG r4) hb_); clear r4; have r4 := r4_; clear r4_; (try clear oc occ ocf ocl); have oc := oc_; clear oc_; obtain ⟨occ, ocf, ocl⟩ := cells_of oc.out; (try clear oz ozc ozf ozl); have oz := oz_; clear oz_; obtain ⟨ozc, ozf, ozl⟩ := cells_of oz.out; clear HB hb_; have HB := HB_; clear HB_)
  go_wp2_with fail
  (go_at_call 29; (with_reducible refine (plic_with.calls _ _ l3 1 (Go.bits .and .i64 Y 6) _ _ (Kd.F_now (fG r3)) HC3.out HWI.out).mono ?_); rintro e_ w8 ⟨v_q, rfl, hr_q, hb_⟩; have HB_ : Aside0 (Below w.heap.size w w8) := Aside0.mk (below_step (bG HB) hb_); have hzw8 := hb_.size; (try simp at hzw8); have oc_ := Aside0.mk (box_below hb_ (eG oc)); have oz_ := Aside0.mk (box_below hb_ (eG oz)); have r0_ := Aside0.mk (Kd.F_below (fG r0) hb_); clear r0; have r0 := r0_; clear r0_; have r3_ := Aside0.mk (Kd.F_below (fG r3) hb_); clear r3; have r3 := r3_; clear r3_; have r4_ := Aside0.mk (Kd.F_below (fG r4) hb_); clear r4; have r4 := r4_; clear r4_; (try clear oc occ ocf ocl); have oc := oc_; clear oc_; obtain ⟨occ, ocf, ocl⟩ := cells_of oc.out; (try clear oz ozc ozf ozl); have oz := oz_; clear oz_; obtain ⟨ozc, ozf, ozl⟩ := cells_of oz.out; clear HB hb_; have HB := HB_; clear HB_; obtain ⟨A_q, c_q, ev_, hc_q, hf_q⟩ := R_Fl hr_q; subst ev_; have qc := Aside0.mk hc_q; have q := Aside0.mk (Kd.F_bound hf_q); clear hc_q hf_q hr_q; skip)
  go_wp2
  (first | go_region | skip)
  all_goals go_wp2
  all_goals refine bodyPost_ret (v := .tuple #[.agg #[.slice A0 l0.length c0, .int .i64 p, .int .i64 c, .slice A_q (l3.set 1 (Go.bits .and .i64 Y 6)).length c_q, .slice A4 l4.length c4], .bool true]) (by simp [results, Try.results12, go_sem, occ, ozc] <;> first | assumption | omega | (symm; assumption)) rfl ?_
  all_goals exact ⟨A_q, c_q, rfl, qc.out, (by refine F_res (ok := ?_) ?_ ?_; rotate_left; (repeat (with_reducible first | exact q.out | apply Kd.F_drew | apply Kd.F_drewN | apply Kd.F_alloc | refine Kd.F_far ?_ ?_ _)); all_goals (intro j_ hj_; (try dsimp only at hj_); (try dsimp only); (try simp only [sz_alloc, sz_drew, sz_drewN, sz_set] at hj_); first | omega | exact .inl hj_.1 | exact .inl hj_ | exact .inr (by omega) | (rcases hj_ with hj_ | hj_; exact .inl hj_.1; exact .inr (by omega)) | (rcases hj_ with hj_ | hj_; exact .inl hj_; exact .inr (by omega)) | (rcases hj_.1 with hk_ | hk_; (first | exact .inl hk_.1 | exact .inl hk_); exact .inr (by omega)))), (bG HB)⟩
set_option maxHeartbeats 1600000 in
set_option maxRecDepth 100000 in
theorem store_t0 (A0 : Option Addr) (c0 : Nat) (l0 : List Int) (p c : Int) (A3 : Option Addr) (c3 : Nat) (l3 : List Int) (A4 : Option Addr) (c4 : Nat) (l4 : List Int) (x Y : Int) (w : World) (hY : IntKind.u32.wrap x = Y) (hY0 : 0 ≤ Y) (hY1 : Y < 4294967296) (hck : checkZ l0 p c l3 l4 = true) (hr0 : Kd.C (Kd.int .i64) w A0 l0.length l0) (hr3 : Kd.C (Kd.int .i64) w A3 l3.length l3) (hr4 : Kd.C (Kd.int .i64) w A4 l4.length l4) (hc0 : l0.length ≤ c0) (hc3 : l3.length ≤ c3) (hc4 : l4.length ≤ c4) :
    Calls Try.prog 12 #[.agg #[.slice A0 l0.length c0, .int .i64 p, .int .i64 c, .slice A3 l3.length c3, .slice A4 l4.length c4], .int .u64 2097152, .int .i64 4, .int .u64 x] w fun e w' => ∃ A' c', e = .returned (.tuple #[.agg #[.slice A0 l0.length c0, .int .i64 p, .int .i64 c, .slice A3 l3.length c3, .slice A' (l4.set 0 (Go.bits .and .i64 Y 7)).length c'], .bool true]) ∧ (l4.set 0 (Go.bits .and .i64 Y 7)).length ≤ c' ∧ Kd.F (Kd.int .i64) w' (fun j => w.heap.size ≤ j) A' (l4.set 0 (Go.bits .and .i64 Y 7)).length (l4.set 0 (Go.bits .and .i64 Y 7)) ∧ Below w.heap.size w w' := by
  have HB := Aside0.mk (Below.refl w.heap.size w)
  have hu := Try.underlying24
  obtain ⟨hl0, hl3, hl4⟩ := check_lens hck
  have r0 := Aside0.mk (F_in hr0)
  have r3 := Aside0.mk (F_in hr3)
  have r4 := Aside0.mk (F_in hr4)
  have HK := Aside0.mk hck
  have HC0 := Aside0.mk hc0
  have HC3 := Aside0.mk hc3
  have HC4 := Aside0.mk hc4
  have HWI := Aside0.mk (with_is l4 0 (Go.bits .and .i64 Y 7) (by omega) (by omega))
  clear hr0 hr3 hr4 hck hc0 hc3 hc4 hl0 hl3 hl4
  go_enter Try.func12, Try.ntmps12
  go_wp2_with fail
  (go_at_call 7; (with_reducible refine (check_c true _ _ l0 p c _ _ l3 _ _ l4 _ HK.out (Kd.F_now (fG r0)) (Kd.F_now (fG r3)) (Kd.F_now (fG r4))).mono ?_); rintro e_ w1 ⟨rfl, hb_⟩; have HB_ : Aside0 (Below w.heap.size w w1) := Aside0.mk (below_step (bG HB) hb_); have hzw1 := hb_.size; (try simp at hzw1); have oc_ := Aside0.mk (box_below hb_ (by repeat (with_reducible first | exact nb_1 w _ | apply ext_drew | apply ext_drewN | apply ext_alloc | refine blk_far ?_ (by show _ ≠ _; dsimp only; omega) _))); have oz_ := Aside0.mk (box_below hb_ (by repeat (with_reducible first | exact nb_2 w _ _ | apply ext_drew | apply ext_drewN | apply ext_alloc | refine blk_far ?_ (by show _ ≠ _; dsimp only; omega) _))); have r0_ := Aside0.mk (Kd.F_below (fG r0) hb_); clear r0; have r0 := r0_; clear r0_; have r3_ := Aside0.mk (Kd.F_below (fG r3) hb_); clear r3; have r3 := r3_; clear r3_; have r4_ := Aside0.mk (Kd.F_below (fG r4) hb_); clear r4; have r4 := r4_; clear r4_; (try clear oc occ ocf ocl); have oc := oc_; clear oc_; obtain ⟨occ, ocf, ocl⟩ := cells_of oc.out; (try clear oz ozc ozf ozl); have oz := oz_; clear oz_; obtain ⟨ozc, ozf, ozl⟩ := cells_of oz.out; clear HB hb_; have HB := HB_; clear HB_)
  go_wp2_with fail
  (go_at_call 25; (with_reducible refine (enables_runs _).mono ?_); rintro e_ w2 ⟨rfl, hb_⟩; have HB_ : Aside0 (Below w.heap.size w w2) := Aside0.mk (below_step (bG HB) hb_); have hzw2 := hb_.size; (try simp at hzw2); have oc_ := Aside0.mk (box_below hb_ (eG oc)); have oz_ := Aside0.mk (box_below hb_ (eG oz)); have r0_ := Aside0.mk (Kd.F_below (fG r0) hb_); clear r0; have r0 := r0_; clear r0_; have r3_ := Aside0.mk (Kd.F_below (fG r3) hb_); clear r3; have r3 := r3_; clear r3_; have r4_ := Aside0.mk (Kd.F_below (fG r4) hb_); clear r4; have r4 := r4_; clear r4_; (try clear oc occ ocf ocl); have oc := oc_; clear oc_; obtain ⟨occ, ocf, ocl⟩ := cells_of oc.out; (try clear oz ozc ozf ozl); have oz := oz_; clear oz_; obtain ⟨ozc, ozf, ozl⟩ := cells_of oz.out; clear HB hb_; have HB := HB_; clear HB_)
  go_wp2_with fail
  (go_at_call 26; (with_reducible refine (at_c 8192 8320 2097152 (-1) _ rfl).mono ?_); rintro e_ w3 ⟨rfl, hb_⟩; have HB_ : Aside0 (Below w.heap.size w w3) := Aside0.mk (below_step (bG HB) hb_); have hzw3 := hb_.size; (try simp at hzw3); have oc_ := Aside0.mk (box_below hb_ (eG oc)); have oz_ := Aside0.mk (box_below hb_ (eG oz)); have r0_ := Aside0.mk (Kd.F_below (fG r0) hb_); clear r0; have r0 := r0_; clear r0_; have r3_ := Aside0.mk (Kd.F_below (fG r3) hb_); clear r3; have r3 := r3_; clear r3_; have r4_ := Aside0.mk (Kd.F_below (fG r4) hb_); clear r4; have r4 := r4_; clear r4_; (try clear oc occ ocf ocl); have oc := oc_; clear oc_; obtain ⟨occ, ocf, ocl⟩ := cells_of oc.out; (try clear oz ozc ozf ozl); have oz := oz_; clear oz_; obtain ⟨ozc, ozf, ozl⟩ := cells_of oz.out; clear HB hb_; have HB := HB_; clear HB_)
  go_wp2_with fail
  (go_at_call 27; (with_reducible refine (thresholds_runs _).mono ?_); rintro e_ w4 ⟨rfl, hb_⟩; have HB_ : Aside0 (Below w.heap.size w w4) := Aside0.mk (below_step (bG HB) hb_); have hzw4 := hb_.size; (try simp at hzw4); have oc_ := Aside0.mk (box_below hb_ (eG oc)); have oz_ := Aside0.mk (box_below hb_ (eG oz)); have r0_ := Aside0.mk (Kd.F_below (fG r0) hb_); clear r0; have r0 := r0_; clear r0_; have r3_ := Aside0.mk (Kd.F_below (fG r3) hb_); clear r3; have r3 := r3_; clear r3_; have r4_ := Aside0.mk (Kd.F_below (fG r4) hb_); clear r4; have r4 := r4_; clear r4_; (try clear oc occ ocf ocl); have oc := oc_; clear oc_; obtain ⟨occ, ocf, ocl⟩ := cells_of oc.out; (try clear oz ozc ozf ozl); have oz := oz_; clear oz_; obtain ⟨ozc, ozf, ozl⟩ := cells_of oz.out; clear HB hb_; have HB := HB_; clear HB_)
  go_wp2_with fail
  (go_at_call 26; (with_reducible refine (at_c 2097152 2101248 2097152 (0) _ rfl).mono ?_); rintro e_ w5 ⟨rfl, hb_⟩; have HB_ : Aside0 (Below w.heap.size w w5) := Aside0.mk (below_step (bG HB) hb_); have hzw5 := hb_.size; (try simp at hzw5); have oc_ := Aside0.mk (box_below hb_ (eG oc)); have oz_ := Aside0.mk (box_below hb_ (eG oz)); have r0_ := Aside0.mk (Kd.F_below (fG r0) hb_); clear r0; have r0 := r0_; clear r0_; have r3_ := Aside0.mk (Kd.F_below (fG r3) hb_); clear r3; have r3 := r3_; clear r3_; have r4_ := Aside0.mk (Kd.F_below (fG r4) hb_); clear r4; have r4 := r4_; clear r4_; (try clear oc occ ocf ocl); have oc := oc_; clear oc_; obtain ⟨occ, ocf, ocl⟩ := cells_of oc.out; (try clear oz ozc ozf ozl); have oz := oz_; clear oz_; obtain ⟨ozc, ozf, ozl⟩ := cells_of oz.out; clear HB hb_; have HB := HB_; clear HB_)
  go_wp2_with fail
  (go_at_call 28; (with_reducible refine (claims_runs _).mono ?_); rintro e_ w6 ⟨rfl, hb_⟩; have HB_ : Aside0 (Below w.heap.size w w6) := Aside0.mk (below_step (bG HB) hb_); have hzw6 := hb_.size; (try simp at hzw6); have oc_ := Aside0.mk (box_below hb_ (eG oc)); have oz_ := Aside0.mk (box_below hb_ (eG oz)); have r0_ := Aside0.mk (Kd.F_below (fG r0) hb_); clear r0; have r0 := r0_; clear r0_; have r3_ := Aside0.mk (Kd.F_below (fG r3) hb_); clear r3; have r3 := r3_; clear r3_; have r4_ := Aside0.mk (Kd.F_below (fG r4) hb_); clear r4; have r4 := r4_; clear r4_; (try clear oc occ ocf ocl); have oc := oc_; clear oc_; obtain ⟨occ, ocf, ocl⟩ := cells_of oc.out; (try clear oz ozc ozf ozl); have oz := oz_; clear oz_; obtain ⟨ozc, ozf, ozl⟩ := cells_of oz.out; clear HB hb_; have HB := HB_; clear HB_)
  go_wp2_with fail
  (go_at_call 26; (with_reducible refine (at_c 2097156 2101252 2097152 (-1) _ rfl).mono ?_); rintro e_ w7 ⟨rfl, hb_⟩; have HB_ : Aside0 (Below w.heap.size w w7) := Aside0.mk (below_step (bG HB) hb_); have hzw7 := hb_.size; (try simp at hzw7); have oc_ := Aside0.mk (box_below hb_ (eG oc)); have oz_ := Aside0.mk (box_below hb_ (eG oz)); have r0_ := Aside0.mk (Kd.F_below (fG r0) hb_); clear r0; have r0 := r0_; clear r0_; have r3_ := Aside0.mk (Kd.F_below (fG r3) hb_); clear r3; have r3 := r3_; clear r3_; have r4_ := Aside0.mk (Kd.F_below (fG r4) hb_); clear r4; have r4 := r4_; clear r4_; (try clear oc occ ocf ocl); have oc := oc_; clear oc_; obtain ⟨occ, ocf, ocl⟩ := cells_of oc.out; (try clear oz ozc ozf ozl); have oz := oz_; clear oz_; obtain ⟨ozc, ozf, ozl⟩ := cells_of oz.out; clear HB hb_; have HB := HB_; clear HB_)
  go_wp2_with fail
  (go_at_call 29; (with_reducible refine (plic_with.calls _ _ l4 0 (Go.bits .and .i64 Y 7) _ _ (Kd.F_now (fG r4)) HC4.out HWI.out).mono ?_); rintro e_ w8 ⟨v_q, rfl, hr_q, hb_⟩; have HB_ : Aside0 (Below w.heap.size w w8) := Aside0.mk (below_step (bG HB) hb_); have hzw8 := hb_.size; (try simp at hzw8); have oc_ := Aside0.mk (box_below hb_ (eG oc)); have oz_ := Aside0.mk (box_below hb_ (eG oz)); have r0_ := Aside0.mk (Kd.F_below (fG r0) hb_); clear r0; have r0 := r0_; clear r0_; have r3_ := Aside0.mk (Kd.F_below (fG r3) hb_); clear r3; have r3 := r3_; clear r3_; have r4_ := Aside0.mk (Kd.F_below (fG r4) hb_); clear r4; have r4 := r4_; clear r4_; (try clear oc occ ocf ocl); have oc := oc_; clear oc_; obtain ⟨occ, ocf, ocl⟩ := cells_of oc.out; (try clear oz ozc ozf ozl); have oz := oz_; clear oz_; obtain ⟨ozc, ozf, ozl⟩ := cells_of oz.out; clear HB hb_; have HB := HB_; clear HB_; obtain ⟨A_q, c_q, ev_, hc_q, hf_q⟩ := R_Fl hr_q; subst ev_; have qc := Aside0.mk hc_q; have q := Aside0.mk (Kd.F_bound hf_q); clear hc_q hf_q hr_q; skip)
  go_wp2
  (first | go_region | skip)
  all_goals go_wp2
  all_goals refine bodyPost_ret (v := .tuple #[.agg #[.slice A0 l0.length c0, .int .i64 p, .int .i64 c, .slice A3 l3.length c3, .slice A_q (l4.set 0 (Go.bits .and .i64 Y 7)).length c_q], .bool true]) (by simp [results, Try.results12, go_sem, occ, ozc] <;> first | assumption | omega | (symm; assumption)) rfl ?_
  all_goals exact ⟨A_q, c_q, rfl, qc.out, (by refine F_res (ok := ?_) ?_ ?_; rotate_left; (repeat (with_reducible first | exact q.out | apply Kd.F_drew | apply Kd.F_drewN | apply Kd.F_alloc | refine Kd.F_far ?_ ?_ _)); all_goals (intro j_ hj_; (try dsimp only at hj_); (try dsimp only); (try simp only [sz_alloc, sz_drew, sz_drewN, sz_set] at hj_); first | omega | exact .inl hj_.1 | exact .inl hj_ | exact .inr (by omega) | (rcases hj_ with hj_ | hj_; exact .inl hj_.1; exact .inr (by omega)) | (rcases hj_ with hj_ | hj_; exact .inl hj_; exact .inr (by omega)) | (rcases hj_.1 with hk_ | hk_; (first | exact .inl hk_.1 | exact .inl hk_); exact .inr (by omega)))), (bG HB)⟩
set_option maxHeartbeats 1600000 in
set_option maxRecDepth 100000 in
theorem store_t1 (A0 : Option Addr) (c0 : Nat) (l0 : List Int) (p c : Int) (A3 : Option Addr) (c3 : Nat) (l3 : List Int) (A4 : Option Addr) (c4 : Nat) (l4 : List Int) (x Y : Int) (w : World) (hY : IntKind.u32.wrap x = Y) (hY0 : 0 ≤ Y) (hY1 : Y < 4294967296) (hck : checkZ l0 p c l3 l4 = true) (hr0 : Kd.C (Kd.int .i64) w A0 l0.length l0) (hr3 : Kd.C (Kd.int .i64) w A3 l3.length l3) (hr4 : Kd.C (Kd.int .i64) w A4 l4.length l4) (hc0 : l0.length ≤ c0) (hc3 : l3.length ≤ c3) (hc4 : l4.length ≤ c4) :
    Calls Try.prog 12 #[.agg #[.slice A0 l0.length c0, .int .i64 p, .int .i64 c, .slice A3 l3.length c3, .slice A4 l4.length c4], .int .u64 2101248, .int .i64 4, .int .u64 x] w fun e w' => ∃ A' c', e = .returned (.tuple #[.agg #[.slice A0 l0.length c0, .int .i64 p, .int .i64 c, .slice A3 l3.length c3, .slice A' (l4.set 1 (Go.bits .and .i64 Y 7)).length c'], .bool true]) ∧ (l4.set 1 (Go.bits .and .i64 Y 7)).length ≤ c' ∧ Kd.F (Kd.int .i64) w' (fun j => w.heap.size ≤ j) A' (l4.set 1 (Go.bits .and .i64 Y 7)).length (l4.set 1 (Go.bits .and .i64 Y 7)) ∧ Below w.heap.size w w' := by
  have HB := Aside0.mk (Below.refl w.heap.size w)
  have hu := Try.underlying24
  obtain ⟨hl0, hl3, hl4⟩ := check_lens hck
  have r0 := Aside0.mk (F_in hr0)
  have r3 := Aside0.mk (F_in hr3)
  have r4 := Aside0.mk (F_in hr4)
  have HK := Aside0.mk hck
  have HC0 := Aside0.mk hc0
  have HC3 := Aside0.mk hc3
  have HC4 := Aside0.mk hc4
  have HWI := Aside0.mk (with_is l4 1 (Go.bits .and .i64 Y 7) (by omega) (by omega))
  clear hr0 hr3 hr4 hck hc0 hc3 hc4 hl0 hl3 hl4
  go_enter Try.func12, Try.ntmps12
  go_wp2_with fail
  (go_at_call 7; (with_reducible refine (check_c true _ _ l0 p c _ _ l3 _ _ l4 _ HK.out (Kd.F_now (fG r0)) (Kd.F_now (fG r3)) (Kd.F_now (fG r4))).mono ?_); rintro e_ w1 ⟨rfl, hb_⟩; have HB_ : Aside0 (Below w.heap.size w w1) := Aside0.mk (below_step (bG HB) hb_); have hzw1 := hb_.size; (try simp at hzw1); have oc_ := Aside0.mk (box_below hb_ (by repeat (with_reducible first | exact nb_1 w _ | apply ext_drew | apply ext_drewN | apply ext_alloc | refine blk_far ?_ (by show _ ≠ _; dsimp only; omega) _))); have oz_ := Aside0.mk (box_below hb_ (by repeat (with_reducible first | exact nb_2 w _ _ | apply ext_drew | apply ext_drewN | apply ext_alloc | refine blk_far ?_ (by show _ ≠ _; dsimp only; omega) _))); have r0_ := Aside0.mk (Kd.F_below (fG r0) hb_); clear r0; have r0 := r0_; clear r0_; have r3_ := Aside0.mk (Kd.F_below (fG r3) hb_); clear r3; have r3 := r3_; clear r3_; have r4_ := Aside0.mk (Kd.F_below (fG r4) hb_); clear r4; have r4 := r4_; clear r4_; (try clear oc occ ocf ocl); have oc := oc_; clear oc_; obtain ⟨occ, ocf, ocl⟩ := cells_of oc.out; (try clear oz ozc ozf ozl); have oz := oz_; clear oz_; obtain ⟨ozc, ozf, ozl⟩ := cells_of oz.out; clear HB hb_; have HB := HB_; clear HB_)
  go_wp2_with fail
  (go_at_call 25; (with_reducible refine (enables_runs _).mono ?_); rintro e_ w2 ⟨rfl, hb_⟩; have HB_ : Aside0 (Below w.heap.size w w2) := Aside0.mk (below_step (bG HB) hb_); have hzw2 := hb_.size; (try simp at hzw2); have oc_ := Aside0.mk (box_below hb_ (eG oc)); have oz_ := Aside0.mk (box_below hb_ (eG oz)); have r0_ := Aside0.mk (Kd.F_below (fG r0) hb_); clear r0; have r0 := r0_; clear r0_; have r3_ := Aside0.mk (Kd.F_below (fG r3) hb_); clear r3; have r3 := r3_; clear r3_; have r4_ := Aside0.mk (Kd.F_below (fG r4) hb_); clear r4; have r4 := r4_; clear r4_; (try clear oc occ ocf ocl); have oc := oc_; clear oc_; obtain ⟨occ, ocf, ocl⟩ := cells_of oc.out; (try clear oz ozc ozf ozl); have oz := oz_; clear oz_; obtain ⟨ozc, ozf, ozl⟩ := cells_of oz.out; clear HB hb_; have HB := HB_; clear HB_)
  go_wp2_with fail
  (go_at_call 26; (with_reducible refine (at_c 8192 8320 2101248 (-1) _ rfl).mono ?_); rintro e_ w3 ⟨rfl, hb_⟩; have HB_ : Aside0 (Below w.heap.size w w3) := Aside0.mk (below_step (bG HB) hb_); have hzw3 := hb_.size; (try simp at hzw3); have oc_ := Aside0.mk (box_below hb_ (eG oc)); have oz_ := Aside0.mk (box_below hb_ (eG oz)); have r0_ := Aside0.mk (Kd.F_below (fG r0) hb_); clear r0; have r0 := r0_; clear r0_; have r3_ := Aside0.mk (Kd.F_below (fG r3) hb_); clear r3; have r3 := r3_; clear r3_; have r4_ := Aside0.mk (Kd.F_below (fG r4) hb_); clear r4; have r4 := r4_; clear r4_; (try clear oc occ ocf ocl); have oc := oc_; clear oc_; obtain ⟨occ, ocf, ocl⟩ := cells_of oc.out; (try clear oz ozc ozf ozl); have oz := oz_; clear oz_; obtain ⟨ozc, ozf, ozl⟩ := cells_of oz.out; clear HB hb_; have HB := HB_; clear HB_)
  go_wp2_with fail
  (go_at_call 27; (with_reducible refine (thresholds_runs _).mono ?_); rintro e_ w4 ⟨rfl, hb_⟩; have HB_ : Aside0 (Below w.heap.size w w4) := Aside0.mk (below_step (bG HB) hb_); have hzw4 := hb_.size; (try simp at hzw4); have oc_ := Aside0.mk (box_below hb_ (eG oc)); have oz_ := Aside0.mk (box_below hb_ (eG oz)); have r0_ := Aside0.mk (Kd.F_below (fG r0) hb_); clear r0; have r0 := r0_; clear r0_; have r3_ := Aside0.mk (Kd.F_below (fG r3) hb_); clear r3; have r3 := r3_; clear r3_; have r4_ := Aside0.mk (Kd.F_below (fG r4) hb_); clear r4; have r4 := r4_; clear r4_; (try clear oc occ ocf ocl); have oc := oc_; clear oc_; obtain ⟨occ, ocf, ocl⟩ := cells_of oc.out; (try clear oz ozc ozf ozl); have oz := oz_; clear oz_; obtain ⟨ozc, ozf, ozl⟩ := cells_of oz.out; clear HB hb_; have HB := HB_; clear HB_)
  go_wp2_with fail
  (go_at_call 26; (with_reducible refine (at_c 2097152 2101248 2101248 (1) _ rfl).mono ?_); rintro e_ w5 ⟨rfl, hb_⟩; have HB_ : Aside0 (Below w.heap.size w w5) := Aside0.mk (below_step (bG HB) hb_); have hzw5 := hb_.size; (try simp at hzw5); have oc_ := Aside0.mk (box_below hb_ (eG oc)); have oz_ := Aside0.mk (box_below hb_ (eG oz)); have r0_ := Aside0.mk (Kd.F_below (fG r0) hb_); clear r0; have r0 := r0_; clear r0_; have r3_ := Aside0.mk (Kd.F_below (fG r3) hb_); clear r3; have r3 := r3_; clear r3_; have r4_ := Aside0.mk (Kd.F_below (fG r4) hb_); clear r4; have r4 := r4_; clear r4_; (try clear oc occ ocf ocl); have oc := oc_; clear oc_; obtain ⟨occ, ocf, ocl⟩ := cells_of oc.out; (try clear oz ozc ozf ozl); have oz := oz_; clear oz_; obtain ⟨ozc, ozf, ozl⟩ := cells_of oz.out; clear HB hb_; have HB := HB_; clear HB_)
  go_wp2_with fail
  (go_at_call 28; (with_reducible refine (claims_runs _).mono ?_); rintro e_ w6 ⟨rfl, hb_⟩; have HB_ : Aside0 (Below w.heap.size w w6) := Aside0.mk (below_step (bG HB) hb_); have hzw6 := hb_.size; (try simp at hzw6); have oc_ := Aside0.mk (box_below hb_ (eG oc)); have oz_ := Aside0.mk (box_below hb_ (eG oz)); have r0_ := Aside0.mk (Kd.F_below (fG r0) hb_); clear r0; have r0 := r0_; clear r0_; have r3_ := Aside0.mk (Kd.F_below (fG r3) hb_); clear r3; have r3 := r3_; clear r3_; have r4_ := Aside0.mk (Kd.F_below (fG r4) hb_); clear r4; have r4 := r4_; clear r4_; (try clear oc occ ocf ocl); have oc := oc_; clear oc_; obtain ⟨occ, ocf, ocl⟩ := cells_of oc.out; (try clear oz ozc ozf ozl); have oz := oz_; clear oz_; obtain ⟨ozc, ozf, ozl⟩ := cells_of oz.out; clear HB hb_; have HB := HB_; clear HB_)
  go_wp2_with fail
  (go_at_call 26; (with_reducible refine (at_c 2097156 2101252 2101248 (-1) _ rfl).mono ?_); rintro e_ w7 ⟨rfl, hb_⟩; have HB_ : Aside0 (Below w.heap.size w w7) := Aside0.mk (below_step (bG HB) hb_); have hzw7 := hb_.size; (try simp at hzw7); have oc_ := Aside0.mk (box_below hb_ (eG oc)); have oz_ := Aside0.mk (box_below hb_ (eG oz)); have r0_ := Aside0.mk (Kd.F_below (fG r0) hb_); clear r0; have r0 := r0_; clear r0_; have r3_ := Aside0.mk (Kd.F_below (fG r3) hb_); clear r3; have r3 := r3_; clear r3_; have r4_ := Aside0.mk (Kd.F_below (fG r4) hb_); clear r4; have r4 := r4_; clear r4_; (try clear oc occ ocf ocl); have oc := oc_; clear oc_; obtain ⟨occ, ocf, ocl⟩ := cells_of oc.out; (try clear oz ozc ozf ozl); have oz := oz_; clear oz_; obtain ⟨ozc, ozf, ozl⟩ := cells_of oz.out; clear HB hb_; have HB := HB_; clear HB_)
  go_wp2_with fail
  (go_at_call 29; (with_reducible refine (plic_with.calls _ _ l4 1 (Go.bits .and .i64 Y 7) _ _ (Kd.F_now (fG r4)) HC4.out HWI.out).mono ?_); rintro e_ w8 ⟨v_q, rfl, hr_q, hb_⟩; have HB_ : Aside0 (Below w.heap.size w w8) := Aside0.mk (below_step (bG HB) hb_); have hzw8 := hb_.size; (try simp at hzw8); have oc_ := Aside0.mk (box_below hb_ (eG oc)); have oz_ := Aside0.mk (box_below hb_ (eG oz)); have r0_ := Aside0.mk (Kd.F_below (fG r0) hb_); clear r0; have r0 := r0_; clear r0_; have r3_ := Aside0.mk (Kd.F_below (fG r3) hb_); clear r3; have r3 := r3_; clear r3_; have r4_ := Aside0.mk (Kd.F_below (fG r4) hb_); clear r4; have r4 := r4_; clear r4_; (try clear oc occ ocf ocl); have oc := oc_; clear oc_; obtain ⟨occ, ocf, ocl⟩ := cells_of oc.out; (try clear oz ozc ozf ozl); have oz := oz_; clear oz_; obtain ⟨ozc, ozf, ozl⟩ := cells_of oz.out; clear HB hb_; have HB := HB_; clear HB_; obtain ⟨A_q, c_q, ev_, hc_q, hf_q⟩ := R_Fl hr_q; subst ev_; have qc := Aside0.mk hc_q; have q := Aside0.mk (Kd.F_bound hf_q); clear hc_q hf_q hr_q; skip)
  go_wp2
  (first | go_region | skip)
  all_goals go_wp2
  all_goals refine bodyPost_ret (v := .tuple #[.agg #[.slice A0 l0.length c0, .int .i64 p, .int .i64 c, .slice A3 l3.length c3, .slice A_q (l4.set 1 (Go.bits .and .i64 Y 7)).length c_q], .bool true]) (by simp [results, Try.results12, go_sem, occ, ozc] <;> first | assumption | omega | (symm; assumption)) rfl ?_
  all_goals exact ⟨A_q, c_q, rfl, qc.out, (by refine F_res (ok := ?_) ?_ ?_; rotate_left; (repeat (with_reducible first | exact q.out | apply Kd.F_drew | apply Kd.F_drewN | apply Kd.F_alloc | refine Kd.F_far ?_ ?_ _)); all_goals (intro j_ hj_; (try dsimp only at hj_); (try dsimp only); (try simp only [sz_alloc, sz_drew, sz_drewN, sz_set] at hj_); first | omega | exact .inl hj_.1 | exact .inl hj_ | exact .inr (by omega) | (rcases hj_ with hj_ | hj_; exact .inl hj_.1; exact .inr (by omega)) | (rcases hj_ with hj_ | hj_; exact .inl hj_; exact .inr (by omega)) | (rcases hj_.1 with hk_ | hk_; (first | exact .inl hk_.1 | exact .inl hk_); exact .inr (by omega)))), (bG HB)⟩
end Go.Proofs.Ytmlpnjoejdpblaa.Q
end
