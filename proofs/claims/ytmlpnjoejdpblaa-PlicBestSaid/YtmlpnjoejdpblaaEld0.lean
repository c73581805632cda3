/- plic.Load, its walks (what they share). -/
import Derived.Test.YtmlpnjoejdpblaaEchk
import Derived.Test.YtmlpnjoejdpblaaEat
import Derived.Test.YtmlpnjoejdpblaaQx2
import Derived.Deep.DrawnRows
namespace Go.Proofs.Ytmlpnjoejdpblaa.Q
open Go.RowKit Go.Proofs.YtmlpnjoejdpblaaW.PrintWords Go.Proofs.YtmlpnjoejdpblaaW.PrintLast Go.Proofs.YtmlpnjoejdpblaaW.PrintMore Go.Proofs.Ytmlpnjoejdpblaa.L
attribute [local go_sem] Instr.field part asAgg lt_step max2_int min2_int max_two min_two max_three min_three max_four min_four lt_0_1 lt_0_2 lt_1_2 lt_0_3 lt_1_3 lt_2_3 lt_0_4 lt_1_4 lt_2_4 lt_3_4 lt_0_5 lt_1_5 lt_2_5 lt_3_5 lt_4_5 lt_0_6 lt_1_6 lt_2_6 lt_3_6 lt_4_6 lt_5_6 lt_0_7 lt_1_7 lt_2_7 lt_3_7 lt_4_7 lt_5_7 lt_6_7 lt_0_8 lt_1_8 lt_2_8 lt_3_8 lt_4_8 lt_5_8 lt_6_8 lt_7_8
set_option linter.unusedVariables false
set_option linter.unusedSimpArgs false
attribute [local go_sem ↓] Go.wp_at_zero Go.wp_at_succ
theorem F_at {k : IntKind} {W : World} {ok : Nat → Prop} {b o n : Nat} {xs : List Int} (h : Kd.F (Kd.int k) W ok (some ⟨b, o, none⟩) n xs) (i : Nat) (hi : i < n) : W.cell? ⟨b, o + i, none⟩ = some (.int k (rd xs (i : Int))) := by
  obtain ⟨b', o', e, hc⟩ := F_cell' h (by omega)
  injection e with e; injection e with e1 e2
  subst e1; subst e2
  have := hc i hi
  rw [this]; unfold rd; rw [Int.toNat_natCast]
theorem check_c (B : Bool) (A0 : Option Addr) (c0 : Nat) (l0 : List Int) (p c : Int) (A3 : Option Addr) (c3 : Nat) (l3 : List Int) (A4 : Option Addr) (c4 : Nat) (l4 : List Int) (w : World) (hB : checkZ l0 p c l3 l4 = B) (hr0 : Kd.C (Kd.int .i64) w A0 l0.length l0) (hr3 : Kd.C (Kd.int .i64) w A3 l3.length l3) (hr4 : Kd.C (Kd.int .i64) w A4 l4.length l4) :
    Calls Try.prog 7 #[.agg #[.slice A0 l0.length c0, .int .i64 p, .int .i64 c, .slice A3 l3.length c3, .slice A4 l4.length c4]] w fun e w' => e = .returned (.bool B) ∧ Below w.heap.size w w' := by
  rw [← hB]; exact check_runs _ _ _ _ _ _ _ _ _ _ _ _ hr0 hr3 hr4
theorem at_c (a b x i : Int) (w : World) (h : at2Z a b x = i) : Calls Try.prog 26 #[.agg #[.int .u64 a, .int .u64 b], .int .u64 x] w fun e w' => e = .returned (.int .i64 i) ∧ Below w.heap.size w w' := by
  subst h; exact at_runs a b x w
theorem check_lens {l0 : List Int} {p c : Int} {l3 l4 : List Int} (h : checkZ l0 p c l3 l4 = true) : l0.length = 3 ∧ l3.length = 2 ∧ l4.length = 2 := by
  unfold checkZ shapeZ at h
  simp only [Bool.and_eq_true, decide_eq_true_eq] at h
  exact ⟨h.1.1.1.1.1, h.1.1.1.1.2, h.1.1.1.2⟩
end Go.Proofs.Ytmlpnjoejdpblaa.Q
