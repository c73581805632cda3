import Derived.Test.YtgcpedenlbcdgaaHZ4
import Derived.Test.YtgcpedenlbcdgaaHDwts
import Derived.Test.YtgcpedenlbcdgaaHDwfs
import Derived.Deep.DrawnRows
import Derived.Deep.QuietTactic
import Derived.BigQuiet
/- decode.word, whole. -/
namespace Go.Proofs.Ytgcpedenlbcdgaa.Q
open Go.RowKit Go.Proofs.YtgcpedenlbcdgaaW.PrintWords Go.Proofs.YtgcpedenlbcdgaaW.PrintLast Go.Proofs.YtgcpedenlbcdgaaW.PrintMore Go.Proofs.Ytgcpedenlbcdgaa.L
attribute [local go_sem] Instr.field part asAgg lt_step max2_int min2_int max_two min_two max_three min_three max_four min_four lt_0_1 lt_0_2 lt_1_2 lt_0_3 lt_1_3 lt_2_3 lt_0_4 lt_1_4 lt_2_4 lt_3_4 lt_0_5 lt_1_5 lt_2_5 lt_3_5 lt_4_5 lt_0_6 lt_1_6 lt_2_6 lt_3_6 lt_4_6 lt_5_6 lt_0_7 lt_1_7 lt_2_7 lt_3_7 lt_4_7 lt_5_7 lt_6_7 lt_0_8 lt_1_8 lt_2_8 lt_3_8 lt_4_8 lt_5_8 lt_6_8 lt_7_8
set_option linter.unusedVariables false
set_option linter.unusedSimpArgs false
attribute [local go_sem ↓] Go.wp_at_zero Go.wp_at_succ
def syswZ (F : Int) : Int := if F = 0 then 115 else if F = 1 then 1048691 else if F = 2 then 270532723 else if F = 3 then 807403635 else 273678451
def wordV_true (c f rd r1 r2 m : Int) : Int := if c == 1 then (Go.bits .or .u32 (putZ 55 0 0 rd r1 r2) (Go.bits .andNot .u32 (m % 4294967296) 4095)) else if c == 2 then (Go.bits .or .u32 (putZ 23 0 0 rd r1 r2) (Go.bits .andNot .u32 (m % 4294967296) 4095)) else if c == 3 then (Go.bits .or .u32 (Go.bits .or .u32 (Go.bits .or .u32 (Go.bits .or .u32 (putZ 111 0 0 rd r1 r2) ((Go.bits .and .u32 (m % 4294967296 / 1048576) 1) * 2147483648 % 4294967296)) ((Go.bits .and .u32 (m % 4294967296 / 2) 1023) * 2097152 % 4294967296)) ((Go.bits .and .u32 (m % 4294967296 / 2048) 1) * 1048576 % 4294967296)) ((Go.bits .and .u32 (m % 4294967296 / 4096) 255) * 4096 % 4294967296)) else if c == 4 then (Go.bits .or .u32 (putZ 103 0 0 rd r1 r2) (m % 4294967296 * 1048576 % 4294967296)) else if c == 5 then (Go.bits .or .u32 (Go.bits .or .u32 (Go.bits .or .u32 (Go.bits .or .u32 (putZ 99 (f % 4294967296) 0 rd r1 r2) ((Go.bits .and .u32 (m % 4294967296 / 4096) 1) * 2147483648 % 4294967296)) ((Go.bits .and .u32 (m % 4294967296 / 32) 63) * 33554432 % 4294967296)) ((Go.bits .and .u32 (m % 4294967296 / 2) 15) * 256 % 4294967296)) ((Go.bits .and .u32 (m % 4294967296 / 2048) 1) * 128 % 4294967296)) else if c == 6 then (Go.bits .or .u32 (putZ 3 (f % 4294967296) 0 rd r1 r2) (m % 4294967296 * 1048576 % 4294967296)) else if c == 7 then (Go.bits .or .u32 (putZ 35 (f % 4294967296) (Go.bits .and .u32 (m % 4294967296 / 32) 127) rd r1 r2) ((Go.bits .and .u32 (m % 4294967296) 31) * 128 % 4294967296)) else if c == 8 then (if f == 13 then (Go.bits .or .u32 (putZ (Go.bits .or .u32 19 8) 5 32 rd r1 r2) (m % 4294967296 * 1048576 % 4294967296)) else (Go.bits .or .u32 (putZ (Go.bits .or .u32 19 8) (f % 4294967296) 0 rd r1 r2) (m % 4294967296 * 1048576 % 4294967296))) else if c == 9 then (putZ (Go.bits .or .u32 51 8) (Go.bits .and .u32 (f % 4294967296) 7) (Go.bits .or .i64 (Go.bits .and .i64 (f / 16) 1) (wrap64 (Go.bits .and .i64 (f / 8) 1 * 32)) % 4294967296) rd r1 r2) else if c == 10 then (putZ 15 (f % 4294967296) 0 rd r1 r2) else if c == 11 then (if f == 5 then (putZ 115 0 9 rd r1 r2) else syswZ (f % 4294967296)) else if c == 12 then (Go.bits .or .u32 (putZ 115 (f % 4294967296) 0 rd r1 r2) (m % 4294967296 * 1048576 % 4294967296)) else if c == 13 then (putZ 47 2 (f % 4294967296 * 4 % 4294967296) rd r1 r2) else 0
theorem word_true (c f rd r1 r2 m : Int) (w : World) (a0 : 0 ≤ rd) (a1 : rd ≤ 31) (b0 : 0 ≤ r1) (b1 : r1 ≤ 31) (d0 : 0 ≤ r2) (d1 : r2 ≤ 31) :
    Calls Try.prog 21 #[.agg #[.int .i64 c, .int .i64 f, .bool true, .int .i64 rd, .int .i64 r1, .int .i64 r2, .int .u64 m]] w fun e w' => e = .returned (.int .u32 (wordV_true c f rd r1 r2 m)) ∧ Below w.heap.size w w' := by
  unfold wordV_true
  cases c1 : c == 1
  case true =>
    simp only [if_true]
    exact word_true_1 c f rd r1 r2 m w a0 a1 b0 b1 d0 d1 c1
  simp only [Bool.false_eq_true, if_false]
  cases c2 : c == 2
  case true =>
    simp only [if_true]
    exact word_true_2 c f rd r1 r2 m w a0 a1 b0 b1 d0 d1 c1 c2
  simp only [Bool.false_eq_true, if_false]
  cases c3 : c == 3
  case true =>
    simp only [if_true]
    exact word_true_3 c f rd r1 r2 m w a0 a1 b0 b1 d0 d1 c1 c2 c3
  simp only [Bool.false_eq_true, if_false]
  cases c4 : c == 4
  case true =>
    simp only [if_true]
    exact word_true_4 c f rd r1 r2 m w a0 a1 b0 b1 d0 d1 c1 c2 c3 c4
  simp only [Bool.false_eq_true, if_false]
  cases c5 : c == 5
  case true =>
    simp only [if_true]
    exact word_true_5 c f rd r1 r2 m w a0 a1 b0 b1 d0 d1 c1 c2 c3 c4 c5
  simp only [Bool.false_eq_true, if_false]
  cases c6 : c == 6
  case true =>
    simp only [if_true]
    exact word_true_6 c f rd r1 r2 m w a0 a1 b0 b1 d0 d1 c1 c2 c3 c4 c5 c6
  simp only [Bool.false_eq_true, if_false]
  cases c7 : c == 7
  case true =>
    simp only [if_true]
    exact word_true_7 c f rd r1 r2 m w a0 a1 b0 b1 d0 d1 c1 c2 c3 c4 c5 c6 c7
  simp only [Bool.false_eq_true, if_false]
  cases c8 : c == 8
  case true =>
    simp only [if_true]
    cases k0 : f == 13
    · exact word_true_8b c f rd r1 r2 m w a0 a1 b0 b1 d0 d1 c1 c2 c3 c4 c5 c6 c7 c8 k0
    · exact word_true_8a c f rd r1 r2 m w a0 a1 b0 b1 d0 d1 c1 c2 c3 c4 c5 c6 c7 c8 k0
  simp only [Bool.false_eq_true, if_false]
  cases c9 : c == 9
  case true =>
    simp only [if_true]
    exact word_true_9 c f rd r1 r2 m w a0 a1 b0 b1 d0 d1 c1 c2 c3 c4 c5 c6 c7 c8 c9
  simp only [Bool.false_eq_true, if_false]
  cases c10 : c == 10
  case true =>
    simp only [if_true]
    exact word_true_10 c f rd r1 r2 m w a0 a1 b0 b1 d0 d1 c1 c2 c3 c4 c5 c6 c7 c8 c9 c10
  simp only [Bool.false_eq_true, if_false]
  cases c11 : c == 11
  case true =>
    simp only [if_true]
    cases k0 : f == 5
    case true => exact word_true_11a c f rd r1 r2 m w a0 a1 b0 b1 d0 d1 c1 c2 c3 c4 c5 c6 c7 c8 c9 c10 c11 k0
    simp only [Bool.false_eq_true, if_false]
    unfold syswZ
    by_cases F0 : f % 4294967296 = 0
    · rw [if_pos F0]; exact word_true_11_0 c f rd r1 r2 m w a0 a1 b0 b1 d0 d1 c1 c2 c3 c4 c5 c6 c7 c8 c9 c10 c11 k0 F0
    rw [if_neg F0]
    by_cases F1 : f % 4294967296 = 1
    · rw [if_pos F1]; exact word_true_11_1 c f rd r1 r2 m w a0 a1 b0 b1 d0 d1 c1 c2 c3 c4 c5 c6 c7 c8 c9 c10 c11 k0 F1
    rw [if_neg F1]
    by_cases F2 : f % 4294967296 = 2
    · rw [if_pos F2]; exact word_true_11_2 c f rd r1 r2 m w a0 a1 b0 b1 d0 d1 c1 c2 c3 c4 c5 c6 c7 c8 c9 c10 c11 k0 F2
    rw [if_neg F2]
    by_cases F3 : f % 4294967296 = 3
    · rw [if_pos F3]; exact word_true_11_3 c f rd r1 r2 m w a0 a1 b0 b1 d0 d1 c1 c2 c3 c4 c5 c6 c7 c8 c9 c10 c11 k0 F3
    rw [if_neg F3]
    by_cases F4 : f % 4294967296 = 4
    · exact word_true_11_4 c f rd r1 r2 m w a0 a1 b0 b1 d0 d1 c1 c2 c3 c4 c5 c6 c7 c8 c9 c10 c11 k0 F4
    · exact word_true_11_5 c f rd r1 r2 m w a0 a1 b0 b1 d0 d1 c1 c2 c3 c4 c5 c6 c7 c8 c9 c10 c11 k0 (by omega)
  simp only [Bool.false_eq_true, if_false]
  cases c12 : c == 12
  case true =>
    simp only [if_true]
    exact word_true_12 c f rd r1 r2 m w a0 a1 b0 b1 d0 d1 c1 c2 c3 c4 c5 c6 c7 c8 c9 c10 c11 c12
  simp only [Bool.false_eq_true, if_false]
  cases c13 : c == 13
  case true =>
    simp only [if_true]
    exact word_true_13 c f rd r1 r2 m w a0 a1 b0 b1 d0 d1 c1 c2 c3 c4 c5 c6 c7 c8 c9 c10 c11 c12 c13
  simp only [Bool.false_eq_true, if_false]
  exact word_true_0 c f rd r1 r2 m w a0 a1 b0 b1 d0 d1 c1 c2 c3 c4 c5 c6 c7 c8 c9 c10 c11 c12 c13
def wordV_false (c f rd r1 r2 m : Int) : Int := if c == 1 then (Go.bits .or .u32 (putZ 55 0 0 rd r1 r2) (Go.bits .andNot .u32 (m % 4294967296) 4095)) else if c == 2 then (Go.bits .or .u32 (putZ 23 0 0 rd r1 r2) (Go.bits .andNot .u32 (m % 4294967296) 4095)) else if c == 3 then (Go.bits .or .u32 (Go.bits .or .u32 (Go.bits .or .u32 (Go.bits .or .u32 (putZ 111 0 0 rd r1 r2) ((Go.bits .and .u32 (m % 4294967296 / 1048576) 1) * 2147483648 % 4294967296)) ((Go.bits .and .u32 (m % 4294967296 / 2) 1023) * 2097152 % 4294967296)) ((Go.bits .and .u32 (m % 4294967296 / 2048) 1) * 1048576 % 4294967296)) ((Go.bits .and .u32 (m % 4294967296 / 4096) 255) * 4096 % 4294967296)) else if c == 4 then (Go.bits .or .u32 (putZ 103 0 0 rd r1 r2) (m % 4294967296 * 1048576 % 4294967296)) else if c == 5 then (Go.bits .or .u32 (Go.bits .or .u32 (Go.bits .or .u32 (Go.bits .or .u32 (putZ 99 (f % 4294967296) 0 rd r1 r2) ((Go.bits .and .u32 (m % 4294967296 / 4096) 1) * 2147483648 % 4294967296)) ((Go.bits .and .u32 (m % 4294967296 / 32) 63) * 33554432 % 4294967296)) ((Go.bits .and .u32 (m % 4294967296 / 2) 15) * 256 % 4294967296)) ((Go.bits .and .u32 (m % 4294967296 / 2048) 1) * 128 % 4294967296)) else if c == 6 then (Go.bits .or .u32 (putZ 3 (f % 4294967296) 0 rd r1 r2) (m % 4294967296 * 1048576 % 4294967296)) else if c == 7 then (Go.bits .or .u32 (putZ 35 (f % 4294967296) (Go.bits .and .u32 (m % 4294967296 / 32) 127) rd r1 r2) ((Go.bits .and .u32 (m % 4294967296) 31) * 128 % 4294967296)) else if c == 8 then (if f == 13 then (Go.bits .or .u32 (putZ (Go.bits .or .u32 19 0) 5 32 rd r1 r2) (m % 4294967296 * 1048576 % 4294967296)) else (Go.bits .or .u32 (putZ (Go.bits .or .u32 19 0) (f % 4294967296) 0 rd r1 r2) (m % 4294967296 * 1048576 % 4294967296))) else if c == 9 then (putZ (Go.bits .or .u32 51 0) (Go.bits .and .u32 (f % 4294967296) 7) (Go.bits .or .i64 (Go.bits .and .i64 (f / 16) 1) (wrap64 (Go.bits .and .i64 (f / 8) 1 * 32)) % 4294967296) rd r1 r2) else if c == 10 then (putZ 15 (f % 4294967296) 0 rd r1 r2) else if c == 11 then (if f == 5 then (putZ 115 0 9 rd r1 r2) else syswZ (f % 4294967296)) else if c == 12 then (Go.bits .or .u32 (putZ 115 (f % 4294967296) 0 rd r1 r2) (m % 4294967296 * 1048576 % 4294967296)) else if c == 13 then (putZ 47 3 (f % 4294967296 * 4 % 4294967296) rd r1 r2) else 0
theorem word_false (c f rd r1 r2 m : Int) (w : World) (a0 : 0 ≤ rd) (a1 : rd ≤ 31) (b0 : 0 ≤ r1) (b1 : r1 ≤ 31) (d0 : 0 ≤ r2) (d1 : r2 ≤ 31) :
    Calls Try.prog 21 #[.agg #[.int .i64 c, .int .i64 f, .bool false, .int .i64 rd, .int .i64 r1, .int .i64 r2, .int .u64 m]] w fun e w' => e = .returned (.int .u32 (wordV_false c f rd r1 r2 m)) ∧ Below w.heap.size w w' := by
  unfold wordV_false
  cases c1 : c == 1
  case true =>
    simp only [if_true]
    exact word_false_1 c f rd r1 r2 m w a0 a1 b0 b1 d0 d1 c1
  simp only [Bool.false_eq_true, if_false]
  cases c2 : c == 2
  case true =>
    simp only [if_true]
    exact word_false_2 c f rd r1 r2 m w a0 a1 b0 b1 d0 d1 c1 c2
  simp only [Bool.false_eq_true, if_false]
  cases c3 : c == 3
  case true =>
    simp only [if_true]
    exact word_false_3 c f rd r1 r2 m w a0 a1 b0 b1 d0 d1 c1 c2 c3
  simp only [Bool.false_eq_true, if_false]
  cases c4 : c == 4
  case true =>
    simp only [if_true]
    exact word_false_4 c f rd r1 r2 m w a0 a1 b0 b1 d0 d1 c1 c2 c3 c4
  simp only [Bool.false_eq_true, if_false]
  cases c5 : c == 5
  case true =>
    simp only [if_true]
    exact word_false_5 c f rd r1 r2 m w a0 a1 b0 b1 d0 d1 c1 c2 c3 c4 c5
  simp only [Bool.false_eq_true, if_false]
  cases c6 : c == 6
  case true =>
    simp only [if_true]
    exact word_false_6 c f rd r1 r2 m w a0 a1 b0 b1 d0 d1 c1 c2 c3 c4 c5 c6
  simp only [Bool.false_eq_true, if_false]
  cases c7 : c == 7
  case true =>
    simp only [if_true]
    exact word_false_7 c f rd r1 r2 m w a0 a1 b0 b1 d0 d1 c1 c2 c3 c4 c5 c6 c7
  simp only [Bool.false_eq_true, if_false]
  cases c8 : c == 8
  case true =>
    simp only [if_true]
    cases k0 : f == 13
    · exact word_false_8b c f rd r1 r2 m w a0 a1 b0 b1 d0 d1 c1 c2 c3 c4 c5 c6 c7 c8 k0
    · exact word_false_8a c f rd r1 r2 m w a0 a1 b0 b1 d0 d1 c1 c2 c3 c4 c5 c6 c7 c8 k0
  simp only [Bool.false_eq_true, if_false]
  cases c9 : c == 9
  case true =>
    simp only [if_true]
    exact word_false_9 c f rd r1 r2 m w a0 a1 b0 b1 d0 d1 c1 c2 c3 c4 c5 c6 c7 c8 c9
  simp only [Bool.false_eq_true, if_false]
  cases c10 : c == 10
  case true =>
    simp only [if_true]
    exact word_false_10 c f rd r1 r2 m w a0 a1 b0 b1 d0 d1 c1 c2 c3 c4 c5 c6 c7 c8 c9 c10
  simp only [Bool.false_eq_true, if_false]
  cases c11 : c == 11
  case true =>
    simp only [if_true]
    cases k0 : f == 5
    case true => exact word_false_11a c f rd r1 r2 m w a0 a1 b0 b1 d0 d1 c1 c2 c3 c4 c5 c6 c7 c8 c9 c10 c11 k0
    simp only [Bool.false_eq_true, if_false]
    unfold syswZ
    by_cases F0 : f % 4294967296 = 0
    · rw [if_pos F0]; exact word_false_11_0 c f rd r1 r2 m w a0 a1 b0 b1 d0 d1 c1 c2 c3 c4 c5 c6 c7 c8 c9 c10 c11 k0 F0
    rw [if_neg F0]
    by_cases F1 : f % 4294967296 = 1
    · rw [if_pos F1]; exact word_false_11_1 c f rd r1 r2 m w a0 a1 b0 b1 d0 d1 c1 c2 c3 c4 c5 c6 c7 c8 c9 c10 c11 k0 F1
    rw [if_neg F1]
    by_cases F2 : f % 4294967296 = 2
    · rw [if_pos F2]; exact word_false_11_2 c f rd r1 r2 m w a0 a1 b0 b1 d0 d1 c1 c2 c3 c4 c5 c6 c7 c8 c9 c10 c11 k0 F2
    rw [if_neg F2]
    by_cases F3 : f % 4294967296 = 3
    · rw [if_pos F3]; exact word_false_11_3 c f rd r1 r2 m w a0 a1 b0 b1 d0 d1 c1 c2 c3 c4 c5 c6 c7 c8 c9 c10 c11 k0 F3
    rw [if_neg F3]
    by_cases F4 : f % 4294967296 = 4
    · exact word_false_11_4 c f rd r1 r2 m w a0 a1 b0 b1 d0 d1 c1 c2 c3 c4 c5 c6 c7 c8 c9 c10 c11 k0 F4
    · exact word_false_11_5 c f rd r1 r2 m w a0 a1 b0 b1 d0 d1 c1 c2 c3 c4 c5 c6 c7 c8 c9 c10 c11 k0 (by omega)
  simp only [Bool.false_eq_true, if_false]
  cases c12 : c == 12
  case true =>
    simp only [if_true]
    exact word_false_12 c f rd r1 r2 m w a0 a1 b0 b1 d0 d1 c1 c2 c3 c4 c5 c6 c7 c8 c9 c10 c11 c12
  simp only [Bool.false_eq_true, if_false]
  cases c13 : c == 13
  case true =>
    simp only [if_true]
    exact word_false_13 c f rd r1 r2 m w a0 a1 b0 b1 d0 d1 c1 c2 c3 c4 c5 c6 c7 c8 c9 c10 c11 c12 c13
  simp only [Bool.false_eq_true, if_false]
  exact word_false_0 c f rd r1 r2 m w a0 a1 b0 b1 d0 d1 c1 c2 c3 c4 c5 c6 c7 c8 c9 c10 c11 c12 c13
def wordV (i : Ins) : Int := if i.b then wordV_true i.c i.f i.rd i.r1 i.r2 i.m else wordV_false i.c i.f i.rd i.r1 i.r2 i.m
def regs (i : Ins) : Prop := (0 ≤ i.rd ∧ i.rd ≤ 31) ∧ (0 ≤ i.r1 ∧ i.r1 ≤ 31) ∧ (0 ≤ i.r2 ∧ i.r2 ≤ 31)
instance (i : Ins) : Decidable (regs i) := inferInstanceAs (Decidable (_ ∧ _))
theorem word_runs (i : Ins) (w : World) (h : regs i) : Calls Try.prog 21 #[.agg i.cs] w fun e w' => e = .returned (.int .u32 (wordV i)) ∧ Below w.heap.size w w' := by
  obtain ⟨c, f, b, rd, r1, r2, m⟩ := i
  obtain ⟨⟨a0, a1⟩, ⟨b0, b1⟩, ⟨d0, d1⟩⟩ := h
  cases b
  · exact word_false c f rd r1 r2 m w a0 a1 b0 b1 d0 d1
  · exact word_true c f rd r1 r2 m w a0 a1 b0 b1 d0 d1
end Go.Proofs.Ytgcpedenlbcdgaa.Q
