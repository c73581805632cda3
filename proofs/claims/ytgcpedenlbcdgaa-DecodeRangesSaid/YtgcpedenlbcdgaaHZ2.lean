import Derived.Test.YtgcpedenlbcdgaaHQx2
import Derived.Test.YtgcpedenlbcdgaaHZ1
import Derived.Test.YtgcpedenlbcdgaaPm
import Derived.Deep.DrawnRows
import Derived.Deep.QuietTactic
import Derived.BigQuiet
import Derived.Deep.RegionWith
import Derived.RegionTactic
import Derived.StillTailTactics
import Derived.Deep.RegionHeld3
section
/- Field (layer 1). -/
set_option linter.unusedVariables false
namespace Go.Proofs.Ytgcpedenlbcdgaa.Q
open Go.RowKit Go.Proofs.YtgcpedenlbcdgaaW.PrintWords Go.Proofs.YtgcpedenlbcdgaaW.PrintLast Go.Proofs.YtgcpedenlbcdgaaW.PrintMore Go.Proofs.Ytgcpedenlbcdgaa.L
theorem field_tells (x h l : Int) (hx : u64B x) (hh : -9223372036854775808 ≤ h ∧ h ≤ 9223372036854775807) (hl : -9223372036854775808 ≤ l ∧ l ≤ 9223372036854775807) : bits_Field.f x h l = some (fieldZ x h l) := by
  unfold bits_Field.f fieldZ
  by_cases h1 : l < 0
  · rw [if_pos h1, if_pos (.inl h1)]
  · by_cases h2 : l > h
    · rw [if_neg h1, if_pos h2, if_pos (.inr (.inl h2))]
    · by_cases h3 : h ≥ 64
      · rw [if_neg h1, if_neg h2, if_pos h3, if_pos (.inr (.inr (by omega)))]
      · obtain ⟨L, rfl⟩ := Int.eq_ofNat_of_zero_le (show 0 ≤ l by omega)
        obtain ⟨H, rfl⟩ := Int.eq_ofNat_of_zero_le (show 0 ≤ h by omega)
        obtain ⟨X, rfl⟩ := Int.eq_ofNat_of_zero_le hx.1
        rw [if_neg h1, if_neg h2, if_neg h3, w64 (x := 63 - (H : Int)) (by omega) (by omega), w64 (x := 63 - (H : Int) + L) (by omega) (by omega), if_pos (by omega), if_pos (by omega), if_neg (by omega)]
        have e1 : (63 - (H : Int)) = ((63 - H : Nat) : Int) := by omega
        have e2 : (63 - (H : Int) + L) = ((63 - H + L : Nat) : Int) := by omega
        have e3 : ((H : Int) - L + 1).toNat = H - L + 1 := by omega
        rw [e2, e1, shl_u64 _ _ (by omega), shr_u64 _ _ (by omega), e3, Int.toNat_natCast]
        congr 1
        have e := field_nat X (63 - H) L (H - L + 1) (by omega)
        have e' : (((X * 2 ^ (63 - H) % 2 ^ 64 / 2 ^ (63 - H + L) : Nat)) : Int) = ((X / 2 ^ L % 2 ^ (H - L + 1) : Nat) : Int) := by rw [e]
        simpa using e'
end Go.Proofs.Ytgcpedenlbcdgaa.Q
end
section
/- Sext (layer 1). -/
set_option linter.unusedVariables false
namespace Go.Proofs.Ytgcpedenlbcdgaa.Q
open Go.RowKit Go.Proofs.YtgcpedenlbcdgaaW.PrintWords Go.Proofs.YtgcpedenlbcdgaaW.PrintLast Go.Proofs.YtgcpedenlbcdgaaW.PrintMore Go.Proofs.Ytgcpedenlbcdgaa.L
theorem sext_tells (x n : Int) (hx : u64B x) (hn : -9223372036854775808 ≤ n ∧ n ≤ 9223372036854775807) : bits_Sext.f x n = some (sextZ x n) := by
  unfold bits_Sext.f
  by_cases h1 : n ≤ 0
  · rw [if_pos h1, sextZ_le x n h1]
  · by_cases h2 : n ≥ 64
    · rw [if_neg h1, if_pos h2, sextZ_ge x n (by omega)]
    · obtain ⟨N, rfl⟩ := Int.eq_ofNat_of_zero_le (show 0 ≤ n by omega)
      obtain ⟨X, rfl⟩ := Int.eq_ofNat_of_zero_le hx.1
      rw [if_neg h1, if_neg h2, w64 (x := 64 - (N : Int)) (by omega) (by omega), if_pos (by omega)]
      have e1 : (64 - (N : Int)) = ((64 - N : Nat) : Int) := by omega
      rw [e1, shl_u64 _ _ (by omega)]
      unfold sextZ shr
      rw [if_neg (by omega), if_neg (by omega), Int.toNat_natCast, Int.toNat_natCast, show IntKind.i64.bits = 64 from rfl, Nat.min_eq_left (by omega)]
      have hp := two_pow_pos N
      have hq := two_pow_pos (64 - N)
      have hpq : (2 : Int) ^ (64 - N) * 2 ^ N = 18446744073709551616 := by
        rw [← Int.pow_add, show 64 - N + N = 64 by omega]; decide
      have hpp := two_pow_pred (n := N) (by omega)
      have hl := two_pow_lt64 (n := N) (by omega)
      have hlow : ((X : Int) * 2 ^ (64 - N) % 18446744073709551616) = 2 ^ (64 - N) * ((X : Int) % 2 ^ N) := by
        rw [← hpq, Int.mul_comm (X : Int), Int.mul_emod_mul_of_pos _ _ hq]
      rw [hlow]
      have hA0 := Int.emod_nonneg (X : Int) (Int.ne_of_gt hp)
      have hA1 := Int.emod_lt_of_pos (X : Int) hp
      clear hlow
      generalize (X : Int) % 2 ^ N = A at hA0 hA1 ⊢
      generalize (2 : Int) ^ (64 - N) = Q at hq hpq ⊢
      generalize (2 : Int) ^ N = P at hp hpq hpp hl hA1 ⊢
      generalize (2 : Int) ^ (N - 1) = R at hpp ⊢
      have hQA0 : 0 ≤ Q * A := Int.mul_nonneg (Int.le_of_lt hq) hA0
      by_cases hlt : A < R
      · rw [if_pos hlt]
        have h2A : Q * A < 9223372036854775808 := by
          have h1 : Q * A < Q * R := Int.mul_lt_mul_of_pos_left hlt hq
          have h2 : Q * P = 2 * (Q * R) := by rw [hpp, ← Int.mul_assoc, Int.mul_comm Q 2, Int.mul_assoc]
          omega
        rw [w64 (by omega) (by omega), Int.mul_ediv_cancel_left _ (Int.ne_of_gt hq), u64_i64 hA0 (by omega)]
      · rw [if_neg hlt]
        have h2A : 9223372036854775808 ≤ Q * A := by
          have h1 : Q * R ≤ Q * A := Int.mul_le_mul_of_nonneg_left (by omega) (Int.le_of_lt hq)
          have h2 : Q * P = 2 * (Q * R) := by rw [hpp, ← Int.mul_assoc, Int.mul_comm Q 2, Int.mul_assoc]
          omega
        have h2B : Q * A < 18446744073709551616 := by
          have h1 : Q * A < Q * P := Int.mul_lt_mul_of_pos_left hA1 hq
          omega
        have hw : wrap64 (Q * A) = Q * (A - P) := by
          rw [Int.mul_sub, hpq]; unfold wrap64; omega
        rw [hw, Int.mul_ediv_cancel_left _ (Int.ne_of_gt hq), IntKind.wrap_u64]
        congr 1
        omega
/-! ### Align -/
end Go.Proofs.Ytgcpedenlbcdgaa.Q
end
section
/- Fields of a word, by the closure that takes them. -/
namespace Go.Proofs.Ytgcpedenlbcdgaa.Q
open Go.RowKit Go.Proofs.YtgcpedenlbcdgaaW.PrintWords Go.Proofs.YtgcpedenlbcdgaaW.PrintLast Go.Proofs.YtgcpedenlbcdgaaW.PrintMore Go.Proofs.Ytgcpedenlbcdgaa.L
attribute [local go_sem] Instr.field part asAgg lt_step max2_int min2_int max_two min_two max_three min_three max_four min_four lt_0_1 lt_0_2 lt_1_2 lt_0_3 lt_1_3 lt_2_3 lt_0_4 lt_1_4 lt_2_4 lt_3_4 lt_0_5 lt_1_5 lt_2_5 lt_3_5 lt_4_5 lt_0_6 lt_1_6 lt_2_6 lt_3_6 lt_4_6 lt_5_6 lt_0_7 lt_1_7 lt_2_7 lt_3_7 lt_4_7 lt_5_7 lt_6_7 lt_0_8 lt_1_8 lt_2_8 lt_3_8 lt_4_8 lt_5_8 lt_6_8 lt_7_8
set_option linter.unusedVariables false
set_option linter.unusedSimpArgs false
def u32B (x : Int) : Prop := 0 ≤ x ∧ x < 4294967296
theorem u32_u64 {x : Int} (h : u32B x) : u64B x := ⟨h.1, by have := h.2; omega⟩
set_option maxHeartbeats 1600000 in
set_option maxRecDepth 100000 in
theorem fl_runs (g : Nat) (x h l : Int) (w : World) (hg : w.heap[g]? = some (.cells #[.int .u32 x] 23 (0, 0))) (hx : u32B x) (hh : -9223372036854775808 ≤ h ∧ h ≤ 9223372036854775807) (hl : -9223372036854775808 ≤ l ∧ l ≤ 9223372036854775807) :
    Calls Try.prog 52 #[.int .i64 h, .int .i64 l, .pointer (some ⟨g, 0, none⟩)] w fun e w' => e = .returned (.int .u64 (fieldZ x h l)) ∧ Drawn0 w w' := by
  obtain ⟨hc, hf, hlt⟩ := cells_of hg
  have HF := Aside0.mk (field_tells x h l (u32_u64 hx) hh hl)
  have hx0 := hx.1
  have hx1 := hx.2
  clear hx hh hl
  go_enter Try.func52, Try.ntmps52
  go_wp2_with (first | (go_at_call 53; (with_reducible refine (bits_Field.calls _ _ _ _ _ HF.out).mono ?_); rintro e_ w_ ⟨rfl, hd_⟩; obtain ⟨n_, rfl⟩ := hd_.out; clear hd_))
  go_ret
  exact ⟨rfl, ⟨_, rfl⟩⟩
set_option maxHeartbeats 1600000 in
set_option maxRecDepth 100000 in
theorem taker_runs (x : Int) (w : World) : Calls Try.prog 31 #[.int .u32 x] w fun e w' => e = .returned (.func (.func 52) #[] #[.pointer (some ⟨w.heap.size, 0, none⟩)]) ∧ w' = w.alloc (.cells #[.int .u32 x] 23 (0, 0)) := by
  go_enter Try.func31, Try.ntmps31
  go_wp2
  go_ret
  exact ⟨rfl, rfl⟩
theorem fieldZ_B (x h l : Int) (hx : u32B x) (n : Nat) (h0 : 0 ≤ l) (h1 : l ≤ h) (h2 : h ≤ 63) (hn : (h - l + 1).toNat = n) : 0 ≤ fieldZ x h l ∧ fieldZ x h l < 2 ^ n := by
  rw [fieldZ_in x h l h0 h1 h2, hn]
  exact ⟨Int.emod_nonneg _ (Int.ne_of_gt (two_pow_pos n)), Int.emod_lt_of_pos _ (two_pow_pos n)⟩
theorem sextB (y n : Int) (hy : u64B y) (hn : 0 ≤ n ∧ n ≤ 63) (w : World) : Calls Try.prog 32 #[.int .u64 y, .int .i64 n] w fun e w' => e = .returned (.int .u64 (sextZ y n)) ∧ Drawn0 w w' :=
  bits_Sext.calls y n (sextZ y n) w (sext_tells y n hy (by omega))
end Go.Proofs.Ytgcpedenlbcdgaa.Q
end
section
/- Parts of decode.take: shift, sum, system, atomic. -/
namespace Go.Proofs.Ytgcpedenlbcdgaa.Q
open Go.RowKit Go.Proofs.YtgcpedenlbcdgaaW.PrintWords Go.Proofs.YtgcpedenlbcdgaaW.PrintLast Go.Proofs.YtgcpedenlbcdgaaW.PrintMore Go.Proofs.Ytgcpedenlbcdgaa.L
attribute [local go_sem] Instr.field part asAgg lt_step max2_int min2_int max_two min_two max_three min_three max_four min_four lt_0_1 lt_0_2 lt_1_2 lt_0_3 lt_1_3 lt_2_3 lt_0_4 lt_1_4 lt_2_4 lt_3_4 lt_0_5 lt_1_5 lt_2_5 lt_3_5 lt_4_5 lt_0_6 lt_1_6 lt_2_6 lt_3_6 lt_4_6 lt_5_6 lt_0_7 lt_1_7 lt_2_7 lt_3_7 lt_4_7 lt_5_7 lt_6_7 lt_0_8 lt_1_8 lt_2_8 lt_3_8 lt_4_8 lt_5_8 lt_6_8 lt_7_8
set_option linter.unusedVariables false
set_option linter.unusedSimpArgs false
attribute [local go_sem ↓] Go.wp_at_zero Go.wp_at_succ
section
variable (g : Nat) (x c f : Int) (b : Bool) (rd r1 r2 m : Int) (w : World)
def shiftF (x f : Int) (b : Bool) : Int := if f == 5 then (if fieldZ x 31 (if b then 25 else 26) == (if b then 32 else 16) then 13 else f) else f
def shiftK (x f : Int) (b : Bool) : Bool := if f == 5 then (if fieldZ x 31 (if b then 25 else 26) == (if b then 32 else 16) then true else fieldZ x 31 (if b then 25 else 26) == 0) else fieldZ x 31 (if b then 25 else 26) == 0
set_option maxHeartbeats 1600000 in
set_option maxRecDepth 100000 in
theorem shift_word (hg : w.heap[g]? = some (.cells #[.int .u32 x] 23 (0, 0))) (hx : u32B x) :
    Calls Try.prog 33 #[.func (.func 52) #[] #[.pointer (some ⟨g, 0, none⟩)], .agg #[.int .i64 c, .int .i64 f, .bool true, .int .i64 rd, .int .i64 r1, .int .i64 r2, .int .u64 m]] w fun e w' => e = .returned (.tuple #[.agg #[.int .i64 c, .int .i64 (shiftF x f true), .bool true, .int .i64 rd, .int .i64 r1, .int .i64 r2, .int .u64 (fieldZ x 24 20)], .bool (shiftK x f true)]) ∧ Below w.heap.size w w' := by
  have hgl := (cells_of hg).2.2
  have HG := Aside0.mk hg
  have HX := Aside0.mk hx
  have HB := Aside0.mk (Below.refl w.heap.size w)
  clear hg hx
  go_enter Try.func33, Try.ntmps33
  go_wp2_with (first | (go_at_call 52; (with_reducible refine (fl_runs g x _ _ _ (by repeat (with_reducible first | exact HG.out | apply ext_drew | apply ext_drewN | apply ext_alloc | refine blk_far ?_ (by show _ ≠ _; dsimp only; omega) _)) HX.out (by omega) (by omega)).mono ?_); rintro e_ w_ ⟨rfl, hd_⟩; obtain ⟨n_, rfl⟩ := hd_.out; clear hd_))
  all_goals first
    | (refine bodyPost_ret (v := .tuple #[.agg #[.int .i64 c, .int .i64 13, .bool true, .int .i64 rd, .int .i64 r1, .int .i64 r2, .int .u64 (fieldZ x 24 20)], .bool true]) (by simp [results, Try.results33, go_sem] <;> first | assumption | omega | (symm; assumption)) rfl ?_; refine ⟨?_, (by repeat (first | (with_reducible first | exact HB.out | exact Below.refl _ _ | apply below_alloc | apply pw_below_drewN | apply below_drew | refine below_set ?_ (by omega)) | exact HB.out))⟩; unfold shiftF shiftK; simp [*]; done)
    | (refine bodyPost_ret (v := .tuple #[.agg #[.int .i64 c, .int .i64 5, .bool true, .int .i64 rd, .int .i64 r1, .int .i64 r2, .int .u64 (fieldZ x 24 20)], .bool (fieldZ x 31 25 == 0)]) (by simp [results, Try.results33, go_sem] <;> first | assumption | omega | (symm; assumption)) rfl ?_; refine ⟨?_, (by repeat (first | (with_reducible first | exact HB.out | exact Below.refl _ _ | apply below_alloc | apply pw_below_drewN | apply below_drew | refine below_set ?_ (by omega)) | exact HB.out))⟩; unfold shiftF shiftK; simp [*]; done)
    | (refine bodyPost_ret (v := .tuple #[.agg #[.int .i64 c, .int .i64 f, .bool true, .int .i64 rd, .int .i64 r1, .int .i64 r2, .int .u64 (fieldZ x 24 20)], .bool (fieldZ x 31 25 == 0)]) (by simp [results, Try.results33, go_sem] <;> first | assumption | omega | (symm; assumption)) rfl ?_; refine ⟨?_, (by repeat (first | (with_reducible first | exact HB.out | exact Below.refl _ _ | apply below_alloc | apply pw_below_drewN | apply below_drew | refine below_set ?_ (by omega)) | exact HB.out))⟩; unfold shiftF shiftK; simp [*]; done)
set_option maxHeartbeats 1600000 in
set_option maxRecDepth 100000 in
theorem shift_wide (hg : w.heap[g]? = some (.cells #[.int .u32 x] 23 (0, 0))) (hx : u32B x) :
    Calls Try.prog 33 #[.func (.func 52) #[] #[.pointer (some ⟨g, 0, none⟩)], .agg #[.int .i64 c, .int .i64 f, .bool false, .int .i64 rd, .int .i64 r1, .int .i64 r2, .int .u64 m]] w fun e w' => e = .returned (.tuple #[.agg #[.int .i64 c, .int .i64 (shiftF x f false), .bool false, .int .i64 rd, .int .i64 r1, .int .i64 r2, .int .u64 (fieldZ x 25 20)], .bool (shiftK x f false)]) ∧ Below w.heap.size w w' := by
  have hgl := (cells_of hg).2.2
  have HG := Aside0.mk hg
  have HX := Aside0.mk hx
  have HB := Aside0.mk (Below.refl w.heap.size w)
  clear hg hx
  go_enter Try.func33, Try.ntmps33
  go_wp2_with (first | (go_at_call 52; (with_reducible refine (fl_runs g x _ _ _ (by repeat (with_reducible first | exact HG.out | apply ext_drew | apply ext_drewN | apply ext_alloc | refine blk_far ?_ (by show _ ≠ _; dsimp only; omega) _)) HX.out (by omega) (by omega)).mono ?_); rintro e_ w_ ⟨rfl, hd_⟩; obtain ⟨n_, rfl⟩ := hd_.out; clear hd_))
  all_goals first
    | (refine bodyPost_ret (v := .tuple #[.agg #[.int .i64 c, .int .i64 13, .bool false, .int .i64 rd, .int .i64 r1, .int .i64 r2, .int .u64 (fieldZ x 25 20)], .bool true]) (by simp [results, Try.results33, go_sem] <;> first | assumption | omega | (symm; assumption)) rfl ?_; refine ⟨?_, (by repeat (first | (with_reducible first | exact HB.out | exact Below.refl _ _ | apply below_alloc | apply pw_below_drewN | apply below_drew | refine below_set ?_ (by omega)) | exact HB.out))⟩; unfold shiftF shiftK; simp [*]; done)
    | (refine bodyPost_ret (v := .tuple #[.agg #[.int .i64 c, .int .i64 5, .bool false, .int .i64 rd, .int .i64 r1, .int .i64 r2, .int .u64 (fieldZ x 25 20)], .bool (fieldZ x 31 26 == 0)]) (by simp [results, Try.results33, go_sem] <;> first | assumption | omega | (symm; assumption)) rfl ?_; refine ⟨?_, (by repeat (first | (with_reducible first | exact HB.out | exact Below.refl _ _ | apply below_alloc | apply pw_below_drewN | apply below_drew | refine below_set ?_ (by omega)) | exact HB.out))⟩; unfold shiftF shiftK; simp [*]; done)
    | (refine bodyPost_ret (v := .tuple #[.agg #[.int .i64 c, .int .i64 f, .bool false, .int .i64 rd, .int .i64 r1, .int .i64 r2, .int .u64 (fieldZ x 25 20)], .bool (fieldZ x 31 26 == 0)]) (by simp [results, Try.results33, go_sem] <;> first | assumption | omega | (symm; assumption)) rfl ?_; refine ⟨?_, (by repeat (first | (with_reducible first | exact HB.out | exact Below.refl _ _ | apply below_alloc | apply pw_below_drewN | apply below_drew | refine below_set ?_ (by omega)) | exact HB.out))⟩; unfold shiftF shiftK; simp [*]; done)
end
end Go.Proofs.Ytgcpedenlbcdgaa.Q
end
section
/- decode.sum. -/
namespace Go.Proofs.Ytgcpedenlbcdgaa.Q
open Go.RowKit Go.Proofs.YtgcpedenlbcdgaaW.PrintWords Go.Proofs.YtgcpedenlbcdgaaW.PrintLast Go.Proofs.YtgcpedenlbcdgaaW.PrintMore Go.Proofs.Ytgcpedenlbcdgaa.L
attribute [local go_sem] Instr.field part asAgg lt_step max2_int min2_int max_two min_two max_three min_three max_four min_four lt_0_1 lt_0_2 lt_1_2 lt_0_3 lt_1_3 lt_2_3 lt_0_4 lt_1_4 lt_2_4 lt_3_4 lt_0_5 lt_1_5 lt_2_5 lt_3_5 lt_4_5 lt_0_6 lt_1_6 lt_2_6 lt_3_6 lt_4_6 lt_5_6 lt_0_7 lt_1_7 lt_2_7 lt_3_7 lt_4_7 lt_5_7 lt_6_7 lt_0_8 lt_1_8 lt_2_8 lt_3_8 lt_4_8 lt_5_8 lt_6_8 lt_7_8
set_option linter.unusedVariables false
set_option linter.unusedSimpArgs false
attribute [local go_sem ↓] Go.wp_at_zero Go.wp_at_succ
theorem letter3 (w : World) (o p q : Obj) : ∃ w1, ((w.alloc o).alloc p).alloc q = w1 ∧ w1.heap[w.heap.size]? = some o ∧ w1.heap[w.heap.size + 1]? = some p ∧ w1.heap[w.heap.size + 1 + 1]? = some q ∧ Below w.heap.size w w1 ∧ w.heap.size + 1 + 1 < w1.heap.size :=
  ⟨_, rfl, ext_alloc (ext_alloc (nb_1 w o) p) q, ext_alloc (nb_2 w o p) q, nb_3 w o p q, Below.alloc (Below.alloc (Below.alloc (Below.refl _ _) (Nat.le_refl _) _) (by rw [sz_alloc]; omega) _) (by rw [sz_alloc, sz_alloc]; omega) _, by rw [sz_alloc, sz_alloc, sz_alloc]; omega⟩
theorem put_letter {wa w : World} {n s : Nat} {C C' O : Array Value} {v : Value} (oc : wa.heap[s]? = some (.cells C 30 (0, 0))) (od : wa.heap[s + 1]? = some (.cells O 30 (0, 0))) (hc : C.setIfInBounds 1 v = C') (hb : Below s w wa) :
    ∃ wb, (wa.drewN n).setCell ⟨s, 1, none⟩ v = wb ∧ wb.heap[s]? = some (.cells C' 30 (0, 0)) ∧ wb.heap[s + 1]? = some (.cells O 30 (0, 0)) ∧ Below s w wb :=
  ⟨_, rfl, blk_put (ext_drewN oc n) 1 v hc, blk_far (p := ⟨s, 1, none⟩) (ext_drewN od n) (by show s + 1 ≠ s; omega) _, Below.setCell (pw_below_drewN hb n) (p := ⟨s, 1, none⟩) (Nat.le_refl _) _⟩
theorem letterD (w : World) (o : Obj) (n : Nat) : ∃ w1, (w.alloc o).drewN n = w1 ∧ Below w.heap.size w w1 := ⟨_, rfl, pw_below_drewN (Below.alloc (Below.refl _ _) (Nat.le_refl _) _) n⟩
theorem contains_is (f : Int) (h0 : 0 ≤ f) (h1 : f ≤ 7) : slices_Contains_int_int.f 20 [0, 1, 5] f = some (f == 0 || f == 1 || f == 5) := by
  have : f = 0 ∨ f = 1 ∨ f = 2 ∨ f = 3 ∨ f = 4 ∨ f = 5 ∨ f = 6 ∨ f = 7 := by omega
  rcases this with rfl | rfl | rfl | rfl | rfl | rfl | rfl | rfl
  · exact (show slices_Contains_int_int.f 20 [0, 1, 5] 0 = some true from by kernel_rfl)
  · exact (show slices_Contains_int_int.f 20 [0, 1, 5] 1 = some true from by kernel_rfl)
  · exact (show slices_Contains_int_int.f 20 [0, 1, 5] 2 = some false from by kernel_rfl)
  · exact (show slices_Contains_int_int.f 20 [0, 1, 5] 3 = some false from by kernel_rfl)
  · exact (show slices_Contains_int_int.f 20 [0, 1, 5] 4 = some false from by kernel_rfl)
  · exact (show slices_Contains_int_int.f 20 [0, 1, 5] 5 = some true from by kernel_rfl)
  · exact (show slices_Contains_int_int.f 20 [0, 1, 5] 6 = some false from by kernel_rfl)
  · exact (show slices_Contains_int_int.f 20 [0, 1, 5] 7 = some false from by kernel_rfl)
theorem contains_call (p : Nat) (f : Int) (w : World) (h0 : 0 ≤ f) (h1 : f ≤ 7) (hp : w.heap[p]? = some (.cells #[.int .i64 0, .int .i64 1, .int .i64 5] 3 (0, 0))) :
    Calls Try.prog 54 #[.slice (some ⟨p, 0, none⟩) 3 3, .int .i64 f] w fun e w' => e = .returned (.bool (f == 0 || f == 1 || f == 5)) ∧ Drawn0 w w' :=
  slices_Contains_int_int.calls 20 _ 3 [0, 1, 5] f _ w (C_blk hp rfl (by decide) rfl) (by decide) (contains_is f h0 h1)
end Go.Proofs.Ytgcpedenlbcdgaa.Q
end
section
/- decode.sum. -/
namespace Go.Proofs.Ytgcpedenlbcdgaa.Q
open Go.RowKit Go.Proofs.YtgcpedenlbcdgaaW.PrintWords Go.Proofs.YtgcpedenlbcdgaaW.PrintLast Go.Proofs.YtgcpedenlbcdgaaW.PrintMore Go.Proofs.Ytgcpedenlbcdgaa.L
attribute [local go_sem] Instr.field part asAgg lt_step max2_int min2_int max_two min_two max_three min_three max_four min_four lt_0_1 lt_0_2 lt_1_2 lt_0_3 lt_1_3 lt_2_3 lt_0_4 lt_1_4 lt_2_4 lt_3_4 lt_0_5 lt_1_5 lt_2_5 lt_3_5 lt_4_5 lt_0_6 lt_1_6 lt_2_6 lt_3_6 lt_4_6 lt_5_6 lt_0_7 lt_1_7 lt_2_7 lt_3_7 lt_4_7 lt_5_7 lt_6_7 lt_0_8 lt_1_8 lt_2_8 lt_3_8 lt_4_8 lt_5_8 lt_6_8 lt_7_8
set_option linter.unusedVariables false
set_option linter.unusedSimpArgs false
attribute [local go_sem ↓] Go.wp_at_zero Go.wp_at_succ
section
variable (g : Nat) (x c f : Int) (b : Bool) (rd r1 r2 m : Int) (w : World)
set_option maxHeartbeats 1600000 in
set_option maxRecDepth 100000 in
theorem sum0_true (hg : w.heap[g]? = some (.cells #[.int .u32 x] 23 (0, 0))) (hx : u32B x) (h0 : 0 ≤ f) (h1 : f ≤ 7) (q0 : (fieldZ x 31 25 == 0) = true) :
    Calls Try.prog 34 #[.func (.func 52) #[] #[.pointer (some ⟨g, 0, none⟩)], .agg #[.int .i64 c, .int .i64 f, .bool true, .int .i64 rd, .int .i64 r1, .int .i64 r2, .int .u64 m]] w fun e w' => e = .returned (.tuple #[.agg #[.int .i64 c, .int .i64 f, .bool true, .int .i64 rd, .int .i64 r1, .int .i64 r2, .int .u64 m], .bool (f == 0 || f == 1 || f == 5)]) ∧ Below w.heap.size w w' := by
  have hgl := (cells_of hg).2.2
  have HG := Aside0.mk hg
  have HX := Aside0.mk hx
  have HB := Aside0.mk (Below.refl w.heap.size w)
  clear hg hx
  go_enter Try.func34, Try.ntmps34
  go_upto_region 2 with fail
  obtain ⟨wa, hwa, oc0, od0, of0, hb_, hz0⟩ := letter3 w (.cells #[.int .i64 c, .int .i64 f, .bool true, .int .i64 rd, .int .i64 r1, .int .i64 r2, .int .u64 m] 30 (0, 0)) (.cells #[.int .i64 0, .int .i64 0, .bool false, .int .i64 0, .int .i64 0, .int .i64 0, .int .u64 0] 30 (0, 0)) (.cells #[.int .i64 0, .int .i64 1, .int .i64 5] 3 (0, 0))
  rw [hwa]
  clear hwa
  have HG_ := Aside0.mk (box_below hb_ HG.out)
  clear HG; have HG := HG_; clear HG_
  have oc := Aside0.mk oc0
  have od := Aside0.mk od0
  have of := Aside0.mk of0
  clear oc0 od0 of0
  obtain ⟨occ, ocf, ocl⟩ := cells_of oc.out
  obtain ⟨odc, odf, odl⟩ := cells_of od.out
  have HB_ : Aside0 (Below w.heap.size w wa) := ⟨hb_⟩
  clear HB hb_; have HB := HB_; clear HB_
  go_wp2_with (first | (go_at_call 52; (with_reducible refine (fl_runs g x _ _ _ (by repeat (with_reducible first | exact HG.out | apply ext_drew | apply ext_drewN | apply ext_alloc | refine blk_far ?_ (by show _ ≠ _; dsimp only; omega) _)) HX.out (by omega) (by omega)).mono ?_); rintro e_ w_ ⟨rfl, hd_⟩; obtain ⟨n_, rfl⟩ := hd_.out; clear hd_))
  go_region_with (first | (go_at_call 54; (with_reducible refine (contains_call _ _ _ h0 h1 (by repeat (with_reducible first | exact of.out | apply ext_drew | apply ext_drewN | apply ext_alloc | refine blk_far ?_ (by show _ ≠ _; dsimp only; omega) _))).mono ?_); rintro e_ w_ ⟨rfl, hd_⟩; obtain ⟨n_, rfl⟩ := hd_.out; clear hd_))
  all_goals (try go_wp2)
  all_goals (refine bodyPost_ret (results_ct rfl _ _ (w.heap.size + 1) 30 #[.int .i64 c, .int .i64 f, .bool true, .int .i64 rd, .int .i64 r1, .int .i64 r2, .int .u64 m] (0, 0) _ rfl ?hb_ Try.underlying30 rfl (by kernel_rfl)) rfl ⟨rfl, (by repeat (first | (with_reducible first | exact HB.out | exact Below.refl _ _ | apply below_alloc | apply pw_below_drewN | apply below_drew | refine below_set ?_ (by omega)) | exact HB.out))⟩; (case hb_ => ((repeat (with_reducible first | refine blk_drew ?_ | refine blk_drewN ?_ _)); first | exact blk_put (blk_put (blk_put (blk_put (blk_put (blk_put (blk_put (od.out) 0 (.int .i64 c) rfl) 1 (.int .i64 f) rfl) 2 (.bool true) rfl) 3 (.int .i64 rd) rfl) 4 (.int .i64 r1) rfl) 5 (.int .i64 r2) rfl) 6 (.int .u64 m) rfl | exact blk_put (blk_put (blk_put (blk_put (blk_put (blk_put (blk_put (ext_drewN od.out _) 0 (.int .i64 c) rfl) 1 (.int .i64 f) rfl) 2 (.bool true) rfl) 3 (.int .i64 rd) rfl) 4 (.int .i64 r1) rfl) 5 (.int .i64 r2) rfl) 6 (.int .u64 m) rfl)))
end
end Go.Proofs.Ytgcpedenlbcdgaa.Q
end
section
/- decode.sum. -/
namespace Go.Proofs.Ytgcpedenlbcdgaa.Q
open Go.RowKit Go.Proofs.YtgcpedenlbcdgaaW.PrintWords Go.Proofs.YtgcpedenlbcdgaaW.PrintLast Go.Proofs.YtgcpedenlbcdgaaW.PrintMore Go.Proofs.Ytgcpedenlbcdgaa.L
attribute [local go_sem] Instr.field part asAgg lt_step max2_int min2_int max_two min_two max_three min_three max_four min_four lt_0_1 lt_0_2 lt_1_2 lt_0_3 lt_1_3 lt_2_3 lt_0_4 lt_1_4 lt_2_4 lt_3_4 lt_0_5 lt_1_5 lt_2_5 lt_3_5 lt_4_5 lt_0_6 lt_1_6 lt_2_6 lt_3_6 lt_4_6 lt_5_6 lt_0_7 lt_1_7 lt_2_7 lt_3_7 lt_4_7 lt_5_7 lt_6_7 lt_0_8 lt_1_8 lt_2_8 lt_3_8 lt_4_8 lt_5_8 lt_6_8 lt_7_8
set_option linter.unusedVariables false
set_option linter.unusedSimpArgs false
attribute [local go_sem ↓] Go.wp_at_zero Go.wp_at_succ
section
variable (g : Nat) (x c f : Int) (b : Bool) (rd r1 r2 m : Int) (w : World)
set_option maxHeartbeats 1600000 in
set_option maxRecDepth 100000 in
theorem sum0_false (hg : w.heap[g]? = some (.cells #[.int .u32 x] 23 (0, 0))) (hx : u32B x) (h0 : 0 ≤ f) (h1 : f ≤ 7) (q0 : (fieldZ x 31 25 == 0) = true) :
    Calls Try.prog 34 #[.func (.func 52) #[] #[.pointer (some ⟨g, 0, none⟩)], .agg #[.int .i64 c, .int .i64 f, .bool false, .int .i64 rd, .int .i64 r1, .int .i64 r2, .int .u64 m]] w fun e w' => e = .returned (.tuple #[.agg #[.int .i64 c, .int .i64 f, .bool false, .int .i64 rd, .int .i64 r1, .int .i64 r2, .int .u64 m], .bool true]) ∧ Below w.heap.size w w' := by
  have hgl := (cells_of hg).2.2
  have HG := Aside0.mk hg
  have HX := Aside0.mk hx
  have HB := Aside0.mk (Below.refl w.heap.size w)
  clear hg hx
  go_enter Try.func34, Try.ntmps34
  go_upto_region 2 with fail
  obtain ⟨wa, hwa, oc0, od0, of0, hb_, hz0⟩ := letter3 w (.cells #[.int .i64 c, .int .i64 f, .bool false, .int .i64 rd, .int .i64 r1, .int .i64 r2, .int .u64 m] 30 (0, 0)) (.cells #[.int .i64 0, .int .i64 0, .bool false, .int .i64 0, .int .i64 0, .int .i64 0, .int .u64 0] 30 (0, 0)) (.cells #[.int .i64 0, .int .i64 1, .int .i64 5] 3 (0, 0))
  rw [hwa]
  clear hwa
  have HG_ := Aside0.mk (box_below hb_ HG.out)
  clear HG; have HG := HG_; clear HG_
  have oc := Aside0.mk oc0
  have od := Aside0.mk od0
  have of := Aside0.mk of0
  clear oc0 od0 of0
  obtain ⟨occ, ocf, ocl⟩ := cells_of oc.out
  obtain ⟨odc, odf, odl⟩ := cells_of od.out
  have HB_ : Aside0 (Below w.heap.size w wa) := ⟨hb_⟩
  clear HB hb_; have HB := HB_; clear HB_
  go_wp2_with (first | (go_at_call 52; (with_reducible refine (fl_runs g x _ _ _ (by repeat (with_reducible first | exact HG.out | apply ext_drew | apply ext_drewN | apply ext_alloc | refine blk_far ?_ (by show _ ≠ _; dsimp only; omega) _)) HX.out (by omega) (by omega)).mono ?_); rintro e_ w_ ⟨rfl, hd_⟩; obtain ⟨n_, rfl⟩ := hd_.out; clear hd_))
  go_region
  all_goals (try go_wp2)
  all_goals (refine bodyPost_ret (results_ct rfl _ _ (w.heap.size + 1) 30 #[.int .i64 c, .int .i64 f, .bool false, .int .i64 rd, .int .i64 r1, .int .i64 r2, .int .u64 m] (0, 0) _ rfl ?hb_ Try.underlying30 rfl (by kernel_rfl)) rfl ⟨rfl, (by repeat (first | (with_reducible first | exact HB.out | exact Below.refl _ _ | apply below_alloc | apply pw_below_drewN | apply below_drew | refine below_set ?_ (by omega)) | exact HB.out))⟩; (case hb_ => ((repeat (with_reducible first | refine blk_drew ?_ | refine blk_drewN ?_ _)); first | exact blk_put (blk_put (blk_put (blk_put (blk_put (blk_put (blk_put (od.out) 0 (.int .i64 c) rfl) 1 (.int .i64 f) rfl) 2 (.bool false) rfl) 3 (.int .i64 rd) rfl) 4 (.int .i64 r1) rfl) 5 (.int .i64 r2) rfl) 6 (.int .u64 m) rfl | exact blk_put (blk_put (blk_put (blk_put (blk_put (blk_put (blk_put (ext_drewN od.out _) 0 (.int .i64 c) rfl) 1 (.int .i64 f) rfl) 2 (.bool false) rfl) 3 (.int .i64 rd) rfl) 4 (.int .i64 r1) rfl) 5 (.int .i64 r2) rfl) 6 (.int .u64 m) rfl)))
end
end Go.Proofs.Ytgcpedenlbcdgaa.Q
end
section
/- decode.sum. -/
namespace Go.Proofs.Ytgcpedenlbcdgaa.Q
open Go.RowKit Go.Proofs.YtgcpedenlbcdgaaW.PrintWords Go.Proofs.YtgcpedenlbcdgaaW.PrintLast Go.Proofs.YtgcpedenlbcdgaaW.PrintMore Go.Proofs.Ytgcpedenlbcdgaa.L
attribute [local go_sem] Instr.field part asAgg lt_step max2_int min2_int max_two min_two max_three min_three max_four min_four lt_0_1 lt_0_2 lt_1_2 lt_0_3 lt_1_3 lt_2_3 lt_0_4 lt_1_4 lt_2_4 lt_3_4 lt_0_5 lt_1_5 lt_2_5 lt_3_5 lt_4_5 lt_0_6 lt_1_6 lt_2_6 lt_3_6 lt_4_6 lt_5_6 lt_0_7 lt_1_7 lt_2_7 lt_3_7 lt_4_7 lt_5_7 lt_6_7 lt_0_8 lt_1_8 lt_2_8 lt_3_8 lt_4_8 lt_5_8 lt_6_8 lt_7_8
set_option linter.unusedVariables false
set_option linter.unusedSimpArgs false
attribute [local go_sem ↓] Go.wp_at_zero Go.wp_at_succ
section
variable (g : Nat) (x c f : Int) (b : Bool) (rd r1 r2 m : Int) (w : World)
set_option maxHeartbeats 1600000 in
set_option maxRecDepth 100000 in
theorem sum1_true_a (hg : w.heap[g]? = some (.cells #[.int .u32 x] 23 (0, 0))) (hx : u32B x) (h0 : 0 ≤ f) (h1 : f ≤ 7) (q0 : (fieldZ x 31 25 == 0) = false) (q1 : (fieldZ x 31 25 == 1) = true) (k0 : (f == 0) = true) :
    Calls Try.prog 34 #[.func (.func 52) #[] #[.pointer (some ⟨g, 0, none⟩)], .agg #[.int .i64 c, .int .i64 f, .bool true, .int .i64 rd, .int .i64 r1, .int .i64 r2, .int .u64 m]] w fun e w' => e = .returned (.tuple #[.agg #[.int .i64 c, .int .i64 (16 + f), .bool true, .int .i64 rd, .int .i64 r1, .int .i64 r2, .int .u64 m], .bool true]) ∧ Below w.heap.size w w' := by
  have hgl := (cells_of hg).2.2
  have HG := Aside0.mk hg
  have HX := Aside0.mk hx
  have HB := Aside0.mk (Below.refl w.heap.size w)
  clear hg hx
  go_enter Try.func34, Try.ntmps34
  go_upto_region 2 with fail
  obtain ⟨wa, hwa, oc0, od0, of0, hb_, hz0⟩ := letter3 w (.cells #[.int .i64 c, .int .i64 f, .bool true, .int .i64 rd, .int .i64 r1, .int .i64 r2, .int .u64 m] 30 (0, 0)) (.cells #[.int .i64 0, .int .i64 0, .bool false, .int .i64 0, .int .i64 0, .int .i64 0, .int .u64 0] 30 (0, 0)) (.cells #[.int .i64 0, .int .i64 1, .int .i64 5] 3 (0, 0))
  rw [hwa]
  clear hwa
  have HG_ := Aside0.mk (box_below hb_ HG.out)
  clear HG; have HG := HG_; clear HG_
  have oc := Aside0.mk oc0
  have od := Aside0.mk od0
  have of := Aside0.mk of0
  clear oc0 od0 of0
  obtain ⟨occ, ocf, ocl⟩ := cells_of oc.out
  obtain ⟨odc, odf, odl⟩ := cells_of od.out
  have HB_ : Aside0 (Below w.heap.size w wa) := ⟨hb_⟩
  clear HB hb_; have HB := HB_; clear HB_
  go_upto_region 7 with (first | (go_at_call 52; (with_reducible refine (fl_runs g x _ _ _ (by repeat (with_reducible first | exact HG.out | apply ext_drew | apply ext_drewN | apply ext_alloc | refine blk_far ?_ (by show _ ≠ _; dsimp only; omega) _)) HX.out (by omega) (by omega)).mono ?_); rintro e_ w_ ⟨rfl, hd_⟩; obtain ⟨n_, rfl⟩ := hd_.out; clear hd_))
  go_upto_region 8 with fail
  obtain ⟨wb, hwb, oc0, od0, hb_⟩ := put_letter (n := n_) (v := .int .i64 (16 + f)) (C' := #[.int .i64 c, .int .i64 (16 + f), .bool true, .int .i64 rd, .int .i64 r1, .int .i64 r2, .int .u64 m]) oc.out od.out rfl HB.out
  rw [hwb]
  clear hwb occ ocf ocl odc odf odl oc od
  have oc := Aside0.mk oc0
  have od := Aside0.mk od0
  clear oc0 od0
  obtain ⟨occ, ocf, ocl⟩ := cells_of oc.out
  obtain ⟨odc, odf, odl⟩ := cells_of od.out
  have HB_ : Aside0 (Below w.heap.size w wb) := ⟨hb_⟩
  clear HB hb_; have HB := HB_; clear HB_
  go_region
  all_goals (try go_wp2)
  all_goals (refine bodyPost_ret (results_ct rfl _ _ (w.heap.size + 1) 30 #[.int .i64 c, .int .i64 (16 + f), .bool true, .int .i64 rd, .int .i64 r1, .int .i64 r2, .int .u64 m] (0, 0) _ rfl ?hb_ Try.underlying30 rfl (by kernel_rfl)) rfl ⟨rfl, (by repeat (first | (with_reducible first | exact HB.out | exact Below.refl _ _ | apply below_alloc | apply pw_below_drewN | apply below_drew | refine below_set ?_ (by omega)) | exact HB.out))⟩; (case hb_ => ((repeat (with_reducible first | refine blk_drew ?_ | refine blk_drewN ?_ _)); first | exact blk_put (blk_put (blk_put (blk_put (blk_put (blk_put (blk_put (od.out) 0 (.int .i64 c) rfl) 1 (.int .i64 (16 + f)) rfl) 2 (.bool true) rfl) 3 (.int .i64 rd) rfl) 4 (.int .i64 r1) rfl) 5 (.int .i64 r2) rfl) 6 (.int .u64 m) rfl | exact blk_put (blk_put (blk_put (blk_put (blk_put (blk_put (blk_put (ext_drewN od.out _) 0 (.int .i64 c) rfl) 1 (.int .i64 (16 + f)) rfl) 2 (.bool true) rfl) 3 (.int .i64 rd) rfl) 4 (.int .i64 r1) rfl) 5 (.int .i64 r2) rfl) 6 (.int .u64 m) rfl)))
end
end Go.Proofs.Ytgcpedenlbcdgaa.Q
end
section
/- decode.sum. -/
namespace Go.Proofs.Ytgcpedenlbcdgaa.Q
open Go.RowKit Go.Proofs.YtgcpedenlbcdgaaW.PrintWords Go.Proofs.YtgcpedenlbcdgaaW.PrintLast Go.Proofs.YtgcpedenlbcdgaaW.PrintMore Go.Proofs.Ytgcpedenlbcdgaa.L
attribute [local go_sem] Instr.field part asAgg lt_step max2_int min2_int max_two min_two max_three min_three max_four min_four lt_0_1 lt_0_2 lt_1_2 lt_0_3 lt_1_3 lt_2_3 lt_0_4 lt_1_4 lt_2_4 lt_3_4 lt_0_5 lt_1_5 lt_2_5 lt_3_5 lt_4_5 lt_0_6 lt_1_6 lt_2_6 lt_3_6 lt_4_6 lt_5_6 lt_0_7 lt_1_7 lt_2_7 lt_3_7 lt_4_7 lt_5_7 lt_6_7 lt_0_8 lt_1_8 lt_2_8 lt_3_8 lt_4_8 lt_5_8 lt_6_8 lt_7_8
set_option linter.unusedVariables false
set_option linter.unusedSimpArgs false
attribute [local go_sem ↓] Go.wp_at_zero Go.wp_at_succ
section
variable (g : Nat) (x c f : Int) (b : Bool) (rd r1 r2 m : Int) (w : World)
set_option maxHeartbeats 1600000 in
set_option maxRecDepth 100000 in
theorem sum1_true_b (hg : w.heap[g]? = some (.cells #[.int .u32 x] 23 (0, 0))) (hx : u32B x) (h0 : 0 ≤ f) (h1 : f ≤ 7) (q0 : (fieldZ x 31 25 == 0) = false) (q1 : (fieldZ x 31 25 == 1) = true) (k0 : (f == 0) = false) :
    Calls Try.prog 34 #[.func (.func 52) #[] #[.pointer (some ⟨g, 0, none⟩)], .agg #[.int .i64 c, .int .i64 f, .bool true, .int .i64 rd, .int .i64 r1, .int .i64 r2, .int .u64 m]] w fun e w' => e = .returned (.tuple #[.agg #[.int .i64 c, .int .i64 (16 + f), .bool true, .int .i64 rd, .int .i64 r1, .int .i64 r2, .int .u64 m], .bool (decide (20 ≤ 16 + f))]) ∧ Below w.heap.size w w' := by
  have hgl := (cells_of hg).2.2
  have HG := Aside0.mk hg
  have HX := Aside0.mk hx
  have HB := Aside0.mk (Below.refl w.heap.size w)
  clear hg hx
  go_enter Try.func34, Try.ntmps34
  go_upto_region 2 with fail
  obtain ⟨wa, hwa, oc0, od0, of0, hb_, hz0⟩ := letter3 w (.cells #[.int .i64 c, .int .i64 f, .bool true, .int .i64 rd, .int .i64 r1, .int .i64 r2, .int .u64 m] 30 (0, 0)) (.cells #[.int .i64 0, .int .i64 0, .bool false, .int .i64 0, .int .i64 0, .int .i64 0, .int .u64 0] 30 (0, 0)) (.cells #[.int .i64 0, .int .i64 1, .int .i64 5] 3 (0, 0))
  rw [hwa]
  clear hwa
  have HG_ := Aside0.mk (box_below hb_ HG.out)
  clear HG; have HG := HG_; clear HG_
  have oc := Aside0.mk oc0
  have od := Aside0.mk od0
  have of := Aside0.mk of0
  clear oc0 od0 of0
  obtain ⟨occ, ocf, ocl⟩ := cells_of oc.out
  obtain ⟨odc, odf, odl⟩ := cells_of od.out
  have HB_ : Aside0 (Below w.heap.size w wa) := ⟨hb_⟩
  clear HB hb_; have HB := HB_; clear HB_
  go_upto_region 7 with (first | (go_at_call 52; (with_reducible refine (fl_runs g x _ _ _ (by repeat (with_reducible first | exact HG.out | apply ext_drew | apply ext_drewN | apply ext_alloc | refine blk_far ?_ (by show _ ≠ _; dsimp only; omega) _)) HX.out (by omega) (by omega)).mono ?_); rintro e_ w_ ⟨rfl, hd_⟩; obtain ⟨n_, rfl⟩ := hd_.out; clear hd_))
  go_upto_region 8 with fail
  obtain ⟨wb, hwb, oc0, od0, hb_⟩ := put_letter (n := n_) (v := .int .i64 (16 + f)) (C' := #[.int .i64 c, .int .i64 (16 + f), .bool true, .int .i64 rd, .int .i64 r1, .int .i64 r2, .int .u64 m]) oc.out od.out rfl HB.out
  rw [hwb]
  clear hwb occ ocf ocl odc odf odl oc od
  have oc := Aside0.mk oc0
  have od := Aside0.mk od0
  clear oc0 od0
  obtain ⟨occ, ocf, ocl⟩ := cells_of oc.out
  obtain ⟨odc, odf, odl⟩ := cells_of od.out
  have HB_ : Aside0 (Below w.heap.size w wb) := ⟨hb_⟩
  clear HB hb_; have HB := HB_; clear HB_
  go_region
  all_goals (try go_wp2)
  all_goals (refine bodyPost_ret (results_ct rfl _ _ (w.heap.size + 1) 30 #[.int .i64 c, .int .i64 (16 + f), .bool true, .int .i64 rd, .int .i64 r1, .int .i64 r2, .int .u64 m] (0, 0) _ rfl ?hb_ Try.underlying30 rfl (by kernel_rfl)) rfl ⟨rfl, (by repeat (first | (with_reducible first | exact HB.out | exact Below.refl _ _ | apply below_alloc | apply pw_below_drewN | apply below_drew | refine below_set ?_ (by omega)) | exact HB.out))⟩; (case hb_ => ((repeat (with_reducible first | refine blk_drew ?_ | refine blk_drewN ?_ _)); first | exact blk_put (blk_put (blk_put (blk_put (blk_put (blk_put (blk_put (od.out) 0 (.int .i64 c) rfl) 1 (.int .i64 (16 + f)) rfl) 2 (.bool true) rfl) 3 (.int .i64 rd) rfl) 4 (.int .i64 r1) rfl) 5 (.int .i64 r2) rfl) 6 (.int .u64 m) rfl | exact blk_put (blk_put (blk_put (blk_put (blk_put (blk_put (blk_put (ext_drewN od.out _) 0 (.int .i64 c) rfl) 1 (.int .i64 (16 + f)) rfl) 2 (.bool true) rfl) 3 (.int .i64 rd) rfl) 4 (.int .i64 r1) rfl) 5 (.int .i64 r2) rfl) 6 (.int .u64 m) rfl)))
end
end Go.Proofs.Ytgcpedenlbcdgaa.Q
end
section
/- decode.sum. -/
namespace Go.Proofs.Ytgcpedenlbcdgaa.Q
open Go.RowKit Go.Proofs.YtgcpedenlbcdgaaW.PrintWords Go.Proofs.YtgcpedenlbcdgaaW.PrintLast Go.Proofs.YtgcpedenlbcdgaaW.PrintMore Go.Proofs.Ytgcpedenlbcdgaa.L
attribute [local go_sem] Instr.field part asAgg lt_step max2_int min2_int max_two min_two max_three min_three max_four min_four lt_0_1 lt_0_2 lt_1_2 lt_0_3 lt_1_3 lt_2_3 lt_0_4 lt_1_4 lt_2_4 lt_3_4 lt_0_5 lt_1_5 lt_2_5 lt_3_5 lt_4_5 lt_0_6 lt_1_6 lt_2_6 lt_3_6 lt_4_6 lt_5_6 lt_0_7 lt_1_7 lt_2_7 lt_3_7 lt_4_7 lt_5_7 lt_6_7 lt_0_8 lt_1_8 lt_2_8 lt_3_8 lt_4_8 lt_5_8 lt_6_8 lt_7_8
set_option linter.unusedVariables false
set_option linter.unusedSimpArgs false
attribute [local go_sem ↓] Go.wp_at_zero Go.wp_at_succ
section
variable (g : Nat) (x c f : Int) (b : Bool) (rd r1 r2 m : Int) (w : World)
set_option maxHeartbeats 1600000 in
set_option maxRecDepth 100000 in
theorem sum1_false (hg : w.heap[g]? = some (.cells #[.int .u32 x] 23 (0, 0))) (hx : u32B x) (h0 : 0 ≤ f) (h1 : f ≤ 7) (q0 : (fieldZ x 31 25 == 0) = false) (q1 : (fieldZ x 31 25 == 1) = true) :
    Calls Try.prog 34 #[.func (.func 52) #[] #[.pointer (some ⟨g, 0, none⟩)], .agg #[.int .i64 c, .int .i64 f, .bool false, .int .i64 rd, .int .i64 r1, .int .i64 r2, .int .u64 m]] w fun e w' => e = .returned (.tuple #[.agg #[.int .i64 c, .int .i64 (16 + f), .bool false, .int .i64 rd, .int .i64 r1, .int .i64 r2, .int .u64 m], .bool true]) ∧ Below w.heap.size w w' := by
  have hgl := (cells_of hg).2.2
  have HG := Aside0.mk hg
  have HX := Aside0.mk hx
  have HB := Aside0.mk (Below.refl w.heap.size w)
  clear hg hx
  go_enter Try.func34, Try.ntmps34
  go_upto_region 2 with fail
  obtain ⟨wa, hwa, oc0, od0, of0, hb_, hz0⟩ := letter3 w (.cells #[.int .i64 c, .int .i64 f, .bool false, .int .i64 rd, .int .i64 r1, .int .i64 r2, .int .u64 m] 30 (0, 0)) (.cells #[.int .i64 0, .int .i64 0, .bool false, .int .i64 0, .int .i64 0, .int .i64 0, .int .u64 0] 30 (0, 0)) (.cells #[.int .i64 0, .int .i64 1, .int .i64 5] 3 (0, 0))
  rw [hwa]
  clear hwa
  have HG_ := Aside0.mk (box_below hb_ HG.out)
  clear HG; have HG := HG_; clear HG_
  have oc := Aside0.mk oc0
  have od := Aside0.mk od0
  have of := Aside0.mk of0
  clear oc0 od0 of0
  obtain ⟨occ, ocf, ocl⟩ := cells_of oc.out
  obtain ⟨odc, odf, odl⟩ := cells_of od.out
  have HB_ : Aside0 (Below w.heap.size w wa) := ⟨hb_⟩
  clear HB hb_; have HB := HB_; clear HB_
  go_upto_region 7 with (first | (go_at_call 52; (with_reducible refine (fl_runs g x _ _ _ (by repeat (with_reducible first | exact HG.out | apply ext_drew | apply ext_drewN | apply ext_alloc | refine blk_far ?_ (by show _ ≠ _; dsimp only; omega) _)) HX.out (by omega) (by omega)).mono ?_); rintro e_ w_ ⟨rfl, hd_⟩; obtain ⟨n_, rfl⟩ := hd_.out; clear hd_))
  go_upto_region 8 with fail
  obtain ⟨wb, hwb, oc0, od0, hb_⟩ := put_letter (n := n_) (v := .int .i64 (16 + f)) (C' := #[.int .i64 c, .int .i64 (16 + f), .bool false, .int .i64 rd, .int .i64 r1, .int .i64 r2, .int .u64 m]) oc.out od.out rfl HB.out
  rw [hwb]
  clear hwb occ ocf ocl odc odf odl oc od
  have oc := Aside0.mk oc0
  have od := Aside0.mk od0
  clear oc0 od0
  obtain ⟨occ, ocf, ocl⟩ := cells_of oc.out
  obtain ⟨odc, odf, odl⟩ := cells_of od.out
  have HB_ : Aside0 (Below w.heap.size w wb) := ⟨hb_⟩
  clear HB hb_; have HB := HB_; clear HB_
  go_region
  all_goals (try go_wp2)
  all_goals (refine bodyPost_ret (results_ct rfl _ _ (w.heap.size + 1) 30 #[.int .i64 c, .int .i64 (16 + f), .bool false, .int .i64 rd, .int .i64 r1, .int .i64 r2, .int .u64 m] (0, 0) _ rfl ?hb_ Try.underlying30 rfl (by kernel_rfl)) rfl ⟨rfl, (by repeat (first | (with_reducible first | exact HB.out | exact Below.refl _ _ | apply below_alloc | apply pw_below_drewN | apply below_drew | refine below_set ?_ (by omega)) | exact HB.out))⟩; (case hb_ => ((repeat (with_reducible first | refine blk_drew ?_ | refine blk_drewN ?_ _)); first | exact blk_put (blk_put (blk_put (blk_put (blk_put (blk_put (blk_put (od.out) 0 (.int .i64 c) rfl) 1 (.int .i64 (16 + f)) rfl) 2 (.bool false) rfl) 3 (.int .i64 rd) rfl) 4 (.int .i64 r1) rfl) 5 (.int .i64 r2) rfl) 6 (.int .u64 m) rfl | exact blk_put (blk_put (blk_put (blk_put (blk_put (blk_put (blk_put (ext_drewN od.out _) 0 (.int .i64 c) rfl) 1 (.int .i64 (16 + f)) rfl) 2 (.bool false) rfl) 3 (.int .i64 rd) rfl) 4 (.int .i64 r1) rfl) 5 (.int .i64 r2) rfl) 6 (.int .u64 m) rfl)))
end
end Go.Proofs.Ytgcpedenlbcdgaa.Q
end
section
/- decode.sum. -/
namespace Go.Proofs.Ytgcpedenlbcdgaa.Q
open Go.RowKit Go.Proofs.YtgcpedenlbcdgaaW.PrintWords Go.Proofs.YtgcpedenlbcdgaaW.PrintLast Go.Proofs.YtgcpedenlbcdgaaW.PrintMore Go.Proofs.Ytgcpedenlbcdgaa.L
attribute [local go_sem] Instr.field part asAgg lt_step max2_int min2_int max_two min_two max_three min_three max_four min_four lt_0_1 lt_0_2 lt_1_2 lt_0_3 lt_1_3 lt_2_3 lt_0_4 lt_1_4 lt_2_4 lt_3_4 lt_0_5 lt_1_5 lt_2_5 lt_3_5 lt_4_5 lt_0_6 lt_1_6 lt_2_6 lt_3_6 lt_4_6 lt_5_6 lt_0_7 lt_1_7 lt_2_7 lt_3_7 lt_4_7 lt_5_7 lt_6_7 lt_0_8 lt_1_8 lt_2_8 lt_3_8 lt_4_8 lt_5_8 lt_6_8 lt_7_8
set_option linter.unusedVariables false
set_option linter.unusedSimpArgs false
attribute [local go_sem ↓] Go.wp_at_zero Go.wp_at_succ
section
variable (g : Nat) (x c f : Int) (b : Bool) (rd r1 r2 m : Int) (w : World)
set_option maxHeartbeats 1600000 in
set_option maxRecDepth 100000 in
theorem sum2_a (hg : w.heap[g]? = some (.cells #[.int .u32 x] 23 (0, 0))) (hx : u32B x) (h0 : 0 ≤ f) (h1 : f ≤ 7) (q0 : (fieldZ x 31 25 == 0) = false) (q1 : (fieldZ x 31 25 == 1) = false) (q2 : (fieldZ x 31 25 == 32) = true) (k0 : (f == 0) = true) :
    Calls Try.prog 34 #[.func (.func 52) #[] #[.pointer (some ⟨g, 0, none⟩)], .agg #[.int .i64 c, .int .i64 f, .bool b, .int .i64 rd, .int .i64 r1, .int .i64 r2, .int .u64 m]] w fun e w' => e = .returned (.tuple #[.agg #[.int .i64 c, .int .i64 (f + 8), .bool b, .int .i64 rd, .int .i64 r1, .int .i64 r2, .int .u64 m], .bool true]) ∧ Below w.heap.size w w' := by
  have hgl := (cells_of hg).2.2
  have HG := Aside0.mk hg
  have HX := Aside0.mk hx
  have HB := Aside0.mk (Below.refl w.heap.size w)
  clear hg hx
  go_enter Try.func34, Try.ntmps34
  go_upto_region 2 with fail
  obtain ⟨wa, hwa, oc0, od0, of0, hb_, hz0⟩ := letter3 w (.cells #[.int .i64 c, .int .i64 f, .bool b, .int .i64 rd, .int .i64 r1, .int .i64 r2, .int .u64 m] 30 (0, 0)) (.cells #[.int .i64 0, .int .i64 0, .bool false, .int .i64 0, .int .i64 0, .int .i64 0, .int .u64 0] 30 (0, 0)) (.cells #[.int .i64 0, .int .i64 1, .int .i64 5] 3 (0, 0))
  rw [hwa]
  clear hwa
  have HG_ := Aside0.mk (box_below hb_ HG.out)
  clear HG; have HG := HG_; clear HG_
  have oc := Aside0.mk oc0
  have od := Aside0.mk od0
  have of := Aside0.mk of0
  clear oc0 od0 of0
  obtain ⟨occ, ocf, ocl⟩ := cells_of oc.out
  obtain ⟨odc, odf, odl⟩ := cells_of od.out
  have HB_ : Aside0 (Below w.heap.size w wa) := ⟨hb_⟩
  clear HB hb_; have HB := HB_; clear HB_
  go_upto_region 10 with (first | (go_at_call 52; (with_reducible refine (fl_runs g x _ _ _ (by repeat (with_reducible first | exact HG.out | apply ext_drew | apply ext_drewN | apply ext_alloc | refine blk_far ?_ (by show _ ≠ _; dsimp only; omega) _)) HX.out (by omega) (by omega)).mono ?_); rintro e_ w_ ⟨rfl, hd_⟩; obtain ⟨n_, rfl⟩ := hd_.out; clear hd_))
  go_upto_region 11 with fail
  obtain ⟨wb, hwb, oc0, od0, hb_⟩ := put_letter (n := n_) (v := .int .i64 (f + 8)) (C' := #[.int .i64 c, .int .i64 (f + 8), .bool b, .int .i64 rd, .int .i64 r1, .int .i64 r2, .int .u64 m]) oc.out od.out rfl HB.out
  rw [hwb]
  clear hwb occ ocf ocl odc odf odl oc od
  have oc := Aside0.mk oc0
  have od := Aside0.mk od0
  clear oc0 od0
  obtain ⟨occ, ocf, ocl⟩ := cells_of oc.out
  obtain ⟨odc, odf, odl⟩ := cells_of od.out
  have HB_ : Aside0 (Below w.heap.size w wb) := ⟨hb_⟩
  clear HB hb_; have HB := HB_; clear HB_
  go_wp2
  all_goals (try go_wp2)
  all_goals (refine bodyPost_ret (results_ct rfl _ _ (w.heap.size + 1) 30 #[.int .i64 c, .int .i64 (f + 8), .bool b, .int .i64 rd, .int .i64 r1, .int .i64 r2, .int .u64 m] (0, 0) _ rfl ?hb_ Try.underlying30 rfl (by kernel_rfl)) rfl ⟨rfl, (by repeat (first | (with_reducible first | exact HB.out | exact Below.refl _ _ | apply below_alloc | apply pw_below_drewN | apply below_drew | refine below_set ?_ (by omega)) | exact HB.out))⟩; (case hb_ => ((repeat (with_reducible first | refine blk_drew ?_ | refine blk_drewN ?_ _)); first | exact blk_put (blk_put (blk_put (blk_put (blk_put (blk_put (blk_put (od.out) 0 (.int .i64 c) rfl) 1 (.int .i64 (f + 8)) rfl) 2 (.bool b) rfl) 3 (.int .i64 rd) rfl) 4 (.int .i64 r1) rfl) 5 (.int .i64 r2) rfl) 6 (.int .u64 m) rfl | exact blk_put (blk_put (blk_put (blk_put (blk_put (blk_put (blk_put (ext_drewN od.out _) 0 (.int .i64 c) rfl) 1 (.int .i64 (f + 8)) rfl) 2 (.bool b) rfl) 3 (.int .i64 rd) rfl) 4 (.int .i64 r1) rfl) 5 (.int .i64 r2) rfl) 6 (.int .u64 m) rfl)))
end
end Go.Proofs.Ytgcpedenlbcdgaa.Q
end
section
/- decode.sum. -/
namespace Go.Proofs.Ytgcpedenlbcdgaa.Q
open Go.RowKit Go.Proofs.YtgcpedenlbcdgaaW.PrintWords Go.Proofs.YtgcpedenlbcdgaaW.PrintLast Go.Proofs.YtgcpedenlbcdgaaW.PrintMore Go.Proofs.Ytgcpedenlbcdgaa.L
attribute [local go_sem] Instr.field part asAgg lt_step max2_int min2_int max_two min_two max_three min_three max_four min_four lt_0_1 lt_0_2 lt_1_2 lt_0_3 lt_1_3 lt_2_3 lt_0_4 lt_1_4 lt_2_4 lt_3_4 lt_0_5 lt_1_5 lt_2_5 lt_3_5 lt_4_5 lt_0_6 lt_1_6 lt_2_6 lt_3_6 lt_4_6 lt_5_6 lt_0_7 lt_1_7 lt_2_7 lt_3_7 lt_4_7 lt_5_7 lt_6_7 lt_0_8 lt_1_8 lt_2_8 lt_3_8 lt_4_8 lt_5_8 lt_6_8 lt_7_8
set_option linter.unusedVariables false
set_option linter.unusedSimpArgs false
attribute [local go_sem ↓] Go.wp_at_zero Go.wp_at_succ
section
variable (g : Nat) (x c f : Int) (b : Bool) (rd r1 r2 m : Int) (w : World)
set_option maxHeartbeats 1600000 in
set_option maxRecDepth 100000 in
theorem sum2_b (hg : w.heap[g]? = some (.cells #[.int .u32 x] 23 (0, 0))) (hx : u32B x) (h0 : 0 ≤ f) (h1 : f ≤ 7) (q0 : (fieldZ x 31 25 == 0) = false) (q1 : (fieldZ x 31 25 == 1) = false) (q2 : (fieldZ x 31 25 == 32) = true) (k0 : (f == 0) = false) :
    Calls Try.prog 34 #[.func (.func 52) #[] #[.pointer (some ⟨g, 0, none⟩)], .agg #[.int .i64 c, .int .i64 f, .bool b, .int .i64 rd, .int .i64 r1, .int .i64 r2, .int .u64 m]] w fun e w' => e = .returned (.tuple #[.agg #[.int .i64 c, .int .i64 (f + 8), .bool b, .int .i64 rd, .int .i64 r1, .int .i64 r2, .int .u64 m], .bool (f == 5)]) ∧ Below w.heap.size w w' := by
  have hgl := (cells_of hg).2.2
  have HG := Aside0.mk hg
  have HX := Aside0.mk hx
  have HB := Aside0.mk (Below.refl w.heap.size w)
  clear hg hx
  go_enter Try.func34, Try.ntmps34
  go_upto_region 2 with fail
  obtain ⟨wa, hwa, oc0, od0, of0, hb_, hz0⟩ := letter3 w (.cells #[.int .i64 c, .int .i64 f, .bool b, .int .i64 rd, .int .i64 r1, .int .i64 r2, .int .u64 m] 30 (0, 0)) (.cells #[.int .i64 0, .int .i64 0, .bool false, .int .i64 0, .int .i64 0, .int .i64 0, .int .u64 0] 30 (0, 0)) (.cells #[.int .i64 0, .int .i64 1, .int .i64 5] 3 (0, 0))
  rw [hwa]
  clear hwa
  have HG_ := Aside0.mk (box_below hb_ HG.out)
  clear HG; have HG := HG_; clear HG_
  have oc := Aside0.mk oc0
  have od := Aside0.mk od0
  have of := Aside0.mk of0
  clear oc0 od0 of0
  obtain ⟨occ, ocf, ocl⟩ := cells_of oc.out
  obtain ⟨odc, odf, odl⟩ := cells_of od.out
  have HB_ : Aside0 (Below w.heap.size w wa) := ⟨hb_⟩
  clear HB hb_; have HB := HB_; clear HB_
  go_upto_region 10 with (first | (go_at_call 52; (with_reducible refine (fl_runs g x _ _ _ (by repeat (with_reducible first | exact HG.out | apply ext_drew | apply ext_drewN | apply ext_alloc | refine blk_far ?_ (by show _ ≠ _; dsimp only; omega) _)) HX.out (by omega) (by omega)).mono ?_); rintro e_ w_ ⟨rfl, hd_⟩; obtain ⟨n_, rfl⟩ := hd_.out; clear hd_))
  go_upto_region 11 with fail
  obtain ⟨wb, hwb, oc0, od0, hb_⟩ := put_letter (n := n_) (v := .int .i64 (f + 8)) (C' := #[.int .i64 c, .int .i64 (f + 8), .bool b, .int .i64 rd, .int .i64 r1, .int .i64 r2, .int .u64 m]) oc.out od.out rfl HB.out
  rw [hwb]
  clear hwb occ ocf ocl odc odf odl oc od
  have oc := Aside0.mk oc0
  have od := Aside0.mk od0
  clear oc0 od0
  obtain ⟨occ, ocf, ocl⟩ := cells_of oc.out
  obtain ⟨odc, odf, odl⟩ := cells_of od.out
  have HB_ : Aside0 (Below w.heap.size w wb) := ⟨hb_⟩
  clear HB hb_; have HB := HB_; clear HB_
  go_wp2
  all_goals (try go_wp2)
  all_goals (refine bodyPost_ret (results_ct rfl _ _ (w.heap.size + 1) 30 #[.int .i64 c, .int .i64 (f + 8), .bool b, .int .i64 rd, .int .i64 r1, .int .i64 r2, .int .u64 m] (0, 0) _ rfl ?hb_ Try.underlying30 rfl (by kernel_rfl)) rfl ⟨rfl, (by repeat (first | (with_reducible first | exact HB.out | exact Below.refl _ _ | apply below_alloc | apply pw_below_drewN | apply below_drew | refine below_set ?_ (by omega)) | exact HB.out))⟩; (case hb_ => ((repeat (with_reducible first | refine blk_drew ?_ | refine blk_drewN ?_ _)); first | exact blk_put (blk_put (blk_put (blk_put (blk_put (blk_put (blk_put (od.out) 0 (.int .i64 c) rfl) 1 (.int .i64 (f + 8)) rfl) 2 (.bool b) rfl) 3 (.int .i64 rd) rfl) 4 (.int .i64 r1) rfl) 5 (.int .i64 r2) rfl) 6 (.int .u64 m) rfl | exact blk_put (blk_put (blk_put (blk_put (blk_put (blk_put (blk_put (ext_drewN od.out _) 0 (.int .i64 c) rfl) 1 (.int .i64 (f + 8)) rfl) 2 (.bool b) rfl) 3 (.int .i64 rd) rfl) 4 (.int .i64 r1) rfl) 5 (.int .i64 r2) rfl) 6 (.int .u64 m) rfl)))
end
end Go.Proofs.Ytgcpedenlbcdgaa.Q
end
section
/- decode.sum. -/
namespace Go.Proofs.Ytgcpedenlbcdgaa.Q
open Go.RowKit Go.Proofs.YtgcpedenlbcdgaaW.PrintWords Go.Proofs.YtgcpedenlbcdgaaW.PrintLast Go.Proofs.YtgcpedenlbcdgaaW.PrintMore Go.Proofs.Ytgcpedenlbcdgaa.L
attribute [local go_sem] Instr.field part asAgg lt_step max2_int min2_int max_two min_two max_three min_three max_four min_four lt_0_1 lt_0_2 lt_1_2 lt_0_3 lt_1_3 lt_2_3 lt_0_4 lt_1_4 lt_2_4 lt_3_4 lt_0_5 lt_1_5 lt_2_5 lt_3_5 lt_4_5 lt_0_6 lt_1_6 lt_2_6 lt_3_6 lt_4_6 lt_5_6 lt_0_7 lt_1_7 lt_2_7 lt_3_7 lt_4_7 lt_5_7 lt_6_7 lt_0_8 lt_1_8 lt_2_8 lt_3_8 lt_4_8 lt_5_8 lt_6_8 lt_7_8
set_option linter.unusedVariables false
set_option linter.unusedSimpArgs false
attribute [local go_sem ↓] Go.wp_at_zero Go.wp_at_succ
section
variable (g : Nat) (x c f : Int) (b : Bool) (rd r1 r2 m : Int) (w : World)
set_option maxHeartbeats 1600000 in
set_option maxRecDepth 100000 in
theorem sum3 (hg : w.heap[g]? = some (.cells #[.int .u32 x] 23 (0, 0))) (hx : u32B x) (h0 : 0 ≤ f) (h1 : f ≤ 7) (q0 : (fieldZ x 31 25 == 0) = false) (q1 : (fieldZ x 31 25 == 1) = false) (q2 : (fieldZ x 31 25 == 32) = false) :
    Calls Try.prog 34 #[.func (.func 52) #[] #[.pointer (some ⟨g, 0, none⟩)], .agg #[.int .i64 c, .int .i64 f, .bool b, .int .i64 rd, .int .i64 r1, .int .i64 r2, .int .u64 m]] w fun e w' => e = .returned (.tuple #[.agg #[.int .i64 c, .int .i64 f, .bool b, .int .i64 rd, .int .i64 r1, .int .i64 r2, .int .u64 m], .bool false]) ∧ Below w.heap.size w w' := by
  have hgl := (cells_of hg).2.2
  have HG := Aside0.mk hg
  have HX := Aside0.mk hx
  have HB := Aside0.mk (Below.refl w.heap.size w)
  clear hg hx
  go_enter Try.func34, Try.ntmps34
  go_upto_region 2 with fail
  obtain ⟨wa, hwa, oc0, od0, of0, hb_, hz0⟩ := letter3 w (.cells #[.int .i64 c, .int .i64 f, .bool b, .int .i64 rd, .int .i64 r1, .int .i64 r2, .int .u64 m] 30 (0, 0)) (.cells #[.int .i64 0, .int .i64 0, .bool false, .int .i64 0, .int .i64 0, .int .i64 0, .int .u64 0] 30 (0, 0)) (.cells #[.int .i64 0, .int .i64 1, .int .i64 5] 3 (0, 0))
  rw [hwa]
  clear hwa
  have HG_ := Aside0.mk (box_below hb_ HG.out)
  clear HG; have HG := HG_; clear HG_
  have oc := Aside0.mk oc0
  have od := Aside0.mk od0
  have of := Aside0.mk of0
  clear oc0 od0 of0
  obtain ⟨occ, ocf, ocl⟩ := cells_of oc.out
  obtain ⟨odc, odf, odl⟩ := cells_of od.out
  have HB_ : Aside0 (Below w.heap.size w wa) := ⟨hb_⟩
  clear HB hb_; have HB := HB_; clear HB_
  go_wp2_with (first | (go_at_call 52; (with_reducible refine (fl_runs g x _ _ _ (by repeat (with_reducible first | exact HG.out | apply ext_drew | apply ext_drewN | apply ext_alloc | refine blk_far ?_ (by show _ ≠ _; dsimp only; omega) _)) HX.out (by omega) (by omega)).mono ?_); rintro e_ w_ ⟨rfl, hd_⟩; obtain ⟨n_, rfl⟩ := hd_.out; clear hd_))
  all_goals (try go_wp2)
  all_goals (refine bodyPost_ret (results_ct rfl _ _ (w.heap.size + 1) 30 #[.int .i64 c, .int .i64 f, .bool b, .int .i64 rd, .int .i64 r1, .int .i64 r2, .int .u64 m] (0, 0) _ rfl ?hb_ Try.underlying30 rfl (by kernel_rfl)) rfl ⟨rfl, (by repeat (first | (with_reducible first | exact HB.out | exact Below.refl _ _ | apply below_alloc | apply pw_below_drewN | apply below_drew | refine below_set ?_ (by omega)) | exact HB.out))⟩; (case hb_ => ((repeat (with_reducible first | refine blk_drew ?_ | refine blk_drewN ?_ _)); first | exact blk_put (blk_put (blk_put (blk_put (blk_put (blk_put (blk_put (od.out) 0 (.int .i64 c) rfl) 1 (.int .i64 f) rfl) 2 (.bool b) rfl) 3 (.int .i64 rd) rfl) 4 (.int .i64 r1) rfl) 5 (.int .i64 r2) rfl) 6 (.int .u64 m) rfl | exact blk_put (blk_put (blk_put (blk_put (blk_put (blk_put (blk_put (ext_drewN od.out _) 0 (.int .i64 c) rfl) 1 (.int .i64 f) rfl) 2 (.bool b) rfl) 3 (.int .i64 rd) rfl) 4 (.int .i64 r1) rfl) 5 (.int .i64 r2) rfl) 6 (.int .u64 m) rfl)))
end
end Go.Proofs.Ytgcpedenlbcdgaa.Q
end
section
/- decode.atomic. -/
namespace Go.Proofs.Ytgcpedenlbcdgaa.Q
open Go.RowKit Go.Proofs.YtgcpedenlbcdgaaW.PrintWords Go.Proofs.YtgcpedenlbcdgaaW.PrintLast Go.Proofs.YtgcpedenlbcdgaaW.PrintMore Go.Proofs.Ytgcpedenlbcdgaa.L
attribute [local go_sem] Instr.field part asAgg lt_step max2_int min2_int max_two min_two max_three min_three max_four min_four lt_0_1 lt_0_2 lt_1_2 lt_0_3 lt_1_3 lt_2_3 lt_0_4 lt_1_4 lt_2_4 lt_3_4 lt_0_5 lt_1_5 lt_2_5 lt_3_5 lt_4_5 lt_0_6 lt_1_6 lt_2_6 lt_3_6 lt_4_6 lt_5_6 lt_0_7 lt_1_7 lt_2_7 lt_3_7 lt_4_7 lt_5_7 lt_6_7 lt_0_8 lt_1_8 lt_2_8 lt_3_8 lt_4_8 lt_5_8 lt_6_8 lt_7_8
set_option linter.unusedVariables false
set_option linter.unusedSimpArgs false
attribute [local go_sem ↓] Go.wp_at_zero Go.wp_at_succ
section
variable (g : Nat) (x f rd r1 r2 : Int) (w : World)
def amoK (g f r2 : Int) : Bool := (if g ≤ 4 then true else Go.bits .and .i64 g 3 == 0) && ((if g == 2 then r2 == 0 else true) && (if f == 2 then true else f == 3))
set_option maxHeartbeats 1600000 in
set_option maxRecDepth 100000 in
theorem atomic_runs (hg : w.heap[g]? = some (.cells #[.int .u32 x] 23 (0, 0))) (hx : u32B x) :
    Calls Try.prog 36 #[.func (.func 52) #[] #[.pointer (some ⟨g, 0, none⟩)], .agg #[.int .i64 0, .int .i64 f, .bool false, .int .i64 rd, .int .i64 r1, .int .i64 r2, .int .u64 0]] w fun e w' => e = .returned (.tuple #[.agg #[.int .i64 13, .int .i64 (fieldZ x 31 27), .bool (f == 2), .int .i64 rd, .int .i64 r1, .int .i64 r2, .int .u64 0], .bool (amoK (fieldZ x 31 27) f r2)]) ∧ Below w.heap.size w w' := by
  obtain ⟨p0, p1⟩ := fieldZ_B x 31 27 hx 5 (by decide) (by decide) (by decide) rfl
  have p2 : fieldZ x 31 27 ≤ 31 := by omega
  clear p1
  have hgl := (cells_of hg).2.2
  have HG := Aside0.mk hg
  have HX := Aside0.mk hx
  have HB := Aside0.mk (Below.refl w.heap.size w)
  clear hg hx
  cases e2 : fieldZ x 31 27 == 2
  · skip
    have e2n : (fieldZ x 31 27 != 2) = true := by unfold bne; rw [e2]; rfl
    cases e0 : decide (fieldZ x 31 27 ≤ 4)
    · skip
      cases e1 : Go.bits .and .i64 (fieldZ x 31 27) 3 == 0
      · skip
        go_enter Try.func36, Try.ntmps36
        go_wp2_with (first | (go_at_call 52; (with_reducible refine (fl_runs g x _ _ _ (by repeat (with_reducible first | exact HG.out | apply ext_drew | apply ext_drewN | apply ext_alloc | refine blk_far ?_ (by show _ ≠ _; dsimp only; omega) _)) HX.out (by omega) (by omega)).mono ?_); rintro e_ w_ ⟨rfl, hd_⟩; obtain ⟨n_, rfl⟩ := hd_.out; clear hd_))
        have HK : amoK (fieldZ x 31 27) f r2 = false := by clear HG HX HB; unfold amoK; simp [*]
        refine bodyPost_ret (v := .tuple #[.agg #[.int .i64 13, .int .i64 (fieldZ x 31 27), .bool (f == 2), .int .i64 rd, .int .i64 r1, .int .i64 r2, .int .u64 0], .bool false]) (by simp [results, Try.results36, go_sem, *] <;> first | assumption | omega | (symm; assumption)) rfl ?_
        exact ⟨by first | (rw [HK]; done) | (rw [HK]; simp [*]; done) | (rw [HK, e4]; done) | (simp only [HK, e4, e2]; done), (by repeat (first | (with_reducible first | exact HB.out | exact Below.refl _ _ | apply below_alloc | apply pw_below_drewN | apply below_drew | refine below_set ?_ (by omega)) | exact HB.out))⟩
      · skip
        cases e4 : f == 2
        · skip
          cases e5 : f == 3
          · skip
            go_enter Try.func36, Try.ntmps36
            go_wp2_with (first | (go_at_call 52; (with_reducible refine (fl_runs g x _ _ _ (by repeat (with_reducible first | exact HG.out | apply ext_drew | apply ext_drewN | apply ext_alloc | refine blk_far ?_ (by show _ ≠ _; dsimp only; omega) _)) HX.out (by omega) (by omega)).mono ?_); rintro e_ w_ ⟨rfl, hd_⟩; obtain ⟨n_, rfl⟩ := hd_.out; clear hd_))
            have HK : amoK (fieldZ x 31 27) f r2 = false := by clear HG HX HB; unfold amoK; simp [*]
            refine bodyPost_ret (v := .tuple #[.agg #[.int .i64 13, .int .i64 (fieldZ x 31 27), .bool (f == 2), .int .i64 rd, .int .i64 r1, .int .i64 r2, .int .u64 0], .bool false]) (by simp [results, Try.results36, go_sem, *] <;> first | assumption | omega | (symm; assumption)) rfl ?_
            exact ⟨by first | (rw [HK]; done) | (rw [HK]; simp [*]; done) | (rw [HK, e4]; done) | (simp only [HK, e4, e2]; done), (by repeat (first | (with_reducible first | exact HB.out | exact Below.refl _ _ | apply below_alloc | apply pw_below_drewN | apply below_drew | refine below_set ?_ (by omega)) | exact HB.out))⟩
          · skip
            go_enter Try.func36, Try.ntmps36
            go_wp2_with (first | (go_at_call 52; (with_reducible refine (fl_runs g x _ _ _ (by repeat (with_reducible first | exact HG.out | apply ext_drew | apply ext_drewN | apply ext_alloc | refine blk_far ?_ (by show _ ≠ _; dsimp only; omega) _)) HX.out (by omega) (by omega)).mono ?_); rintro e_ w_ ⟨rfl, hd_⟩; obtain ⟨n_, rfl⟩ := hd_.out; clear hd_))
            have HK : amoK (fieldZ x 31 27) f r2 = true := by clear HG HX HB; unfold amoK; simp [*]
            refine bodyPost_ret (v := .tuple #[.agg #[.int .i64 13, .int .i64 (fieldZ x 31 27), .bool (f == 2), .int .i64 rd, .int .i64 r1, .int .i64 r2, .int .u64 0], .bool true]) (by simp [results, Try.results36, go_sem, *] <;> first | assumption | omega | (symm; assumption)) rfl ?_
            exact ⟨by first | (rw [HK]; done) | (rw [HK]; simp [*]; done) | (rw [HK, e4]; done) | (simp only [HK, e4, e2]; done), (by repeat (first | (with_reducible first | exact HB.out | exact Below.refl _ _ | apply below_alloc | apply pw_below_drewN | apply below_drew | refine below_set ?_ (by omega)) | exact HB.out))⟩
        · skip
          go_enter Try.func36, Try.ntmps36
          go_wp2_with (first | (go_at_call 52; (with_reducible refine (fl_runs g x _ _ _ (by repeat (with_reducible first | exact HG.out | apply ext_drew | apply ext_drewN | apply ext_alloc | refine blk_far ?_ (by show _ ≠ _; dsimp only; omega) _)) HX.out (by omega) (by omega)).mono ?_); rintro e_ w_ ⟨rfl, hd_⟩; obtain ⟨n_, rfl⟩ := hd_.out; clear hd_))
          have HK : amoK (fieldZ x 31 27) f r2 = true := by clear HG HX HB; unfold amoK; simp [*]
          refine bodyPost_ret (v := .tuple #[.agg #[.int .i64 13, .int .i64 (fieldZ x 31 27), .bool (f == 2), .int .i64 rd, .int .i64 r1, .int .i64 r2, .int .u64 0], .bool true]) (by simp [results, Try.results36, go_sem, *] <;> first | assumption | omega | (symm; assumption)) rfl ?_
          exact ⟨by first | (rw [HK]; done) | (rw [HK]; simp [*]; done) | (rw [HK, e4]; done) | (simp only [HK, e4, e2]; done), (by repeat (first | (with_reducible first | exact HB.out | exact Below.refl _ _ | apply below_alloc | apply pw_below_drewN | apply below_drew | refine below_set ?_ (by omega)) | exact HB.out))⟩
    · skip
      cases e4 : f == 2
      · skip
        cases e5 : f == 3
        · skip
          go_enter Try.func36, Try.ntmps36
          go_wp2_with (first | (go_at_call 52; (with_reducible refine (fl_runs g x _ _ _ (by repeat (with_reducible first | exact HG.out | apply ext_drew | apply ext_drewN | apply ext_alloc | refine blk_far ?_ (by show _ ≠ _; dsimp only; omega) _)) HX.out (by omega) (by omega)).mono ?_); rintro e_ w_ ⟨rfl, hd_⟩; obtain ⟨n_, rfl⟩ := hd_.out; clear hd_))
          have HK : amoK (fieldZ x 31 27) f r2 = false := by clear HG HX HB; unfold amoK; simp [*]
          refine bodyPost_ret (v := .tuple #[.agg #[.int .i64 13, .int .i64 (fieldZ x 31 27), .bool (f == 2), .int .i64 rd, .int .i64 r1, .int .i64 r2, .int .u64 0], .bool false]) (by simp [results, Try.results36, go_sem, *] <;> first | assumption | omega | (symm; assumption)) rfl ?_
          exact ⟨by first | (rw [HK]; done) | (rw [HK]; simp [*]; done) | (rw [HK, e4]; done) | (simp only [HK, e4, e2]; done), (by repeat (first | (with_reducible first | exact HB.out | exact Below.refl _ _ | apply below_alloc | apply pw_below_drewN | apply below_drew | refine below_set ?_ (by omega)) | exact HB.out))⟩
        · skip
          go_enter Try.func36, Try.ntmps36
          go_wp2_with (first | (go_at_call 52; (with_reducible refine (fl_runs g x _ _ _ (by repeat (with_reducible first | exact HG.out | apply ext_drew | apply ext_drewN | apply ext_alloc | refine blk_far ?_ (by show _ ≠ _; dsimp only; omega) _)) HX.out (by omega) (by omega)).mono ?_); rintro e_ w_ ⟨rfl, hd_⟩; obtain ⟨n_, rfl⟩ := hd_.out; clear hd_))
          have HK : amoK (fieldZ x 31 27) f r2 = true := by clear HG HX HB; unfold amoK; simp [*]
          refine bodyPost_ret (v := .tuple #[.agg #[.int .i64 13, .int .i64 (fieldZ x 31 27), .bool (f == 2), .int .i64 rd, .int .i64 r1, .int .i64 r2, .int .u64 0], .bool true]) (by simp [results, Try.results36, go_sem, *] <;> first | assumption | omega | (symm; assumption)) rfl ?_
          exact ⟨by first | (rw [HK]; done) | (rw [HK]; simp [*]; done) | (rw [HK, e4]; done) | (simp only [HK, e4, e2]; done), (by repeat (first | (with_reducible first | exact HB.out | exact Below.refl _ _ | apply below_alloc | apply pw_below_drewN | apply below_drew | refine below_set ?_ (by omega)) | exact HB.out))⟩
      · skip
        go_enter Try.func36, Try.ntmps36
        go_wp2_with (first | (go_at_call 52; (with_reducible refine (fl_runs g x _ _ _ (by repeat (with_reducible first | exact HG.out | apply ext_drew | apply ext_drewN | apply ext_alloc | refine blk_far ?_ (by show _ ≠ _; dsimp only; omega) _)) HX.out (by omega) (by omega)).mono ?_); rintro e_ w_ ⟨rfl, hd_⟩; obtain ⟨n_, rfl⟩ := hd_.out; clear hd_))
        have HK : amoK (fieldZ x 31 27) f r2 = true := by clear HG HX HB; unfold amoK; simp [*]
        refine bodyPost_ret (v := .tuple #[.agg #[.int .i64 13, .int .i64 (fieldZ x 31 27), .bool (f == 2), .int .i64 rd, .int .i64 r1, .int .i64 r2, .int .u64 0], .bool true]) (by simp [results, Try.results36, go_sem, *] <;> first | assumption | omega | (symm; assumption)) rfl ?_
        exact ⟨by first | (rw [HK]; done) | (rw [HK]; simp [*]; done) | (rw [HK, e4]; done) | (simp only [HK, e4, e2]; done), (by repeat (first | (with_reducible first | exact HB.out | exact Below.refl _ _ | apply below_alloc | apply pw_below_drewN | apply below_drew | refine below_set ?_ (by omega)) | exact HB.out))⟩
  · skip
    have e0 : decide (fieldZ x 31 27 ≤ 4) = true := decide_eq_true (by have := eq_of_beq e2; omega)
    have e2n : (fieldZ x 31 27 != 2) = false := by unfold bne; rw [e2]; rfl
    cases e3 : r2 == 0
    · skip
      go_enter Try.func36, Try.ntmps36
      go_wp2_with (first | (go_at_call 52; (with_reducible refine (fl_runs g x _ _ _ (by repeat (with_reducible first | exact HG.out | apply ext_drew | apply ext_drewN | apply ext_alloc | refine blk_far ?_ (by show _ ≠ _; dsimp only; omega) _)) HX.out (by omega) (by omega)).mono ?_); rintro e_ w_ ⟨rfl, hd_⟩; obtain ⟨n_, rfl⟩ := hd_.out; clear hd_))
      have HK : amoK (fieldZ x 31 27) f r2 = false := by clear HG HX HB; unfold amoK; simp [*]
      refine bodyPost_ret (v := .tuple #[.agg #[.int .i64 13, .int .i64 (fieldZ x 31 27), .bool (f == 2), .int .i64 rd, .int .i64 r1, .int .i64 r2, .int .u64 0], .bool false]) (by simp [results, Try.results36, go_sem, *] <;> first | assumption | omega | (symm; assumption)) rfl ?_
      exact ⟨by first | (rw [HK]; done) | (rw [HK]; simp [*]; done) | (rw [HK, e4]; done) | (simp only [HK, e4, e2]; done), (by repeat (first | (with_reducible first | exact HB.out | exact Below.refl _ _ | apply below_alloc | apply pw_below_drewN | apply below_drew | refine below_set ?_ (by omega)) | exact HB.out))⟩
    · skip
      cases e4 : f == 2
      · skip
        cases e5 : f == 3
        · skip
          go_enter Try.func36, Try.ntmps36
          go_wp2_with (first | (go_at_call 52; (with_reducible refine (fl_runs g x _ _ _ (by repeat (with_reducible first | exact HG.out | apply ext_drew | apply ext_drewN | apply ext_alloc | refine blk_far ?_ (by show _ ≠ _; dsimp only; omega) _)) HX.out (by omega) (by omega)).mono ?_); rintro e_ w_ ⟨rfl, hd_⟩; obtain ⟨n_, rfl⟩ := hd_.out; clear hd_))
          have HK : amoK (fieldZ x 31 27) f r2 = false := by clear HG HX HB; unfold amoK; simp [*]
          refine bodyPost_ret (v := .tuple #[.agg #[.int .i64 13, .int .i64 (fieldZ x 31 27), .bool (f == 2), .int .i64 rd, .int .i64 r1, .int .i64 r2, .int .u64 0], .bool false]) (by simp [results, Try.results36, go_sem, *] <;> first | assumption | omega | (symm; assumption)) rfl ?_
          exact ⟨by first | (rw [HK]; done) | (rw [HK]; simp [*]; done) | (rw [HK, e4]; done) | (simp only [HK, e4, e2]; done), (by repeat (first | (with_reducible first | exact HB.out | exact Below.refl _ _ | apply below_alloc | apply pw_below_drewN | apply below_drew | refine below_set ?_ (by omega)) | exact HB.out))⟩
        · skip
          go_enter Try.func36, Try.ntmps36
          go_wp2_with (first | (go_at_call 52; (with_reducible refine (fl_runs g x _ _ _ (by repeat (with_reducible first | exact HG.out | apply ext_drew | apply ext_drewN | apply ext_alloc | refine blk_far ?_ (by show _ ≠ _; dsimp only; omega) _)) HX.out (by omega) (by omega)).mono ?_); rintro e_ w_ ⟨rfl, hd_⟩; obtain ⟨n_, rfl⟩ := hd_.out; clear hd_))
          have HK : amoK (fieldZ x 31 27) f r2 = true := by clear HG HX HB; unfold amoK; simp [*]
          refine bodyPost_ret (v := .tuple #[.agg #[.int .i64 13, .int .i64 (fieldZ x 31 27), .bool (f == 2), .int .i64 rd, .int .i64 r1, .int .i64 r2, .int .u64 0], .bool true]) (by simp [results, Try.results36, go_sem, *] <;> first | assumption | omega | (symm; assumption)) rfl ?_
          exact ⟨by first | (rw [HK]; done) | (rw [HK]; simp [*]; done) | (rw [HK, e4]; done) | (simp only [HK, e4, e2]; done), (by repeat (first | (with_reducible first | exact HB.out | exact Below.refl _ _ | apply below_alloc | apply pw_below_drewN | apply below_drew | refine below_set ?_ (by omega)) | exact HB.out))⟩
      · skip
        go_enter Try.func36, Try.ntmps36
        go_wp2_with (first | (go_at_call 52; (with_reducible refine (fl_runs g x _ _ _ (by repeat (with_reducible first | exact HG.out | apply ext_drew | apply ext_drewN | apply ext_alloc | refine blk_far ?_ (by show _ ≠ _; dsimp only; omega) _)) HX.out (by omega) (by omega)).mono ?_); rintro e_ w_ ⟨rfl, hd_⟩; obtain ⟨n_, rfl⟩ := hd_.out; clear hd_))
        have HK : amoK (fieldZ x 31 27) f r2 = true := by clear HG HX HB; unfold amoK; simp [*]
        refine bodyPost_ret (v := .tuple #[.agg #[.int .i64 13, .int .i64 (fieldZ x 31 27), .bool (f == 2), .int .i64 rd, .int .i64 r1, .int .i64 r2, .int .u64 0], .bool true]) (by simp [results, Try.results36, go_sem, *] <;> first | assumption | omega | (symm; assumption)) rfl ?_
        exact ⟨by first | (rw [HK]; done) | (rw [HK]; simp [*]; done) | (rw [HK, e4]; done) | (simp only [HK, e4, e2]; done), (by repeat (first | (with_reducible first | exact HB.out | exact Below.refl _ _ | apply below_alloc | apply pw_below_drewN | apply below_drew | refine below_set ?_ (by omega)) | exact HB.out))⟩
end
end Go.Proofs.Ytgcpedenlbcdgaa.Q
end
section
/- decode.system. -/
namespace Go.Proofs.Ytgcpedenlbcdgaa.Q
open Go.RowKit Go.Proofs.YtgcpedenlbcdgaaW.PrintWords Go.Proofs.YtgcpedenlbcdgaaW.PrintLast Go.Proofs.YtgcpedenlbcdgaaW.PrintMore Go.Proofs.Ytgcpedenlbcdgaa.L
attribute [local go_sem] Instr.field part asAgg lt_step max2_int min2_int max_two min_two max_three min_three max_four min_four lt_0_1 lt_0_2 lt_1_2 lt_0_3 lt_1_3 lt_2_3 lt_0_4 lt_1_4 lt_2_4 lt_3_4 lt_0_5 lt_1_5 lt_2_5 lt_3_5 lt_4_5 lt_0_6 lt_1_6 lt_2_6 lt_3_6 lt_4_6 lt_5_6 lt_0_7 lt_1_7 lt_2_7 lt_3_7 lt_4_7 lt_5_7 lt_6_7 lt_0_8 lt_1_8 lt_2_8 lt_3_8 lt_4_8 lt_5_8 lt_6_8 lt_7_8
set_option linter.unusedVariables false
set_option linter.unusedSimpArgs false
attribute [local go_sem ↓] Go.wp_at_zero Go.wp_at_succ
def idxZ (x : Int) : Int := if x = 115 then 0 else if x = 1048691 then 1 else if x = 270532723 then 2 else if x = 807403635 then 3 else if x = 273678451 then 4 else -1
theorem index_is (x : Int) : slices_Index_uint32_uint32.f 20 [115, 1048691, 270532723, 807403635, 273678451] x = some (idxZ x) := by
  by_cases h0 : x = 115
  · subst h0; exact (show slices_Index_uint32_uint32.f 20 [115, 1048691, 270532723, 807403635, 273678451] 115 = some 0 from by kernel_rfl)
  by_cases h1 : x = 1048691
  · subst h1; exact (show slices_Index_uint32_uint32.f 20 [115, 1048691, 270532723, 807403635, 273678451] 1048691 = some 1 from by kernel_rfl)
  by_cases h2 : x = 270532723
  · subst h2; exact (show slices_Index_uint32_uint32.f 20 [115, 1048691, 270532723, 807403635, 273678451] 270532723 = some 2 from by kernel_rfl)
  by_cases h3 : x = 807403635
  · subst h3; exact (show slices_Index_uint32_uint32.f 20 [115, 1048691, 270532723, 807403635, 273678451] 807403635 = some 3 from by kernel_rfl)
  by_cases h4 : x = 273678451
  · subst h4; exact (show slices_Index_uint32_uint32.f 20 [115, 1048691, 270532723, 807403635, 273678451] 273678451 = some 4 from by kernel_rfl)
  unfold idxZ
  rw [if_neg h0, if_neg h1, if_neg h2, if_neg h3, if_neg h4]
  unfold slices_Index_uint32_uint32.f slices_Index_uint32_uint32.l0
  rw [if_pos (by decide), if_pos (by decide), if_pos (by decide), if_neg (show ¬ x = rd [115, 1048691, 270532723, 807403635, 273678451] 0 from h0)]
  rw [show wrap64 (0 + 1) = 1 from by kernel_rfl]
  unfold slices_Index_uint32_uint32.l0
  rw [if_pos (by decide), if_pos (by decide), if_pos (by decide), if_neg (show ¬ x = rd [115, 1048691, 270532723, 807403635, 273678451] 1 from h1)]
  rw [show wrap64 (1 + 1) = 2 from by kernel_rfl]
  unfold slices_Index_uint32_uint32.l0
  rw [if_pos (by decide), if_pos (by decide), if_pos (by decide), if_neg (show ¬ x = rd [115, 1048691, 270532723, 807403635, 273678451] 2 from h2)]
  rw [show wrap64 (2 + 1) = 3 from by kernel_rfl]
  unfold slices_Index_uint32_uint32.l0
  rw [if_pos (by decide), if_pos (by decide), if_pos (by decide), if_neg (show ¬ x = rd [115, 1048691, 270532723, 807403635, 273678451] 3 from h3)]
  rw [show wrap64 (3 + 1) = 4 from by kernel_rfl]
  unfold slices_Index_uint32_uint32.l0
  rw [if_pos (by decide), if_pos (by decide), if_pos (by decide), if_neg (show ¬ x = rd [115, 1048691, 270532723, 807403635, 273678451] 4 from h4)]
  rw [show wrap64 (4 + 1) = 5 from by kernel_rfl]
  unfold slices_Index_uint32_uint32.l0
  rw [if_neg (by decide)]
theorem index_call (p : Nat) (x : Int) (w : World) (hp : w.heap[p]? = some (.cells #[.int .u32 115, .int .u32 1048691, .int .u32 270532723, .int .u32 807403635, .int .u32 273678451] 59 (0, 0))) :
    Calls Try.prog 55 #[.slice (some ⟨p, 0, none⟩) 5 5, .int .u32 x] w fun e w' => e = .returned (.int .i64 (idxZ x)) ∧ Drawn0 w w' :=
  slices_Index_uint32_uint32.calls 20 _ 5 [115, 1048691, 270532723, 807403635, 273678451] x _ w (C_blk hp rfl (by decide) rfl) (by decide) (index_is x)
set_option maxHeartbeats 1600000 in
set_option maxRecDepth 100000 in
theorem systems_runs (w : World) : Calls Try.prog 44 #[] w fun e w' => e = .returned (.agg #[.int .u32 115, .int .u32 1048691, .int .u32 270532723, .int .u32 807403635, .int .u32 273678451]) ∧ Below w.heap.size w w' := by
  have HB := Aside0.mk (Below.refl w.heap.size w)
  go_enter Try.func44, Try.ntmps44
  go_wp2
  refine bodyPost_ret (v := .agg #[.int .u32 115, .int .u32 1048691, .int .u32 270532723, .int .u32 807403635, .int .u32 273678451]) (by simp [results, Try.results44, go_sem] <;> first | assumption | omega | (symm; assumption)) rfl ?_
  exact ⟨rfl, (by repeat (first | (with_reducible first | exact HB.out | exact Below.refl _ _ | apply below_alloc | apply pw_below_drewN | apply below_drew | refine below_set ?_ (by omega)) | exact HB.out))⟩
end Go.Proofs.Ytgcpedenlbcdgaa.Q
end
section
/- decode.sum, whole. -/
namespace Go.Proofs.Ytgcpedenlbcdgaa.Q
open Go.RowKit Go.Proofs.YtgcpedenlbcdgaaW.PrintWords Go.Proofs.YtgcpedenlbcdgaaW.PrintLast Go.Proofs.YtgcpedenlbcdgaaW.PrintMore Go.Proofs.Ytgcpedenlbcdgaa.L
attribute [local go_sem] Instr.field part asAgg lt_step max2_int min2_int max_two min_two max_three min_three max_four min_four lt_0_1 lt_0_2 lt_1_2 lt_0_3 lt_1_3 lt_2_3 lt_0_4 lt_1_4 lt_2_4 lt_3_4 lt_0_5 lt_1_5 lt_2_5 lt_3_5 lt_4_5 lt_0_6 lt_1_6 lt_2_6 lt_3_6 lt_4_6 lt_5_6 lt_0_7 lt_1_7 lt_2_7 lt_3_7 lt_4_7 lt_5_7 lt_6_7 lt_0_8 lt_1_8 lt_2_8 lt_3_8 lt_4_8 lt_5_8 lt_6_8 lt_7_8
set_option linter.unusedVariables false
set_option linter.unusedSimpArgs false
attribute [local go_sem ↓] Go.wp_at_zero Go.wp_at_succ
section
variable (g : Nat) (x c f : Int) (b : Bool) (rd r1 r2 m : Int) (w : World)
def sumF (x f : Int) : Int := if fieldZ x 31 25 == 0 then f else if fieldZ x 31 25 == 1 then 16 + f else if fieldZ x 31 25 == 32 then f + 8 else f
def sumK (x f : Int) (b : Bool) : Bool := if fieldZ x 31 25 == 0 then (if b then (f == 0 || f == 1 || f == 5) else true) else if fieldZ x 31 25 == 1 then (if b then (if f == 0 then true else decide (20 ≤ 16 + f)) else true) else if fieldZ x 31 25 == 32 then (if f == 0 then true else f == 5) else false
theorem sum_runs (hg : w.heap[g]? = some (.cells #[.int .u32 x] 23 (0, 0))) (hx : u32B x) (h0 : 0 ≤ f) (h1 : f ≤ 7) :
    Calls Try.prog 34 #[.func (.func 52) #[] #[.pointer (some ⟨g, 0, none⟩)], .agg #[.int .i64 c, .int .i64 f, .bool b, .int .i64 rd, .int .i64 r1, .int .i64 r2, .int .u64 m]] w fun e w' => e = .returned (.tuple #[.agg #[.int .i64 c, .int .i64 (sumF x f), .bool b, .int .i64 rd, .int .i64 r1, .int .i64 r2, .int .u64 m], .bool (sumK x f b)]) ∧ Below w.heap.size w w' := by
  unfold sumF sumK
  cases q0 : fieldZ x 31 25 == 0
  · cases q1 : fieldZ x 31 25 == 1
    · cases q2 : fieldZ x 31 25 == 32
      · exact sum3 g x c f b rd r1 r2 m w hg hx h0 h1 q0 q1 q2
      · cases k0 : f == 0
        · exact sum2_b g x c f b rd r1 r2 m w hg hx h0 h1 q0 q1 q2 k0
        · exact sum2_a g x c f b rd r1 r2 m w hg hx h0 h1 q0 q1 q2 k0
    · cases b
      · exact sum1_false g x c f rd r1 r2 m w hg hx h0 h1 q0 q1
      · cases k0 : f == 0
        · exact sum1_true_b g x c f rd r1 r2 m w hg hx h0 h1 q0 q1 k0
        · exact sum1_true_a g x c f rd r1 r2 m w hg hx h0 h1 q0 q1 k0
  · cases b
    · exact sum0_false g x c f rd r1 r2 m w hg hx h0 h1 q0
    · exact sum0_true g x c f rd r1 r2 m w hg hx h0 h1 q0
end
end Go.Proofs.Ytgcpedenlbcdgaa.Q
end
section
/- decode.system. -/
namespace Go.Proofs.Ytgcpedenlbcdgaa.Q
open Go.RowKit Go.Proofs.YtgcpedenlbcdgaaW.PrintWords Go.Proofs.YtgcpedenlbcdgaaW.PrintLast Go.Proofs.YtgcpedenlbcdgaaW.PrintMore Go.Proofs.Ytgcpedenlbcdgaa.L
attribute [local go_sem] Instr.field part asAgg lt_step max2_int min2_int max_two min_two max_three min_three max_four min_four lt_0_1 lt_0_2 lt_1_2 lt_0_3 lt_1_3 lt_2_3 lt_0_4 lt_1_4 lt_2_4 lt_3_4 lt_0_5 lt_1_5 lt_2_5 lt_3_5 lt_4_5 lt_0_6 lt_1_6 lt_2_6 lt_3_6 lt_4_6 lt_5_6 lt_0_7 lt_1_7 lt_2_7 lt_3_7 lt_4_7 lt_5_7 lt_6_7 lt_0_8 lt_1_8 lt_2_8 lt_3_8 lt_4_8 lt_5_8 lt_6_8 lt_7_8
set_option linter.unusedVariables false
set_option linter.unusedSimpArgs false
attribute [local go_sem ↓] Go.wp_at_zero Go.wp_at_succ
section
variable (g : Nat) (x f rd r1 r2 : Int) (w : World)
set_option maxHeartbeats 1600000 in
set_option maxRecDepth 100000 in
theorem system_a (hg : w.heap[g]? = some (.cells #[.int .u32 x] 23 (0, 0))) (hx : u32B x) (hi : 0 ≤ idxZ x) :
    Calls Try.prog 35 #[.int .u32 x, .func (.func 52) #[] #[.pointer (some ⟨g, 0, none⟩)], .agg #[.int .i64 0, .int .i64 f, .bool false, .int .i64 rd, .int .i64 r1, .int .i64 r2, .int .u64 0]] w fun e w' => e = .returned (.tuple #[.agg #[.int .i64 11, .int .i64 (idxZ x), .bool false, .int .i64 0, .int .i64 0, .int .i64 0, .int .u64 0], .bool true]) ∧ Below w.heap.size w w' := by
  have hgl := (cells_of hg).2.2
  have HG := Aside0.mk hg
  have HX := Aside0.mk hx
  have HB := Aside0.mk (Below.refl w.heap.size w)
  clear hg hx
  have IX : Aside0 (∀ p W, W.heap[p]? = some (.cells #[.int .u32 115, .int .u32 1048691, .int .u32 270532723, .int .u32 807403635, .int .u32 273678451] 59 (0, 0)) → Calls Try.prog 55 #[.slice (some ⟨p, 0, none⟩) 5 5, .int .u32 x] W fun e w' => e = .returned (.int .i64 (idxZ x)) ∧ Drawn0 W w') := ⟨fun p W hp => index_call p x W hp⟩
  go_enter Try.func35, Try.ntmps35
  go_upto_region 1 with fail
  obtain ⟨wa, hwa, oc0, od0, hb_, hz0⟩ := letter2 w (.cells #[.int .i64 0, .int .i64 f, .bool false, .int .i64 rd, .int .i64 r1, .int .i64 r2, .int .u64 0] 30 (0, 0)) (.cells #[.int .i64 0, .int .i64 0, .bool false, .int .i64 0, .int .i64 0, .int .i64 0, .int .u64 0] 30 (0, 0))
  rw [hwa]
  clear hwa
  have hzwa := Nat.le_of_eq hz0.symm
  clear hz0
  have HG_ := Aside0.mk (box_below hb_ HG.out)
  clear HG; have HG := HG_; clear HG_
  have oc := Aside0.mk oc0
  have od := Aside0.mk od0
  clear oc0 od0
  obtain ⟨occ, ocf, ocl⟩ := cells_of oc.out
  obtain ⟨odc, odf, odl⟩ := cells_of od.out
  have HB_ : Aside0 (Below w.heap.size w wa) := ⟨hb_⟩
  clear HB hb_; have HB := HB_; clear HB_
  go_wp2_with fail
  have HGl := (cells_of HG.out).2.2
  (go_at_call 44; (with_reducible refine (systems_runs _).mono ?_); rintro e_ w1 ⟨rfl, hb_⟩; have HB_ : Aside0 (Below w.heap.size w w1) := Aside0.mk (below_step (by repeat (first | (with_reducible first | exact HB.out | exact Below.refl _ _ | apply below_alloc | apply pw_below_drewN | apply below_drew | refine below_set ?_ (by omega)) | exact HB.out)) hb_); have hzw1 := hb_.size; (try simp at hzw1); have oc_ := Aside0.mk (box_below hb_ (by repeat (with_reducible first | exact oc.out | apply ext_drew | apply ext_drewN | apply ext_alloc | refine blk_far ?_ (by show _ ≠ _; dsimp only; omega) _))); have od_ := Aside0.mk (box_below hb_ (by repeat (with_reducible first | exact od.out | apply ext_drew | apply ext_drewN | apply ext_alloc | refine blk_far ?_ (by show _ ≠ _; dsimp only; omega) _))); have HG_ := Aside0.mk (box_below hb_ (by repeat (with_reducible first | exact HG.out | apply ext_drew | apply ext_drewN | apply ext_alloc | refine blk_far ?_ (by show _ ≠ _; dsimp only; omega) _))); (try clear oc occ ocf ocl); have oc := oc_; clear oc_; obtain ⟨occ, ocf, ocl⟩ := cells_of oc.out; (try clear od odc odf odl); have od := od_; clear od_; obtain ⟨odc, odf, odl⟩ := cells_of od.out; (try clear HG HGc HGf HGl); have HG := HG_; clear HG_; obtain ⟨HGc, HGf, HGl⟩ := cells_of HG.out; clear HB hb_; have HB := HB_; clear HB_)
  go_upto_region 3 with (first | (go_at_call 55; (with_reducible refine (IX.out _ _ (by repeat (with_reducible first | exact nb_1 _ _ | apply ext_drew | apply ext_drewN | apply ext_alloc | refine blk_far ?_ (by show _ ≠ _; dsimp only; omega) _))).mono ?_); rintro e_ w_ ⟨rfl, hd_⟩; obtain ⟨n_, rfl⟩ := hd_.out; clear hd_))
  obtain ⟨w2, hw2, hb_⟩ := letterD w1 (.cells #[.int .u32 115, .int .u32 1048691, .int .u32 270532723, .int .u32 807403635, .int .u32 273678451] 59 (0, 0)) n_
  rw [hw2]
  clear hw2
  have HG_ := Aside0.mk (box_below hb_ HG.out)
  have oc_ := Aside0.mk (box_below hb_ oc.out)
  have od_ := Aside0.mk (box_below hb_ od.out)
  have HB_ : Aside0 (Below w.heap.size w w2) := Aside0.mk (Below.trans HB.out (hb_.mono (by omega)))
  clear HG oc od HB occ ocf ocl odc odf odl HGc HGf HGl hb_ IX
  have HG := HG_; have oc := oc_; have od := od_; have HB := HB_
  clear HG_ oc_ od_ HB_
  obtain ⟨occ, ocf, ocl⟩ := cells_of oc.out
  obtain ⟨odc, odf, odl⟩ := cells_of od.out
  go_wp2
  all_goals (try go_wp2)
  all_goals (refine bodyPost_ret (results_ct rfl _ _ (w.heap.size + 1) 30 #[.int .i64 11, .int .i64 (idxZ x), .bool false, .int .i64 0, .int .i64 0, .int .i64 0, .int .u64 0] (0, 0) _ rfl ?hb_ Try.underlying30 rfl (by kernel_rfl)) rfl ⟨rfl, (by repeat (first | (with_reducible first | exact HB.out | exact Below.refl _ _ | apply below_alloc | apply pw_below_drewN | apply below_drew | refine below_set ?_ (by omega)) | exact HB.out))⟩; (case hb_ => ((repeat (with_reducible first | refine blk_drew ?_ | refine blk_drewN ?_ _)); first | exact blk_put (blk_put (blk_put (blk_put (blk_put (blk_put (blk_put (od.out) 0 (.int .i64 11) rfl) 1 (.int .i64 (idxZ x)) rfl) 2 (.bool false) rfl) 3 (.int .i64 0) rfl) 4 (.int .i64 0) rfl) 5 (.int .i64 0) rfl) 6 (.int .u64 0) rfl | exact blk_put (blk_put (blk_put (blk_put (blk_put (blk_put (blk_put (ext_drewN od.out _) 0 (.int .i64 11) rfl) 1 (.int .i64 (idxZ x)) rfl) 2 (.bool false) rfl) 3 (.int .i64 0) rfl) 4 (.int .i64 0) rfl) 5 (.int .i64 0) rfl) 6 (.int .u64 0) rfl)))
end
end Go.Proofs.Ytgcpedenlbcdgaa.Q
end
section
/- decode.system. -/
namespace Go.Proofs.Ytgcpedenlbcdgaa.Q
open Go.RowKit Go.Proofs.YtgcpedenlbcdgaaW.PrintWords Go.Proofs.YtgcpedenlbcdgaaW.PrintLast Go.Proofs.YtgcpedenlbcdgaaW.PrintMore Go.Proofs.Ytgcpedenlbcdgaa.L
attribute [local go_sem] Instr.field part asAgg lt_step max2_int min2_int max_two min_two max_three min_three max_four min_four lt_0_1 lt_0_2 lt_1_2 lt_0_3 lt_1_3 lt_2_3 lt_0_4 lt_1_4 lt_2_4 lt_3_4 lt_0_5 lt_1_5 lt_2_5 lt_3_5 lt_4_5 lt_0_6 lt_1_6 lt_2_6 lt_3_6 lt_4_6 lt_5_6 lt_0_7 lt_1_7 lt_2_7 lt_3_7 lt_4_7 lt_5_7 lt_6_7 lt_0_8 lt_1_8 lt_2_8 lt_3_8 lt_4_8 lt_5_8 lt_6_8 lt_7_8
set_option linter.unusedVariables false
set_option linter.unusedSimpArgs false
attribute [local go_sem ↓] Go.wp_at_zero Go.wp_at_succ
section
variable (g : Nat) (x f rd r1 r2 : Int) (w : World)
set_option maxHeartbeats 1600000 in
set_option maxRecDepth 100000 in
theorem system_c (hg : w.heap[g]? = some (.cells #[.int .u32 x] 23 (0, 0))) (hx : u32B x) (hi : ¬ 0 ≤ idxZ x) (hf : (f == 0) = false) (h4 : (f == 4) = true) :
    Calls Try.prog 35 #[.int .u32 x, .func (.func 52) #[] #[.pointer (some ⟨g, 0, none⟩)], .agg #[.int .i64 0, .int .i64 f, .bool false, .int .i64 rd, .int .i64 r1, .int .i64 r2, .int .u64 0]] w fun e w' => e = .returned (.tuple #[.agg #[.int .i64 0, .int .i64 0, .bool false, .int .i64 0, .int .i64 0, .int .i64 0, .int .u64 0], .bool false]) ∧ Below w.heap.size w w' := by
  have hgl := (cells_of hg).2.2
  have HG := Aside0.mk hg
  have HX := Aside0.mk hx
  have HB := Aside0.mk (Below.refl w.heap.size w)
  clear hg hx
  have IX : Aside0 (∀ p W, W.heap[p]? = some (.cells #[.int .u32 115, .int .u32 1048691, .int .u32 270532723, .int .u32 807403635, .int .u32 273678451] 59 (0, 0)) → Calls Try.prog 55 #[.slice (some ⟨p, 0, none⟩) 5 5, .int .u32 x] W fun e w' => e = .returned (.int .i64 (idxZ x)) ∧ Drawn0 W w') := ⟨fun p W hp => index_call p x W hp⟩
  have NN : Aside0 (∀ W, Calls Try.prog 19 #[] W fun e w' => e = .returned (.agg #[.int .i64 0, .int .i64 0, .bool false, .int .i64 0, .int .i64 0, .int .i64 0, .int .u64 0]) ∧ Below W.heap.size W w') := ⟨fun W => decode_none.calls _ _ _ _ _ _ _ W rfl⟩
  go_enter Try.func35, Try.ntmps35
  go_upto_region 1 with fail
  obtain ⟨wa, hwa, oc0, od0, hb_, hz0⟩ := letter2 w (.cells #[.int .i64 0, .int .i64 f, .bool false, .int .i64 rd, .int .i64 r1, .int .i64 r2, .int .u64 0] 30 (0, 0)) (.cells #[.int .i64 0, .int .i64 0, .bool false, .int .i64 0, .int .i64 0, .int .i64 0, .int .u64 0] 30 (0, 0))
  rw [hwa]
  clear hwa
  have hzwa := Nat.le_of_eq hz0.symm
  clear hz0
  have HG_ := Aside0.mk (box_below hb_ HG.out)
  clear HG; have HG := HG_; clear HG_
  have oc := Aside0.mk oc0
  have od := Aside0.mk od0
  clear oc0 od0
  obtain ⟨occ, ocf, ocl⟩ := cells_of oc.out
  obtain ⟨odc, odf, odl⟩ := cells_of od.out
  have HB_ : Aside0 (Below w.heap.size w wa) := ⟨hb_⟩
  clear HB hb_; have HB := HB_; clear HB_
  go_wp2_with fail
  have HGl := (cells_of HG.out).2.2
  (go_at_call 44; (with_reducible refine (systems_runs _).mono ?_); rintro e_ w1 ⟨rfl, hb_⟩; have HB_ : Aside0 (Below w.heap.size w w1) := Aside0.mk (below_step (by repeat (first | (with_reducible first | exact HB.out | exact Below.refl _ _ | apply below_alloc | apply pw_below_drewN | apply below_drew | refine below_set ?_ (by omega)) | exact HB.out)) hb_); have hzw1 := hb_.size; (try simp at hzw1); have oc_ := Aside0.mk (box_below hb_ (by repeat (with_reducible first | exact oc.out | apply ext_drew | apply ext_drewN | apply ext_alloc | refine blk_far ?_ (by show _ ≠ _; dsimp only; omega) _))); have od_ := Aside0.mk (box_below hb_ (by repeat (with_reducible first | exact od.out | apply ext_drew | apply ext_drewN | apply ext_alloc | refine blk_far ?_ (by show _ ≠ _; dsimp only; omega) _))); have HG_ := Aside0.mk (box_below hb_ (by repeat (with_reducible first | exact HG.out | apply ext_drew | apply ext_drewN | apply ext_alloc | refine blk_far ?_ (by show _ ≠ _; dsimp only; omega) _))); (try clear oc occ ocf ocl); have oc := oc_; clear oc_; obtain ⟨occ, ocf, ocl⟩ := cells_of oc.out; (try clear od odc odf odl); have od := od_; clear od_; obtain ⟨odc, odf, odl⟩ := cells_of od.out; (try clear HG HGc HGf HGl); have HG := HG_; clear HG_; obtain ⟨HGc, HGf, HGl⟩ := cells_of HG.out; clear HB hb_; have HB := HB_; clear HB_)
  go_upto_region 3 with (first | (go_at_call 55; (with_reducible refine (IX.out _ _ (by repeat (with_reducible first | exact nb_1 _ _ | apply ext_drew | apply ext_drewN | apply ext_alloc | refine blk_far ?_ (by show _ ≠ _; dsimp only; omega) _))).mono ?_); rintro e_ w_ ⟨rfl, hd_⟩; obtain ⟨n_, rfl⟩ := hd_.out; clear hd_))
  obtain ⟨w2, hw2, hb_⟩ := letterD w1 (.cells #[.int .u32 115, .int .u32 1048691, .int .u32 270532723, .int .u32 807403635, .int .u32 273678451] 59 (0, 0)) n_
  rw [hw2]
  clear hw2
  have HG_ := Aside0.mk (box_below hb_ HG.out)
  have oc_ := Aside0.mk (box_below hb_ oc.out)
  have od_ := Aside0.mk (box_below hb_ od.out)
  have HB_ : Aside0 (Below w.heap.size w w2) := Aside0.mk (Below.trans HB.out (hb_.mono (by omega)))
  clear HG oc od HB occ ocf ocl odc odf odl HGc HGf HGl hb_ IX
  have HG := HG_; have oc := oc_; have od := od_; have HB := HB_
  clear HG_ oc_ od_ HB_
  obtain ⟨occ, ocf, ocl⟩ := cells_of oc.out
  obtain ⟨odc, odf, odl⟩ := cells_of od.out
  go_wp2_with fail
  (go_at_call 19; (with_reducible refine (NN.out _).mono ?_); rintro e_ w3 ⟨rfl, hb_⟩; have HB_ : Aside0 (Below w.heap.size w w3) := Aside0.mk (below_step (by repeat (first | (with_reducible first | exact HB.out | exact Below.refl _ _ | apply below_alloc | apply pw_below_drewN | apply below_drew | refine below_set ?_ (by omega)) | exact HB.out)) hb_); have hzw3 := hb_.size; (try simp at hzw3); have oc_ := Aside0.mk (box_below hb_ (by repeat (with_reducible first | exact oc.out | apply ext_drew | apply ext_drewN | apply ext_alloc | refine blk_far ?_ (by show _ ≠ _; dsimp only; omega) _))); have od_ := Aside0.mk (box_below hb_ (by repeat (with_reducible first | exact od.out | apply ext_drew | apply ext_drewN | apply ext_alloc | refine blk_far ?_ (by show _ ≠ _; dsimp only; omega) _))); (try clear oc occ ocf ocl); have oc := oc_; clear oc_; obtain ⟨occ, ocf, ocl⟩ := cells_of oc.out; (try clear od odc odf odl); have od := od_; clear od_; obtain ⟨odc, odf, odl⟩ := cells_of od.out; clear HB hb_; have HB := HB_; clear HB_)
  all_goals (try go_wp2)
  all_goals (refine bodyPost_ret (results_ct rfl _ _ (w.heap.size + 1) 30 #[.int .i64 0, .int .i64 0, .bool false, .int .i64 0, .int .i64 0, .int .i64 0, .int .u64 0] (0, 0) _ rfl ?hb_ Try.underlying30 rfl (by kernel_rfl)) rfl ⟨rfl, (by repeat (first | (with_reducible first | exact HB.out | exact Below.refl _ _ | apply below_alloc | apply pw_below_drewN | apply below_drew | refine below_set ?_ (by omega)) | exact HB.out))⟩; (case hb_ => ((repeat (with_reducible first | refine blk_drew ?_ | refine blk_drewN ?_ _)); first | exact blk_put (blk_put (blk_put (blk_put (blk_put (blk_put (blk_put (od.out) 0 (.int .i64 0) rfl) 1 (.int .i64 0) rfl) 2 (.bool false) rfl) 3 (.int .i64 0) rfl) 4 (.int .i64 0) rfl) 5 (.int .i64 0) rfl) 6 (.int .u64 0) rfl | exact blk_put (blk_put (blk_put (blk_put (blk_put (blk_put (blk_put (ext_drewN od.out _) 0 (.int .i64 0) rfl) 1 (.int .i64 0) rfl) 2 (.bool false) rfl) 3 (.int .i64 0) rfl) 4 (.int .i64 0) rfl) 5 (.int .i64 0) rfl) 6 (.int .u64 0) rfl)))
end
end Go.Proofs.Ytgcpedenlbcdgaa.Q
end
