/- slices.IndexFunc and ContainsFunc over whole numbers, with a test that the program hands in. -/
import Derived.Test.YtmlpnjoejdpblaaQx0
import Derived.Test.YtmlpnjoejdpblaaKt
import Derived.RegionTactic
import Derived.BigRegion
namespace Go.Proofs.Ytmlpnjoejdpblaa.Q
open Go.RowKit Go.Proofs.YtmlpnjoejdpblaaW.PrintWords Go.Proofs.YtmlpnjoejdpblaaW.PrintLast Go.Proofs.YtmlpnjoejdpblaaW.PrintMore Go.Proofs.Ytmlpnjoejdpblaa.L
attribute [local go_sem] Instr.field part asAgg lt_step max2_int min2_int max_two min_two max_three min_three max_four min_four lt_0_1 lt_0_2 lt_1_2 lt_0_3 lt_1_3 lt_2_3 lt_0_4 lt_1_4 lt_2_4 lt_3_4 lt_0_5 lt_1_5 lt_2_5 lt_3_5 lt_4_5 lt_0_6 lt_1_6 lt_2_6 lt_3_6 lt_4_6 lt_5_6 lt_0_7 lt_1_7 lt_2_7 lt_3_7 lt_4_7 lt_5_7 lt_6_7 lt_0_8 lt_1_8 lt_2_8 lt_3_8 lt_4_8 lt_5_8 lt_6_8 lt_7_8
set_option linter.unusedVariables false
set_option linter.unusedSimpArgs false
/-- The place of the first that a test lets through; -1. -/
def idxZ (p : Int → Bool) : List Int → Int → Int
  | [], _ => -1
  | x :: l, i => if p x = true then i else idxZ p l (i + 1)
theorem idxZ_any (p : Int → Bool) : ∀ (l : List Int) (i : Int), 0 ≤ i → (decide (idxZ p l i ≥ 0)) = l.any p
  | [], i, h => rfl
  | x :: l, i, h => by
    unfold idxZ
    rw [List.any_cons]
    cases hp : p x
    · rw [if_neg (by decide), idxZ_any p l (i + 1) (by omega), Bool.false_or]
    · rw [if_pos rfl, Bool.true_or]; exact decide_eq_true h
theorem idx_step {p : Int → Bool} {l : List Int} {k : Nat} (hk : k < l.length) : idxZ p (l.drop k) k = if p (rd l (k : Int)) = true then (k : Int) else idxZ p (l.drop (k + 1)) ((k + 1 : Nat) : Int) := by
  rw [List.drop_eq_getElem_cons hk, idxZ]
  have : rd l (k : Int) = l[k] := by unfold rd; rw [Int.toNat_natCast, List.getD_eq_getElem?_getD, List.getElem?_eq_getElem hk]; rfl
  rw [this, Int.natCast_succ]

def greatZ : Int → Bool := fun n => decide (n < 0) || decide (n > 7)
theorem great_runs (n : Int) (w : World) : Calls Try.prog 21 #[.int .i64 n] w fun e w' => e = .returned (.bool (greatZ n)) ∧ w' = w := by
  by_cases h0 : n < 0
  · rw [show greatZ n = true by unfold greatZ; simp [h0]]
    go_enter Try.func21, Try.ntmps21
    (go_wp2; (first | go_region | skip); (all_goals go_wp2))
    all_goals (go_ret; exact ⟨rfl, rfl⟩)
  · rw [show greatZ n = decide (n > 7) by unfold greatZ; simp [h0]]
    go_enter Try.func21, Try.ntmps21
    (go_wp2; (first | go_region | skip); (all_goals go_wp2))
    all_goals (go_ret; exact ⟨rfl, rfl⟩)
set_option maxHeartbeats 1600000 in
set_option maxRecDepth 100000 in
theorem index_great (A0 : Option Addr) (c0 : Nat) (l0 : List Int) (w : World) (hr0 : Kd.C (Kd.int .i64) w A0 l0.length l0) :
    Calls Try.prog 32 #[.slice A0 l0.length c0, .func (.func 21) #[] #[]] w fun e w' => e = .returned (.int .i64 (idxZ greatZ l0 0)) ∧ Below w.heap.size w w' := by
  have HB := Aside0.mk (Below.refl w.heap.size w)
  have HR0 := Aside0.mk hr0
  have hm : l0.length ≤ 9223372036854775807 := hr0.2.1
  obtain ⟨R, hR⟩ : ∃ R, idxZ greatZ l0 0 = R := ⟨_, rfl⟩
  have HI : Aside0 (idxZ greatZ (l0.drop 0) ((0 : Nat) : Int) = R) := ⟨hR⟩
  rw [hR]
  clear hr0 hR
  go_enter Try.func32, Try.ntmps32
  go_wp2
  go_loop [8] (fun i => ∃ k : Nat, k ≤ l0.length ∧ i = .int .i64 k ∧ Aside0 (idxZ greatZ (l0.drop k) (k : Int) = R)) (fun i => l0.length - (intOf i).toNat)
  case atStart => exact ⟨0, Nat.zero_le _, rfl, HI⟩
  case round =>
    clear HI
    obtain ⟨k, hk, rfl, HK⟩ := hrel
    by_cases hlt : k < l0.length
    · obtain ⟨ad, rfl, hc⟩ := Kd.at_int HR0.out (k : Int) (by omega) (by omega)
      rw [Int.toNat_natCast] at hc
      have hK := HK.out
      rw [idx_step hlt] at hK
      clear HK
      cases hp : greatZ (rd l0 (k : Int))
      · rw [hp, if_neg (by decide)] at hK
        have HK := Aside0.mk hK
        clear hK
        go_wp2_with (go_at_call 21; (with_reducible refine (great_runs _ _).mono ?_); rintro e_ w_ ⟨rfl, rfl⟩; (try rw [hp]))
        go_round
        case rel => exact ⟨k + 1, by omega, by go_num, HK⟩
        case measure => simp [intOf]; omega
      · rw [hp, if_pos rfl] at hK
        have HK := Aside0.mk hK
        clear hK
        go_wp2_with (go_at_call 21; (with_reducible refine (great_runs _ _).mono ?_); rintro e_ w_ ⟨rfl, rfl⟩; (try rw [hp]))
        go_ret
        exact ⟨by rw [← HK.out]; rfl, HB.out⟩
    · have hK := HK.out
      rw [List.drop_of_length_le (by omega)] at hK
      have HK2 : Aside0 ((-1 : Int) = R) := ⟨hK⟩
      clear HK hK
      go_wp2
      go_ret
      exact ⟨by rw [← HK2.out]; rfl, HB.out⟩
set_option maxHeartbeats 1600000 in
set_option maxRecDepth 100000 in
theorem contains_great (A0 : Option Addr) (c0 : Nat) (l0 : List Int) (w : World) (hr0 : Kd.C (Kd.int .i64) w A0 l0.length l0) :
    Calls Try.prog 23 #[.slice A0 l0.length c0, .func (.func 21) #[] #[]] w fun e w' => e = .returned (.bool (l0.any greatZ)) ∧ Below w.heap.size w w' := by
  have HB := Aside0.mk (Below.refl w.heap.size w)
  have HA := Aside0.mk (idxZ_any greatZ l0 0 (by decide))
  have HR0 := Aside0.mk hr0
  clear hr0
  go_enter Try.func23, Try.ntmps23
  go_wp2_with fail
  (go_at_call 32; (with_reducible refine (index_great _ _ _ _ HR0.out).mono ?_); rintro e_ w1 ⟨rfl, hb_⟩; have HB_ : Aside0 (Below w.heap.size w w1) := Aside0.mk (below_step (by repeat (first | (with_reducible first | exact HB.out | exact Below.refl _ _ | apply below_alloc | apply pw_below_drewN | apply below_drew | refine below_set ?_ (by omega)) | exact HB.out)) hb_); have hzw1 := hb_.size; (try simp at hzw1); clear HB hb_; have HB := HB_; clear HB_)
  go_wp2
  go_ret
  exact ⟨by rw [← HA.out]; rfl, HB.out⟩
def oddZ : Int → Bool := fun n => Go.bits .andNot .i64 n 6 != 0
theorem odd_runs (n : Int) (w : World) : Calls Try.prog 22 #[.int .i64 n] w fun e w' => e = .returned (.bool (oddZ n)) ∧ w' = w := by
  go_enter Try.func22, Try.ntmps22
  (go_wp2; (first | go_region | skip); (all_goals go_wp2))
  all_goals (go_ret; exact ⟨rfl, rfl⟩)
set_option maxHeartbeats 1600000 in
set_option maxRecDepth 100000 in
theorem index_odd (A0 : Option Addr) (c0 : Nat) (l0 : List Int) (w : World) (hr0 : Kd.C (Kd.int .i64) w A0 l0.length l0) :
    Calls Try.prog 32 #[.slice A0 l0.length c0, .func (.func 22) #[] #[]] w fun e w' => e = .returned (.int .i64 (idxZ oddZ l0 0)) ∧ Below w.heap.size w w' := by
  have HB := Aside0.mk (Below.refl w.heap.size w)
  have HR0 := Aside0.mk hr0
  have hm : l0.length ≤ 9223372036854775807 := hr0.2.1
  obtain ⟨R, hR⟩ : ∃ R, idxZ oddZ l0 0 = R := ⟨_, rfl⟩
  have HI : Aside0 (idxZ oddZ (l0.drop 0) ((0 : Nat) : Int) = R) := ⟨hR⟩
  rw [hR]
  clear hr0 hR
  go_enter Try.func32, Try.ntmps32
  go_wp2
  go_loop [8] (fun i => ∃ k : Nat, k ≤ l0.length ∧ i = .int .i64 k ∧ Aside0 (idxZ oddZ (l0.drop k) (k : Int) = R)) (fun i => l0.length - (intOf i).toNat)
  case atStart => exact ⟨0, Nat.zero_le _, rfl, HI⟩
  case round =>
    clear HI
    obtain ⟨k, hk, rfl, HK⟩ := hrel
    by_cases hlt : k < l0.length
    · obtain ⟨ad, rfl, hc⟩ := Kd.at_int HR0.out (k : Int) (by omega) (by omega)
      rw [Int.toNat_natCast] at hc
      have hK := HK.out
      rw [idx_step hlt] at hK
      clear HK
      cases hp : oddZ (rd l0 (k : Int))
      · rw [hp, if_neg (by decide)] at hK
        have HK := Aside0.mk hK
        clear hK
        go_wp2_with (go_at_call 22; (with_reducible refine (odd_runs _ _).mono ?_); rintro e_ w_ ⟨rfl, rfl⟩; (try rw [hp]))
        go_round
        case rel => exact ⟨k + 1, by omega, by go_num, HK⟩
        case measure => simp [intOf]; omega
      · rw [hp, if_pos rfl] at hK
        have HK := Aside0.mk hK
        clear hK
        go_wp2_with (go_at_call 22; (with_reducible refine (odd_runs _ _).mono ?_); rintro e_ w_ ⟨rfl, rfl⟩; (try rw [hp]))
        go_ret
        exact ⟨by rw [← HK.out]; rfl, HB.out⟩
    · have hK := HK.out
      rw [List.drop_of_length_le (by omega)] at hK
      have HK2 : Aside0 ((-1 : Int) = R) := ⟨hK⟩
      clear HK hK
      go_wp2
      go_ret
      exact ⟨by rw [← HK2.out]; rfl, HB.out⟩
set_option maxHeartbeats 1600000 in
set_option maxRecDepth 100000 in
theorem contains_odd (A0 : Option Addr) (c0 : Nat) (l0 : List Int) (w : World) (hr0 : Kd.C (Kd.int .i64) w A0 l0.length l0) :
    Calls Try.prog 23 #[.slice A0 l0.length c0, .func (.func 22) #[] #[]] w fun e w' => e = .returned (.bool (l0.any oddZ)) ∧ Below w.heap.size w w' := by
  have HB := Aside0.mk (Below.refl w.heap.size w)
  have HA := Aside0.mk (idxZ_any oddZ l0 0 (by decide))
  have HR0 := Aside0.mk hr0
  clear hr0
  go_enter Try.func23, Try.ntmps23
  go_wp2_with fail
  (go_at_call 32; (with_reducible refine (index_odd _ _ _ _ HR0.out).mono ?_); rintro e_ w1 ⟨rfl, hb_⟩; have HB_ : Aside0 (Below w.heap.size w w1) := Aside0.mk (below_step (by repeat (first | (with_reducible first | exact HB.out | exact Below.refl _ _ | apply below_alloc | apply pw_below_drewN | apply below_drew | refine below_set ?_ (by omega)) | exact HB.out)) hb_); have hzw1 := hb_.size; (try simp at hzw1); clear HB hb_; have HB := HB_; clear HB_)
  go_wp2
  go_ret
  exact ⟨by rw [← HA.out]; rfl, HB.out⟩
end Go.Proofs.Ytmlpnjoejdpblaa.Q
