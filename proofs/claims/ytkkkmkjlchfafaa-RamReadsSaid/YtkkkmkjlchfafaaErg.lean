/- The contracts of the reference's Sext and Get (layer 1). -/
import Derived.Test.YtkkkmkjlchfafaaQx0
import Derived.Test.YtkkkmkjlchfafaaPm
namespace Go.Proofs.Ytkkkmkjlchfafaa.Q
open Go.RowKit Go.Proofs.YtkkkmkjlchfafaaW.PrintWords Go.Proofs.YtkkkmkjlchfafaaW.PrintLast Go.Proofs.YtkkkmkjlchfafaaW.PrintMore Go.Proofs.Ytkkkmkjlchfafaa.L
attribute [local go_sem] max2_int min2_int max_two min_two max_three min_three max_four min_four
set_option linter.unusedVariables false
set_option linter.unusedSimpArgs false

def drawbridgeref01_Get.f (l0 : List Int) (a1 : Bool) : Option Int := if ∀ x ∈ l0.take 8, byte x then some (getB l0 a1) else none
set_option maxHeartbeats 8000000 in
set_option maxRecDepth 100000 in
theorem drawbridgeref01_Get.calls (A0 : Option Addr) (c0 : Nat) (l0 : List Int) (a1 : Bool) (r : Int) (w : World) (hr0 : Kd.C (Kd.int .u8) w A0 l0.length l0) (hc0 : l0.length ≤ c0) (h : drawbridgeref01_Get.f l0 a1 = some r) :
    Calls Try.prog 11 #[.slice A0 l0.length c0, .bool a1] w fun e w' => e = .returned (.int .u64 r) ∧ Below w.heap.size w w' := by
  have HR0 := Aside0.mk hr0
  have HC0 := Aside0.mk hc0
  have HB := Aside0.mk (Below.refl w.heap.size w)
  have hm : l0.length ≤ 9223372036854775807 := hr0.2.1
  clear hr0 hc0
  unfold drawbridgeref01_Get.f at h
  by_cases hby : ∀ x ∈ l0.take 8, byte x
  · rw [if_pos hby] at h
    obtain rfl := Option.some.inj h
    clear h
    have HBY := Aside0.mk hby
    clear hby
    have H8 : (l0.length : Int) ≤ 8 ∨ 8 < (l0.length : Int) := by omega
    obtain ⟨N, hN⟩ : ∃ N : Nat, N = (l0.take 8).length := ⟨_, rfl⟩
    have hN8 : N ≤ 8 := by rw [hN]; simp; omega
    have hNl : N ≤ l0.length := by rw [hN]; simp; omega
    have hE : l0.length ≤ N ∨ 8 ≤ N := by rw [hN]; simp; omega
    have HN := Aside0.mk hN
    clear hN
    cases a1
    · have hbs : ∀ k, k < N → (l0.take 8).reverse[k]? = some (rd l0 ((N - 1 - k : Nat) : Int)) := fun k hk => by
        unfold rd; rw [Int.toNat_natCast]; exact rev8_at l0 k _ (by rw [← HN.out]; exact hk) (by rw [← HN.out]; omega)
      have HBS := Aside0.mk hbs
      clear hbs
      have HBR := Aside0.mk (fun x (hx : x ∈ (l0.take 8).reverse) => HBY.out x (List.mem_reverse.1 hx))
      have HNR : Aside0 (N = (l0.take 8).reverse.length) := ⟨by rw [List.length_reverse]; exact HN.out⟩
      rcases H8 with H8 | H8
      all_goals
        go_enter Try.func11, Try.ntmps11
        go_wp2
        go_loop [5, 7] (fun v5 v7 => ∃ k : Nat, k ≤ N ∧ v7 = .int .i64 k ∧ v5 = .int .u64 (getLE ((l0.take 8).reverse.take k).reverse)) (fun _ v7 => N - (intOf v7).toNat)
        case atStart => exact ⟨0, Nat.zero_le _, rfl, rfl⟩
        case round =>
          obtain ⟨k, hk, rfl, rfl⟩ := hrel
          by_cases hlt : k < N
          · obtain ⟨ad, rfl, hc⟩ := Kd.at_int HR0.out ((N - 1 - k : Nat) : Int) (by omega) (by omega)
            rw [Int.toNat_natCast] at hc
            have hc1 : l0.length ≤ 8 → w.cell? (ad.add (l0.length - 1 - k)) = some (.int .u8 (rd l0 ((N - 1 - k : Nat) : Int))) := fun h => by rw [show l0.length - 1 - k = N - 1 - k by omega]; exact hc
            have hc2 : 8 < l0.length → w.cell? (ad.add (8 - 1 - k)) = some (.int .u8 (rd l0 ((N - 1 - k : Nat) : Int))) := fun h => by rw [show 8 - 1 - k = N - 1 - k by omega]; exact hc
            first | (replace hc1 := hc1 (by omega)) | (replace hc2 := hc2 (by omega))
            go_wp2
            all_goals
              go_round
              case rel => exact ⟨k + 1, by omega, by go_num, congrArg _ (horner_step _ k _ (by have := HNR.out; omega) (by have := HNR.out; omega) HBR.out (HBS.out k hlt))⟩
              case measure => simp [intOf]; omega
          · go_wp2
            go_ret
            exact ⟨congrArg (fun z => Ending.returned (.int .u64 z)) (by rw [List.take_of_length_le (by have := HNR.out; omega), List.reverse_reverse]; rfl), HB.out⟩
    · have hbs : ∀ k, k < N → (l0.take 8)[k]? = some (rd l0 (k : Int)) := fun k hk => by
        rw [HN.out] at hk; unfold rd; rw [Int.toNat_natCast]; exact take8_at l0 k hk
      have HBS := Aside0.mk hbs
      clear hbs
      rcases H8 with H8 | H8
      all_goals
        go_enter Try.func11, Try.ntmps11
        go_wp2
        go_loop [5, 7] (fun v5 v7 => ∃ k : Nat, k ≤ N ∧ v7 = .int .i64 k ∧ v5 = .int .u64 (getLE ((l0.take 8).take k).reverse)) (fun _ v7 => N - (intOf v7).toNat)
        case atStart => exact ⟨0, Nat.zero_le _, rfl, rfl⟩
        case round =>
          obtain ⟨k, hk, rfl, rfl⟩ := hrel
          by_cases hlt : k < N
          · obtain ⟨ad, rfl, hc⟩ := Kd.at_int HR0.out (k : Int) (by omega) (by omega)
            rw [Int.toNat_natCast] at hc
            go_wp2
            all_goals
              go_round
              case rel => exact ⟨k + 1, by omega, by go_num, congrArg _ (horner_step _ k _ (by have := HN.out; omega) (by have := HN.out; omega) HBY.out (HBS.out k hlt))⟩
              case measure => simp [intOf]; omega
          · go_wp2
            go_ret
            exact ⟨congrArg (fun z => Ending.returned (.int .u64 z)) (by rw [List.take_of_length_le (by have := HN.out; omega)]; rfl), HB.out⟩
  · rw [if_neg hby] at h
    exact absurd h (by simp)

end Go.Proofs.Ytkkkmkjlchfafaa.Q
