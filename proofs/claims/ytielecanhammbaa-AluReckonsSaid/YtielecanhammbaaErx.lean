/- The contracts of the reference's Sext and Get (layer 1). -/
import Derived.Test.YtielecanhammbaaQx0
import Derived.Test.YtielecanhammbaaPm
namespace Go.Proofs.Ytielecanhammbaa.Q
open Go.RowKit Go.Proofs.YtielecanhammbaaW.PrintWords Go.Proofs.YtielecanhammbaaW.PrintLast Go.Proofs.YtielecanhammbaaW.PrintMore Go.Proofs.Ytielecanhammbaa.L
attribute [local go_sem] max2_int min2_int max_two min_two max_three min_three max_four min_four
set_option linter.unusedVariables false
set_option linter.unusedSimpArgs false

def drawbridgeref01_Sext.f (a0 : Int) (a1 : Int) : Option Int := if u64B a0 then some (sextZ a0 a1) else none
set_option maxHeartbeats 8000000 in
set_option maxRecDepth 100000 in
theorem drawbridgeref01_Sext.calls (a0 : Int) (a1 : Int) (r : Int) (w : World) (h : drawbridgeref01_Sext.f a0 a1 = some r) :
    Calls Try.prog 22 #[.int .u64 a0, .int .i64 a1] w fun e w' => e = .returned (.int .u64 r) ∧ Drawn0 w w' := by
  unfold drawbridgeref01_Sext.f at h
  by_cases hx : u64B a0
  · rw [if_pos hx] at h
    obtain rfl := Option.some.inj h
    clear h
    obtain ⟨hx0, hx1⟩ := hx
    by_cases h1 : a1 < 1
    · have HZ := Aside0.mk (sextZ_le a0 a1 (by omega))
      go_enter Try.func22, Try.ntmps22
      go_wp2
      go_ret
      exact ⟨by rw [HZ.out]; rfl, Drawn0.refl _⟩
    · by_cases h2 : 63 < a1
      · have HZ := Aside0.mk (sextZ_ge a0 a1 (by omega))
        go_enter Try.func22, Try.ntmps22
        go_wp2
        go_ret
        exact ⟨by rw [HZ.out]; rfl, Drawn0.refl _⟩
      · obtain ⟨n, rfl⟩ := Int.eq_ofNat_of_zero_le (show 0 ≤ a1 by omega)
        go_enter Try.func22, Try.ntmps22
        go_wp2
        · rename_i h
          rw [wrap_two_pow (by omega)] at h
          have := two_pow_pos n
          omega
        · go_ret
          exact ⟨congrArg (fun z => Ending.returned (.int .u64 z)) (sext_hi a0 n (by omega) (by omega) ‹_›), Drawn0.refl _⟩
        · go_ret
          exact ⟨congrArg (fun z => Ending.returned (.int .u64 z)) (sext_lo a0 n (by omega) (by omega) ‹_›), Drawn0.refl _⟩
  · rw [if_neg hx] at h
    exact absurd h (by simp)
end Go.Proofs.Ytielecanhammbaa.Q
