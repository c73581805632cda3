/- The contract of bits.Field, at every number. -/
import Derived.Test.YtfnealbmackjaaaQx0
import Derived.Test.YtfnealbmackjaaaPm
namespace Go.Proofs.Ytfnealbmackjaaa.Q
open Go.RowKit Go.Proofs.YtfnealbmackjaaaW.PrintWords Go.Proofs.YtfnealbmackjaaaW.PrintLast Go.Proofs.YtfnealbmackjaaaW.PrintMore Go.Proofs.Ytfnealbmackjaaa.L
set_option linter.unusedVariables false
set_option linter.unusedSimpArgs false
def bits_Field.f (x h l : Int) : Option Int := if u64B x then some (fieldZ x h l) else none
set_option maxHeartbeats 4000000 in
set_option maxRecDepth 100000 in
theorem bits_Field.runs (x h l : Int) (w : World) (hx : u64B x) :
    Calls Try.prog 16 #[.int .u64 x, .int .i64 h, .int .i64 l] w fun e w' => e = .returned (.int .u64 (fieldZ x h l)) ∧ w = w' := by
  have HX := Aside0.mk hx
  obtain ⟨hx0, hx1⟩ := hx
  by_cases h1 : l < 0
  · have HZ := Aside0.mk (fieldZ_out x h l (.inl h1))
    go_enter Try.func16, Try.ntmps16
    go_wp2
    go_ret
    exact ⟨by rw [HZ.out]; rfl, rfl⟩
  · by_cases h2 : h < l
    · have HZ := Aside0.mk (fieldZ_out x h l (.inr (.inl h2)))
      go_enter Try.func16, Try.ntmps16
      go_wp2
      go_ret
      exact ⟨by rw [HZ.out]; rfl, rfl⟩
    · by_cases h3 : 63 < h
      · have HZ := Aside0.mk (fieldZ_out x h l (.inr (.inr h3)))
        go_enter Try.func16, Try.ntmps16
        go_wp2
        go_ret
        exact ⟨by rw [HZ.out]; rfl, rfl⟩
      · obtain ⟨L, rfl⟩ := Int.eq_ofNat_of_zero_le (show 0 ≤ l by omega)
        obtain ⟨H, rfl⟩ := Int.eq_ofNat_of_zero_le (show 0 ≤ h by omega)
        have HZ := Aside0.mk (field_shift x HX.out H L (by omega) (by omega))
        go_enter Try.func16, Try.ntmps16
        go_wp2
        go_ret
        exact ⟨congrArg (fun z => Ending.returned (.int .u64 z)) HZ.out, rfl⟩
theorem bits_Field.calls (x h l r : Int) (w : World) (hf : bits_Field.f x h l = some r) :
    Calls Try.prog 16 #[.int .u64 x, .int .i64 h, .int .i64 l] w fun e w' => e = .returned (.int .u64 r) ∧ Drawn0 w w' := by
  unfold bits_Field.f at hf
  by_cases hx : u64B x
  · rw [if_pos hx] at hf
    obtain rfl := Option.some.inj hf
    exact (bits_Field.runs x h l w hx).mono fun e w' h => ⟨h.1, h.2 ▸ Drawn0.refl _⟩
  · rw [if_neg hx] at hf
    exact absurd hf (by simp)
end Go.Proofs.Ytfnealbmackjaaa.Q
