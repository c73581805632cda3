/- The heads of layer 1's statements are true; small facts on fields. -/
import Derived.Test.YtnfonelhehobpaaBp
import Derived.Test.YtnfonelhehobpaaQx2
namespace Go.Proofs.Ytnfonelhehobpaa.Q
open Go.RowKit Go.Proofs.YtnfonelhehobpaaW.PrintWords Go.Proofs.YtnfonelhehobpaaW.PrintLast Go.Proofs.YtnfonelhehobpaaW.PrintMore Go.Proofs.Ytnfonelhehobpaa.L
theorem heads01 : drawbridgelaw01_heads.f = some true := by
  unfold drawbridgelaw01_heads.f
  rw [show bits_Sext.f 4095 12 = some 18446744073709551615 by decide +kernel]
  simp only [Option.bind_some, if_true]
  rw [show bits_Field.f 43981 11 4 = some 188 by decide +kernel]
  simp only [Option.bind_some, if_true]
  rw [show bits_Put.f 258 2 true = some [1, 2] by decide +kernel]
  simp only [Option.bind_some]
  rw [same_self]
  simp only [Option.bind_some, if_true]
  rw [show bits_Get.f [1, 2] false = some 513 by decide +kernel]
  simp only [Option.bind_some, if_true]
  rw [show bits_Align.f 8 4 = some true by decide +kernel]
  simp only [Option.bind_some, if_true]
  rw [show bits_Align.f 8 3 = some false by decide +kernel]
  rfl
theorem fieldZ_in (x h l : Int) (h0 : 0 ≤ l) (h1 : l ≤ h) (h2 : h ≤ 63) : fieldZ x h l = x / 2 ^ l.toNat % 2 ^ (h - l + 1).toNat := by
  unfold fieldZ; rw [if_neg (by omega)]
end Go.Proofs.Ytnfonelhehobpaa.Q
