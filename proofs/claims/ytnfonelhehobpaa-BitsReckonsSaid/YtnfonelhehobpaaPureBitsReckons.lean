/- BitsReckons: what the program's bits and bytes are, the document's reference says too, at every number and every row of bytes. No condition. -/
import Derived.Test.YtnfonelhehobpaaQx4
import Derived.Test.YtnfonelhehobpaaBq
set_option linter.unusedVariables false
namespace Go.Proofs.Ytnfonelhehobpaa.Pure
open Go.RowKit Go.Proofs.Ytnfonelhehobpaa.Q Go.Proofs.YtnfonelhehobpaaW.PrintWords Go.Proofs.YtnfonelhehobpaaW.PrintLast Go.Proofs.YtnfonelhehobpaaW.PrintMore Go.Proofs.Ytnfonelhehobpaa.L

theorem BitsReckons : drawbridgelaw01_BitsReckons.Pure := by
  intro x a b big l w0 w1 w2 _ _ hl
  have hx := wf_u64 w0
  have ha := bounds_i64 w1
  have hb := bounds_i64 w2
  have hby : ∀ z ∈ l.take 8, byte z := fun z hz => by have := bounds_u8 (hl z (List.mem_of_mem_take hz)); exact ⟨by omega, by omega⟩
  refine ⟨20, ?_⟩
  unfold drawbridgelaw01_BitsReckons.f
  rw [field_tells x a b hx ha hb, reffield_tells 19 x a b hx ha hb, sext_tells x a hx ha]
  simp only [Option.bind_some, if_true]
  rw [show drawbridgeref01_Sext.f x a = some (sextZ x a) from if_pos hx]
  simp only [Option.bind_some, if_true]
  rw [show bits_Put.f x a big = some (putB x a big) from rfl, refput_tells 20 (by omega) x a big ha]
  simp only [Option.bind_some]
  rw [same_self, show bits_Get.f l big = some (getB l big) from if_pos hby, show drawbridgeref01_Get.f l big = some (getB l big) from if_pos hby]
  simp only [Option.bind_some, if_true]
  rw [align_tells x a hx ha, refalign_tells x a hx, heads01]
  simp
end Go.Proofs.Ytnfonelhehobpaa.Pure
