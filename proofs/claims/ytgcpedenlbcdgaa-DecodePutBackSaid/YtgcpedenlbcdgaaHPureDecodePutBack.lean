import Derived.Test.YtgcpedenlbcdgaaHSaidDecodePutBack
import Derived.Test.YtgcpedenlbcdgaaHPd3
namespace Go.Proofs.Ytgcpedenlbcdgaa.Pure
open Go.RowKit Go.Proofs.Ytgcpedenlbcdgaa.Q Go.Proofs.YtgcpedenlbcdgaaW.PrintWords Go.Proofs.YtgcpedenlbcdgaaW.PrintLast Go.Proofs.YtgcpedenlbcdgaaW.PrintMore Go.Proofs.Ytgcpedenlbcdgaa.L
set_option linter.unusedVariables false
set_option linter.unusedSimpArgs false
theorem dec_of {w : Int} (h : u32B w) : decode_Decode.f w = some ((decI w).c, (decI w).f, (decI w).b, (decI w).rd, (decI w).r1, (decI w).r2, (decI w).m, takeK w) := if_pos h
/-- The plain law of DecodePutBack. -/
theorem DecodePutBack : DecodePutBack.Said := by
  intro c f b rd r1 r2 m _ _ _ _ _ _
  unfold drawbridgelaw03_DecodePutBack.f
  obtain ⟨w, k, he, h0, h1⟩ := enc_some ⟨c, f, b, rd, r1, r2, m⟩
  rw [show decode_Encode.f c f b rd r1 r2 m = some (w, k) from he, Option.bind_some]
  cases k with
  | false => rw [h0 rfl, if_neg (by decide), if_pos rfl, drawbridgelaw03_heads.tells]; rfl
  | true =>
    obtain ⟨hw, hk, hd⟩ := h1 rfl
    rw [if_pos rfl]
    show ((decode_Decode.f w).bind _) = _
    rw [dec_of (hw ▸ wordB _), Option.bind_some, hk, hd, if_pos rfl]
    simp only [beq_self_eq_true, Bool.and_self, if_true]
    rw [drawbridgelaw03_heads.tells]; rfl
end Go.Proofs.Ytgcpedenlbcdgaa.Pure
