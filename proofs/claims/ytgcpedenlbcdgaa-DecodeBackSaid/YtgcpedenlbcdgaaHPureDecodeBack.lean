import Derived.Test.YtgcpedenlbcdgaaHSaidDecodeBack
import Derived.Test.YtgcpedenlbcdgaaHPd4
import Derived.Test.YtgcpedenlbcdgaaWf
namespace Go.Proofs.Ytgcpedenlbcdgaa.Pure
open Go.RowKit Go.Proofs.Ytgcpedenlbcdgaa.Q Go.Proofs.YtgcpedenlbcdgaaW.PrintWords Go.Proofs.YtgcpedenlbcdgaaW.PrintLast Go.Proofs.YtgcpedenlbcdgaaW.PrintMore Go.Proofs.Ytgcpedenlbcdgaa.L
set_option linter.unusedVariables false
set_option linter.unusedSimpArgs false
theorem dec_at {w : Int} (h : u32B w) : decode_Decode.f w = some ((decI w).c, (decI w).f, (decI w).b, (decI w).rd, (decI w).r1, (decI w).r2, (decI w).m, takeK w) := if_pos h
theorem enc_at (i : Ins) : decode_Encode.f i.c i.f i.b i.rd i.r1 i.r2 i.m = encZ i := rfl
/-- The plain law of DecodeBack. -/
theorem DecodeBack : DecodeBack.Said := by
  intro x hw
  have hx : u32B x := by have := bounds_u32 hw; exact ⟨by omega, by omega⟩
  unfold drawbridgelaw03_DecodeBack.f
  rw [dec_at hx, Option.bind_some]
  cases hk : takeK x with
  | false =>
    have hz : decI x = Ins.zero := by unfold decI; rw [hk]; rfl
    have e0 : (decI x).c = 0 := by rw [hz]; rfl
    have e6 : (decI x).m = 0 := by rw [hz]; rfl
    refine (if_neg Bool.false_ne_true).trans ?_
    refine (if_pos e0).trans ?_
    refine (if_pos e6).trans ?_
    rw [drawbridgelaw03_heads.tells]; rfl
  | true =>
    have hi : decI x = takeI x := by unfold decI; rw [hk]; rfl
    obtain ⟨hr, ⟨h1, h2⟩, h3⟩ := back_all x hx hk
    have hd : decI (wordV (takeI x)) = takeI x := by unfold decI; rw [h1]; exact h2
    rw [if_pos rfl, hi]
    show ((decode_Encode.f (takeI x).c (takeI x).f (takeI x).b (takeI x).rd (takeI x).r1 (takeI x).r2 (takeI x).m).bind _) = _
    rw [enc_at, enc_yes hr h1 hd, Option.bind_some]
    show ((decode_Decode.f (wordV (takeI x))).bind _) = _
    rw [dec_at (wordB _), Option.bind_some, hd, h1, if_pos rfl, if_pos rfl]
    simp only [beq_self_eq_true, Bool.not_true, Bool.or_self, Bool.false_eq_true, if_false]
    rw [drawbridgelaw03_heads.tells]
    rcases h3 with h3 | h3 | h3
    · rw [if_pos h3]; rfl
    · rw [if_pos h3]; split <;> rfl
    · split
      · rfl
      · split
        · rfl
        · first | rfl | (rw [if_pos h3]; rfl) | (simp only [h3, if_true]; rfl) | simp_all
end Go.Proofs.Ytgcpedenlbcdgaa.Pure
