import Derived.Test.YtbidnolopbjlaaaHSaidSv39Again
import Derived.Test.YtbidnolopbjlaaaHZ4
import Derived.Test.YtbidnolopbjlaaaHZ3
/- Sv39Again: what was translated is translated the same again, and a fault changes nothing; for every memory, registers, privilege, address and kind. No condition beyond the statement's own. -/
set_option linter.unusedVariables false
set_option linter.unusedSimpArgs false
namespace Go.Proofs.Ytbidnolopbjlaaa.Pure
open Go.RowKit Go.Proofs.Ytbidnolopbjlaaa.Q Go.Proofs.YtbidnolopbjlaaaW.PrintWords Go.Proofs.YtbidnolopbjlaaaW.PrintLast Go.Proofs.YtbidnolopbjlaaaW.PrintMore Go.Proofs.Ytbidnolopbjlaaa.L
theorem again (l : List Int) (satp status priv at_ kind : Int) (hb : ∀ z ∈ l, byte z) :
    (∃ f, f > 0 ∧ transZ l satp status priv at_ kind = (0, l, f, false)) ∨
    (∃ a s, transZ l satp status priv at_ kind = (a, s, 0, true) ∧ transZ s satp status priv at_ kind = (a, s, 0, true) ∧ s.length = l.length ∧ ∀ z ∈ s, byte z) := by
  by_cases ht : 3 ≤ priv ∨ satp / 1152921504606846976 ≠ 8
  · refine .inr ⟨at_, l, ?_, ?_, rfl, hb⟩ <;> (unfold transZ; rw [if_pos ht])
  · rw [trans_fin, if_neg ht]
    rcases fin_cases l status priv at_ kind (leafZ l at_ 3 (T0Z satp)) with ⟨f, hf, h, _⟩ | ⟨p, e, i, hL, hm, hk, h⟩
    · exact .inl ⟨f, hf, h⟩
    · obtain ⟨hr, hp, ho, h10, _⟩ := leaf_is l at_ 3 _ (T0_8 satp) p e i hL
      have he : u64B e := by have := readZ_u64 l p 8 hb; rw [hr] at this; exact this
      have hs : readZ (writeL l p 8 (markZ e kind)) p 8 = (markZ e kind, true) := read_put hr (mark_u64 e kind he)
      have hbs := writeL_byte l p 8 (markZ e kind) hb
      have hm10 : Go.bits .and .u64 (markZ e kind) 10 = Go.bits .and .u64 e 10 := mark_and e kind 10 he (by decide) (by decide) (by decide)
      have hL2 : leafZ (writeL l p 8 (markZ e kind)) at_ 3 (T0Z satp) = (2, p, markZ e kind, i) := by
        refine leaf_again l _ at_ p e (markZ e kind) i (fun q hq h0 => ?_) hs (by rw [mark_odd e kind he]; exact ho) (by rw [hm10]; exact h10) 3 _ (T0_8 satp) hL
        refine read_other _ hr hp hq (fun hqp => ?_)
        rw [hqp, hr] at h0
        exact h10 h0
      refine .inr ⟨_, _, h, ?_, writeL_length l p 8 _, hbs⟩
      rw [trans_fin, if_neg ht, hL2]
      unfold finZ
      have hmask : maskZ (markZ e kind) i = maskZ e i := by unfold maskZ; rw [mark_num e kind he]
      have haddr : addrZ (markZ e kind) at_ i = addrZ e at_ i := by unfold addrZ; rw [mark_num e kind he]
      simp only [if_true, mark_may e status priv kind kind he, hm, hmask, haddr, mark_mark e kind he]
      rw [if_neg hk, write_same hbs hs]
theorem Sv39Again : Sv39Again.Said := by
  intro l satp status priv at_ kind hl hlb hs hst hp hat hk
  have hS := u64_wf hs
  have hST := u64_wf hst
  have hAT := u64_wf hat
  have hB : ∀ z ∈ l, byte z := fun z hz => byte_wf (hlb z hz)
  unfold drawbridgelaw08_Sv39Again.f
  by_cases h : (l.length : Int) > 70000
  · rw [if_pos h]; rfl
  have hL : (l.length : Int) ≤ 70000 := by omega
  rw [if_neg h, trans_is l satp status priv at_ kind hS hST hAT hL hB, Option.bind_some]
  rcases again l satp status priv at_ kind hB with ⟨f, hf, e⟩ | ⟨a, s, e, e2, hlen, hbs⟩
  · rw [e]
    simp only [Bool.false_eq_true, if_false, if_true, same07_self, Option.bind_some]
    rw [if_pos hf]; rfl
  · rw [e]
    simp only [if_true]
    rw [trans_is s satp status priv at_ kind hS hST hAT (by omega) hbs, Option.bind_some, e2]
    simp only [if_true, same07_self, Option.bind_some]
    rw [if_pos (by omega)]; rfl
end Go.Proofs.Ytbidnolopbjlaaa.Pure
