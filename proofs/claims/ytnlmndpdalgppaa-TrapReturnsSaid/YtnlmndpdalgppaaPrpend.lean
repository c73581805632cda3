/- Layer 6, plain facts: the document's Pending is the program's. -/
import Derived.Test.YtnlmndpdalgppaaPpend
import Derived.Test.YtnlmndpdalgppaaQx1
import Derived.Test.YtnlmndpdalgppaaQx1
set_option linter.unusedVariables false
set_option linter.unusedSimpArgs false
namespace Go.Proofs.Ytnlmndpdalgppaa.Q
open Go.RowKit Go.Proofs.YtnlmndpdalgppaaW.PrintWords Go.Proofs.YtnlmndpdalgppaaW.PrintLast Go.Proofs.YtnlmndpdalgppaaW.PrintMore Go.Proofs.Ytnlmndpdalgppaa.L
theorem first_step (x : Int) (hx : u64B x) (k : Nat) (j : Int) (n : Nat) (z : Int) (hj : 0 ≤ j ∧ j < 6) (hz : rd ([11, 3, 7, 9, 1, 5] : List Int) j = z) (hn : z = n) (h64 : n < 64) :
    drawbridgeref06_first.l0 (k + 1) x ([11, 3, 7, 9, 1, 5] : List Int) j = if bitZ x z = 1 then some (z, true) else drawbridgeref06_first.l0 k x ([11, 3, 7, 9, 1, 5] : List Int) (j + 1) := by
  rw [drawbridgeref06_first.l0, if_pos (by show j < 6; omega), if_pos hj.1, hz, refbit_is x n z hx hn h64, Option.bind_some, show wrap64 (j + 1) = j + 1 by unfold wrap64; omega]
theorem first_is (x : Int) (hx : u64B x) (k : Nat) : drawbridgeref06_first.f (k + 7) x = some (innZ x (0, false) ordL) := by
  have hlast : drawbridgeref06_first.l0 (k + 1) x ([11, 3, 7, 9, 1, 5] : List Int) (0 + 1 + 1 + 1 + 1 + 1 + 1) = some (0, false) := by rw [drawbridgeref06_first.l0, if_neg (by decide)]
  unfold drawbridgeref06_first.f ordL
  rw [first_step x hx (k + 6) 0 11 11 (by decide) rfl rfl (by decide), first_step x hx (k + 5) (0 + 1) 3 3 (by decide) rfl rfl (by decide), first_step x hx (k + 4) (0 + 1 + 1) 7 7 (by decide) rfl rfl (by decide), first_step x hx (k + 3) (0 + 1 + 1 + 1) 9 9 (by decide) rfl rfl (by decide), first_step x hx (k + 2) (0 + 1 + 1 + 1 + 1) 1 1 (by decide) rfl rfl (by decide), first_step x hx (k + 1) (0 + 1 + 1 + 1 + 1 + 1) 5 5 (by decide) rfl rfl (by decide), hlast]
  simp only [innZ]
  (repeat' split) <;> rfl
theorem inn_snd (x : Int) (hx : u64B x) : (innZ x (0, false) ordL).2 = false → innZ x (0, false) ordL = (0, false) := by
  rcases inn_cases x hx (0, false) ordL ordL_small with ⟨n, hn, e, t⟩ | ⟨e, t⟩
  · rw [e]; intro h; cases h
  · rw [e]; intro _; rfl
theorem inn_other (x : Int) (hx : u64B x) (r : Int × Bool) : innZ x r ordL = if (innZ x (0, false) ordL).2 = true then ((innZ x (0, false) ordL).1, true) else r := by
  rcases inn_cases x hx (0, false) ordL ordL_small with ⟨n, hn, e, t⟩ | ⟨e, t⟩
  · rcases inn_cases x hx r ordL ordL_small with ⟨n', hn', e', t'⟩ | ⟨e', t'⟩
    · have : ∀ l : List Int, ∀ m, innZ x (0, false) l = (m, true) → innZ x r l = (m, true) := by
        intro l
        induction l with
        | nil => intro m h; cases h
        | cons a l ih => intro m h; unfold innZ at h ⊢; split at h
                         · rename_i hb; rw [if_pos hb]; exact h
                         · rename_i hb; rw [if_neg hb]; exact ih m h
      rw [e, this _ _ e]; rfl
    · exact absurd t (by rw [t' n hn]; decide)
  · rcases inn_cases x hx r ordL ordL_small with ⟨n', hn', e', t'⟩ | ⟨e', t'⟩
    · exact absurd t' (by rw [t n' hn']; decide)
    · rw [e, e']; rfl
section
variable (s a1 d ie ip a5 a6 a7 a8 a9 a10 a11 a12 a13 a14 a15 a16 priv : Int) (hs : u64B s) (hd : u64B d) (he : u64B ie) (hp : u64B ip)
include hs hd he hp
theorem refj1_is (k : Nat) : drawbridgeref06_Pending.j1 (k + 8) priv (Go.bits .and .u64 ip ie) s a1 d ie ip a5 a6 a7 a8 a9 a10 a11 a12 a13 a14 a15 a16 = some (innZ (if c2Z s priv = true then Go.bits .and .u64 (Go.bits .and .u64 ip ie) d else 0) (0, false) ordL) := by
  have hw := and_B hp he
  have hx := and_B hw hd
  rw [drawbridgeref06_Pending.j1, first_is _ hx]
  unfold c2Z
  by_cases h1 : priv < 1
  · rw [if_pos h1, decide_eq_true h1, Bool.true_or, if_pos rfl]; rfl
  · rw [if_neg h1, decide_eq_false h1, Bool.false_or]
    by_cases h2 : priv = 1
    · rw [if_pos h2, decide_eq_true h2, Bool.true_and, refbit_is s 1 1 hs rfl (by decide), Option.bind_some]
      by_cases h3 : bitZ s 1 = 1
      · rw [if_pos h3, if_pos (beq_iff_eq.mpr h3)]; rfl
      · rw [if_neg h3, if_neg (by rw [beq_iff_eq]; exact h3), inn_zero]
    · rw [if_neg h2, decide_eq_false h2, Bool.false_and, if_neg (by decide), inn_zero]
theorem refPending_is (k : Nat) : drawbridgeref06_Pending.f (k + 9) s a1 d ie ip a5 a6 a7 a8 a9 a10 a11 a12 a13 a14 a15 a16 priv = some (pendZ s d ie ip priv) := by
  have hw := and_B hp he
  have hx := andNot_B hw hd
  have key : ∀ b : Bool, b = c1Z s priv → drawbridgeref06_Pending.j0 (k + 9) priv (Go.bits .and .u64 ip ie) b s a1 d ie ip a5 a6 a7 a8 a9 a10 a11 a12 a13 a14 a15 a16 = some (pendZ s d ie ip priv) := by
    intro b hb
    rw [pend_is s d ie ip priv hd he hp, drawbridgeref06_Pending.j0, refj1_is s a1 d ie ip a5 a6 a7 a8 a9 a10 a11 a12 a13 a14 a15 a16 priv hs hd he hp k]
    subst hb
    obtain ⟨Y, hY⟩ : ∃ Y, innZ (if c2Z s priv = true then Go.bits .and .u64 (Go.bits .and .u64 ip ie) d else 0) (0, false) ordL = Y := ⟨_, rfl⟩
    rw [hY]
    have hi := inn_other _ hx Y
    cases hc : c1Z s priv
    · simp only [Bool.false_eq_true, if_false, inn_zero]
    · simp only [if_true]
      rw [show k + 8 = (k + 1) + 7 by omega, first_is _ hx, Option.bind_some, hi]
      split <;> rfl
  unfold drawbridgeref06_Pending.f
  by_cases h : priv < 3
  · rw [if_pos h]
    exact key true (by unfold c1Z; rw [decide_eq_true h]; rfl)
  · rw [if_neg h, refbit_is s 3 3 hs rfl (by decide), Option.bind_some]
    exact key _ (by unfold c1Z; rw [decide_eq_false h, Bool.false_or])
end
end Go.Proofs.Ytnlmndpdalgppaa.Q
