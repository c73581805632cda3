import Derived.Test.YtncdhfigfbhohaaSaidCsrAgain
import Derived.Test.YtncdhfigfbhohaaPcsr
namespace Go.Proofs.Ytncdhfigfbhohaa.Pure
open Go.RowKit Go.Proofs.Ytncdhfigfbhohaa.Q Go.Proofs.YtncdhfigfbhohaaW.PrintWords Go.Proofs.YtncdhfigfbhohaaW.PrintLast Go.Proofs.YtncdhfigfbhohaaW.PrintMore Go.Proofs.Ytncdhfigfbhohaa.L
set_option linter.unusedVariables false
set_option linter.unusedSimpArgs false
theorem CsrAgain_bnd {a0_0 a0_1 a0_2 a0_3 a0_4 a0_5 a0_6 a0_7 a0_8 a0_9 a0_10 a0_11 a0_12 a0_13 a0_14 a0_15 a0_16 : Int} (h0 : u64B a0_0) (h1 : u64B a0_1) (h2 : u64B a0_2) (h3 : u64B a0_3) (h4 : u64B a0_4) (h5 : u64B a0_5) (h6 : u64B a0_6) (h7 : u64B a0_7) (h8 : u64B a0_8) (h9 : u64B a0_9) (h10 : u64B a0_10) (h11 : u64B a0_11) (h12 : u64B a0_12) (h13 : u64B a0_13) (h14 : u64B a0_14) (h15 : u64B a0_15) (h16 : u64B a0_16) : bnd (cO a0_0 a0_1 a0_2 a0_3 a0_4 a0_5 a0_6 a0_7 a0_8 a0_9 a0_10 a0_11 a0_12 a0_13 a0_14 a0_15 a0_16) := fun i => by
  show u64B ([a0_0, a0_1, a0_2, a0_3, a0_4, a0_5, a0_6, a0_7, a0_8, a0_9, a0_10, a0_11, a0_12, a0_13, a0_14, a0_15, a0_16].getD i 0)
  match i with
  | 0 => exact h0
  | 1 => exact h1
  | 2 => exact h2
  | 3 => exact h3
  | 4 => exact h4
  | 5 => exact h5
  | 6 => exact h6
  | 7 => exact h7
  | 8 => exact h8
  | 9 => exact h9
  | 10 => exact h10
  | 11 => exact h11
  | 12 => exact h12
  | 13 => exact h13
  | 14 => exact h14
  | 15 => exact h15
  | 16 => exact h16
  | n + 17 => exact ⟨by show (0 : Int) ≤ 0; omega, by show (0 : Int) < _; omega⟩
theorem ok_of {c : Nat → Int} {n p : Int} (h : okW c n p = true) : (∃ v, readZ c n p = some v ∧ seenZ c n = some v ∧ refuses c n p = false) ∧ (n = 769 ∨ ∃ i, ofI n = some i) := by
  unfold okW at h
  rw [Bool.and_eq_true, Bool.not_eq_true'] at h
  obtain ⟨h1, h2⟩ := h
  cases hr : readZ c n p with
  | none => rw [hr] at h1; cases h1
  | some v =>
    unfold readZ at hr
    cases hf : refuses c n p with
    | true => rw [hf] at hr; cases hr
    | false => rw [hf] at hr; exact ⟨⟨v, rfl, hr, rfl⟩, seen_of hr h2⟩
theorem write_769 (c : Nat → Int) (x : Int) : writeZ c 769 x = c := rfl
theorem ite_some {q : Bool} {a b : Option Int} {k l : Option Int} (h1 : a.isSome = b.isSome) (h2 : k.isSome = l.isSome) : (if q then a else k).isSome = (if q then b else l).isSome := by cases q; exact h2; exact h1
theorem seen_free (c d : Nat → Int) (n : Int) : (seenZ c n).isSome = (seenZ d n).isSome := by
  unfold seenZ
  repeat' (apply ite_some)
  all_goals first | rfl | (cases ofI n <;> rfl)
theorem ref_free {c d : Nat → Int} (n p : Int) (h : n = 384 → c 0 = d 0) : refuses c n p = refuses d n p := by
  unfold refuses
  by_cases hn : n = 384
  · rw [h hn]
  · rw [show (n == 384) = false from beq_eq_false_iff_ne.2 hn, Bool.false_and, Bool.false_and]
theorem ok_free {c d : Nat → Int} (n p : Int) (h : n = 384 → c 0 = d 0) : okW c n p = okW d n p := by
  unfold okW readZ
  rw [ref_free n p h]
  cases refuses d n p
  · show ((seenZ c n).isSome && _) = ((seenZ d n).isSome && _)
    rw [seen_free c d n]
  · rfl
theorem st_write {c : Nat → Int} {n p x : Int} (h : okW c n p = true) : stW c n p x = writeZ c n x := by unfold stW; rw [h]; rfl
theorem st_none {c : Nat → Int} {n p x : Int} (h : okW c n p = false) : stW c n p x = c := by unfold stW; rw [h]; rfl
theorem same_refl (c : Nat → Int) : same17 c c = true := same17_of fun _ _ => rfl
theorem upd_at (c : Nat → Int) (i : Nat) (v w : Int) (h : v = w) : upd c i v = upd c i w := by rw [h]
theorem upd_self (c : Nat → Int) (i : Nat) : upd c i (c i) = c := by
  funext j; unfold upd; split
  · rename_i h; rw [h]
  · rfl
/-- The plain law of CsrAgain. -/
theorem CsrAgain : CsrAgain.Said := by
  intro a0_0 a0_1 a0_2 a0_3 a0_4 a0_5 a0_6 a0_7 a0_8 a0_9 a0_10 a0_11 a0_12 a0_13 a0_14 a0_15 a0_16 a1 a2 a3 h0 h1 h2 h3 h4 h5 h6 h7 h8 h9 h10 h11 h12 h13 h14 h15 h16
  intro _ _ w3
  unfold drawbridgelaw05_CsrAgain.f
  have hb := CsrAgain_bnd (wf_u64B h0) (wf_u64B h1) (wf_u64B h2) (wf_u64B h3) (wf_u64B h4) (wf_u64B h5) (wf_u64B h6) (wf_u64B h7) (wf_u64B h8) (wf_u64B h9) (wf_u64B h10) (wf_u64B h11) (wf_u64B h12) (wf_u64B h13) (wf_u64B h14) (wf_u64B h15) (wf_u64B h16)
  generalize (cO a0_0 a0_1 a0_2 a0_3 a0_4 a0_5 a0_6 a0_7 a0_8 a0_9 a0_10 a0_11 a0_12 a0_13 a0_14 a0_15 a0_16) = c at *
  have hx := wf_u64B w3
  have z0 : a1 = 384 → (stW c a1 a2 a3) 0 = c 0 := by
    rintro rfl
    cases hok : okW c 384 a2 with
    | false => rw [st_none hok]
    | true =>
      rw [st_write hok, write_is (i := 15) rfl]
      cases modeBad 384 a3 <;> rfl
  have hE : okW (stW c a1 a2 a3) a1 a2 = okW c a1 a2 := ok_free a1 a2 z0
  rw [if_pos]
  refine ⟨fun hc => ?_, hE, ?_⟩
  · cases hok : okW c a1 a2 with
    | false => rw [st_none hok]; exact same_refl c
    | true =>
      rw [st_write hok]
      obtain ⟨⟨v, hr, hs, _⟩, hn⟩ := ok_of hok
      have hv : rdV c a1 a2 = v := by unfold rdV; rw [hr]; rfl
      rw [hv]
      rcases hn with rfl | ⟨i, hi⟩
      · exact same_refl c
      · obtain ⟨hm, hz⟩ := back hb hi hc hs
        rw [write_is hi, hm]
        show same17 (upd c i (valZ c a1 v i)) c = true
        rw [hz, upd_self]
        exact same_refl c
  · cases hok : okW c a1 a2 with
    | false => rw [st_none hok, st_none hok]; exact same_refl c
    | true =>
      rw [hok] at hE
      rw [st_write (c := stW c a1 a2 a3) hE, st_write hok]
      rcases (ok_of hok).2 with rfl | ⟨i, hi⟩
      · exact same_refl c
      · cases hm : modeBad a1 a3 with
        | true =>
          have e : writeZ c a1 a3 = c := by rw [write_is hi, hm]; rfl
          rw [e, e]
          exact same_refl c
        | false =>
          have e : writeZ c a1 a3 = upd c i (valZ c a1 a3 i) := by rw [write_is hi, hm]; rfl
          rw [e, write_is hi, hm]
          show same17 (upd (upd c i (valZ c a1 a3 i)) i (valZ (upd c i (valZ c a1 a3 i)) a1 a3 i)) (upd c i (valZ c a1 a3 i)) = true
          rw [upd_twice, twice hb hx hi]
          exact same_refl _
end Go.Proofs.Ytncdhfigfbhohaa.Pure
