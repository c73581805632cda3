import Derived.Test.YtbidnolopbjlaaaHSaidSv39Marks
import Derived.Test.YtbidnolopbjlaaaHZ4
/- Sv39Marks: nothing of memory is another but the marks A and D of one entry; for every memory, registers, privilege, address and kind. No condition beyond the statement's own. -/
set_option linter.unusedVariables false
set_option linter.unusedSimpArgs false
namespace Go.Proofs.Ytbidnolopbjlaaa.Pure
open Go.RowKit Go.Proofs.Ytbidnolopbjlaaa.Q Go.Proofs.YtbidnolopbjlaaaW.PrintWords Go.Proofs.YtbidnolopbjlaaaW.PrintLast Go.Proofs.YtbidnolopbjlaaaW.PrintMore Go.Proofs.Ytbidnolopbjlaaa.L
theorem low8 : ∀ y : Nat, y < 256 → ((y ||| 64) ||| 192 = y ||| 192) ∧ ((y ||| 64) &&& y = y) ∧ ((y ||| 64) &&& 128 = y &&& 128) ∧ ((y ||| 192) ||| 192 = y ||| 192) ∧ ((y ||| 192) &&& y = y) ∧ (y ||| 64) < 256 ∧ (y ||| 192) < 256 := by decide +kernel
structure Marked (kind b b' : Int) : Prop where
  o : Go.bits .or .u8 b' 192 = Go.bits .or .u8 b 192
  a : Go.bits .and .u8 b' b = b
  d : kind ≠ 2 → Go.bits .and .u8 b' 128 = Go.bits .and .u8 b 128
theorem marked (e kind : Int) (he : u64B e) : Marked kind (e % 256) (markZ e kind % 256) := by
  obtain ⟨E, rfl⟩ := Int.eq_ofNat_of_zero_le he.1
  have hE : E < 18446744073709551616 := by have := he.2; omega
  rw [mark_nat E kind hE]
  have e1 : ((E : Int) % 256) = ((E % 256 : Nat) : Int) := by simp
  have e2 : (((E ||| markC kind : Nat) : Int) % 256) = (((E % 256) ||| markC kind : Nat) : Int) := by
    have : (E ||| markC kind) % 256 = E % 256 ||| markC kind := by
      have h := Nat.or_mod_two_pow (a := E) (b := markC kind) (n := 8)
      rw [show (2 : Nat) ^ 8 = 256 by decide, Nat.mod_eq_of_lt (markC_lt kind)] at h
      exact h
    rw [← this]; simp
  rw [e1, e2]
  have hy : E % 256 < 256 := Nat.mod_lt _ (by decide)
  obtain ⟨h1, h2, h3, h4, h5, h6, h7⟩ := low8 (E % 256) hy
  unfold markC
  by_cases h : kind = 2
  · rw [if_pos h]
    refine ⟨?_, ?_, fun hn => absurd h hn⟩
    · have g1 := u8_or_nat (E % 256 ||| 192) 192 h7 (by decide)
      have g2 := u8_or_nat (E % 256) 192 hy (by decide)
      rw [h4] at g1; exact g1.trans g2.symm
    · have g1 := u8_and_nat (E % 256 ||| 192) (E % 256) h7 hy
      rw [h5] at g1; exact g1
  · rw [if_neg h]
    refine ⟨?_, ?_, fun _ => ?_⟩
    · have g1 := u8_or_nat (E % 256 ||| 64) 192 h6 (by decide)
      have g2 := u8_or_nat (E % 256) 192 hy (by decide)
      rw [h1] at g1; exact g1.trans g2.symm
    · have g1 := u8_and_nat (E % 256 ||| 64) (E % 256) h6 hy
      rw [h2] at g1; exact g1
    · have g1 := u8_and_nat (E % 256 ||| 64) 128 h6 (by decide)
      have g2 := u8_and_nat (E % 256) 128 hy (by decide)
      rw [h3] at g1; exact g1.trans g2.symm
theorem mark_div (e kind : Int) (he : u64B e) : markZ e kind / 256 = e / 256 := by
  obtain ⟨E, rfl⟩ := Int.eq_ofNat_of_zero_le he.1
  have hE : E < 18446744073709551616 := by have := he.2; omega
  rw [mark_nat E kind hE]
  have := mark_shift E kind 8 (by decide)
  rw [show (2 : Nat) ^ 8 = 256 by decide] at this
  have e1 : (((E ||| markC kind : Nat) : Int) / 256) = (((E ||| markC kind) / 256 : Nat) : Int) := by simp
  have e2 : ((E : Int) / 256) = ((E / 256 : Nat) : Int) := by simp
  rw [e1, e2, this]
/-- Memory behind it: as it was, or another in one byte. -/
theorem one_byte (l : List Int) (satp status priv at_ kind : Int) (hb : ∀ z ∈ l, byte z) :
    (transZ l satp status priv at_ kind).2.1 = l ∨ ∃ A b b' C, l = A ++ b :: C ∧ (transZ l satp status priv at_ kind).2.1 = A ++ b' :: C ∧ A.length % 8 = 0 ∧ Marked kind b b' := by
  rw [trans_fin]
  by_cases ht : 3 ≤ priv ∨ satp / 1152921504606846976 ≠ 8
  · rw [if_pos ht]; exact .inl rfl
  · rw [if_neg ht]
    rcases fin_cases l status priv at_ kind (leafZ l at_ 3 (T0Z satp)) with ⟨f, _, h, _⟩ | ⟨p, e, i, hL, hm, hk, h⟩
    · rw [h]; exact .inl rfl
    · rw [h]
      right
      obtain ⟨hr, hp, ho, h10, _⟩ := leaf_is l at_ 3 _ (T0_8 satp) p e i hL
      have he : u64B e := by have := readZ_u64 l p 8 hb; rw [hr] at this; exact this
      obtain ⟨g1, g2, _, _⟩ := placed hr
      have hl := write_same hb hr
      rw [write8 e hr] at hl
      refine ⟨l.take (p - 2147483648).toNat, e % 256, markZ e kind % 256, putL (e / 256) 7 ++ l.drop ((p - 2147483648).toNat + 8), ?_, ?_, ?_, marked e kind he⟩
      · refine hl.symm.trans ?_
        unfold splice
        rw [putL_length, putL_cons]; rfl
      · show writeL l p 8 (markZ e kind) = _
        rw [write8 _ hr]
        unfold splice
        rw [putL_length, putL_cons, mark_div e kind he]; rfl
      · rw [List.length_take]; omega
theorem rd_app (A C : List Int) (b : Int) (i : Nat) : rd (A ++ b :: C) (i : Int) = if i < A.length then A.getD i 0 else if i = A.length then b else C.getD (i - A.length - 1) 0 := by
  unfold rd
  rw [Int.toNat_natCast, List.getD_eq_getElem?_getD]
  split
  · rename_i h; rw [List.getElem?_append_left h, List.getD_eq_getElem?_getD]
  · rename_i h
    rw [List.getElem?_append_right (by omega)]
    split
    · rename_i h2; rw [h2, Nat.sub_self]; rfl
    · rename_i h2
      obtain ⟨m, hm⟩ : ∃ m, i - A.length = m + 1 := ⟨i - A.length - 1, by omega⟩
      rw [hm, List.getElem?_cons_succ, List.getD_eq_getElem?_getD, Nat.add_sub_cancel]
theorem align88 : drawbridgeref01_Align.f 8 8 = some true := by decide +kernel
theorem marks_loop (l s : List Int) (kind : Int) (off : Nat) (hlen : s.length = l.length) (hl : l.length ≤ 70000)
    (hs : ∀ i : Nat, i < l.length → rd s (i : Int) = rd l (i : Int) ∨ (i = off ∧ off % 8 = 0 ∧ Marked kind (rd l (i : Int)) (rd s (i : Int)))) (d : Nat) :
    ∀ (k i : Nat) (n : Int), i ≤ l.length → l.length - i = d → d < k → (n = 0 ∨ n = 1 ∧ off < i) → drawbridgelaw08_Sv39Marks.l0 k kind n i l s = some true := by
  induction d with
  | zero =>
    intro k i n h1 h2 h3 h4
    obtain ⟨k, rfl⟩ : ∃ m, k = m + 1 := ⟨k - 1, by omega⟩
    rw [drawbridgelaw08_Sv39Marks.l0, if_neg (by omega), if_pos (by omega), align88, Option.bind_some, if_pos rfl]; rfl
  | succ d ih =>
    intro k i n h1 h2 h3 h4
    obtain ⟨k, rfl⟩ : ∃ m, k = m + 1 := ⟨k - 1, by omega⟩
    have ei : wrap64 ((i : Int) + 1) = ((i + 1 : Nat) : Int) := by rw [w64 (by omega) (by omega)]; omega
    rw [drawbridgelaw08_Sv39Marks.l0, if_pos (by omega), if_pos (by omega), if_pos (by omega), ei]
    rcases hs i (by omega) with h | ⟨ho, h8, hM⟩
    · rw [if_pos h]
      exact ih k (i + 1) n (by omega) (by omega) (by omega) (by omega)
    · by_cases he : rd s (i : Int) = rd l (i : Int)
      · rw [if_pos he]
        exact ih k (i + 1) n (by omega) (by omega) (by omega) (by omega)
      · have hn : n = 0 := by omega
        have e8 : Int.tmod (i : Int) 8 = 0 := by rw [Int.tmod_eq_emod_of_nonneg (by omega)]; omega
        have en : wrap64 (n + 1) = 1 := by rw [hn, w64 (by decide) (by decide)]; rfl
        rw [if_neg he, if_pos e8, if_pos hM.o, if_pos hM.a, en]
        have next := ih k (i + 1) 1 (by omega) (by omega) (by omega) (by omega)
        by_cases h2 : kind = 2
        · rw [if_pos h2]; exact next
        · rw [if_neg h2, if_pos (hM.d h2)]; exact next
theorem Sv39Marks : Sv39Marks.Said := by
  intro l satp status priv at_ kind hl hlb hs hst hp hat hk
  have hS := u64_wf hs
  have hST := u64_wf hst
  have hAT := u64_wf hat
  have hB : ∀ z ∈ l, byte z := fun z hz => byte_wf (hlb z hz)
  refine ⟨70002, ?_⟩
  unfold drawbridgelaw08_Sv39Marks.f
  by_cases h : (l.length : Int) > 70000
  · rw [if_pos h]; rfl
  have hL : (l.length : Int) ≤ 70000 := by omega
  rw [if_neg h, trans_is l satp status priv at_ kind hS hST hAT hL hB, Option.bind_some, transZ_length, if_pos rfl]
  have hlen := transZ_length l satp status priv at_ kind
  rcases one_byte l satp status priv at_ kind hB with e | ⟨A, b, b', C, e1, e2, h8, hM⟩
  · rw [e]
    exact marks_loop l l kind 0 rfl (by omega) (fun i _ => .inl rfl) l.length 70002 0 0 (by omega) (by omega) (by omega) (.inl rfl)
  · rw [e2] at hlen ⊢
    refine marks_loop l _ kind A.length hlen (by omega) (fun i hi => ?_) l.length 70002 0 0 (by omega) (by omega) (by omega) (.inl rfl)
    by_cases hA : i = A.length
    · right
      refine ⟨hA, h8, ?_⟩
      rw [e1, rd_app, rd_app, if_neg (by omega), if_pos hA, if_neg (by omega), if_pos hA]
      exact hM
    · left
      rw [e1, rd_app, rd_app]
      by_cases h1 : i < A.length
      · rw [if_pos h1, if_pos h1]
      · rw [if_neg h1, if_neg h1, if_neg hA, if_neg hA]
end Go.Proofs.Ytbidnolopbjlaaa.Pure
