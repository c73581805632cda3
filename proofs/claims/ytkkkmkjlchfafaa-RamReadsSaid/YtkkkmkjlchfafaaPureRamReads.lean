/- RamReads: a number is its bytes, and written back it changes nothing; for every memory, place and size. No condition beyond the statement's own. -/
import Derived.Test.YtkkkmkjlchfafaaSaidRamReads
import Derived.Test.YtkkkmkjlchfafaaPref07
namespace Go.Proofs.Ytkkkmkjlchfafaa.Pure
open Go.RowKit Go.Proofs.Ytkkkmkjlchfafaa.Q Go.Proofs.YtkkkmkjlchfafaaW.PrintWords Go.Proofs.YtkkkmkjlchfafaaW.PrintLast Go.Proofs.YtkkkmkjlchfafaaW.PrintMore Go.Proofs.Ytkkkmkjlchfafaa.L
set_option linter.unusedVariables false
theorem put_get : ∀ (n : Nat) (bs : List Int), bs.length = n → (∀ z ∈ bs, byte z) → putL (getLE bs) n = bs := by
  intro n
  induction n with
  | zero => intro bs h _; rw [List.length_eq_zero_iff.1 h]; rfl
  | succ n ih =>
    intro bs h hb
    cases bs with
    | nil => cases h
    | cons b bs =>
      have hl : bs.length = n := by simpa using h
      have hbb := hb b List.mem_cons_self
      have := ih bs hl (fun z hz => hb z (List.mem_cons_of_mem _ hz))
      unfold putL at this ⊢
      rw [List.range_succ_eq_map, List.map_cons, List.map_map, getLE]
      obtain ⟨h0, h1⟩ := hbb
      have e0 : (b + 256 * getLE bs) / 2 ^ (8 * 0) % 256 = b := by
        rw [Nat.mul_zero, Int.pow_zero, Int.ediv_one]; omega
      rw [e0]
      congr 1
      refine Eq.trans (List.map_congr_left fun i hi => ?_) this
      show (b + 256 * getLE bs) / 2 ^ (8 * (i + 1)) % 256 = getLE bs / 2 ^ (8 * i) % 256
      rw [show 8 * (i + 1) = 8 + 8 * i by omega, Int.pow_add, ← Int.ediv_ediv_of_nonneg (by decide), show (2 : Int) ^ 8 = 256 by decide, show (b + 256 * getLE bs) / 256 = getLE bs by omega]
theorem splice_self (l : List Int) (i k : Nat) (h : i + k ≤ l.length) : splice l i ((l.take (i + k)).drop i) = l := by
  unfold splice
  have hl : ((l.take (i + k)).drop i).length = k := by rw [List.length_drop, List.length_take]; omega
  rw [hl, ← List.append_assoc]
  have : l.take i ++ (l.take (i + k)).drop i = l.take (i + k) := by
    have := List.take_append_drop i (l.take (i + k))
    rwa [List.take_take, Nat.min_eq_left (by omega)] at this
  rw [this, List.take_append_drop]
theorem RamReads : RamReads.Said := by
  intro l a s hl hlb ha hs
  have hA := u64_wf ha
  have hS := i64_wf hs
  have hB : ∀ z ∈ l, byte z := fun z hz => byte_wf (hlb z hz)
  refine ⟨3, ?_⟩
  unfold drawbridgelaw07_RamReads.f
  by_cases h : (l.length : Int) > 70000
  · rw [if_pos h]; rfl
  have hL : (l.length : Int) ≤ 70000 := by omega
  rw [if_neg h, read_is l a s hA hS hL hB 0, Option.bind_some, bytes_is l a s hA hS hL 0, Option.bind_some]
  unfold readZ bytesZ
  rcases placeZ_cases l.length a s with ⟨h1, h2, h3, e⟩ | ⟨_, e⟩
  · rw [e]
    cases hk : knownZ s
    · have hk' := hk
      unfold knownZ at hk'
      simp only [Bool.or_eq_false_iff, beq_eq_false_iff_ne] at hk'
      obtain ⟨⟨⟨n1, n2⟩, n4⟩, n8⟩ := hk'
      simp only [Bool.false_eq_true, and_false, if_false, if_true]
      rw [if_neg n1, if_neg n2, if_neg n4, if_neg n8]
      rfl
    · simp only [and_self, if_true]
      have hs8 : 1 ≤ s ∧ s ≤ 8 := by
        unfold knownZ at hk
        simp only [Bool.or_eq_true, beq_iff_eq] at hk
        omega
      obtain ⟨k, rfl⟩ := Int.eq_ofNat_of_zero_le (show 0 ≤ s by omega)
      obtain ⟨i, hi⟩ := Int.eq_ofNat_of_zero_le (show 0 ≤ a - 2147483648 by omega)
      have ec : cutL l a k = (l.take (i + k)).drop i := by
        unfold cutL; rw [hi, Int.toNat_natCast, show ((i : Int) + (k : Int)).toNat = i + k by omega]
      have hcl : (cutL l a k).length = k := by rw [ec, List.length_drop, List.length_take]; omega
      have hcb : ∀ z ∈ cutL l a k, byte z := fun z hz => hB z (List.mem_of_mem_take (List.mem_of_mem_drop hz))
      have h8 : (cutL l a k).take 8 = cutL l a k := List.take_of_length_le (by omega)
      have hpn : putN (k : Int) = k := by unfold putN; rw [if_neg (by omega), if_neg (by omega)]; omega
      have epb : putB (getB (cutL l a k) false) k false = cutL l a k := by
        unfold putB getB
        simp only [Bool.false_eq_true, if_false]
        rw [h8, hpn, put_get k _ hcl hcb]
      have ew : writeL l a k (getB (cutL l a k) false) = l := by
        unfold writeL
        rw [if_pos hk, epb]
        unfold fillL
        rw [hcl, e, if_pos rfl, hi, Int.toNat_natCast, ec, splice_self l i k (by omega)]
      have ek : writeK l a k (getB (cutL l a k) false) = true := by
        unfold writeK
        rw [hk, Bool.true_and, epb, hcl, e]
      rw [write_is l a k _ hA hL, ew, ek, Option.bind_some, hcl, if_pos rfl]
      unfold drawbridgeref01_Get.f
      rw [if_pos (cutL_byte l a k hB), Option.bind_some, if_pos rfl, same07_self]
      rfl
  · rw [e]
    simp
    rfl
end Go.Proofs.Ytkkkmkjlchfafaa.Pure
