/- What memory's functions come to, the program's and the reference's (layer 7). -/
import Derived.Test.YtkkkmkjlchfafaaQx2
import Derived.Test.YtkkkmkjlchfafaaQx3
import Derived.Test.YtkkkmkjlchfafaaQx5
import Derived.Test.YtkkkmkjlchfafaaEram7
import Derived.Test.YtkkkmkjlchfafaaErg
set_option linter.unusedVariables false
namespace Go.Proofs.Ytkkkmkjlchfafaa.Q
open Go.RowKit Go.Proofs.YtkkkmkjlchfafaaW.PrintWords Go.Proofs.YtkkkmkjlchfafaaW.PrintLast Go.Proofs.YtkkkmkjlchfafaaW.PrintMore Go.Proofs.Ytkkkmkjlchfafaa.L
def i64B (x : Int) : Prop := -9223372036854775808 ≤ x ∧ x ≤ 9223372036854775807
def cutL (l : List Int) (a k : Int) : List Int := (l.take (a - 2147483648 + k).toNat).drop (a - 2147483648).toNat
def bytesZ (l : List Int) (a k : Int) : List Int × Bool := if (placeZ l.length a k).2 = true then (cutL l a k, true) else ([], false)
def readZ (l : List Int) (a s : Int) : Int × Bool := if (placeZ l.length a s).2 = true ∧ knownZ s = true then (getB (cutL l a s) false, true) else (0, false)
theorem placeZ_cases (n a k : Int) : (2147483648 ≤ a ∧ 0 ≤ k ∧ a - 2147483648 + k ≤ n ∧ placeZ n a k = (a - 2147483648, true)) ∨ (¬ (2147483648 ≤ a ∧ 0 ≤ k ∧ a - 2147483648 + k ≤ n) ∧ placeZ n a k = (0, false)) := by
  unfold placeZ
  by_cases h : 2147483648 ≤ a ∧ 0 ≤ k ∧ a - 2147483648 + k ≤ n
  · exact .inl ⟨h.1, h.2.1, h.2.2, if_pos h⟩
  · exact .inr ⟨h, if_neg h⟩
theorem cutL_byte (l : List Int) (a k : Int) (hb : ∀ z ∈ l, byte z) : ∀ z ∈ (cutL l a k).take 8, byte z := fun z hz => hb z (List.mem_of_mem_take (List.mem_of_mem_drop (List.mem_of_mem_take hz)))
section
variable (l : List Int) (a k : Int) (ha : u64B a) (hk : i64B k) (hl : (l.length : Int) ≤ 70000)
include ha hk hl
theorem inside_is (m : Nat) : ram_Inside.f (m + 3) l a k = some (placeZ l.length a k).2 := by
  unfold ram_Inside.f
  rw [place_is l a k ha hk (by omega) m]; rfl
theorem bytes_is (m : Nat) : ram_Bytes.f (m + 3) l a k = some (bytesZ l a k) := by
  unfold ram_Bytes.f bytesZ
  rw [place_is l a k ha hk (by omega) m, Option.bind_some]
  obtain ⟨k0, k1⟩ := hk
  rcases placeZ_cases l.length a k with ⟨h1, h2, h3, e⟩ | ⟨_, e⟩
  · rw [e]
    have e1 : wrap64 (a - 2147483648 + k) = a - 2147483648 + k := w64 (by omega) (by omega)
    simp only [if_true, e1]
    rw [if_pos (by omega), if_pos (by omega), if_pos (by omega)]
    unfold slices_Clone_byte_byte.f
    rw [if_pos (by rw [List.length_drop, List.length_take]; omega)]
    rfl
  · rw [e]; rfl
theorem read_is (hb : ∀ z ∈ l, byte z) (m : Nat) : ram_Read.f (m + 3) l a k = some (readZ l a k) := by
  have hby := cutL_byte l a k hb
  unfold ram_Read.f readZ
  rw [place_is l a k ha hk (by omega) m, Option.bind_some, align_is, Option.bind_some]
  obtain ⟨k0, k1⟩ := hk
  rcases placeZ_cases l.length a k with ⟨h1, h2, h3, e⟩ | ⟨_, e⟩
  · rw [e]
    have e1 : wrap64 (a - 2147483648 + k) = a - 2147483648 + k := w64 (by omega) (by omega)
    simp only [if_true, e1, true_and]
    cases knownZ k
    · simp
    · simp only [if_true]
      rw [if_pos (by omega), if_pos (by omega), if_pos (by omega)]
      have hg : bits_Get.f ((l.take (a - 2147483648 + k).toNat).drop (a - 2147483648).toNat) false = some (getB (cutL l a k) false) := by
        unfold bits_Get.f; exact if_pos hby
      rw [hg]; rfl
  · rw [e]; simp
end
theorem byte_wf {z : Int} (h : (Lit.int .u8 z).wf = true) : byte z := by
  simp only [Lit.wf, Bool.and_eq_true, decide_eq_true_eq] at h
  have h1 : IntKind.u8.min = 0 := rfl
  have h2 : IntKind.u8.max = 255 := rfl
  exact ⟨by omega, by omega⟩
theorem i64_wf {z : Int} (h : (Lit.int .i64 z).wf = true) : i64B z := by
  simp only [Lit.wf, Bool.and_eq_true, decide_eq_true_eq] at h
  have h1 : IntKind.i64.min = -9223372036854775808 := rfl
  have h2 : IntKind.i64.max = 9223372036854775807 := rfl
  exact ⟨by omega, by omega⟩
theorem u64_wf {z : Int} (h : (Lit.int .u64 z).wf = true) : u64B z := by
  simp only [Lit.wf, Bool.and_eq_true, decide_eq_true_eq] at h
  have h1 : IntKind.u64.min = 0 := rfl
  have h2 : IntKind.u64.max = 18446744073709551615 := rfl
  exact ⟨by omega, by omega⟩
end Go.Proofs.Ytkkkmkjlchfafaa.Q
