/- What the reference's memory comes to (layer 7). -/
import Derived.Test.YtkkkmkjlchfafaaQx6
import Derived.Test.YtkkkmkjlchfafaaQx6
import Derived.Test.YtkkkmkjlchfafaaQx6
import Derived.Test.YtkkkmkjlchfafaaQx7
import Derived.Test.YtkkkmkjlchfafaaQx6
import Derived.Test.YtkkkmkjlchfafaaEref07w
import Derived.Test.YtkkkmkjlchfafaaPram
set_option linter.unusedVariables false
namespace Go.Proofs.Ytkkkmkjlchfafaa.Q
open Go.RowKit Go.Proofs.YtkkkmkjlchfafaaW.PrintWords Go.Proofs.YtkkkmkjlchfafaaW.PrintLast Go.Proofs.YtkkkmkjlchfafaaW.PrintMore Go.Proofs.Ytkkkmkjlchfafaa.L
theorem same07_self (l : List Int) : drawbridgeref07_Same.f l l = some true := by unfold drawbridgeref07_Same.f; rw [beq_self_eq_true]
section
variable (l : List Int) (a k : Int) (ha : u64B a) (hk : i64B k) (hl : (l.length : Int) ≤ 70000)
include ha hk hl
theorem refInside_is : drawbridgeref07_Inside.f l a k = some (placeZ l.length a k).2 := by
  obtain ⟨a0, a1⟩ := ha
  obtain ⟨k0, k1⟩ := hk
  unfold drawbridgeref07_Inside.f
  rcases placeZ_cases l.length a k with ⟨h1, h2, h3, e⟩ | ⟨h, e⟩
  · have w1 : IntKind.u64.wrap (a - 2147483648) = a - 2147483648 := by rw [IntKind.wrap_u64]; omega
    have w2 : IntKind.u64.wrap (l.length : Int) = l.length := by rw [IntKind.wrap_u64]; omega
    have w3 : IntKind.u64.wrap k = k := by rw [IntKind.wrap_u64]; omega
    have w4 : IntKind.u64.wrap ((l.length : Int) - (a - 2147483648)) = l.length - (a - 2147483648) := by rw [IntKind.wrap_u64]; omega
    rw [e, if_pos (by omega), if_pos (by omega), w1, w2, w3, w4, if_pos (by omega), decide_eq_true (by omega)]
  · rw [e]
    by_cases h2 : k ≥ 0
    · by_cases h1 : a ≥ 2147483648
      · have w1 : IntKind.u64.wrap (a - 2147483648) = a - 2147483648 := by rw [IntKind.wrap_u64]; omega
        have w2 : IntKind.u64.wrap (l.length : Int) = l.length := by rw [IntKind.wrap_u64]; omega
        have w3 : IntKind.u64.wrap k = k := by rw [IntKind.wrap_u64]; omega
        rw [if_pos h2, if_pos h1, w1, w2, w3]
        by_cases h3 : a - 2147483648 ≤ (l.length : Int)
        · have w4 : IntKind.u64.wrap ((l.length : Int) - (a - 2147483648)) = l.length - (a - 2147483648) := by rw [IntKind.wrap_u64]; omega
          rw [if_pos h3, w4, decide_eq_false (by omega)]
        · rw [if_neg h3]
      · rw [if_pos h2, if_neg h1]
    · rw [if_neg h2]
theorem refBytes_is : drawbridgeref07_Bytes.f l a k = some (bytesZ l a k) := by
  unfold drawbridgeref07_Bytes.f bytesZ
  rw [refInside_is l a k ha hk hl, Option.bind_some]
  obtain ⟨a0, a1⟩ := ha
  obtain ⟨k0, k1⟩ := hk
  rcases placeZ_cases l.length a k with ⟨h1, h2, h3, e⟩ | ⟨_, e⟩
  · rw [e]
    have w1 : IntKind.u64.wrap (a - 2147483648) = a - 2147483648 := by rw [IntKind.wrap_u64]; omega
    have w2 : wrap64 (a - 2147483648) = a - 2147483648 := w64 (by omega) (by omega)
    have e1 : wrap64 (a - 2147483648 + k) = a - 2147483648 + k := w64 (by omega) (by omega)
    simp only [if_true, w1, w2, e1, Option.bind_some]
    rw [if_pos (by omega), if_pos (by omega), if_pos (by omega), if_pos (by rw [List.length_drop, List.length_take]; simp; omega)]
    rfl
  · rw [e]; rfl
theorem refRead_is (hb : ∀ z ∈ l, byte z) : drawbridgeref07_Read.f l a k = some (readZ l a k) := by
  have hby := cutL_byte l a k hb
  unfold drawbridgeref07_Read.f readZ
  rw [refBytes_is l a k ha hk hl, Option.bind_some, known_is, Option.bind_some]
  unfold bytesZ
  cases h : (placeZ l.length a k).2
  · simp
  · cases hk : knownZ k
    · simp
    · simp only [if_true, and_self]
      unfold drawbridgeref01_Get.f; rw [if_pos hby]; rfl
end
theorem refFill_is (l : List Int) (a : Int) (b : List Int) (ha : u64B a) (hb : (b.length : Int) ≤ 9223372036854775807) (hl : (l.length : Int) ≤ 70000) : drawbridgeref07_Fill.f l a b = some (fillL l a b, (placeZ l.length a b.length).2) := by
  unfold drawbridgeref07_Fill.f fillL
  rw [refInside_is l a b.length ha ⟨by omega, hb⟩ hl, Option.bind_some]
  obtain ⟨a0, a1⟩ := ha
  rcases placeZ_cases l.length a b.length with ⟨h1, h2, h3, e⟩ | ⟨_, e⟩
  · rw [e]
    have w1 : IntKind.u64.wrap (a - 2147483648) = a - 2147483648 := by rw [IntKind.wrap_u64]; omega
    have w2 : wrap64 (a - 2147483648) = a - 2147483648 := w64 (by omega) (by omega)
    have e1 : wrap64 (a - 2147483648 + b.length) = a - 2147483648 + b.length := w64 (by omega) (by omega)
    simp only [if_true, w1, w2, e1, Option.bind_some]
    rw [if_pos (by omega), if_pos (by omega), if_pos (by simp; omega), if_pos (by simp; omega), if_pos (by omega), if_pos (by omega), if_pos (by simp; omega)]
    unfold splice
    rw [List.nil_append, List.append_assoc, show (a - 2147483648 + (b.length : Int)).toNat = (a - 2147483648).toNat + b.length by omega]
  · rw [e]; rfl
theorem refWrite_is (l : List Int) (a s x : Int) (ha : u64B a) (hs : i64B s) (hl : (l.length : Int) ≤ 70000) : drawbridgeref07_Write.f l a s x = some (writeL l a s x, writeK l a s x) := by
  unfold drawbridgeref07_Write.f writeL writeK
  have hp := putB_small x s false
  rw [if_pos (show -9223372036854775808 ≤ s ∧ s ≤ 9223372036854775807 from hs)]
  cases knownZ s
  · simp
  · simp only [if_true, Bool.true_and]
    exact refFill_is l a _ ha (by omega) hl
theorem fill_is (l : List Int) (a : Int) (b : List Int) (ha : u64B a) (hb : (b.length : Int) ≤ 9223372036854775807) (hl : (l.length : Int) ≤ 70000) : ram_Fill.f l a b = some (fillL l a b, (placeZ l.length a b.length).2) := by
  unfold ram_Fill.f; rw [if_pos ⟨ha, by omega, by omega⟩]
theorem write_is (l : List Int) (a s x : Int) (ha : u64B a) (hl : (l.length : Int) ≤ 70000) : ram_Write.f l a s x = some (writeL l a s x, writeK l a s x) := by
  unfold ram_Write.f; rw [if_pos ⟨ha, by omega⟩]
end Go.Proofs.Ytkkkmkjlchfafaa.Q
