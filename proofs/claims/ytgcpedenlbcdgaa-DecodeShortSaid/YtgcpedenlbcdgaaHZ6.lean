import Derived.Test.YtgcpedenlbcdgaaHQx10
section
/- DecodeShort, plain: what is looked at, for each short instruction. -/
namespace Go.Proofs.Ytgcpedenlbcdgaa.Q
def chk16 (n : Nat) : Bool := match drawbridgeref02_Expand.f 3 (n : Int) with
  | none => false
  | some (w, ok) => !ok || (decide (0 ≤ w) && (decide (w < 4294967296) && (takeK w && (decide (1 ≤ (takeI w).c) && decide ((takeI w).c ≤ 11)))))
def all4 (f : Nat → Bool) : Nat → Nat → Bool
  | 0, i => f i
  | k + 1, i => all4 f k (4 * i) && (all4 f k (4 * i + 1) && (all4 f k (4 * i + 2) && all4 f k (4 * i + 3)))
theorem all4_at {f : Nat → Bool} : ∀ (k i n : Nat), all4 f k i = true → 4 ^ k * i ≤ n → n < 4 ^ k * i + 4 ^ k → f n = true
  | 0, i, n, h, h1, h2 => by
    have : n = i := by omega
    rw [this]; exact h
  | k + 1, i, n, h, h1, h2 => by
    unfold all4 at h
    simp only [Bool.and_eq_true] at h
    obtain ⟨a, b, c, d⟩ := h
    have e : 4 ^ (k + 1) = 4 * 4 ^ k := by rw [Nat.pow_succ, Nat.mul_comm]
    rw [e] at h1 h2
    have e1 : 4 * 4 ^ k * i = 4 ^ k * (4 * i) := by rw [Nat.mul_comm 4 (4 ^ k), Nat.mul_assoc]
    rw [e1] at h1 h2
    have m1 : 4 ^ k * (4 * i + 1) = 4 ^ k * (4 * i) + 4 ^ k := by rw [Nat.mul_add, Nat.mul_one]
    have m2 : 4 ^ k * (4 * i + 2) = 4 ^ k * (4 * i) + 2 * 4 ^ k := by rw [Nat.mul_add, Nat.mul_comm _ 2]
    have m3 : 4 ^ k * (4 * i + 3) = 4 ^ k * (4 * i) + 3 * 4 ^ k := by rw [Nat.mul_add, Nat.mul_comm _ 3]
    by_cases q1 : n < 4 ^ k * (4 * i) + 4 ^ k
    · exact all4_at k _ n a h1 q1
    by_cases q2 : n < 4 ^ k * (4 * i) + 2 * 4 ^ k
    · exact all4_at k _ n b (by omega) (by omega)
    by_cases q3 : n < 4 ^ k * (4 * i) + 3 * 4 ^ k
    · exact all4_at k _ n c (by omega) (by omega)
    · exact all4_at k _ n d (by omega) (by omega)
end Go.Proofs.Ytgcpedenlbcdgaa.Q
end
section
/- DecodeShort, plain: the short instructions from 0 on. -/
namespace Go.Proofs.Ytgcpedenlbcdgaa.Q
theorem sh_0 : all4 chk16 5 0 = true := by decide +kernel
theorem sh_1 : all4 chk16 5 1 = true := by decide +kernel
theorem sh_2 : all4 chk16 5 2 = true := by decide +kernel
theorem sh_3 : all4 chk16 5 3 = true := by decide +kernel
theorem sh_4 : all4 chk16 5 4 = true := by decide +kernel
theorem sh_5 : all4 chk16 5 5 = true := by decide +kernel
theorem sh_6 : all4 chk16 5 6 = true := by decide +kernel
theorem sh_7 : all4 chk16 5 7 = true := by decide +kernel
theorem sh_8 : all4 chk16 5 8 = true := by decide +kernel
theorem sh_9 : all4 chk16 5 9 = true := by decide +kernel
theorem sh_10 : all4 chk16 5 10 = true := by decide +kernel
theorem sh_11 : all4 chk16 5 11 = true := by decide +kernel
theorem sh_12 : all4 chk16 5 12 = true := by decide +kernel
theorem sh_13 : all4 chk16 5 13 = true := by decide +kernel
theorem sh_14 : all4 chk16 5 14 = true := by decide +kernel
theorem sh_15 : all4 chk16 5 15 = true := by decide +kernel
end Go.Proofs.Ytgcpedenlbcdgaa.Q
end
section
/- DecodeShort, plain: the short instructions from 16384 on. -/
namespace Go.Proofs.Ytgcpedenlbcdgaa.Q
theorem sh_16 : all4 chk16 5 16 = true := by decide +kernel
theorem sh_17 : all4 chk16 5 17 = true := by decide +kernel
theorem sh_18 : all4 chk16 5 18 = true := by decide +kernel
theorem sh_19 : all4 chk16 5 19 = true := by decide +kernel
theorem sh_20 : all4 chk16 5 20 = true := by decide +kernel
theorem sh_21 : all4 chk16 5 21 = true := by decide +kernel
theorem sh_22 : all4 chk16 5 22 = true := by decide +kernel
theorem sh_23 : all4 chk16 5 23 = true := by decide +kernel
theorem sh_24 : all4 chk16 5 24 = true := by decide +kernel
theorem sh_25 : all4 chk16 5 25 = true := by decide +kernel
theorem sh_26 : all4 chk16 5 26 = true := by decide +kernel
theorem sh_27 : all4 chk16 5 27 = true := by decide +kernel
theorem sh_28 : all4 chk16 5 28 = true := by decide +kernel
theorem sh_29 : all4 chk16 5 29 = true := by decide +kernel
theorem sh_30 : all4 chk16 5 30 = true := by decide +kernel
theorem sh_31 : all4 chk16 5 31 = true := by decide +kernel
end Go.Proofs.Ytgcpedenlbcdgaa.Q
end
section
/- DecodeShort, plain: the short instructions from 32768 on. -/
namespace Go.Proofs.Ytgcpedenlbcdgaa.Q
theorem sh_32 : all4 chk16 5 32 = true := by decide +kernel
theorem sh_33 : all4 chk16 5 33 = true := by decide +kernel
theorem sh_34 : all4 chk16 5 34 = true := by decide +kernel
theorem sh_35 : all4 chk16 5 35 = true := by decide +kernel
theorem sh_36 : all4 chk16 5 36 = true := by decide +kernel
theorem sh_37 : all4 chk16 5 37 = true := by decide +kernel
theorem sh_38 : all4 chk16 5 38 = true := by decide +kernel
theorem sh_39 : all4 chk16 5 39 = true := by decide +kernel
theorem sh_40 : all4 chk16 5 40 = true := by decide +kernel
theorem sh_41 : all4 chk16 5 41 = true := by decide +kernel
theorem sh_42 : all4 chk16 5 42 = true := by decide +kernel
theorem sh_43 : all4 chk16 5 43 = true := by decide +kernel
theorem sh_44 : all4 chk16 5 44 = true := by decide +kernel
theorem sh_45 : all4 chk16 5 45 = true := by decide +kernel
theorem sh_46 : all4 chk16 5 46 = true := by decide +kernel
theorem sh_47 : all4 chk16 5 47 = true := by decide +kernel
end Go.Proofs.Ytgcpedenlbcdgaa.Q
end
section
/- DecodeShort, plain: the short instructions from 49152 on. -/
namespace Go.Proofs.Ytgcpedenlbcdgaa.Q
theorem sh_48 : all4 chk16 5 48 = true := by decide +kernel
theorem sh_49 : all4 chk16 5 49 = true := by decide +kernel
theorem sh_50 : all4 chk16 5 50 = true := by decide +kernel
theorem sh_51 : all4 chk16 5 51 = true := by decide +kernel
theorem sh_52 : all4 chk16 5 52 = true := by decide +kernel
theorem sh_53 : all4 chk16 5 53 = true := by decide +kernel
theorem sh_54 : all4 chk16 5 54 = true := by decide +kernel
theorem sh_55 : all4 chk16 5 55 = true := by decide +kernel
theorem sh_56 : all4 chk16 5 56 = true := by decide +kernel
theorem sh_57 : all4 chk16 5 57 = true := by decide +kernel
theorem sh_58 : all4 chk16 5 58 = true := by decide +kernel
theorem sh_59 : all4 chk16 5 59 = true := by decide +kernel
theorem sh_60 : all4 chk16 5 60 = true := by decide +kernel
theorem sh_61 : all4 chk16 5 61 = true := by decide +kernel
theorem sh_62 : all4 chk16 5 62 = true := by decide +kernel
theorem sh_63 : all4 chk16 5 63 = true := by decide +kernel
end Go.Proofs.Ytgcpedenlbcdgaa.Q
end
