/- The registers as one letter: their cells, their reading, their writing, in plain numbers. -/
import Derived.Test.YtncdhfigfbhohaaCof
namespace Go.Proofs.Ytncdhfigfbhohaa.Q
open Go.RowKit Go.Proofs.Ytncdhfigfbhohaa.L
set_option linter.unusedVariables false
def C17 (c : Nat → Int) : Array Value := #[.int .u64 (c 0), .int .u64 (c 1), .int .u64 (c 2), .int .u64 (c 3), .int .u64 (c 4), .int .u64 (c 5), .int .u64 (c 6), .int .u64 (c 7), .int .u64 (c 8), .int .u64 (c 9), .int .u64 (c 10), .int .u64 (c 11), .int .u64 (c 12), .int .u64 (c 13), .int .u64 (c 14), .int .u64 (c 15), .int .u64 (c 16)]
theorem C17_size (c : Nat → Int) : (C17 c).size = 17 := rfl
theorem C17_one (c : Nat → Int) : (C17 c).all (·.oneCell') = true := by unfold C17; simp [Value.oneCell']
theorem C17_info (c : Nat → Int) (t : TypeId) (h : (Try.prog.info? t).map (·.size) = some 17) : (Try.prog.info? t).map (·.size) = some (C17 c).size := h
theorem C17_at (c : Nat → Int) : ∀ i, i < 17 → (C17 c)[i]? = some (.int .u64 (c i))
  | 0, _ => rfl | 1, _ => rfl | 2, _ => rfl | 3, _ => rfl | 4, _ => rfl | 5, _ => rfl | 6, _ => rfl | 7, _ => rfl | 8, _ => rfl | 9, _ => rfl | 10, _ => rfl | 11, _ => rfl | 12, _ => rfl | 13, _ => rfl | 14, _ => rfl | 15, _ => rfl | 16, _ => rfl
  | n + 17, h => absurd h (by omega)
def upd (c : Nat → Int) (i : Nat) (v : Int) : Nat → Int := fun j => if j = i then v else c j
theorem upd_same (c : Nat → Int) (i : Nat) (v : Int) : upd c i v i = v := by unfold upd; rw [if_pos rfl]
theorem upd_twice (c : Nat → Int) (i : Nat) (u v : Int) : upd (upd c i u) i v = upd c i v := by funext j; unfold upd; split <;> rfl
theorem C17_set (c : Nat → Int) (v : Int) : ∀ i, i < 17 → (C17 c).setIfInBounds i (.int .u64 v) = C17 (upd c i v)
  | 0, _ => rfl | 1, _ => rfl | 2, _ => rfl | 3, _ => rfl | 4, _ => rfl | 5, _ => rfl | 6, _ => rfl | 7, _ => rfl | 8, _ => rfl | 9, _ => rfl | 10, _ => rfl | 11, _ => rfl | 12, _ => rfl | 13, _ => rfl | 14, _ => rfl | 15, _ => rfl | 16, _ => rfl
  | n + 17, h => absurd h (by omega)
theorem ite_lt {q : Bool} {a k : Option Nat} (ha : ∀ i, a = some i → i < 17) (hk : ∀ i, k = some i → i < 17) : ∀ i, (if q then a else k) = some i → i < 17 := by
  intro i h
  cases q
  · exact hk i h
  · exact ha i h
theorem ofI_lt {n : Int} {i : Nat} (h : ofI n = some i) : i < 17 := by
  have : ∀ i, ofI n = some i → i < 17 := by
    unfold ofI
    repeat (refine ite_lt (fun j hj => by obtain rfl := Option.some.inj hj; omega) ?_)
    intro i h
    cases h
  exact this i h
def seenZ (c : Nat → Int) (n : Int) : Option Int :=
  if n == 768 then some (Go.bits .or .u64 (Go.bits .andNot .u64 (c 0) 64424509440) 42949672960) else
  if n == 256 then some (Go.bits .or .u64 (Go.bits .and .u64 (c 0) 786722) 8589934592) else
  if n == 260 then some (Go.bits .and .u64 (c 3) (c 2)) else
  if n == 324 then some (Go.bits .and .u64 (c 4) (c 2)) else
  if n == 769 then some 9223372036856090885 else
  if n == 3857 then some 0 else if n == 3858 then some 0 else if n == 3859 then some 0 else if n == 3860 then some 0 else
  (ofI n).map c
def refuses (c : Nat → Int) (n p : Int) : Bool := p < (Go.bits .and .i64 (n / 256) 3) || (n == 384 && (p == 1 && (Go.bits .and .u64 (c 0) 1048576 > 0)))
def readZ (c : Nat → Int) (n p : Int) : Option Int := if refuses c n p then none else seenZ c n
end Go.Proofs.Ytncdhfigfbhohaa.Q
