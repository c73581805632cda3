/- UartOrder: what is typed is loaded in order, up to sixteen, and all others are counted; for every row of bytes. No condition beyond the statement's own. -/
import Derived.Test.YtpbfoocfjcimmaaQx4
namespace Go.Proofs.Ytpbfoocfjcimmaa.Pure
open Go.RowKit Go.Proofs.Ytpbfoocfjcimmaa.Q Go.Proofs.YtpbfoocfjcimmaaW.PrintWords Go.Proofs.YtpbfoocfjcimmaaW.PrintLast Go.Proofs.YtpbfoocfjcimmaaW.PrintMore Go.Proofs.Ytpbfoocfjcimmaa.L
set_option linter.unusedVariables false
theorem type_nil (l : List Int) (hl : l.length ≤ 1000) : uart_Type.f [] [] 0 0 l = some (l.take (min l.length 16), [], 0, (l.length : Int) - (min l.length 16 : Nat)) := by
  unfold uart_Type.f
  have h16 : wrap64 (16 - (([] : List Int).length : Int)) = 16 := by unfold wrap64; simp
  have hmn : mn (l.length : Int) 16 = ((min l.length 16 : Nat) : Int) := by unfold mn; split <;> omega
  have hmx : mx 0 ((min l.length 16 : Nat) : Int) = ((min l.length 16 : Nat) : Int) := by unfold mx; split <;> omega
  rw [h16, hmn, hmx, show slices_Clone_byte_byte.f [] = some [] from rfl, Option.bind_some, if_pos (by omega), if_pos (by omega), if_pos (by simp; omega), Option.bind_some, if_pos (by decide), Int.toNat_natCast, List.nil_append]
  have e1 : wrap64 ((l.length : Int) - (min l.length 16 : Nat)) = (l.length : Int) - (min l.length 16 : Nat) := by unfold wrap64; omega
  rw [e1, Int.zero_add, e1]
  have e2 : mn 2147483648 ((l.length : Int) - (min l.length 16 : Nat)) = (l.length : Int) - (min l.length 16 : Nat) := by unfold mn; split <;> omega
  rw [e2]
theorem same11 (a b : List Int) (c d : Int) : drawbridgeref11_Same.f a b c d a b c d = some true := by
  unfold drawbridgeref11_Same.f
  rw [if_pos rfl, if_pos rfl, if_pos rfl, beq_self_eq_true]
theorem order_loop (l : List Int) (n : Nat) (z : Int) (hl : l.length ≤ 1000) (hn : n ≤ l.length) (hz : z = wrap64 ((l.length : Int) - n)) (d : Nat) : ∀ (k i : Nat), i ≤ n → n - i = d → d < k →
    drawbridgelaw11_UartOrder.l0 k l n i ((l.take n).drop i) [] 0 z = some true := by
  induction d with
  | zero =>
    intro k i h1 h2 h3
    obtain ⟨k, rfl⟩ : ∃ m, k = m + 1 := ⟨k - 1, by omega⟩
    have hi : i = n := by omega
    subst hi
    have he : (l.take i).drop i = [] := by rw [List.drop_eq_nil_iff, List.length_take]; omega
    rw [drawbridgelaw11_UartOrder.l0, if_neg (by omega), he]
    have : uart_Load.f [] [] 0 z 0 1 = some (0, [], [], 0, z, true) := by
      unfold uart_Load.f; simp [u64B]
    rw [this, Option.bind_some, if_pos (by rfl), if_pos hz, same11]
    rfl
  | succ d ih =>
    intro k i h1 h2 h3
    obtain ⟨k, rfl⟩ : ∃ m, k = m + 1 := ⟨k - 1, by omega⟩
    have hlen : ((l.take n).drop i).length = n - i := by rw [List.length_drop, List.length_take]; omega
    have hload : uart_Load.f ((l.take n).drop i) [] 0 z 0 1 = some (IntKind.u64.wrap (l.getD i 0), (l.take n).drop (i + 1), [], 0, z, true) := by
      unfold uart_Load.f
      rw [if_pos ⟨by omega, by decide, by decide⟩, if_pos ⟨rfl, by decide⟩, if_pos rfl, if_pos (by omega)]
      have e1 : ((l.take n).drop i).getD 0 0 = l.getD i 0 := by
        rw [List.getD_eq_getElem?_getD, List.getD_eq_getElem?_getD, List.getElem?_drop, Nat.add_zero, List.getElem?_take_of_lt (by omega)]
      have e2 : ((l.take n).drop i).drop 1 = (l.take n).drop (i + 1) := by rw [List.drop_drop]
      rw [e1, e2]
    rw [drawbridgelaw11_UartOrder.l0, if_pos (by omega), hload, Option.bind_some]
    simp only [if_true]
    rw [if_pos (by omega), if_pos (by omega), if_pos (by unfold rd; rw [Int.toNat_natCast])]
    have ei : wrap64 ((i : Int) + 1) = ((i + 1 : Nat) : Int) := by unfold wrap64; omega
    rw [ei]
    exact ih k (i + 1) (by omega) (by omega) (by omega)
theorem UartOrder : drawbridgelaw11_UartOrder.Pure := by
  intro l hl _ _
  refine ⟨1002, ?_⟩
  unfold drawbridgelaw11_UartOrder.f
  by_cases h : (l.length : Int) > 1000
  · rw [if_pos h]; rfl
  · have hL : l.length ≤ 1000 := by omega
    rw [if_neg h, type_nil l hL, Option.bind_some]
    have hmn : mn (l.length : Int) 16 = ((min l.length 16 : Nat) : Int) := by unfold mn; split <;> omega
    rw [hmn]
    exact order_loop l (min l.length 16) ((l.length : Int) - (min l.length 16 : Nat)) hL (by omega) (by unfold wrap64; omega) (min l.length 16) 1002 0 (by omega) (by omega) (by omega)
end Go.Proofs.Ytpbfoocfjcimmaa.Pure
