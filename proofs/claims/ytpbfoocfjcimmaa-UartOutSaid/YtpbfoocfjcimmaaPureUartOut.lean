/- UartOut: what is stored goes out in order; for every line and every bytes. No condition beyond the statement's own. -/
import Derived.Test.YtpbfoocfjcimmaaSaidUartOut
import Derived.Test.YtpbfoocfjcimmaaPwf
set_option linter.unusedVariables false
set_option linter.unusedSimpArgs false
namespace Go.Proofs.Ytpbfoocfjcimmaa.Pure
open Go.RowKit Go.Proofs.Ytpbfoocfjcimmaa.Q Go.Proofs.YtpbfoocfjcimmaaW.PrintWords Go.Proofs.YtpbfoocfjcimmaaW.PrintLast Go.Proofs.YtpbfoocfjcimmaaW.PrintMore Go.Proofs.Ytpbfoocfjcimmaa.L
theorem take_next (l : List Int) (n : Nat) (h : n < l.length) : l.take (n + 1) = l.take n ++ [rd l (n : Int)] := by
  unfold rd
  rw [Int.toNat_natCast, List.take_add_one, List.getElem?_eq_getElem h, List.getD_eq_getElem?_getD, List.getElem?_eq_getElem h]; rfl
theorem rd_byte (l : List Int) (n : Nat) (h : n < l.length) (hb : ∀ z ∈ l, 0 ≤ z ∧ z < 256) : 0 ≤ rd l (n : Int) ∧ rd l (n : Int) < 256 := by
  unfold rd
  rw [Int.toNat_natCast, List.getD_eq_getElem?_getD, List.getElem?_eq_getElem h]
  exact hb _ (List.getElem_mem h)
theorem out_loop (i o : List Int) (ie lost : Int) (l : List Int) (hb : ∀ z ∈ l, 0 ≤ z ∧ z < 256) (hl : l.length ≤ 300) (ho : o.length ≤ 3000) (d : Nat) :
    ∀ (k n : Nat), n ≤ l.length → l.length - n = d → d < k → drawbridgelaw11_UartOut.l0 k l n i o ie lost i (o ++ l.take n) ie lost = some true := by
  induction d with
  | zero =>
    intro k n h1 h2 h3
    obtain ⟨k, rfl⟩ : ∃ m, k = m + 1 := ⟨k - 1, by omega⟩
    rw [drawbridgelaw11_UartOut.l0, if_neg (by omega), Option.bind_some, if_pos (by simp; omega), Option.bind_some, List.nil_append, if_pos (by omega), List.take_of_length_le (by omega), same_self, Option.bind_some, if_pos rfl, same_self, Option.bind_some, if_pos rfl]
    rfl
  | succ d ih =>
    intro k n h1 h2 h3
    obtain ⟨k, rfl⟩ : ∃ m, k = m + 1 := ⟨k - 1, by omega⟩
    obtain ⟨b0, b1⟩ := rd_byte l n (by omega) hb
    have ex : IntKind.u64.wrap (rd l (n : Int)) % 256 = rd l (n : Int) := by rw [IntKind.wrap_u64]; omega
    have en : wrap64 ((n : Int) + 1) = ((n + 1 : Nat) : Int) := by rw [w64 (by omega) (by omega)]; omega
    have hlen : (o ++ l.take n).length < 4096 := by rw [List.length_append, List.length_take]; omega
    rw [drawbridgelaw11_UartOut.l0, if_pos (by omega), if_pos (by omega), en]
    unfold uart_Store.f
    rw [if_pos (show u64B 0 from ⟨by decide, by decide⟩), if_pos ⟨rfl, by decide⟩, if_pos ⟨rfl, hlen⟩, Option.bind_some, if_pos rfl, ex]
    have := ih k (n + 1) (by omega) (by omega) (by omega)
    rw [take_next l n (by omega), ← List.append_assoc] at this
    exact this
theorem UartOut : UartOut.Said := by
  intro i o ie lost l hi hib ho hob hie hlo hl hlb
  have hB : ∀ z ∈ l, 0 ≤ z ∧ z < 256 := fun z hz => wfu8 (hlb z hz)
  refine ⟨400, ?_⟩
  unfold drawbridgelaw11_UartOut.f
  have heads : ∀ x, x = true → drawbridgelaw11_UartOut.j0 400 l x i o ie lost = some true := fun x hx => by
    rw [hx, drawbridgelaw11_UartOut.j0, if_pos rfl]; rfl
  by_cases h1 : (l.length : Int) > 300
  · rw [if_pos h1]; exact heads _ rfl
  rw [if_neg h1]
  by_cases h2 : (o.length : Int) > 3000
  · rw [if_pos h2]; exact heads _ rfl
  rw [if_neg h2]
  by_cases h3 : (i.length : Int) > 3000
  · exact heads _ (decide_eq_true h3)
  rw [decide_eq_false h3, drawbridgelaw11_UartOut.j0, if_neg (by decide)]
  have := out_loop i o ie lost l hB (by omega) (by omega) l.length 399 0 (by omega) (by omega) (by omega)
  rw [List.take_zero, List.append_nil] at this
  exact this
end Go.Proofs.Ytpbfoocfjcimmaa.Pure
