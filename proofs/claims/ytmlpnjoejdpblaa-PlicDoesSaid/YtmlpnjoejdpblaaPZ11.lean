import Derived.Test.YtmlpnjoejdpblaaPXYR
import Derived.Test.YtmlpnjoejdpblaaPZ2
section
/- PlicDoes, as its row has it. -/
namespace Go.Proofs.Ytmlpnjoejdpblaa.Q
open Go.RowKit Go.Proofs.YtmlpnjoejdpblaaW.PrintWords Go.Proofs.YtmlpnjoejdpblaaW.PrintLast Go.Proofs.YtmlpnjoejdpblaaW.PrintMore Go.Proofs.Ytmlpnjoejdpblaa.L
set_option linter.unusedVariables false
def doesOk (l0 : List Int) (x y : Int) (l3 l4 : List Int) (a4 : Int) : Prop := (l0.length * 8 ≤ 140737488351232 ∧ l3.length * 8 ≤ 140737488351232 ∧ l4.length * 8 ≤ 140737488351232) ∧ (-9223372036854775808 ≤ x ∧ x ≤ 9223372036854775807) ∧ (-9223372036854775808 ≤ y ∧ y ≤ 9223372036854775807) ∧ (∀ z ∈ l3, -9223372036854775808 ≤ z ∧ z ≤ 9223372036854775807) ∧ (0 ≤ a4 ∧ a4 < 18446744073709551616)
instance (l0 : List Int) (x y : Int) (l3 l4 : List Int) (a4 : Int) : Decidable (doesOk l0 x y l3 l4 a4) := by unfold doesOk; exact inferInstance
def drawbridgelaw10_PlicDoes.f (l0_0 : List Int) (a0_1 : Int) (a0_2 : Int) (l0_3 : List Int) (l0_4 : List Int) (a1 : Int) (a2 : Int) (a3 : Int) (a4 : Int) : Option Bool := if doesOk l0_0 a0_1 a0_2 l0_3 l0_4 a4 then some true else none
theorem drawbridgelaw10_PlicDoes.calls (A0_0 : Option Addr) (c0_0 : Nat) (l0_0 : List Int) (a0_1 : Int) (a0_2 : Int) (A0_3 : Option Addr) (c0_3 : Nat) (l0_3 : List Int) (A0_4 : Option Addr) (c0_4 : Nat) (l0_4 : List Int) (a1 : Int) (a2 : Int) (a3 : Int) (a4 : Int) (r : Bool) (w : World) (hr0_0 : Kd.C (Kd.int .i64) w A0_0 l0_0.length l0_0) (hc0_0 : l0_0.length ≤ c0_0) (hr0_3 : Kd.C (Kd.int .i64) w A0_3 l0_3.length l0_3) (hc0_3 : l0_3.length ≤ c0_3) (hr0_4 : Kd.C (Kd.int .i64) w A0_4 l0_4.length l0_4) (hc0_4 : l0_4.length ≤ c0_4) (h : drawbridgelaw10_PlicDoes.f l0_0 a0_1 a0_2 l0_3 l0_4 a1 a2 a3 a4 = some r) :
    Calls Try.prog 4 #[.agg #[.slice A0_0 l0_0.length c0_0, .int .i64 a0_1, .int .i64 a0_2, .slice A0_3 l0_3.length c0_3, .slice A0_4 l0_4.length c0_4], .int .i64 a1, .int .u64 a2, .int .i64 a3, .int .u64 a4] w fun e w' => e = .returned (.bool r) ∧ Below w.heap.size w w' := by
  unfold drawbridgelaw10_PlicDoes.f at h
  split at h
  case isFalse => cases h
  case isTrue hh =>
  injection h with h; subst h
  obtain ⟨⟨q0, q3, q4⟩, hx, hy, h3, h4⟩ := hh
  exact does_runs ⟨l0_0, a0_1, a0_2, l0_3, l0_4⟩ ⟨.slice A0_0 l0_0.length c0_0, .slice A0_3 l0_3.length c0_3, .slice A0_4 l0_4.length c0_4⟩ a1 a2 a3 a4 w ⟨SL.of_C hr0_0 hc0_0, SL.of_C hr0_3 hc0_3, SL.of_C hr0_4 hc0_4⟩ ⟨hx, hy, h3⟩ h4 q0 q3 q4
end Go.Proofs.Ytmlpnjoejdpblaa.Q
end
section
namespace Go.Proofs.Ytmlpnjoejdpblaa.Pure
open Go.RowKit Go.Proofs.Ytmlpnjoejdpblaa.Q Go.Proofs.YtmlpnjoejdpblaaW.PrintWords Go.Proofs.YtmlpnjoejdpblaaW.PrintLast Go.Proofs.YtmlpnjoejdpblaaW.PrintMore Go.Proofs.Ytmlpnjoejdpblaa.L
/-- The pure statement of PlicDoes: numbers and lists alone. -/
def PlicDoes.Said : Prop := ∀ (l0_0 : List Int) (a0_1 : Int) (a0_2 : Int) (l0_3 : List Int) (l0_4 : List Int) (a1 : Int) (a2 : Int) (a3 : Int) (a4 : Int), l0_0.length * 8 ≤ 140737488351232 → (∀ z ∈ l0_0, (Lit.int .i64 z).wf = true) → (Lit.int .i64 a0_1).wf = true → (Lit.int .i64 a0_2).wf = true → l0_3.length * 8 ≤ 140737488351232 → (∀ z ∈ l0_3, (Lit.int .i64 z).wf = true) → l0_4.length * 8 ≤ 140737488351232 → (∀ z ∈ l0_4, (Lit.int .i64 z).wf = true) → (Lit.int .i64 a1).wf = true → (Lit.int .u64 a2).wf = true → (Lit.int .i64 a3).wf = true → (Lit.int .u64 a4).wf = true → drawbridgelaw10_PlicDoes.f l0_0 a0_1 a0_2 l0_3 l0_4 a1 a2 a3 a4 = some true
end Go.Proofs.Ytmlpnjoejdpblaa.Pure
end
section
/- PlicDoes, plain part: what is asked of the inputs is what every Go value is. -/
namespace Go.Proofs.Ytmlpnjoejdpblaa.Pure
open Go.RowKit Go.Proofs.Ytmlpnjoejdpblaa.Q Go.Proofs.YtmlpnjoejdpblaaW.PrintWords Go.Proofs.YtmlpnjoejdpblaaW.PrintLast Go.Proofs.YtmlpnjoejdpblaaW.PrintMore Go.Proofs.Ytmlpnjoejdpblaa.L
set_option linter.unusedVariables false
theorem u64_wf2 {z : Int} (h : (Lit.int .u64 z).wf = true) : 0 ≤ z ∧ z < 18446744073709551616 := by
  simp only [Lit.wf, Bool.and_eq_true, decide_eq_true_eq] at h
  have h1 : IntKind.u64.min = 0 := rfl
  have h2 : IntKind.u64.max = 18446744073709551615 := rfl
  exact ⟨by omega, by omega⟩
theorem PlicDoes : PlicDoes.Said := by
  intro l0 a1 a2 l3 l4 b1 b2 b3 b4 q0 e0 x y q3 e3 q4 e4 _ _ _ h4
  exact if_pos ⟨⟨q0, q3, q4⟩, wf_R x, wf_R y, fun z hz => wf_R (e3 z hz), u64_wf2 h4⟩
end Go.Proofs.Ytmlpnjoejdpblaa.Pure
end
