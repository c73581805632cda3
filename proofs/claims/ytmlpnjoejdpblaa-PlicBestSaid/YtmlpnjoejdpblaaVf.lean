/- The print's word for a row that is shared, read as a row with its footprint. -/
import Derived.Test.YtmlpnjoejdpblaaFs
import Derived.Test.YtmlpnjoejdpblaaWMore
namespace Go.Proofs.Ytmlpnjoejdpblaa.Q
open Go.RowKit Go.Proofs.YtmlpnjoejdpblaaW.PrintWords Go.Proofs.YtmlpnjoejdpblaaW.PrintLast Go.Proofs.YtmlpnjoejdpblaaW.PrintMore Go.Proofs.Ytmlpnjoejdpblaa.L
theorem V_F {α : Type} {d : Kd α} {W : World} {base e n c : Nat} {ok : Nat → Prop} {A : Option Addr} {xs : List α} (h : Kd.V d e W base ok (.slice A n c) xs) : n = xs.length ∧ xs.length ≤ c ∧ Kd.F d W ok A xs.length xs := by
  obtain ⟨A', c', ev, hc, hF⟩ := h
  injection ev with e1 e2 e3
  subst e1; subst e2; subst e3
  exact ⟨rfl, hc, hF⟩
end Go.Proofs.Ytmlpnjoejdpblaa.Q
