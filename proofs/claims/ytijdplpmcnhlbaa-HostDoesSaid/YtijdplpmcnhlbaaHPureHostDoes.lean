import Derived.Test.YtijdplpmcnhlbaaHSaidHostDoes
/- HostDoes, in plain numbers and lists. No condition beyond the statement's own. -/
namespace Go.Proofs.Ytijdplpmcnhlbaa.Pure
open Go.RowKit Go.Proofs.Ytijdplpmcnhlbaa.Q Go.Proofs.Ytijdplpmcnhlbaa.L
theorem HostDoes : HostDoes.Said := by
  intro l0 a1_0 a1_1 l1_2 a1_3 a2 a3 _ _ _ _ _ _ _ _ _
  rfl
end Go.Proofs.Ytijdplpmcnhlbaa.Pure
