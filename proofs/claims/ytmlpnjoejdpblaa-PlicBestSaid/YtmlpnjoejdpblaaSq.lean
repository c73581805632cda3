/- What is kept from world to world, in short words: the road is found by the tactic that stands here once. -/
import Derived.Test.YtmlpnjoejdpblaaFs
import Derived.Test.YtmlpnjoejdpblaaKt
import Derived.Test.YtmlpnjoejdpblaaWMore
import Derived.Test.YtmlpnjoejdpblaaWLast
namespace Go.Proofs.Ytmlpnjoejdpblaa.L
open Go.RowKit Go.Proofs.YtmlpnjoejdpblaaW.PrintWords Go.Proofs.YtmlpnjoejdpblaaW.PrintLast Go.Proofs.YtmlpnjoejdpblaaW.PrintMore
theorem fG {P Q : Prop} (r : Aside0 P) (go : P → Q := by (intro h_; (repeat (with_reducible first | exact h_ | apply Kd.F_drew | apply Kd.F_drewN | apply Kd.F_alloc | refine Kd.F_far ?_ ?_ _)); all_goals (intro j_ hj_; (try dsimp only at hj_); (try dsimp only); (try simp only [sz_alloc, sz_drew, sz_drewN, sz_set] at hj_); omega))) : Q := go r.out
theorem bG {P Q : Prop} (r : Aside0 P) (go : P → Q := by (intro h_; repeat (first | (with_reducible first | exact h_ | exact Below.refl _ _ | apply below_alloc | apply pw_below_drewN | apply below_drew | refine below_set ?_ (by omega)) | exact h_))) : Q := go r.out
theorem eG {P Q : Prop} (r : Aside0 P) (go : P → Q := by (intro h_; repeat (with_reducible first | exact h_ | apply ext_drew | apply ext_drewN | apply ext_alloc | refine blk_far ?_ (by show _ ≠ _; dsimp only; omega) _))) : Q := go r.out
end Go.Proofs.Ytmlpnjoejdpblaa.L
