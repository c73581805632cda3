/- trap.Enter, trap.Mret, trap.Sret, as those who call them have it. -/
import Derived.Test.YtnlmndpdalgppaaQx2
import Derived.Test.YtnlmndpdalgppaaKt
import Derived.Test.YtnlmndpdalgppaaFs
import Derived.RegionTactic
import Derived.BigRegion
namespace Go.Proofs.Ytnlmndpdalgppaa.Q
open Go.RowKit Go.Proofs.YtnlmndpdalgppaaW.PrintWords Go.Proofs.YtnlmndpdalgppaaW.PrintLast Go.Proofs.YtnlmndpdalgppaaW.PrintMore Go.Proofs.Ytnlmndpdalgppaa.L
attribute [local go_sem] Instr.field part asAgg lt_step max2_int min2_int max_two min_two max_three min_three max_four min_four lt_0_1 lt_0_2 lt_1_2 lt_0_3 lt_1_3 lt_2_3 lt_0_4 lt_1_4 lt_2_4 lt_3_4 lt_0_5 lt_1_5 lt_2_5 lt_3_5 lt_4_5 lt_0_6 lt_1_6 lt_2_6 lt_3_6 lt_4_6 lt_5_6 lt_0_7 lt_1_7 lt_2_7 lt_3_7 lt_4_7 lt_5_7 lt_6_7 lt_0_8 lt_1_8 lt_2_8 lt_3_8 lt_4_8 lt_5_8 lt_6_8 lt_7_8
set_option linter.unusedVariables false
set_option linter.unusedSimpArgs false
def setZ (x : Int) (n : Nat) (b : Int) : Int := Go.bits .or .u64 (Go.bits .andNot .u64 x (IntKind.u64.wrap (2 ^ min n 64))) (IntKind.u64.wrap (Go.bits .and .u64 b 1 * 2 ^ min n 64))
theorem put_keep {W W' base : World} {i g : Nat} {o : Obj} (h : base.heap[i]? = some o) (hk : ∀ i, i ≠ g → W'.heap[i]? = W.heap[i]?) (he : base.heap[i]? = some o → W.heap[i]? = some o) (hi : i ≠ g) : W'.heap[i]? = some o := (hk i hi).trans (he h)
set_option maxHeartbeats 1600000 in
set_option maxRecDepth 100000 in
theorem set_walk (n : Nat) (b x : Int) (g gp : Nat) (cs : Array Value) (t : TypeId) (w : World) (hp : w.heap[gp]? = some (.cells #[.pointer (some ⟨g, 0, none⟩)] 42 (0, 0))) (hx : w.heap[g]? = some (.cells cs t (0, 0))) (h0 : cs[0]? = some (.int .u64 x)) :
    Calls Try.prog 27 #[.int .i64 n, .int .u64 b, .pointer (some ⟨gp, 0, none⟩)] w fun e w' => e = .returned (.tuple #[]) ∧ w' = (w.setCell ⟨g, 0, none⟩ (.int .u64 (setZ x n b))).drew := by
  obtain ⟨oac, oaf, oal⟩ := cells_of hp
  obtain ⟨obc, obf, obl⟩ := cells_of hx
  have hc0 := obc 0
  rw [h0] at hc0
  have hn0 : (0 : Int) ≤ (n : Int) := by omega
  go_enter Try.func27, Try.ntmps27
  (go_wp2; (first | go_region | skip); (all_goals go_wp2))
  all_goals (simp [bodyPost, results, go_sem]; rfl)
theorem set_runs (z : Int) (n : Nat) (hz : z = n) (b x : Int) (g gp : Nat) (cs cs' : Array Value) (t : TypeId) (w : World) (hp : w.heap[gp]? = some (.cells #[.pointer (some ⟨g, 0, none⟩)] 42 (0, 0))) (hx : w.heap[g]? = some (.cells cs t (0, 0))) (h0 : cs[0]? = some (.int .u64 x)) (h1 : cs.setIfInBounds 0 (.int .u64 (setZ x n b)) = cs') :
    Calls Try.prog 27 #[.int .i64 z, .int .u64 b, .pointer (some ⟨gp, 0, none⟩)] w fun e w' => e = .returned (.tuple #[]) ∧ w'.heap[g]? = some (.cells cs' t (0, 0)) ∧ (∀ i, i ≠ g → w'.heap[i]? = w.heap[i]?) ∧ Below g w w' ∧ w'.heap.size = w.heap.size := by
  subst hz
  refine (set_walk n b x g gp cs t w hp hx h0).mono ?_
  rintro e w' ⟨rfl, rfl⟩
  exact ⟨rfl, blk_put hx 0 _ h1, fun i hi => Below.heap_setCell w ⟨g, 0, none⟩ _ i hi, (Below.setCell (Below.refl g w) (p := ⟨g, 0, none⟩) (Nat.le_refl _) _).drew, by simp⟩
theorem setter_runs (p : Option Addr) (w : World) :
    Calls Try.prog 20 #[.pointer p] w fun e w' => ∃ gp, e = .returned (.func (.func 27) #[] #[.pointer (some ⟨gp, 0, none⟩)]) ∧ w'.heap[gp]? = some (.cells #[.pointer p] 42 (0, 0)) ∧ w.heap.size ≤ gp ∧ Below w.heap.size w w' := by
  have hmf : ∀ (fn : Fn) (first cap : Array Value) (w : World), (Instr.makeFunc fn first cap).run Try.prog w = .ok (.func fn first cap) w := fun _ _ _ _ => rfl
  go_enter Try.func20, Try.ntmps20
  go_wp2
  refine bodyPost_ret (v := .func (.func 27) #[] #[.pointer (some ⟨w.heap.size, 0, none⟩)]) (by simp [results, Try.results20, go_sem] <;> first | assumption | omega | (symm; assumption)) rfl ?_
  exact ⟨_, rfl, nb_1 _ _, Nat.le_refl _, Below.alloc (Below.refl _ _) (Nat.le_refl _) _⟩
def bitZ (x n : Int) : Int := Go.bits .and .u64 (shr .u64 x n) 1
theorem bit_c (x n : Int) (w : World) (hn : 0 ≤ n := by decide) : Calls Try.prog 18 #[.int .u64 x, .int .i64 n] w fun e w' => e = .returned (.int .u64 (bitZ x n)) ∧ Drawn0 w w' :=
  trap_bit.calls x n _ w (by unfold trap_bit.f; rw [if_pos hn]; rfl)
end Go.Proofs.Ytnlmndpdalgppaa.Q
