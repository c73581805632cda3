import Derived.Test.YtnlmndpdalgppaaHPtr
import Derived.Test.YtnlmndpdalgppaaHEwhere
import Derived.Test.YtnlmndpdalgppaaHFs
import Derived.Test.YtnlmndpdalgppaaQx1
import Derived.Deep.DrawnRows
import Derived.Deep.DeepCutAuto
import Derived.Deep.RegionHeld3
/- Two boxes of 17 cells: what came in, and the result's (layer 6). -/
namespace Go.Proofs.Ytnlmndpdalgppaa.Q
open Go.RowKit Go.Proofs.YtnlmndpdalgppaaW.PrintWords Go.Proofs.YtnlmndpdalgppaaW.PrintLast Go.Proofs.YtnlmndpdalgppaaW.PrintMore Go.Proofs.Ytnlmndpdalgppaa.L
attribute [local go_sem] Instr.field part asAgg lt_step max2_int min2_int max_two min_two max_three min_three max_four min_four lt_0_1 lt_0_2 lt_1_2 lt_0_3 lt_1_3 lt_2_3 lt_0_4 lt_1_4 lt_2_4 lt_3_4 lt_0_5 lt_1_5 lt_2_5 lt_3_5 lt_4_5 lt_0_6 lt_1_6 lt_2_6 lt_3_6 lt_4_6 lt_5_6 lt_0_7 lt_1_7 lt_2_7 lt_3_7 lt_4_7 lt_5_7 lt_6_7 lt_0_8 lt_1_8 lt_2_8 lt_3_8 lt_4_8 lt_5_8 lt_6_8 lt_7_8
set_option linter.unusedVariables false
set_option linter.unusedSimpArgs false
def TI (w : World) (cs : List Value) (W : World) : Prop := W.heap[w.heap.size]? = some (.cells cs.toArray 24 (0, 0)) ∧ (∃ rs : List Value, rs.length = 17 ∧ W.heap[w.heap.size + 1]? = some (.cells rs.toArray 24 (0, 0))) ∧ Below w.heap.size w W
section
variable {w W : World} {cs : List Value}
theorem TI_drew (h : TI w cs W) : TI w cs W.drew := ⟨h.1, h.2.1, h.2.2.drew⟩
theorem TI_drewN (h : TI w cs W) (n : Nat) : TI w cs (W.drewN n) := ⟨h.1, h.2.1, pw_below_drewN h.2.2 n⟩
theorem TI_set {i : Nat} {v : Value} (h : TI w cs W) : TI w cs (W.setCell ⟨w.heap.size + 1, i, none⟩ v) := by
  obtain ⟨h1, ⟨rs, hrs, h3⟩, h7⟩ := h
  exact ⟨blk_far (p := ⟨w.heap.size + 1, i, none⟩) h1 (by show _ ≠ _; dsimp only; omega) v, ⟨rs.set i v, by rw [List.length_set]; exact hrs, blk_put h3 i v (by rw [List.setIfInBounds_toArray])⟩, Below.setCell h7 (p := ⟨w.heap.size + 1, i, none⟩) (by show _ ≤ _; dsimp only; omega) v⟩
theorem TI_put {i : Nat} {v : Value} {cs' : List Value} (h : TI w cs W) (hc : cs.set i v = cs') : TI w cs' (W.setCell ⟨w.heap.size, i, none⟩ v) := by
  obtain ⟨h1, ⟨rs, hrs, h3⟩, h7⟩ := h
  exact ⟨blk_put h1 i v (by rw [List.setIfInBounds_toArray, hc]), ⟨rs, hrs, blk_far (p := ⟨w.heap.size, i, none⟩) h3 (by show _ ≠ _; dsimp only; omega) v⟩, Below.setCell h7 (p := ⟨w.heap.size, i, none⟩) (Nat.le_refl _) v⟩
theorem TI_end (h : TI w cs W) (hl : cs.length = 17) :
    (W.setCells (w.heap.size + 1) 0 cs).heap[w.heap.size + 1]? = some (.cells cs.toArray 24 (0, 0)) ∧ Below w.heap.size w (W.setCells (w.heap.size + 1) 0 cs) := by
  obtain ⟨rs, hrs, h3⟩ := h.2.1
  exact ⟨set_all cs [] rs W h3 (by rw [hl, hrs]), below_all (by omega) cs 0 W h.2.2⟩
end
theorem TI_S {v0 v1 v2 v3 v4 v5 v6 v7 v8 v9 v10 v11 v12 v13 v14 v15 v16 : Int} {w W : World} (h : TI w [.int .u64 v0, .int .u64 v1, .int .u64 v2, .int .u64 v3, .int .u64 v4, .int .u64 v5, .int .u64 v6, .int .u64 v7, .int .u64 v8, .int .u64 v9, .int .u64 v10, .int .u64 v11, .int .u64 v12, .int .u64 v13, .int .u64 v14, .int .u64 v15, .int .u64 v16] W) : (W.cell? ⟨w.heap.size, 0, none⟩ = some (.int .u64 v0) ∧ W.cell? ⟨w.heap.size, 1, none⟩ = some (.int .u64 v1) ∧ W.cell? ⟨w.heap.size, 2, none⟩ = some (.int .u64 v2) ∧ W.cell? ⟨w.heap.size, 3, none⟩ = some (.int .u64 v3) ∧ W.cell? ⟨w.heap.size, 4, none⟩ = some (.int .u64 v4) ∧ W.cell? ⟨w.heap.size, 5, none⟩ = some (.int .u64 v5) ∧ W.cell? ⟨w.heap.size, 6, none⟩ = some (.int .u64 v6) ∧ W.cell? ⟨w.heap.size, 7, none⟩ = some (.int .u64 v7) ∧ W.cell? ⟨w.heap.size, 8, none⟩ = some (.int .u64 v8) ∧ W.cell? ⟨w.heap.size, 9, none⟩ = some (.int .u64 v9) ∧ W.cell? ⟨w.heap.size, 10, none⟩ = some (.int .u64 v10) ∧ W.cell? ⟨w.heap.size, 11, none⟩ = some (.int .u64 v11) ∧ W.cell? ⟨w.heap.size, 12, none⟩ = some (.int .u64 v12) ∧ W.cell? ⟨w.heap.size, 13, none⟩ = some (.int .u64 v13) ∧ W.cell? ⟨w.heap.size, 14, none⟩ = some (.int .u64 v14) ∧ W.cell? ⟨w.heap.size, 15, none⟩ = some (.int .u64 v15) ∧ W.cell? ⟨w.heap.size, 16, none⟩ = some (.int .u64 v16) ∧ (∀ i, W.frozen? ⟨w.heap.size + 1, i, none⟩ = false) ∧ W.cell? ⟨w.heap.size + 1, 0, none⟩ = some (rho W (w.heap.size + 1) 0) ∧ W.cell? ⟨w.heap.size + 1, 1, none⟩ = some (rho W (w.heap.size + 1) 1) ∧ W.cell? ⟨w.heap.size + 1, 2, none⟩ = some (rho W (w.heap.size + 1) 2) ∧ W.cell? ⟨w.heap.size + 1, 3, none⟩ = some (rho W (w.heap.size + 1) 3) ∧ W.cell? ⟨w.heap.size + 1, 4, none⟩ = some (rho W (w.heap.size + 1) 4) ∧ W.cell? ⟨w.heap.size + 1, 5, none⟩ = some (rho W (w.heap.size + 1) 5) ∧ W.cell? ⟨w.heap.size + 1, 6, none⟩ = some (rho W (w.heap.size + 1) 6) ∧ W.cell? ⟨w.heap.size + 1, 7, none⟩ = some (rho W (w.heap.size + 1) 7) ∧ W.cell? ⟨w.heap.size + 1, 8, none⟩ = some (rho W (w.heap.size + 1) 8) ∧ W.cell? ⟨w.heap.size + 1, 9, none⟩ = some (rho W (w.heap.size + 1) 9) ∧ W.cell? ⟨w.heap.size + 1, 10, none⟩ = some (rho W (w.heap.size + 1) 10) ∧ W.cell? ⟨w.heap.size + 1, 11, none⟩ = some (rho W (w.heap.size + 1) 11) ∧ W.cell? ⟨w.heap.size + 1, 12, none⟩ = some (rho W (w.heap.size + 1) 12) ∧ W.cell? ⟨w.heap.size + 1, 13, none⟩ = some (rho W (w.heap.size + 1) 13) ∧ W.cell? ⟨w.heap.size + 1, 14, none⟩ = some (rho W (w.heap.size + 1) 14) ∧ W.cell? ⟨w.heap.size + 1, 15, none⟩ = some (rho W (w.heap.size + 1) 15) ∧ W.cell? ⟨w.heap.size + 1, 16, none⟩ = some (rho W (w.heap.size + 1) 16)) ∧ TI w [.int .u64 v0, .int .u64 v1, .int .u64 v2, .int .u64 v3, .int .u64 v4, .int .u64 v5, .int .u64 v6, .int .u64 v7, .int .u64 v8, .int .u64 v9, .int .u64 v10, .int .u64 v11, .int .u64 v12, .int .u64 v13, .int .u64 v14, .int .u64 v15, .int .u64 v16] W := by
  obtain ⟨rs, hrs, h3⟩ := h.2.1
  exact ⟨⟨cell_at h.1 0 _ rfl, cell_at h.1 1 _ rfl, cell_at h.1 2 _ rfl, cell_at h.1 3 _ rfl, cell_at h.1 4 _ rfl, cell_at h.1 5 _ rfl, cell_at h.1 6 _ rfl, cell_at h.1 7 _ rfl, cell_at h.1 8 _ rfl, cell_at h.1 9 _ rfl, cell_at h.1 10 _ rfl, cell_at h.1 11 _ rfl, cell_at h.1 12 _ rfl, cell_at h.1 13 _ rfl, cell_at h.1 14 _ rfl, cell_at h.1 15 _ rfl, cell_at h.1 16 _ rfl, (cells_of h3).2.1, rho_of h3 0 (by omega), rho_of h3 1 (by omega), rho_of h3 2 (by omega), rho_of h3 3 (by omega), rho_of h3 4 (by omega), rho_of h3 5 (by omega), rho_of h3 6 (by omega), rho_of h3 7 (by omega), rho_of h3 8 (by omega), rho_of h3 9 (by omega), rho_of h3 10 (by omega), rho_of h3 11 (by omega), rho_of h3 12 (by omega), rho_of h3 13 (by omega), rho_of h3 14 (by omega), rho_of h3 15 (by omega), rho_of h3 16 (by omega)⟩, h⟩
theorem TI_new (w : World) (cs : List Value) : TI w cs ((w.alloc (.cells cs.toArray 24 (0, 0))).alloc (.cells #[.int .u64 0, .int .u64 0, .int .u64 0, .int .u64 0, .int .u64 0, .int .u64 0, .int .u64 0, .int .u64 0, .int .u64 0, .int .u64 0, .int .u64 0, .int .u64 0, .int .u64 0, .int .u64 0, .int .u64 0, .int .u64 0, .int .u64 0] 24 (0, 0))) :=
  ⟨ext_alloc (nb_1 _ _) _, ⟨_, rfl, nb_2 _ _ _⟩, Below.alloc (Below.alloc (Below.refl _ _) (Nat.le_refl _) _) (by simp) _⟩
theorem rbit_c (x : Int) (n : Nat) (z : Int) (W : World) (hx : u64B x) (hz : z = n) (hn : n < 64) : Calls Try.prog 22 #[.int .u64 x, .int .i64 z] W fun e w' => e = .returned (.int .u64 (bitZ x z)) ∧ Drawn0 W w' := drawbridgeref06_bit.calls x z _ W (refbit_is x n z hx hz hn)
theorem rwith_c (x : Int) (n : Nat) (z b : Int) (y : Int) (W : World) (hx : u64B x) (hb : b = 0 ∨ b = 1) (hz : z = n) (hn : n < 64) (hy : setZ x n b = y) : Calls Try.prog 23 #[.int .u64 x, .int .i64 z, .int .u64 b] W fun e w' => e = .returned (.int .u64 y) ∧ Drawn0 W w' := by
  subst hy; exact drawbridgeref06_with.calls x z b _ W (refwith_is x n z b hx hb hz hn)
theorem rplace_c (vec code : Int) (irq : Bool) (W : World) (hv : u64B vec) : Calls Try.prog 24 #[.int .u64 vec, .int .u64 code, .bool irq] W fun e w' => e = .returned (.int .u64 (placeZ vec code irq)) ∧ Drawn0 W w' := drawbridgeref06_place.calls vec code irq _ W (refplace_is vec code irq hv)
end Go.Proofs.Ytnlmndpdalgppaa.Q
