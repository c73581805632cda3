import Derived.Test.YtnlmndpdalgppaaHZ2
import Derived.Test.YtnlmndpdalgppaaWf
import Derived.Deep.DrawnRows
import Derived.Deep.DeepCutAuto
import Derived.Deep.MidRow
import Derived.Deep.RegionHeld3
/- trap.Enter's closure, as those who call it have it. -/
namespace Go.Proofs.Ytnlmndpdalgppaa.Q
open Go.RowKit Go.Proofs.YtnlmndpdalgppaaW.PrintWords Go.Proofs.YtnlmndpdalgppaaW.PrintLast Go.Proofs.YtnlmndpdalgppaaW.PrintMore Go.Proofs.Ytnlmndpdalgppaa.L
attribute [local go_sem] Instr.field part asAgg lt_step max2_int min2_int max_two min_two max_three min_three max_four min_four lt_0_1 lt_0_2 lt_1_2 lt_0_3 lt_1_3 lt_2_3 lt_0_4 lt_1_4 lt_2_4 lt_3_4 lt_0_5 lt_1_5 lt_2_5 lt_3_5 lt_4_5 lt_0_6 lt_1_6 lt_2_6 lt_3_6 lt_4_6 lt_5_6 lt_0_7 lt_1_7 lt_2_7 lt_3_7 lt_4_7 lt_5_7 lt_6_7 lt_0_8 lt_1_8 lt_2_8 lt_3_8 lt_4_8 lt_5_8 lt_6_8 lt_7_8
set_option linter.unusedVariables false
set_option linter.unusedSimpArgs false
theorem and_le (x y : Int) (hx : u64B x) (hy : u64B y) : 0 ≤ Go.bits .and .u64 x y ∧ Go.bits .and .u64 x y ≤ y := by
  rw [u64_and x y hx.1 hx.2 hy.1 hy.2]
  have := Nat.and_le_right (n := x.toNat) (m := y.toNat)
  have h0 := hy.1
  omega
theorem cause63 (x : Int) : 0 ≤ wrap64 (Go.bits .and .u64 (IntKind.u64.wrap x) 63) := by
  have h := and_le (IntKind.u64.wrap x) 63 (by rw [IntKind.wrap_u64]; exact ⟨by omega, by omega⟩) (by decide)
  unfold wrap64; omega
/-- Where a trap goes. -/
def placeZ (vec code : Int) (irq : Bool) : Int := IntKind.u64.wrap (Go.bits .andNot .u64 vec 3 + (if irq = true ∧ Go.bits .and .u64 vec 1 = 1 then IntKind.u64.wrap (4 * code) else 0))
set_option maxHeartbeats 1600000 in
set_option maxRecDepth 100000 in
theorem where_runs (vec code v : Int) (irq : Bool) (pi pc pv : Nat) (w : World) (hi : w.heap[pi]? = some (.cells #[.bool irq] 4 (0, 0))) (hc : w.heap[pc]? = some (.cells #[.int .u64 code] 22 (0, 0))) (hv : w.heap[pv]? = some (.cells #[.int .u64 v] 22 (0, 0))) (hv0 : v = 0 ∨ (irq = true ∧ Go.bits .and .u64 vec 1 = 1)) :
    Calls Try.prog 21 #[.int .u64 vec, .pointer (some ⟨pi, 0, none⟩), .pointer (some ⟨pc, 0, none⟩), .pointer (some ⟨pv, 0, none⟩)] w fun e w' => e = .returned (.int .u64 (placeZ vec code irq)) ∧ (∃ v', w'.heap[pv]? = some (.cells #[.int .u64 v'] 22 (0, 0)) ∧ (v' = 0 ∨ (irq = true ∧ Go.bits .and .u64 vec 1 = 1))) ∧ (∀ i, i ≠ pv → w'.heap[i]? = w.heap[i]?) ∧ Below pv w w' := by
  obtain ⟨oic, oif, oil⟩ := cells_of hi
  obtain ⟨occ, ocf, ocl⟩ := cells_of hc
  obtain ⟨ovc, ovf, ovl⟩ := cells_of hv
  cases irq
  · obtain rfl : v = 0 := by rcases hv0 with h | h; exact h; cases h.1
    clear hv0
    go_enter Try.func21, Try.ntmps21
    (go_wp2; (first | go_region | skip); (all_goals go_wp2))
    all_goals refine bodyPost_ret (v := .int .u64 (IntKind.u64.wrap (Go.bits .andNot .u64 vec 3 + 0))) (by simp [results, Try.results21, go_sem] <;> first | assumption | omega | (symm; assumption)) rfl ?_
    all_goals exact ⟨rfl, ⟨0, hv, .inl rfl⟩, fun i hi => rfl, Below.refl _ _⟩
  · by_cases h1 : Go.bits .and .u64 vec 1 = 1
    · have e1 : placeZ vec code true = IntKind.u64.wrap (Go.bits .andNot .u64 vec 3 + IntKind.u64.wrap (4 * code)) := by unfold placeZ; rw [if_pos ⟨rfl, h1⟩]
      rw [e1]
      clear hv0
      have H1 := Aside0.mk h1
      go_enter Try.func21, Try.ntmps21
      (go_wp2; (first | go_region | skip); (all_goals go_wp2))
      all_goals refine bodyPost_ret (v := .int .u64 (IntKind.u64.wrap (Go.bits .andNot .u64 vec 3 + IntKind.u64.wrap (4 * code)))) (by simp [results, Try.results21, go_sem] <;> first | assumption | omega | (symm; assumption)) rfl ?_
      all_goals exact ⟨rfl, ⟨IntKind.u64.wrap (4 * code), blk_put hv 0 _ rfl, by first | exact .inr ⟨rfl, H1.out⟩ | simp [H1.out]⟩, fun i hi => Below.heap_setCell w ⟨pv, 0, none⟩ _ i hi, Below.setCell (Below.refl pv w) (p := ⟨pv, 0, none⟩) (Nat.le_refl _) _⟩
    · have e1 : placeZ vec code true = IntKind.u64.wrap (Go.bits .andNot .u64 vec 3 + 0) := by unfold placeZ; rw [if_neg (fun h => h1 h.2)]
      rw [e1]
      obtain rfl : v = 0 := by rcases hv0 with h | h; exact h; exact absurd h.2 h1
      clear hv0
      go_enter Try.func21, Try.ntmps21
      (go_wp2; (first | go_region | skip); (all_goals go_wp2))
      all_goals refine bodyPost_ret (v := .int .u64 (IntKind.u64.wrap (Go.bits .andNot .u64 vec 3 + 0))) (by simp [results, Try.results21, go_sem] <;> first | assumption | omega | (symm; assumption)) rfl ?_
      all_goals exact ⟨rfl, ⟨0, hv, .inl rfl⟩, fun i hi => rfl, Below.refl _ _⟩
def rho (W : World) (g i : Nat) : Value := (W.cell? ⟨g, i, none⟩).getD undef
/-- What is known ahead of Enter's last statement, and behind its call. -/
def EI (w : World) (cs : List Value) (irq : Bool) (vec code : Int) (p q : Nat) (W : World) : Prop :=
  W.heap[w.heap.size]? = some (.cells cs.toArray 24 (0, 0)) ∧ W.heap[w.heap.size + 1]? = some (.cells #[.bool irq] 4 (0, 0)) ∧ (∃ rs : List Value, rs.length = 17 ∧ W.heap[w.heap.size + 1 + 1]? = some (.cells rs.toArray 24 (0, 0))) ∧
  W.heap[p]? = some (.cells #[.int .u64 code] 22 (0, 0)) ∧ (∃ v, W.heap[q]? = some (.cells #[.int .u64 v] 22 (0, 0)) ∧ (v = 0 ∨ (irq = true ∧ Go.bits .and .u64 vec 1 = 1))) ∧ (w.heap.size + 1 + 1 < p ∧ w.heap.size + 1 + 1 < q ∧ p ≠ q) ∧ Below w.heap.size w W
theorem EI_drew {w : World} {cs : List Value} {irq : Bool} {vec code : Int} {p q : Nat} {W : World} (h : EI w cs irq vec code p q W) : EI w cs irq vec code p q W.drew := by
  obtain ⟨h1, h2, h3, h4, h5, h6, h7⟩ := h; exact ⟨h1, h2, h3, h4, h5, h6, h7.drew⟩
theorem EI_where {w : World} {cs : List Value} {irq : Bool} {vec code : Int} {p q : Nat} {W : World} (h : EI w cs irq vec code p q W) :
    Calls Try.prog 21 #[.int .u64 vec, .pointer (some ⟨w.heap.size + 1, 0, none⟩), .pointer (some ⟨p, 0, none⟩), .pointer (some ⟨q, 0, none⟩)] W fun e w' => e = .returned (.int .u64 (placeZ vec code irq)) ∧ EI w cs irq vec code p q w' := by
  obtain ⟨h1, h2, h3, h4, ⟨v, h5, h50⟩, h6, h7⟩ := h
  refine (where_runs vec code v irq _ p q W h2 h4 h5 h50).mono ?_
  rintro e w' ⟨rfl, hq, hk, hb⟩
  obtain ⟨rs, hrs, h3⟩ := h3
  exact ⟨rfl, (hk _ (by omega)).trans h1, (hk _ (by omega)).trans h2, ⟨rs, hrs, (hk _ (by omega)).trans h3⟩, (hk _ h6.2.2).trans h4, hq, h6, Below.trans h7 (Below.mono hb (by omega))⟩
theorem range_of {W : World} {g : Nat} {cs : List Value} {t : TypeId} {fr : Nat × Nat} (h : W.heap[g]? = some (.cells cs.toArray t fr)) : W.rangeAt g 0 cs := fun j v hv => by
  simp [World.cell?, h, hv]
theorem there_of {W : World} {g n : Nat} {cs : List Value} {t : TypeId} (h : W.heap[g]? = some (.cells cs.toArray t (0, 0))) (hn : cs.length = n) : W.there g 0 n := fun j hj => by
  obtain ⟨h1, h2, _⟩ := cells_of h
  rw [h1, h2]
  simp [hn, hj]
theorem cell_at {W : World} {g : Nat} {cs : List Value} {t : TypeId} {fr : Nat × Nat} (h : W.heap[g]? = some (.cells cs.toArray t fr)) (i : Nat) (v : Value) (hv : cs[i]? = some v) : W.cell? ⟨g, i, none⟩ = some v := by
  simp [World.cell?, h, hv]
theorem set_all {g : Nat} {t : TypeId} : ∀ (vs pre old : List Value) (W : World), W.heap[g]? = some (.cells (pre ++ old).toArray t (0, 0)) → old.length = vs.length → (W.setCells g pre.length vs).heap[g]? = some (.cells (pre ++ vs).toArray t (0, 0))
  | [], pre, old, W, h, hl => by
    obtain rfl : old = [] := List.length_eq_zero_iff.1 hl
    exact h
  | v :: vs, pre, [], W, h, hl => by cases hl
  | v :: vs, pre, o :: old, W, h, hl => by
    have h1 : (W.setCell ⟨g, pre.length, none⟩ v).heap[g]? = some (.cells ((pre ++ [v]) ++ old).toArray t (0, 0)) := blk_put h pre.length v (by rw [List.setIfInBounds_toArray]; simp)
    have h2 := set_all vs (pre ++ [v]) old _ h1 (by simpa using hl)
    rw [List.length_append, List.length_singleton, List.append_assoc, List.singleton_append] at h2
    exact h2
theorem below_all {g B : Nat} {w : World} (hB : B ≤ g) : ∀ (vs : List Value) (o : Nat) (W : World), Below B w W → Below B w (W.setCells g o vs)
  | [], o, W, h => h
  | v :: vs, o, W, h => below_all hB vs (o + 1) _ (Below.setCell h (p := ⟨g, o, none⟩) hB v)
theorem EI_end {w : World} {cs : List Value} {irq : Bool} {vec code : Int} {p q : Nat} {W : World} (h : EI w cs irq vec code p q W) (hl : cs.length = 17) :
    (W.setCells (w.heap.size + 1 + 1) 0 cs).heap[w.heap.size + 1 + 1]? = some (.cells cs.toArray 24 (0, 0)) ∧ Below w.heap.size w (W.setCells (w.heap.size + 1 + 1) 0 cs) := by
  obtain ⟨rs, hrs, h3⟩ := h.2.2.1
  exact ⟨set_all cs [] rs W h3 (by rw [hl, hrs]), below_all (by omega) cs 0 W h.2.2.2.2.2.2⟩
theorem EI_set {w : World} {cs : List Value} {irq : Bool} {vec code : Int} {p q : Nat} {W : World} {i : Nat} {v : Value} (h : EI w cs irq vec code p q W) : EI w cs irq vec code p q (W.setCell ⟨w.heap.size + 1 + 1, i, none⟩ v) := by
  obtain ⟨h1, h2, ⟨rs, hrs, h3⟩, h4, ⟨x, h5, h50⟩, h6, h7⟩ := h
  refine ⟨blk_far (p := ⟨w.heap.size + 1 + 1, i, none⟩) h1 (by show _ ≠ _; dsimp only; omega) v, blk_far (p := ⟨w.heap.size + 1 + 1, i, none⟩) h2 (by show _ ≠ _; dsimp only; omega) v, ⟨rs.set i v, by rw [List.length_set]; exact hrs, ?_⟩, blk_far (p := ⟨w.heap.size + 1 + 1, i, none⟩) h4 (by show _ ≠ _; dsimp only; omega) v, ⟨x, blk_far (p := ⟨w.heap.size + 1 + 1, i, none⟩) h5 (by show _ ≠ _; dsimp only; omega) v, h50⟩, h6, Below.setCell h7 (p := ⟨w.heap.size + 1 + 1, i, none⟩) (by show _ ≤ _; dsimp only; omega) v⟩
  exact blk_put h3 i v (by rw [List.setIfInBounds_toArray])
theorem rho_of {W : World} {g : Nat} {rs : List Value} {t : TypeId} {fr : Nat × Nat} (h : W.heap[g]? = some (.cells rs.toArray t fr)) (i : Nat) (hi : i < rs.length) : W.cell? ⟨g, i, none⟩ = some (rho W g i) := by
  unfold rho
  rw [cell_at h i _ (List.getElem?_eq_getElem hi)]; rfl
theorem EI_S {v0 v1 v2 v3 v4 v5 v6 v7 v8 v9 v10 v11 v12 v13 v14 v15 v16 : Int} {w : World} {irq : Bool} {vec code : Int} {p q : Nat} {W : World} (h : EI w [.int .u64 v0, .int .u64 v1, .int .u64 v2, .int .u64 v3, .int .u64 v4, .int .u64 v5, .int .u64 v6, .int .u64 v7, .int .u64 v8, .int .u64 v9, .int .u64 v10, .int .u64 v11, .int .u64 v12, .int .u64 v13, .int .u64 v14, .int .u64 v15, .int .u64 v16] irq vec code p q W) : (W.cell? ⟨w.heap.size, 0, none⟩ = some (.int .u64 v0) ∧ W.cell? ⟨w.heap.size, 1, none⟩ = some (.int .u64 v1) ∧ W.cell? ⟨w.heap.size, 2, none⟩ = some (.int .u64 v2) ∧ W.cell? ⟨w.heap.size, 3, none⟩ = some (.int .u64 v3) ∧ W.cell? ⟨w.heap.size, 4, none⟩ = some (.int .u64 v4) ∧ W.cell? ⟨w.heap.size, 5, none⟩ = some (.int .u64 v5) ∧ W.cell? ⟨w.heap.size, 6, none⟩ = some (.int .u64 v6) ∧ W.cell? ⟨w.heap.size, 7, none⟩ = some (.int .u64 v7) ∧ W.cell? ⟨w.heap.size, 8, none⟩ = some (.int .u64 v8) ∧ W.cell? ⟨w.heap.size, 9, none⟩ = some (.int .u64 v9) ∧ W.cell? ⟨w.heap.size, 10, none⟩ = some (.int .u64 v10) ∧ W.cell? ⟨w.heap.size, 11, none⟩ = some (.int .u64 v11) ∧ W.cell? ⟨w.heap.size, 12, none⟩ = some (.int .u64 v12) ∧ W.cell? ⟨w.heap.size, 13, none⟩ = some (.int .u64 v13) ∧ W.cell? ⟨w.heap.size, 14, none⟩ = some (.int .u64 v14) ∧ W.cell? ⟨w.heap.size, 15, none⟩ = some (.int .u64 v15) ∧ W.cell? ⟨w.heap.size, 16, none⟩ = some (.int .u64 v16) ∧ (∀ i, W.frozen? ⟨w.heap.size + 1 + 1, i, none⟩ = false) ∧ W.cell? ⟨w.heap.size + 1 + 1, 0, none⟩ = some (rho W (w.heap.size + 1 + 1) 0) ∧ W.cell? ⟨w.heap.size + 1 + 1, 1, none⟩ = some (rho W (w.heap.size + 1 + 1) 1) ∧ W.cell? ⟨w.heap.size + 1 + 1, 2, none⟩ = some (rho W (w.heap.size + 1 + 1) 2) ∧ W.cell? ⟨w.heap.size + 1 + 1, 3, none⟩ = some (rho W (w.heap.size + 1 + 1) 3) ∧ W.cell? ⟨w.heap.size + 1 + 1, 4, none⟩ = some (rho W (w.heap.size + 1 + 1) 4) ∧ W.cell? ⟨w.heap.size + 1 + 1, 5, none⟩ = some (rho W (w.heap.size + 1 + 1) 5) ∧ W.cell? ⟨w.heap.size + 1 + 1, 6, none⟩ = some (rho W (w.heap.size + 1 + 1) 6) ∧ W.cell? ⟨w.heap.size + 1 + 1, 7, none⟩ = some (rho W (w.heap.size + 1 + 1) 7) ∧ W.cell? ⟨w.heap.size + 1 + 1, 8, none⟩ = some (rho W (w.heap.size + 1 + 1) 8) ∧ W.cell? ⟨w.heap.size + 1 + 1, 9, none⟩ = some (rho W (w.heap.size + 1 + 1) 9) ∧ W.cell? ⟨w.heap.size + 1 + 1, 10, none⟩ = some (rho W (w.heap.size + 1 + 1) 10) ∧ W.cell? ⟨w.heap.size + 1 + 1, 11, none⟩ = some (rho W (w.heap.size + 1 + 1) 11) ∧ W.cell? ⟨w.heap.size + 1 + 1, 12, none⟩ = some (rho W (w.heap.size + 1 + 1) 12) ∧ W.cell? ⟨w.heap.size + 1 + 1, 13, none⟩ = some (rho W (w.heap.size + 1 + 1) 13) ∧ W.cell? ⟨w.heap.size + 1 + 1, 14, none⟩ = some (rho W (w.heap.size + 1 + 1) 14) ∧ W.cell? ⟨w.heap.size + 1 + 1, 15, none⟩ = some (rho W (w.heap.size + 1 + 1) 15) ∧ W.cell? ⟨w.heap.size + 1 + 1, 16, none⟩ = some (rho W (w.heap.size + 1 + 1) 16)) ∧ EI w [.int .u64 v0, .int .u64 v1, .int .u64 v2, .int .u64 v3, .int .u64 v4, .int .u64 v5, .int .u64 v6, .int .u64 v7, .int .u64 v8, .int .u64 v9, .int .u64 v10, .int .u64 v11, .int .u64 v12, .int .u64 v13, .int .u64 v14, .int .u64 v15, .int .u64 v16] irq vec code p q W := by
  obtain ⟨rs, hrs, h3⟩ := h.2.2.1
  exact ⟨⟨cell_at h.1 0 _ rfl, cell_at h.1 1 _ rfl, cell_at h.1 2 _ rfl, cell_at h.1 3 _ rfl, cell_at h.1 4 _ rfl, cell_at h.1 5 _ rfl, cell_at h.1 6 _ rfl, cell_at h.1 7 _ rfl, cell_at h.1 8 _ rfl, cell_at h.1 9 _ rfl, cell_at h.1 10 _ rfl, cell_at h.1 11 _ rfl, cell_at h.1 12 _ rfl, cell_at h.1 13 _ rfl, cell_at h.1 14 _ rfl, cell_at h.1 15 _ rfl, cell_at h.1 16 _ rfl, (cells_of h3).2.1, rho_of h3 0 (by omega), rho_of h3 1 (by omega), rho_of h3 2 (by omega), rho_of h3 3 (by omega), rho_of h3 4 (by omega), rho_of h3 5 (by omega), rho_of h3 6 (by omega), rho_of h3 7 (by omega), rho_of h3 8 (by omega), rho_of h3 9 (by omega), rho_of h3 10 (by omega), rho_of h3 11 (by omega), rho_of h3 12 (by omega), rho_of h3 13 (by omega), rho_of h3 14 (by omega), rho_of h3 15 (by omega), rho_of h3 16 (by omega)⟩, h⟩
end Go.Proofs.Ytnlmndpdalgppaa.Q
