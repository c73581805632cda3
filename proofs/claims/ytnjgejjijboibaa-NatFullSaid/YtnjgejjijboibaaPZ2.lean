import Derived.Test.YtnjgejjijboibaaPZ1
import Derived.Deep.MidRow
import Derived.RegionTactic
import Derived.BigRegion
import Derived.Test.YtnjgejjijboibaaPXWWords
import Derived.Laws.Rows
import Derived.Test.YtnjgejjijboibaaPXWLast
section
/- slices.DeleteFunc over a row of one's own. -/
namespace Go.Proofs.Ytnjgejjijboibaa.Q
open Go.RowKit Go.Proofs.YtnjgejjijboibaaW.PrintWords Go.Proofs.YtnjgejjijboibaaW.PrintLast Go.Proofs.YtnjgejjijboibaaW.PrintMore Go.Proofs.Ytnjgejjijboibaa.L
attribute [local go_sem] Instr.field part asAgg lt_step max2_int min2_int max_two min_two max_three min_three max_four min_four lt_0_1 lt_0_2 lt_1_2 lt_0_3 lt_1_3 lt_2_3 lt_0_4 lt_1_4 lt_2_4 lt_3_4 lt_0_5 lt_1_5 lt_2_5 lt_3_5 lt_4_5 lt_0_6 lt_1_6 lt_2_6 lt_3_6 lt_4_6 lt_5_6 lt_0_7 lt_1_7 lt_2_7 lt_3_7 lt_4_7 lt_5_7 lt_6_7 lt_0_8 lt_1_8 lt_2_8 lt_3_8 lt_4_8 lt_5_8 lt_6_8 lt_7_8
set_option linter.unusedVariables false
set_option linter.unusedSimpArgs false
theorem idxP_spec {α : Type} (p : α → Bool) (d : α) : ∀ (l : List α) (i : Int), (idxP p l i = -1 ∧ 0 ≤ i ∧ (∀ x ∈ l, p x = false)) ∨ (i < 0) ∨ ∃ k : Nat, k < l.length ∧ idxP p l i = i + k ∧ (∀ x ∈ l.take k, p x = false) ∧ p (l.getD k d) = true
  | [], i => by
    by_cases h : 0 ≤ i
    · exact .inl ⟨rfl, h, fun x hx => by cases hx⟩
    · exact .inr (.inl (by omega))
  | x :: l, i => by
    by_cases h : 0 ≤ i
    · rw [idxP]
      by_cases hp : p x = true
      · rw [if_pos hp]
        exact .inr (.inr ⟨0, by simp, by simp, by simp, hp⟩)
      · rw [if_neg hp]
        have hp' : p x = false := by cases h2 : p x; rfl; exact absurd h2 hp
        rcases idxP_spec p d l (i + 1) with ⟨h1, h2, h3⟩ | h1 | ⟨k, h1, h2, h3, h4⟩
        · exact .inl ⟨h1, h, fun y hy => by rcases List.mem_cons.1 hy with rfl | hy; exact hp'; exact h3 y hy⟩
        · omega
        · exact .inr (.inr ⟨k + 1, by simp; omega, by rw [h2]; omega, fun y hy => by rw [List.take_succ_cons] at hy; rcases List.mem_cons.1 hy with rfl | hy; exact hp'; exact h3 y hy, by simpa using h4⟩)
    · exact .inr (.inl (by omega))
theorem filter_all {α : Type} (p : α → Bool) : ∀ l : List α, (∀ x ∈ l, (!p x) = false) → l.filter p = l
  | [], _ => rfl
  | x :: l, h => by
    have hx : p x = true := by have := h x (by simp); cases h2 : p x; rw [h2] at this; cases this; rfl
    rw [List.filter_cons_of_pos hx, filter_all p l (fun y hy => h y (List.mem_cons_of_mem _ hy))]
theorem low_box {b g : Nat} {w w' : World} {o : Obj} (hb : Below b w w') (hg : g < b) (h : w.heap[g]? = some o) : w'.heap[g]? = some o := by rw [hb.block g hg]; exact h
theorem below_cells {b g : Nat} {w0 : World} (hg : b ≤ g) : ∀ (vs : List Value) (o : Nat) (w : World), Below b w0 w → Below b w0 (w.setCells g o vs)
  | [], o, w, h => h
  | v :: vs, o, w, h => below_cells hg vs (o + 1) _ (Below.setCell h (p := ⟨g, o, none⟩) hg v)
theorem there_of {w : World} {g o n : Nat} {cur : Array Value} {t : TypeId} (h : w.heap[g]? = some (.cells cur t (0, 0))) (hn : o + n ≤ cur.size) : w.there g o n := fun j hj => by
  obtain ⟨hc, hf, _⟩ := cells_of h
  exact ⟨by rw [hc, Array.getElem?_eq_getElem (by omega)]; rfl, hf _⟩
theorem run_clear_48 (w : World) (ty : TypeId) (b o m c : Nat) (hm : 0 < m) (hth : w.there b o (m * 5)) :
    ∃ zs : List Value, zs.length = m * 5 ∧ (Builtin.clear_ #[24] ty #[.slice (some ⟨b, o, none⟩) m c]).run Try.prog w = .ok (.tuple #[]) (w.setCells b o zs) := by
  obtain ⟨zs, hzs⟩ : ∃ zs, zs = (Builtin.zeroCells (Value.cells (.agg #[.int .i64 0, .int .i64 0, .int .u32 0, .int .i64 0, .int .i64 0])) m).toList := ⟨_, rfl⟩
  have hl : zs.length = m * 5 := by rw [hzs]; simp [Builtin.zeroCells, Value.cells]
  have ho : ∀ v ∈ zs, v.oneCell' = true := by
    intro v hv
    rw [hzs] at hv
    simp only [Builtin.zeroCells, Array.toList_map, List.mem_map] at hv
    obtain ⟨i, _, rfl⟩ := hv
    have h5 : ∀ r, r < 5 → ((Value.cells (.agg #[.int .i64 0, .int .i64 0, .int .u32 0, .int .i64 0, .int .i64 0]))[r]!).oneCell' = true := by decide
    exact h5 _ (Nat.mod_lt _ (by decide))
  have hst := run_storeCells_cells (P := Try.prog) b o zs 0 w (fun j hj => by simpa using (hth j (by omega)).1) (fun j hj => by simpa using (hth j (by omega)).2) ho
  simp only [Nat.add_zero] at hst
  obtain ⟨m', rfl⟩ : ∃ m', m = m' + 1 := ⟨m - 1, by omega⟩
  refine ⟨zs, hl, ?_⟩
  simp [Builtin.clear_, run_underlying Try.underlying24, zero48, ← hzs, hst]
theorem cells_at_48 : ∀ (l : List S48) (j f : Nat), j < l.length → f < 5 → (cellsL_48 l)[j * 5 + f]? = (cells1_48 (l.getD j z48))[f]?
  | [], j, f, h, _ => by simp at h
  | x :: l, 0, f, _, hf => by
    rw [cellsL_48, Nat.zero_mul, Nat.zero_add, List.getElem?_append_left (by show f < 5; exact hf)]; rfl
  | x :: l, j + 1, f, h, hf => by
    rw [cellsL_48, List.getElem?_append_right (by show 5 ≤ _; omega), show (j + 1) * 5 + f - (cells1_48 x).length = j * 5 + f by show _ - 5 = _; omega, cells_at_48 l j f (by simpa using h) hf]; rfl
def rowI_48 (wx : World) (g cap : Nat) (l : List S48) (p : S48 → Bool) (j : Nat) : Prop :=
  ∃ cur : Array Value, wx.heap[g]? = some (.cells cur 48 (0, 0)) ∧ cur.size = cap * 5 ∧ cur.toList.take (((l.take j).filter p).length * 5) = cellsL_48 ((l.take j).filter p) ∧ ∀ t, j * 5 ≤ t → t < l.length * 5 → cur[t]? = (cellsL_48 l)[t]?
theorem rowI_skip_48 {wx : World} {g cap : Nat} {l : List S48} {p : S48 → Bool} {j : Nat} (h : rowI_48 wx g cap l p j) (hj : j < l.length) (hp : p (l.getD j z48) = false) : ((l.take (j + 1)).filter p).length = ((l.take j).filter p).length ∧ rowI_48 wx g cap l p (j + 1) := by
  have e : (l.take (j + 1)).filter p = (l.take j).filter p := by
    rw [List.take_add_one, List.filter_append, List.getElem?_eq_getElem hj]
    rw [List.getD_eq_getElem?_getD, List.getElem?_eq_getElem hj] at hp
    simp [Option.toList, List.filter, show p l[j] = false from hp]
  obtain ⟨cur, h1, h2, h3, h4⟩ := h
  exact ⟨by rw [e], cur, h1, h2, by rw [e]; exact h3, fun t h5 h6 => h4 t (by omega) h6⟩
theorem rowI_keep_48 {wx : World} {g cap : Nat} {l : List S48} {p : S48 → Bool} {j : Nat} {x : S48} (h : rowI_48 wx g cap l p j) (hn : l.length ≤ cap) (hj : j < l.length) (hx : l.getD j z48 = x) (hp : p x = true) : ((l.take (j + 1)).filter p).length = ((l.take j).filter p).length + 1 ∧ rowI_48 (wx.setCells g (((l.take j).filter p).length * 5) (cells1_48 x)) g cap l p (j + 1) := by
  have e : (l.take (j + 1)).filter p = (l.take j).filter p ++ [x] := by
    rw [List.take_add_one, List.filter_append, List.getElem?_eq_getElem hj]
    rw [List.getD_eq_getElem?_getD, List.getElem?_eq_getElem hj] at hx
    have hx' : l[j] = x := hx
    simp [Option.toList, List.filter, hx', hp]
  have hle : ((l.take j).filter p).length ≤ j := Nat.le_trans (List.length_filter_le _ _) (by rw [List.length_take]; omega)
  obtain ⟨c, hc⟩ : ∃ c, ((l.take j).filter p).length = c := ⟨_, rfl⟩
  rw [hc] at hle ⊢
  have e2 : ((l.take (j + 1)).filter p).length = c + 1 := by rw [e, List.length_append, hc]; rfl
  refine ⟨e2, ?_⟩
  obtain ⟨cur, h1, h2, h3, h4⟩ := h
  rw [hc] at h3
  obtain ⟨cur', g1, g2, g3⟩ := blk_cells (t := 48) (cells1_48 x) (c * 5) wx cur h1
  have hcl : (cells1_48 x).length = 5 := rfl
  rw [hcl] at g3
  have hsz : (j + 1) * 5 ≤ cap * 5 := Nat.mul_le_mul_right _ (by omega)
  refine ⟨cur', g1, by rw [g2, h2], ?_, fun t h5 h6 => ?_⟩
  · rw [e2, e, cellsL_append_48]
    have hcl2 : (cellsL_48 ((l.take j).filter p)).length = c * 5 := by rw [cellsL_len_48, hc]
    apply List.ext_getElem?
    intro i
    have hci : c * 5 + 5 ≤ cap * 5 := by omega
    by_cases hi : i < (c + 1) * 5
    · rw [List.getElem?_take_of_lt hi, Array.getElem?_toList, g3 i (by omega)]
      by_cases hi2 : i < c * 5
      · rw [if_neg (by omega), List.getElem?_append_left (by rw [hcl2]; exact hi2), ← h3, List.getElem?_take_of_lt hi2, Array.getElem?_toList]
      · rw [if_pos (by omega), List.getElem?_append_right (by rw [hcl2]; omega), hcl2]
        show _ = (cells1_48 x ++ cellsL_48 [])[i - c * 5]?
        rw [List.getElem?_append_left (by rw [hcl]; omega)]
    · rw [List.getElem?_eq_none (by rw [List.length_take]; omega), List.getElem?_eq_none (by rw [List.length_append, hcl2, cellsL_len_48]; show c * 5 + 1 * 5 ≤ i; omega)]
  · have hlc : l.length * 5 ≤ cap * 5 := Nat.mul_le_mul_right _ hn
    have hcj : c * 5 + 5 ≤ (j + 1) * 5 := by omega
    rw [g3 t (by omega), if_neg (by omega)]
    exact h4 t (by omega) h6
theorem run_clear_39 (w : World) (ty : TypeId) (b o m c : Nat) (hm : 0 < m) (hth : w.there b o (m * 4)) :
    ∃ zs : List Value, zs.length = m * 4 ∧ (Builtin.clear_ #[25] ty #[.slice (some ⟨b, o, none⟩) m c]).run Try.prog w = .ok (.tuple #[]) (w.setCells b o zs) := by
  obtain ⟨zs, hzs⟩ : ∃ zs, zs = (Builtin.zeroCells (Value.cells (.agg #[.int .i64 0, .int .i64 0, .int .i64 0, .int .i64 0])) m).toList := ⟨_, rfl⟩
  have hl : zs.length = m * 4 := by rw [hzs]; simp [Builtin.zeroCells, Value.cells]
  have ho : ∀ v ∈ zs, v.oneCell' = true := by
    intro v hv
    rw [hzs] at hv
    simp only [Builtin.zeroCells, Array.toList_map, List.mem_map] at hv
    obtain ⟨i, _, rfl⟩ := hv
    have h5 : ∀ r, r < 4 → ((Value.cells (.agg #[.int .i64 0, .int .i64 0, .int .i64 0, .int .i64 0]))[r]!).oneCell' = true := by decide
    exact h5 _ (Nat.mod_lt _ (by decide))
  have hst := run_storeCells_cells (P := Try.prog) b o zs 0 w (fun j hj => by simpa using (hth j (by omega)).1) (fun j hj => by simpa using (hth j (by omega)).2) ho
  simp only [Nat.add_zero] at hst
  obtain ⟨m', rfl⟩ : ∃ m', m = m' + 1 := ⟨m - 1, by omega⟩
  refine ⟨zs, hl, ?_⟩
  simp [Builtin.clear_, run_underlying Try.underlying25, zero39, ← hzs, hst]
theorem cells_at_39 : ∀ (l : List S39) (j f : Nat), j < l.length → f < 4 → (cellsL_39 l)[j * 4 + f]? = (cells1_39 (l.getD j z39))[f]?
  | [], j, f, h, _ => by simp at h
  | x :: l, 0, f, _, hf => by
    rw [cellsL_39, Nat.zero_mul, Nat.zero_add, List.getElem?_append_left (by show f < 4; exact hf)]; rfl
  | x :: l, j + 1, f, h, hf => by
    rw [cellsL_39, List.getElem?_append_right (by show 4 ≤ _; omega), show (j + 1) * 4 + f - (cells1_39 x).length = j * 4 + f by show _ - 4 = _; omega, cells_at_39 l j f (by simpa using h) hf]; rfl
def rowI_39 (wx : World) (g cap : Nat) (l : List S39) (p : S39 → Bool) (j : Nat) : Prop :=
  ∃ cur : Array Value, wx.heap[g]? = some (.cells cur 39 (0, 0)) ∧ cur.size = cap * 4 ∧ cur.toList.take (((l.take j).filter p).length * 4) = cellsL_39 ((l.take j).filter p) ∧ ∀ t, j * 4 ≤ t → t < l.length * 4 → cur[t]? = (cellsL_39 l)[t]?
theorem rowI_skip_39 {wx : World} {g cap : Nat} {l : List S39} {p : S39 → Bool} {j : Nat} (h : rowI_39 wx g cap l p j) (hj : j < l.length) (hp : p (l.getD j z39) = false) : ((l.take (j + 1)).filter p).length = ((l.take j).filter p).length ∧ rowI_39 wx g cap l p (j + 1) := by
  have e : (l.take (j + 1)).filter p = (l.take j).filter p := by
    rw [List.take_add_one, List.filter_append, List.getElem?_eq_getElem hj]
    rw [List.getD_eq_getElem?_getD, List.getElem?_eq_getElem hj] at hp
    simp [Option.toList, List.filter, show p l[j] = false from hp]
  obtain ⟨cur, h1, h2, h3, h4⟩ := h
  exact ⟨by rw [e], cur, h1, h2, by rw [e]; exact h3, fun t h5 h6 => h4 t (by omega) h6⟩
theorem rowI_keep_39 {wx : World} {g cap : Nat} {l : List S39} {p : S39 → Bool} {j : Nat} {x : S39} (h : rowI_39 wx g cap l p j) (hn : l.length ≤ cap) (hj : j < l.length) (hx : l.getD j z39 = x) (hp : p x = true) : ((l.take (j + 1)).filter p).length = ((l.take j).filter p).length + 1 ∧ rowI_39 (wx.setCells g (((l.take j).filter p).length * 4) (cells1_39 x)) g cap l p (j + 1) := by
  have e : (l.take (j + 1)).filter p = (l.take j).filter p ++ [x] := by
    rw [List.take_add_one, List.filter_append, List.getElem?_eq_getElem hj]
    rw [List.getD_eq_getElem?_getD, List.getElem?_eq_getElem hj] at hx
    have hx' : l[j] = x := hx
    simp [Option.toList, List.filter, hx', hp]
  have hle : ((l.take j).filter p).length ≤ j := Nat.le_trans (List.length_filter_le _ _) (by rw [List.length_take]; omega)
  obtain ⟨c, hc⟩ : ∃ c, ((l.take j).filter p).length = c := ⟨_, rfl⟩
  rw [hc] at hle ⊢
  have e2 : ((l.take (j + 1)).filter p).length = c + 1 := by rw [e, List.length_append, hc]; rfl
  refine ⟨e2, ?_⟩
  obtain ⟨cur, h1, h2, h3, h4⟩ := h
  rw [hc] at h3
  obtain ⟨cur', g1, g2, g3⟩ := blk_cells (t := 39) (cells1_39 x) (c * 4) wx cur h1
  have hcl : (cells1_39 x).length = 4 := rfl
  rw [hcl] at g3
  have hsz : (j + 1) * 4 ≤ cap * 4 := Nat.mul_le_mul_right _ (by omega)
  refine ⟨cur', g1, by rw [g2, h2], ?_, fun t h5 h6 => ?_⟩
  · rw [e2, e, cellsL_append_39]
    have hcl2 : (cellsL_39 ((l.take j).filter p)).length = c * 4 := by rw [cellsL_len_39, hc]
    apply List.ext_getElem?
    intro i
    have hci : c * 4 + 4 ≤ cap * 4 := by omega
    by_cases hi : i < (c + 1) * 4
    · rw [List.getElem?_take_of_lt hi, Array.getElem?_toList, g3 i (by omega)]
      by_cases hi2 : i < c * 4
      · rw [if_neg (by omega), List.getElem?_append_left (by rw [hcl2]; exact hi2), ← h3, List.getElem?_take_of_lt hi2, Array.getElem?_toList]
      · rw [if_pos (by omega), List.getElem?_append_right (by rw [hcl2]; omega), hcl2]
        show _ = (cells1_39 x ++ cellsL_39 [])[i - c * 4]?
        rw [List.getElem?_append_left (by rw [hcl]; omega)]
    · rw [List.getElem?_eq_none (by rw [List.length_take]; omega), List.getElem?_eq_none (by rw [List.length_append, hcl2, cellsL_len_39]; show c * 4 + 1 * 4 ≤ i; omega)]
  · have hlc : l.length * 4 ≤ cap * 4 := Nat.mul_le_mul_right _ hn
    have hcj : c * 4 + 4 ≤ (j + 1) * 4 := by omega
    rw [g3 t (by omega), if_neg (by omega)]
    exact h4 t (by omega) h6
end Go.Proofs.Ytnjgejjijboibaa.Q
end
section
/- nat.least: the least number that no thing of a row has. -/
namespace Go.Proofs.Ytnjgejjijboibaa.Q
open Go.RowKit Go.Proofs.YtnjgejjijboibaaW.PrintWords Go.Proofs.YtnjgejjijboibaaW.PrintLast Go.Proofs.YtnjgejjijboibaaW.PrintMore Go.Proofs.Ytnjgejjijboibaa.L
attribute [local go_sem] Instr.field part asAgg lt_step max2_int min2_int max_two min_two max_three min_three max_four min_four lt_0_1 lt_0_2 lt_1_2 lt_0_3 lt_1_3 lt_2_3 lt_0_4 lt_1_4 lt_2_4 lt_3_4 lt_0_5 lt_1_5 lt_2_5 lt_3_5 lt_4_5 lt_0_6 lt_1_6 lt_2_6 lt_3_6 lt_4_6 lt_5_6 lt_0_7 lt_1_7 lt_2_7 lt_3_7 lt_4_7 lt_5_7 lt_6_7 lt_0_8 lt_1_8 lt_2_8 lt_3_8 lt_4_8 lt_5_8 lt_6_8 lt_7_8
set_option linter.unusedVariables false
set_option linter.unusedSimpArgs false
theorem pigeon : ∀ (m : Nat) (ks : List Int), (∀ i : Nat, 1 ≤ i → i ≤ m → (i : Int) ∈ ks) → m ≤ ks.length
  | 0, ks, _ => Nat.zero_le _
  | m + 1, ks, h => by
    have h1 := h (m + 1) (by omega) (Nat.le_refl _)
    have h2 := pigeon m (ks.erase ((m + 1 : Nat) : Int)) (fun i hi him => (List.mem_erase_of_ne (by omega)).2 (h i hi (by omega)))
    rw [List.length_erase_of_mem h1] at h2
    have := List.length_pos_of_mem h1
    omega
/-- The least number from 1 on that no other is. -/
def leastP (ks : List Int) (n : Int) : Prop := ∃ m : Nat, n = m ∧ 1 ≤ m ∧ m ≤ ks.length + 1 ∧ (m : Int) ∉ ks ∧ ∀ i : Nat, 1 ≤ i → i < m → (i : Int) ∈ ks
theorem grown_of_below {w w' : World} (h : Below w.heap.size w w') : w.grownBy w' none := ⟨h.os, h.tape, h.output, h.size, fun i hi _ => h.block i hi⟩
set_option maxHeartbeats 1600000 in
set_option maxRecDepth 100000 in
theorem least48_runs (A0 : Option Addr) (c0 : Nat) (l0 : List S48) (w : World) (hr0 : Kd.C k48 w A0 l0.length l0) (hl : l0.length ≤ 1000) (hwf : ∀ x ∈ l0, wf64 x.f1) :
    Calls Try.prog 18 #[.slice A0 l0.length c0, .func (.func 19) #[] #[]] w fun e w' => ∃ n, e = .returned (.int .i64 n) ∧ leastP (l0.map fun x => x.f1) n ∧ Below w.heap.size w w' := by
  have HB := Aside0.mk (Below.refl w.heap.size w)
  have HR0 := Aside0.mk hr0
  have HWF := Aside0.mk hwf
  have hm : l0.length ≤ 9223372036854775807 := hr0.2.1
  have hmm := @run_makeMap Try.prog
  obtain ⟨ks, hks⟩ : ∃ ks, (l0.map fun x => x.f1) = ks := ⟨_, rfl⟩
  rw [hks]
  have HKS := Aside0.mk hks
  clear hr0 hwf hks
  go_enter Try.func18, Try.ntmps18
  go_wp2
  go_loopw [12] (fun i wx => ∃ k : Nat, k ≤ l0.length ∧ i = .int .i64 k ∧ Aside0 (wx.ownsMap Try.prog 3 (plainElem (H := Unit) Try.prog 4) w.heap.size k (setT (((l0.take k).map fun x => x.f1).map intK))) ∧ Aside0 (Below w.heap.size w wx)) (fun i _ => l0.length - (intOf i).toNat)
  case atStart => exact ⟨0, Nat.zero_le _, rfl, ⟨World.ownsMap_made _ _ _ _⟩, ⟨Below.alloc (Below.refl _ _) (Nat.le_refl _) _⟩⟩
  case round =>
    clear HB
    obtain ⟨k, hk, rfl, HO, HB⟩ := hrel
    have hz := HB.out.size
    by_cases hlt : k < l0.length
    · obtain ⟨ad, rfl, hc0, hc1, hc2, hc3, hc4⟩ := at_T48 (Kd.C_below HR0.out HB.out) (k : Int) (by omega) (by omega)
      rw [Int.toNat_natCast] at hc0 hc1 hc2 hc3 hc4
      obtain ⟨x, hx⟩ : ∃ x, rd_T48 l0 (k : Int) = x := ⟨_, rfl⟩
      rw [hx] at hc0 hc1 hc2 hc3 hc4
      have hx' : l0[k] = x := by rw [← hx]; unfold rd_T48; rw [Int.toNat_natCast, List.getD_eq_getElem?_getD, List.getElem?_eq_getElem hlt]; rfl
      have HKX : Aside0 (keyOf Try.prog 3 (.int .i64 x.f1) = some (intK x.f1)) := ⟨key3 (by rw [← hx']; exact HWF.out _ (List.getElem_mem hlt))⟩
      have HT : Aside0 (((l0.take (k + 1)).map fun x => x.f1).map intK = (((l0.take k).map fun x => x.f1).map intK) ++ [intK x.f1]) := ⟨by rw [List.take_add_one, List.getElem?_eq_getElem hlt, hx']; simp [Option.toList]⟩
      have HLT := Aside0.mk hlt
      have hlt' : (k : Int) < (l0.length : Int) := by omega
      have hkm : k < maxLen := by unfold maxLen; omega
      clear hx hx' hlt
      go_wp2_with fail
      go_at_call 19
      with_reducible refine (host_runs _ _ _ _ _ _).mono ?_
      rintro e_ w1 ⟨rfl, hb_⟩
      have HO1 := Aside0.mk ((HO.out.alloc _).kept (grown_of_below hb_) (by simp))
      have HB1 : Aside0 (Below w.heap.size w w1) := ⟨HB.out.trans ((Below.alloc (Below.refl _ wr) hz _).trans (Below.mono hb_ (by simp; omega)))⟩
      have hz1 := HB1.out.size
      clear hb_ HO HB
      go_wp2_with (first | (at_mapUpdate; refine wpList_mapUpdate_own _ rfl _ _ _ 54 rfl 3 4 law3 Try.underlying54 _ w.heap.size k _ rfl HO1.out hkm _ _ _ rfl rfl HKX.out _ [] (plainElem_bool Try.underlying4 true) ?_; intro w2 hown2 hgrow2; have HO2_ := Aside0.mk hown2; have HB2_ : Aside0 (Below w.heap.size w w2) := ⟨HB1.out.grown hgrow2 HB1.out.size (fun j hj => by cases hj; exact Nat.le_refl _)⟩; clear hown2 hgrow2))
      go_roundw
      case rel => exact ⟨k + 1, by have := HLT.out; omega, by go_num, ⟨by rw [HT.out, setT_snoc]; exact HO2_.out⟩, HB2_⟩
      case measure => have := HLT.out; simp [intOf]; omega
    · obtain rfl : k = l0.length := by omega
      have HO1 : Aside0 (wr.ownsMap Try.prog 3 (plainElem (H := Unit) Try.prog 4) w.heap.size l0.length (setT ((l0.map fun x => x.f1).map intK))) := ⟨by have := HO.out; rwa [List.take_length] at this⟩
      clear HO
      have HL : Aside0 (ks.length = l0.length) := ⟨by rw [← HKS.out]; simp⟩
      rw [HKS.out] at HO1
      go_wp2
      go_loopw [8] (fun v wx => ∃ m : Nat, v = .int .i64 m ∧ 1 ≤ m ∧ m ≤ ks.length + 1 ∧ Aside0 (∀ i : Nat, 1 ≤ i → i < m → (i : Int) ∈ ks) ∧ Aside0 (wx.ownsMap Try.prog 3 (plainElem (H := Unit) Try.prog 4) w.heap.size l0.length (setT (ks.map intK))) ∧ Aside0 (Below w.heap.size w wx)) (fun v _ => ks.length + 1 - (intOf v).toNat)
      case atStart => exact ⟨1, rfl, Nat.le_refl _, by omega, ⟨fun i h1 h2 => by omega⟩, HO1, HB⟩
      case round =>
        clear HO1 HB hz
        obtain ⟨m, rfl, h1, h2, HA, HO, HB⟩ := hrel
        have hln := HL.out
        have hwm : IntKind.i64.wrap ((m : Int) + 1) = (m : Int) + 1 := by rw [IntKind.wrap_i64]; omega
        have HKM : Aside0 (keyOf Try.prog 3 (.int .i64 (m : Int)) = some (intK m)) := ⟨key3 (by unfold wf64; omega)⟩
        obtain ⟨r, hr⟩ : ∃ r, ks.contains (m : Int) = r := ⟨_, rfl⟩
        have HRR : Aside0 ((setT (ks.map intK)).atKey (intK m) (.lit (.bool false)) = .lit (.bool r)) := ⟨by rw [at_intK, hr]⟩
        have HC := Aside0.mk hr
        clear hr
        cases r
        case true =>
          have hall : ∀ i : Nat, 1 ≤ i → i ≤ m → (i : Int) ∈ ks := fun i hi him => by
            rcases Nat.lt_or_eq_of_le him with h | rfl
            · exact HA.out i hi h
            · exact List.contains_iff_mem.1 HC.out
          have HPG := Aside0.mk (pigeon m ks hall)
          have HALL := Aside0.mk hall
          clear hall
          go_wp2_with (first | (at_lookup; refine wpList_lookup_bool _ rfl _ _ 54 rfl 3 4 law3 Try.underlying54 Try.underlying4 (zero4 _) w.heap.size _ _ rfl HO.out _ _ rfl HKM.out true HRR.out ?_))
          go_roundw
          case rel =>
            have := HPG.out
            exact ⟨m + 1, by go_num, by omega, by omega, ⟨fun i hi him => HALL.out i hi (by omega)⟩, HO, HB⟩
          case measure => have := HPG.out; simp [intOf, hwm]; omega
        case false =>
          go_wp2_with (first | (at_lookup; refine wpList_lookup_bool _ rfl _ _ 54 rfl 3 4 law3 Try.underlying54 Try.underlying4 (zero4 _) w.heap.size _ _ rfl HO.out _ _ rfl HKM.out false HRR.out ?_))
          go_ret
          exact ⟨(m : Int), rfl, ⟨m, rfl, h1, h2, fun hmem => by rw [List.contains_iff_mem.2 hmem] at HC; exact absurd HC.out (by decide), HA.out⟩, HB.out⟩
set_option maxHeartbeats 1600000 in
set_option maxRecDepth 100000 in
theorem least39_runs (A0 : Option Addr) (c0 : Nat) (l0 : List S39) (w : World) (hr0 : Kd.C k39 w A0 l0.length l0) (hl : l0.length ≤ 1000) (hwf : ∀ x ∈ l0, wf64 x.f0) :
    Calls Try.prog 21 #[.slice A0 l0.length c0, .func (.func 22) #[] #[]] w fun e w' => ∃ n, e = .returned (.int .i64 n) ∧ leastP (l0.map fun x => x.f0) n ∧ Below w.heap.size w w' := by
  have HB := Aside0.mk (Below.refl w.heap.size w)
  have HR0 := Aside0.mk hr0
  have HWF := Aside0.mk hwf
  have hm : l0.length ≤ 9223372036854775807 := hr0.2.1
  have hmm := @run_makeMap Try.prog
  obtain ⟨ks, hks⟩ : ∃ ks, (l0.map fun x => x.f0) = ks := ⟨_, rfl⟩
  rw [hks]
  have HKS := Aside0.mk hks
  clear hr0 hwf hks
  go_enter Try.func21, Try.ntmps21
  go_wp2
  go_loopw [12] (fun i wx => ∃ k : Nat, k ≤ l0.length ∧ i = .int .i64 k ∧ Aside0 (wx.ownsMap Try.prog 3 (plainElem (H := Unit) Try.prog 4) w.heap.size k (setT (((l0.take k).map fun x => x.f0).map intK))) ∧ Aside0 (Below w.heap.size w wx)) (fun i _ => l0.length - (intOf i).toNat)
  case atStart => exact ⟨0, Nat.zero_le _, rfl, ⟨World.ownsMap_made _ _ _ _⟩, ⟨Below.alloc (Below.refl _ _) (Nat.le_refl _) _⟩⟩
  case round =>
    clear HB
    obtain ⟨k, hk, rfl, HO, HB⟩ := hrel
    have hz := HB.out.size
    by_cases hlt : k < l0.length
    · obtain ⟨ad, rfl, hc0, hc1, hc2, hc3⟩ := at_T39 (Kd.C_below HR0.out HB.out) (k : Int) (by omega) (by omega)
      rw [Int.toNat_natCast] at hc0 hc1 hc2 hc3
      obtain ⟨x, hx⟩ : ∃ x, rd_T39 l0 (k : Int) = x := ⟨_, rfl⟩
      rw [hx] at hc0 hc1 hc2 hc3
      have hx' : l0[k] = x := by rw [← hx]; unfold rd_T39; rw [Int.toNat_natCast, List.getD_eq_getElem?_getD, List.getElem?_eq_getElem hlt]; rfl
      have HKX : Aside0 (keyOf Try.prog 3 (.int .i64 x.f0) = some (intK x.f0)) := ⟨key3 (by rw [← hx']; exact HWF.out _ (List.getElem_mem hlt))⟩
      have HT : Aside0 (((l0.take (k + 1)).map fun x => x.f0).map intK = (((l0.take k).map fun x => x.f0).map intK) ++ [intK x.f0]) := ⟨by rw [List.take_add_one, List.getElem?_eq_getElem hlt, hx']; simp [Option.toList]⟩
      have HLT := Aside0.mk hlt
      have hlt' : (k : Int) < (l0.length : Int) := by omega
      have hkm : k < maxLen := by unfold maxLen; omega
      clear hx hx' hlt
      go_wp2_with fail
      go_at_call 22
      with_reducible refine (qid_runs _ _ _ _ _).mono ?_
      rintro e_ w1 ⟨rfl, hb_⟩
      have HO1 := Aside0.mk ((HO.out.alloc _).kept (grown_of_below hb_) (by simp))
      have HB1 : Aside0 (Below w.heap.size w w1) := ⟨HB.out.trans ((Below.alloc (Below.refl _ wr) hz _).trans (Below.mono hb_ (by simp; omega)))⟩
      have hz1 := HB1.out.size
      clear hb_ HO HB
      go_wp2_with (first | (at_mapUpdate; refine wpList_mapUpdate_own _ rfl _ _ _ 54 rfl 3 4 law3 Try.underlying54 _ w.heap.size k _ rfl HO1.out hkm _ _ _ rfl rfl HKX.out _ [] (plainElem_bool Try.underlying4 true) ?_; intro w2 hown2 hgrow2; have HO2_ := Aside0.mk hown2; have HB2_ : Aside0 (Below w.heap.size w w2) := ⟨HB1.out.grown hgrow2 HB1.out.size (fun j hj => by cases hj; exact Nat.le_refl _)⟩; clear hown2 hgrow2))
      go_roundw
      case rel => exact ⟨k + 1, by have := HLT.out; omega, by go_num, ⟨by rw [HT.out, setT_snoc]; exact HO2_.out⟩, HB2_⟩
      case measure => have := HLT.out; simp [intOf]; omega
    · obtain rfl : k = l0.length := by omega
      have HO1 : Aside0 (wr.ownsMap Try.prog 3 (plainElem (H := Unit) Try.prog 4) w.heap.size l0.length (setT ((l0.map fun x => x.f0).map intK))) := ⟨by have := HO.out; rwa [List.take_length] at this⟩
      clear HO
      have HL : Aside0 (ks.length = l0.length) := ⟨by rw [← HKS.out]; simp⟩
      rw [HKS.out] at HO1
      go_wp2
      go_loopw [8] (fun v wx => ∃ m : Nat, v = .int .i64 m ∧ 1 ≤ m ∧ m ≤ ks.length + 1 ∧ Aside0 (∀ i : Nat, 1 ≤ i → i < m → (i : Int) ∈ ks) ∧ Aside0 (wx.ownsMap Try.prog 3 (plainElem (H := Unit) Try.prog 4) w.heap.size l0.length (setT (ks.map intK))) ∧ Aside0 (Below w.heap.size w wx)) (fun v _ => ks.length + 1 - (intOf v).toNat)
      case atStart => exact ⟨1, rfl, Nat.le_refl _, by omega, ⟨fun i h1 h2 => by omega⟩, HO1, HB⟩
      case round =>
        clear HO1 HB hz
        obtain ⟨m, rfl, h1, h2, HA, HO, HB⟩ := hrel
        have hln := HL.out
        have hwm : IntKind.i64.wrap ((m : Int) + 1) = (m : Int) + 1 := by rw [IntKind.wrap_i64]; omega
        have HKM : Aside0 (keyOf Try.prog 3 (.int .i64 (m : Int)) = some (intK m)) := ⟨key3 (by unfold wf64; omega)⟩
        obtain ⟨r, hr⟩ : ∃ r, ks.contains (m : Int) = r := ⟨_, rfl⟩
        have HRR : Aside0 ((setT (ks.map intK)).atKey (intK m) (.lit (.bool false)) = .lit (.bool r)) := ⟨by rw [at_intK, hr]⟩
        have HC := Aside0.mk hr
        clear hr
        cases r
        case true =>
          have hall : ∀ i : Nat, 1 ≤ i → i ≤ m → (i : Int) ∈ ks := fun i hi him => by
            rcases Nat.lt_or_eq_of_le him with h | rfl
            · exact HA.out i hi h
            · exact List.contains_iff_mem.1 HC.out
          have HPG := Aside0.mk (pigeon m ks hall)
          have HALL := Aside0.mk hall
          clear hall
          go_wp2_with (first | (at_lookup; refine wpList_lookup_bool _ rfl _ _ 54 rfl 3 4 law3 Try.underlying54 Try.underlying4 (zero4 _) w.heap.size _ _ rfl HO.out _ _ rfl HKM.out true HRR.out ?_))
          go_roundw
          case rel =>
            have := HPG.out
            exact ⟨m + 1, by go_num, by omega, by omega, ⟨fun i hi him => HALL.out i hi (by omega)⟩, HO, HB⟩
          case measure => have := HPG.out; simp [intOf, hwm]; omega
        case false =>
          go_wp2_with (first | (at_lookup; refine wpList_lookup_bool _ rfl _ _ 54 rfl 3 4 law3 Try.underlying54 Try.underlying4 (zero4 _) w.heap.size _ _ rfl HO.out _ _ rfl HKM.out false HRR.out ?_))
          go_ret
          exact ⟨(m : Int), rfl, ⟨m, rfl, h1, h2, fun hmem => by rw [List.contains_iff_mem.2 hmem] at HC; exact absurd HC.out (by decide), HA.out⟩, HB.out⟩
end Go.Proofs.Ytnjgejjijboibaa.Q
end
section
/- Great structs: a store of a whole one into a box of the call's own, its load, both with a value that is a letter. -/
namespace Go.Proofs.Ytnjgejjijboibaa.L
open Go.RowKit Go.Proofs.YtnjgejjijboibaaW.PrintWords
set_option linter.unusedVariables false
theorem st_put {W W' base : World} {i g : Nat} {o : Obj} (h : base.heap[i]? = some o) (hk : ∀ i, i ≠ g → W'.heap[i]? = W.heap[i]?) (he : base.heap[i]? = some o → W.heap[i]? = some o) (hi : i ≠ g) : W'.heap[i]? = some o := (hk i hi).trans (he h)
theorem st_set {g : Nat} {t : TypeId} : ∀ (vs pre old : List Value) (W : World), W.heap[g]? = some (.cells (pre ++ old).toArray t (0, 0)) → old.length = vs.length → (W.setCells g pre.length vs).heap[g]? = some (.cells (pre ++ vs).toArray t (0, 0))
  | [], pre, old, W, h, hl => by
    obtain rfl : old = [] := List.length_eq_zero_iff.1 hl
    exact h
  | v :: vs, pre, [], W, h, hl => by cases hl
  | v :: vs, pre, o :: old, W, h, hl => by
    have h1 : (W.setCell ⟨g, pre.length, none⟩ v).heap[g]? = some (.cells ((pre ++ [v]) ++ old).toArray t (0, 0)) := blk_put h pre.length v (by rw [List.setIfInBounds_toArray]; simp)
    have h2 := st_set vs (pre ++ [v]) old _ h1 (by simpa using hl)
    rw [List.length_append, List.length_singleton, List.append_assoc, List.singleton_append] at h2
    exact h2
theorem st_keep {g : Nat} : ∀ (vs : List Value) (o : Nat) (W : World) (i : Nat), i ≠ g → (W.setCells g o vs).heap[i]? = W.heap[i]?
  | [], o, W, i, hi => rfl
  | v :: vs, o, W, i, hi => (st_keep vs (o + 1) _ i hi).trans (Below.heap_setCell W ⟨g, o, none⟩ v i hi)
theorem st_size {g : Nat} : ∀ (vs : List Value) (o : Nat) (W : World), (W.setCells g o vs).heap.size = W.heap.size
  | [], o, W => rfl
  | v :: vs, o, W => (st_size vs (o + 1) _).trans (by simp)
theorem st_below {g : Nat} {w : World} : ∀ (vs : List Value) (o : Nat) (W : World), Below g w W → Below g w (W.setCells g o vs)
  | [], o, W, h => h
  | v :: vs, o, W, h => st_below vs (o + 1) _ (Below.setCell h (p := ⟨g, o, none⟩) (Nat.le_refl _) v)
theorem st_there {W : World} {g n : Nat} {cs : Array Value} {t : TypeId} (h : W.heap[g]? = some (.cells cs t (0, 0))) (hn : cs.size = n) : W.there g 0 n := fun j hj => by
  obtain ⟨h1, h2, _⟩ := cells_of h
  rw [h1, h2]
  simp [hn, hj]
section
variable {P : Program} {ops : Array Oper} {rest : List Oper} {o : Oper} {a : Act} {Q : Exit → Act → World → Prop} {W : World}
/-- What a store of a whole struct leaves. -/
def Stored (g : Nat) (cells : Array Value) (t : TypeId) (W w1 : World) : Prop := w1.heap[g]? = some (.cells cells t (0, 0)) ∧ (∀ i, i ≠ g → w1.heap[i]? = W.heap[i]?) ∧ Below g W w1 ∧ w1.heap.size = W.heap.size
theorem st_done {g : Nat} {cells cs0 : Array Value} {t : TypeId} (hg : W.heap[g]? = some (.cells cs0 t (0, 0))) (hs : cs0.size = cells.size) : Stored g cells t W (W.setCells g 0 cells.toList) := by
  refine ⟨?_, fun i hi => st_keep _ _ _ i hi, st_below _ _ _ (Below.refl _ _), st_size _ _ _⟩
  have := st_set cells.toList [] cs0.toList W (by simpa using hg) (by simpa using hs)
  simpa using this
theorem st_eq {t t2 : TypeId} {x y : Operand} {R S : Array Value} {b : Bool} (hgd : o.guard = none) (ho : o.op = .binOp .eql t x y t2) (hx : a.eval x = .agg R) (hy : a.eval y = .agg S)
    (hr : (eqGuard .eql t x y (.agg R) (.agg S)).run P W = .ok () W ∧ (binOp .eql t (.agg R) (.agg S)).run P W = .ok (.bool b) W) (h : wpList P ops Q rest (a.put o.dst (.bool b)) W) : wpList P ops Q (o :: rest) a W := by
  refine Kd.event_run (v := .bool b) (w1 := W) hgd ?_ h
  unfold execOp
  simp only [ho, hx, hy, Sem.run_bind, hr.1, hr.2, Result.andThen_ok, Sem.run_pure]
end
end Go.Proofs.Ytnjgejjijboibaa.L
end
section
/- A region that draws its order, walked in one way: whole rows loaded, stored; calls whose world is 'Below'. -/
namespace Go.Proofs.Ytnjgejjijboibaa.L
open Go.RowKit Go.Proofs.YtnjgejjijboibaaW.PrintWords Go.Proofs.YtnjgejjijboibaaW.PrintLast
set_option linter.unusedVariables false
theorem letter4 (w : World) (o p q r : Obj) : ∃ w1, (((w.alloc o).alloc p).alloc q).alloc r = w1 ∧ w1.heap[w.heap.size]? = some o ∧ w1.heap[w.heap.size + 1]? = some p ∧ w1.heap[w.heap.size + 1 + 1]? = some q ∧ w1.heap[w.heap.size + 1 + 1 + 1]? = some r ∧ Below w.heap.size w w1 ∧ w1.heap.size = w.heap.size + 1 + 1 + 1 + 1 := ⟨_, rfl, ext_alloc (ext_alloc (ext_alloc (nb_1 w o) p) q) r, ext_alloc (ext_alloc (nb_2 w o p) q) r, ext_alloc (nb_3 w o p q) r, nb_4 w o p q r, Below.alloc (Below.alloc (Below.alloc (Below.alloc (Below.refl _ _) (Nat.le_refl _) _) (by simp) _) (by simp; omega) _) (by simp; omega) _, by simp⟩
section
variable {P : Program} {ops : Array Oper} {Q : Exit → Act → World → Prop} {md : Region.Mode} {S : World → Prop} {ds : List Nat} {a : Act} {w : World} {i fuel : Nat} {N : Option Tmp} {oi : Oper} {l : Array Bool}
theorem rowL_ (l' : Array Bool) (hi : ops[i]? = some oi) (hN : oi.dst = N) (hc : takeB md ops ds l l' i = true) (ty : TypeId) (x : Operand) (ho : oi.op = .load ty x) (g : Nat) (cs : Array Value)
    (hQ : ∀ c a w, Q (.panic c) (a.put oi.dst (.agg cs)) w → Q (.panic c) a w) (hw : Region.wanted oi (yielded ops a.tmps) = true) (hx : a.eval x = .pointer (some ⟨g, 0, none⟩))
    (t : TypeId) (fr : Nat × Nat) (d : TypeDesc) (hSg : ∀ w, S w → w.heap[g]? = some (.cells cs t fr)) (hu : P.underlying ty = some d) (hd : (match d with | .struct _ | .array _ _ => true | _ => false) = true) (hz : (P.info? ty).map (·.size) = some cs.size)
    (hS : S w) {a' : Act} (ha : a.put N (.agg cs) = a') (h : wpAnyLast P md ops Q S ds fuel l' a' w) : wpAnyLast P md ops Q S ds (fuel + 1) l a w := by
  refine take_ (v := .agg cs) l' hi hN hc hQ (.inl ⟨hw, fun w' hw' => ?_⟩) hS ha h
  unfold execOp
  simp only [ho, hx, Instr.loadAt, Instr.sureAddr, Sem.run_bind, Sem.run_pure, Result.andThen_ok, run_loadVar_row w' g t ty cs fr d (hSg w' hw') hu hd hz]
theorem rowS_ (l' : Array Bool) (hi : ops[i]? = some oi) (hN : oi.dst = none) (hc : readyB md ops l l' i = true) (hd : i ∉ ds) (ty : TypeId) (x y : Operand) (ho : oi.op = .store ty x y) (g : Nat) (cells : Array Value)
    (hw : Region.wanted oi (yielded ops a.tmps) = true) (hx : a.eval x = .pointer (some ⟨g, 0, none⟩)) (hy : a.eval y = .agg cells)
    (cs0 : Array Value) (t : TypeId) (hg : w.heap[g]? = some (.cells cs0 t (0, 0))) (hs : cs0.size = cells.size) (hz : (P.info? ty).map (·.size) = some cells.size) (h1 : cells.all (·.oneCell') = true)
    (h : ∀ w1, Stored g cells t w w1 → S w1 ∧ wpAnyLast P md ops Q S ds fuel l' a w1) : wpAnyLast P md ops Q S ds (fuel + 1) l a w := by
  refine one_ l' hi hN hc hd (fun K hK => ?_)
  rw [if_pos hw]
  refine wp_store_mid ty x y ho g 0 cells hx hy (st_there hg hs) hz h1 ?_
  rw [hN]
  have h2 := h _ (st_done hg hs)
  exact hK.out _ _ h2.1 (fun _ => h2.2)
end
end Go.Proofs.Ytnjgejjijboibaa.L
end
section
-- Ytnjgejjijboibaa: written by a program for this claim (several laws of one seat at once)
namespace Go.Proofs.Ytnjgejjijboibaa.Q
open Go.RowKit Go.Proofs.YtnjgejjijboibaaW.PrintWords Go.Proofs.YtnjgejjijboibaaW.PrintLast Go.Proofs.YtnjgejjijboibaaW.PrintMore
attribute [local go_sem] max2_int min2_int max_two min_two max_three min_three max_four min_four   -- for this text's walks alone
set_option linter.unusedVariables false
set_option linter.unusedSimpArgs false

theorem eqA39 (d : Nat) (w : World) (x0 y0 : Int) (x1 y1 : Int) (x2 y2 : Int) (x3 y3 : Int) :
    (Op.equalIn (d + 2) 39 (.agg #[.int .i64 x0, .int .i64 x1, .int .i64 x2, .int .i64 x3]) (.agg #[.int .i64 y0, .int .i64 y1, .int .i64 y2, .int .i64 y3])).run Try.prog w = .ok (x0 == y0 && (x1 == y1 && (x2 == y2 && (x3 == y3)))) w := by
  refine eqA_of Try.underlying39 (by kernel_rfl) ?_
  refine eqf_cons (by rfl) (by go_simp; rfl) (by go_simp; rfl) (by go_simp) ?_
  refine eqf_cons (by rfl) (by go_simp; rfl) (by go_simp; rfl) (by go_simp) ?_
  refine eqf_cons (by rfl) (by go_simp; rfl) (by go_simp; rfl) (by go_simp) ?_
  exact eqf_last (by rfl) (by go_simp; rfl) (by go_simp; rfl) (by go_simp)
end Go.Proofs.Ytnjgejjijboibaa.Q
end
section
-- Ytnjgejjijboibaa: written by a program for this claim (several laws of one seat at once)
namespace Go.Proofs.Ytnjgejjijboibaa.Q
open Go.RowKit Go.Proofs.YtnjgejjijboibaaW.PrintWords Go.Proofs.YtnjgejjijboibaaW.PrintLast Go.Proofs.YtnjgejjijboibaaW.PrintMore
attribute [local go_sem] max2_int min2_int max_two min_two max_three min_three max_four min_four   -- for this text's walks alone
set_option linter.unusedVariables false
set_option linter.unusedSimpArgs false

theorem eqA48 (d : Nat) (w : World) (x0 y0 : Int) (x1 y1 : Int) (x2 y2 : Int) (x3 y3 : Int) (x4 y4 : Int) :
    (Op.equalIn (d + 2) 48 (.agg #[.int .i64 x0, .int .i64 x1, .int .u32 x2, .int .i64 x3, .int .i64 x4]) (.agg #[.int .i64 y0, .int .i64 y1, .int .u32 y2, .int .i64 y3, .int .i64 y4])).run Try.prog w = .ok (x0 == y0 && (x1 == y1 && (x2 == y2 && (x3 == y3 && (x4 == y4))))) w := by
  refine eqA_of Try.underlying48 (by kernel_rfl) ?_
  refine eqf_cons (by rfl) (by go_simp; rfl) (by go_simp; rfl) (by go_simp) ?_
  refine eqf_cons (by rfl) (by go_simp; rfl) (by go_simp; rfl) (by go_simp) ?_
  refine eqf_cons (by rfl) (by go_simp; rfl) (by go_simp; rfl) (by go_simp) ?_
  refine eqf_cons (by rfl) (by go_simp; rfl) (by go_simp; rfl) (by go_simp) ?_
  exact eqf_last (by rfl) (by go_simp; rfl) (by go_simp; rfl) (by go_simp)
end Go.Proofs.Ytnjgejjijboibaa.Q
end
