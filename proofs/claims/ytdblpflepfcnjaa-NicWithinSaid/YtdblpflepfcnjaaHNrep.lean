import Derived.Test.YtdblpflepfcnjaaHZ2
import Derived.Lib.MakeNoZero
import Derived.Test.YtdblpflepfcnjaaHZ1
/- bytes.Repeat([]byte{0xff}, 6). -/
namespace Go.Proofs.Ytdblpflepfcnjaa.Q
open Go.RowKit Go.Proofs.YtdblpflepfcnjaaW.PrintWords Go.Proofs.YtdblpflepfcnjaaW.PrintLast Go.Proofs.YtdblpflepfcnjaaW.PrintMore Go.Proofs.Ytdblpflepfcnjaa.L
attribute [local go_sem] Instr.field part asAgg lt_step max2_int min2_int max_two min_two max_three min_three max_four min_four lt_0_1 lt_0_2 lt_1_2 lt_0_3 lt_1_3 lt_2_3 lt_0_4 lt_1_4 lt_2_4 lt_3_4 lt_0_5 lt_1_5 lt_2_5 lt_3_5 lt_4_5 lt_0_6 lt_1_6 lt_2_6 lt_3_6 lt_4_6 lt_5_6 lt_0_7 lt_1_7 lt_2_7 lt_3_7 lt_4_7 lt_5_7 lt_6_7 lt_0_8 lt_1_8 lt_2_8 lt_3_8 lt_4_8 lt_5_8 lt_6_8 lt_7_8
set_option linter.unusedVariables false
set_option linter.unusedSimpArgs false
set_option maxHeartbeats 1600000 in
set_option maxRecDepth 100000 in
theorem mul64_is (w : World) : Calls Try.prog 66 #[.int .u64 1, .int .u64 6] w fun e w' => e = .returned (.tuple #[.int .u64 0, .int .u64 6]) ∧ w = w' := by
  go_enter Try.func66, Try.ntmps66
  go_wp2
  go_ret2
  exact ⟨rfl, rfl⟩
set_option maxHeartbeats 1600000 in
set_option maxRecDepth 100000 in
theorem mul_is (w : World) : Calls Try.prog 61 #[.int .u64 1, .int .u64 6] w fun e w' => e = .returned (.tuple #[.int .u64 0, .int .u64 6]) ∧ w = w' := by
  go_enter Try.func61, Try.ntmps61
  go_wp2_with (go_at_call 66; (with_reducible refine (mul64_is _).mono ?_); rintro e_ w_ ⟨rfl, rfl⟩)
  go_ret2
  exact ⟨rfl, rfl⟩
def Pre (w : World) (g k : Nat) (W : World) : Prop := ∃ D : Array Value, W.heap[g]? = some (.cells D 5 (0, 0)) ∧ 6 ≤ D.size ∧ (∀ i, i < k → D[i]? = some (.int .u8 255)) ∧ Below w.heap.size w W
theorem Pre_drew {w : World} {g k : Nat} {W : World} (h : Pre w g k W) : Pre w g k W.drew := by
  obtain ⟨D, h1, h2, h3, h4⟩ := h
  exact ⟨D, h1, h2, h3, below_drew h4⟩
theorem Pre_cell {w : World} {g k : Nat} {W : World} (h : Pre w g k W) (j : Nat) (hj : j < k) : W.cell? (Addr.add ⟨g, 0, none⟩ j) = some (.int .u8 255) := by
  obtain ⟨D, h1, h2, h3, h4⟩ := h
  rw [add_eq, (cells_of h1).1, Nat.zero_add]
  exact h3 j hj
theorem cp (w W : World) (g k n m sc : Nat) (ad : Addr) (hp : Pre w g k W) (hgw : w.heap.size ≤ g) (hS : ∀ j, j < n → W.cell? (ad.add j) = some (.int .u8 255)) (hn : n = Nat.min m (6 - k)) (hk : k ≤ 6) :
    ∃ W', (Builtin.copy_ #[23, 23] 3 #[.slice (some ⟨g, k, none⟩) (6 - k) (6 - k), .slice (some ad) m sc]).run Try.prog W = .ok (.int .i64 n) W' ∧ Pre w g (k + n) W' := by
  obtain ⟨D, h1, h2, h3, h4⟩ := hp
  have hle : n ≤ 6 - k := by rw [hn]; exact Nat.min_le_right _ _
  have hr := run_copy_row (P := Try.prog) W 23 23 3 5 g k (6 - k) (6 - k) ad m sc D 5 (List.replicate n (.int .u8 255)) Try.underlying23 infoS h1 (by rw [List.length_replicate]; exact hn)
    (by intro j v hv
        have hj := (List.getElem?_eq_some_iff.1 hv).1
        rw [List.length_replicate] at hj
        rw [List.getElem?_replicate, if_pos hj] at hv
        rw [← hv]; exact hS j hj)
    (by rw [List.length_replicate]; omega) (by intro v hv; rw [List.eq_of_mem_replicate hv]; rfl)
  rw [List.length_replicate] at hr
  refine ⟨_, hr, _, setRow_heap W g _ _ _ _ h1, ?_, ?_, below_setRow h4 hgw _⟩
  · simp; omega
  · intro i hi
    have t1 : (D.toList.take k).length = k := by rw [List.length_take, Array.length_toList]; omega
    rw [List.getElem?_toArray]
    by_cases h : i < k
    · rw [List.append_assoc, List.getElem?_append_left (by omega), List.getElem?_take_of_lt h, Array.getElem?_toList]
      exact h3 i h
    · rw [List.append_assoc, List.getElem?_append_right (by omega), List.getElem?_append_left (by rw [List.length_replicate]; omega), t1, List.getElem?_replicate, if_pos (by omega)]
theorem Pre_F {w : World} {g : Nat} {W : World} (h : Pre w g 6 W) (hgw : w.heap.size ≤ g) : Kd.F (Kd.int .u8) W (fun j => w.heap.size ≤ j) (some ⟨g, 0, none⟩) 6 (List.replicate 6 255) := by
  refine F_of_C ?_ (fun ad e _ => by injection e with e; rw [← e]; exact hgw)
  refine Kd.C_of_reads (d := (0 : Int)) ⟨rfl, by decide, fun _ => ⟨_, rfl, fun j hj => ?_⟩⟩
  rw [Pre_cell h j hj]
  match j, hj with
  | 0, _ => rfl
  | 1, _ => rfl
  | 2, _ => rfl
  | 3, _ => rfl
  | 4, _ => rfl
  | 5, _ => rfl
  | n + 6, hj => omega
set_option maxHeartbeats 1600000 in
set_option maxRecDepth 100000 in
theorem repeat_is (b : Nat) (w : World) (hb : w.heap[b]? = some (.cells #[.int .u8 255] 5 (0, 0))) :
    Calls Try.prog 57 #[.slice (some ⟨b, 0, none⟩) 1 1, .int .i64 6] w fun e w' => ∃ g c, e = .returned (.slice (some ⟨g, 0, none⟩) 6 c) ∧ 6 ≤ c ∧ Kd.F (Kd.int .u8) w' (fun j => w.heap.size ≤ j) (some ⟨g, 0, none⟩) 6 (List.replicate 6 255) ∧ Below w.heap.size w w' := by
  obtain ⟨i096, hi096, _, hsz96, _⟩ := info_parts infoB
  obtain ⟨cs, hrunM, hle, _⟩ := Lib.run_makeNoZero (P := Try.prog) w #[3] 23 5 Try.underlying23 6 (by omega)
  have hcall : (callFunc 62 #[.int .i64 6]).run Try.prog w = .ok (.value (.slice (some ⟨w.heap.size, 0, none⟩) 6 cs.size)) ((w.alloc (.cells cs 5)).drewN 2) := by
    rw [run_callFunc_extern Try.func62 (by kernel_rfl) (by kernel_rfl) (by kernel_rfl) (e := Extern.BytealgMakeNoZero.makeNoZero #[3] #[23]) (by kernel_rfl), show (Value.int .i64 6) = .int .i64 ((6 : Nat) : Int) from rfl, hrunM]
    rfl
  obtain ⟨w1, hw1⟩ : ∃ w1, (w.alloc (.cells cs 5)).drewN 2 = w1 := ⟨_, rfl⟩
  rw [hw1] at hcall
  have P0 : Pre w w.heap.size 0 w1 := by
    subst hw1
    exact ⟨cs, ext_drewN (nb_1 w _) 2, hle, fun i hi => absurd hi (by omega), pw_below_drewN (below_alloc (Below.refl _ _) _) 2⟩
  have hlb : b < w.heap.size := (Array.getElem?_eq_some_iff.1 hb).1
  have hb1 : w1.cell? (Addr.add ⟨b, 0, none⟩ 0) = some (.int .u8 255) := by
    rw [add_eq]
    obtain ⟨D, h1, h2, h3, h4⟩ := P0
    rw [(cells_of (box_below h4 hb)).1]
    rfl
  clear hw1 hrunM hb
  have hcut := cut3_hm (P := Try.prog) 23 5 Try.underlying23 hi096 (some ⟨w.heap.size, 0, none⟩) 6 cs.size 6 6 (Nat.le_refl _) hle
  have hf1 := cut_from (P := Try.prog) 23 5 .i64 Try.underlying23 hi096 1 hsz96 (some ⟨w.heap.size, 0, none⟩) 6 6 1 (by decide) (by decide)
  have hf2 := cut_from (P := Try.prog) 23 5 .i64 Try.underlying23 hi096 1 hsz96 (some ⟨w.heap.size, 0, none⟩) 6 6 2 (by decide) (by decide)
  have hf4 := cut_from (P := Try.prog) 23 5 .i64 Try.underlying23 hi096 1 hsz96 (some ⟨w.heap.size, 0, none⟩) 6 6 4 (by decide) (by decide)
  rw [if_neg (by decide)] at hf1 hf2 hf4
  simp only [Option.map_some, add_eq, Nat.zero_add, Nat.mul_one] at hf1 hf2 hf4
  have ht1 := cut_to (P := Try.prog) 23 5 .i64 Try.underlying23 hi096 (some ⟨w.heap.size, 0, none⟩) 6 6 1 (by decide) (by decide) (by decide)
  have ht2 := cut_to (P := Try.prog) 23 5 .i64 Try.underlying23 hi096 (some ⟨w.heap.size, 0, none⟩) 6 6 2 (by decide) (by decide) (by decide)
  have ht4 := cut_to (P := Try.prog) 23 5 .i64 Try.underlying23 hi096 (some ⟨w.heap.size, 0, none⟩) 6 6 4 (by decide) (by decide) (by decide)
  obtain ⟨w2, hc1, P1⟩ : ∃ w2, (Builtin.copy_ #[23, 23] 3 #[.slice (some ⟨w.heap.size, 0, none⟩) 6 6, .slice (some ⟨b, 0, none⟩) 1 1]).run Try.prog w1 = .ok (.int .i64 1) w2 ∧ Pre w w.heap.size 1 w2 := cp w w1 w.heap.size 0 1 1 1 ⟨b, 0, none⟩ P0 (Nat.le_refl _) (fun j hj => by obtain rfl : j = 0 := (by omega); exact hb1) rfl (by decide)
  obtain ⟨w3, hc2, P2⟩ : ∃ w3, (Builtin.copy_ #[23, 23] 3 #[.slice (some ⟨w.heap.size, 1, none⟩) 5 5, .slice (some ⟨w.heap.size, 0, none⟩) 1 6]).run Try.prog w2.drew = .ok (.int .i64 1) w3 ∧ Pre w w.heap.size 2 w3 := cp w w2.drew w.heap.size 1 1 1 6 ⟨w.heap.size, 0, none⟩ (Pre_drew P1) (Nat.le_refl _) (fun j hj => Pre_cell (Pre_drew P1) j hj) rfl (by decide)
  obtain ⟨w4, hc3, P4⟩ : ∃ w4, (Builtin.copy_ #[23, 23] 3 #[.slice (some ⟨w.heap.size, 2, none⟩) 4 4, .slice (some ⟨w.heap.size, 0, none⟩) 2 6]).run Try.prog w3.drew = .ok (.int .i64 2) w4 ∧ Pre w w.heap.size 4 w4 := cp w w3.drew w.heap.size 2 2 2 6 ⟨w.heap.size, 0, none⟩ (Pre_drew P2) (Nat.le_refl _) (fun j hj => Pre_cell (Pre_drew P2) j hj) rfl (by decide)
  obtain ⟨w5, hc4, P6⟩ : ∃ w5, (Builtin.copy_ #[23, 23] 3 #[.slice (some ⟨w.heap.size, 4, none⟩) 2 2, .slice (some ⟨w.heap.size, 0, none⟩) 4 6]).run Try.prog w4.drew = .ok (.int .i64 2) w5 ∧ Pre w w.heap.size 6 w5 := cp w w4.drew w.heap.size 4 2 4 6 ⟨w.heap.size, 0, none⟩ (Pre_drew P4) (Nat.le_refl _) (fun j hj => Pre_cell (Pre_drew P4) j (by omega)) rfl (by decide)
  have HF := Aside0.mk (Pre_F P6 (Nat.le_refl _))
  obtain ⟨_, _, _, _, hBB⟩ := P6
  have HB := Aside0.mk hBB
  clear P0 P1 P2 P4 hb1 hBB hi096 hsz96
  have hlei : (6 : Int) ≤ (cs.size : Int) := by omega
  have hw2 : wrap64 2 = 2 := w64 (by decide) (by decide)
  have hw4 : wrap64 4 = 4 := w64 (by decide) (by decide)
  have hw6 : wrap64 6 = 6 := w64 (by decide) (by decide)
  go_enter Try.func57, Try.ntmps57
  go_wp2_with (go_at_call 61; (with_reducible refine (mul_is _).mono ?_); rintro e_ w_ ⟨rfl, rfl⟩)
  refine wp_loop_rounds 4 ?_
  rw [rounds_succ]
  go_wp2
  refine start_ (n := 10) (S := fun w' => True) (ds := []) #[false, false, false, false, false, false, false, false, false, false] (by kernel_rfl) rfl rfl trivial (fun hHeld => ?_)
  refine pure_ (i := 0) (N := some 67) (v := ?_) (a' := ?_) #[true, false, false, false, false, false, false, false, false, false] rfl rfl (by kernel_rfl) (fun _ _ _ h => h) (Or.inl ⟨by rfl, ?_⟩) ?_ ?_
  rotate_left
  · intro w'
    go_simp
    with_reducible rfl
  rotate_left
  · simp only [Act.put, List.setIfInBounds_toArray, List.set_cons_zero, List.set_cons_succ, i64_w, i32_w]
    rfl
  refine pure_ (i := 1) (N := some 68) (v := ?_) (a' := ?_) #[true, true, false, false, false, false, false, false, false, false] rfl rfl (by kernel_rfl) (fun _ _ _ h => h) (Or.inl ⟨by rfl, ?_⟩) ?_ ?_
  rotate_left
  · intro w'
    go_simp
    with_reducible rfl
  rotate_left
  · simp only [Act.put, List.setIfInBounds_toArray, List.set_cons_zero, List.set_cons_succ, i64_w, i32_w]
    rfl
  refine pure_ (i := 2) (N := some 69) (v := ?_) (a' := ?_) #[true, true, true, false, false, false, false, false, false, false] rfl rfl (by kernel_rfl) (fun _ _ _ h => h) (Or.inl ⟨by rfl, ?_⟩) ?_ ?_
  rotate_left
  · intro w'
    go_simp
    with_reducible rfl
  rotate_left
  · simp only [Act.put, List.setIfInBounds_toArray, List.set_cons_zero, List.set_cons_succ, i64_w, i32_w]
    rfl
  refine pure_ (i := 3) (N := some 70) (v := ?_) (a' := ?_) #[true, true, true, true, false, false, false, false, false, false] rfl rfl (by kernel_rfl) (fun _ _ _ h => h) (Or.inl ⟨by rfl, ?_⟩) ?_ ?_
  rotate_left
  · intro w'
    go_simp
    with_reducible rfl
  rotate_left
  · simp only [Act.put, List.setIfInBounds_toArray, List.set_cons_zero, List.set_cons_succ, i64_w, i32_w]
    rfl
  refine pure_ (i := 4) (N := some 71) (v := ?_) (a' := ?_) #[true, true, true, true, true, false, false, false, false, false] rfl rfl (by kernel_rfl) (fun _ _ _ h => h) (Or.inl ⟨by rfl, ?_⟩) ?_ ?_
  rotate_left
  · intro w'
    go_simp
    with_reducible rfl
  rotate_left
  · simp only [Act.put, List.setIfInBounds_toArray, List.set_cons_zero, List.set_cons_succ, i64_w, i32_w]
    rfl
  refine pure_ (i := 5) (N := some 72) (v := ?_) (a' := ?_) #[true, true, true, true, true, true, false, false, false, false] rfl rfl (by kernel_rfl) (fun _ _ _ h => h) (Or.inl ⟨by rfl, ?_⟩) ?_ ?_
  rotate_left
  · intro w'
    go_simp
    with_reducible rfl
  rotate_left
  · simp only [Act.put, List.setIfInBounds_toArray, List.set_cons_zero, List.set_cons_succ, i64_w, i32_w]
    rfl
  refine pure_ (i := 6) (N := some 73) (v := ?_) (a' := ?_) #[true, true, true, true, true, true, true, false, false, false] rfl rfl (by kernel_rfl) (fun _ _ _ h => h) (Or.inl ⟨by rfl, ?_⟩) ?_ ?_
  rotate_left
  · intro w'
    go_simp
    with_reducible rfl
  rotate_left
  · simp only [Act.put, List.setIfInBounds_toArray, List.set_cons_zero, List.set_cons_succ, i64_w, i32_w]
    rfl
  refine one_ (i := 7) (N := some 74) #[true, true, true, true, true, true, true, true, false, false] rfl rfl (by kernel_rfl) (by decide) (fun K hK => ?_)
  refine val_ (v := .int .i64 1) (w1 := w3) (by rfl) rfl ?_ ?_
  · go_simp
  refine hK.out _ _ trivial (fun hHeld => ?_)
  clear hK K
  refine norm_ (a' := ?_) ?_ ?_
  rotate_left
  · simp only [Act.put, List.setIfInBounds_toArray, List.set_cons_zero, List.set_cons_succ, i64_w, i32_w]
    rfl
  refine pure_ (i := 8) (N := some 75) (v := ?_) (a' := ?_) #[true, true, true, true, true, true, true, true, true, false] rfl rfl (by kernel_rfl) (fun _ _ _ h => h) (Or.inl ⟨by rfl, ?_⟩) ?_ ?_
  rotate_left
  · intro w'
    go_simp
    with_reducible rfl
  rotate_left
  · simp only [Act.put, List.setIfInBounds_toArray, List.set_cons_zero, List.set_cons_succ, i64_w, i32_w]
    rfl
  refine pure_ (i := 9) (N := some 10) (v := ?_) (a' := ?_) #[true, true, true, true, true, true, true, true, true, true] rfl rfl (by kernel_rfl) (fun _ _ _ h => h) (Or.inl ⟨by rfl, ?_⟩) ?_ ?_
  rotate_left
  · intro w'
    go_simp
    with_reducible rfl
  rotate_left
  · simp only [Act.put, List.setIfInBounds_toArray, List.set_cons_zero, List.set_cons_succ, i64_w, i32_w]
    rfl
  refine done_ (by kernel_rfl) ?_
  go_wp2
  rw [rounds_succ]
  go_wp2
  refine start_ (n := 10) (S := fun w' => True) (ds := []) #[false, false, false, false, false, false, false, false, false, false] (by kernel_rfl) rfl rfl trivial (fun hHeld => ?_)
  refine pure_ (i := 0) (N := some 67) (v := ?_) (a' := ?_) #[true, false, false, false, false, false, false, false, false, false] rfl rfl (by kernel_rfl) (fun _ _ _ h => h) (Or.inl ⟨by rfl, ?_⟩) ?_ ?_
  rotate_left
  · intro w'
    go_simp
    with_reducible rfl
  rotate_left
  · simp only [Act.put, List.setIfInBounds_toArray, List.set_cons_zero, List.set_cons_succ, i64_w, i32_w]
    rfl
  refine pure_ (i := 1) (N := some 68) (v := ?_) (a' := ?_) #[true, true, false, false, false, false, false, false, false, false] rfl rfl (by kernel_rfl) (fun _ _ _ h => h) (Or.inl ⟨by rfl, ?_⟩) ?_ ?_
  rotate_left
  · intro w'
    go_simp
    with_reducible rfl
  rotate_left
  · simp only [Act.put, List.setIfInBounds_toArray, List.set_cons_zero, List.set_cons_succ, i64_w, i32_w]
    rfl
  refine pure_ (i := 2) (N := some 69) (v := ?_) (a' := ?_) #[true, true, true, false, false, false, false, false, false, false] rfl rfl (by kernel_rfl) (fun _ _ _ h => h) (Or.inl ⟨by rfl, ?_⟩) ?_ ?_
  rotate_left
  · intro w'
    go_simp
    with_reducible rfl
  rotate_left
  · simp only [Act.put, List.setIfInBounds_toArray, List.set_cons_zero, List.set_cons_succ, i64_w, i32_w]
    rfl
  refine pure_ (i := 3) (N := some 70) (v := ?_) (a' := ?_) #[true, true, true, true, false, false, false, false, false, false] rfl rfl (by kernel_rfl) (fun _ _ _ h => h) (Or.inl ⟨by rfl, ?_⟩) ?_ ?_
  rotate_left
  · intro w'
    go_simp
    with_reducible rfl
  rotate_left
  · simp only [Act.put, List.setIfInBounds_toArray, List.set_cons_zero, List.set_cons_succ, i64_w, i32_w]
    rfl
  refine pure_ (i := 4) (N := some 71) (v := ?_) (a' := ?_) #[true, true, true, true, true, false, false, false, false, false] rfl rfl (by kernel_rfl) (fun _ _ _ h => h) (Or.inl ⟨by rfl, ?_⟩) ?_ ?_
  rotate_left
  · intro w'
    go_simp
    with_reducible rfl
  rotate_left
  · simp only [Act.put, List.setIfInBounds_toArray, List.set_cons_zero, List.set_cons_succ, i64_w, i32_w]
    rfl
  refine pure_ (i := 5) (N := some 72) (v := ?_) (a' := ?_) #[true, true, true, true, true, true, false, false, false, false] rfl rfl (by kernel_rfl) (fun _ _ _ h => h) (Or.inl ⟨by rfl, ?_⟩) ?_ ?_
  rotate_left
  · intro w'
    go_simp
    with_reducible rfl
  rotate_left
  · simp only [Act.put, List.setIfInBounds_toArray, List.set_cons_zero, List.set_cons_succ, i64_w, i32_w]
    rfl
  refine pure_ (i := 6) (N := some 73) (v := ?_) (a' := ?_) #[true, true, true, true, true, true, true, false, false, false] rfl rfl (by kernel_rfl) (fun _ _ _ h => h) (Or.inl ⟨by rfl, ?_⟩) ?_ ?_
  rotate_left
  · intro w'
    go_simp
    with_reducible rfl
  rotate_left
  · simp only [Act.put, List.setIfInBounds_toArray, List.set_cons_zero, List.set_cons_succ, i64_w, i32_w]
    rfl
  refine one_ (i := 7) (N := some 74) #[true, true, true, true, true, true, true, true, false, false] rfl rfl (by kernel_rfl) (by decide) (fun K hK => ?_)
  refine val_ (v := .int .i64 2) (w1 := w4) (by rfl) rfl ?_ ?_
  · go_simp
  refine hK.out _ _ trivial (fun hHeld => ?_)
  clear hK K
  refine norm_ (a' := ?_) ?_ ?_
  rotate_left
  · simp only [Act.put, List.setIfInBounds_toArray, List.set_cons_zero, List.set_cons_succ, i64_w, i32_w]
    rfl
  refine pure_ (i := 8) (N := some 75) (v := ?_) (a' := ?_) #[true, true, true, true, true, true, true, true, true, false] rfl rfl (by kernel_rfl) (fun _ _ _ h => h) (Or.inl ⟨by rfl, ?_⟩) ?_ ?_
  rotate_left
  · intro w'
    go_simp
    with_reducible rfl
  rotate_left
  · simp only [Act.put, List.setIfInBounds_toArray, List.set_cons_zero, List.set_cons_succ, i64_w, i32_w]
    rfl
  refine pure_ (i := 9) (N := some 10) (v := ?_) (a' := ?_) #[true, true, true, true, true, true, true, true, true, true] rfl rfl (by kernel_rfl) (fun _ _ _ h => h) (Or.inl ⟨by rfl, ?_⟩) ?_ ?_
  rotate_left
  · intro w'
    go_simp
    with_reducible rfl
  rotate_left
  · simp only [Act.put, List.setIfInBounds_toArray, List.set_cons_zero, List.set_cons_succ, i64_w, i32_w]
    rfl
  refine done_ (by kernel_rfl) ?_
  go_wp2
  rw [rounds_succ]
  go_wp2
  refine start_ (n := 10) (S := fun w' => True) (ds := []) #[false, false, false, false, false, false, false, false, false, false] (by kernel_rfl) rfl rfl trivial (fun hHeld => ?_)
  refine pure_ (i := 0) (N := some 67) (v := ?_) (a' := ?_) #[true, false, false, false, false, false, false, false, false, false] rfl rfl (by kernel_rfl) (fun _ _ _ h => h) (Or.inl ⟨by rfl, ?_⟩) ?_ ?_
  rotate_left
  · intro w'
    go_simp
    with_reducible rfl
  rotate_left
  · simp only [Act.put, List.setIfInBounds_toArray, List.set_cons_zero, List.set_cons_succ, i64_w, i32_w]
    rfl
  refine pure_ (i := 1) (N := some 68) (v := ?_) (a' := ?_) #[true, true, false, false, false, false, false, false, false, false] rfl rfl (by kernel_rfl) (fun _ _ _ h => h) (Or.inl ⟨by rfl, ?_⟩) ?_ ?_
  rotate_left
  · intro w'
    go_simp
    with_reducible rfl
  rotate_left
  · simp only [Act.put, List.setIfInBounds_toArray, List.set_cons_zero, List.set_cons_succ, i64_w, i32_w]
    rfl
  refine pure_ (i := 2) (N := some 69) (v := ?_) (a' := ?_) #[true, true, true, false, false, false, false, false, false, false] rfl rfl (by kernel_rfl) (fun _ _ _ h => h) (Or.inl ⟨by rfl, ?_⟩) ?_ ?_
  rotate_left
  · intro w'
    go_simp
    with_reducible rfl
  rotate_left
  · simp only [Act.put, List.setIfInBounds_toArray, List.set_cons_zero, List.set_cons_succ, i64_w, i32_w]
    rfl
  refine pure_ (i := 3) (N := some 70) (v := ?_) (a' := ?_) #[true, true, true, true, false, false, false, false, false, false] rfl rfl (by kernel_rfl) (fun _ _ _ h => h) (Or.inl ⟨by rfl, ?_⟩) ?_ ?_
  rotate_left
  · intro w'
    go_simp
    with_reducible rfl
  rotate_left
  · simp only [Act.put, List.setIfInBounds_toArray, List.set_cons_zero, List.set_cons_succ, i64_w, i32_w]
    rfl
  refine pure_ (i := 4) (N := some 71) (v := ?_) (a' := ?_) #[true, true, true, true, true, false, false, false, false, false] rfl rfl (by kernel_rfl) (fun _ _ _ h => h) (Or.inl ⟨by rfl, ?_⟩) ?_ ?_
  rotate_left
  · intro w'
    go_simp
    with_reducible rfl
  rotate_left
  · simp only [Act.put, List.setIfInBounds_toArray, List.set_cons_zero, List.set_cons_succ, i64_w, i32_w]
    rfl
  refine pure_ (i := 5) (N := some 72) (v := ?_) (a' := ?_) #[true, true, true, true, true, true, false, false, false, false] rfl rfl (by kernel_rfl) (fun _ _ _ h => h) (Or.inl ⟨by rfl, ?_⟩) ?_ ?_
  rotate_left
  · intro w'
    go_simp
    with_reducible rfl
  rotate_left
  · simp only [Act.put, List.setIfInBounds_toArray, List.set_cons_zero, List.set_cons_succ, i64_w, i32_w]
    rfl
  refine pure_ (i := 6) (N := some 73) (v := ?_) (a' := ?_) #[true, true, true, true, true, true, true, false, false, false] rfl rfl (by kernel_rfl) (fun _ _ _ h => h) (Or.inl ⟨by rfl, ?_⟩) ?_ ?_
  rotate_left
  · intro w'
    go_simp
    with_reducible rfl
  rotate_left
  · simp only [Act.put, List.setIfInBounds_toArray, List.set_cons_zero, List.set_cons_succ, i64_w, i32_w]
    rfl
  refine one_ (i := 7) (N := some 74) #[true, true, true, true, true, true, true, true, false, false] rfl rfl (by kernel_rfl) (by decide) (fun K hK => ?_)
  refine val_ (v := .int .i64 2) (w1 := w5) (by rfl) rfl ?_ ?_
  · go_simp
  refine hK.out _ _ trivial (fun hHeld => ?_)
  clear hK K
  refine norm_ (a' := ?_) ?_ ?_
  rotate_left
  · simp only [Act.put, List.setIfInBounds_toArray, List.set_cons_zero, List.set_cons_succ, i64_w, i32_w]
    rfl
  refine pure_ (i := 8) (N := some 75) (v := ?_) (a' := ?_) #[true, true, true, true, true, true, true, true, true, false] rfl rfl (by kernel_rfl) (fun _ _ _ h => h) (Or.inl ⟨by rfl, ?_⟩) ?_ ?_
  rotate_left
  · intro w'
    go_simp
    with_reducible rfl
  rotate_left
  · simp only [Act.put, List.setIfInBounds_toArray, List.set_cons_zero, List.set_cons_succ, i64_w, i32_w]
    rfl
  refine pure_ (i := 9) (N := some 10) (v := ?_) (a' := ?_) #[true, true, true, true, true, true, true, true, true, true] rfl rfl (by kernel_rfl) (fun _ _ _ h => h) (Or.inl ⟨by rfl, ?_⟩) ?_ ?_
  rotate_left
  · intro w'
    go_simp
    with_reducible rfl
  rotate_left
  · simp only [Act.put, List.setIfInBounds_toArray, List.set_cons_zero, List.set_cons_succ, i64_w, i32_w]
    rfl
  refine done_ (by kernel_rfl) ?_
  go_wp2
  rw [rounds_succ]
  go_wp2
  go_ret
  exact ⟨w.heap.size, 6, rfl, by decide, HF.out, HB.out⟩
end Go.Proofs.Ytdblpflepfcnjaa.Q
