import Derived.Test.YtdblpflepfcnjaaPZ3
import Derived.Lib.MakeNoZero
import Derived.Test.YtdblpflepfcnjaaPZ1
import Derived.Test.YtdblpflepfcnjaaPZ2
import Derived.Laws.BitsAllLaws
import Derived.Laws.BitsLemmas
section
/- bytes.Repeat([]byte{0xff}, 6). -/
namespace Go.Proofs.Ytdblpflepfcnjaa.Q
open Go.RowKit Go.Proofs.YtdblpflepfcnjaaW.PrintWords Go.Proofs.YtdblpflepfcnjaaW.PrintLast Go.Proofs.YtdblpflepfcnjaaW.PrintMore Go.Proofs.Ytdblpflepfcnjaa.L
attribute [local go_sem] Instr.field part asAgg lt_step max2_int min2_int max_two min_two max_three min_three max_four min_four lt_0_1 lt_0_2 lt_1_2 lt_0_3 lt_1_3 lt_2_3 lt_0_4 lt_1_4 lt_2_4 lt_3_4 lt_0_5 lt_1_5 lt_2_5 lt_3_5 lt_4_5 lt_0_6 lt_1_6 lt_2_6 lt_3_6 lt_4_6 lt_5_6 lt_0_7 lt_1_7 lt_2_7 lt_3_7 lt_4_7 lt_5_7 lt_6_7 lt_0_8 lt_1_8 lt_2_8 lt_3_8 lt_4_8 lt_5_8 lt_6_8 lt_7_8
set_option linter.unusedVariables false
set_option linter.unusedSimpArgs false
set_option maxHeartbeats 1600000 in
set_option maxRecDepth 100000 in
theorem mul64_is (w : World) : Calls Try.prog 66 #[.int .u64 1, .int .u64 6] w fun e w' => e = .returned (.tuple #[.int .u64 0, .int .u64 6]) ∧ w = w' := by
  go_enter Try.func66, Try.ntmps66
  go_wp2
  go_ret2
  exact ⟨rfl, rfl⟩
set_option maxHeartbeats 1600000 in
set_option maxRecDepth 100000 in
theorem mul_is (w : World) : Calls Try.prog 61 #[.int .u64 1, .int .u64 6] w fun e w' => e = .returned (.tuple #[.int .u64 0, .int .u64 6]) ∧ w = w' := by
  go_enter Try.func61, Try.ntmps61
  go_wp2_with (go_at_call 66; (with_reducible refine (mul64_is _).mono ?_); rintro e_ w_ ⟨rfl, rfl⟩)
  go_ret2
  exact ⟨rfl, rfl⟩
def Pre (w : World) (g k : Nat) (W : World) : Prop := ∃ D : Array Value, W.heap[g]? = some (.cells D 5 (0, 0)) ∧ 6 ≤ D.size ∧ (∀ i, i < k → D[i]? = some (.int .u8 255)) ∧ Below w.heap.size w W
theorem Pre_drew {w : World} {g k : Nat} {W : World} (h : Pre w g k W) : Pre w g k W.drew := by
  obtain ⟨D, h1, h2, h3, h4⟩ := h
  exact ⟨D, h1, h2, h3, below_drew h4⟩
theorem Pre_cell {w : World} {g k : Nat} {W : World} (h : Pre w g k W) (j : Nat) (hj : j < k) : W.cell? (Addr.add ⟨g, 0, none⟩ j) = some (.int .u8 255) := by
  obtain ⟨D, h1, h2, h3, h4⟩ := h
  rw [add_eq, (cells_of h1).1, Nat.zero_add]
  exact h3 j hj
theorem cp (w W : World) (g k n m sc : Nat) (ad : Addr) (hp : Pre w g k W) (hgw : w.heap.size ≤ g) (hS : ∀ j, j < n → W.cell? (ad.add j) = some (.int .u8 255)) (hn : n = Nat.min m (6 - k)) (hk : k ≤ 6) :
    ∃ W', (Builtin.copy_ #[23, 23] 3 #[.slice (some ⟨g, k, none⟩) (6 - k) (6 - k), .slice (some ad) m sc]).run Try.prog W = .ok (.int .i64 n) W' ∧ Pre w g (k + n) W' := by
  obtain ⟨D, h1, h2, h3, h4⟩ := hp
  have hle : n ≤ 6 - k := by rw [hn]; exact Nat.min_le_right _ _
  have hr := run_copy_row (P := Try.prog) W 23 23 3 5 g k (6 - k) (6 - k) ad m sc D 5 (List.replicate n (.int .u8 255)) Try.underlying23 infoS h1 (by rw [List.length_replicate]; exact hn)
    (by intro j v hv
        have hj := (List.getElem?_eq_some_iff.1 hv).1
        rw [List.length_replicate] at hj
        rw [List.getElem?_replicate, if_pos hj] at hv
        rw [← hv]; exact hS j hj)
    (by rw [List.length_replicate]; omega) (by intro v hv; rw [List.eq_of_mem_replicate hv]; rfl)
  rw [List.length_replicate] at hr
  refine ⟨_, hr, _, setRow_heap W g _ _ _ _ h1, ?_, ?_, below_setRow h4 hgw _⟩
  · simp; omega
  · intro i hi
    have t1 : (D.toList.take k).length = k := by rw [List.length_take, Array.length_toList]; omega
    rw [List.getElem?_toArray]
    by_cases h : i < k
    · rw [List.append_assoc, List.getElem?_append_left (by omega), List.getElem?_take_of_lt h, Array.getElem?_toList]
      exact h3 i h
    · rw [List.append_assoc, List.getElem?_append_right (by omega), List.getElem?_append_left (by rw [List.length_replicate]; omega), t1, List.getElem?_replicate, if_pos (by omega)]
theorem Pre_F {w : World} {g : Nat} {W : World} (h : Pre w g 6 W) (hgw : w.heap.size ≤ g) : Kd.F (Kd.int .u8) W (fun j => w.heap.size ≤ j) (some ⟨g, 0, none⟩) 6 (List.replicate 6 255) := by
  refine F_of_C ?_ (fun ad e _ => by injection e with e; rw [← e]; exact hgw)
  refine Kd.C_of_reads (d := (0 : Int)) ⟨rfl, by decide, fun _ => ⟨_, rfl, fun j hj => ?_⟩⟩
  rw [Pre_cell h j hj]
  match j, hj with
  | 0, _ => rfl
  | 1, _ => rfl
  | 2, _ => rfl
  | 3, _ => rfl
  | 4, _ => rfl
  | 5, _ => rfl
  | n + 6, hj => omega
set_option maxHeartbeats 1600000 in
set_option maxRecDepth 100000 in
theorem repeat_is (b : Nat) (w : World) (hb : w.heap[b]? = some (.cells #[.int .u8 255] 5 (0, 0))) :
    Calls Try.prog 57 #[.slice (some ⟨b, 0, none⟩) 1 1, .int .i64 6] w fun e w' => ∃ g c, e = .returned (.slice (some ⟨g, 0, none⟩) 6 c) ∧ 6 ≤ c ∧ Kd.F (Kd.int .u8) w' (fun j => w.heap.size ≤ j) (some ⟨g, 0, none⟩) 6 (List.replicate 6 255) ∧ Below w.heap.size w w' := by
  obtain ⟨i096, hi096, _, hsz96, _⟩ := info_parts infoB
  obtain ⟨cs, hrunM, hle, _⟩ := Lib.run_makeNoZero (P := Try.prog) w #[3] 23 5 Try.underlying23 6 (by omega)
  have hcall : (callFunc 62 #[.int .i64 6]).run Try.prog w = .ok (.value (.slice (some ⟨w.heap.size, 0, none⟩) 6 cs.size)) ((w.alloc (.cells cs 5)).drewN 2) := by
    rw [run_callFunc_extern Try.func62 (by kernel_rfl) (by kernel_rfl) (by kernel_rfl) (e := Extern.BytealgMakeNoZero.makeNoZero #[3] #[23]) (by kernel_rfl), show (Value.int .i64 6) = .int .i64 ((6 : Nat) : Int) from rfl, hrunM]
    rfl
  obtain ⟨w1, hw1⟩ : ∃ w1, (w.alloc (.cells cs 5)).drewN 2 = w1 := ⟨_, rfl⟩
  rw [hw1] at hcall
  have P0 : Pre w w.heap.size 0 w1 := by
    subst hw1
    exact ⟨cs, ext_drewN (nb_1 w _) 2, hle, fun i hi => absurd hi (by omega), pw_below_drewN (below_alloc (Below.refl _ _) _) 2⟩
  have hlb : b < w.heap.size := (Array.getElem?_eq_some_iff.1 hb).1
  have hb1 : w1.cell? (Addr.add ⟨b, 0, none⟩ 0) = some (.int .u8 255) := by
    rw [add_eq]
    obtain ⟨D, h1, h2, h3, h4⟩ := P0
    rw [(cells_of (box_below h4 hb)).1]
    rfl
  clear hw1 hrunM hb
  have hcut := cut3_hm (P := Try.prog) 23 5 Try.underlying23 hi096 (some ⟨w.heap.size, 0, none⟩) 6 cs.size 6 6 (Nat.le_refl _) hle
  have hf1 := cut_from (P := Try.prog) 23 5 .i64 Try.underlying23 hi096 1 hsz96 (some ⟨w.heap.size, 0, none⟩) 6 6 1 (by decide) (by decide)
  have hf2 := cut_from (P := Try.prog) 23 5 .i64 Try.underlying23 hi096 1 hsz96 (some ⟨w.heap.size, 0, none⟩) 6 6 2 (by decide) (by decide)
  have hf4 := cut_from (P := Try.prog) 23 5 .i64 Try.underlying23 hi096 1 hsz96 (some ⟨w.heap.size, 0, none⟩) 6 6 4 (by decide) (by decide)
  rw [if_neg (by decide)] at hf1 hf2 hf4
  simp only [Option.map_some, add_eq, Nat.zero_add, Nat.mul_one] at hf1 hf2 hf4
  have ht1 := cut_to (P := Try.prog) 23 5 .i64 Try.underlying23 hi096 (some ⟨w.heap.size, 0, none⟩) 6 6 1 (by decide) (by decide) (by decide)
  have ht2 := cut_to (P := Try.prog) 23 5 .i64 Try.underlying23 hi096 (some ⟨w.heap.size, 0, none⟩) 6 6 2 (by decide) (by decide) (by decide)
  have ht4 := cut_to (P := Try.prog) 23 5 .i64 Try.underlying23 hi096 (some ⟨w.heap.size, 0, none⟩) 6 6 4 (by decide) (by decide) (by decide)
  obtain ⟨w2, hc1, P1⟩ : ∃ w2, (Builtin.copy_ #[23, 23] 3 #[.slice (some ⟨w.heap.size, 0, none⟩) 6 6, .slice (some ⟨b, 0, none⟩) 1 1]).run Try.prog w1 = .ok (.int .i64 1) w2 ∧ Pre w w.heap.size 1 w2 := cp w w1 w.heap.size 0 1 1 1 ⟨b, 0, none⟩ P0 (Nat.le_refl _) (fun j hj => by obtain rfl : j = 0 := (by omega); exact hb1) rfl (by decide)
  obtain ⟨w3, hc2, P2⟩ : ∃ w3, (Builtin.copy_ #[23, 23] 3 #[.slice (some ⟨w.heap.size, 1, none⟩) 5 5, .slice (some ⟨w.heap.size, 0, none⟩) 1 6]).run Try.prog w2.drew = .ok (.int .i64 1) w3 ∧ Pre w w.heap.size 2 w3 := cp w w2.drew w.heap.size 1 1 1 6 ⟨w.heap.size, 0, none⟩ (Pre_drew P1) (Nat.le_refl _) (fun j hj => Pre_cell (Pre_drew P1) j hj) rfl (by decide)
  obtain ⟨w4, hc3, P4⟩ : ∃ w4, (Builtin.copy_ #[23, 23] 3 #[.slice (some ⟨w.heap.size, 2, none⟩) 4 4, .slice (some ⟨w.heap.size, 0, none⟩) 2 6]).run Try.prog w3.drew = .ok (.int .i64 2) w4 ∧ Pre w w.heap.size 4 w4 := cp w w3.drew w.heap.size 2 2 2 6 ⟨w.heap.size, 0, none⟩ (Pre_drew P2) (Nat.le_refl _) (fun j hj => Pre_cell (Pre_drew P2) j hj) rfl (by decide)
  obtain ⟨w5, hc4, P6⟩ : ∃ w5, (Builtin.copy_ #[23, 23] 3 #[.slice (some ⟨w.heap.size, 4, none⟩) 2 2, .slice (some ⟨w.heap.size, 0, none⟩) 4 6]).run Try.prog w4.drew = .ok (.int .i64 2) w5 ∧ Pre w w.heap.size 6 w5 := cp w w4.drew w.heap.size 4 2 4 6 ⟨w.heap.size, 0, none⟩ (Pre_drew P4) (Nat.le_refl _) (fun j hj => Pre_cell (Pre_drew P4) j (by omega)) rfl (by decide)
  have HF := Aside0.mk (Pre_F P6 (Nat.le_refl _))
  obtain ⟨_, _, _, _, hBB⟩ := P6
  have HB := Aside0.mk hBB
  clear P0 P1 P2 P4 hb1 hBB hi096 hsz96
  have hlei : (6 : Int) ≤ (cs.size : Int) := by omega
  have hw2 : wrap64 2 = 2 := w64 (by decide) (by decide)
  have hw4 : wrap64 4 = 4 := w64 (by decide) (by decide)
  have hw6 : wrap64 6 = 6 := w64 (by decide) (by decide)
  go_enter Try.func57, Try.ntmps57
  go_wp2_with (go_at_call 61; (with_reducible refine (mul_is _).mono ?_); rintro e_ w_ ⟨rfl, rfl⟩)
  refine wp_loop_rounds 4 ?_
  rw [rounds_succ]
  go_wp2
  refine start_ (n := 10) (S := fun w' => True) (ds := []) #[false, false, false, false, false, false, false, false, false, false] (by kernel_rfl) rfl rfl trivial (fun hHeld => ?_)
  refine pure_ (i := 0) (N := some 67) (v := ?_) (a' := ?_) #[true, false, false, false, false, false, false, false, false, false] rfl rfl (by kernel_rfl) (fun _ _ _ h => h) (Or.inl ⟨by rfl, ?_⟩) ?_ ?_
  rotate_left
  · intro w'
    go_simp
    with_reducible rfl
  rotate_left
  · simp only [Act.put, List.setIfInBounds_toArray, List.set_cons_zero, List.set_cons_succ, i64_w, i32_w]
    rfl
  refine pure_ (i := 1) (N := some 68) (v := ?_) (a' := ?_) #[true, true, false, false, false, false, false, false, false, false] rfl rfl (by kernel_rfl) (fun _ _ _ h => h) (Or.inl ⟨by rfl, ?_⟩) ?_ ?_
  rotate_left
  · intro w'
    go_simp
    with_reducible rfl
  rotate_left
  · simp only [Act.put, List.setIfInBounds_toArray, List.set_cons_zero, List.set_cons_succ, i64_w, i32_w]
    rfl
  refine pure_ (i := 2) (N := some 69) (v := ?_) (a' := ?_) #[true, true, true, false, false, false, false, false, false, false] rfl rfl (by kernel_rfl) (fun _ _ _ h => h) (Or.inl ⟨by rfl, ?_⟩) ?_ ?_
  rotate_left
  · intro w'
    go_simp
    with_reducible rfl
  rotate_left
  · simp only [Act.put, List.setIfInBounds_toArray, List.set_cons_zero, List.set_cons_succ, i64_w, i32_w]
    rfl
  refine pure_ (i := 3) (N := some 70) (v := ?_) (a' := ?_) #[true, true, true, true, false, false, false, false, false, false] rfl rfl (by kernel_rfl) (fun _ _ _ h => h) (Or.inl ⟨by rfl, ?_⟩) ?_ ?_
  rotate_left
  · intro w'
    go_simp
    with_reducible rfl
  rotate_left
  · simp only [Act.put, List.setIfInBounds_toArray, List.set_cons_zero, List.set_cons_succ, i64_w, i32_w]
    rfl
  refine pure_ (i := 4) (N := some 71) (v := ?_) (a' := ?_) #[true, true, true, true, true, false, false, false, false, false] rfl rfl (by kernel_rfl) (fun _ _ _ h => h) (Or.inl ⟨by rfl, ?_⟩) ?_ ?_
  rotate_left
  · intro w'
    go_simp
    with_reducible rfl
  rotate_left
  · simp only [Act.put, List.setIfInBounds_toArray, List.set_cons_zero, List.set_cons_succ, i64_w, i32_w]
    rfl
  refine pure_ (i := 5) (N := some 72) (v := ?_) (a' := ?_) #[true, true, true, true, true, true, false, false, false, false] rfl rfl (by kernel_rfl) (fun _ _ _ h => h) (Or.inl ⟨by rfl, ?_⟩) ?_ ?_
  rotate_left
  · intro w'
    go_simp
    with_reducible rfl
  rotate_left
  · simp only [Act.put, List.setIfInBounds_toArray, List.set_cons_zero, List.set_cons_succ, i64_w, i32_w]
    rfl
  refine pure_ (i := 6) (N := some 73) (v := ?_) (a' := ?_) #[true, true, true, true, true, true, true, false, false, false] rfl rfl (by kernel_rfl) (fun _ _ _ h => h) (Or.inl ⟨by rfl, ?_⟩) ?_ ?_
  rotate_left
  · intro w'
    go_simp
    with_reducible rfl
  rotate_left
  · simp only [Act.put, List.setIfInBounds_toArray, List.set_cons_zero, List.set_cons_succ, i64_w, i32_w]
    rfl
  refine one_ (i := 7) (N := some 74) #[true, true, true, true, true, true, true, true, false, false] rfl rfl (by kernel_rfl) (by decide) (fun K hK => ?_)
  refine val_ (v := .int .i64 1) (w1 := w3) (by rfl) rfl ?_ ?_
  · go_simp
  refine hK.out _ _ trivial (fun hHeld => ?_)
  clear hK K
  refine norm_ (a' := ?_) ?_ ?_
  rotate_left
  · simp only [Act.put, List.setIfInBounds_toArray, List.set_cons_zero, List.set_cons_succ, i64_w, i32_w]
    rfl
  refine pure_ (i := 8) (N := some 75) (v := ?_) (a' := ?_) #[true, true, true, true, true, true, true, true, true, false] rfl rfl (by kernel_rfl) (fun _ _ _ h => h) (Or.inl ⟨by rfl, ?_⟩) ?_ ?_
  rotate_left
  · intro w'
    go_simp
    with_reducible rfl
  rotate_left
  · simp only [Act.put, List.setIfInBounds_toArray, List.set_cons_zero, List.set_cons_succ, i64_w, i32_w]
    rfl
  refine pure_ (i := 9) (N := some 10) (v := ?_) (a' := ?_) #[true, true, true, true, true, true, true, true, true, true] rfl rfl (by kernel_rfl) (fun _ _ _ h => h) (Or.inl ⟨by rfl, ?_⟩) ?_ ?_
  rotate_left
  · intro w'
    go_simp
    with_reducible rfl
  rotate_left
  · simp only [Act.put, List.setIfInBounds_toArray, List.set_cons_zero, List.set_cons_succ, i64_w, i32_w]
    rfl
  refine done_ (by kernel_rfl) ?_
  go_wp2
  rw [rounds_succ]
  go_wp2
  refine start_ (n := 10) (S := fun w' => True) (ds := []) #[false, false, false, false, false, false, false, false, false, false] (by kernel_rfl) rfl rfl trivial (fun hHeld => ?_)
  refine pure_ (i := 0) (N := some 67) (v := ?_) (a' := ?_) #[true, false, false, false, false, false, false, false, false, false] rfl rfl (by kernel_rfl) (fun _ _ _ h => h) (Or.inl ⟨by rfl, ?_⟩) ?_ ?_
  rotate_left
  · intro w'
    go_simp
    with_reducible rfl
  rotate_left
  · simp only [Act.put, List.setIfInBounds_toArray, List.set_cons_zero, List.set_cons_succ, i64_w, i32_w]
    rfl
  refine pure_ (i := 1) (N := some 68) (v := ?_) (a' := ?_) #[true, true, false, false, false, false, false, false, false, false] rfl rfl (by kernel_rfl) (fun _ _ _ h => h) (Or.inl ⟨by rfl, ?_⟩) ?_ ?_
  rotate_left
  · intro w'
    go_simp
    with_reducible rfl
  rotate_left
  · simp only [Act.put, List.setIfInBounds_toArray, List.set_cons_zero, List.set_cons_succ, i64_w, i32_w]
    rfl
  refine pure_ (i := 2) (N := some 69) (v := ?_) (a' := ?_) #[true, true, true, false, false, false, false, false, false, false] rfl rfl (by kernel_rfl) (fun _ _ _ h => h) (Or.inl ⟨by rfl, ?_⟩) ?_ ?_
  rotate_left
  · intro w'
    go_simp
    with_reducible rfl
  rotate_left
  · simp only [Act.put, List.setIfInBounds_toArray, List.set_cons_zero, List.set_cons_succ, i64_w, i32_w]
    rfl
  refine pure_ (i := 3) (N := some 70) (v := ?_) (a' := ?_) #[true, true, true, true, false, false, false, false, false, false] rfl rfl (by kernel_rfl) (fun _ _ _ h => h) (Or.inl ⟨by rfl, ?_⟩) ?_ ?_
  rotate_left
  · intro w'
    go_simp
    with_reducible rfl
  rotate_left
  · simp only [Act.put, List.setIfInBounds_toArray, List.set_cons_zero, List.set_cons_succ, i64_w, i32_w]
    rfl
  refine pure_ (i := 4) (N := some 71) (v := ?_) (a' := ?_) #[true, true, true, true, true, false, false, false, false, false] rfl rfl (by kernel_rfl) (fun _ _ _ h => h) (Or.inl ⟨by rfl, ?_⟩) ?_ ?_
  rotate_left
  · intro w'
    go_simp
    with_reducible rfl
  rotate_left
  · simp only [Act.put, List.setIfInBounds_toArray, List.set_cons_zero, List.set_cons_succ, i64_w, i32_w]
    rfl
  refine pure_ (i := 5) (N := some 72) (v := ?_) (a' := ?_) #[true, true, true, true, true, true, false, false, false, false] rfl rfl (by kernel_rfl) (fun _ _ _ h => h) (Or.inl ⟨by rfl, ?_⟩) ?_ ?_
  rotate_left
  · intro w'
    go_simp
    with_reducible rfl
  rotate_left
  · simp only [Act.put, List.setIfInBounds_toArray, List.set_cons_zero, List.set_cons_succ, i64_w, i32_w]
    rfl
  refine pure_ (i := 6) (N := some 73) (v := ?_) (a' := ?_) #[true, true, true, true, true, true, true, false, false, false] rfl rfl (by kernel_rfl) (fun _ _ _ h => h) (Or.inl ⟨by rfl, ?_⟩) ?_ ?_
  rotate_left
  · intro w'
    go_simp
    with_reducible rfl
  rotate_left
  · simp only [Act.put, List.setIfInBounds_toArray, List.set_cons_zero, List.set_cons_succ, i64_w, i32_w]
    rfl
  refine one_ (i := 7) (N := some 74) #[true, true, true, true, true, true, true, true, false, false] rfl rfl (by kernel_rfl) (by decide) (fun K hK => ?_)
  refine val_ (v := .int .i64 2) (w1 := w4) (by rfl) rfl ?_ ?_
  · go_simp
  refine hK.out _ _ trivial (fun hHeld => ?_)
  clear hK K
  refine norm_ (a' := ?_) ?_ ?_
  rotate_left
  · simp only [Act.put, List.setIfInBounds_toArray, List.set_cons_zero, List.set_cons_succ, i64_w, i32_w]
    rfl
  refine pure_ (i := 8) (N := some 75) (v := ?_) (a' := ?_) #[true, true, true, true, true, true, true, true, true, false] rfl rfl (by kernel_rfl) (fun _ _ _ h => h) (Or.inl ⟨by rfl, ?_⟩) ?_ ?_
  rotate_left
  · intro w'
    go_simp
    with_reducible rfl
  rotate_left
  · simp only [Act.put, List.setIfInBounds_toArray, List.set_cons_zero, List.set_cons_succ, i64_w, i32_w]
    rfl
  refine pure_ (i := 9) (N := some 10) (v := ?_) (a' := ?_) #[true, true, true, true, true, true, true, true, true, true] rfl rfl (by kernel_rfl) (fun _ _ _ h => h) (Or.inl ⟨by rfl, ?_⟩) ?_ ?_
  rotate_left
  · intro w'
    go_simp
    with_reducible rfl
  rotate_left
  · simp only [Act.put, List.setIfInBounds_toArray, List.set_cons_zero, List.set_cons_succ, i64_w, i32_w]
    rfl
  refine done_ (by kernel_rfl) ?_
  go_wp2
  rw [rounds_succ]
  go_wp2
  refine start_ (n := 10) (S := fun w' => True) (ds := []) #[false, false, false, false, false, false, false, false, false, false] (by kernel_rfl) rfl rfl trivial (fun hHeld => ?_)
  refine pure_ (i := 0) (N := some 67) (v := ?_) (a' := ?_) #[true, false, false, false, false, false, false, false, false, false] rfl rfl (by kernel_rfl) (fun _ _ _ h => h) (Or.inl ⟨by rfl, ?_⟩) ?_ ?_
  rotate_left
  · intro w'
    go_simp
    with_reducible rfl
  rotate_left
  · simp only [Act.put, List.setIfInBounds_toArray, List.set_cons_zero, List.set_cons_succ, i64_w, i32_w]
    rfl
  refine pure_ (i := 1) (N := some 68) (v := ?_) (a' := ?_) #[true, true, false, false, false, false, false, false, false, false] rfl rfl (by kernel_rfl) (fun _ _ _ h => h) (Or.inl ⟨by rfl, ?_⟩) ?_ ?_
  rotate_left
  · intro w'
    go_simp
    with_reducible rfl
  rotate_left
  · simp only [Act.put, List.setIfInBounds_toArray, List.set_cons_zero, List.set_cons_succ, i64_w, i32_w]
    rfl
  refine pure_ (i := 2) (N := some 69) (v := ?_) (a' := ?_) #[true, true, true, false, false, false, false, false, false, false] rfl rfl (by kernel_rfl) (fun _ _ _ h => h) (Or.inl ⟨by rfl, ?_⟩) ?_ ?_
  rotate_left
  · intro w'
    go_simp
    with_reducible rfl
  rotate_left
  · simp only [Act.put, List.setIfInBounds_toArray, List.set_cons_zero, List.set_cons_succ, i64_w, i32_w]
    rfl
  refine pure_ (i := 3) (N := some 70) (v := ?_) (a' := ?_) #[true, true, true, true, false, false, false, false, false, false] rfl rfl (by kernel_rfl) (fun _ _ _ h => h) (Or.inl ⟨by rfl, ?_⟩) ?_ ?_
  rotate_left
  · intro w'
    go_simp
    with_reducible rfl
  rotate_left
  · simp only [Act.put, List.setIfInBounds_toArray, List.set_cons_zero, List.set_cons_succ, i64_w, i32_w]
    rfl
  refine pure_ (i := 4) (N := some 71) (v := ?_) (a' := ?_) #[true, true, true, true, true, false, false, false, false, false] rfl rfl (by kernel_rfl) (fun _ _ _ h => h) (Or.inl ⟨by rfl, ?_⟩) ?_ ?_
  rotate_left
  · intro w'
    go_simp
    with_reducible rfl
  rotate_left
  · simp only [Act.put, List.setIfInBounds_toArray, List.set_cons_zero, List.set_cons_succ, i64_w, i32_w]
    rfl
  refine pure_ (i := 5) (N := some 72) (v := ?_) (a' := ?_) #[true, true, true, true, true, true, false, false, false, false] rfl rfl (by kernel_rfl) (fun _ _ _ h => h) (Or.inl ⟨by rfl, ?_⟩) ?_ ?_
  rotate_left
  · intro w'
    go_simp
    with_reducible rfl
  rotate_left
  · simp only [Act.put, List.setIfInBounds_toArray, List.set_cons_zero, List.set_cons_succ, i64_w, i32_w]
    rfl
  refine pure_ (i := 6) (N := some 73) (v := ?_) (a' := ?_) #[true, true, true, true, true, true, true, false, false, false] rfl rfl (by kernel_rfl) (fun _ _ _ h => h) (Or.inl ⟨by rfl, ?_⟩) ?_ ?_
  rotate_left
  · intro w'
    go_simp
    with_reducible rfl
  rotate_left
  · simp only [Act.put, List.setIfInBounds_toArray, List.set_cons_zero, List.set_cons_succ, i64_w, i32_w]
    rfl
  refine one_ (i := 7) (N := some 74) #[true, true, true, true, true, true, true, true, false, false] rfl rfl (by kernel_rfl) (by decide) (fun K hK => ?_)
  refine val_ (v := .int .i64 2) (w1 := w5) (by rfl) rfl ?_ ?_
  · go_simp
  refine hK.out _ _ trivial (fun hHeld => ?_)
  clear hK K
  refine norm_ (a' := ?_) ?_ ?_
  rotate_left
  · simp only [Act.put, List.setIfInBounds_toArray, List.set_cons_zero, List.set_cons_succ, i64_w, i32_w]
    rfl
  refine pure_ (i := 8) (N := some 75) (v := ?_) (a' := ?_) #[true, true, true, true, true, true, true, true, true, false] rfl rfl (by kernel_rfl) (fun _ _ _ h => h) (Or.inl ⟨by rfl, ?_⟩) ?_ ?_
  rotate_left
  · intro w'
    go_simp
    with_reducible rfl
  rotate_left
  · simp only [Act.put, List.setIfInBounds_toArray, List.set_cons_zero, List.set_cons_succ, i64_w, i32_w]
    rfl
  refine pure_ (i := 9) (N := some 10) (v := ?_) (a' := ?_) #[true, true, true, true, true, true, true, true, true, true] rfl rfl (by kernel_rfl) (fun _ _ _ h => h) (Or.inl ⟨by rfl, ?_⟩) ?_ ?_
  rotate_left
  · intro w'
    go_simp
    with_reducible rfl
  rotate_left
  · simp only [Act.put, List.setIfInBounds_toArray, List.set_cons_zero, List.set_cons_succ, i64_w, i32_w]
    rfl
  refine done_ (by kernel_rfl) ?_
  go_wp2
  rw [rounds_succ]
  go_wp2
  go_ret
  exact ⟨w.heap.size, 6, rfl, by decide, HF.out, HB.out⟩
end Go.Proofs.Ytdblpflepfcnjaa.Q
end
section
/- nic.wants. -/
namespace Go.Proofs.Ytdblpflepfcnjaa.Q
open Go.RowKit Go.Proofs.YtdblpflepfcnjaaW.PrintWords Go.Proofs.YtdblpflepfcnjaaW.PrintLast Go.Proofs.YtdblpflepfcnjaaW.PrintMore Go.Proofs.Ytdblpflepfcnjaa.L
attribute [local go_sem] Instr.field part asAgg lt_step max2_int min2_int max_two min_two max_three min_three max_four min_four lt_0_1 lt_0_2 lt_1_2 lt_0_3 lt_1_3 lt_2_3 lt_0_4 lt_1_4 lt_2_4 lt_3_4 lt_0_5 lt_1_5 lt_2_5 lt_3_5 lt_4_5 lt_0_6 lt_1_6 lt_2_6 lt_3_6 lt_4_6 lt_5_6 lt_0_7 lt_1_7 lt_2_7 lt_3_7 lt_4_7 lt_5_7 lt_6_7 lt_0_8 lt_1_8 lt_2_8 lt_3_8 lt_4_8 lt_5_8 lt_6_8 lt_7_8
set_option linter.unusedVariables false
set_option linter.unusedSimpArgs false
def gateZ (c : Nat → Int) (n : Nat) : Bool := decide ((n : Int) < 14) || decide (1514 < (n : Int)) || (Go.bits .and .i64 (c 0) 2 == 0) || (c 9 == c 10)
def eqS (l0 l1 : List Int) : Bool := (strOfNums l0).toList == (strOfNums l1).toList
def forZ (c : Nat → Int) (mac fr : List Int) : Bool := decide (Go.bits .and .i64 (c 0) 4 > 0) || eqS (fr.take 6) mac || eqS (fr.take 6) (List.replicate 6 255)
def wantsZ (c : Nat → Int) (mac fr : List Int) : Bool := !gateZ c fr.length && forZ c mac fr
theorem equal_c (n m : Nat) (b : Bool) (A0 : Option Addr) (c0 : Nat) (l0 : List Int) (A1 : Option Addr) (c1 : Nat) (l1 : List Int) (w : World) (hn : l0.length = n) (hm : l1.length = m) (hr0 : Kd.C (Kd.int .u8) w A0 n l0) (hc0 : n ≤ c0) (hr1 : Kd.C (Kd.int .u8) w A1 m l1) (hc1 : m ≤ c1) (hb : eqS l0 l1 = b) :
    Calls Try.prog 58 #[.slice A0 n c0, .slice A1 m c1] w fun e w' => e = .returned (.bool b) ∧ Below w.heap.size w w' := by
  subst hn hm
  exact (bytes_Equal.calls A0 c0 l0 A1 c1 l1 b w hr0 hc0 hr1 hc1 (by unfold bytes_Equal.f; exact congrArg some hb)).mono fun _ _ ⟨he, hd⟩ => ⟨he, hd.below⟩
set_option maxHeartbeats 1600000 in
set_option maxRecDepth 100000 in
theorem wants_is (A : Option Addr) (cap : Nat) (mac : List Int) (FA : Option Addr) (fc : Nat) (fr : List Int) (c : Nat → Int) (w : World) (okm okf : Nat → Prop) (hm : Kd.F (Kd.int .u8) w okm A mac.length mac) (hmc : mac.length ≤ cap) (hf : Kd.F (Kd.int .u8) w okf FA fr.length fr) (hfc : fr.length ≤ fc) (g : Bool) (hg : gateZ c fr.length = g) (hg6 : g = false → 14 ≤ fr.length) (b1 b2 b3 : Bool) (h1 : decide (Go.bits .and .i64 (c 0) 4 > 0) = b1) (h2 : eqS (fr.take 6) mac = b2) (h3 : eqS (fr.take 6) (List.replicate 6 255) = b3) :
    Calls Try.prog 45 #[.agg (C14 c (.slice A mac.length cap)), .slice FA fr.length fc] w fun e w' => e = .returned (.bool (!g && (b1 || (b2 || b3)))) ∧ Below w.heap.size w w' := by
  have HB := Aside0.mk (Below.refl w.heap.size w)
  have HM := Aside0.mk (Kd.F_bound hm)
  have HF := Aside0.mk (Kd.F_bound hf)
  have HMC := Aside0.mk hmc
  have HFC := Aside0.mk hfc
  have HG := Aside0.mk hg
  have HG6 := Aside0.mk hg6
  have H2 := Aside0.mk h2
  have H3 := Aside0.mk h3
  have hu := Try.underlying25
  clear hm hf hmc hg hg6 h2 h3
  go_enter Try.func45, Try.ntmps45
  go_upto_region 1 with fail
  obtain ⟨wa, hwa, on0, hb_, hz0⟩ := letter1 w (.cells (C14 c (.slice A mac.length cap)) 25 (0, 0))
  rw [hwa]
  clear hwa
  have hzwa := Nat.le_of_eq hz0.symm
  clear hz0
  have on := Aside0.mk on0
  clear on0
  obtain ⟨onc, onf, onl⟩ := cells_of on.out
  have HB_ : Aside0 (Below w.heap.size w wa) := ⟨hb_⟩
  have HM_ := Aside0.mk (Kd.F_below HM.out hb_)
  have HF_ := Aside0.mk (Kd.F_below HF.out hb_)
  clear HB HM HF hb_; have HB := HB_; have HM := HM_; have HF := HF_; clear HB_ HM_ HF_
  have hc0 : World.cell? wa ⟨w.heap.size, 0, none⟩ = some (.int .i64 (c 0)) := (onc 0).trans rfl
  have hc9 : World.cell? wa ⟨w.heap.size, 9, none⟩ = some (.int .i64 (c 9)) := (onc 9).trans rfl
  have hc10 : World.cell? wa ⟨w.heap.size, 10, none⟩ = some (.int .i64 (c 10)) := (onc 10).trans rfl
  have hc13 : World.cell? wa ⟨w.heap.size, 13, none⟩ = some (.slice A mac.length cap) := (onc 13).trans rfl
  clear onc
  have onc := trivial
  go_cut [27] (fun v wx => v = .bool (gateZ c fr.length) ∧ wa = wx)
  case first =>
    go_wp2_with fail
    all_goals go_meet
    all_goals refine ⟨congrArg Value.bool ?_, rfl⟩
    all_goals (unfold gateZ; (try simp [*]); (try (intros; omega)))
  case rest =>
  obtain ⟨rfl, rfl⟩ := hcut
  rw [HG.out]
  cases g
  case true =>
    go_wp2
    go_ret
    exact ⟨rfl, HB.out⟩
  case false =>
  have h14 := HG6.out rfl
  clear HG6
  have h6c : (6 : Int) ≤ (fc : Int) := by omega
  have HT := Aside0.mk (Kd.F_take HF.out (m := 6) (by omega))
  have hT6 : (fr.take 6).length = 6 := by rw [List.length_take]; omega
  rw [hT6] at HT
  have HT6 := Aside0.mk hT6
  clear hT6
  go_wp2_with fail
  (go_at_call 57; (with_reducible refine (repeat_is _ _ (nb_1 _ _)).mono ?_); rintro e_ w1 ⟨qb, qc, rfl, hq1, hq2, hb_⟩; have HB_ : Aside0 (Below w.heap.size w w1) := Aside0.mk (below_step (bG HB) hb_); have hzw1 := hb_.size; (try simp at hzw1); have on_ := Aside0.mk (box_below hb_ (eG on)); have HM_ := Aside0.mk (Kd.F_below (fG HM) hb_); clear HM; have HM := HM_; clear HM_; have HT_ := Aside0.mk (Kd.F_below (fG HT) hb_); clear HT; have HT := HT_; clear HT_; (try clear on onc onf onl); have on := on_; clear on_; obtain ⟨onc, onf, onl⟩ := cells_of on.out; clear HB hb_; have HB := HB_; clear HB_; have hq1_ := Aside0.mk hq1; clear hq1; have hq1 := hq1_; clear hq1_; have hq2_ := Aside0.mk hq2; clear hq2; have hq2 := hq2_; clear hq2_; skip)
  have hc0 : World.cell? w1 ⟨w.heap.size, 0, none⟩ = some (.int .i64 (c 0)) := (onc 0).trans rfl
  have hc13 : World.cell? w1 ⟨w.heap.size, 13, none⟩ = some (.slice A mac.length cap) := (onc 13).trans rfl
  clear onc
  have onc := trivial
  have HMC2 := HMC.out
  cases b1
  case true =>
    go_wp2
    go_ret
    exact ⟨rfl, HB.out⟩
  case false =>
  cases b2
  case true =>
    go_wp2_with fail
    (go_at_call 58; (with_reducible refine (equal_c 6 mac.length true _ _ (fr.take 6) _ _ mac _ HT6.out rfl (Kd.F_now (fG HT)) (by omega) (Kd.F_now (fG HM)) HMC.out H2.out).mono ?_); rintro e_ w2 ⟨rfl, hb_⟩; have HB_ : Aside0 (Below w.heap.size w w2) := Aside0.mk (below_step (bG HB) hb_); have hzw2 := hb_.size; (try simp at hzw2); have on_ := Aside0.mk (box_below hb_ (eG on)); have HT_ := Aside0.mk (Kd.F_below (fG HT) hb_); clear HT; have HT := HT_; clear HT_; have HM_ := Aside0.mk (Kd.F_below (fG HM) hb_); clear HM; have HM := HM_; clear HM_; (try clear on onc onf onl); have on := on_; clear on_; obtain ⟨onc, onf, onl⟩ := cells_of on.out; clear HB hb_; have HB := HB_; clear HB_)
    go_wp2
    go_ret
    exact ⟨rfl, HB.out⟩
  case false =>
    go_wp2_with fail
    (go_at_call 58; (with_reducible refine (equal_c 6 mac.length false _ _ (fr.take 6) _ _ mac _ HT6.out rfl (Kd.F_now (fG HT)) (by omega) (Kd.F_now (fG HM)) HMC.out H2.out).mono ?_); rintro e_ w2 ⟨rfl, hb_⟩; have HB_ : Aside0 (Below w.heap.size w w2) := Aside0.mk (below_step (bG HB) hb_); have hzw2 := hb_.size; (try simp at hzw2); have on_ := Aside0.mk (box_below hb_ (eG on)); have HT_ := Aside0.mk (Kd.F_below (fG HT) hb_); clear HT; have HT := HT_; clear HT_; have HM_ := Aside0.mk (Kd.F_below (fG HM) hb_); clear HM; have HM := HM_; clear HM_; have hq2_ := Aside0.mk (Kd.F_below (fG hq2) hb_); clear hq2; have hq2 := hq2_; clear hq2_; (try clear on onc onf onl); have on := on_; clear on_; obtain ⟨onc, onf, onl⟩ := cells_of on.out; clear HB hb_; have HB := HB_; clear HB_)
    go_wp2_with fail
    (go_at_call 58; (with_reducible refine (equal_c 6 6 b3 _ _ (fr.take 6) _ _ (List.replicate 6 255) _ HT6.out rfl (Kd.F_now (fG HT)) (by omega) (Kd.F_now (fG hq2)) hq1.out H3.out).mono ?_); rintro e_ w3 ⟨rfl, hb_⟩; have HB_ : Aside0 (Below w.heap.size w w3) := Aside0.mk (below_step (bG HB) hb_); have hzw3 := hb_.size; (try simp at hzw3); have on_ := Aside0.mk (box_below hb_ (eG on)); have HT_ := Aside0.mk (Kd.F_below (fG HT) hb_); clear HT; have HT := HT_; clear HT_; (try clear on onc onf onl); have on := on_; clear on_; obtain ⟨onc, onf, onl⟩ := cells_of on.out; clear HB hb_; have HB := HB_; clear HB_)
    go_wp2
    go_ret
    exact ⟨by simp, HB.out⟩
theorem wants_of (b : Bool) (A : Option Addr) (cap : Nat) (mac : List Int) (FA : Option Addr) (fc : Nat) (fr : List Int) (c : Nat → Int) (w : World) (okm okf : Nat → Prop) (hm : Kd.F (Kd.int .u8) w okm A mac.length mac) (hmc : mac.length ≤ cap) (hf : Kd.F (Kd.int .u8) w okf FA fr.length fr) (hfc : fr.length ≤ fc) (hb : wantsZ c mac fr = b) :
    Calls Try.prog 45 #[.agg (C14 c (.slice A mac.length cap)), .slice FA fr.length fc] w fun e w' => e = .returned (.bool b) ∧ Below w.heap.size w w' := by
  have := wants_is A cap mac FA fc fr c w okm okf hm hmc hf hfc _ rfl (fun h => by unfold gateZ at h; simp at h; omega) _ _ _ rfl rfl rfl
  rw [← hb]
  unfold wantsZ forZ
  rw [Bool.or_assoc]
  exact this
end Go.Proofs.Ytdblpflepfcnjaa.Q
end
section
/- nic.registers, nic.Load. -/
namespace Go.Proofs.Ytdblpflepfcnjaa.Q
open Go.RowKit Go.Proofs.YtdblpflepfcnjaaW.PrintWords Go.Proofs.YtdblpflepfcnjaaW.PrintLast Go.Proofs.YtdblpflepfcnjaaW.PrintMore Go.Proofs.Ytdblpflepfcnjaa.L
attribute [local go_sem] Instr.field part asAgg lt_step max2_int min2_int max_two min_two max_three min_three max_four min_four lt_0_1 lt_0_2 lt_1_2 lt_0_3 lt_1_3 lt_2_3 lt_0_4 lt_1_4 lt_2_4 lt_3_4 lt_0_5 lt_1_5 lt_2_5 lt_3_5 lt_4_5 lt_0_6 lt_1_6 lt_2_6 lt_3_6 lt_4_6 lt_5_6 lt_0_7 lt_1_7 lt_2_7 lt_3_7 lt_4_7 lt_5_7 lt_6_7 lt_0_8 lt_1_8 lt_2_8 lt_3_8 lt_4_8 lt_5_8 lt_6_8 lt_7_8
set_option linter.unusedVariables false
set_option linter.unusedSimpArgs false
def regL (c : Nat → Int) (g : Int) : List Int := [IntKind.u64.wrap (c 0), IntKind.u64.wrap (c 1), IntKind.u64.wrap (c 2), c 3, IntKind.u64.wrap (c 4), IntKind.u64.wrap (c 5), IntKind.u64.wrap (c 6), c 7, IntKind.u64.wrap (c 8), IntKind.u64.wrap (c 9), IntKind.u64.wrap (c 10), IntKind.u64.wrap (c 11), IntKind.u64.wrap (c 12), Go.bits .and .u64 g 4294967295, g / 4294967296]
def regA (c : Nat → Int) (g : Int) : Array Value := #[.int .u64 (IntKind.u64.wrap (c 0)), .int .u64 (IntKind.u64.wrap (c 1)), .int .u64 (IntKind.u64.wrap (c 2)), .int .u64 (c 3), .int .u64 (IntKind.u64.wrap (c 4)), .int .u64 (IntKind.u64.wrap (c 5)), .int .u64 (IntKind.u64.wrap (c 6)), .int .u64 (c 7), .int .u64 (IntKind.u64.wrap (c 8)), .int .u64 (IntKind.u64.wrap (c 9)), .int .u64 (IntKind.u64.wrap (c 10)), .int .u64 (IntKind.u64.wrap (c 11)), .int .u64 (IntKind.u64.wrap (c 12)), .int .u64 (Go.bits .and .u64 g 4294967295), .int .u64 (g / 4294967296)]
def regV (c : Nat → Int) (g i : Int) : Int := (regL c g).getD i.toNat 0
def refuseZ (c : Nat → Int) (m : Nat) (off size : Int) : Bool := !okC c m || (size != 4) || decide (Go.bits .and .u64 off 3 > 0) || decide (off / 4 ≥ 15)
def loadV (c : Nat → Int) (mac : List Int) (off : Int) : Int := regV c (getB mac false) (off / 4)
theorem reg_index (c : Nat → Int) (g i : Int) (h0 : 0 ≤ i) (h1 : i < 15) (W : World) : (Instr.index 67 (.agg (regA c g)) (.int .u64 i)).run Try.prog W = .ok (.int .u64 (regV c g i)) W := by
  have h : i = 0 ∨ i = 1 ∨ i = 2 ∨ i = 3 ∨ i = 4 ∨ i = 5 ∨ i = 6 ∨ i = 7 ∨ i = 8 ∨ i = 9 ∨ i = 10 ∨ i = 11 ∨ i = 12 ∨ i = 13 ∨ i = 14 := by omega
  rcases h with rfl | rfl | rfl | rfl | rfl | rfl | rfl | rfl | rfl | rfl | rfl | rfl | rfl | rfl | rfl <;> rfl
set_option maxHeartbeats 1600000 in
set_option maxRecDepth 100000 in
theorem regs_is (A : Option Addr) (cap : Nat) (mac : List Int) (c : Nat → Int) (w : World) (okm : Nat → Prop) (hm : Kd.F (Kd.int .u8) w okm A mac.length mac) (hmc : mac.length ≤ cap) (hmb : ∀ z ∈ mac, byte z) :
    Calls Try.prog 40 #[.agg (C14 c (.slice A mac.length cap))] w fun e w' => e = .returned (.agg (regA c (getB mac false))) ∧ Below w.heap.size w w' := by
  have HB := Aside0.mk (Below.refl w.heap.size w)
  have HM := Aside0.mk (Kd.F_bound hm)
  have HMC := Aside0.mk hmc
  have HMB := Aside0.mk hmb
  have hu := Try.underlying25
  have hu6 := Try.underlying67
  obtain ⟨g, hg⟩ : ∃ g, getB mac false = g := ⟨_, rfl⟩
  rw [hg]
  have HG : Aside0 (∀ (A : Option Addr) (cap : Nat) (w : World), Kd.C (Kd.int .u8) w A mac.length mac → mac.length ≤ cap → Calls Try.prog 54 #[.slice A mac.length cap, .bool false] w fun e w' => e = .returned (.int .u64 g) ∧ Below w.heap.size w w') := ⟨fun A cap w h1 h2 => by rw [← hg]; exact get_c _ A cap mac w rfl h1 h2 HMB.out⟩
  clear hm hmc hmb hg
  go_enter Try.func40, Try.ntmps40
  go_upto_region 1 with fail
  obtain ⟨wa, hwa, on0, oz0, hb_, hz0⟩ := letter2 w (.cells (C14 c (.slice A mac.length cap)) 25 (0, 0)) (.cells #[.int .u64 0, .int .u64 0, .int .u64 0, .int .u64 0, .int .u64 0, .int .u64 0, .int .u64 0, .int .u64 0, .int .u64 0, .int .u64 0, .int .u64 0, .int .u64 0, .int .u64 0, .int .u64 0, .int .u64 0] 67 (0, 0))
  rw [hwa]
  clear hwa
  have hzwa := Nat.le_of_eq hz0.symm
  clear hz0
  have on := Aside0.mk on0
  have oz := Aside0.mk oz0
  clear on0 oz0
  obtain ⟨onc, onf, onl⟩ := cells_of on.out
  obtain ⟨ozc, ozf, ozl⟩ := cells_of oz.out
  have HB_ : Aside0 (Below w.heap.size w wa) := ⟨hb_⟩
  have HM_ := Aside0.mk (Kd.F_below HM.out hb_)
  clear HB HM hb_; have HB := HB_; have HM := HM_; clear HB_ HM_
  have hc13 : World.cell? wa ⟨w.heap.size, 13, none⟩ = some (.slice A mac.length cap) := (onc 13).trans rfl
  clear onc
  have onc := trivial
  go_wp2_with fail
  (go_at_call 54; (with_reducible refine (HG.out _ _ _ (Kd.F_now HM.out) HMC.out).mono ?_); rintro e_ w1 ⟨rfl, hb_⟩; have HB_ : Aside0 (Below w.heap.size w w1) := Aside0.mk (below_step (bG HB) hb_); have hzw1 := hb_.size; (try simp at hzw1); have on_ := Aside0.mk (box_below hb_ (eG on)); have oz_ := Aside0.mk (box_below hb_ (eG oz)); (try clear on onc onf onl); have on := on_; clear on_; obtain ⟨onc, onf, onl⟩ := cells_of on.out; (try clear oz ozc ozf ozl); have oz := oz_; clear oz_; obtain ⟨ozc, ozf, ozl⟩ := cells_of oz.out; clear HB hb_; have HB := HB_; clear HB_)
  have hc0 : World.cell? w1 ⟨w.heap.size, 0, none⟩ = some (.int .i64 (c 0)) := (onc 0).trans rfl
  have hc1 : World.cell? w1 ⟨w.heap.size, 1, none⟩ = some (.int .i64 (c 1)) := (onc 1).trans rfl
  have hc2 : World.cell? w1 ⟨w.heap.size, 2, none⟩ = some (.int .i64 (c 2)) := (onc 2).trans rfl
  have hc3 : World.cell? w1 ⟨w.heap.size, 3, none⟩ = some (.int .u64 (c 3)) := (onc 3).trans rfl
  have hc4 : World.cell? w1 ⟨w.heap.size, 4, none⟩ = some (.int .i64 (c 4)) := (onc 4).trans rfl
  have hc5 : World.cell? w1 ⟨w.heap.size, 5, none⟩ = some (.int .i64 (c 5)) := (onc 5).trans rfl
  have hc6 : World.cell? w1 ⟨w.heap.size, 6, none⟩ = some (.int .i64 (c 6)) := (onc 6).trans rfl
  have hc7 : World.cell? w1 ⟨w.heap.size, 7, none⟩ = some (.int .u64 (c 7)) := (onc 7).trans rfl
  have hc8 : World.cell? w1 ⟨w.heap.size, 8, none⟩ = some (.int .i64 (c 8)) := (onc 8).trans rfl
  have hc9 : World.cell? w1 ⟨w.heap.size, 9, none⟩ = some (.int .i64 (c 9)) := (onc 9).trans rfl
  have hc10 : World.cell? w1 ⟨w.heap.size, 10, none⟩ = some (.int .i64 (c 10)) := (onc 10).trans rfl
  have hc11 : World.cell? w1 ⟨w.heap.size, 11, none⟩ = some (.int .i64 (c 11)) := (onc 11).trans rfl
  have hc12 : World.cell? w1 ⟨w.heap.size, 12, none⟩ = some (.int .i64 (c 12)) := (onc 12).trans rfl
  clear onc
  have onc := trivial
  go_wp2
  refine bodyPost_ret (v := .agg (regA c g)) (by simp [results, Try.results40, go_sem, ozc, ozf, regA] <;> first | assumption | omega | (symm; assumption)) rfl ⟨rfl, (bG HB)⟩

set_option maxHeartbeats 1600000 in
set_option maxRecDepth 100000 in
theorem Load_is (A : Option Addr) (cap : Nat) (mac : List Int) (c : Nat → Int) (off size : Int) (w : World) (okm : Nat → Prop) (hm : Kd.F (Kd.int .u8) w okm A mac.length mac) (hmc : mac.length ≤ cap) (hmb : ∀ z ∈ mac, byte z) (h0 : 0 ≤ off) (h64 : off < 18446744073709551616) (b k : Bool) (hk : okC c mac.length = k) (hb : refuseZ c mac.length off size = b) :
    Calls Try.prog 13 #[.agg (C14 c (.slice A mac.length cap)), .int .u64 off, .int .i64 size] w fun e w' => e = .returned (.tuple #[.int .u64 (if b then 0 else loadV c mac off), .bool (!b)]) ∧ Below w.heap.size w w' := by
  have HB := Aside0.mk (Below.refl w.heap.size w)
  have HM := Aside0.mk (Kd.F_bound hm)
  have HMC := Aside0.mk hmc
  have HMB := Aside0.mk hmb
  have HK := Aside0.mk hk
  have hRB := hb
  have hu := Try.underlying25
  have hu6 := Try.underlying67
  have hlt : b = false → off / 4 < 15 := fun h => by
    rw [h] at hRB
    unfold refuseZ at hRB
    simp only [Bool.or_eq_false_iff, decide_eq_false_iff_not] at hRB
    omega
  have hidx : b = false → ∀ W : World, (Instr.index 67 (.agg (regA c (getB mac false))) (.int .u64 (off / 4))).run Try.prog W = .ok (.int .u64 (loadV c mac off)) W := fun h => reg_index c _ _ (by omega) (hlt h)
  have HIDX := Aside0.mk hidx
  have HRB := Aside0.mk hRB
  obtain ⟨b4, hb4⟩ : ∃ b4, (size != 4) = b4 := ⟨_, rfl⟩
  have hdv : IntKind.u64.wrap (off.tdiv 4) = off / 4 := by rw [Int.tdiv_eq_ediv_of_nonneg h0, IntKind.wrap_u64]; omega
  clear hm hmc hmb hk hlt hidx hRB hb h64
  go_enter Try.func13, Try.ntmps13
  go_upto_region 1 with fail
  obtain ⟨wa, hwa, on0, hb_, hz0⟩ := letter1 w (.cells (C14 c (.slice A mac.length cap)) 25 (0, 0))
  rw [hwa]
  clear hwa
  have hzwa := Nat.le_of_eq hz0.symm
  clear hz0
  have on := Aside0.mk on0
  clear on0
  obtain ⟨onc, onf, onl⟩ := cells_of on.out
  have HB_ : Aside0 (Below w.heap.size w wa) := ⟨hb_⟩
  have HM_ := Aside0.mk (Kd.F_below HM.out hb_)
  clear HB HM hb_; have HB := HB_; have HM := HM_; clear HB_ HM_
  go_cut [24] (fun v wx => v = .bool (refuseZ c mac.length off size) ∧ Aside0 (wx.heap[w.heap.size]? = some (.cells (C14 c (.slice A mac.length cap)) 25 (0, 0))) ∧ Aside0 (Kd.F (Kd.int .u8) wx (fun j => okm j ∧ j < w.heap.size) A mac.length mac) ∧ Aside0 (Below w.heap.size w wx))
  case first =>
    go_wp2_with (first | ((with_reducible refine gate_dst (N := 8) rfl ?_); (try (refine gate_guard (by rfl) ?_; dsimp only)); refine wpList_load_row rfl 25 _ rfl _ (by rfl) _ (C14 c (.slice A mac.length cap)) _ _ (eG on) Try.underlying25 rfl i25 ?_))
    (go_at_call 9; (with_reducible refine (Check_of k c A mac.length cap _ HK.out).mono ?_); rintro e_ w1 ⟨rfl, hb_⟩; have HB_ : Aside0 (Below w.heap.size w w1) := Aside0.mk (below_step (bG HB) hb_); have hzw1 := hb_.size; (try simp at hzw1); have on_ := Aside0.mk (box_below hb_ (eG on)); have HM_ := Aside0.mk (Kd.F_below (fG HM) hb_); clear HM; have HM := HM_; clear HM_; (try clear on onc onf onl); have on := on_; clear on_; obtain ⟨onc, onf, onl⟩ := cells_of on.out; clear HB hb_; have HB := HB_; clear HB_)
    have HM_ := Aside0.mk (Kd.F_mono HM.out (ok' := fun j => okm j ∧ j < w.heap.size) (fun j hj => by first | exact hj | exact hj.1))
    clear HM
    cases k <;> cases b4
    all_goals go_wp2_with fail
    all_goals go_meet
    all_goals refine ⟨congrArg Value.bool ?_, on, HM_, HB⟩
    all_goals (unfold refuseZ; rw [HK.out]; simp [*] <;> (intros; omega))
  case rest =>
  obtain ⟨rfl, on, HM, HB⟩ := hcut
  rename World => w2
  obtain ⟨onc, onf, onl⟩ := cells_of on.out
  rw [HRB.out]
  cases b
  case true =>
    go_wp2
    go_ret2
    exact ⟨rfl, HB.out⟩
  case false =>
    have hidx := HIDX.out rfl
    go_wp2_with (first | ((with_reducible refine gate_dst (N := 25) rfl ?_); (try (refine gate_guard (by rfl) ?_; dsimp only)); refine wpList_load_row rfl 25 _ rfl _ (by rfl) _ (C14 c (.slice A mac.length cap)) _ _ (eG on) Try.underlying25 rfl i25 ?_))
    (go_at_call 40; (with_reducible refine (regs_is A cap mac c _ _ HM.out HMC.out HMB.out).mono ?_); rintro e_ w3 ⟨rfl, hb_⟩; have HB_ : Aside0 (Below w.heap.size w w3) := Aside0.mk (below_step (bG HB) hb_); have hzw3 := hb_.size; (try simp at hzw3); have on_ := Aside0.mk (box_below hb_ (eG on)); (try clear on onc onf onl); have on := on_; clear on_; obtain ⟨onc, onf, onl⟩ := cells_of on.out; clear HB hb_; have HB := HB_; clear HB_)
    go_wp2
    go_ret2
    exact ⟨rfl, HB.out⟩
end Go.Proofs.Ytdblpflepfcnjaa.Q
end
section
/- nic.Store. -/
namespace Go.Proofs.Ytdblpflepfcnjaa.Q
open Go.RowKit Go.Proofs.YtdblpflepfcnjaaW.PrintWords Go.Proofs.YtdblpflepfcnjaaW.PrintLast Go.Proofs.YtdblpflepfcnjaaW.PrintMore Go.Proofs.Ytdblpflepfcnjaa.L
attribute [local go_sem] Instr.field part asAgg lt_step max2_int min2_int max_two min_two max_three min_three max_four min_four lt_0_1 lt_0_2 lt_1_2 lt_0_3 lt_1_3 lt_2_3 lt_0_4 lt_1_4 lt_2_4 lt_3_4 lt_0_5 lt_1_5 lt_2_5 lt_3_5 lt_4_5 lt_0_6 lt_1_6 lt_2_6 lt_3_6 lt_4_6 lt_5_6 lt_0_7 lt_1_7 lt_2_7 lt_3_7 lt_4_7 lt_5_7 lt_6_7 lt_0_8 lt_1_8 lt_2_8 lt_3_8 lt_4_8 lt_5_8 lt_6_8 lt_7_8
set_option linter.unusedVariables false
set_option linter.unusedSimpArgs false
def stZ (c : Nat → Int) (i y : Int) : Nat → Int :=
  if i = 0 then upd c 0 (Go.bits .and .i64 y 7) else if i = 1 then upd c 1 (Go.bits .andNot .i64 (c 1) y) else if i = 2 then upd c 2 (Go.bits .and .i64 y 15) else if i = 3 then upd c 3 y
  else if i = 4 then (if 1 ≤ y ∧ y ≤ 64 then upd (upd (upd c 4 y) 5 0) 6 0 else c) else if i = 6 then (if y < c 4 then upd c 6 y else c) else if i = 7 then upd c 7 y
  else if i = 8 then (if 1 ≤ y ∧ y ≤ 64 then upd (upd (upd c 8 y) 9 0) 10 0 else c) else if i = 10 then (if y < c 8 then upd c 10 y else c) else c
theorem st4n (c : Nat → Int) (y : Int) (h : ¬ (1 ≤ y ∧ y ≤ 64)) : stZ c 4 y = c := by simp [stZ, h]
theorem st8n (c : Nat → Int) (y : Int) (h : ¬ (1 ≤ y ∧ y ≤ 64)) : stZ c 8 y = c := by simp [stZ, h]
theorem st6n (c : Nat → Int) (y : Int) (h : ¬ y < c 4) : stZ c 6 y = c := by simp [stZ, h]
theorem st10n (c : Nat → Int) (y : Int) (h : ¬ y < c 8) : stZ c 10 y = c := by simp [stZ, h]
theorem st4p (c : Nat → Int) (y : Int) (h : 1 ≤ y ∧ y ≤ 64) : stZ c 4 y = upd (upd (upd c 4 y) 5 0) 6 0 := by simp [stZ, h]
theorem st8p (c : Nat → Int) (y : Int) (h : 1 ≤ y ∧ y ≤ 64) : stZ c 8 y = upd (upd (upd c 8 y) 9 0) 10 0 := by simp [stZ, h]
theorem st6p (c : Nat → Int) (y : Int) (h : y < c 4) : stZ c 6 y = upd c 6 y := by simp [stZ, h]
theorem st10p (c : Nat → Int) (y : Int) (h : y < c 8) : stZ c 10 y = upd c 10 y := by simp [stZ, h]
def storeZ (c : Nat → Int) (m : Nat) (off size x : Int) : Nat → Int := if refuseZ c m off size = true then c else stZ c (off / 4) (IntKind.u32.wrap x)
theorem refuse_off {c : Nat → Int} {m : Nat} {off size : Int} (h0 : 0 ≤ off) (h64 : off < 18446744073709551616) (h : refuseZ c m off size = false) : off = 0 ∨ off = 4 ∨ off = 8 ∨ off = 12 ∨ off = 16 ∨ off = 20 ∨ off = 24 ∨ off = 28 ∨ off = 32 ∨ off = 36 ∨ off = 40 ∨ off = 44 ∨ off = 48 ∨ off = 52 ∨ off = 56 := by
  unfold refuseZ at h
  simp only [Bool.or_eq_false_iff, decide_eq_false_iff_not] at h
  have h1 := h.1.2
  have h2 := h.2
  have h3 : Go.bits .and .u64 off 3 = off % 4 := by
    rw [u64_and off 3 h0 h64 (by decide) (by decide)]
    obtain ⟨n, rfl⟩ := Int.eq_ofNat_of_zero_le h0
    show ((n &&& 3 : Nat) : Int) = _
    rw [show (3 : Nat) = 2 ^ 2 - 1 from rfl, Nat.and_two_pow_sub_one_eq_mod]
    omega
  rw [h3] at h1
  omega
section
variable (A : Option Addr) (cap : Nat) (mac : List Int) (c : Nat → Int) (off size x : Int) (w : World) (okm : Nat → Prop) (hm : Kd.F (Kd.int .u8) w okm A mac.length mac) (hmc : mac.length ≤ cap) (hmb : ∀ z ∈ mac, byte z) (h0 : 0 ≤ off) (h64 : off < 18446744073709551616)
include hm hmc hmb h0 h64
set_option maxHeartbeats 1600000 in
set_option maxRecDepth 100000 in
theorem store_no (hb : refuseZ c mac.length off size = true) :
    Calls Try.prog 15 #[.agg (C14 c (.slice A mac.length cap)), .int .u64 off, .int .i64 size, .int .u64 x] w fun e w' => e = .returned (.tuple #[.agg (C14 c (.slice A mac.length cap)), .bool false]) ∧ Below w.heap.size w w' := by
  have HB := Aside0.mk (Below.refl w.heap.size w)
  have HM := Aside0.mk (Kd.F_bound hm)
  have HMC := Aside0.mk hmc
  have HMB := Aside0.mk hmb
  have HRB := Aside0.mk hb
  have hu := Try.underlying25
  clear hm hmc hmb hb
  go_enter Try.func15, Try.ntmps15
  go_upto_region 1 with fail
  obtain ⟨wa, hwa, on0, pn0, hb_, hz0⟩ := letter2 w (.cells (C14 c (.slice A mac.length cap)) 25 (0, 0)) (.cells #[.int .i64 0, .int .i64 0, .int .i64 0, .int .u64 0, .int .i64 0, .int .i64 0, .int .i64 0, .int .u64 0, .int .i64 0, .int .i64 0, .int .i64 0, .int .i64 0, .int .i64 0, .slice none 0 0] 25 (0, 0))
  rw [hwa]
  clear hwa
  have hzwa := Nat.le_of_eq hz0.symm
  clear hz0
  have on := Aside0.mk on0
  have pn := Aside0.mk pn0
  clear on0 pn0
  obtain ⟨onc, onf, onl⟩ := cells_of on.out
  obtain ⟨pnc, pnf, pnl⟩ := cells_of pn.out
  have HB_ : Aside0 (Below w.heap.size w wa) := ⟨hb_⟩
  have HM_ := Aside0.mk (Kd.F_below HM.out hb_)
  clear HB HM hb_; have HB := HB_; have HM := HM_; clear HB_ HM_
  go_wp2_with (first | ((with_reducible refine gate_dst (N := 18) rfl ?_); (try (refine gate_guard (by rfl) ?_; dsimp only)); refine wpList_load_row rfl 25 _ rfl _ (by rfl) _ (C14 c (.slice A mac.length cap)) _ _ (eG on) Try.underlying25 rfl i25 ?_))
  (go_at_call 13; (with_reducible refine (Load_is A cap mac c off size _ _ HM.out HMC.out HMB.out h0 h64 _ _ rfl HRB.out).mono ?_); rintro e_ w1 ⟨rfl, hb_⟩; have HB_ : Aside0 (Below w.heap.size w w1) := Aside0.mk (below_step (bG HB) hb_); have hzw1 := hb_.size; (try simp at hzw1); have on_ := Aside0.mk (box_below hb_ (eG on)); have pn_ := Aside0.mk (box_below hb_ (eG pn)); (try clear on onc onf onl); have on := on_; clear on_; obtain ⟨onc, onf, onl⟩ := cells_of on.out; (try clear pn pnc pnf pnl); have pn := pn_; clear pn_; obtain ⟨pnc, pnf, pnl⟩ := cells_of pn.out; clear HB hb_; have HB := HB_; clear HB_)
  go_wp2_with (first | ((with_reducible refine gate_dst (N := 26) rfl ?_); (try (refine gate_guard (by rfl) ?_; dsimp only)); refine wpList_load_row rfl 25 _ rfl _ (by rfl) _ (C14 c (.slice A mac.length cap)) _ _ (eG on) Try.underlying25 rfl i25 ?_) | ((with_reducible refine gate_store (t := 25) (p := 8) (v := .tmp 26) rfl ?_); refine wpList_store_all rfl 25 _ _ rfl rfl _ (C14 c (.slice A mac.length cap)) (by rfl) (by rfl) _ _ pn.out rfl i25 (C14_one _ _ _ _) ?_; rintro w2 ⟨hx_, hk_, hb_, hzz_⟩; have HB_ : Aside0 (Below w.heap.size w w2) := Aside0.mk (Below.trans (bG HB) (Below.mono hb_ (by first | omega | (simp only [sz_alloc, sz_drew, sz_drewN]; omega)))); have hzw2 := hzz_; (try simp at hzw2); clear hzz_; have on_ := Aside0.mk (st_put on.out hk_ (fun h_ => (by repeat (with_reducible first | exact h_ | apply ext_drew | apply ext_drewN | apply ext_alloc | refine blk_far ?_ (by show _ ≠ _; dsimp only; omega) _))) (by omega)); clear on onc onf onl; have on := on_; clear on_; obtain ⟨onc, onf, onl⟩ := cells_of on.out; (try clear pn pnc pnf pnl); have pn := Aside0.mk hx_; obtain ⟨pnc, pnf, pnl⟩ := cells_of pn.out; clear HB hb_ hk_ hx_; have HB := HB_; clear HB_))
  refine bodyPost_ret (results_ct rfl _ _ (w.heap.size + 1) 25 (C14 c (.slice A mac.length cap)) (0, 0) _ rfl pn.out Try.underlying25 rfl i25) rfl ⟨rfl, (bG HB)⟩
set_option maxHeartbeats 1600000 in
set_option maxRecDepth 100000 in
theorem store_yes (y : Int) (hy : IntKind.u32.wrap x = y) (hb : refuseZ c mac.length off size = false) :
    Calls Try.prog 15 #[.agg (C14 c (.slice A mac.length cap)), .int .u64 off, .int .i64 size, .int .u64 x] w fun e w' => e = .returned (.tuple #[.agg (C14 (stZ c (off / 4) y) (.slice A mac.length cap)), .bool true]) ∧ Below w.heap.size w w' := by
  have hy0 : 0 ≤ y := by rw [← hy, IntKind.wrap_u32]; omega
  have hy1 : y < 4294967296 := by rw [← hy, IntKind.wrap_u32]; omega
  have HOF := Aside0.mk (refuse_off h0 h64 hb)
  have HB := Aside0.mk (Below.refl w.heap.size w)
  have HM := Aside0.mk (Kd.F_bound hm)
  have HMC := Aside0.mk hmc
  have HMB := Aside0.mk hmb
  have HRB := Aside0.mk hb
  have hu := Try.underlying25
  clear hm hmc hmb hb
  go_enter Try.func15, Try.ntmps15
  go_upto_region 1 with fail
  obtain ⟨wa, hwa, on0, pn0, hb_, hz0⟩ := letter2 w (.cells (C14 c (.slice A mac.length cap)) 25 (0, 0)) (.cells #[.int .i64 0, .int .i64 0, .int .i64 0, .int .u64 0, .int .i64 0, .int .i64 0, .int .i64 0, .int .u64 0, .int .i64 0, .int .i64 0, .int .i64 0, .int .i64 0, .int .i64 0, .slice none 0 0] 25 (0, 0))
  rw [hwa]
  clear hwa
  have hzwa := Nat.le_of_eq hz0.symm
  clear hz0
  have on := Aside0.mk on0
  have pn := Aside0.mk pn0
  clear on0 pn0
  obtain ⟨onc, onf, onl⟩ := cells_of on.out
  obtain ⟨pnc, pnf, pnl⟩ := cells_of pn.out
  have HB_ : Aside0 (Below w.heap.size w wa) := ⟨hb_⟩
  have HM_ := Aside0.mk (Kd.F_below HM.out hb_)
  clear HB HM hb_; have HB := HB_; have HM := HM_; clear HB_ HM_
  go_wp2_with (first | ((with_reducible refine gate_dst (N := 18) rfl ?_); (try (refine gate_guard (by rfl) ?_; dsimp only)); refine wpList_load_row rfl 25 _ rfl _ (by rfl) _ (C14 c (.slice A mac.length cap)) _ _ (eG on) Try.underlying25 rfl i25 ?_))
  (go_at_call 13; (with_reducible refine (Load_is A cap mac c off size _ _ HM.out HMC.out HMB.out h0 h64 _ _ rfl HRB.out).mono ?_); rintro e_ w1 ⟨rfl, hb_⟩; have HB_ : Aside0 (Below w.heap.size w w1) := Aside0.mk (below_step (bG HB) hb_); have hzw1 := hb_.size; (try simp at hzw1); have on_ := Aside0.mk (box_below hb_ (eG on)); have pn_ := Aside0.mk (box_below hb_ (eG pn)); (try clear on onc onf onl); have on := on_; clear on_; obtain ⟨onc, onf, onl⟩ := cells_of on.out; (try clear pn pnc pnf pnl); have pn := pn_; clear pn_; obtain ⟨pnc, pnf, pnl⟩ := cells_of pn.out; clear HB hb_; have HB := HB_; clear HB_)
  go_upto_region 6 with fail
  go_cut [14] (fun v wx => v = .bool (decide (1 ≤ y) && decide (y ≤ 64)) ∧ w1 = wx)
  case first =>
    go_wp2_with fail
    all_goals go_meet
    all_goals refine ⟨congrArg Value.bool ?_, rfl⟩
    all_goals (simp [*] <;> omega)
  case rest =>
  obtain ⟨rfl, hw_⟩ := hcut
  subst hw_
  have hc0 : World.cell? w1 ⟨w.heap.size, 0, none⟩ = some (.int .i64 (c 0)) := (onc 0).trans rfl
  have hc1 : World.cell? w1 ⟨w.heap.size, 1, none⟩ = some (.int .i64 (c 1)) := (onc 1).trans rfl
  have hc2 : World.cell? w1 ⟨w.heap.size, 2, none⟩ = some (.int .i64 (c 2)) := (onc 2).trans rfl
  have hc3 : World.cell? w1 ⟨w.heap.size, 3, none⟩ = some (.int .u64 (c 3)) := (onc 3).trans rfl
  have hc4 : World.cell? w1 ⟨w.heap.size, 4, none⟩ = some (.int .i64 (c 4)) := (onc 4).trans rfl
  have hc5 : World.cell? w1 ⟨w.heap.size, 5, none⟩ = some (.int .i64 (c 5)) := (onc 5).trans rfl
  have hc6 : World.cell? w1 ⟨w.heap.size, 6, none⟩ = some (.int .i64 (c 6)) := (onc 6).trans rfl
  have hc7 : World.cell? w1 ⟨w.heap.size, 7, none⟩ = some (.int .u64 (c 7)) := (onc 7).trans rfl
  have hc8 : World.cell? w1 ⟨w.heap.size, 8, none⟩ = some (.int .i64 (c 8)) := (onc 8).trans rfl
  have hc9 : World.cell? w1 ⟨w.heap.size, 9, none⟩ = some (.int .i64 (c 9)) := (onc 9).trans rfl
  have hc10 : World.cell? w1 ⟨w.heap.size, 10, none⟩ = some (.int .i64 (c 10)) := (onc 10).trans rfl
  have hc11 : World.cell? w1 ⟨w.heap.size, 11, none⟩ = some (.int .i64 (c 11)) := (onc 11).trans rfl
  have hc12 : World.cell? w1 ⟨w.heap.size, 12, none⟩ = some (.int .i64 (c 12)) := (onc 12).trans rfl
  clear onc
  have onc := trivial
  go_upto_block 0 with fail
  go_cut [14] (fun _ wx => Aside0 (wx.heap[w.heap.size]? = some (.cells (C14 (stZ c (off / 4) y) (.slice A mac.length cap)) 25 (0, 0))) ∧ Aside0 (wx.heap[w.heap.size + 1]? = some (.cells #[.int .i64 0, .int .i64 0, .int .i64 0, .int .u64 0, .int .i64 0, .int .i64 0, .int .i64 0, .int .u64 0, .int .i64 0, .int .i64 0, .int .i64 0, .int .i64 0, .int .i64 0, .slice none 0 0] 25 (0, 0))) ∧ Aside0 (Below w.heap.size w wx))
  case first =>
    clear hy
    rcases HOF.out with rfl | rfl | rfl | rfl | rfl | rfl | rfl | rfl | rfl | rfl | rfl | rfl | rfl | rfl | rfl
    · go_wp2_with fail
      all_goals go_meet
      all_goals first | (exact ⟨⟨blk_put on.out 0 _ rfl⟩, ⟨(eG pn)⟩, ⟨(bG HB)⟩⟩)
    · go_wp2_with fail
      all_goals go_meet
      all_goals first | (exact ⟨⟨blk_put on.out 1 _ rfl⟩, ⟨(eG pn)⟩, ⟨(bG HB)⟩⟩)
    · go_wp2_with fail
      all_goals go_meet
      all_goals first | (exact ⟨⟨blk_put on.out 2 _ rfl⟩, ⟨(eG pn)⟩, ⟨(bG HB)⟩⟩)
    · go_wp2_with fail
      all_goals go_meet
      all_goals first | (exact ⟨⟨blk_put on.out 3 _ rfl⟩, ⟨(eG pn)⟩, ⟨(bG HB)⟩⟩)
    · go_wp2_with fail
      all_goals go_meet
      all_goals first | (rw [show stZ c (16 / 4) y = upd (upd (upd c 4 y) 5 0) 6 0 from st4p c y (by omega)]; exact ⟨⟨blk_put (cs' := C14 (upd (upd (upd c 4 y) 5 0) 6 0) (.slice A mac.length cap)) (blk_put (cs' := C14 (upd (upd c 4 y) 5 0) (.slice A mac.length cap)) (blk_put (cs' := C14 (upd c 4 y) (.slice A mac.length cap)) on.out 4 _ rfl) 5 _ rfl) 6 _ rfl⟩, ⟨(eG pn)⟩, ⟨(bG HB)⟩⟩) | (rw [show stZ c (16 / 4) y = c from st4n c y (by omega)]; exact ⟨on, pn, HB⟩)
    · go_wp2_with fail
      all_goals go_meet
      all_goals first | exact ⟨on, pn, HB⟩
    · go_wp2_with fail
      all_goals go_meet
      all_goals first | (rw [show stZ c (24 / 4) y = upd c 6 y from st6p c y (by omega)]; exact ⟨⟨blk_put on.out 6 _ rfl⟩, ⟨(eG pn)⟩, ⟨(bG HB)⟩⟩) | (rw [show stZ c (24 / 4) y = c from st6n c y (by omega)]; exact ⟨on, pn, HB⟩)
    · go_wp2_with fail
      all_goals go_meet
      all_goals first | (exact ⟨⟨blk_put on.out 7 _ rfl⟩, ⟨(eG pn)⟩, ⟨(bG HB)⟩⟩)
    · go_wp2_with fail
      all_goals go_meet
      all_goals first | (rw [show stZ c (32 / 4) y = upd (upd (upd c 8 y) 9 0) 10 0 from st8p c y (by omega)]; exact ⟨⟨blk_put (cs' := C14 (upd (upd (upd c 8 y) 9 0) 10 0) (.slice A mac.length cap)) (blk_put (cs' := C14 (upd (upd c 8 y) 9 0) (.slice A mac.length cap)) (blk_put (cs' := C14 (upd c 8 y) (.slice A mac.length cap)) on.out 8 _ rfl) 9 _ rfl) 10 _ rfl⟩, ⟨(eG pn)⟩, ⟨(bG HB)⟩⟩) | (rw [show stZ c (32 / 4) y = c from st8n c y (by omega)]; exact ⟨on, pn, HB⟩)
    · go_wp2_with fail
      all_goals go_meet
      all_goals first | exact ⟨on, pn, HB⟩
    · go_wp2_with fail
      all_goals go_meet
      all_goals first | (rw [show stZ c (40 / 4) y = upd c 10 y from st10p c y (by omega)]; exact ⟨⟨blk_put on.out 10 _ rfl⟩, ⟨(eG pn)⟩, ⟨(bG HB)⟩⟩) | (rw [show stZ c (40 / 4) y = c from st10n c y (by omega)]; exact ⟨on, pn, HB⟩)
    · go_wp2_with fail
      all_goals go_meet
      all_goals first | exact ⟨on, pn, HB⟩
    · go_wp2_with fail
      all_goals go_meet
      all_goals first | exact ⟨on, pn, HB⟩
    · go_wp2_with fail
      all_goals go_meet
      all_goals first | exact ⟨on, pn, HB⟩
    · go_wp2_with fail
      all_goals go_meet
      all_goals first | exact ⟨on, pn, HB⟩
  case rest =>
  obtain ⟨on, pn, HB⟩ := hcut
  rename World => w3
  obtain ⟨onc, onf, onl⟩ := cells_of on.out
  obtain ⟨pnc, pnf, pnl⟩ := cells_of pn.out
  go_wp2_with (first | ((with_reducible refine gate_dst (N := 112) rfl ?_); (try (refine gate_guard (by rfl) ?_; dsimp only)); refine wpList_load_row rfl 25 _ rfl _ (by rfl) _ (C14 (stZ c (off / 4) y) (.slice A mac.length cap)) _ _ (eG on) Try.underlying25 rfl i25 ?_) | ((with_reducible refine gate_store (t := 25) (p := 8) (v := .tmp 112) rfl ?_); refine wpList_store_all rfl 25 _ _ rfl rfl _ (C14 (stZ c (off / 4) y) (.slice A mac.length cap)) (by rfl) (by rfl) _ _ pn.out rfl i25 (C14_one _ _ _ _) ?_; rintro w4 ⟨hx_, hk_, hb_, hzz_⟩; have HB_ : Aside0 (Below w.heap.size w w4) := Aside0.mk (Below.trans (bG HB) (Below.mono hb_ (by first | omega | (simp only [sz_alloc, sz_drew, sz_drewN]; omega)))); have hzw4 := hzz_; (try simp at hzw4); clear hzz_; have on_ := Aside0.mk (st_put on.out hk_ (fun h_ => (by repeat (with_reducible first | exact h_ | apply ext_drew | apply ext_drewN | apply ext_alloc | refine blk_far ?_ (by show _ ≠ _; dsimp only; omega) _))) (by omega)); clear on onc onf onl; have on := on_; clear on_; obtain ⟨onc, onf, onl⟩ := cells_of on.out; (try clear pn pnc pnf pnl); have pn := Aside0.mk hx_; obtain ⟨pnc, pnf, pnl⟩ := cells_of pn.out; clear HB hb_ hk_ hx_; have HB := HB_; clear HB_))
  refine bodyPost_ret (results_ct rfl _ _ (w.heap.size + 1) 25 (C14 (stZ c (off / 4) y) (.slice A mac.length cap)) (0, 0) _ rfl pn.out Try.underlying25 rfl i25) rfl ⟨rfl, (bG HB)⟩
end
end Go.Proofs.Ytdblpflepfcnjaa.Q
end
section
/- Whole numbers of 64 bits with a sign: their bits as vectors. -/
set_option linter.unusedVariables false
set_option linter.unusedSimpArgs false
namespace Go.Proofs.Ytdblpflepfcnjaa.L
open Go.RowKit
def bv (x : Int) : BitVec 64 := BitVec.ofInt 64 x
theorem wrap_toInt (v : BitVec 64) : IntKind.i64.wrap (v.toNat : Int) = v.toInt := by
  have e := BitVec.toInt_eq_toNat_bmod v
  rw [e]
  have hl := v.isLt
  have hw : IntKind.i64.wrap (v.toNat : Int) = if v.toNat < 9223372036854775808 then (v.toNat : Int) else (v.toNat : Int) - 18446744073709551616 := by
    rw [IntKind.wrap_i64]; split <;> omega
  rw [hw]
  unfold Int.bmod
  have hm : (v.toNat : Int) % ((2 ^ 64 : Nat) : Int) = v.toNat := by omega
  rw [hm]
  dsimp only
  have hz : ((2 ^ 64 : Nat) : Int) = 18446744073709551616 := by decide
  rw [hz]
  split <;> split <;> omega
theorem i64_and (x y : Int) : Go.bits .and .i64 x y = (bv x &&& bv y).toInt := wrap_toInt _
theorem i64_andNot (x y : Int) : Go.bits .andNot .i64 x y = (bv x &&& ~~~ bv y).toInt := wrap_toInt _
def m6 (x : Int) : Prop := x = 0 ∨ x = 2 ∨ x = 4 ∨ x = 6
instance (x : Int) : Decidable (m6 x) := inferInstanceAs (Decidable (_ ∨ _))
end Go.Proofs.Ytdblpflepfcnjaa.L
end
section
/- The controller's plain laws: what may be stays so; what frames there are. -/
namespace Go.Proofs.Ytdblpflepfcnjaa.Q
open Go.RowKit Go.Proofs.YtdblpflepfcnjaaW.PrintWords Go.Proofs.YtdblpflepfcnjaaW.PrintLast Go.Proofs.YtdblpflepfcnjaaW.PrintMore Go.Proofs.Ytdblpflepfcnjaa.L
set_option linter.unusedVariables false
set_option linter.unusedSimpArgs false
def mk13 (a0_0 : Int) (a0_1 : Int) (a0_2 : Int) (a0_3 : Int) (a0_4 : Int) (a0_5 : Int) (a0_6 : Int) (a0_7 : Int) (a0_8 : Int) (a0_9 : Int) (a0_10 : Int) (a0_11 : Int) (a0_12 : Int) : Nat → Int := fun i => if i = 0 then a0_0 else if i = 1 then a0_1 else if i = 2 then a0_2 else if i = 3 then a0_3 else if i = 4 then a0_4 else if i = 5 then a0_5 else if i = 6 then a0_6 else if i = 7 then a0_7 else if i = 8 then a0_8 else if i = 9 then a0_9 else if i = 10 then a0_10 else if i = 11 then a0_11 else a0_12
theorem toInt_small {v : BitVec 64} {K : Nat} (h : v.toNat ≤ K) (hK : K < 9223372036854775808) : 0 ≤ v.toInt ∧ v.toInt ≤ K := by
  have e : v.toInt = (v.toNat : Int) := by rw [BitVec.toInt_eq_toNat_cond, if_pos (by omega)]
  rw [e]; omega
theorem and_le (y : Int) (K : Nat) (hK : K < 9223372036854775808) : 0 ≤ Go.bits .and .i64 y K ∧ Go.bits .and .i64 y K ≤ K := by
  rw [i64_and]
  refine toInt_small ?_ hK
  rw [BitVec.toNat_and]
  refine Nat.le_trans Nat.and_le_right ?_
  unfold bv
  rw [BitVec.ofInt_natCast, BitVec.toNat_ofNat]
  exact Nat.mod_le _ _
theorem andNot_le (x y : Int) (K : Nat) (h0 : 0 ≤ x) (h1 : x ≤ K) (hK : K < 9223372036854775808) : 0 ≤ Go.bits .andNot .i64 x y ∧ Go.bits .andNot .i64 x y ≤ K := by
  rw [i64_andNot]
  refine toInt_small ?_ hK
  rw [BitVec.toNat_and]
  refine Nat.le_trans Nat.and_le_left ?_
  unfold bv
  obtain ⟨n, rfl⟩ := Int.eq_ofNat_of_zero_le h0
  rw [BitVec.ofInt_natCast, BitVec.toNat_ofNat]
  exact Nat.le_trans (Nat.mod_le _ _) (by omega)
theorem or16_all : ∀ n ∈ List.range 16, ∀ b ∈ [1, 2, 4, 8], 0 ≤ Go.bits .or .i64 (n : Int) b ∧ Go.bits .or .i64 (n : Int) b < 16 := by decide +kernel
theorem or16 (x b : Int) (h : 0 ≤ x ∧ x < 16) (hb : b ∈ [1, 2, 4, 8]) : 0 ≤ Go.bits .or .i64 x b ∧ Go.bits .or .i64 x b < 16 := by
  obtain ⟨n, rfl⟩ := Int.eq_ofNat_of_zero_le h.1
  exact or16_all n (List.mem_range.2 (by omega)) b hb
theorem most_in (x : Int) (h : 0 ≤ x ∧ x ≤ 2147483648) : 0 ≤ mostZ x ∧ mostZ x ≤ 2147483648 := by
  unfold mostZ
  rw [w64 (by omega) (by omega)]
  split <;> omega
section
variable {c : Nat → Int} {m : Nat} (k : Ok c m)
include k
theorem Ok.fail : Ok (failC c) m := ⟨k.mac, k.ctrl, or16 _ 4 k.cause (by decide), k.mask, k.drops, most_in _ k.errs, k.tb, k.tn, k.th, k.tt, k.rb, k.rn, k.rh, k.rt⟩
theorem Ok.drop : Ok (dropC c) m := ⟨k.mac, k.ctrl, or16 _ 8 k.cause (by decide), k.mask, most_in _ k.drops, k.errs, k.tb, k.tn, k.th, k.tt, k.rb, k.rn, k.rh, k.rt⟩
theorem Ok.ctl (v : Int) (h : 0 ≤ v ∧ v < 8) : Ok (upd c 0 v) m := ⟨k.mac, h, k.cause, k.mask, k.drops, k.errs, k.tb, k.tn, k.th, k.tt, k.rb, k.rn, k.rh, k.rt⟩
theorem Ok.cau (v : Int) (h : 0 ≤ v ∧ v < 16) : Ok (upd c 1 v) m := ⟨k.mac, k.ctrl, h, k.mask, k.drops, k.errs, k.tb, k.tn, k.th, k.tt, k.rb, k.rn, k.rh, k.rt⟩
theorem Ok.st (i y : Int) (hy : 0 ≤ y ∧ y < 4294967296) : Ok (stZ c i y) m := by
  have h7 : 0 ≤ Go.bits .and .i64 y 7 ∧ Go.bits .and .i64 y 7 ≤ 7 := and_le y 7 (by decide)
  have h15 : 0 ≤ Go.bits .and .i64 y 15 ∧ Go.bits .and .i64 y 15 ≤ 15 := and_le y 15 (by decide)
  have hn := andNot_le (c 1) y 15 k.cause.1 (by have := k.cause.2; omega) (by decide)
  unfold stZ
  split; exact k.ctl _ ⟨h7.1, by omega⟩
  split; exact k.cau _ ⟨hn.1, by omega⟩
  split; exact ⟨k.mac, k.ctrl, k.cause, ⟨h15.1, by show Go.bits .and .i64 y 15 < 16; omega⟩, k.drops, k.errs, k.tb, k.tn, k.th, k.tt, k.rb, k.rn, k.rh, k.rt⟩
  split; exact ⟨k.mac, k.ctrl, k.cause, k.mask, k.drops, k.errs, by show y / 4294967296 = 0; omega, k.tn, k.th, k.tt, k.rb, k.rn, k.rh, k.rt⟩
  split
  · split
    · rename_i h; exact ⟨k.mac, k.ctrl, k.cause, k.mask, k.drops, k.errs, k.tb, h, ⟨Int.le_refl 0, by show 0 < y; omega⟩, ⟨Int.le_refl 0, by show 0 < y; omega⟩, k.rb, k.rn, k.rh, k.rt⟩
    · exact k
  split
  · split
    · rename_i h; exact ⟨k.mac, k.ctrl, k.cause, k.mask, k.drops, k.errs, k.tb, k.tn, k.th, ⟨hy.1, h⟩, k.rb, k.rn, k.rh, k.rt⟩
    · exact k
  split; exact ⟨k.mac, k.ctrl, k.cause, k.mask, k.drops, k.errs, k.tb, k.tn, k.th, k.tt, by show y / 4294967296 = 0; omega, k.rn, k.rh, k.rt⟩
  split
  · split
    · rename_i h; exact ⟨k.mac, k.ctrl, k.cause, k.mask, k.drops, k.errs, k.tb, k.tn, k.th, k.tt, k.rb, h, ⟨Int.le_refl 0, by show 0 < y; omega⟩, ⟨Int.le_refl 0, by show 0 < y; omega⟩⟩
    · exact k
  split
  · split
    · rename_i h; exact ⟨k.mac, k.ctrl, k.cause, k.mask, k.drops, k.errs, k.tb, k.tn, k.th, k.tt, k.rb, k.rn, k.rh, ⟨hy.1, h⟩⟩
    · exact k
  exact k
end
end Go.Proofs.Ytdblpflepfcnjaa.Q
end
section
/- nic.New, nic.Line. -/
namespace Go.Proofs.Ytdblpflepfcnjaa.Q
open Go.RowKit Go.Proofs.YtdblpflepfcnjaaW.PrintWords Go.Proofs.YtdblpflepfcnjaaW.PrintLast Go.Proofs.YtdblpflepfcnjaaW.PrintMore Go.Proofs.Ytdblpflepfcnjaa.L
attribute [local go_sem] Instr.field part asAgg lt_step max2_int min2_int max_two min_two max_three min_three max_four min_four lt_0_1 lt_0_2 lt_1_2 lt_0_3 lt_1_3 lt_2_3 lt_0_4 lt_1_4 lt_2_4 lt_3_4 lt_0_5 lt_1_5 lt_2_5 lt_3_5 lt_4_5 lt_0_6 lt_1_6 lt_2_6 lt_3_6 lt_4_6 lt_5_6 lt_0_7 lt_1_7 lt_2_7 lt_3_7 lt_4_7 lt_5_7 lt_6_7 lt_0_8 lt_1_8 lt_2_8 lt_3_8 lt_4_8 lt_5_8 lt_6_8 lt_7_8
set_option linter.unusedVariables false
set_option linter.unusedSimpArgs false
def new0 : Nat → Int := fun _ => 0
def new1 : Nat → Int := fun i => if i = 4 ∨ i = 8 then 1 else 0
def lineZ (c : Nat → Int) (m : Nat) : Bool := okC c m && decide (Go.bits .and .i64 (c 1) (c 2) > 0)
set_option maxHeartbeats 1600000 in
set_option maxRecDepth 100000 in
theorem New_yes (A : Option Addr) (cap : Nat) (mac : List Int) (w : World) (okm : Nat → Prop) (hm : Kd.F (Kd.int .u8) w okm A mac.length mac) (hmc : mac.length ≤ cap) (h6 : mac.length = 6) :
    Calls Try.prog 17 #[.slice A mac.length cap] w fun e w' => ∃ A' c', e = .returned (.tuple #[.agg (C14 new1 (.slice A' mac.length c')), .int .i64 0]) ∧ mac.length ≤ c' ∧ Kd.F (Kd.int .u8) w' (fun j => w.heap.size ≤ j) A' mac.length mac ∧ Below w.heap.size w w' := by
  have HB := Aside0.mk (Below.refl w.heap.size w)
  have HM := Aside0.mk (Kd.F_bound hm)
  have HMC := Aside0.mk hmc
  have hu := Try.underlying25
  have hb6 : ((mac.length : Int) != 6) = false := by rw [h6]; rfl
  have hi6 : decide ((mac.length : Int) = 6) = true := by rw [h6]; rfl
  have HCL : Aside0 (slices_Clone_byte_byte.f mac = some mac) := ⟨by unfold slices_Clone_byte_byte.f; rw [if_pos (by omega)]⟩
  clear hm hmc h6
  go_enter Try.func17, Try.ntmps17
  go_wp2_with fail
  (go_at_call 41; (with_reducible refine (slices_Clone_byte_byte.calls A cap mac mac _ (Kd.F_now (fG HM)) HMC.out HCL.out).mono ?_); rintro e_ w1 ⟨v_q, rfl, hr_q, hb_⟩; have HB_ : Aside0 (Below w.heap.size w w1) := Aside0.mk (below_step (bG HB) hb_); have hzw1 := hb_.size; (try simp at hzw1); have oa_ := Aside0.mk (box_below hb_ (by repeat (with_reducible first | exact nb_1 w _ | apply ext_drew | apply ext_drewN | apply ext_alloc | refine blk_far ?_ (by show _ ≠ _; dsimp only; omega) _))); (try clear oa oac oaf oal); have oa := oa_; clear oa_; obtain ⟨oac, oaf, oal⟩ := cells_of oa.out; clear HB hb_; have HB := HB_; clear HB_; obtain ⟨A_q, c_q, ev_, hc_q, hf_q⟩ := R_Fl hr_q; subst ev_; have qc := Aside0.mk hc_q; have q := Aside0.mk (Kd.F_bound hf_q); clear hc_q hf_q hr_q; skip)
  go_wp2
  refine bodyPost_ret (v := .tuple #[.agg (C14 new1 (.slice A_q mac.length c_q)), .int .i64 0]) (by simp [results, Try.results17, go_sem, oac, oaf, C14, new1] <;> first | assumption | omega | (symm; assumption)) rfl ?_
  exact ⟨A_q, c_q, rfl, qc.out, (by refine F_res (ok := ?_) (fG q) ?_; intro j_ hj_; (try simp only [sz_alloc, sz_drew, sz_drewN, sz_set] at hj_); omega), (bG HB)⟩
set_option maxHeartbeats 1600000 in
set_option maxRecDepth 100000 in
theorem New_no (A : Option Addr) (cap : Nat) (mac : List Int) (w : World) (h6 : ((mac.length : Int) != 6) = true) :
    Calls Try.prog 17 #[.slice A mac.length cap] w fun e w' => e = .returned (.tuple #[.agg (C14 new0 (.slice none 0 0)), .int .i64 2]) ∧ Below w.heap.size w w' := by
  have HB := Aside0.mk (Below.refl w.heap.size w)
  have hu := Try.underlying25
  go_enter Try.func17, Try.ntmps17
  go_wp2
  refine bodyPost_ret (v := .tuple #[.agg (C14 new0 (.slice none 0 0)), .int .i64 2]) (by simp [results, Try.results17, go_sem, C14, new0] <;> first | assumption | omega | (symm; assumption)) rfl ?_
  exact ⟨rfl, (bG HB)⟩
set_option maxHeartbeats 1600000 in
set_option maxRecDepth 100000 in
theorem Line_is (c : Nat → Int) (A : Option Addr) (m cap : Nat) (w : World) (k : Bool) (hk : okC c m = k) : Calls Try.prog 21 #[.agg (C14 c (.slice A m cap))] w fun e w' => e = .returned (.bool (lineZ c m)) ∧ Below w.heap.size w w' := by
  have HB := Aside0.mk (Below.refl w.heap.size w)
  have HK := Aside0.mk hk
  have hu := Try.underlying25
  unfold lineZ
  rw [hk]
  clear hk
  go_enter Try.func21, Try.ntmps21
  go_upto_region 1 with fail
  obtain ⟨wa, hwa, on0, hb_, hz0⟩ := letter1 w (.cells (C14 c (.slice A m cap)) 25 (0, 0))
  rw [hwa]
  clear hwa
  have hzwa := Nat.le_of_eq hz0.symm
  clear hz0
  have on := Aside0.mk on0
  clear on0
  obtain ⟨onc, onf, onl⟩ := cells_of on.out
  have HB_ : Aside0 (Below w.heap.size w wa) := ⟨hb_⟩
  clear HB hb_
  have HB := HB_
  clear HB_
  go_wp2_with (first | ((with_reducible refine gate_dst (N := 3) rfl ?_); (try (refine gate_guard (by rfl) ?_; dsimp only)); refine wpList_load_row rfl 25 _ rfl _ (by rfl) _ (C14 c (.slice A m cap)) _ _ (eG on) Try.underlying25 rfl i25 ?_))
  (go_at_call 9; (with_reducible refine (Check_of k c A m cap _ HK.out).mono ?_); rintro e_ w1 ⟨rfl, hb_⟩; have HB_ : Aside0 (Below w.heap.size w w1) := Aside0.mk (below_step (bG HB) hb_); have hzw1 := hb_.size; (try simp at hzw1); have on_ := Aside0.mk (box_below hb_ (eG on)); (try clear on onc onf onl); have on := on_; clear on_; obtain ⟨onc, onf, onl⟩ := cells_of on.out; clear HB hb_; have HB := HB_; clear HB_)
  have hc1 : World.cell? w1 ⟨w.heap.size, 1, none⟩ = some (.int .i64 (c 1)) := (onc 1).trans rfl
  have hc2 : World.cell? w1 ⟨w.heap.size, 2, none⟩ = some (.int .i64 (c 2)) := (onc 2).trans rfl
  clear onc
  have onc := trivial
  cases k
  all_goals go_wp2
  all_goals go_ret
  all_goals exact ⟨by simp [*], HB.out⟩
end Go.Proofs.Ytdblpflepfcnjaa.Q
end
