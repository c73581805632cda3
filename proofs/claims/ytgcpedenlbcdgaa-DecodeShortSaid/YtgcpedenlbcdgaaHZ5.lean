import Derived.Test.YtgcpedenlbcdgaaHDword
import Derived.Laws.StructEq
import Derived.Test.YtgcpedenlbcdgaaWf
import Derived.Deep.DrawnRows
section
/- Two instructions, the same or not. -/
namespace Go.Proofs.Ytgcpedenlbcdgaa.Q
open Go.RowKit Go.Proofs.YtgcpedenlbcdgaaW.PrintWords Go.Proofs.YtgcpedenlbcdgaaW.PrintLast Go.Proofs.YtgcpedenlbcdgaaW.PrintMore Go.Proofs.Ytgcpedenlbcdgaa.L
attribute [local go_sem] Instr.field part asAgg lt_step max2_int min2_int max_two min_two max_three min_three max_four min_four lt_0_1 lt_0_2 lt_1_2 lt_0_3 lt_1_3 lt_2_3 lt_0_4 lt_1_4 lt_2_4 lt_3_4 lt_0_5 lt_1_5 lt_2_5 lt_3_5 lt_4_5 lt_0_6 lt_1_6 lt_2_6 lt_3_6 lt_4_6 lt_5_6 lt_0_7 lt_1_7 lt_2_7 lt_3_7 lt_4_7 lt_5_7 lt_6_7 lt_0_8 lt_1_8 lt_2_8 lt_3_8 lt_4_8 lt_5_8 lt_6_8 lt_7_8
set_option linter.unusedVariables false
set_option linter.unusedSimpArgs false
def sameI (i j : Ins) : Bool := i.c == j.c && (i.f == j.f && (i.b == j.b && (i.rd == j.rd && (i.r1 == j.r1 && (i.r2 == j.r2 && i.m == j.m)))))
theorem same_iff {i j : Ins} : sameI i j = true ↔ i = j := by
  obtain ⟨a1, a2, a3, a4, a5, a6, a7⟩ := i
  obtain ⟨b1, b2, b3, b4, b5, b6, b7⟩ := j
  unfold sameI
  simp only [Bool.and_eq_true, beq_iff_eq, Ins.mk.injEq]
set_option maxHeartbeats 1600000 in
set_option maxRecDepth 100000 in
theorem eq7 (a1 a2 : Int) (a3 : Bool) (a4 a5 a6 a7 b1 b2 : Int) (b3 : Bool) (b4 b5 b6 b7 : Int) (w : World) :
    (Op.equalIn 10000 30 (.agg #[.int .i64 a1, .int .i64 a2, .bool a3, .int .i64 a4, .int .i64 a5, .int .i64 a6, .int .u64 a7]) (.agg #[.int .i64 b1, .int .i64 b2, .bool b3, .int .i64 b4, .int .i64 b5, .int .i64 b6, .int .u64 b7])).run Try.prog w = .ok (a1 == b1 && (a2 == b2 && (a3 == b3 && (a4 == b4 && (a5 == b5 && (a6 == b6 && a7 == b7)))))) w := by
  have hu := Try.underlying30
  cases e1 : a1 == b1
  · go_simp
  cases e2 : a2 == b2
  · go_simp
  cases e3 : a3 == b3
  · go_simp
  cases e4 : a4 == b4
  · go_simp
  cases e5 : a5 == b5
  · go_simp
  cases e6 : a6 == b6
  · go_simp
  cases e7 : a7 == b7
  · go_simp
  go_simp
theorem neqI (i j : Ins) (x y : Operand) (w : World) : (eqGuard .neq 30 x y (.agg i.cs) (.agg j.cs)).run Try.prog w = .ok () w ∧ (binOp .neq 30 (.agg i.cs) (.agg j.cs)).run Try.prog w = .ok (.bool (!sameI i j)) w := by
  constructor
  · exact run_eqGuard_agg _ _ _ _ _ _ _ (by kernel_rfl)
  · rw [run_neq_struct]
    obtain ⟨a1, a2, a3, a4, a5, a6, a7⟩ := i
    obtain ⟨b1, b2, b3, b4, b5, b6, b7⟩ := j
    show ((Op.equalIn 10000 30 (.agg #[.int .i64 a1, .int .i64 a2, .bool a3, .int .i64 a4, .int .i64 a5, .int .i64 a6, .int .u64 a7]) (.agg #[.int .i64 b1, .int .i64 b2, .bool b3, .int .i64 b4, .int .i64 b5, .int .i64 b6, .int .u64 b7])).run Try.prog w).andThen _ = _
    rw [eq7]
    rfl
theorem st_neq {ops : Array Oper} {rest : List Oper} {o : Oper} {a : Act} {Q : Exit → Act → World → Prop} {W : World} {t t2 : TypeId} {x y : Operand} {R S : Array Value} {b : Bool} (hgd : o.guard = none) (ho : o.op = .binOp .neq t x y t2) (hx : a.eval x = .agg R) (hy : a.eval y = .agg S)
    (hr : (eqGuard .neq t x y (.agg R) (.agg S)).run Try.prog W = .ok () W ∧ (binOp .neq t (.agg R) (.agg S)).run Try.prog W = .ok (.bool b) W) (h : wpList Try.prog ops Q rest (a.put o.dst (.bool b)) W) : wpList Try.prog ops Q (o :: rest) a W := by
  refine Kd.event_run (v := .bool b) (w1 := W) hgd ?_ h
  unfold execOp
  simp only [ho, hx, hy, Sem.run_bind, hr.1, hr.2, Result.andThen_ok, Sem.run_pure]
end Go.Proofs.Ytgcpedenlbcdgaa.Q
end
section
/- decode.Encode. -/
namespace Go.Proofs.Ytgcpedenlbcdgaa.Q
open Go.RowKit Go.Proofs.YtgcpedenlbcdgaaW.PrintWords Go.Proofs.YtgcpedenlbcdgaaW.PrintLast Go.Proofs.YtgcpedenlbcdgaaW.PrintMore Go.Proofs.Ytgcpedenlbcdgaa.L
attribute [local go_sem] Instr.field part asAgg lt_step max2_int min2_int max_two min_two max_three min_three max_four min_four lt_0_1 lt_0_2 lt_1_2 lt_0_3 lt_1_3 lt_2_3 lt_0_4 lt_1_4 lt_2_4 lt_3_4 lt_0_5 lt_1_5 lt_2_5 lt_3_5 lt_4_5 lt_0_6 lt_1_6 lt_2_6 lt_3_6 lt_4_6 lt_5_6 lt_0_7 lt_1_7 lt_2_7 lt_3_7 lt_4_7 lt_5_7 lt_6_7 lt_0_8 lt_1_8 lt_2_8 lt_3_8 lt_4_8 lt_5_8 lt_6_8 lt_7_8
set_option linter.unusedVariables false
set_option linter.unusedSimpArgs false
def encOk (i : Ins) : Bool := decide (regs i) && (takeK (wordV i) && sameI (decI (wordV i)) i)
set_option maxHeartbeats 1600000 in
set_option maxRecDepth 100000 in
theorem enc_in (i : Ins) (w : World) (hr : regs i) (hw : u32B (wordV i)) (k s : Bool) (hk : takeK (wordV i) = k) (hs : sameI (decI (wordV i)) i = s) :
    Calls Try.prog 13 #[.agg #[.int .i64 i.c, .int .i64 i.f, .bool i.b, .int .i64 i.rd, .int .i64 i.r1, .int .i64 i.r2, .int .u64 i.m]] w fun e w' => e = .returned (.tuple #[.int .u32 (if k && s then wordV i else 0), .bool (k && s)]) ∧ Below w.heap.size w w' := by
  have HB := Aside0.mk (Below.refl w.heap.size w)
  obtain ⟨⟨a0, a1⟩, ⟨b0, b1⟩, ⟨d0, d1⟩⟩ := id hr
  have E1 : Aside0 (∀ W, Calls Try.prog 21 #[.agg #[.int .i64 i.c, .int .i64 i.f, .bool i.b, .int .i64 i.rd, .int .i64 i.r1, .int .i64 i.r2, .int .u64 i.m]] W fun e w' => e = .returned (.int .u32 (wordV i)) ∧ Below W.heap.size W w') := ⟨fun W => word_runs i W hr⟩
  have E2 : Aside0 (∀ W, Calls Try.prog 11 #[.int .u32 (wordV i)] W fun e w' => e = .returned (.tuple #[.agg (decI (wordV i)).cs, .bool k]) ∧ Below W.heap.size W w') := ⟨fun W => by rw [← hk]; exact dec_runs (wordV i) W hw⟩
  have EQ : Aside0 (∀ (x y : Operand) (W : World), (eqGuard .neq 30 x y (.agg (decI (wordV i)).cs) (.agg #[.int .i64 i.c, .int .i64 i.f, .bool i.b, .int .i64 i.rd, .int .i64 i.r1, .int .i64 i.r2, .int .u64 i.m])).run Try.prog W = .ok () W ∧ (binOp .neq 30 (.agg (decI (wordV i)).cs) (.agg #[.int .i64 i.c, .int .i64 i.f, .bool i.b, .int .i64 i.rd, .int .i64 i.r1, .int .i64 i.r2, .int .u64 i.m])).run Try.prog W = .ok (.bool (!s)) W) := ⟨fun x y W => by rw [← hs]; exact neqI _ i x y W⟩
  clear hr hw hk hs
  generalize decI (wordV i) = j at *
  generalize wordV i = v at *
  go_enter Try.func13, Try.ntmps13
  go_upto_region 1 with fail
  obtain ⟨wa, hwa, oc0, hb_, hz0⟩ := letter1 w (.cells #[.int .i64 i.c, .int .i64 i.f, .bool i.b, .int .i64 i.rd, .int .i64 i.r1, .int .i64 i.r2, .int .u64 i.m] 30 (0, 0))
  rw [hwa]
  clear hwa
  have hzwa := Nat.le_of_eq hz0.symm
  clear hz0
  have oc := Aside0.mk oc0
  clear oc0
  obtain ⟨occ, ocf, ocl⟩ := cells_of oc.out
  have HB_ : Aside0 (Below w.heap.size w wa) := ⟨hb_⟩
  clear HB hb_; have HB := HB_; clear HB_
  go_wp2
  refine wp_loop_rounds 4 ?_
  rw [rounds_succ]
  go_wp2
  rw [rounds_succ]
  go_wp2
  rw [rounds_succ]
  go_wp2
  rw [rounds_succ]
  go_wp2_with fail
  (go_at_call 21; (with_reducible refine (E1.out _).mono ?_); rintro e_ w1 ⟨rfl, hb_⟩; have HB_ : Aside0 (Below w.heap.size w w1) := Aside0.mk (below_step (by repeat (first | (with_reducible first | exact HB.out | exact Below.refl _ _ | apply below_alloc | apply pw_below_drewN | apply below_drew | refine below_set ?_ (by omega)) | exact HB.out)) hb_); have hzw1 := hb_.size; (try simp at hzw1); have oc_ := Aside0.mk (box_below hb_ (by repeat (with_reducible first | exact oc.out | apply ext_drew | apply ext_drewN | apply ext_alloc | refine blk_far ?_ (by show _ ≠ _; dsimp only; omega) _))); (try clear oc occ ocf ocl); have oc := oc_; clear oc_; obtain ⟨occ, ocf, ocl⟩ := cells_of oc.out; clear HB hb_; have HB := HB_; clear HB_)
  go_wp2_with fail
  (go_at_call 11; (with_reducible refine (E2.out _).mono ?_); rintro e_ w2 ⟨rfl, hb_⟩; have HB_ : Aside0 (Below w.heap.size w w2) := Aside0.mk (below_step (by repeat (first | (with_reducible first | exact HB.out | exact Below.refl _ _ | apply below_alloc | apply pw_below_drewN | apply below_drew | refine below_set ?_ (by omega)) | exact HB.out)) hb_); have hzw2 := hb_.size; (try simp at hzw2); have oc_ := Aside0.mk (box_below hb_ (by repeat (with_reducible first | exact oc.out | apply ext_drew | apply ext_drewN | apply ext_alloc | refine blk_far ?_ (by show _ ≠ _; dsimp only; omega) _))); (try clear oc occ ocf ocl); have oc := oc_; clear oc_; obtain ⟨occ, ocf, ocl⟩ := cells_of oc.out; clear HB hb_; have HB := HB_; clear HB_)
  cases k <;> cases s
  all_goals
    go_wp2_with (first | ((with_reducible refine gate_store (t := 30) (p := 7) (v := .tmp 33) rfl ?_); refine wpList_store_all rfl 30 _ _ rfl rfl _ j.cs (by rfl) (by rfl) _ _ (nb_1 _ _) (cs_sz j) (cs_info j) (cs_one j) ?_; rintro w3 ⟨hx_, hk_, hb_, hzz_⟩; have HB_ : Aside0 (Below w.heap.size w w3) := Aside0.mk (Below.trans (by repeat (first | (with_reducible first | exact HB.out | exact Below.refl _ _ | apply below_alloc | apply pw_below_drewN | apply below_drew | refine below_set ?_ (by omega)) | exact HB.out)) (Below.mono hb_ (by first | omega | (simp only [sz_alloc, sz_drew, sz_drewN]; omega)))); have hzw3 := hzz_; (try simp at hzw3); clear hzz_; have oc_ := Aside0.mk (st_put oc.out hk_ (fun h_ => (by repeat (with_reducible first | exact h_ | apply ext_drew | apply ext_drewN | apply ext_alloc | refine blk_far ?_ (by show _ ≠ _; dsimp only; omega) _))) (by omega)); clear oc occ ocf ocl; have oc := oc_; clear oc_; obtain ⟨occ, ocf, ocl⟩ := cells_of oc.out; (try clear oj ojc ojf ojl); have oj := Aside0.mk hx_; obtain ⟨ojc, ojf, ojl⟩ := cells_of oj.out; clear HB hb_ hk_ hx_; have HB := HB_; clear HB_) | ((with_reducible refine gate_dst (N := 38) rfl ?_); (try (refine gate_guard (by rfl) ?_; dsimp only)); refine wpList_load_row rfl 30 _ rfl _ (by rfl) _ j.cs _ _ (by repeat (with_reducible first | exact oj.out | apply ext_drew | apply ext_drewN | apply ext_alloc | refine blk_far ?_ (by show _ ≠ _; dsimp only; omega) _)) Try.underlying30 rfl (cs_info j) ?_) | ((with_reducible refine gate_dst (N := 40) rfl ?_); (try (refine gate_guard (by rfl) ?_; dsimp only)); refine st_neq rfl rfl (by rfl) (by rfl) (EQ.out _ _ _) ?_))
    go_ret2
    exact ⟨rfl, (by repeat (first | (with_reducible first | exact HB.out | exact Below.refl _ _ | apply below_alloc | apply pw_below_drewN | apply below_drew | refine below_set ?_ (by omega)) | exact HB.out))⟩
set_option maxHeartbeats 1600000 in
set_option maxRecDepth 100000 in
theorem enc_out (i : Ins) (w : World) (e0 e1 e2 : Bool) (h0 : decide (0 ≤ i.rd ∧ i.rd ≤ 31) = e0) (h1 : decide (0 ≤ i.r1 ∧ i.r1 ≤ 31) = e1) (h2 : decide (0 ≤ i.r2 ∧ i.r2 ≤ 31) = e2) (hb : (e0 && e1 && e2) = false) :
    Calls Try.prog 13 #[.agg #[.int .i64 i.c, .int .i64 i.f, .bool i.b, .int .i64 i.rd, .int .i64 i.r1, .int .i64 i.r2, .int .u64 i.m]] w fun e w' => e = .returned (.tuple #[.int .u32 0, .bool false]) ∧ Below w.heap.size w w' := by
  have HB := Aside0.mk (Below.refl w.heap.size w)
  have HH : Aside0 (¬ ((0 ≤ i.rd ∧ i.rd ≤ 31) ∧ (0 ≤ i.r1 ∧ i.r1 ≤ 31) ∧ (0 ≤ i.r2 ∧ i.r2 ≤ 31))) := ⟨by
    rintro ⟨z0, z1, z2⟩
    rw [← h0, ← h1, ← h2, decide_eq_true z0, decide_eq_true z1, decide_eq_true z2] at hb
    cases hb⟩
  clear h0 h1 h2 hb
  go_enter Try.func13, Try.ntmps13
  go_upto_region 1 with fail
  obtain ⟨wa, hwa, oc0, hb_, hz0⟩ := letter1 w (.cells #[.int .i64 i.c, .int .i64 i.f, .bool i.b, .int .i64 i.rd, .int .i64 i.r1, .int .i64 i.r2, .int .u64 i.m] 30 (0, 0))
  rw [hwa]
  clear hwa
  have hzwa := Nat.le_of_eq hz0.symm
  clear hz0
  have oc := Aside0.mk oc0
  clear oc0
  obtain ⟨occ, ocf, ocl⟩ := cells_of oc.out
  have HB_ : Aside0 (Below w.heap.size w wa) := ⟨hb_⟩
  clear HB hb_; have HB := HB_; clear HB_
  go_wp2
  refine wp_loop_rounds 4 ?_
  rw [rounds_succ]
  go_wp2
  all_goals first
    | (go_ret2; exact ⟨rfl, (by repeat (first | (with_reducible first | exact HB.out | exact Below.refl _ _ | apply below_alloc | apply pw_below_drewN | apply below_drew | refine below_set ?_ (by omega)) | exact HB.out))⟩)
    | (rw [rounds_succ]; go_wp2
       all_goals first
       | (go_ret2; exact ⟨rfl, (by repeat (first | (with_reducible first | exact HB.out | exact Below.refl _ _ | apply below_alloc | apply pw_below_drewN | apply below_drew | refine below_set ?_ (by omega)) | exact HB.out))⟩)
       | (rw [rounds_succ]; go_wp2
          all_goals first
          | (go_ret2; exact ⟨rfl, (by repeat (first | (with_reducible first | exact HB.out | exact Below.refl _ _ | apply below_alloc | apply pw_below_drewN | apply below_drew | refine below_set ?_ (by omega)) | exact HB.out))⟩)
          | (exfalso; have := HH.out; omega)))
/-- What Encode answers. -/
def encZ (i : Ins) : Option (Int × Bool) := if regs i then (if 0 ≤ wordV i ∧ wordV i < 4294967296 then some ((if takeK (wordV i) && sameI (decI (wordV i)) i then wordV i else 0), (takeK (wordV i) && sameI (decI (wordV i)) i)) else none) else some (0, false)
theorem enc_runs (i : Ins) (r1 : Int) (r2 : Bool) (w : World) (h : encZ i = some (r1, r2)) :
    Calls Try.prog 13 #[.agg #[.int .i64 i.c, .int .i64 i.f, .bool i.b, .int .i64 i.rd, .int .i64 i.r1, .int .i64 i.r2, .int .u64 i.m]] w fun e w' => e = .returned (.tuple #[.int .u32 r1, .bool r2]) ∧ Below w.heap.size w w' := by
  unfold encZ at h
  by_cases hr : regs i
  · rw [if_pos hr] at h
    by_cases hw : 0 ≤ wordV i ∧ wordV i < 4294967296
    · rw [if_pos hw] at h
      simp only [Option.some.injEq, Prod.mk.injEq] at h
      obtain ⟨rfl, rfl⟩ := h
      exact enc_in i w hr hw _ _ rfl rfl
    · rw [if_neg hw] at h; cases h
  · rw [if_neg hr] at h
    simp only [Option.some.injEq, Prod.mk.injEq] at h
    obtain ⟨rfl, rfl⟩ := h
    refine enc_out i w _ _ _ rfl rfl rfl ?_
    cases hz : (decide (0 ≤ i.rd ∧ i.rd ≤ 31) && decide (0 ≤ i.r1 ∧ i.r1 ≤ 31) && decide (0 ≤ i.r2 ∧ i.r2 ≤ 31)) with
    | false => rfl
    | true =>
      exfalso
      simp only [Bool.and_eq_true, decide_eq_true_eq] at hz
      exact hr ⟨hz.1.1, hz.1.2, hz.2⟩
def decode_Encode.f (a0_0 : Int) (a0_1 : Int) (a0_2 : Bool) (a0_3 : Int) (a0_4 : Int) (a0_5 : Int) (a0_6 : Int) : Option (Int × Bool) := encZ ⟨a0_0, a0_1, a0_2, a0_3, a0_4, a0_5, a0_6⟩
theorem decode_Encode.calls (a0_0 : Int) (a0_1 : Int) (a0_2 : Bool) (a0_3 : Int) (a0_4 : Int) (a0_5 : Int) (a0_6 : Int) (r1 : Int) (r2 : Bool) (w : World) (h : decode_Encode.f a0_0 a0_1 a0_2 a0_3 a0_4 a0_5 a0_6 = some (r1, r2)) :
    Calls Try.prog 13 #[.agg #[.int .i64 a0_0, .int .i64 a0_1, .bool a0_2, .int .i64 a0_3, .int .i64 a0_4, .int .i64 a0_5, .int .u64 a0_6]] w fun e w' => e = .returned (.tuple #[.int .u32 r1, .bool r2]) ∧ Below w.heap.size w w' :=
  enc_runs ⟨a0_0, a0_1, a0_2, a0_3, a0_4, a0_5, a0_6⟩ r1 r2 w h
end Go.Proofs.Ytgcpedenlbcdgaa.Q
end
