import Derived.Test.YtgcpedenlbcdgaaHDword
import Derived.Laws.StructEq
import Derived.Test.YtgcpedenlbcdgaaWf
import Derived.Deep.DrawnRows
import Derived.Laws.BitsAllLaws
import Derived.Laws.BitsLemmas
section
/- Two instructions, the same or not. -/
namespace Go.Proofs.Ytgcpedenlbcdgaa.Q
open Go.RowKit Go.Proofs.YtgcpedenlbcdgaaW.PrintWords Go.Proofs.YtgcpedenlbcdgaaW.PrintLast Go.Proofs.YtgcpedenlbcdgaaW.PrintMore Go.Proofs.Ytgcpedenlbcdgaa.L
attribute [local go_sem] Instr.field part asAgg lt_step max2_int min2_int max_two min_two max_three min_three max_four min_four lt_0_1 lt_0_2 lt_1_2 lt_0_3 lt_1_3 lt_2_3 lt_0_4 lt_1_4 lt_2_4 lt_3_4 lt_0_5 lt_1_5 lt_2_5 lt_3_5 lt_4_5 lt_0_6 lt_1_6 lt_2_6 lt_3_6 lt_4_6 lt_5_6 lt_0_7 lt_1_7 lt_2_7 lt_3_7 lt_4_7 lt_5_7 lt_6_7 lt_0_8 lt_1_8 lt_2_8 lt_3_8 lt_4_8 lt_5_8 lt_6_8 lt_7_8
set_option linter.unusedVariables false
set_option linter.unusedSimpArgs false
def sameI (i j : Ins) : Bool := i.c == j.c && (i.f == j.f && (i.b == j.b && (i.rd == j.rd && (i.r1 == j.r1 && (i.r2 == j.r2 && i.m == j.m)))))
theorem same_iff {i j : Ins} : sameI i j = true ↔ i = j := by
  obtain ⟨a1, a2, a3, a4, a5, a6, a7⟩ := i
  obtain ⟨b1, b2, b3, b4, b5, b6, b7⟩ := j
  unfold sameI
  simp only [Bool.and_eq_true, beq_iff_eq, Ins.mk.injEq]
set_option maxHeartbeats 1600000 in
set_option maxRecDepth 100000 in
theorem eq7 (a1 a2 : Int) (a3 : Bool) (a4 a5 a6 a7 b1 b2 : Int) (b3 : Bool) (b4 b5 b6 b7 : Int) (w : World) :
    (Op.equalIn 10000 30 (.agg #[.int .i64 a1, .int .i64 a2, .bool a3, .int .i64 a4, .int .i64 a5, .int .i64 a6, .int .u64 a7]) (.agg #[.int .i64 b1, .int .i64 b2, .bool b3, .int .i64 b4, .int .i64 b5, .int .i64 b6, .int .u64 b7])).run Try.prog w = .ok (a1 == b1 && (a2 == b2 && (a3 == b3 && (a4 == b4 && (a5 == b5 && (a6 == b6 && a7 == b7)))))) w := by
  have hu := Try.underlying30
  cases e1 : a1 == b1
  · go_simp
  cases e2 : a2 == b2
  · go_simp
  cases e3 : a3 == b3
  · go_simp
  cases e4 : a4 == b4
  · go_simp
  cases e5 : a5 == b5
  · go_simp
  cases e6 : a6 == b6
  · go_simp
  cases e7 : a7 == b7
  · go_simp
  go_simp
theorem neqI (i j : Ins) (x y : Operand) (w : World) : (eqGuard .neq 30 x y (.agg i.cs) (.agg j.cs)).run Try.prog w = .ok () w ∧ (binOp .neq 30 (.agg i.cs) (.agg j.cs)).run Try.prog w = .ok (.bool (!sameI i j)) w := by
  constructor
  · exact run_eqGuard_agg _ _ _ _ _ _ _ (by kernel_rfl)
  · rw [run_neq_struct]
    obtain ⟨a1, a2, a3, a4, a5, a6, a7⟩ := i
    obtain ⟨b1, b2, b3, b4, b5, b6, b7⟩ := j
    show ((Op.equalIn 10000 30 (.agg #[.int .i64 a1, .int .i64 a2, .bool a3, .int .i64 a4, .int .i64 a5, .int .i64 a6, .int .u64 a7]) (.agg #[.int .i64 b1, .int .i64 b2, .bool b3, .int .i64 b4, .int .i64 b5, .int .i64 b6, .int .u64 b7])).run Try.prog w).andThen _ = _
    rw [eq7]
    rfl
theorem st_neq {ops : Array Oper} {rest : List Oper} {o : Oper} {a : Act} {Q : Exit → Act → World → Prop} {W : World} {t t2 : TypeId} {x y : Operand} {R S : Array Value} {b : Bool} (hgd : o.guard = none) (ho : o.op = .binOp .neq t x y t2) (hx : a.eval x = .agg R) (hy : a.eval y = .agg S)
    (hr : (eqGuard .neq t x y (.agg R) (.agg S)).run Try.prog W = .ok () W ∧ (binOp .neq t (.agg R) (.agg S)).run Try.prog W = .ok (.bool b) W) (h : wpList Try.prog ops Q rest (a.put o.dst (.bool b)) W) : wpList Try.prog ops Q (o :: rest) a W := by
  refine Kd.event_run (v := .bool b) (w1 := W) hgd ?_ h
  unfold execOp
  simp only [ho, hx, hy, Sem.run_bind, hr.1, hr.2, Result.andThen_ok, Sem.run_pure]
end Go.Proofs.Ytgcpedenlbcdgaa.Q
end
section
/- decode.Encode. -/
namespace Go.Proofs.Ytgcpedenlbcdgaa.Q
open Go.RowKit Go.Proofs.YtgcpedenlbcdgaaW.PrintWords Go.Proofs.YtgcpedenlbcdgaaW.PrintLast Go.Proofs.YtgcpedenlbcdgaaW.PrintMore Go.Proofs.Ytgcpedenlbcdgaa.L
attribute [local go_sem] Instr.field part asAgg lt_step max2_int min2_int max_two min_two max_three min_three max_four min_four lt_0_1 lt_0_2 lt_1_2 lt_0_3 lt_1_3 lt_2_3 lt_0_4 lt_1_4 lt_2_4 lt_3_4 lt_0_5 lt_1_5 lt_2_5 lt_3_5 lt_4_5 lt_0_6 lt_1_6 lt_2_6 lt_3_6 lt_4_6 lt_5_6 lt_0_7 lt_1_7 lt_2_7 lt_3_7 lt_4_7 lt_5_7 lt_6_7 lt_0_8 lt_1_8 lt_2_8 lt_3_8 lt_4_8 lt_5_8 lt_6_8 lt_7_8
set_option linter.unusedVariables false
set_option linter.unusedSimpArgs false
def encOk (i : Ins) : Bool := decide (regs i) && (takeK (wordV i) && sameI (decI (wordV i)) i)
set_option maxHeartbeats 1600000 in
set_option maxRecDepth 100000 in
theorem enc_in (i : Ins) (w : World) (hr : regs i) (hw : u32B (wordV i)) (k s : Bool) (hk : takeK (wordV i) = k) (hs : sameI (decI (wordV i)) i = s) :
    Calls Try.prog 13 #[.agg #[.int .i64 i.c, .int .i64 i.f, .bool i.b, .int .i64 i.rd, .int .i64 i.r1, .int .i64 i.r2, .int .u64 i.m]] w fun e w' => e = .returned (.tuple #[.int .u32 (if k && s then wordV i else 0), .bool (k && s)]) ∧ Below w.heap.size w w' := by
  have HB := Aside0.mk (Below.refl w.heap.size w)
  obtain ⟨⟨a0, a1⟩, ⟨b0, b1⟩, ⟨d0, d1⟩⟩ := id hr
  have E1 : Aside0 (∀ W, Calls Try.prog 21 #[.agg #[.int .i64 i.c, .int .i64 i.f, .bool i.b, .int .i64 i.rd, .int .i64 i.r1, .int .i64 i.r2, .int .u64 i.m]] W fun e w' => e = .returned (.int .u32 (wordV i)) ∧ Below W.heap.size W w') := ⟨fun W => word_runs i W hr⟩
  have E2 : Aside0 (∀ W, Calls Try.prog 11 #[.int .u32 (wordV i)] W fun e w' => e = .returned (.tuple #[.agg (decI (wordV i)).cs, .bool k]) ∧ Below W.heap.size W w') := ⟨fun W => by rw [← hk]; exact dec_runs (wordV i) W hw⟩
  have EQ : Aside0 (∀ (x y : Operand) (W : World), (eqGuard .neq 30 x y (.agg (decI (wordV i)).cs) (.agg #[.int .i64 i.c, .int .i64 i.f, .bool i.b, .int .i64 i.rd, .int .i64 i.r1, .int .i64 i.r2, .int .u64 i.m])).run Try.prog W = .ok () W ∧ (binOp .neq 30 (.agg (decI (wordV i)).cs) (.agg #[.int .i64 i.c, .int .i64 i.f, .bool i.b, .int .i64 i.rd, .int .i64 i.r1, .int .i64 i.r2, .int .u64 i.m])).run Try.prog W = .ok (.bool (!s)) W) := ⟨fun x y W => by rw [← hs]; exact neqI _ i x y W⟩
  clear hr hw hk hs
  generalize decI (wordV i) = j at *
  generalize wordV i = v at *
  go_enter Try.func13, Try.ntmps13
  go_upto_region 1 with fail
  obtain ⟨wa, hwa, oc0, hb_, hz0⟩ := letter1 w (.cells #[.int .i64 i.c, .int .i64 i.f, .bool i.b, .int .i64 i.rd, .int .i64 i.r1, .int .i64 i.r2, .int .u64 i.m] 30 (0, 0))
  rw [hwa]
  clear hwa
  have hzwa := Nat.le_of_eq hz0.symm
  clear hz0
  have oc := Aside0.mk oc0
  clear oc0
  obtain ⟨occ, ocf, ocl⟩ := cells_of oc.out
  have HB_ : Aside0 (Below w.heap.size w wa) := ⟨hb_⟩
  clear HB hb_; have HB := HB_; clear HB_
  go_wp2
  refine wp_loop_rounds 4 ?_
  rw [rounds_succ]
  go_wp2
  rw [rounds_succ]
  go_wp2
  rw [rounds_succ]
  go_wp2
  rw [rounds_succ]
  go_wp2_with fail
  (go_at_call 21; (with_reducible refine (E1.out _).mono ?_); rintro e_ w1 ⟨rfl, hb_⟩; have HB_ : Aside0 (Below w.heap.size w w1) := Aside0.mk (below_step (by repeat (first | (with_reducible first | exact HB.out | exact Below.refl _ _ | apply below_alloc | apply pw_below_drewN | apply below_drew | refine below_set ?_ (by omega)) | exact HB.out)) hb_); have hzw1 := hb_.size; (try simp at hzw1); have oc_ := Aside0.mk (box_below hb_ (by repeat (with_reducible first | exact oc.out | apply ext_drew | apply ext_drewN | apply ext_alloc | refine blk_far ?_ (by show _ ≠ _; dsimp only; omega) _))); (try clear oc occ ocf ocl); have oc := oc_; clear oc_; obtain ⟨occ, ocf, ocl⟩ := cells_of oc.out; clear HB hb_; have HB := HB_; clear HB_)
  go_wp2_with fail
  (go_at_call 11; (with_reducible refine (E2.out _).mono ?_); rintro e_ w2 ⟨rfl, hb_⟩; have HB_ : Aside0 (Below w.heap.size w w2) := Aside0.mk (below_step (by repeat (first | (with_reducible first | exact HB.out | exact Below.refl _ _ | apply below_alloc | apply pw_below_drewN | apply below_drew | refine below_set ?_ (by omega)) | exact HB.out)) hb_); have hzw2 := hb_.size; (try simp at hzw2); have oc_ := Aside0.mk (box_below hb_ (by repeat (with_reducible first | exact oc.out | apply ext_drew | apply ext_drewN | apply ext_alloc | refine blk_far ?_ (by show _ ≠ _; dsimp only; omega) _))); (try clear oc occ ocf ocl); have oc := oc_; clear oc_; obtain ⟨occ, ocf, ocl⟩ := cells_of oc.out; clear HB hb_; have HB := HB_; clear HB_)
  cases k <;> cases s
  all_goals
    go_wp2_with (first | ((with_reducible refine gate_store (t := 30) (p := 7) (v := .tmp 33) rfl ?_); refine wpList_store_all rfl 30 _ _ rfl rfl _ j.cs (by rfl) (by rfl) _ _ (nb_1 _ _) (cs_sz j) (cs_info j) (cs_one j) ?_; rintro w3 ⟨hx_, hk_, hb_, hzz_⟩; have HB_ : Aside0 (Below w.heap.size w w3) := Aside0.mk (Below.trans (by repeat (first | (with_reducible first | exact HB.out | exact Below.refl _ _ | apply below_alloc | apply pw_below_drewN | apply below_drew | refine below_set ?_ (by omega)) | exact HB.out)) (Below.mono hb_ (by first | omega | (simp only [sz_alloc, sz_drew, sz_drewN]; omega)))); have hzw3 := hzz_; (try simp at hzw3); clear hzz_; have oc_ := Aside0.mk (st_put oc.out hk_ (fun h_ => (by repeat (with_reducible first | exact h_ | apply ext_drew | apply ext_drewN | apply ext_alloc | refine blk_far ?_ (by show _ ≠ _; dsimp only; omega) _))) (by omega)); clear oc occ ocf ocl; have oc := oc_; clear oc_; obtain ⟨occ, ocf, ocl⟩ := cells_of oc.out; (try clear oj ojc ojf ojl); have oj := Aside0.mk hx_; obtain ⟨ojc, ojf, ojl⟩ := cells_of oj.out; clear HB hb_ hk_ hx_; have HB := HB_; clear HB_) | ((with_reducible refine gate_dst (N := 38) rfl ?_); (try (refine gate_guard (by rfl) ?_; dsimp only)); refine wpList_load_row rfl 30 _ rfl _ (by rfl) _ j.cs _ _ (by repeat (with_reducible first | exact oj.out | apply ext_drew | apply ext_drewN | apply ext_alloc | refine blk_far ?_ (by show _ ≠ _; dsimp only; omega) _)) Try.underlying30 rfl (cs_info j) ?_) | ((with_reducible refine gate_dst (N := 40) rfl ?_); (try (refine gate_guard (by rfl) ?_; dsimp only)); refine st_neq rfl rfl (by rfl) (by rfl) (EQ.out _ _ _) ?_))
    go_ret2
    exact ⟨rfl, (by repeat (first | (with_reducible first | exact HB.out | exact Below.refl _ _ | apply below_alloc | apply pw_below_drewN | apply below_drew | refine below_set ?_ (by omega)) | exact HB.out))⟩
set_option maxHeartbeats 1600000 in
set_option maxRecDepth 100000 in
theorem enc_out (i : Ins) (w : World) (e0 e1 e2 : Bool) (h0 : decide (0 ≤ i.rd ∧ i.rd ≤ 31) = e0) (h1 : decide (0 ≤ i.r1 ∧ i.r1 ≤ 31) = e1) (h2 : decide (0 ≤ i.r2 ∧ i.r2 ≤ 31) = e2) (hb : (e0 && e1 && e2) = false) :
    Calls Try.prog 13 #[.agg #[.int .i64 i.c, .int .i64 i.f, .bool i.b, .int .i64 i.rd, .int .i64 i.r1, .int .i64 i.r2, .int .u64 i.m]] w fun e w' => e = .returned (.tuple #[.int .u32 0, .bool false]) ∧ Below w.heap.size w w' := by
  have HB := Aside0.mk (Below.refl w.heap.size w)
  have HH : Aside0 (¬ ((0 ≤ i.rd ∧ i.rd ≤ 31) ∧ (0 ≤ i.r1 ∧ i.r1 ≤ 31) ∧ (0 ≤ i.r2 ∧ i.r2 ≤ 31))) := ⟨by
    rintro ⟨z0, z1, z2⟩
    rw [← h0, ← h1, ← h2, decide_eq_true z0, decide_eq_true z1, decide_eq_true z2] at hb
    cases hb⟩
  clear h0 h1 h2 hb
  go_enter Try.func13, Try.ntmps13
  go_upto_region 1 with fail
  obtain ⟨wa, hwa, oc0, hb_, hz0⟩ := letter1 w (.cells #[.int .i64 i.c, .int .i64 i.f, .bool i.b, .int .i64 i.rd, .int .i64 i.r1, .int .i64 i.r2, .int .u64 i.m] 30 (0, 0))
  rw [hwa]
  clear hwa
  have hzwa := Nat.le_of_eq hz0.symm
  clear hz0
  have oc := Aside0.mk oc0
  clear oc0
  obtain ⟨occ, ocf, ocl⟩ := cells_of oc.out
  have HB_ : Aside0 (Below w.heap.size w wa) := ⟨hb_⟩
  clear HB hb_; have HB := HB_; clear HB_
  go_wp2
  refine wp_loop_rounds 4 ?_
  rw [rounds_succ]
  go_wp2
  all_goals first
    | (go_ret2; exact ⟨rfl, (by repeat (first | (with_reducible first | exact HB.out | exact Below.refl _ _ | apply below_alloc | apply pw_below_drewN | apply below_drew | refine below_set ?_ (by omega)) | exact HB.out))⟩)
    | (rw [rounds_succ]; go_wp2
       all_goals first
       | (go_ret2; exact ⟨rfl, (by repeat (first | (with_reducible first | exact HB.out | exact Below.refl _ _ | apply below_alloc | apply pw_below_drewN | apply below_drew | refine below_set ?_ (by omega)) | exact HB.out))⟩)
       | (rw [rounds_succ]; go_wp2
          all_goals first
          | (go_ret2; exact ⟨rfl, (by repeat (first | (with_reducible first | exact HB.out | exact Below.refl _ _ | apply below_alloc | apply pw_below_drewN | apply below_drew | refine below_set ?_ (by omega)) | exact HB.out))⟩)
          | (exfalso; have := HH.out; omega)))
/-- What Encode answers. -/
def encZ (i : Ins) : Option (Int × Bool) := if regs i then (if 0 ≤ wordV i ∧ wordV i < 4294967296 then some ((if takeK (wordV i) && sameI (decI (wordV i)) i then wordV i else 0), (takeK (wordV i) && sameI (decI (wordV i)) i)) else none) else some (0, false)
theorem enc_runs (i : Ins) (r1 : Int) (r2 : Bool) (w : World) (h : encZ i = some (r1, r2)) :
    Calls Try.prog 13 #[.agg #[.int .i64 i.c, .int .i64 i.f, .bool i.b, .int .i64 i.rd, .int .i64 i.r1, .int .i64 i.r2, .int .u64 i.m]] w fun e w' => e = .returned (.tuple #[.int .u32 r1, .bool r2]) ∧ Below w.heap.size w w' := by
  unfold encZ at h
  by_cases hr : regs i
  · rw [if_pos hr] at h
    by_cases hw : 0 ≤ wordV i ∧ wordV i < 4294967296
    · rw [if_pos hw] at h
      simp only [Option.some.injEq, Prod.mk.injEq] at h
      obtain ⟨rfl, rfl⟩ := h
      exact enc_in i w hr hw _ _ rfl rfl
    · rw [if_neg hw] at h; cases h
  · rw [if_neg hr] at h
    simp only [Option.some.injEq, Prod.mk.injEq] at h
    obtain ⟨rfl, rfl⟩ := h
    refine enc_out i w _ _ _ rfl rfl rfl ?_
    cases hz : (decide (0 ≤ i.rd ∧ i.rd ≤ 31) && decide (0 ≤ i.r1 ∧ i.r1 ≤ 31) && decide (0 ≤ i.r2 ∧ i.r2 ≤ 31)) with
    | false => rfl
    | true =>
      exfalso
      simp only [Bool.and_eq_true, decide_eq_true_eq] at hz
      exact hr ⟨hz.1.1, hz.1.2, hz.2⟩
def decode_Encode.f (a0_0 : Int) (a0_1 : Int) (a0_2 : Bool) (a0_3 : Int) (a0_4 : Int) (a0_5 : Int) (a0_6 : Int) : Option (Int × Bool) := encZ ⟨a0_0, a0_1, a0_2, a0_3, a0_4, a0_5, a0_6⟩
theorem decode_Encode.calls (a0_0 : Int) (a0_1 : Int) (a0_2 : Bool) (a0_3 : Int) (a0_4 : Int) (a0_5 : Int) (a0_6 : Int) (r1 : Int) (r2 : Bool) (w : World) (h : decode_Encode.f a0_0 a0_1 a0_2 a0_3 a0_4 a0_5 a0_6 = some (r1, r2)) :
    Calls Try.prog 13 #[.agg #[.int .i64 a0_0, .int .i64 a0_1, .bool a0_2, .int .i64 a0_3, .int .i64 a0_4, .int .i64 a0_5, .int .u64 a0_6]] w fun e w' => e = .returned (.tuple #[.int .u32 r1, .bool r2]) ∧ Below w.heap.size w w' :=
  enc_runs ⟨a0_0, a0_1, a0_2, a0_3, a0_4, a0_5, a0_6⟩ r1 r2 w h
end Go.Proofs.Ytgcpedenlbcdgaa.Q
end
section
/- Layer 3, plain facts: words of 32 bits as sums of fields. -/
set_option linter.unusedVariables false
set_option linter.unusedSimpArgs false
namespace Go.Proofs.Ytgcpedenlbcdgaa.Q
open Go.RowKit Go.Proofs.YtgcpedenlbcdgaaW.PrintWords Go.Proofs.YtgcpedenlbcdgaaW.PrintLast Go.Proofs.YtgcpedenlbcdgaaW.PrintMore Go.Proofs.Ytgcpedenlbcdgaa.L
/-- A number whose bits lie within M. -/
def msk (x : Int) (M : Nat) : Prop := 0 ≤ x ∧ x.toNat &&& M = x.toNat
theorem msk_le {x : Int} {M : Nat} (h : msk x M) : x ≤ M := by
  have := Nat.and_le_right (n := x.toNat) (m := M)
  rw [h.2] at this
  have := h.1
  omega
theorem msk_zero : msk 0 0 := ⟨by decide, rfl⟩
theorem or_sum (X Y : Nat) (h : X &&& Y = 0) (hx : X < 2 ^ 40) (hy : Y < 2 ^ 40) : X ||| Y = X + Y := by
  have e := BitVec.add_eq_or_of_and_eq_zero (BitVec.ofNat 64 X) (BitVec.ofNat 64 Y) (by
    apply BitVec.eq_of_toNat_eq
    rw [BitVec.toNat_and, BitVec.toNat_ofNat, BitVec.toNat_ofNat, Nat.mod_eq_of_lt (by omega), Nat.mod_eq_of_lt (by omega), h]; rfl)
  have e2 := congrArg BitVec.toNat e
  rw [BitVec.toNat_add, BitVec.toNat_or, BitVec.toNat_ofNat, BitVec.toNat_ofNat, Nat.mod_eq_of_lt (by omega : X < 2 ^ 64), Nat.mod_eq_of_lt (by omega : Y < 2 ^ 64), Nat.mod_eq_of_lt (by omega)] at e2
  exact e2.symm
theorem and_apart {X Y A B : Nat} (hx : X &&& A = X) (hy : Y &&& B = Y) (h : A &&& B = 0) : X &&& Y = 0 := by
  rw [← hx, ← hy, Nat.and_assoc, ← Nat.and_assoc A, Nat.and_comm A Y, Nat.and_assoc Y, h, Nat.and_zero, Nat.and_zero]
theorem msk_or {x y : Int} {A B : Nat} (hx : msk x A) (hy : msk y B) (hA : A < 4294967296) (hB : B < 4294967296) (hd : A &&& B = 0) : Go.bits .or .u32 x y = x + y ∧ msk (x + y) (A ||| B) := by
  have lx := msk_le hx
  have ly := msk_le hy
  have px := hx.1
  have py := hy.1
  have ha := and_apart hx.2 hy.2 hd
  have e := or_sum x.toNat y.toNat ha (by omega) (by omega)
  refine ⟨?_, by omega, ?_⟩
  · rw [u32_or x y px (by omega) py (by omega), e]; omega
  · have et : (x + y).toNat = x.toNat ||| y.toNat := by rw [e]; omega
    rw [et, Nat.and_or_distrib_right, Nat.and_or_distrib_left, Nat.and_or_distrib_left, hx.2, hy.2]
    have h1 : x.toNat &&& B = x.toNat &&& B := rfl
    apply Nat.eq_of_testBit_eq
    intro i
    simp only [Nat.testBit_or, Nat.testBit_and]
    cases x.toNat.testBit i <;> cases y.toNat.testBit i <;> cases B.testBit i <;> cases A.testBit i <;> rfl
theorem msk_mul (y : Int) (n l : Nat) (h0 : 0 ≤ y) (h1 : y < 2 ^ n) : msk (y * 2 ^ l) ((2 ^ n - 1) * 2 ^ l) := by
  obtain ⟨Y, rfl⟩ := Int.eq_ofNat_of_zero_le h0
  have hY : Y < 2 ^ n := by have : ((Y : Int)) < ((2 ^ n : Nat) : Int) := by simpa using h1
                            omega
  refine ⟨by have := two_pow_pos l; exact Int.mul_nonneg h0 (Int.le_of_lt this), ?_⟩
  have et : ((Y : Int) * 2 ^ l).toNat = Y <<< l := by rw [Nat.shiftLeft_eq]; have : (Y : Int) * 2 ^ l = ((Y * 2 ^ l : Nat) : Int) := by simp
                                                      rw [this, Int.toNat_natCast]
  rw [et, ← Nat.shiftLeft_eq, ← Nat.shiftLeft_and_distrib, Nat.and_two_pow_sub_one_of_lt_two_pow hY]
theorem wrap32 {x : Int} (h0 : 0 ≤ x) (h1 : x < 4294967296) : IntKind.u32.wrap x = x := by rw [IntKind.wrap_u32]; omega
theorem put_sum {op k hi rd r1 r2 : Int} {A0 A1 A2 A3 A4 A5 : Nat} (h0 : msk op A0) (h1 : msk (rd * 128) A1) (h2 : msk (k * 4096) A2) (h3 : msk (r1 * 32768) A3) (h4 : msk (r2 * 1048576) A4) (h5 : msk (hi * 33554432) A5)
    (hd : (decide (A0 < 4294967296) && (decide (A1 < 4294967296) && (decide (A2 < 4294967296) && (decide (A3 < 4294967296) && (decide (A4 < 4294967296) && (decide (A5 < 4294967296) && (decide ((A0 ||| A1) < 4294967296) && (decide ((A0 ||| A1 ||| A2) < 4294967296) && (decide ((A0 ||| A1 ||| A2 ||| A3) < 4294967296) && (decide ((A0 ||| A1 ||| A2 ||| A3 ||| A4) < 4294967296) &&
      (decide (A0 &&& A1 = 0) && (decide ((A0 ||| A1) &&& A2 = 0) && (decide ((A0 ||| A1 ||| A2) &&& A3 = 0) && (decide ((A0 ||| A1 ||| A2 ||| A3) &&& A4 = 0) && decide ((A0 ||| A1 ||| A2 ||| A3 ||| A4) &&& A5 = 0))))))))))))))) = true) :
    putZ op k hi rd r1 r2 = op + rd * 128 + k * 4096 + r1 * 32768 + r2 * 1048576 + hi * 33554432 ∧ msk (op + rd * 128 + k * 4096 + r1 * 32768 + r2 * 1048576 + hi * 33554432) (A0 ||| A1 ||| A2 ||| A3 ||| A4 ||| A5) := by
  simp only [Bool.and_eq_true, decide_eq_true_eq] at hd
  obtain ⟨b0, b1, b2, b3, b4, b5, c1, c2, c3, c4, d1, d2, d3, d4, d5⟩ := hd
  have l2 := msk_le h2
  have l5 := msk_le h5
  obtain ⟨e1, m1⟩ := msk_or h0 h1 b0 b1 d1
  obtain ⟨e2, m2⟩ := msk_or m1 h2 c1 b2 d2
  obtain ⟨e3, m3⟩ := msk_or m2 h3 c2 b3 d3
  obtain ⟨e4, m4⟩ := msk_or m3 h4 c3 b4 d4
  obtain ⟨e5, m5⟩ := msk_or m4 h5 c4 b5 d5
  unfold putZ
  rw [wrap32 h2.1 (by omega), wrap32 h5.1 (by omega), e1, e2, e3, e4, e5]
  exact ⟨rfl, m5⟩
theorem mod_mask (z : Int) (j : Nat) (hj : j ≤ 32) (h0 : 0 ≤ z) (h1 : z < 4294967296) : Go.bits .and .u32 z (2 ^ j - 1) = z % 2 ^ j := by
  obtain ⟨Z, rfl⟩ := Int.eq_ofNat_of_zero_le h0
  have hm : ((2 : Int) ^ j - 1) = ((2 ^ j - 1 : Nat) : Int) := by
    have h := Nat.two_pow_pos j
    have hc : ((2 ^ j : Nat) : Int) = (2 : Int) ^ j := by simp
    omega
  have hlt : 2 ^ j ≤ 2 ^ 32 := Nat.pow_le_pow_right (by decide) hj
  rw [hm, u32_and_nat Z (2 ^ j - 1) (by omega) (by omega), Nat.and_two_pow_sub_one_eq_mod]
  simp
theorem andNot_4095 (z : Int) (h0 : 0 ≤ z) (h1 : z < 4294967296) : Go.bits .andNot .u32 z 4095 = z - z % 4096 := by
  obtain ⟨Z, rfl⟩ := Int.eq_ofNat_of_zero_le h0
  have e := u32_andNot_nat Z 4095 (by omega) (by decide)
  rw [show ((4095 : Nat) : Int) = 4095 from rfl] at e
  rw [e]
  have ha : (Z &&& 4294963200) &&& (Z &&& 4095) = 0 := by
    rw [Nat.and_assoc, ← Nat.and_assoc 4294963200, Nat.and_comm 4294963200 Z, Nat.and_assoc Z, show (4294963200 &&& 4095 : Nat) = 0 from rfl, Nat.and_zero, Nat.and_zero]
  have l1 := Nat.and_le_left (n := Z) (m := 4294963200)
  have l2 := Nat.and_le_left (n := Z) (m := 4095)
  have hs := or_sum _ _ ha (by omega) (by omega)
  rw [← Nat.and_or_distrib_left, show (4294963200 ||| 4095 : Nat) = 2 ^ 32 - 1 from rfl, Nat.and_two_pow_sub_one_of_lt_two_pow (by omega)] at hs
  have hm : Z &&& 4095 = Z % 4096 := Nat.and_two_pow_sub_one_eq_mod Z 12
  rw [hm] at hs
  show (((Z &&& 4294963200 : Nat)) : Int) = _
  omega
end Go.Proofs.Ytgcpedenlbcdgaa.Q
end
section
/- Layer 3, plain facts: what was taken apart is put together. -/
set_option linter.unusedVariables false
set_option linter.unusedSimpArgs false
namespace Go.Proofs.Ytgcpedenlbcdgaa.Q
open Go.RowKit Go.Proofs.YtgcpedenlbcdgaaW.PrintWords Go.Proofs.YtgcpedenlbcdgaaW.PrintLast Go.Proofs.YtgcpedenlbcdgaaW.PrintMore Go.Proofs.Ytgcpedenlbcdgaa.L
theorem fz (x : Int) (h l : Nat) (hl : l ≤ h) (hh : h ≤ 63) (n : Nat) (hn : h + 1 = l + n) : fieldZ x h l = x / 2 ^ l % 2 ^ n := by
  rw [fieldZ_in x h l (by omega) (by omega) (by omega)]
  congr 2
  rw [show ((h : Int) - l + 1).toNat = n by omega]
theorem f11_7 (x : Int) : fieldZ x 11 7 = x / 128 % 32 := by
  have := fz x 11 7 (by decide) (by decide) 5 rfl
  simpa using this
theorem f19_15 (x : Int) : fieldZ x 19 15 = x / 32768 % 32 := by
  have := fz x 19 15 (by decide) (by decide) 5 rfl
  simpa using this
theorem f24_20 (x : Int) : fieldZ x 24 20 = x / 1048576 % 32 := by
  have := fz x 24 20 (by decide) (by decide) 5 rfl
  simpa using this
theorem f14_12 (x : Int) : fieldZ x 14 12 = x / 4096 % 8 := by
  have := fz x 14 12 (by decide) (by decide) 3 rfl
  simpa using this
theorem f31_12 (x : Int) : fieldZ x 31 12 = x / 4096 % 1048576 := by
  have := fz x 31 12 (by decide) (by decide) 20 rfl
  simpa using this
theorem f31_20 (x : Int) : fieldZ x 31 20 = x / 1048576 % 4096 := by
  have := fz x 31 20 (by decide) (by decide) 12 rfl
  simpa using this
theorem f31_31 (x : Int) : fieldZ x 31 31 = x / 2147483648 % 2 := by
  have := fz x 31 31 (by decide) (by decide) 1 rfl
  simpa using this
theorem f19_12 (x : Int) : fieldZ x 19 12 = x / 4096 % 256 := by
  have := fz x 19 12 (by decide) (by decide) 8 rfl
  simpa using this
theorem f20_20 (x : Int) : fieldZ x 20 20 = x / 1048576 % 2 := by
  have := fz x 20 20 (by decide) (by decide) 1 rfl
  simpa using this
theorem f30_21 (x : Int) : fieldZ x 30 21 = x / 2097152 % 1024 := by
  have := fz x 30 21 (by decide) (by decide) 10 rfl
  simpa using this
theorem f7_7 (x : Int) : fieldZ x 7 7 = x / 128 % 2 := by
  have := fz x 7 7 (by decide) (by decide) 1 rfl
  simpa using this
theorem f30_25 (x : Int) : fieldZ x 30 25 = x / 33554432 % 64 := by
  have := fz x 30 25 (by decide) (by decide) 6 rfl
  simpa using this
theorem f11_8 (x : Int) : fieldZ x 11 8 = x / 256 % 16 := by
  have := fz x 11 8 (by decide) (by decide) 4 rfl
  simpa using this
theorem f31_25 (x : Int) : fieldZ x 31 25 = x / 33554432 % 128 := by
  have := fz x 31 25 (by decide) (by decide) 7 rfl
  simpa using this
theorem f6_0 (x : Int) : fieldZ x 6 0 = x / 1 % 128 := by
  have := fz x 6 0 (by decide) (by decide) 7 rfl
  simpa using this
theorem f25_20 (x : Int) : fieldZ x 25 20 = x / 1048576 % 64 := by
  have := fz x 25 20 (by decide) (by decide) 6 rfl
  simpa using this
theorem f31_26 (x : Int) : fieldZ x 31 26 = x / 67108864 % 64 := by
  have := fz x 31 26 (by decide) (by decide) 6 rfl
  simpa using this
theorem f31_27 (x : Int) : fieldZ x 31 27 = x / 134217728 % 32 := by
  have := fz x 31 27 (by decide) (by decide) 5 rfl
  simpa using this
end Go.Proofs.Ytgcpedenlbcdgaa.Q
end
section
/- Layer 3, plain facts: what was taken apart is put together. -/
set_option linter.unusedVariables false
set_option linter.unusedSimpArgs false
namespace Go.Proofs.Ytgcpedenlbcdgaa.Q
open Go.RowKit Go.Proofs.YtgcpedenlbcdgaaW.PrintWords Go.Proofs.YtgcpedenlbcdgaaW.PrintLast Go.Proofs.YtgcpedenlbcdgaaW.PrintMore Go.Proofs.Ytgcpedenlbcdgaa.L
theorem sx32 (y : Int) : sextZ y 32 = if y % 4294967296 < 2147483648 then y % 4294967296 else y % 4294967296 - 4294967296 + 18446744073709551616 := by
  unfold sextZ
  rw [if_neg (by decide), if_neg (by decide)]
  rfl
theorem sx12 (y : Int) : sextZ y 12 = if y % 4096 < 2048 then y % 4096 else y % 4096 - 4096 + 18446744073709551616 := by
  unfold sextZ
  rw [if_neg (by decide), if_neg (by decide)]
  rfl
theorem sx21 (y : Int) : sextZ y 21 = if y % 2097152 < 1048576 then y % 2097152 else y % 2097152 - 2097152 + 18446744073709551616 := by
  unfold sextZ
  rw [if_neg (by decide), if_neg (by decide)]
  rfl
theorem sx13 (y : Int) : sextZ y 13 = if y % 8192 < 4096 then y % 8192 else y % 8192 - 8192 + 18446744073709551616 := by
  unfold sextZ
  rw [if_neg (by decide), if_neg (by decide)]
  rfl
theorem msk_or64 {x y : Int} {A B : Nat} (hx : msk x A) (hy : msk y B) (hA : A < 4294967296) (hB : B < 4294967296) (hd : A &&& B = 0) : Go.bits .or .u64 x y = x + y ∧ msk (x + y) (A ||| B) := by
  have h := msk_or hx hy hA hB hd
  refine ⟨?_, h.2⟩
  have lx := msk_le hx
  have ly := msk_le hy
  have px := hx.1
  have py := hy.1
  have ha := and_apart hx.2 hy.2 hd
  have e := or_sum x.toNat y.toNat ha (by omega) (by omega)
  obtain ⟨X, rfl⟩ := Int.eq_ofNat_of_zero_le px
  obtain ⟨Y, rfl⟩ := Int.eq_ofNat_of_zero_le py
  rw [u64_or_nat X Y (by omega) (by omega)]
  simp only [Int.toNat_natCast] at e
  rw [e]; simp
theorem jz (a b c d : Int) (a0 : 0 ≤ a) (a1 : a < 2) (b0 : 0 ≤ b) (b1 : b < 256) (c0 : 0 ≤ c) (c1 : c < 2) (d0 : 0 ≤ d) (d1 : d < 1024) :
    sextZ (a * 1048576 + b * 4096 + c * 2048 + d * 2) 21 % 4294967296 / 1048576 % 2 = a ∧ sextZ (a * 1048576 + b * 4096 + c * 2048 + d * 2) 21 % 4294967296 / 2 % 1024 = d ∧ sextZ (a * 1048576 + b * 4096 + c * 2048 + d * 2) 21 % 4294967296 / 2048 % 2 = c ∧ sextZ (a * 1048576 + b * 4096 + c * 2048 + d * 2) 21 % 4294967296 / 4096 % 256 = b := by
  have hM : sextZ (a * 1048576 + b * 4096 + c * 2048 + d * 2) 21 % 4294967296 = a * 1048576 + b * 4096 + c * 2048 + d * 2 ∨ sextZ (a * 1048576 + b * 4096 + c * 2048 + d * 2) 21 % 4294967296 = a * 1048576 + b * 4096 + c * 2048 + d * 2 + 4292870144 := by
    rw [sx21, show (a * 1048576 + b * 4096 + c * 2048 + d * 2) % 2097152 = a * 1048576 + b * 4096 + c * 2048 + d * 2 by omega]
    split
    · left; omega
    · right; omega
  rcases hM with hM | hM <;> rw [hM] <;> exact ⟨by omega, by omega, by omega, by omega⟩
theorem bz (a b c d : Int) (a0 : 0 ≤ a) (a1 : a < 2) (b0 : 0 ≤ b) (b1 : b < 2) (c0 : 0 ≤ c) (c1 : c < 64) (d0 : 0 ≤ d) (d1 : d < 16) :
    sextZ (a * 4096 + b * 2048 + c * 32 + d * 2) 13 % 4294967296 / 4096 % 2 = a ∧ sextZ (a * 4096 + b * 2048 + c * 32 + d * 2) 13 % 4294967296 / 32 % 64 = c ∧ sextZ (a * 4096 + b * 2048 + c * 32 + d * 2) 13 % 4294967296 / 2 % 16 = d ∧ sextZ (a * 4096 + b * 2048 + c * 32 + d * 2) 13 % 4294967296 / 2048 % 2 = b := by
  have hM : sextZ (a * 4096 + b * 2048 + c * 32 + d * 2) 13 % 4294967296 = a * 4096 + b * 2048 + c * 32 + d * 2 ∨ sextZ (a * 4096 + b * 2048 + c * 32 + d * 2) 13 % 4294967296 = a * 4096 + b * 2048 + c * 32 + d * 2 + 4294959104 := by
    rw [sx13, show (a * 4096 + b * 2048 + c * 32 + d * 2) % 8192 = a * 4096 + b * 2048 + c * 32 + d * 2 by omega]
    split
    · left; omega
    · right; omega
  rcases hM with hM | hM <;> rw [hM] <;> exact ⟨by omega, by omega, by omega, by omega⟩
theorem wv7 (f r1 r2 m : Int) : wordV ⟨7, f, false, 0, r1, r2, m⟩ = Go.bits .or .u32 (putZ 35 (f % 4294967296) (Go.bits .and .u32 (m % 4294967296 / 32) 127) 0 r1 r2) (Go.bits .and .u32 (m % 4294967296) 31 * 128 % 4294967296) := rfl
theorem wv3 (rd m : Int) : wordV ⟨3, 0, false, rd, 0, 0, m⟩ = Go.bits .or .u32 (Go.bits .or .u32 (Go.bits .or .u32 (Go.bits .or .u32 (putZ 111 0 0 rd 0 0) (Go.bits .and .u32 (m % 4294967296 / 1048576) 1 * 2147483648 % 4294967296)) (Go.bits .and .u32 (m % 4294967296 / 2) 1023 * 2097152 % 4294967296)) (Go.bits .and .u32 (m % 4294967296 / 2048) 1 * 1048576 % 4294967296)) (Go.bits .and .u32 (m % 4294967296 / 4096) 255 * 4096 % 4294967296) := rfl
theorem wv5 (f r1 r2 m : Int) : wordV ⟨5, f, false, 0, r1, r2, m⟩ = Go.bits .or .u32 (Go.bits .or .u32 (Go.bits .or .u32 (Go.bits .or .u32 (putZ 99 (f % 4294967296) 0 0 r1 r2) (Go.bits .and .u32 (m % 4294967296 / 4096) 1 * 2147483648 % 4294967296)) (Go.bits .and .u32 (m % 4294967296 / 32) 63 * 33554432 % 4294967296)) (Go.bits .and .u32 (m % 4294967296 / 2) 15 * 256 % 4294967296)) (Go.bits .and .u32 (m % 4294967296 / 2048) 1 * 128 % 4294967296) := rfl
end Go.Proofs.Ytgcpedenlbcdgaa.Q
end
section
/- Layer 3, plain facts: what was taken apart is put together. -/
set_option linter.unusedVariables false
set_option linter.unusedSimpArgs false
namespace Go.Proofs.Ytgcpedenlbcdgaa.Q
open Go.RowKit Go.Proofs.YtgcpedenlbcdgaaW.PrintWords Go.Proofs.YtgcpedenlbcdgaaW.PrintLast Go.Proofs.YtgcpedenlbcdgaaW.PrintMore Go.Proofs.Ytgcpedenlbcdgaa.L
section
variable (x : Int) (hx : u32B x)
include hx
theorem wsumS (o : fieldZ x 6 0 = 35) : 35 + 0 * 128 + (fieldZ x 14 12) * 4096 + (fieldZ x 19 15) * 32768 + (fieldZ x 24 20) * 1048576 + (fieldZ x 31 25) * 33554432 + (fieldZ x 11 7) * 128 = x := by
  have g11_7 := f11_7 x
  have g19_15 := f19_15 x
  have g24_20 := f24_20 x
  have g14_12 := f14_12 x
  have g31_25 := f31_25 x
  have g6_0 := f6_0 x
  have x0 := hx.1
  have x1 := hx.2
  omega
theorem w35 (o : fieldZ x 6 0 = 35) : wordV ⟨7, (fieldZ x 14 12), false, 0, (fieldZ x 19 15), (fieldZ x 24 20), sextZ (Go.bits .or .u64 ((fieldZ x 31 25) * 32) (fieldZ x 11 7)) 12⟩ = x := by
  have g11_7 := f11_7 x
  have g19_15 := f19_15 x
  have g24_20 := f24_20 x
  have g14_12 := f14_12 x
  have g31_25 := f31_25 x
  have g6_0 := f6_0 x
  have x0 := hx.1
  have x1 := hx.2
  have k1 : msk ((fieldZ x 11 7) * 128) 3968 := by have := msk_mul (fieldZ x 11 7) 5 7 (by omega) (by omega); simpa using this
  have k2 : msk ((fieldZ x 14 12) * 4096) 28672 := by have := msk_mul (fieldZ x 14 12) 3 12 (by omega) (by omega); simpa using this
  have k3 : msk ((fieldZ x 19 15) * 32768) 1015808 := by have := msk_mul (fieldZ x 19 15) 5 15 (by omega) (by omega); simpa using this
  have k4 : msk ((fieldZ x 24 20) * 1048576) 32505856 := by have := msk_mul (fieldZ x 24 20) 5 20 (by omega) (by omega); simpa using this
  have k5 : msk ((fieldZ x 31 25) * 33554432) 4261412864 := by have := msk_mul (fieldZ x 31 25) 7 25 (by omega) (by omega); simpa using this
  have k6 : msk ((fieldZ x 31 25) * 32) 4064 := by have := msk_mul (fieldZ x 31 25) 7 5 (by omega) (by omega); simpa using this
  have k7 : msk (fieldZ x 11 7) 31 := by have := msk_mul (fieldZ x 11 7) 5 0 (by omega) (by omega); simpa using this
  have hy := (msk_or64 k6 k7 (by decide) (by decide) (by decide)).1
  obtain ⟨e1, m1⟩ := put_sum (op := 35) (k := (fieldZ x 14 12)) (hi := (fieldZ x 31 25)) (rd := 0) (r1 := (fieldZ x 19 15)) (r2 := (fieldZ x 24 20)) (A0 := 127) (show msk _ _ from ⟨by decide, by decide⟩) (show msk _ 0 from ⟨by decide, by decide⟩) k2 k3 k4 k5 (by decide)
  have hM : sextZ ((fieldZ x 31 25) * 32 + (fieldZ x 11 7)) 12 % 4294967296 / 32 % 128 = (fieldZ x 31 25) ∧ sextZ ((fieldZ x 31 25) * 32 + (fieldZ x 11 7)) 12 % 4294967296 % 32 = (fieldZ x 11 7) := by rw [sx12]; split <;> omega
  have ha : Go.bits .and .u32 (sextZ ((fieldZ x 31 25) * 32 + (fieldZ x 11 7)) 12 % 4294967296 / 32) 127 = (fieldZ x 31 25) := (mod_mask _ 7 (by decide) (by omega) (by omega)).trans hM.1
  have hb : Go.bits .and .u32 (sextZ ((fieldZ x 31 25) * 32 + (fieldZ x 11 7)) 12 % 4294967296) 31 = (fieldZ x 11 7) := (mod_mask _ 5 (by decide) (by omega) (by omega)).trans hM.2
  rw [wv7]
  rw [hy, ha, hb, show (fieldZ x 14 12) % 4294967296 = (fieldZ x 14 12) by omega, show (fieldZ x 11 7) * 128 % 4294967296 = (fieldZ x 11 7) * 128 by omega, e1, (msk_or m1 k1 (by decide) (by decide) (by decide)).1]
  exact wsumS x hx o
end
end Go.Proofs.Ytgcpedenlbcdgaa.Q
end
section
/- Layer 3, plain facts: what was taken apart is put together. -/
set_option linter.unusedVariables false
set_option linter.unusedSimpArgs false
namespace Go.Proofs.Ytgcpedenlbcdgaa.Q
open Go.RowKit Go.Proofs.YtgcpedenlbcdgaaW.PrintWords Go.Proofs.YtgcpedenlbcdgaaW.PrintLast Go.Proofs.YtgcpedenlbcdgaaW.PrintMore Go.Proofs.Ytgcpedenlbcdgaa.L
section
variable (x : Int) (hx : u32B x)
include hx
theorem w111 (o : fieldZ x 6 0 = 111) : wordV ⟨3, 0, false, (fieldZ x 11 7), 0, 0, sextZ (Go.bits .or .u64 (Go.bits .or .u64 (Go.bits .or .u64 ((fieldZ x 31 31) * 1048576) ((fieldZ x 19 12) * 4096)) ((fieldZ x 20 20) * 2048)) ((fieldZ x 30 21) * 2)) 21⟩ = x := by
  have g11_7 := f11_7 x
  have g19_15 := f19_15 x
  have g24_20 := f24_20 x
  have g14_12 := f14_12 x
  have g6_0 := f6_0 x
  have g31_31 := f31_31 x
  have g19_12 := f19_12 x
  have g20_20 := f20_20 x
  have g30_21 := f30_21 x
  have x0 := hx.1
  have x1 := hx.2
  have i0 : msk ((fieldZ x 31 31) * 1048576) 1048576 := by have := msk_mul (fieldZ x 31 31) 1 20 (by omega) (by omega); simpa using this
  have j0 : msk ((fieldZ x 31 31) * 2147483648) 2147483648 := by have := msk_mul (fieldZ x 31 31) 1 31 (by omega) (by omega); simpa using this
  have i1 : msk ((fieldZ x 19 12) * 4096) 1044480 := by have := msk_mul (fieldZ x 19 12) 8 12 (by omega) (by omega); simpa using this
  have j1 : msk ((fieldZ x 19 12) * 4096) 1044480 := by have := msk_mul (fieldZ x 19 12) 8 12 (by omega) (by omega); simpa using this
  have i2 : msk ((fieldZ x 20 20) * 2048) 2048 := by have := msk_mul (fieldZ x 20 20) 1 11 (by omega) (by omega); simpa using this
  have j2 : msk ((fieldZ x 20 20) * 1048576) 1048576 := by have := msk_mul (fieldZ x 20 20) 1 20 (by omega) (by omega); simpa using this
  have i3 : msk ((fieldZ x 30 21) * 2) 2046 := by have := msk_mul (fieldZ x 30 21) 10 1 (by omega) (by omega); simpa using this
  have j3 : msk ((fieldZ x 30 21) * 2097152) 2145386496 := by have := msk_mul (fieldZ x 30 21) 10 21 (by omega) (by omega); simpa using this
  obtain ⟨y1, n1⟩ := msk_or64 i0 i1 (by decide) (by decide) (by decide)
  obtain ⟨y2, n2⟩ := msk_or64 n1 i2 (by decide) (by decide) (by decide)
  obtain ⟨y3, n3⟩ := msk_or64 n2 i3 (by decide) (by decide) (by decide)
  have k1 : msk ((fieldZ x 11 7) * 128) 3968 := by have := msk_mul (fieldZ x 11 7) 5 7 (by omega) (by omega); simpa using this
  obtain ⟨e1, m1⟩ := put_sum (op := 111) (k := 0) (hi := 0) (rd := (fieldZ x 11 7)) (r1 := 0) (r2 := 0) (A0 := 127) (show msk _ _ from ⟨by decide, by decide⟩) k1 (show msk _ 0 from ⟨by decide, by decide⟩) (show msk _ 0 from ⟨by decide, by decide⟩) (show msk _ 0 from ⟨by decide, by decide⟩) (show msk _ 0 from ⟨by decide, by decide⟩) (by decide)
  obtain ⟨z0, z1, z2, z3⟩ := jz (fieldZ x 31 31) (fieldZ x 19 12) (fieldZ x 20 20) (fieldZ x 30 21) (by omega) (by omega) (by omega) (by omega) (by omega) (by omega) (by omega) (by omega)
  have b0 : Go.bits .and .u32 (sextZ ((fieldZ x 31 31) * 1048576 + (fieldZ x 19 12) * 4096 + (fieldZ x 20 20) * 2048 + (fieldZ x 30 21) * 2) 21 % 4294967296 / 1048576) 1 = (fieldZ x 31 31) := (mod_mask _ 1 (by decide) (by omega) (by omega)).trans z0
  have a0 : Go.bits .and .u32 (sextZ ((fieldZ x 31 31) * 1048576 + (fieldZ x 19 12) * 4096 + (fieldZ x 20 20) * 2048 + (fieldZ x 30 21) * 2) 21 % 4294967296 / 1048576) 1 * 2147483648 % 4294967296 = (fieldZ x 31 31) * 2147483648 := by rw [b0]; omega
  have b1 : Go.bits .and .u32 (sextZ ((fieldZ x 31 31) * 1048576 + (fieldZ x 19 12) * 4096 + (fieldZ x 20 20) * 2048 + (fieldZ x 30 21) * 2) 21 % 4294967296 / 2) 1023 = (fieldZ x 30 21) := (mod_mask _ 10 (by decide) (by omega) (by omega)).trans z1
  have a1 : Go.bits .and .u32 (sextZ ((fieldZ x 31 31) * 1048576 + (fieldZ x 19 12) * 4096 + (fieldZ x 20 20) * 2048 + (fieldZ x 30 21) * 2) 21 % 4294967296 / 2) 1023 * 2097152 % 4294967296 = (fieldZ x 30 21) * 2097152 := by rw [b1]; omega
  have b2 : Go.bits .and .u32 (sextZ ((fieldZ x 31 31) * 1048576 + (fieldZ x 19 12) * 4096 + (fieldZ x 20 20) * 2048 + (fieldZ x 30 21) * 2) 21 % 4294967296 / 2048) 1 = (fieldZ x 20 20) := (mod_mask _ 1 (by decide) (by omega) (by omega)).trans z2
  have a2 : Go.bits .and .u32 (sextZ ((fieldZ x 31 31) * 1048576 + (fieldZ x 19 12) * 4096 + (fieldZ x 20 20) * 2048 + (fieldZ x 30 21) * 2) 21 % 4294967296 / 2048) 1 * 1048576 % 4294967296 = (fieldZ x 20 20) * 1048576 := by rw [b2]; omega
  have b3 : Go.bits .and .u32 (sextZ ((fieldZ x 31 31) * 1048576 + (fieldZ x 19 12) * 4096 + (fieldZ x 20 20) * 2048 + (fieldZ x 30 21) * 2) 21 % 4294967296 / 4096) 255 = (fieldZ x 19 12) := (mod_mask _ 8 (by decide) (by omega) (by omega)).trans z3
  have a3 : Go.bits .and .u32 (sextZ ((fieldZ x 31 31) * 1048576 + (fieldZ x 19 12) * 4096 + (fieldZ x 20 20) * 2048 + (fieldZ x 30 21) * 2) 21 % 4294967296 / 4096) 255 * 4096 % 4294967296 = (fieldZ x 19 12) * 4096 := by rw [b3]; omega
  rw [wv3]
  rw [y1, y2, y3, a0, a1, a2, a3, e1]
  obtain ⟨e2, m2⟩ := msk_or m1 j0 (by decide) (by decide) (by decide)
  obtain ⟨e3, m3⟩ := msk_or m2 j3 (by decide) (by decide) (by decide)
  obtain ⟨e4, m4⟩ := msk_or m3 j2 (by decide) (by decide) (by decide)
  obtain ⟨e5, m5⟩ := msk_or m4 j1 (by decide) (by decide) (by decide)
  rw [e2, e3, e4, e5]
  omega
end
end Go.Proofs.Ytgcpedenlbcdgaa.Q
end
section
/- Layer 3, plain facts: what was taken apart is put together. -/
set_option linter.unusedVariables false
set_option linter.unusedSimpArgs false
namespace Go.Proofs.Ytgcpedenlbcdgaa.Q
open Go.RowKit Go.Proofs.YtgcpedenlbcdgaaW.PrintWords Go.Proofs.YtgcpedenlbcdgaaW.PrintLast Go.Proofs.YtgcpedenlbcdgaaW.PrintMore Go.Proofs.Ytgcpedenlbcdgaa.L
section
variable (x : Int) (hx : u32B x)
include hx
theorem wsumB (o : fieldZ x 6 0 = 99) : 99 + 0 * 128 + (fieldZ x 14 12) * 4096 + (fieldZ x 19 15) * 32768 + (fieldZ x 24 20) * 1048576 + 0 * 33554432 + (fieldZ x 31 31) * 2147483648 + (fieldZ x 30 25) * 33554432 + (fieldZ x 11 8) * 256 + (fieldZ x 7 7) * 128 = x := by
  have g19_15 := f19_15 x
  have g24_20 := f24_20 x
  have g14_12 := f14_12 x
  have g31_31 := f31_31 x
  have g30_25 := f30_25 x
  have g11_8 := f11_8 x
  have g7_7 := f7_7 x
  have g6_0 := f6_0 x
  have x0 := hx.1
  have x1 := hx.2
  omega
theorem w99 (o : fieldZ x 6 0 = 99) : wordV ⟨5, (fieldZ x 14 12), false, 0, (fieldZ x 19 15), (fieldZ x 24 20), sextZ (Go.bits .or .u64 (Go.bits .or .u64 (Go.bits .or .u64 ((fieldZ x 31 31) * 4096) ((fieldZ x 7 7) * 2048)) ((fieldZ x 30 25) * 32)) ((fieldZ x 11 8) * 2)) 13⟩ = x := by
  have g11_7 := f11_7 x
  have g19_15 := f19_15 x
  have g24_20 := f24_20 x
  have g14_12 := f14_12 x
  have g6_0 := f6_0 x
  have g31_31 := f31_31 x
  have g7_7 := f7_7 x
  have g30_25 := f30_25 x
  have g11_8 := f11_8 x
  have x0 := hx.1
  have x1 := hx.2
  have i0 : msk ((fieldZ x 31 31) * 4096) 4096 := by have := msk_mul (fieldZ x 31 31) 1 12 (by omega) (by omega); simpa using this
  have j0 : msk ((fieldZ x 31 31) * 2147483648) 2147483648 := by have := msk_mul (fieldZ x 31 31) 1 31 (by omega) (by omega); simpa using this
  have i1 : msk ((fieldZ x 7 7) * 2048) 2048 := by have := msk_mul (fieldZ x 7 7) 1 11 (by omega) (by omega); simpa using this
  have j1 : msk ((fieldZ x 7 7) * 128) 128 := by have := msk_mul (fieldZ x 7 7) 1 7 (by omega) (by omega); simpa using this
  have i2 : msk ((fieldZ x 30 25) * 32) 2016 := by have := msk_mul (fieldZ x 30 25) 6 5 (by omega) (by omega); simpa using this
  have j2 : msk ((fieldZ x 30 25) * 33554432) 2113929216 := by have := msk_mul (fieldZ x 30 25) 6 25 (by omega) (by omega); simpa using this
  have i3 : msk ((fieldZ x 11 8) * 2) 30 := by have := msk_mul (fieldZ x 11 8) 4 1 (by omega) (by omega); simpa using this
  have j3 : msk ((fieldZ x 11 8) * 256) 3840 := by have := msk_mul (fieldZ x 11 8) 4 8 (by omega) (by omega); simpa using this
  obtain ⟨y1, n1⟩ := msk_or64 i0 i1 (by decide) (by decide) (by decide)
  obtain ⟨y2, n2⟩ := msk_or64 n1 i2 (by decide) (by decide) (by decide)
  obtain ⟨y3, n3⟩ := msk_or64 n2 i3 (by decide) (by decide) (by decide)
  have k2 : msk ((fieldZ x 14 12) * 4096) 28672 := by have := msk_mul (fieldZ x 14 12) 3 12 (by omega) (by omega); simpa using this
  have k3 : msk ((fieldZ x 19 15) * 32768) 1015808 := by have := msk_mul (fieldZ x 19 15) 5 15 (by omega) (by omega); simpa using this
  have k4 : msk ((fieldZ x 24 20) * 1048576) 32505856 := by have := msk_mul (fieldZ x 24 20) 5 20 (by omega) (by omega); simpa using this
  obtain ⟨e1, m1⟩ := put_sum (op := 99) (k := (fieldZ x 14 12)) (hi := 0) (rd := 0) (r1 := (fieldZ x 19 15)) (r2 := (fieldZ x 24 20)) (A0 := 127) (show msk _ _ from ⟨by decide, by decide⟩) (show msk _ 0 from ⟨by decide, by decide⟩) k2 k3 k4 (show msk _ 0 from ⟨by decide, by decide⟩) (by decide)
  obtain ⟨z0, z1, z2, z3⟩ := bz (fieldZ x 31 31) (fieldZ x 7 7) (fieldZ x 30 25) (fieldZ x 11 8) (by omega) (by omega) (by omega) (by omega) (by omega) (by omega) (by omega) (by omega)
  have b0 : Go.bits .and .u32 (sextZ ((fieldZ x 31 31) * 4096 + (fieldZ x 7 7) * 2048 + (fieldZ x 30 25) * 32 + (fieldZ x 11 8) * 2) 13 % 4294967296 / 4096) 1 = (fieldZ x 31 31) := (mod_mask _ 1 (by decide) (by omega) (by omega)).trans z0
  have a0 : Go.bits .and .u32 (sextZ ((fieldZ x 31 31) * 4096 + (fieldZ x 7 7) * 2048 + (fieldZ x 30 25) * 32 + (fieldZ x 11 8) * 2) 13 % 4294967296 / 4096) 1 * 2147483648 % 4294967296 = (fieldZ x 31 31) * 2147483648 := by rw [b0]; omega
  have b1 : Go.bits .and .u32 (sextZ ((fieldZ x 31 31) * 4096 + (fieldZ x 7 7) * 2048 + (fieldZ x 30 25) * 32 + (fieldZ x 11 8) * 2) 13 % 4294967296 / 32) 63 = (fieldZ x 30 25) := (mod_mask _ 6 (by decide) (by omega) (by omega)).trans z1
  have a1 : Go.bits .and .u32 (sextZ ((fieldZ x 31 31) * 4096 + (fieldZ x 7 7) * 2048 + (fieldZ x 30 25) * 32 + (fieldZ x 11 8) * 2) 13 % 4294967296 / 32) 63 * 33554432 % 4294967296 = (fieldZ x 30 25) * 33554432 := by rw [b1]; omega
  have b2 : Go.bits .and .u32 (sextZ ((fieldZ x 31 31) * 4096 + (fieldZ x 7 7) * 2048 + (fieldZ x 30 25) * 32 + (fieldZ x 11 8) * 2) 13 % 4294967296 / 2) 15 = (fieldZ x 11 8) := (mod_mask _ 4 (by decide) (by omega) (by omega)).trans z2
  have a2 : Go.bits .and .u32 (sextZ ((fieldZ x 31 31) * 4096 + (fieldZ x 7 7) * 2048 + (fieldZ x 30 25) * 32 + (fieldZ x 11 8) * 2) 13 % 4294967296 / 2) 15 * 256 % 4294967296 = (fieldZ x 11 8) * 256 := by rw [b2]; omega
  have b3 : Go.bits .and .u32 (sextZ ((fieldZ x 31 31) * 4096 + (fieldZ x 7 7) * 2048 + (fieldZ x 30 25) * 32 + (fieldZ x 11 8) * 2) 13 % 4294967296 / 2048) 1 = (fieldZ x 7 7) := (mod_mask _ 1 (by decide) (by omega) (by omega)).trans z3
  have a3 : Go.bits .and .u32 (sextZ ((fieldZ x 31 31) * 4096 + (fieldZ x 7 7) * 2048 + (fieldZ x 30 25) * 32 + (fieldZ x 11 8) * 2) 13 % 4294967296 / 2048) 1 * 128 % 4294967296 = (fieldZ x 7 7) * 128 := by rw [b3]; omega
  rw [wv5]
  rw [y1, y2, y3, a0, a1, a2, a3, show (fieldZ x 14 12) % 4294967296 = (fieldZ x 14 12) by omega, e1]
  obtain ⟨e2, m2⟩ := msk_or m1 j0 (by decide) (by decide) (by decide)
  obtain ⟨e3, m3⟩ := msk_or m2 j2 (by decide) (by decide) (by decide)
  obtain ⟨e4, m4⟩ := msk_or m3 j3 (by decide) (by decide) (by decide)
  obtain ⟨e5, m5⟩ := msk_or m4 j1 (by decide) (by decide) (by decide)
  rw [e2, e3, e4, e5]
  exact wsumB x hx o
end
end Go.Proofs.Ytgcpedenlbcdgaa.Q
end
