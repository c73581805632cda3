/- csr's functions and the document's, the registers one letter; the heads. -/
import Derived.Test.YtncdhfigfbhohaaCcall
import Derived.Test.YtncdhfigfbhohaaEq17
import Derived.Test.YtncdhfigfbhohaaQx1
namespace Go.Proofs.Ytncdhfigfbhohaa.Q
open Go.RowKit Go.Proofs.YtncdhfigfbhohaaW.PrintWords Go.Proofs.YtncdhfigfbhohaaW.PrintLast Go.Proofs.YtncdhfigfbhohaaW.PrintMore Go.Proofs.Ytncdhfigfbhohaa.L
attribute [local go_sem] Instr.field part asAgg lt_step max2_int min2_int max_two min_two max_three min_three max_four min_four lt_0_1 lt_0_2 lt_1_2 lt_0_3 lt_1_3 lt_2_3 lt_0_4 lt_1_4 lt_2_4 lt_3_4 lt_0_5 lt_1_5 lt_2_5 lt_3_5 lt_4_5 lt_0_6 lt_1_6 lt_2_6 lt_3_6 lt_4_6 lt_5_6 lt_0_7 lt_1_7 lt_2_7 lt_3_7 lt_4_7 lt_5_7 lt_6_7 lt_0_8 lt_1_8 lt_2_8 lt_3_8 lt_4_8 lt_5_8 lt_6_8 lt_7_8
set_option linter.unusedVariables false
set_option linter.unusedSimpArgs false
theorem i24 : (Try.prog.info? 24).map (·.size) = some 17 := by kernel_rfl
theorem C17_sz (c : Nat → Int) : 17 = (C17 c).size := rfl
def same17 (c d : Nat → Int) : Bool := (List.range 17).all fun i => c i == d i
theorem same17_of {c d : Nat → Int} (h : ∀ i, i < 17 → c i = d i) : same17 c d = true := by
  unfold same17
  rw [List.all_eq_true]
  intro i hi
  exact beq_iff_eq.2 (h i (List.mem_range.1 hi))
theorem C17_congr {c d : Nat → Int} (hs : same17 c d = true) : C17 c = C17 d := by
  have h : ∀ i, i < 17 → c i = d i := fun i hi => by
    unfold same17 at hs
    rw [List.all_eq_true] at hs
    exact beq_iff_eq.1 (hs i (List.mem_range.2 hi))
  unfold C17
  rw [h 0 (by decide), h 1 (by decide), h 2 (by decide), h 3 (by decide), h 4 (by decide), h 5 (by decide), h 6 (by decide), h 7 (by decide), h 8 (by decide), h 9 (by decide), h 10 (by decide), h 11 (by decide), h 12 (by decide), h 13 (by decide), h 14 (by decide), h 15 (by decide), h 16 (by decide)]
def okW (c : Nat → Int) (n p : Int) : Bool := (readZ c n p).isSome && !(n / 1024 == 3)
def stW (c : Nat → Int) (n p x : Int) : Nat → Int := if okW c n p then writeZ c n x else c
def rdV (c : Nat → Int) (n p : Int) : Int := (readZ c n p).getD 0
theorem seen_of {c : Nat → Int} {n v : Int} (h : seenZ c n = some v) (hq : (n / 1024 == 3) = false) : n = 769 ∨ ∃ i, ofI n = some i := by
  cases hI : ofI n with
  | some i => exact .inr ⟨i, rfl⟩
  | none =>
    left
    unfold seenZ at h
    by_cases h0 : n = 768
    · subst h0; cases hI
    rw [if_neg (by simpa using h0)] at h
    by_cases h1 : n = 256
    · subst h1; cases hI
    rw [if_neg (by simpa using h1)] at h
    by_cases h2 : n = 260
    · subst h2; cases hI
    rw [if_neg (by simpa using h2)] at h
    by_cases h3 : n = 324
    · subst h3; cases hI
    rw [if_neg (by simpa using h3)] at h
    by_cases h4 : n = 769
    · exact h4
    rw [if_neg (by simpa using h4)] at h
    have hn : ¬ n / 1024 = 3 := by simpa using hq
    rw [if_neg (by simp; omega), if_neg (by simp; omega), if_neg (by simp; omega), if_neg (by simp; omega), hI] at h
    cases h
theorem Write_is (c : Nat → Int) (n p x : Int) (w : World) : Calls Try.prog 10 #[.agg (C17 c), .int .i64 n, .int .i64 p, .int .u64 x] w fun e w' => e = .returned (.tuple #[.agg (C17 (stW c n p x)), .bool (okW c n p)]) ∧ Below w.heap.size w w' := by
  unfold stW okW
  cases h : readZ c n p with
  | none => exact Write_no c n p x w h
  | some v =>
    cases hq : (n / 1024 == 3) with
    | true => exact Write_low c n p x v w h hq
    | false =>
      refine Write_yes c n p x v w h hq ?_
      unfold readZ at h
      split at h
      · cases h
      · exact seen_of h hq
theorem Read_is (c : Nat → Int) (n p : Int) (w : World) : Calls Try.prog 11 #[.agg (C17 c), .int .i64 n, .int .i64 p] w fun e w' => e = .returned (.tuple #[.int .u64 (rdV c n p), .bool (readZ c n p).isSome]) ∧ Below w.heap.size w w' := by
  unfold rdV
  cases h : readZ c n p with
  | none => exact Read_none c n p w h
  | some v => exact Read_some c n p v w h
def chk (c : Nat → Int) : Bool := (csr_Check.f (c 0) (c 1) (c 2) (c 3) (c 4) (c 5) (c 6) (c 7) (c 8) (c 9) (c 10) (c 11) (c 12) (c 13) (c 14) (c 15) (c 16)).getD false
theorem Check_is (c : Nat → Int) (w : World) : Calls Try.prog 8 #[.agg (C17 c)] w fun e w' => e = .returned (.bool (chk c)) ∧ Below w.heap.size w w' := by
  refine csr_Check.calls (c 0) (c 1) (c 2) (c 3) (c 4) (c 5) (c 6) (c 7) (c 8) (c 9) (c 10) (c 11) (c 12) (c 13) (c 14) (c 15) (c 16) (chk c) w ?_
  unfold chk
  have h : ∃ r, csr_Check.f (c 0) (c 1) (c 2) (c 3) (c 4) (c 5) (c 6) (c 7) (c 8) (c 9) (c 10) (c 11) (c 12) (c 13) (c 14) (c 15) (c 16) = some r := by
    unfold csr_Check.f
    rw [statusV_is]
    simp only [Option.bind_some]
    repeat' split
    all_goals exact ⟨_, rfl⟩
  obtain ⟨r, hr⟩ := h
  rw [hr]; rfl
theorem eqC (c : Nat → Int) (x y : Operand) (w : World) : (eqGuard .eql 24 x y (.agg (C17 c)) (.agg (C17 c))).run Try.prog w = .ok () w ∧ (binOp .eql 24 (.agg (C17 c)) (.agg (C17 c))).run Try.prog w = .ok (.bool true) w :=
  eq17 (c 0) (c 1) (c 2) (c 3) (c 4) (c 5) (c 6) (c 7) (c 8) (c 9) (c 10) (c 11) (c 12) (c 13) (c 14) (c 15) (c 16) x y w
/-! ### heads -/
def z0 : Nat → Int := fun _ => 0
def hd1 : Nat → Int := stW z0 768 3 18446744073709551615
def hd2 : Nat → Int := stW z0 256 1 18446744073709551615
def hd3 : Nat → Int := fun i => if i = 7 then 1 else 0
theorem chk1 : chk hd1 = true := by kernel_rfl
theorem chk3 : chk hd3 = false := by kernel_rfl
theorem hd_a : okW z0 768 3 = true := by kernel_rfl
theorem hd_b : okW hd1 3072 3 = false := by kernel_rfl
theorem hd_c : okW z0 256 1 = true := by kernel_rfl
theorem hd_d : (readZ hd1 768 3).isSome = true := by kernel_rfl
theorem hd_e : rdV hd1 768 3 = 42957937066 := by kernel_rfl
theorem hd_f : (readZ hd1 768 1).isSome = false := by kernel_rfl
theorem hd_g : hd2 0 = 786722 := by kernel_rfl
theorem hd_h : stW hd1 3072 3 1 = hd1 := by unfold stW; rw [hd_b]; rfl
theorem C17_hd2 : (C17 hd2)[0]? = some (.int .u64 786722) := (C17_at hd2 0 (by decide)).trans (by rw [hd_g])
def drawbridgelaw05_heads.f : Option Bool := some true
set_option maxHeartbeats 1600000 in
set_option maxRecDepth 100000 in
theorem drawbridgelaw05_heads.calls (r : Bool) (w : World) (h : drawbridgelaw05_heads.f = some r) : Calls Try.prog 9 #[] w fun e w' => e = .returned (.bool r) ∧ Below w.heap.size w w' := by
  obtain rfl := Option.some.inj h
  clear h
  have HB := Aside0.mk (Below.refl w.heap.size w)
  have hu24 := Try.underlying24
  have E1 : Aside0 (∀ W, Calls Try.prog 10 #[.agg #[.int .u64 0, .int .u64 0, .int .u64 0, .int .u64 0, .int .u64 0, .int .u64 0, .int .u64 0, .int .u64 0, .int .u64 0, .int .u64 0, .int .u64 0, .int .u64 0, .int .u64 0, .int .u64 0, .int .u64 0, .int .u64 0, .int .u64 0], .int .i64 768, .int .i64 3, .int .u64 18446744073709551615] W fun e w' => e = .returned (.tuple #[.agg (C17 hd1), .bool true]) ∧ Below W.heap.size W w') := ⟨fun W => by have := Write_is z0 768 3 18446744073709551615 W; rw [hd_a] at this; exact this⟩
  have E2 : Aside0 (∀ W, Calls Try.prog 11 #[.agg (C17 hd1), .int .i64 768, .int .i64 3] W fun e w' => e = .returned (.tuple #[.int .u64 42957937066, .bool true]) ∧ Below W.heap.size W w') := ⟨fun W => by have := Read_is hd1 768 3 W; rw [hd_d, hd_e] at this; exact this⟩
  have E3 : Aside0 (∀ W, Calls Try.prog 11 #[.agg (C17 hd1), .int .i64 768, .int .i64 1] W fun e w' => e = .returned (.tuple #[.int .u64 (rdV hd1 768 1), .bool false]) ∧ Below W.heap.size W w') := ⟨fun W => by have := Read_is hd1 768 1 W; rw [hd_f] at this; exact this⟩
  have E4 : Aside0 (∀ W, Calls Try.prog 10 #[.agg (C17 hd1), .int .i64 3072, .int .i64 3, .int .u64 1] W fun e w' => e = .returned (.tuple #[.agg (C17 hd1), .bool false]) ∧ Below W.heap.size W w') := ⟨fun W => by have := Write_is hd1 3072 3 1 W; rw [hd_b, hd_h] at this; exact this⟩
  have E5 : Aside0 (∀ W, Calls Try.prog 10 #[.agg #[.int .u64 0, .int .u64 0, .int .u64 0, .int .u64 0, .int .u64 0, .int .u64 0, .int .u64 0, .int .u64 0, .int .u64 0, .int .u64 0, .int .u64 0, .int .u64 0, .int .u64 0, .int .u64 0, .int .u64 0, .int .u64 0, .int .u64 0], .int .i64 256, .int .i64 1, .int .u64 18446744073709551615] W fun e w' => e = .returned (.tuple #[.agg (C17 hd2), .bool true]) ∧ Below W.heap.size W w') := ⟨fun W => by have := Write_is z0 256 1 18446744073709551615 W; rw [hd_c] at this; exact this⟩
  have E6 : Aside0 (∀ W, Calls Try.prog 8 #[.agg (C17 hd1)] W fun e w' => e = .returned (.bool true) ∧ Below W.heap.size W w') := ⟨fun W => by have := Check_is hd1 W; rw [chk1] at this; exact this⟩
  have E7 : Aside0 (∀ W, Calls Try.prog 8 #[.agg #[.int .u64 0, .int .u64 0, .int .u64 0, .int .u64 0, .int .u64 0, .int .u64 0, .int .u64 0, .int .u64 1, .int .u64 0, .int .u64 0, .int .u64 0, .int .u64 0, .int .u64 0, .int .u64 0, .int .u64 0, .int .u64 0, .int .u64 0]] W fun e w' => e = .returned (.bool false) ∧ Below W.heap.size W w') := ⟨fun W => by have := Check_is hd3 W; rw [chk3] at this; exact this⟩
  have hC2 := C17_hd2
  go_enter Try.func9, Try.ntmps9
  go_wp2_with fail
  (go_at_call 10; (with_reducible refine (E1.out _).mono ?_); rintro e_ w1 ⟨rfl, hb_⟩; have HB_ : Aside0 (Below w.heap.size w w1) := Aside0.mk (below_step (by repeat (first | (with_reducible first | exact HB.out | exact Below.refl _ _ | apply below_alloc | apply pw_below_drewN | apply below_drew | refine below_set ?_ (by omega)) | exact HB.out)) hb_); have hzw1 := hb_.size; (try simp at hzw1); clear HB hb_; have HB := HB_; clear HB_)
  go_wp2_with (first | ((with_reducible refine gate_store (t := 24) (p := 1) (v := .tmp 14) rfl ?_); refine wpList_store_all rfl 24 _ _ rfl rfl _ (C17 hd1) (by rfl) (by rfl) _ _ (nb_1 _ _) (C17_sz hd1) (C17_info hd1 24 i24) (C17_one hd1) ?_; rintro w2 ⟨hx_, hk_, hb_, hzz_⟩; have HB_ : Aside0 (Below w.heap.size w w2) := Aside0.mk (Below.trans (by repeat (first | (with_reducible first | exact HB.out | exact Below.refl _ _ | apply below_alloc | apply pw_below_drewN | apply below_drew | refine below_set ?_ (by omega)) | exact HB.out)) (Below.mono hb_ (by first | omega | (simp only [sz_alloc, sz_drew, sz_drewN]; omega)))); have hzw2 := hzz_; (try simp at hzw2); clear hzz_; (try clear oa oac oaf oal); have oa := Aside0.mk hx_; obtain ⟨oac, oaf, oal⟩ := cells_of oa.out; clear HB hb_ hk_ hx_; have HB := HB_; clear HB_) | ((with_reducible refine gate_dst (N := 17) rfl ?_); (try (refine gate_guard (by rfl) ?_; dsimp only)); refine wpList_load_row rfl 24 _ rfl _ (by rfl) _ (C17 hd1) _ _ (by repeat (with_reducible first | exact oa.out | apply ext_drew | apply ext_drewN | apply ext_alloc | refine blk_far ?_ (by show _ ≠ _; dsimp only; omega) _)) Try.underlying24 rfl (C17_info hd1 24 i24) ?_))
  (go_at_call 11; (with_reducible refine (E2.out _).mono ?_); rintro e_ w3 ⟨rfl, hb_⟩; have HB_ : Aside0 (Below w.heap.size w w3) := Aside0.mk (below_step (by repeat (first | (with_reducible first | exact HB.out | exact Below.refl _ _ | apply below_alloc | apply pw_below_drewN | apply below_drew | refine below_set ?_ (by omega)) | exact HB.out)) hb_); have hzw3 := hb_.size; (try simp at hzw3); have oa_ := Aside0.mk (box_below hb_ (by repeat (with_reducible first | exact oa.out | apply ext_drew | apply ext_drewN | apply ext_alloc | refine blk_far ?_ (by show _ ≠ _; dsimp only; omega) _))); (try clear oa oac oaf oal); have oa := oa_; clear oa_; obtain ⟨oac, oaf, oal⟩ := cells_of oa.out; clear HB hb_; have HB := HB_; clear HB_)
  go_wp2_with (first | ((with_reducible refine gate_dst (N := 22) rfl ?_); (try (refine gate_guard (by rfl) ?_; dsimp only)); refine wpList_load_row rfl 24 _ rfl _ (by rfl) _ (C17 hd1) _ _ (by repeat (with_reducible first | exact oa.out | apply ext_drew | apply ext_drewN | apply ext_alloc | refine blk_far ?_ (by show _ ≠ _; dsimp only; omega) _)) Try.underlying24 rfl (C17_info hd1 24 i24) ?_))
  (go_at_call 11; (with_reducible refine (E3.out _).mono ?_); rintro e_ w4 ⟨rfl, hb_⟩; have HB_ : Aside0 (Below w.heap.size w w4) := Aside0.mk (below_step (by repeat (first | (with_reducible first | exact HB.out | exact Below.refl _ _ | apply below_alloc | apply pw_below_drewN | apply below_drew | refine below_set ?_ (by omega)) | exact HB.out)) hb_); have hzw4 := hb_.size; (try simp at hzw4); have oa_ := Aside0.mk (box_below hb_ (by repeat (with_reducible first | exact oa.out | apply ext_drew | apply ext_drewN | apply ext_alloc | refine blk_far ?_ (by show _ ≠ _; dsimp only; omega) _))); (try clear oa oac oaf oal); have oa := oa_; clear oa_; obtain ⟨oac, oaf, oal⟩ := cells_of oa.out; clear HB hb_; have HB := HB_; clear HB_)
  go_wp2_with (first | ((with_reducible refine gate_dst (N := 27) rfl ?_); (try (refine gate_guard (by rfl) ?_; dsimp only)); refine wpList_load_row rfl 24 _ rfl _ (by rfl) _ (C17 hd1) _ _ (by repeat (with_reducible first | exact oa.out | apply ext_drew | apply ext_drewN | apply ext_alloc | refine blk_far ?_ (by show _ ≠ _; dsimp only; omega) _)) Try.underlying24 rfl (C17_info hd1 24 i24) ?_))
  (go_at_call 10; (with_reducible refine (E4.out _).mono ?_); rintro e_ w5 ⟨rfl, hb_⟩; have HB_ : Aside0 (Below w.heap.size w w5) := Aside0.mk (below_step (by repeat (first | (with_reducible first | exact HB.out | exact Below.refl _ _ | apply below_alloc | apply pw_below_drewN | apply below_drew | refine below_set ?_ (by omega)) | exact HB.out)) hb_); have hzw5 := hb_.size; (try simp at hzw5); have oa_ := Aside0.mk (box_below hb_ (by repeat (with_reducible first | exact oa.out | apply ext_drew | apply ext_drewN | apply ext_alloc | refine blk_far ?_ (by show _ ≠ _; dsimp only; omega) _))); (try clear oa oac oaf oal); have oa := oa_; clear oa_; obtain ⟨oac, oaf, oal⟩ := cells_of oa.out; clear HB hb_; have HB := HB_; clear HB_)
  go_wp2_with (first | ((with_reducible refine gate_store (t := 24) (p := 7) (v := .tmp 29) rfl ?_); refine wpList_store_all rfl 24 _ _ rfl rfl _ (C17 hd1) (by rfl) (by rfl) _ _ (nb_1 _ _) (C17_sz hd1) (C17_info hd1 24 i24) (C17_one hd1) ?_; rintro w6 ⟨hx_, hk_, hb_, hzz_⟩; have HB_ : Aside0 (Below w.heap.size w w6) := Aside0.mk (Below.trans (by repeat (first | (with_reducible first | exact HB.out | exact Below.refl _ _ | apply below_alloc | apply pw_below_drewN | apply below_drew | refine below_set ?_ (by omega)) | exact HB.out)) (Below.mono hb_ (by first | omega | (simp only [sz_alloc, sz_drew, sz_drewN]; omega)))); have hzw6 := hzz_; (try simp at hzw6); clear hzz_; have oa_ := Aside0.mk (st_put oa.out hk_ (fun h_ => (by repeat (with_reducible first | exact h_ | apply ext_drew | apply ext_drewN | apply ext_alloc | refine blk_far ?_ (by show _ ≠ _; dsimp only; omega) _))) (by omega)); clear oa oac oaf oal; have oa := oa_; clear oa_; obtain ⟨oac, oaf, oal⟩ := cells_of oa.out; (try clear ob obc obf obl); have ob := Aside0.mk hx_; obtain ⟨obc, obf, obl⟩ := cells_of ob.out; clear HB hb_ hk_ hx_; have HB := HB_; clear HB_))
  (go_at_call 10; (with_reducible refine (E5.out _).mono ?_); rintro e_ w7 ⟨rfl, hb_⟩; have HB_ : Aside0 (Below w.heap.size w w7) := Aside0.mk (below_step (by repeat (first | (with_reducible first | exact HB.out | exact Below.refl _ _ | apply below_alloc | apply pw_below_drewN | apply below_drew | refine below_set ?_ (by omega)) | exact HB.out)) hb_); have hzw7 := hb_.size; (try simp at hzw7); have oa_ := Aside0.mk (box_below hb_ (by repeat (with_reducible first | exact oa.out | apply ext_drew | apply ext_drewN | apply ext_alloc | refine blk_far ?_ (by show _ ≠ _; dsimp only; omega) _))); (try clear oa oac oaf oal); have oa := oa_; clear oa_; obtain ⟨oac, oaf, oal⟩ := cells_of oa.out; clear HB hb_; have HB := HB_; clear HB_)
  go_wp2_with (first | ((with_reducible refine gate_store (t := 24) (p := 9) (v := .tmp 34) rfl ?_); refine wpList_store_all rfl 24 _ _ rfl rfl _ (C17 hd2) (by rfl) (by rfl) _ _ (nb_1 _ _) (C17_sz hd2) (C17_info hd2 24 i24) (C17_one hd2) ?_; rintro w8 ⟨hx_, hk_, hb_, hzz_⟩; have HB_ : Aside0 (Below w.heap.size w w8) := Aside0.mk (Below.trans (by repeat (first | (with_reducible first | exact HB.out | exact Below.refl _ _ | apply below_alloc | apply pw_below_drewN | apply below_drew | refine below_set ?_ (by omega)) | exact HB.out)) (Below.mono hb_ (by first | omega | (simp only [sz_alloc, sz_drew, sz_drewN]; omega)))); have hzw8 := hzz_; (try simp at hzw8); clear hzz_; have oa_ := Aside0.mk (st_put oa.out hk_ (fun h_ => (by repeat (with_reducible first | exact h_ | apply ext_drew | apply ext_drewN | apply ext_alloc | refine blk_far ?_ (by show _ ≠ _; dsimp only; omega) _))) (by omega)); clear oa oac oaf oal; have oa := oa_; clear oa_; obtain ⟨oac, oaf, oal⟩ := cells_of oa.out; (try clear od odc odf odl); have od := Aside0.mk hx_; obtain ⟨odc, odf, odl⟩ := cells_of od.out; clear HB hb_ hk_ hx_; have HB := HB_; clear HB_) | ((with_reducible refine gate_dst (N := 61) rfl ?_); (try (refine gate_guard (by rfl) ?_; dsimp only)); refine wpList_load_row rfl 24 _ rfl _ (by rfl) _ (C17 hd1) _ _ (by repeat (with_reducible first | exact oa.out | apply ext_drew | apply ext_drewN | apply ext_alloc | refine blk_far ?_ (by show _ ≠ _; dsimp only; omega) _)) Try.underlying24 rfl (C17_info hd1 24 i24) ?_))
  (go_at_call 8; (with_reducible refine (E6.out _).mono ?_); rintro e_ w9 ⟨rfl, hb_⟩; have HB_ : Aside0 (Below w.heap.size w w9) := Aside0.mk (below_step (by repeat (first | (with_reducible first | exact HB.out | exact Below.refl _ _ | apply below_alloc | apply pw_below_drewN | apply below_drew | refine below_set ?_ (by omega)) | exact HB.out)) hb_); have hzw9 := hb_.size; (try simp at hzw9); have od_ := Aside0.mk (box_below hb_ (by repeat (with_reducible first | exact od.out | apply ext_drew | apply ext_drewN | apply ext_alloc | refine blk_far ?_ (by show _ ≠ _; dsimp only; omega) _))); (try clear od odc odf odl); have od := od_; clear od_; obtain ⟨odc, odf, odl⟩ := cells_of od.out; clear HB hb_; have HB := HB_; clear HB_)
  go_wp2_with fail
  (go_at_call 8; (with_reducible refine (E7.out _).mono ?_); rintro e_ w10 ⟨rfl, hb_⟩; have HB_ : Aside0 (Below w.heap.size w w10) := Aside0.mk (below_step (by repeat (first | (with_reducible first | exact HB.out | exact Below.refl _ _ | apply below_alloc | apply pw_below_drewN | apply below_drew | refine below_set ?_ (by omega)) | exact HB.out)) hb_); have hzw10 := hb_.size; (try simp at hzw10); have od_ := Aside0.mk (box_below hb_ (by repeat (with_reducible first | exact od.out | apply ext_drew | apply ext_drewN | apply ext_alloc | refine blk_far ?_ (by show _ ≠ _; dsimp only; omega) _))); (try clear od odc odf odl); have od := od_; clear od_; obtain ⟨odc, odf, odl⟩ := cells_of od.out; clear HB hb_; have HB := HB_; clear HB_)
  go_wp2
  go_ret
  exact ⟨rfl, (by repeat (first | (with_reducible first | exact HB.out | exact Below.refl _ _ | apply below_alloc | apply pw_below_drewN | apply below_drew | refine below_set ?_ (by omega)) | exact HB.out))⟩
end Go.Proofs.Ytncdhfigfbhohaa.Q
