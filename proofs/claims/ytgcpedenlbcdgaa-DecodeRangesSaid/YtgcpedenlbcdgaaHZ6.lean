import Derived.Test.YtgcpedenlbcdgaaHLrng
import Derived.Test.YtgcpedenlbcdgaaHPd2p
import Derived.Test.YtgcpedenlbcdgaaHZ5
section
/- DecodeRanges: its function and its contract. -/
namespace Go.Proofs.Ytgcpedenlbcdgaa.Q
open Go.RowKit Go.Proofs.YtgcpedenlbcdgaaW.PrintWords Go.Proofs.YtgcpedenlbcdgaaW.PrintLast Go.Proofs.YtgcpedenlbcdgaaW.PrintMore Go.Proofs.Ytgcpedenlbcdgaa.L
attribute [local go_sem] Instr.field part asAgg lt_step max2_int min2_int max_two min_two max_three min_three max_four min_four lt_0_1 lt_0_2 lt_1_2 lt_0_3 lt_1_3 lt_2_3 lt_0_4 lt_1_4 lt_2_4 lt_3_4 lt_0_5 lt_1_5 lt_2_5 lt_3_5 lt_4_5 lt_0_6 lt_1_6 lt_2_6 lt_3_6 lt_4_6 lt_5_6 lt_0_7 lt_1_7 lt_2_7 lt_3_7 lt_4_7 lt_5_7 lt_6_7 lt_0_8 lt_1_8 lt_2_8 lt_3_8 lt_4_8 lt_5_8 lt_6_8 lt_7_8
set_option linter.unusedVariables false
set_option linter.unusedSimpArgs false
def rngB (c m : Int) : Bool :=
  if c == 1 || c == 2 then (Int.tmod m 4096 == 0) && decide (IntKind.u64.wrap (m + 2147483648) < 4294967296)
  else if c == 3 then !(Int.tmod m 2 != 0) && decide (IntKind.u64.wrap (m + 1048576) < 2097152)
  else if c == 5 then !(Int.tmod m 2 != 0) && decide (IntKind.u64.wrap (m + 4096) < 8192)
  else if c == 12 then decide (m < 4096)
  else decide (4 ≤ c) && (decide (c ≤ 13) && decide (IntKind.u64.wrap (m + 2048) < 4096))
set_option maxHeartbeats 1600000 in
set_option maxRecDepth 100000 in
theorem rng_no (i : Ins) (x : Int) (w : World) (ED : Aside0 (∀ W, Calls Try.prog 11 #[.int .u32 x] W fun e w' => e = .returned (.tuple #[.agg #[.int .i64 i.c, .int .i64 i.f, .bool i.b, .int .i64 i.rd, .int .i64 i.r1, .int .i64 i.r2, .int .u64 i.m], .bool false]) ∧ Below W.heap.size W w')) :
    Calls Try.prog 4 #[.int .u32 x] w fun e w' => e = .returned (.bool true) ∧ Below w.heap.size w w' := by
  have HB := Aside0.mk (Below.refl w.heap.size w)
  go_enter Try.func4, Try.ntmps4
  go_wp2_with fail
  (go_at_call 11; (with_reducible refine (ED.out _).mono ?_); rintro e_ w1 ⟨rfl, hb_⟩; have HB_ : Aside0 (Below w.heap.size w w1) := Aside0.mk (below_step (by repeat (first | (with_reducible first | exact HB.out | exact Below.refl _ _ | apply below_alloc | apply pw_below_drewN | apply below_drew | refine below_set ?_ (by omega)) | exact HB.out)) hb_); have hzw1 := hb_.size; (try simp at hzw1); clear HB hb_; have HB := HB_; clear HB_)
  go_wp2_with fail
  (go_at_call 10; (with_reducible refine (drawbridgelaw03_heads.calls true _ drawbridgelaw03_heads.tells).mono ?_); rintro e_ w2 ⟨rfl, hb_⟩; have HB_ : Aside0 (Below w.heap.size w w2) := Aside0.mk (below_step (by repeat (first | (with_reducible first | exact HB.out | exact Below.refl _ _ | apply below_alloc | apply pw_below_drewN | apply below_drew | refine below_set ?_ (by omega)) | exact HB.out)) hb_); have hzw2 := hb_.size; (try simp at hzw2); clear HB hb_; have HB := HB_; clear HB_)
  go_wp2
  refine bodyPost_ret (v := .bool true) (by simp [results, Try.results4, go_sem] <;> first | assumption | omega | (symm; assumption)) rfl ?_
  exact ⟨rfl, (by repeat (first | (with_reducible first | exact HB.out | exact Below.refl _ _ | apply below_alloc | apply pw_below_drewN | apply below_drew | refine below_set ?_ (by omega)) | exact HB.out))⟩
theorem rng_yes (i : Ins) (x : Int) (w : World) (hr : regs i) (hm : rngB i.c i.m = true) (ED : Aside0 (∀ W, Calls Try.prog 11 #[.int .u32 x] W fun e w' => e = .returned (.tuple #[.agg #[.int .i64 i.c, .int .i64 i.f, .bool i.b, .int .i64 i.rd, .int .i64 i.r1, .int .i64 i.r2, .int .u64 i.m], .bool true]) ∧ Below W.heap.size W w')) :
    Calls Try.prog 4 #[.int .u32 x] w fun e w' => e = .returned (.bool true) ∧ Below w.heap.size w w' := by
  obtain ⟨c, f, b, rd, r1, r2, m⟩ := i
  obtain ⟨⟨a0, a1⟩, ⟨a2, a3⟩, ⟨a4, a5⟩⟩ := hr
  have k0 : decide (rd < 0) = false := decide_eq_false (by have : 0 ≤ rd := a0; omega)
  have k1 : decide (rd > 31) = false := decide_eq_false (by have : rd ≤ 31 := a1; omega)
  have k2 : decide (r1 < 0) = false := decide_eq_false (by have : 0 ≤ r1 := a2; omega)
  have k3 : decide (r1 > 31) = false := decide_eq_false (by have : r1 ≤ 31 := a3; omega)
  have k4 : decide (r2 < 0) = false := decide_eq_false (by have : 0 ≤ r2 := a4; omega)
  have k5 : decide (r2 > 31) = false := decide_eq_false (by have : r2 ≤ 31 := a5; omega)
  have hm : rngB c m = true := hm
  unfold rngB at hm
  by_cases e1 : c = 1
  · subst e1
    simp only [beq_self_eq_true, Bool.or_true, Bool.true_or, if_true, Bool.and_eq_true, Int.reduceBEq, Bool.or_self, Bool.or_false, Bool.false_eq_true, if_false, Bool.not_eq_true', Int.reduceLE, decide_true, true_and] at hm
    exact rng_1 f b rd r1 r2 m x w k0 k1 k2 k3 k4 k5 hm.1 hm.2 ED
  by_cases e2 : c = 2
  · subst e2
    simp only [beq_self_eq_true, Bool.or_true, Bool.true_or, if_true, Bool.and_eq_true, Int.reduceBEq, Bool.or_self, Bool.or_false, Bool.false_eq_true, if_false, Bool.not_eq_true', Int.reduceLE, decide_true, true_and] at hm
    exact rng_2 f b rd r1 r2 m x w k0 k1 k2 k3 k4 k5 hm.1 hm.2 ED
  by_cases e3 : c = 3
  · subst e3
    simp only [beq_self_eq_true, Bool.or_true, Bool.true_or, if_true, Bool.and_eq_true, Int.reduceBEq, Bool.or_self, Bool.or_false, Bool.false_eq_true, if_false, Bool.not_eq_true', Int.reduceLE, decide_true, true_and] at hm
    exact rng_3 f b rd r1 r2 m x w k0 k1 k2 k3 k4 k5 hm.1 hm.2 ED
  by_cases e4 : c = 4
  · subst e4
    simp only [beq_self_eq_true, Bool.or_true, Bool.true_or, if_true, Bool.and_eq_true, Int.reduceBEq, Bool.or_self, Bool.or_false, Bool.false_eq_true, if_false, Bool.not_eq_true', Int.reduceLE, decide_true, true_and] at hm
    exact rng_4 f b rd r1 r2 m x w k0 k1 k2 k3 k4 k5 hm ED
  by_cases e5 : c = 5
  · subst e5
    simp only [beq_self_eq_true, Bool.or_true, Bool.true_or, if_true, Bool.and_eq_true, Int.reduceBEq, Bool.or_self, Bool.or_false, Bool.false_eq_true, if_false, Bool.not_eq_true', Int.reduceLE, decide_true, true_and] at hm
    exact rng_5 f b rd r1 r2 m x w k0 k1 k2 k3 k4 k5 hm.1 hm.2 ED
  by_cases e6 : c = 6
  · subst e6
    simp only [beq_self_eq_true, Bool.or_true, Bool.true_or, if_true, Bool.and_eq_true, Int.reduceBEq, Bool.or_self, Bool.or_false, Bool.false_eq_true, if_false, Bool.not_eq_true', Int.reduceLE, decide_true, true_and] at hm
    exact rng_6 f b rd r1 r2 m x w k0 k1 k2 k3 k4 k5 hm ED
  by_cases e7 : c = 7
  · subst e7
    simp only [beq_self_eq_true, Bool.or_true, Bool.true_or, if_true, Bool.and_eq_true, Int.reduceBEq, Bool.or_self, Bool.or_false, Bool.false_eq_true, if_false, Bool.not_eq_true', Int.reduceLE, decide_true, true_and] at hm
    exact rng_7 f b rd r1 r2 m x w k0 k1 k2 k3 k4 k5 hm ED
  by_cases e8 : c = 8
  · subst e8
    simp only [beq_self_eq_true, Bool.or_true, Bool.true_or, if_true, Bool.and_eq_true, Int.reduceBEq, Bool.or_self, Bool.or_false, Bool.false_eq_true, if_false, Bool.not_eq_true', Int.reduceLE, decide_true, true_and] at hm
    exact rng_8 f b rd r1 r2 m x w k0 k1 k2 k3 k4 k5 hm ED
  by_cases e9 : c = 9
  · subst e9
    simp only [beq_self_eq_true, Bool.or_true, Bool.true_or, if_true, Bool.and_eq_true, Int.reduceBEq, Bool.or_self, Bool.or_false, Bool.false_eq_true, if_false, Bool.not_eq_true', Int.reduceLE, decide_true, true_and] at hm
    exact rng_9 f b rd r1 r2 m x w k0 k1 k2 k3 k4 k5 hm ED
  by_cases e10 : c = 10
  · subst e10
    simp only [beq_self_eq_true, Bool.or_true, Bool.true_or, if_true, Bool.and_eq_true, Int.reduceBEq, Bool.or_self, Bool.or_false, Bool.false_eq_true, if_false, Bool.not_eq_true', Int.reduceLE, decide_true, true_and] at hm
    exact rng_10 f b rd r1 r2 m x w k0 k1 k2 k3 k4 k5 hm ED
  by_cases e11 : c = 11
  · subst e11
    simp only [beq_self_eq_true, Bool.or_true, Bool.true_or, if_true, Bool.and_eq_true, Int.reduceBEq, Bool.or_self, Bool.or_false, Bool.false_eq_true, if_false, Bool.not_eq_true', Int.reduceLE, decide_true, true_and] at hm
    exact rng_11 f b rd r1 r2 m x w k0 k1 k2 k3 k4 k5 hm ED
  by_cases e12 : c = 12
  · subst e12
    simp only [beq_self_eq_true, Bool.or_true, Bool.true_or, if_true, Bool.and_eq_true, Int.reduceBEq, Bool.or_self, Bool.or_false, Bool.false_eq_true, if_false, Bool.not_eq_true', Int.reduceLE, decide_true, true_and] at hm
    exact rng_12 f b rd r1 r2 m x w k0 k1 k2 k3 k4 k5 hm ED
  by_cases e13 : c = 13
  · subst e13
    simp only [beq_self_eq_true, Bool.or_true, Bool.true_or, if_true, Bool.and_eq_true, Int.reduceBEq, Bool.or_self, Bool.or_false, Bool.false_eq_true, if_false, Bool.not_eq_true', Int.reduceLE, decide_true, true_and] at hm
    exact rng_13 f b rd r1 r2 m x w k0 k1 k2 k3 k4 k5 hm ED
  exfalso
  rw [if_neg (by simp [e1, e2]), if_neg (by simpa using e3), if_neg (by simpa using e5), if_neg (by simpa using e12)] at hm
  simp only [Bool.and_eq_true, decide_eq_true_eq] at hm
  omega
def drawbridgelaw03_DecodeRanges.f (k : Nat) (a0 : Int) : Option Bool := if (0 ≤ a0 ∧ a0 < 4294967296) ∧ (takeK a0 = true → regs (takeI a0) ∧ rngB (takeI a0).c (takeI a0).m = true) then some true else none
theorem drawbridgelaw03_DecodeRanges.calls (k : Nat) (a0 : Int) (r : Bool) (w : World) (h : drawbridgelaw03_DecodeRanges.f k a0 = some r) (hT_ : r = true) :
    Calls Try.prog 4 #[.int .u32 a0] w fun e w' => e = .returned (.bool r) ∧ Below w.heap.size w w' := by
  subst hT_
  unfold drawbridgelaw03_DecodeRanges.f at h
  by_cases hg : (0 ≤ a0 ∧ a0 < 4294967296) ∧ (takeK a0 = true → regs (takeI a0) ∧ rngB (takeI a0).c (takeI a0).m = true)
  case neg => rw [if_neg hg] at h; cases h
  have hd := fun W => dec_runs a0 W hg.1
  cases hk : takeK a0 with
  | false => rw [hk] at hd; exact rng_no (decI a0) a0 w ⟨hd⟩
  | true =>
    have e : decI a0 = takeI a0 := by unfold decI; rw [hk]; rfl
    rw [hk, e] at hd
    exact rng_yes (takeI a0) a0 w (hg.2 hk).1 (hg.2 hk).2 ⟨hd⟩
end Go.Proofs.Ytgcpedenlbcdgaa.Q
end
section
/- Layer 3, plain facts: what was taken apart is put together. -/
set_option linter.unusedVariables false
set_option linter.unusedSimpArgs false
namespace Go.Proofs.Ytgcpedenlbcdgaa.Q
open Go.RowKit Go.Proofs.YtgcpedenlbcdgaaW.PrintWords Go.Proofs.YtgcpedenlbcdgaaW.PrintLast Go.Proofs.YtgcpedenlbcdgaaW.PrintMore Go.Proofs.Ytgcpedenlbcdgaa.L
theorem at55 (x : Int) (o : fieldZ x 6 0 = 55) : takeI x = (⟨1, 0, false, (fieldZ x 11 7), 0, 0, sextZ ((fieldZ x 31 12) * 4096) 32⟩ : Ins) ∧ takeK x = true := by
  unfold takeI takeK
  rw [o]
  exact ⟨rfl, rfl⟩
theorem at23 (x : Int) (o : fieldZ x 6 0 = 23) : takeI x = (⟨2, 0, false, (fieldZ x 11 7), 0, 0, sextZ ((fieldZ x 31 12) * 4096) 32⟩ : Ins) ∧ takeK x = true := by
  unfold takeI takeK
  rw [o]
  exact ⟨rfl, rfl⟩
theorem at111 (x : Int) (o : fieldZ x 6 0 = 111) : takeI x = (⟨3, 0, false, (fieldZ x 11 7), 0, 0, sextZ (Go.bits .or .u64 (Go.bits .or .u64 (Go.bits .or .u64 ((fieldZ x 31 31) * 1048576) ((fieldZ x 19 12) * 4096)) ((fieldZ x 20 20) * 2048)) ((fieldZ x 30 21) * 2)) 21⟩ : Ins) ∧ takeK x = true := by
  unfold takeI takeK
  rw [o]
  exact ⟨rfl, rfl⟩
theorem at103 (x : Int) (o : fieldZ x 6 0 = 103) : takeI x = (⟨4, 0, false, (fieldZ x 11 7), (fieldZ x 19 15), 0, sextZ (fieldZ x 31 20) 12⟩ : Ins) ∧ takeK x = (fieldZ x 14 12 == 0) := by
  unfold takeI takeK
  rw [o]
  exact ⟨rfl, rfl⟩
theorem at99 (x : Int) (o : fieldZ x 6 0 = 99) : takeI x = (⟨5, (fieldZ x 14 12), false, 0, (fieldZ x 19 15), (fieldZ x 24 20), sextZ (Go.bits .or .u64 (Go.bits .or .u64 (Go.bits .or .u64 ((fieldZ x 31 31) * 4096) ((fieldZ x 7 7) * 2048)) ((fieldZ x 30 25) * 32)) ((fieldZ x 11 8) * 2)) 13⟩ : Ins) ∧ takeK x = (Go.bits .and .i64 (fieldZ x 14 12) 6 != 2) := by
  unfold takeI takeK
  rw [o]
  exact ⟨rfl, rfl⟩
theorem at3 (x : Int) (o : fieldZ x 6 0 = 3) : takeI x = (⟨6, (fieldZ x 14 12), false, (fieldZ x 11 7), (fieldZ x 19 15), 0, sextZ (fieldZ x 31 20) 12⟩ : Ins) ∧ takeK x = (fieldZ x 14 12 != 7) := by
  unfold takeI takeK
  rw [o]
  exact ⟨rfl, rfl⟩
theorem at35 (x : Int) (o : fieldZ x 6 0 = 35) : takeI x = (⟨7, (fieldZ x 14 12), false, 0, (fieldZ x 19 15), (fieldZ x 24 20), sextZ (Go.bits .or .u64 ((fieldZ x 31 25) * 32) (fieldZ x 11 7)) 12⟩ : Ins) ∧ takeK x = (decide (fieldZ x 14 12 < 4)) := by
  unfold takeI takeK
  rw [o]
  exact ⟨rfl, rfl⟩
theorem at19 (x : Int) (o : fieldZ x 6 0 = 19) : takeI x = ((if (fieldZ x 14 12 == 1 || fieldZ x 14 12 == 5) then ⟨8, shiftF x (fieldZ x 14 12) false, false, (fieldZ x 11 7), (fieldZ x 19 15), 0, fieldZ x 25 20⟩ else ⟨8, (fieldZ x 14 12), false, (fieldZ x 11 7), (fieldZ x 19 15), 0, sextZ (fieldZ x 31 20) 12⟩) : Ins) ∧ takeK x = (if (fieldZ x 14 12 == 1 || fieldZ x 14 12 == 5) then shiftK x (fieldZ x 14 12) false else true) := by
  unfold takeI takeK
  rw [o]
  exact ⟨rfl, rfl⟩
theorem at27 (x : Int) (o : fieldZ x 6 0 = 27) : takeI x = ((if (fieldZ x 14 12 == 1 || fieldZ x 14 12 == 5) then ⟨8, shiftF x (fieldZ x 14 12) true, true, (fieldZ x 11 7), (fieldZ x 19 15), 0, fieldZ x 24 20⟩ else ⟨8, (fieldZ x 14 12), true, (fieldZ x 11 7), (fieldZ x 19 15), 0, sextZ (fieldZ x 31 20) 12⟩) : Ins) ∧ takeK x = (if (fieldZ x 14 12 == 1 || fieldZ x 14 12 == 5) then shiftK x (fieldZ x 14 12) true else (fieldZ x 14 12 == 0)) := by
  unfold takeI takeK
  rw [o]
  exact ⟨rfl, rfl⟩
theorem at51 (x : Int) (o : fieldZ x 6 0 = 51) : takeI x = (⟨9, sumF x (fieldZ x 14 12), false, (fieldZ x 11 7), (fieldZ x 19 15), (fieldZ x 24 20), 0⟩ : Ins) ∧ takeK x = sumK x (fieldZ x 14 12) false := by
  unfold takeI takeK
  rw [o]
  exact ⟨rfl, rfl⟩
theorem at59 (x : Int) (o : fieldZ x 6 0 = 59) : takeI x = (⟨9, sumF x (fieldZ x 14 12), true, (fieldZ x 11 7), (fieldZ x 19 15), (fieldZ x 24 20), 0⟩ : Ins) ∧ takeK x = sumK x (fieldZ x 14 12) true := by
  unfold takeI takeK
  rw [o]
  exact ⟨rfl, rfl⟩
theorem at15 (x : Int) (o : fieldZ x 6 0 = 15) : takeI x = (⟨10, (fieldZ x 14 12), false, 0, 0, 0, 0⟩ : Ins) ∧ takeK x = (decide (fieldZ x 14 12 < 2)) := by
  unfold takeI takeK
  rw [o]
  exact ⟨rfl, rfl⟩
theorem at115 (x : Int) (o : fieldZ x 6 0 = 115) : takeI x = (sysI x (fieldZ x 14 12) (fieldZ x 11 7) (fieldZ x 19 15) (fieldZ x 24 20) : Ins) ∧ takeK x = sysK x (fieldZ x 14 12) (fieldZ x 11 7) := by
  unfold takeI takeK
  rw [o]
  exact ⟨rfl, rfl⟩
theorem at47 (x : Int) (o : fieldZ x 6 0 = 47) : takeI x = (⟨13, fieldZ x 31 27, fieldZ x 14 12 == 2, (fieldZ x 11 7), (fieldZ x 19 15), (fieldZ x 24 20), 0⟩ : Ins) ∧ takeK x = amoK (fieldZ x 31 27) (fieldZ x 14 12) (fieldZ x 24 20) := by
  unfold takeI takeK
  rw [o]
  exact ⟨rfl, rfl⟩
theorem at_none (x : Int) (o55 : ¬ fieldZ x 6 0 = 55) (o23 : ¬ fieldZ x 6 0 = 23) (o111 : ¬ fieldZ x 6 0 = 111) (o103 : ¬ fieldZ x 6 0 = 103) (o99 : ¬ fieldZ x 6 0 = 99) (o3 : ¬ fieldZ x 6 0 = 3) (o35 : ¬ fieldZ x 6 0 = 35) (o19 : ¬ fieldZ x 6 0 = 19) (o27 : ¬ fieldZ x 6 0 = 27) (o51 : ¬ fieldZ x 6 0 = 51) (o59 : ¬ fieldZ x 6 0 = 59) (o15 : ¬ fieldZ x 6 0 = 15) (o115 : ¬ fieldZ x 6 0 = 115) (o47 : ¬ fieldZ x 6 0 = 47) : takeI x = Ins.zero ∧ takeK x = false := by
  unfold takeI takeK
  have z55 : (fieldZ x 6 0 == 55) = false := beq_eq_false_iff_ne.mpr o55
  have z23 : (fieldZ x 6 0 == 23) = false := beq_eq_false_iff_ne.mpr o23
  have z111 : (fieldZ x 6 0 == 111) = false := beq_eq_false_iff_ne.mpr o111
  have z103 : (fieldZ x 6 0 == 103) = false := beq_eq_false_iff_ne.mpr o103
  have z99 : (fieldZ x 6 0 == 99) = false := beq_eq_false_iff_ne.mpr o99
  have z3 : (fieldZ x 6 0 == 3) = false := beq_eq_false_iff_ne.mpr o3
  have z35 : (fieldZ x 6 0 == 35) = false := beq_eq_false_iff_ne.mpr o35
  have z19 : (fieldZ x 6 0 == 19) = false := beq_eq_false_iff_ne.mpr o19
  have z27 : (fieldZ x 6 0 == 27) = false := beq_eq_false_iff_ne.mpr o27
  have z51 : (fieldZ x 6 0 == 51) = false := beq_eq_false_iff_ne.mpr o51
  have z59 : (fieldZ x 6 0 == 59) = false := beq_eq_false_iff_ne.mpr o59
  have z15 : (fieldZ x 6 0 == 15) = false := beq_eq_false_iff_ne.mpr o15
  have z115 : (fieldZ x 6 0 == 115) = false := beq_eq_false_iff_ne.mpr o115
  have z47 : (fieldZ x 6 0 == 47) = false := beq_eq_false_iff_ne.mpr o47
  rw [z55, z23, z111, z103, z99, z3, z35, z19, z27, z51, z59, z15, z115, z47]
  exact ⟨rfl, rfl⟩
theorem orB (x y : Int) : u32B (Go.bits .or .u32 x y) := by
  have : ∀ z : Int, u32B (IntKind.u32.wrap z) := fun z => by rw [IntKind.wrap_u32]; exact ⟨by omega, by omega⟩
  exact this _
theorem putB_ (op k hi rd r1 r2 : Int) : u32B (putZ op k hi rd r1 r2) := orB _ _
theorem sysB (F : Int) : u32B (syswZ F) := by unfold syswZ; (repeat' split) <;> exact ⟨by decide, by decide⟩
theorem iteB {q : Bool} {a b : Int} (ha : u32B a) (hb : u32B b) : u32B (if q then a else b) := by cases q; exact hb; exact ha
theorem wordB (i : Ins) : u32B (wordV i) := by
  unfold wordV
  refine iteB ?_ ?_
  · unfold wordV_true
    repeat (first | exact orB _ _ | exact putB_ _ _ _ _ _ _ | exact sysB _ | exact ⟨by decide, by decide⟩ | refine iteB ?_ ?_)
  · unfold wordV_false
    repeat (first | exact orB _ _ | exact putB_ _ _ _ _ _ _ | exact sysB _ | exact ⟨by decide, by decide⟩ | refine iteB ?_ ?_)
theorem enc_some (i : Ins) : ∃ w k, encZ i = some (w, k) ∧ (k = false → w = 0) ∧ (k = true → w = wordV i ∧ takeK w = true ∧ decI w = i) := by
  unfold encZ
  by_cases hr : regs i
  · rw [if_pos hr, if_pos (show 0 ≤ wordV i ∧ wordV i < 4294967296 from wordB i)]
    refine ⟨_, _, rfl, ?_, ?_⟩
    · intro h; rw [h]; rfl
    · intro h
      rw [h]
      rw [Bool.and_eq_true] at h
      exact ⟨rfl, h.1, same_iff.1 h.2⟩
  · rw [if_neg hr]
    exact ⟨0, false, rfl, fun _ => rfl, fun h => by cases h⟩
theorem enc_yes {i : Ins} (hr : regs i) (hk : takeK (wordV i) = true) (hd : decI (wordV i) = i) : encZ i = some (wordV i, true) := by
  unfold encZ
  rw [if_pos hr, if_pos (show 0 ≤ wordV i ∧ wordV i < 4294967296 from wordB i), hk, same_iff.2 hd]; rfl
end Go.Proofs.Ytgcpedenlbcdgaa.Q
end
