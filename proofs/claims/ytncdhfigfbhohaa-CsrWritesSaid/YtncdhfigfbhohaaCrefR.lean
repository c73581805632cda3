/- ref05.Read. -/
import Derived.Test.YtncdhfigfbhohaaCrefS
import Derived.Test.YtncdhfigfbhohaaCrefM
import Derived.Test.YtncdhfigfbhohaaCrefD
import Derived.Test.YtncdhfigfbhohaaQx2
namespace Go.Proofs.Ytncdhfigfbhohaa.Q
open Go.RowKit Go.Proofs.YtncdhfigfbhohaaW.PrintWords Go.Proofs.YtncdhfigfbhohaaW.PrintLast Go.Proofs.YtncdhfigfbhohaaW.PrintMore Go.Proofs.Ytncdhfigfbhohaa.L
attribute [local go_sem] Instr.field part asAgg lt_step max2_int min2_int max_two min_two max_three min_three max_four min_four lt_0_1 lt_0_2 lt_1_2 lt_0_3 lt_1_3 lt_2_3 lt_0_4 lt_1_4 lt_2_4 lt_3_4 lt_0_5 lt_1_5 lt_2_5 lt_3_5 lt_4_5 lt_0_6 lt_1_6 lt_2_6 lt_3_6 lt_4_6 lt_5_6 lt_0_7 lt_1_7 lt_2_7 lt_3_7 lt_4_7 lt_5_7 lt_6_7 lt_0_8 lt_1_8 lt_2_8 lt_3_8 lt_4_8 lt_5_8 lt_6_8 lt_7_8
set_option linter.unusedVariables false
set_option linter.unusedSimpArgs false
def valR (c : Nat → Int) (n : Int) : Int × Bool := (drawbridgeref05_value.f 1 (c 0) (c 1) (c 2) (c 3) (c 4) (c 5) (c 6) (c 7) (c 8) (c 9) (c 10) (c 11) (c 12) (c 13) (c 14) (c 15) (c 16) n).getD (0, false)
theorem ite_ex {α : Type} {p : Prop} [Decidable p] {a b : Option α} (ha : ∃ r, a = some r) (hb : ∃ r, b = some r) : ∃ r, (if p then a else b) = some r := by split <;> assumption
theorem valR_is (c : Nat → Int) (n : Int) : drawbridgeref05_value.f 1 (c 0) (c 1) (c 2) (c 3) (c 4) (c 5) (c 6) (c 7) (c 8) (c 9) (c 10) (c 11) (c 12) (c 13) (c 14) (c 15) (c 16) n = some ((valR c n).1, (valR c n).2) := by
  unfold valR
  have h : ∃ r, drawbridgeref05_value.f 1 (c 0) (c 1) (c 2) (c 3) (c 4) (c 5) (c 6) (c 7) (c 8) (c 9) (c 10) (c 11) (c 12) (c 13) (c 14) (c 15) (c 16) n = some r := by
    unfold drawbridgeref05_value.f
    simp only [drawbridgeref05_value.j0]
    repeat' first | exact ⟨_, rfl⟩ | refine ite_ex ?_ ?_
  obtain ⟨r, hr⟩ := h
  rw [hr]; rfl
def offR (c : Nat → Int) (n p : Int) : Bool := decide (p < Int.tmod (n / 256) 4) || (n == 384 && (p == 1 && Int.tmod (c 0 / 1048576) 2 == 1))
def okR (c : Nat → Int) (n p : Int) : Bool := (valR c n).2 && !offR c n p
theorem value_c (c : Nat → Int) (n v : Int) (k : Bool) (w : World) (hv : drawbridgeref05_value.f 1 (c 0) (c 1) (c 2) (c 3) (c 4) (c 5) (c 6) (c 7) (c 8) (c 9) (c 10) (c 11) (c 12) (c 13) (c 14) (c 15) (c 16) n = some (v, k)) : Calls Try.prog 25 #[.agg (C17 c), .int .i64 n] w fun e w' => e = .returned (.tuple #[.int .u64 v, .bool k]) ∧ Below w.heap.size w w' := drawbridgeref05_value.calls 1 (c 0) (c 1) (c 2) (c 3) (c 4) (c 5) (c 6) (c 7) (c 8) (c 9) (c 10) (c 11) (c 12) (c 13) (c 14) (c 15) (c 16) n v k w hv
set_option maxHeartbeats 1600000 in
set_option maxRecDepth 100000 in
theorem refRead (c : Nat → Int) (n p v : Int) (k : Bool) (w : World) (hv : drawbridgeref05_value.f 1 (c 0) (c 1) (c 2) (c 3) (c 4) (c 5) (c 6) (c 7) (c 8) (c 9) (c 10) (c 11) (c 12) (c 13) (c 14) (c 15) (c 16) n = some (v, k)) :
    Calls Try.prog 17 #[.agg (C17 c), .int .i64 n, .int .i64 p] w fun e w' => (∃ y, e = .returned (.tuple #[.int .u64 y, .bool (k && !offR c n p)])) ∧ Below w.heap.size w w' := by
  have HB := Aside0.mk (Below.refl w.heap.size w)
  have HV := Aside0.mk hv
  clear hv
  unfold offR
  cases k <;> cases g0 : decide (p < Int.tmod (n / 256) 4) <;> cases g1 : (n == 384) <;> cases g2 : (p == 1) <;> cases g3 : (Int.tmod (c 0 / 1048576) 2 == 1)
  all_goals
    go_enter Try.func17, Try.ntmps17
    go_upto_region 1 with fail
    obtain ⟨wa, hwa, oc0, hb_, hz0⟩ := letter1 w (.cells (C17 c) 24 (0, 0))
    rw [hwa]
    clear hwa
    have hzwa := Nat.le_of_eq hz0.symm
    clear hz0
    have oc := Aside0.mk oc0
    clear oc0
    obtain ⟨occ, ocf, ocl⟩ := cells_of oc.out
    have HB_ : Aside0 (Below w.heap.size w wa) := ⟨hb_⟩
    clear HB hb_; have HB := HB_; clear HB_
    have hC0 := C17_at c 0 (by decide)
    go_wp2_with (first | ((with_reducible refine gate_dst (N := 11) rfl ?_); (try (refine gate_guard (by rfl) ?_; dsimp only)); refine wpList_load_row rfl 24 _ rfl _ (by rfl) _ (C17 c) _ _ (by repeat (with_reducible first | exact oc.out | apply ext_drew | apply ext_drewN | apply ext_alloc | refine blk_far ?_ (by show _ ≠ _; dsimp only; omega) _)) Try.underlying24 rfl (C17_info c 24 (by kernel_rfl)) ?_))
    (go_at_call 25; (with_reducible refine (value_c c n v _ _ HV.out).mono ?_); rintro e_ w1 ⟨rfl, hb_⟩; have HB_ : Aside0 (Below w.heap.size w w1) := Aside0.mk (below_step (by repeat (first | (with_reducible first | exact HB.out | exact Below.refl _ _ | apply below_alloc | apply pw_below_drewN | apply below_drew | refine below_set ?_ (by omega)) | exact HB.out)) hb_); have hzw1 := hb_.size; (try simp at hzw1); have oc_ := Aside0.mk (box_below hb_ (by repeat (with_reducible first | exact oc.out | apply ext_drew | apply ext_drewN | apply ext_alloc | refine blk_far ?_ (by show _ ≠ _; dsimp only; omega) _))); (try clear oc occ ocf ocl); have oc := oc_; clear oc_; obtain ⟨occ, ocf, ocl⟩ := cells_of oc.out; clear HB hb_; have HB := HB_; clear HB_)
    go_wp2
    go_ret2
    exact ⟨⟨_, rfl⟩, (by repeat (first | (with_reducible first | exact HB.out | exact Below.refl _ _ | apply below_alloc | apply pw_below_drewN | apply below_drew | refine below_set ?_ (by omega)) | exact HB.out))⟩
end Go.Proofs.Ytncdhfigfbhohaa.Q
