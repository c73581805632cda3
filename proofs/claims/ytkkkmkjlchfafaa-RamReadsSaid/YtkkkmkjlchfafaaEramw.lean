/- The contract of ram.Write, for one who reads what it answers. -/
import Derived.Test.YtkkkmkjlchfafaaEram
import Derived.Test.YtkkkmkjlchfafaaEbp
import Derived.Deep.RegionWith
import Derived.Test.YtkkkmkjlchfafaaQx1
namespace Go.Proofs.Ytkkkmkjlchfafaa.Q
open Go.RowKit Go.Proofs.YtkkkmkjlchfafaaW.PrintWords Go.Proofs.YtkkkmkjlchfafaaW.PrintLast Go.Proofs.YtkkkmkjlchfafaaW.PrintMore Go.Proofs.Ytkkkmkjlchfafaa.L
attribute [local go_sem] Instr.field part asAgg lt_step max2_int min2_int max_two min_two max_three min_three max_four min_four lt_0_1 lt_0_2 lt_1_2 lt_0_3 lt_1_3 lt_2_3 lt_0_4 lt_1_4 lt_2_4 lt_3_4 lt_0_5 lt_1_5 lt_2_5 lt_3_5 lt_4_5 lt_0_6 lt_1_6 lt_2_6 lt_3_6 lt_4_6 lt_5_6 lt_0_7 lt_1_7 lt_2_7 lt_3_7 lt_4_7 lt_5_7 lt_6_7 lt_0_8 lt_1_8 lt_2_8 lt_3_8 lt_4_8 lt_5_8 lt_6_8 lt_7_8
set_option linter.unusedVariables false
set_option linter.unusedSimpArgs false
def knownZ (s : Int) : Bool := s == 1 || s == 2 || s == 4 || s == 8
theorem align_is (s : Int) : bits_Align.f 0 s = some (knownZ s) := by
  by_cases h1 : 1 ≤ s ∧ s ≤ 8
  · have : s = 1 ∨ s = 2 ∨ s = 3 ∨ s = 4 ∨ s = 5 ∨ s = 6 ∨ s = 7 ∨ s = 8 := by omega
    rcases this with rfl | rfl | rfl | rfl | rfl | rfl | rfl | rfl <;> decide +kernel
  · have e : knownZ s = false := by
      unfold knownZ
      rw [beq_eq_false_iff_ne.2 (show s ≠ 1 by omega), beq_eq_false_iff_ne.2 (show s ≠ 2 by omega), beq_eq_false_iff_ne.2 (show s ≠ 4 by omega), beq_eq_false_iff_ne.2 (show s ≠ 8 by omega)]; rfl
    rw [e]
    unfold bits_Align.f
    by_cases h2 : s ≥ 1
    · rw [if_pos h2, if_neg (by omega)]
    · rw [if_neg h2]
def writeL (l : List Int) (at_ size x : Int) : List Int := if knownZ size = true then fillL l at_ (putB x size false) else l
def writeK (l : List Int) (at_ size x : Int) : Bool := knownZ size && (placeZ l.length at_ (putB x size false).length).2
theorem writeL_length (l : List Int) (at_ size x : Int) : (writeL l at_ size x).length = l.length := by unfold writeL; split; exact fillL_length _ _ _; rfl
theorem putB_small (x size : Int) (b : Bool) : (putB x size b).length ≤ 9223372036854775807 := by
  have := putN_le size
  unfold putB
  split
  · rw [List.length_reverse, putL_length]; omega
  · rw [putL_length]; omega
set_option maxHeartbeats 1600000 in
set_option maxRecDepth 100000 in
theorem ram_Write.runs (A : Option Addr) (c : Nat) (l : List Int) (at_ size x : Int) (w : World) (ok : Nat → Prop) (hr : Kd.F (Kd.int .u8) w ok A l.length l) (hc : l.length ≤ c) (hat : u64B at_) (hl : l.length < 140737488355328) :
    Calls Try.prog 10 #[.agg #[.slice A l.length c], .int .u64 at_, .int .i64 size, .int .u64 x] w fun e w' => ∃ A' c', e = .returned (.tuple #[.agg #[.slice A' (writeL l at_ size x).length c'], .bool (writeK l at_ size x)]) ∧ (writeL l at_ size x).length ≤ c' ∧ Kd.F (Kd.int .u8) w' (fun j => ok j ∨ w.heap.size ≤ j) A' (writeL l at_ size x).length (writeL l at_ size x) ∧ Below w.heap.size w w' := by
  have ha := align_is size
  have HB := Aside0.mk (Below.refl w.heap.size w)
  have HR := Aside0.mk (Kd.F_bound hr)
  have HC := Aside0.mk hc
  have HT := Aside0.mk hat
  have HL := Aside0.mk hl
  have hu := Try.underlying24
  unfold writeK writeL
  cases hk : knownZ size
  · rw [hk] at ha
    rw [if_neg (by decide), Bool.false_and]
    have HA := Aside0.mk ha
    clear ha hk hr hc hat hl
    go_enter Try.func10, Try.ntmps10
    go_wp2_with fail
    (go_at_call 24; (with_reducible refine (dr (bits_Align.calls 0 size false _ HA.out)).mono ?_); rintro e_ w1 ⟨rfl, hb_⟩; have HB_ : Aside0 (Below w.heap.size w w1) := Aside0.mk (below_step (by repeat (first | (with_reducible first | exact HB.out | exact Below.refl _ _ | apply below_alloc | apply pw_below_drewN | apply below_drew | refine below_set ?_ (by omega)) | exact HB.out)) hb_); have hzw1 := hb_.size; (try simp at hzw1); have oa_ := Aside0.mk (box_below hb_ (by repeat (with_reducible first | exact nb_1 w _ | apply ext_drew | apply ext_drewN | apply ext_alloc))); have ob_ := Aside0.mk (box_below hb_ (by repeat (with_reducible first | exact nb_2 w _ _ | apply ext_drew | apply ext_drewN | apply ext_alloc))); (try clear oa oac oaf oal); have oa := oa_; clear oa_; obtain ⟨oac, oaf, oal⟩ := cells_of oa.out; (try clear ob obc obf obl); have ob := ob_; clear ob_; obtain ⟨obc, obf, obl⟩ := cells_of ob.out; clear HB hb_; have HB := HB_; clear HB_)
    go_wp2
    refine bodyPost_ret (v := .tuple #[.agg #[.slice A l.length c], .bool false]) (by simp [results, Try.results10, go_sem, oac, obc] <;> first | assumption | omega | (symm; assumption)) rfl ?_
    exact ⟨A, c, rfl, HC.out, F_w HR.out (by repeat (first | (with_reducible first | exact HB.out | exact Below.refl _ _ | apply below_alloc | apply pw_below_drewN | apply below_drew | refine below_set ?_ (by omega)) | exact HB.out)) (fun _ h => .inl h.1), (by repeat (first | (with_reducible first | exact HB.out | exact Below.refl _ _ | apply below_alloc | apply pw_below_drewN | apply below_drew | refine below_set ?_ (by omega)) | exact HB.out))⟩
  · rw [hk] at ha
    rw [if_pos rfl, Bool.true_and]
    have HA := Aside0.mk ha
    clear ha hk hr hc hat hl
    go_enter Try.func10, Try.ntmps10
    go_wp2_with fail
    (go_at_call 24; (with_reducible refine (dr (bits_Align.calls 0 size true _ HA.out)).mono ?_); rintro e_ w1 ⟨rfl, hb_⟩; have HB_ : Aside0 (Below w.heap.size w w1) := Aside0.mk (below_step (by repeat (first | (with_reducible first | exact HB.out | exact Below.refl _ _ | apply below_alloc | apply pw_below_drewN | apply below_drew | refine below_set ?_ (by omega)) | exact HB.out)) hb_); have hzw1 := hb_.size; (try simp at hzw1); have oa_ := Aside0.mk (box_below hb_ (by repeat (with_reducible first | exact nb_1 w _ | apply ext_drew | apply ext_drewN | apply ext_alloc))); have ob_ := Aside0.mk (box_below hb_ (by repeat (with_reducible first | exact nb_2 w _ _ | apply ext_drew | apply ext_drewN | apply ext_alloc))); (try clear oa oac oaf oal); have oa := oa_; clear oa_; obtain ⟨oac, oaf, oal⟩ := cells_of oa.out; (try clear ob obc obf obl); have ob := ob_; clear ob_; obtain ⟨obc, obf, obl⟩ := cells_of ob.out; clear HB hb_; have HB := HB_; clear HB_)
    have HR_ := Aside0.mk (Kd.F_below HR.out HB.out)
    clear HR; have HR := HR_; clear HR_
    go_wp2_with fail
    go_region_with (first | (go_at_call 27; (with_reducible refine (bits_Put.calls x size false _ _ rfl).mono ?_); rintro e_ w2 ⟨v_q, rfl, hr_q, hb_⟩; have HB_ : Aside0 (Below w.heap.size w w2) := Aside0.mk (below_step (by repeat (first | (with_reducible first | exact HB.out | exact Below.refl _ _ | apply below_alloc | apply pw_below_drewN | apply below_drew | refine below_set ?_ (by omega)) | exact HB.out)) hb_); have hzw2 := hb_.size; (try simp at hzw2); have oa_ := Aside0.mk (box_below hb_ (by repeat (with_reducible first | exact oa.out | apply ext_drew | apply ext_drewN | apply ext_alloc))); have ob_ := Aside0.mk (box_below hb_ (by repeat (with_reducible first | exact ob.out | apply ext_drew | apply ext_drewN | apply ext_alloc))); have HR_ := Aside0.mk (Kd.F_below (by repeat (with_reducible first | exact HR.out | apply Kd.F_drew | apply Kd.F_drewN | apply Kd.F_alloc | refine Kd.F_far ?_ (fun j_ hj_ => by first | omega | (dsimp only at hj_ ⊢; omega)) _)) hb_); clear HR; have HR := HR_; clear HR_; (try clear oa oac oaf oal); have oa := oa_; clear oa_; obtain ⟨oac, oaf, oal⟩ := cells_of oa.out; (try clear ob obc obf obl); have ob := ob_; clear ob_; obtain ⟨obc, obf, obl⟩ := cells_of ob.out; clear HB hb_; have HB := HB_; clear HB_; obtain ⟨A_q, c_q, ev_, hc_q, hf_q⟩ := R_Fl hr_q; subst ev_; have qc := Aside0.mk hc_q; have q := Aside0.mk hf_q; clear hc_q hf_q hr_q; skip) | (go_at_call 16; (with_reducible refine (ram_Fill.runs A c l at_ A_q c_q (putB x size false) _ _ _ HR.out HC.out (by repeat (with_reducible first | exact q.out | apply Kd.F_drew | apply Kd.F_drewN | apply Kd.F_alloc | refine Kd.F_far ?_ (fun j_ hj_ => by first | omega | (dsimp only at hj_ ⊢; omega)) _)) qc.out HT.out HL.out (putB_small _ _ _)).mono ?_); rintro e_ w3 ⟨A_s, c_s, rfl, hc_s, hr_s, hb_⟩; have HB_ : Aside0 (Below w.heap.size w w3) := Aside0.mk (below_step (by repeat (first | (with_reducible first | exact HB.out | exact Below.refl _ _ | apply below_alloc | apply pw_below_drewN | apply below_drew | refine below_set ?_ (by omega)) | exact HB.out)) hb_); have hzw3 := hb_.size; (try simp at hzw3); have oa_ := Aside0.mk (box_below hb_ (by repeat (with_reducible first | exact oa.out | apply ext_drew | apply ext_drewN | apply ext_alloc))); have ob_ := Aside0.mk (box_below hb_ (by repeat (with_reducible first | exact ob.out | apply ext_drew | apply ext_drewN | apply ext_alloc))); (try clear oa oac oaf oal); have oa := oa_; clear oa_; obtain ⟨oac, oaf, oal⟩ := cells_of oa.out; (try clear ob obc obf obl); have ob := ob_; clear ob_; obtain ⟨obc, obf, obl⟩ := cells_of ob.out; clear HB hb_; have HB := HB_; clear HB_; have sc := Aside0.mk hc_s; have s := Aside0.mk hr_s; clear hc_s hr_s; skip))
    all_goals go_wp2
    all_goals refine bodyPost_ret (v := .tuple #[.agg #[.slice A_s (fillL l at_ (putB x size false)).length c_s], .bool (placeZ l.length at_ (putB x size false).length).2]) (by simp [results, Try.results10, go_sem, obc, obf] <;> first | assumption | omega | (symm; assumption)) rfl ?_
    all_goals exact ⟨A_s, c_s, rfl, sc.out, Kd.F_mono (Kd.F_far s.out (fun j_ hj_ => by dsimp only at hj_ ⊢; omega) _) (fun j h => Or.elim h (fun h => .inl h.1) (fun h => .inr (by omega))), (by repeat (first | (with_reducible first | exact HB.out | exact Below.refl _ _ | apply below_alloc | apply pw_below_drewN | apply below_drew | refine below_set ?_ (by omega)) | exact HB.out))⟩
end Go.Proofs.Ytkkkmkjlchfafaa.Q
