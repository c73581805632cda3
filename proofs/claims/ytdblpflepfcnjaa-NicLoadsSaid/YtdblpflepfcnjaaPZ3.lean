import Derived.Test.YtdblpflepfcnjaaPZ2
import Derived.Deep.RegionWith
import Derived.Test.YtdblpflepfcnjaaPZ1
import Derived.Test.YtdblpflepfcnjaaPXWMore
import Derived.Laws.Slices
import Derived.Deep.Slices
section
/- The contract of ram.Write, for one who reads what it answers. -/
namespace Go.Proofs.Ytdblpflepfcnjaa.Q
open Go.RowKit Go.Proofs.YtdblpflepfcnjaaW.PrintWords Go.Proofs.YtdblpflepfcnjaaW.PrintLast Go.Proofs.YtdblpflepfcnjaaW.PrintMore Go.Proofs.Ytdblpflepfcnjaa.L
attribute [local go_sem] Instr.field part asAgg lt_step max2_int min2_int max_two min_two max_three min_three max_four min_four lt_0_1 lt_0_2 lt_1_2 lt_0_3 lt_1_3 lt_2_3 lt_0_4 lt_1_4 lt_2_4 lt_3_4 lt_0_5 lt_1_5 lt_2_5 lt_3_5 lt_4_5 lt_0_6 lt_1_6 lt_2_6 lt_3_6 lt_4_6 lt_5_6 lt_0_7 lt_1_7 lt_2_7 lt_3_7 lt_4_7 lt_5_7 lt_6_7 lt_0_8 lt_1_8 lt_2_8 lt_3_8 lt_4_8 lt_5_8 lt_6_8 lt_7_8
set_option linter.unusedVariables false
set_option linter.unusedSimpArgs false
def knownZ (s : Int) : Bool := s == 1 || s == 2 || s == 4 || s == 8
theorem align_is (s : Int) : bits_Align.f 0 s = some (knownZ s) := by
  by_cases h1 : 1 ≤ s ∧ s ≤ 8
  · have : s = 1 ∨ s = 2 ∨ s = 3 ∨ s = 4 ∨ s = 5 ∨ s = 6 ∨ s = 7 ∨ s = 8 := by omega
    rcases this with rfl | rfl | rfl | rfl | rfl | rfl | rfl | rfl <;> decide +kernel
  · have e : knownZ s = false := by
      unfold knownZ
      rw [beq_eq_false_iff_ne.2 (show s ≠ 1 by omega), beq_eq_false_iff_ne.2 (show s ≠ 2 by omega), beq_eq_false_iff_ne.2 (show s ≠ 4 by omega), beq_eq_false_iff_ne.2 (show s ≠ 8 by omega)]; rfl
    rw [e]
    unfold bits_Align.f
    by_cases h2 : s ≥ 1
    · rw [if_pos h2, if_neg (by omega)]
    · rw [if_neg h2]
def writeL (l : List Int) (at_ size x : Int) : List Int := if knownZ size = true then fillL l at_ (putB x size false) else l
def writeK (l : List Int) (at_ size x : Int) : Bool := knownZ size && (placeZ l.length at_ (putB x size false).length).2
theorem putB_small (x size : Int) (b : Bool) : (putB x size b).length ≤ 9223372036854775807 := by
  have := putN_le size
  unfold putB
  split
  · rw [List.length_reverse, putL_length]; omega
  · rw [putL_length]; omega
set_option maxHeartbeats 1600000 in
set_option maxRecDepth 100000 in
theorem ram_Write.runs (A : Option Addr) (c : Nat) (l : List Int) (at_ size x : Int) (w : World) (ok : Nat → Prop) (hr : Kd.F (Kd.int .u8) w ok A l.length l) (hc : l.length ≤ c) (hat : u64B at_) (hl : l.length < 140737488355328) :
    Calls Try.prog 48 #[.agg #[.slice A l.length c], .int .u64 at_, .int .i64 size, .int .u64 x] w fun e w' => ∃ A' c', e = .returned (.tuple #[.agg #[.slice A' (writeL l at_ size x).length c'], .bool (writeK l at_ size x)]) ∧ (writeL l at_ size x).length ≤ c' ∧ Kd.F (Kd.int .u8) w' (fun j => ok j ∨ w.heap.size ≤ j) A' (writeL l at_ size x).length (writeL l at_ size x) ∧ Below w.heap.size w w' := by
  have ha := align_is size
  have HB := Aside0.mk (Below.refl w.heap.size w)
  have HR := Aside0.mk (Kd.F_bound hr)
  have HC := Aside0.mk hc
  have HT := Aside0.mk hat
  have HL := Aside0.mk hl
  have hu := Try.underlying27
  unfold writeK writeL
  cases hk : knownZ size
  · rw [hk] at ha
    rw [if_neg (by decide), Bool.false_and]
    have HA := Aside0.mk ha
    clear ha hk hr hc hat hl
    go_enter Try.func48, Try.ntmps48
    go_wp2_with fail
    (go_at_call 59; (with_reducible refine (dr (bits_Align.calls 0 size false _ HA.out)).mono ?_); rintro e_ w1 ⟨rfl, hb_⟩; have HB_ : Aside0 (Below w.heap.size w w1) := Aside0.mk (below_step (by repeat (first | (with_reducible first | exact HB.out | exact Below.refl _ _ | apply below_alloc | apply pw_below_drewN | apply below_drew | refine below_set ?_ (by omega)) | exact HB.out)) hb_); have hzw1 := hb_.size; (try simp at hzw1); have oa_ := Aside0.mk (box_below hb_ (by repeat (with_reducible first | exact nb_1 w _ | apply ext_drew | apply ext_drewN | apply ext_alloc | refine blk_far ?_ (by show _ ≠ _; dsimp only; omega) _))); have ob_ := Aside0.mk (box_below hb_ (by repeat (with_reducible first | exact nb_2 w _ _ | apply ext_drew | apply ext_drewN | apply ext_alloc | refine blk_far ?_ (by show _ ≠ _; dsimp only; omega) _))); (try clear oa oac oaf oal); have oa := oa_; clear oa_; obtain ⟨oac, oaf, oal⟩ := cells_of oa.out; (try clear ob obc obf obl); have ob := ob_; clear ob_; obtain ⟨obc, obf, obl⟩ := cells_of ob.out; clear HB hb_; have HB := HB_; clear HB_)
    go_wp2
    refine bodyPost_ret (v := .tuple #[.agg #[.slice A l.length c], .bool false]) (by simp [results, Try.results48, go_sem, oac, obc] <;> first | assumption | omega | (symm; assumption)) rfl ?_
    exact ⟨A, c, rfl, HC.out, F_w HR.out (by repeat (first | (with_reducible first | exact HB.out | exact Below.refl _ _ | apply below_alloc | apply pw_below_drewN | apply below_drew | refine below_set ?_ (by omega)) | exact HB.out)) (fun _ h => .inl h.1), (by repeat (first | (with_reducible first | exact HB.out | exact Below.refl _ _ | apply below_alloc | apply pw_below_drewN | apply below_drew | refine below_set ?_ (by omega)) | exact HB.out))⟩
  · rw [hk] at ha
    rw [if_pos rfl, Bool.true_and]
    have HA := Aside0.mk ha
    clear ha hk hr hc hat hl
    go_enter Try.func48, Try.ntmps48
    go_wp2_with fail
    (go_at_call 59; (with_reducible refine (dr (bits_Align.calls 0 size true _ HA.out)).mono ?_); rintro e_ w1 ⟨rfl, hb_⟩; have HB_ : Aside0 (Below w.heap.size w w1) := Aside0.mk (below_step (by repeat (first | (with_reducible first | exact HB.out | exact Below.refl _ _ | apply below_alloc | apply pw_below_drewN | apply below_drew | refine below_set ?_ (by omega)) | exact HB.out)) hb_); have hzw1 := hb_.size; (try simp at hzw1); have oa_ := Aside0.mk (box_below hb_ (by repeat (with_reducible first | exact nb_1 w _ | apply ext_drew | apply ext_drewN | apply ext_alloc | refine blk_far ?_ (by show _ ≠ _; dsimp only; omega) _))); have ob_ := Aside0.mk (box_below hb_ (by repeat (with_reducible first | exact nb_2 w _ _ | apply ext_drew | apply ext_drewN | apply ext_alloc | refine blk_far ?_ (by show _ ≠ _; dsimp only; omega) _))); (try clear oa oac oaf oal); have oa := oa_; clear oa_; obtain ⟨oac, oaf, oal⟩ := cells_of oa.out; (try clear ob obc obf obl); have ob := ob_; clear ob_; obtain ⟨obc, obf, obl⟩ := cells_of ob.out; clear HB hb_; have HB := HB_; clear HB_)
    have HR_ := Aside0.mk (Kd.F_below HR.out HB.out)
    clear HR; have HR := HR_; clear HR_
    go_wp2_with fail
    go_region_with (first | (go_at_call 60; (with_reducible refine (bits_Put.calls x size false _ _ rfl).mono ?_); rintro e_ w2 ⟨v_q, rfl, hr_q, hb_⟩; have HB_ : Aside0 (Below w.heap.size w w2) := Aside0.mk (below_step (by repeat (first | (with_reducible first | exact HB.out | exact Below.refl _ _ | apply below_alloc | apply pw_below_drewN | apply below_drew | refine below_set ?_ (by omega)) | exact HB.out)) hb_); have hzw2 := hb_.size; (try simp at hzw2); have oa_ := Aside0.mk (box_below hb_ (by repeat (with_reducible first | exact oa.out | apply ext_drew | apply ext_drewN | apply ext_alloc | refine blk_far ?_ (by show _ ≠ _; dsimp only; omega) _))); have ob_ := Aside0.mk (box_below hb_ (by repeat (with_reducible first | exact ob.out | apply ext_drew | apply ext_drewN | apply ext_alloc | refine blk_far ?_ (by show _ ≠ _; dsimp only; omega) _))); have HR_ := Aside0.mk (Kd.F_below (by (repeat (with_reducible first | exact HR.out | apply Kd.F_drew | apply Kd.F_drewN | apply Kd.F_alloc | refine Kd.F_far ?_ ?_ _)); all_goals (intro j_ hj_; (try dsimp only at hj_); (try dsimp only); (try simp only [sz_alloc, sz_drew, sz_drewN, sz_set] at hj_); omega)) hb_); clear HR; have HR := HR_; clear HR_; (try clear oa oac oaf oal); have oa := oa_; clear oa_; obtain ⟨oac, oaf, oal⟩ := cells_of oa.out; (try clear ob obc obf obl); have ob := ob_; clear ob_; obtain ⟨obc, obf, obl⟩ := cells_of ob.out; clear HB hb_; have HB := HB_; clear HB_; obtain ⟨A_q, c_q, ev_, hc_q, hf_q⟩ := R_Fl hr_q; subst ev_; have qc := Aside0.mk hc_q; have q := Aside0.mk (Kd.F_bound hf_q); clear hc_q hf_q hr_q; skip) | (go_at_call 49; (with_reducible refine (ram_Fill.runs A c l at_ A_q c_q (putB x size false) _ _ _ HR.out HC.out (by (repeat (with_reducible first | exact q.out | apply Kd.F_drew | apply Kd.F_drewN | apply Kd.F_alloc | refine Kd.F_far ?_ ?_ _)); all_goals (intro j_ hj_; (try dsimp only at hj_); (try dsimp only); (try simp only [sz_alloc, sz_drew, sz_drewN, sz_set] at hj_); omega)) qc.out HT.out HL.out (putB_small _ _ _)).mono ?_); rintro e_ w3 ⟨A_s, c_s, rfl, hc_s, hr_s, hb_⟩; have HB_ : Aside0 (Below w.heap.size w w3) := Aside0.mk (below_step (by repeat (first | (with_reducible first | exact HB.out | exact Below.refl _ _ | apply below_alloc | apply pw_below_drewN | apply below_drew | refine below_set ?_ (by omega)) | exact HB.out)) hb_); have hzw3 := hb_.size; (try simp at hzw3); have oa_ := Aside0.mk (box_below hb_ (by repeat (with_reducible first | exact oa.out | apply ext_drew | apply ext_drewN | apply ext_alloc | refine blk_far ?_ (by show _ ≠ _; dsimp only; omega) _))); have ob_ := Aside0.mk (box_below hb_ (by repeat (with_reducible first | exact ob.out | apply ext_drew | apply ext_drewN | apply ext_alloc | refine blk_far ?_ (by show _ ≠ _; dsimp only; omega) _))); (try clear oa oac oaf oal); have oa := oa_; clear oa_; obtain ⟨oac, oaf, oal⟩ := cells_of oa.out; (try clear ob obc obf obl); have ob := ob_; clear ob_; obtain ⟨obc, obf, obl⟩ := cells_of ob.out; clear HB hb_; have HB := HB_; clear HB_; have sc := Aside0.mk hc_s; have s := Aside0.mk (Kd.F_bound hr_s); clear hc_s hr_s; skip))
    all_goals go_wp2
    all_goals refine bodyPost_ret (v := .tuple #[.agg #[.slice A_s (fillL l at_ (putB x size false)).length c_s], .bool (placeZ l.length at_ (putB x size false).length).2]) (by simp [results, Try.results48, go_sem, obc, obf] <;> first | assumption | omega | (symm; assumption)) rfl ?_
    all_goals exact ⟨A_s, c_s, rfl, sc.out, (by refine F_res (ok := ?_) ?_ ?_; rotate_left; (repeat (with_reducible first | exact s.out | apply Kd.F_drew | apply Kd.F_drewN | apply Kd.F_alloc | refine Kd.F_far ?_ ?_ _)); all_goals (intro j_ hj_; (try dsimp only at hj_); (try dsimp only); (try simp only [sz_alloc, sz_drew, sz_drewN, sz_set] at hj_); first | omega | exact .inl hj_.1 | exact .inl hj_ | exact .inr (by omega) | (rcases hj_ with hj_ | hj_; exact .inl hj_.1; exact .inr (by omega)) | (rcases hj_ with hj_ | hj_; exact .inl hj_; exact .inr (by omega)) | (rcases hj_.1 with hk_ | hk_; (first | exact .inl hk_.1 | exact .inl hk_); exact .inr (by omega)))), (by repeat (first | (with_reducible first | exact HB.out | exact Below.refl _ _ | apply below_alloc | apply pw_below_drewN | apply below_drew | refine below_set ?_ (by omega)) | exact HB.out))⟩
end Go.Proofs.Ytdblpflepfcnjaa.Q
end
section
/- The print's word for a row that is shared, read as a row with its footprint. -/
namespace Go.Proofs.Ytdblpflepfcnjaa.Q
open Go.RowKit Go.Proofs.YtdblpflepfcnjaaW.PrintWords Go.Proofs.YtdblpflepfcnjaaW.PrintLast Go.Proofs.YtdblpflepfcnjaaW.PrintMore Go.Proofs.Ytdblpflepfcnjaa.L
theorem V_F {α : Type} {d : Kd α} {W : World} {base e n c : Nat} {ok : Nat → Prop} {A : Option Addr} {xs : List α} (h : Kd.V d e W base ok (.slice A n c) xs) : n = xs.length ∧ xs.length ≤ c ∧ Kd.F d W ok A xs.length xs := by
  obtain ⟨A', c', ev, hc, hF⟩ := h
  injection ev with e1 e2 e3
  subst e1; subst e2; subst e3
  exact ⟨rfl, hc, hF⟩
end Go.Proofs.Ytdblpflepfcnjaa.Q
end
section
/- ram.Fill and ram.Write, as those who call them have it. -/
namespace Go.Proofs.Ytdblpflepfcnjaa.Q
open Go.RowKit Go.Proofs.YtdblpflepfcnjaaW.PrintWords Go.Proofs.YtdblpflepfcnjaaW.PrintLast Go.Proofs.YtdblpflepfcnjaaW.PrintMore Go.Proofs.Ytdblpflepfcnjaa.L
attribute [local go_sem] Instr.field part asAgg lt_step max2_int min2_int max_two min_two max_three min_three max_four min_four lt_0_1 lt_0_2 lt_1_2 lt_0_3 lt_1_3 lt_2_3 lt_0_4 lt_1_4 lt_2_4 lt_3_4 lt_0_5 lt_1_5 lt_2_5 lt_3_5 lt_4_5 lt_0_6 lt_1_6 lt_2_6 lt_3_6 lt_4_6 lt_5_6 lt_0_7 lt_1_7 lt_2_7 lt_3_7 lt_4_7 lt_5_7 lt_6_7 lt_0_8 lt_1_8 lt_2_8 lt_3_8 lt_4_8 lt_5_8 lt_6_8 lt_7_8
set_option linter.unusedVariables false
set_option linter.unusedSimpArgs false
def ram_Fill.f (l : List Int) (a : Int) (b : List Int) : Option (List Int × Bool) := if u64B a ∧ l.length < 140737488355328 ∧ b.length ≤ 9223372036854775807 then some (fillL l a b, (placeZ l.length a b.length).2) else none
theorem ram_Fill.calls (P0_0_ : Nat → Prop) (A0_0 : Option Addr) (c0_0 : Nat) (l0_0 : List Int) (a1 : Int) (A2 : Option Addr) (c2 : Nat) (l2 : List Int) (r1 : List Int) (r2 : Bool) (w : World) (hs0_0 : Kd.V (Kd.int .u8) 5 w w.heap.size (fun k_ => P0_0_ k_) (.slice A0_0 l0_0.length c0_0) l0_0) (hr2 : Kd.C (Kd.int .u8) w A2 l2.length l2) (hc2 : l2.length ≤ c2) (h : ram_Fill.f l0_0 a1 l2 = some (r1, r2)) :
    Calls Try.prog 49 #[.agg #[.slice A0_0 l0_0.length c0_0], .int .u64 a1, .slice A2 l2.length c2] w fun e w' => ∃ v0_ : Value, e = .returned (.tuple #[.agg #[v0_], .bool r2]) ∧ Kd.V (Kd.int .u8) 5 w' w.heap.size (fun k_ => (P0_0_ k_ ∨ w.heap.size ≤ k_)) v0_ r1 ∧ Below w.heap.size w w' := by
  unfold ram_Fill.f at h
  split at h
  case isFalse => cases h
  case isTrue hh =>
  obtain ⟨ha, hl, hb⟩ := hh
  injection h with h
  injection h with e1 e2
  subst e1; subst e2
  obtain ⟨_, hc, hF⟩ := V_F hs0_0
  refine (ram_Fill.runs A0_0 c0_0 l0_0 a1 A2 c2 l2 w P0_0_ _ hF hc (F_in hr2) hc2 ha hl hb).mono ?_
  rintro e w' ⟨A', c', he, hc', hF', hB⟩
  exact ⟨_, he, ⟨A', c', rfl, hc', hF'⟩, hB⟩
def ram_Write.f (l : List Int) (a size x : Int) : Option (List Int × Bool) := if u64B a ∧ l.length < 140737488355328 then some (writeL l a size x, writeK l a size x) else none
theorem ram_Write.calls (P0_0_ : Nat → Prop) (A0_0 : Option Addr) (c0_0 : Nat) (l0_0 : List Int) (a1 : Int) (a2 : Int) (a3 : Int) (r1 : List Int) (r2 : Bool) (w : World) (hs0_0 : Kd.V (Kd.int .u8) 5 w w.heap.size (fun k_ => P0_0_ k_) (.slice A0_0 l0_0.length c0_0) l0_0) (h : ram_Write.f l0_0 a1 a2 a3 = some (r1, r2)) :
    Calls Try.prog 48 #[.agg #[.slice A0_0 l0_0.length c0_0], .int .u64 a1, .int .i64 a2, .int .u64 a3] w fun e w' => ∃ v0_ : Value, e = .returned (.tuple #[.agg #[v0_], .bool r2]) ∧ Kd.V (Kd.int .u8) 5 w' w.heap.size (fun k_ => (P0_0_ k_ ∨ w.heap.size ≤ k_)) v0_ r1 ∧ Below w.heap.size w w' := by
  unfold ram_Write.f at h
  split at h
  case isFalse => cases h
  case isTrue hh =>
  obtain ⟨ha, hl⟩ := hh
  injection h with h
  injection h with e1 e2
  subst e1; subst e2
  obtain ⟨_, hc, hF⟩ := V_F hs0_0
  refine (ram_Write.runs A0_0 c0_0 l0_0 a1 a2 a3 w P0_0_ hF hc ha hl).mono ?_
  rintro e w' ⟨A', c', he, hc', hF', hB⟩
  exact ⟨_, he, ⟨A', c', rfl, hc', hF'⟩, hB⟩
end Go.Proofs.Ytdblpflepfcnjaa.Q
end
section
/- nic's descriptors: own, done. -/
namespace Go.Proofs.Ytdblpflepfcnjaa.Q
open Go.RowKit Go.Proofs.YtdblpflepfcnjaaW.PrintWords Go.Proofs.YtdblpflepfcnjaaW.PrintLast Go.Proofs.YtdblpflepfcnjaaW.PrintMore Go.Proofs.Ytdblpflepfcnjaa.L
attribute [local go_sem] Instr.field part asAgg lt_step max2_int min2_int max_two min_two max_three min_three max_four min_four lt_0_1 lt_0_2 lt_1_2 lt_0_3 lt_1_3 lt_2_3 lt_0_4 lt_1_4 lt_2_4 lt_3_4 lt_0_5 lt_1_5 lt_2_5 lt_3_5 lt_4_5 lt_0_6 lt_1_6 lt_2_6 lt_3_6 lt_4_6 lt_5_6 lt_0_7 lt_1_7 lt_2_7 lt_3_7 lt_4_7 lt_5_7 lt_6_7 lt_0_8 lt_1_8 lt_2_8 lt_3_8 lt_4_8 lt_5_8 lt_6_8 lt_7_8
set_option linter.unusedVariables false
set_option linter.unusedSimpArgs false
set_option maxHeartbeats 1600000 in
set_option maxRecDepth 100000 in
theorem own_is (a b s f g : Int) (w : World) : Calls Try.prog 34 #[.agg #[.int .u64 a, .int .u64 b, .int .i64 s, .int .u8 f, .int .u8 g]] w fun e w' => e = .returned (.bool (Go.bits .and .u8 f 1 == 1)) ∧ Below w.heap.size w w' := by
  have HB := Aside0.mk (Below.refl w.heap.size w)
  have hu := Try.underlying58
  have hv := Try.underlying56
  go_enter Try.func34, Try.ntmps34
  go_wp2
  go_ret
  exact ⟨rfl, (bG HB)⟩
theorem Fill_n (n : Nat) (A : Option Addr) (c : Nat) (l : List Int) (at_ : Int) (A2 : Option Addr) (c2 : Nat) (b : List Int) (w : World) (ok ok2 : Nat → Prop) (hn : b.length = n) (hrF : Kd.F (Kd.int .u8) w ok A l.length l) (hc : l.length ≤ c) (hrF2 : Kd.F (Kd.int .u8) w ok2 A2 n b) (hc2 : n ≤ c2) (hat : u64B at_) (hl : l.length < 140737488355328) (hb : n ≤ 9223372036854775807) :
    Calls Try.prog 49 #[.agg #[.slice A l.length c], .int .u64 at_, .slice A2 n c2] w fun e w' => ∃ A' c', e = .returned (.tuple #[.agg #[.slice A' (fillL l at_ b).length c'], .bool (placeZ l.length at_ n).2]) ∧ (fillL l at_ b).length ≤ c' ∧ Kd.F (Kd.int .u8) w' (fun j => ok j ∨ w.heap.size ≤ j) A' (fillL l at_ b).length (fillL l at_ b) ∧ Below w.heap.size w w' := by
  subst hn
  exact ram_Fill.runs A c l at_ A2 c2 b w ok ok2 hrF hc hrF2 hc2 hat hl hb
set_option maxHeartbeats 1600000 in
set_option maxRecDepth 100000 in
theorem done_is (a b s f g st : Int) (A : Option Addr) (cap : Nat) (l : List Int) (w : World) (ok : Nat → Prop) (hr : Kd.F (Kd.int .u8) w ok A l.length l) (hc : l.length ≤ cap) (ha : u64B a) (hl : l.length < 140737488355328) : Calls Try.prog 36 #[.agg #[.int .u64 a, .int .u64 b, .int .i64 s, .int .u8 f, .int .u8 g], .agg #[.slice A l.length cap], .int .u8 st] w fun e w' => ∃ A' c', e = .returned (.agg #[.slice A' (fillL l (IntKind.u64.wrap (a + 10)) [Go.bits .andNot .u8 f 1, g, st, 0]).length c']) ∧ (fillL l (IntKind.u64.wrap (a + 10)) [Go.bits .andNot .u8 f 1, g, st, 0]).length ≤ c' ∧ Kd.F (Kd.int .u8) w' (fun j => ok j ∨ w.heap.size ≤ j) A' (fillL l (IntKind.u64.wrap (a + 10)) [Go.bits .andNot .u8 f 1, g, st, 0]).length (fillL l (IntKind.u64.wrap (a + 10)) [Go.bits .andNot .u8 f 1, g, st, 0]) ∧ Below w.heap.size w w' := by
  have HB := Aside0.mk (Below.refl w.heap.size w)
  have hu := Try.underlying58
  have hv := Try.underlying56
  have hw := Try.underlying27
  go_enter Try.func36, Try.ntmps36
  have hmk : ∀ W : World, (Instr.makeSlice 23 (.int .i64 4) (.int .i64 4)).run Try.prog W = .ok (.slice (some ⟨W.heap.size, 0, none⟩) 4 4) (W.alloc (.cells #[.int .u8 0, .int .u8 0, .int .u8 0, .int .u8 0] 5 (0, 0))) := fun _ => by kernel_rfl
  go_upto_region 2 with fail
  obtain ⟨wa, hwa, oa0, ob0, oz0, oq0, hb_, hz0⟩ := letter4 w (.cells #[.int .u64 a, .int .u64 b, .int .i64 s, .int .u8 f, .int .u8 g] 58 (0, 0)) (.cells #[.slice A l.length cap] 27 (0, 0)) (.cells #[.slice none 0 0] 27 (0, 0)) (.cells #[.int .u8 0, .int .u8 0, .int .u8 0, .int .u8 0] 5 (0, 0))
  rw [hwa]
  clear hwa
  obtain ⟨oac0, oaf0, oal0⟩ := cells_of oa0
  have hcp := run_copy_row (P := Try.prog) wa 23 23 3 5 (w.heap.size + 1 + 1 + 1) 0 4 4 ⟨w.heap.size, 3, none⟩ 2 2 #[.int .u8 0, .int .u8 0, .int .u8 0, .int .u8 0] 5 [.int .u8 f, .int .u8 g] Try.underlying23 infoS oq0 rfl
    (by intro j v hv
        match j, hv with
        | 0, hv => rw [add_eq]; exact (oac0 3).trans hv
        | 1, hv => rw [add_eq]; exact (oac0 4).trans hv
        | n + 2, hv => cases hv)
    (by simp) (by intro v hv; rcases List.mem_cons.1 hv with rfl | hv; rfl; rcases List.mem_cons.1 hv with rfl | hv; rfl; cases hv)
  obtain ⟨wb, hwb⟩ : ∃ wb, wb = wa.setRow (w.heap.size + 1 + 1 + 1) #[.int .u8 f, .int .u8 g, .int .u8 0, .int .u8 0] := ⟨_, rfl⟩
  replace hcp : (Builtin.copy_ #[23, 23] 3 #[.slice (some ⟨w.heap.size + 1 + 1 + 1, 0, none⟩) 4 4, .slice (some ⟨w.heap.size, 3, none⟩) 2 2]).run Try.prog wa = .ok (goInt 2) wb := by rw [hwb]; exact hcp
  have oq := Aside0.mk (show wb.heap[w.heap.size + 1 + 1 + 1]? = some (.cells #[.int .u8 f, .int .u8 g, .int .u8 0, .int .u8 0] 5 (0, 0)) from by rw [hwb]; exact setRow_heap wa _ _ _ _ _ oq0)
  have oa := Aside0.mk (show wb.heap[w.heap.size]? = some (.cells #[.int .u64 a, .int .u64 b, .int .i64 s, .int .u8 f, .int .u8 g] 58 (0, 0)) from by rw [hwb, setRow_other wa _ _ _ (by omega)]; exact oa0)
  have ob := Aside0.mk (show wb.heap[w.heap.size + 1]? = some (.cells #[.slice A l.length cap] 27 (0, 0)) from by rw [hwb, setRow_other wa _ _ _ (by omega)]; exact ob0)
  have oz := Aside0.mk (show wb.heap[w.heap.size + 1 + 1]? = some (.cells #[.slice none 0 0] 27 (0, 0)) from by rw [hwb, setRow_other wa _ _ _ (by omega)]; exact oz0)
  have HB_ : Aside0 (Below w.heap.size w wb) := ⟨by rw [hwb]; exact below_setRow hb_ (by omega) _⟩
  clear oac0 oaf0 oal0 hwb oa0 ob0 oz0 oq0 hb_
  clear HB; have HB := HB_; clear HB_
  obtain ⟨oac, oaf, oal⟩ := cells_of oa.out
  obtain ⟨obc, obf, obl⟩ := cells_of ob.out
  obtain ⟨ozc, ozf, ozl⟩ := cells_of oz.out
  obtain ⟨oqc, oqf, oql⟩ := cells_of oq.out
  have HR := Aside0.mk (Kd.F_below (Kd.F_bound hr) HB.out)
  have HC := Aside0.mk hc
  have HT := Aside0.mk ha
  have HL := Aside0.mk hl
  clear hr hc ha hl hmk hz0
  have hzb : w.heap.size + 1 + 1 + 1 < wb.heap.size := oql
  go_wp2_with fail
  (have HR_ := Aside0.mk (Kd.F_far (p := ⟨w.heap.size + 1 + 1 + 1, 0, none⟩) HR.out (fun j_ hj_ => by (try dsimp only at hj_); (try dsimp only); (try simp only [sz_alloc, sz_drew, sz_drewN, sz_set] at hj_); omega) (.int .u8 (Go.bits .andNot .u8 f 1))); clear HR; have HR := HR_; clear HR_; have oa_ := Aside0.mk (blk_far (p := ⟨w.heap.size + 1 + 1 + 1, 0, none⟩) oa.out (by show _ ≠ _; dsimp only; omega) (.int .u8 (Go.bits .andNot .u8 f 1))); clear oa oac oaf oal; have oa := oa_; clear oa_; obtain ⟨oac, oaf, oal⟩ := cells_of oa.out; have ob_ := Aside0.mk (blk_far (p := ⟨w.heap.size + 1 + 1 + 1, 0, none⟩) ob.out (by show _ ≠ _; dsimp only; omega) (.int .u8 (Go.bits .andNot .u8 f 1))); clear ob obc obf obl; have ob := ob_; clear ob_; obtain ⟨obc, obf, obl⟩ := cells_of ob.out; have oz_ := Aside0.mk (blk_far (p := ⟨w.heap.size + 1 + 1 + 1, 0, none⟩) oz.out (by show _ ≠ _; dsimp only; omega) (.int .u8 (Go.bits .andNot .u8 f 1))); clear oz ozc ozf ozl; have oz := oz_; clear oz_; obtain ⟨ozc, ozf, ozl⟩ := cells_of oz.out; have oq_ := Aside0.mk (blk_put oq.out 0 (.int .u8 (Go.bits .andNot .u8 f 1)) (cs' := #[.int .u8 (Go.bits .andNot .u8 f 1), .int .u8 g, .int .u8 0, .int .u8 0]) rfl); clear oq oqc oqf oql; have oq := oq_; clear oq_; obtain ⟨oqc, oqf, oql⟩ := cells_of oq.out)
  (have HR_ := Aside0.mk (Kd.F_far (p := ⟨w.heap.size + 1 + 1 + 1, 2, none⟩) HR.out (fun j_ hj_ => by (try dsimp only at hj_); (try dsimp only); (try simp only [sz_alloc, sz_drew, sz_drewN, sz_set] at hj_); omega) (.int .u8 st)); clear HR; have HR := HR_; clear HR_; have oa_ := Aside0.mk (blk_far (p := ⟨w.heap.size + 1 + 1 + 1, 2, none⟩) oa.out (by show _ ≠ _; dsimp only; omega) (.int .u8 st)); clear oa oac oaf oal; have oa := oa_; clear oa_; obtain ⟨oac, oaf, oal⟩ := cells_of oa.out; have ob_ := Aside0.mk (blk_far (p := ⟨w.heap.size + 1 + 1 + 1, 2, none⟩) ob.out (by show _ ≠ _; dsimp only; omega) (.int .u8 st)); clear ob obc obf obl; have ob := ob_; clear ob_; obtain ⟨obc, obf, obl⟩ := cells_of ob.out; have oz_ := Aside0.mk (blk_far (p := ⟨w.heap.size + 1 + 1 + 1, 2, none⟩) oz.out (by show _ ≠ _; dsimp only; omega) (.int .u8 st)); clear oz ozc ozf ozl; have oz := oz_; clear oz_; obtain ⟨ozc, ozf, ozl⟩ := cells_of oz.out; have oq_ := Aside0.mk (blk_put oq.out 2 (.int .u8 st) (cs' := #[.int .u8 (Go.bits .andNot .u8 f 1), .int .u8 g, .int .u8 st, .int .u8 0]) rfl); clear oq oqc oqf oql; have oq := oq_; clear oq_; obtain ⟨oqc, oqf, oql⟩ := cells_of oq.out)
  (go_at_call 49; (with_reducible refine (Fill_n 4 A cap l (IntKind.u64.wrap (a + 10)) (some ⟨w.heap.size + 1 + 1 + 1, 0, none⟩) 4 [Go.bits .andNot .u8 f 1, g, st, 0] _ _ (fun _ => True) rfl HR.out HC.out (F_of_C (C_blk oq.out rfl (by simp) rfl) (fun _ _ _ => trivial)) (by simp) (by unfold u64B; rw [IntKind.wrap_u64]; omega) HL.out (by simp)).mono ?_); rintro e_ w5 ⟨A_s, c_s, rfl, hc_s, hr_s, hb_⟩; have HB_ : Aside0 (Below w.heap.size w w5) := Aside0.mk (below_step (bG HB) hb_); have hzw5 := hb_.size; (try simp at hzw5); have oa_ := Aside0.mk (box_below hb_ (eG oa)); have ob_ := Aside0.mk (box_below hb_ (eG ob)); have oz_ := Aside0.mk (box_below hb_ (eG oz)); (try clear oa oac oaf oal); have oa := oa_; clear oa_; obtain ⟨oac, oaf, oal⟩ := cells_of oa.out; (try clear ob obc obf obl); have ob := ob_; clear ob_; obtain ⟨obc, obf, obl⟩ := cells_of ob.out; (try clear oz ozc ozf ozl); have oz := oz_; clear oz_; obtain ⟨ozc, ozf, ozl⟩ := cells_of oz.out; clear HB hb_; have HB := HB_; clear HB_; have sc := Aside0.mk hc_s; have s := Aside0.mk (Kd.F_bound hr_s); clear hc_s hr_s; skip)
  go_wp2
  refine bodyPost_ret (v := .agg #[.slice A_s (fillL l (IntKind.u64.wrap (a + 10)) [Go.bits .andNot .u8 f 1, g, st, 0]).length c_s]) (by simp [results, Try.results36, go_sem, ozc, ozf] <;> first | assumption | omega | (symm; assumption)) rfl ?_
  exact ⟨A_s, c_s, rfl, sc.out, (by refine F_res (ok := ?_) ?_ ?_; rotate_left; (repeat (with_reducible first | exact s.out | apply Kd.F_drew | apply Kd.F_drewN | apply Kd.F_alloc | refine Kd.F_far ?_ ?_ _)); all_goals (intro j_ hj_; (try dsimp only at hj_); (try dsimp only); (try simp only [sz_alloc, sz_drew, sz_drewN, sz_set] at hj_); first | omega | exact .inl hj_.1 | exact .inl hj_ | exact .inr (by omega) | (rcases hj_ with hj_ | hj_; exact .inl hj_.1; exact .inr (by omega)) | (rcases hj_ with hj_ | hj_; exact .inl hj_; exact .inr (by omega)) | (rcases hj_.1 with hk_ | hk_; (first | exact .inl hk_.1 | exact .inl hk_); exact .inr (by omega)))), (bG HB)⟩
end Go.Proofs.Ytdblpflepfcnjaa.Q
end
section
/- What is told of memory: cuts, numbers (layer 7). -/
set_option linter.unusedVariables false
namespace Go.Proofs.Ytdblpflepfcnjaa.Q
open Go.RowKit Go.Proofs.YtdblpflepfcnjaaW.PrintWords Go.Proofs.YtdblpflepfcnjaaW.PrintLast Go.Proofs.YtdblpflepfcnjaaW.PrintMore Go.Proofs.Ytdblpflepfcnjaa.L
def i64B (x : Int) : Prop := -9223372036854775808 ≤ x ∧ x ≤ 9223372036854775807
def cutL (l : List Int) (a k : Int) : List Int := (l.take (a - 2147483648 + k).toNat).drop (a - 2147483648).toNat
def bytesZ (l : List Int) (a k : Int) : List Int × Bool := if (placeZ l.length a k).2 = true then (cutL l a k, true) else ([], false)
theorem placeZ_cases (n a k : Int) : (2147483648 ≤ a ∧ 0 ≤ k ∧ a - 2147483648 + k ≤ n ∧ placeZ n a k = (a - 2147483648, true)) ∨ (¬ (2147483648 ≤ a ∧ 0 ≤ k ∧ a - 2147483648 + k ≤ n) ∧ placeZ n a k = (0, false)) := by
  unfold placeZ
  by_cases h : 2147483648 ≤ a ∧ 0 ≤ k ∧ a - 2147483648 + k ≤ n
  · exact .inl ⟨h.1, h.2.1, h.2.2, if_pos h⟩
  · exact .inr ⟨h, if_neg h⟩
theorem byte_wf {z : Int} (h : (Lit.int .u8 z).wf = true) : byte z := by
  simp only [Lit.wf, Bool.and_eq_true, decide_eq_true_eq] at h
  have h1 : IntKind.u8.min = 0 := rfl
  have h2 : IntKind.u8.max = 255 := rfl
  exact ⟨by omega, by omega⟩
theorem u64_wf {z : Int} (h : (Lit.int .u64 z).wf = true) : u64B z := by
  simp only [Lit.wf, Bool.and_eq_true, decide_eq_true_eq] at h
  have h1 : IntKind.u64.min = 0 := rfl
  have h2 : IntKind.u64.max = 18446744073709551615 := rfl
  exact ⟨by omega, by omega⟩
end Go.Proofs.Ytdblpflepfcnjaa.Q
end
section
/- Bytes (layer 7). -/
set_option linter.unusedVariables false
namespace Go.Proofs.Ytdblpflepfcnjaa.Q
open Go.RowKit Go.Proofs.YtdblpflepfcnjaaW.PrintWords Go.Proofs.YtdblpflepfcnjaaW.PrintLast Go.Proofs.YtdblpflepfcnjaaW.PrintMore Go.Proofs.Ytdblpflepfcnjaa.L
section
variable (l : List Int) (a k : Int) (ha : u64B a) (hk : i64B k) (hl : (l.length : Int) ≤ 70000)
include ha hk hl
theorem bytes_is (m : Nat) : ram_Bytes.f (m + 3) l a k = some (bytesZ l a k) := by
  unfold ram_Bytes.f bytesZ
  rw [place_is l a k ha hk (by omega) m, Option.bind_some]
  obtain ⟨k0, k1⟩ := hk
  rcases placeZ_cases l.length a k with ⟨h1, h2, h3, e⟩ | ⟨_, e⟩
  · rw [e]
    have e1 : wrap64 (a - 2147483648 + k) = a - 2147483648 + k := w64 (by omega) (by omega)
    simp only [if_true, e1]
    rw [if_pos (by omega), if_pos (by omega), if_pos (by omega)]
    unfold slices_Clone_byte_byte.f
    rw [if_pos (by rw [List.length_drop, List.length_take]; omega)]
    rfl
  · rw [e]; rfl
end
end Go.Proofs.Ytdblpflepfcnjaa.Q
end
section
/- The contract of bits.Get. -/
namespace Go.Proofs.Ytdblpflepfcnjaa.Q
open Go.RowKit Go.Proofs.YtdblpflepfcnjaaW.PrintWords Go.Proofs.YtdblpflepfcnjaaW.PrintLast Go.Proofs.YtdblpflepfcnjaaW.PrintMore Go.Proofs.Ytdblpflepfcnjaa.L
attribute [local go_sem] max2_int min2_int max_two min_two max_three min_three max_four min_four
set_option linter.unusedVariables false
set_option linter.unusedSimpArgs false

def bits_Get.f (l0 : List Int) (a1 : Bool) : Option Int := if ∀ x ∈ l0.take 8, byte x then some (getB l0 a1) else none
set_option maxHeartbeats 8000000 in
set_option maxRecDepth 100000 in
theorem bits_Get.calls (A0 : Option Addr) (c0 : Nat) (l0 : List Int) (a1 : Bool) (r : Int) (w : World) (hr0 : Kd.C (Kd.int .u8) w A0 l0.length l0) (hc0 : l0.length ≤ c0) (h : bits_Get.f l0 a1 = some r) :
    Calls Try.prog 54 #[.slice A0 l0.length c0, .bool a1] w fun e w' => e = .returned (.int .u64 r) ∧ Below w.heap.size w w' := by
  have HR0 := Aside0.mk hr0
  have HC0 := Aside0.mk hc0
  have HB := Aside0.mk (Below.refl w.heap.size w)
  have hm : l0.length ≤ 9223372036854775807 := hr0.2.1
  clear hr0 hc0
  unfold bits_Get.f at h
  by_cases hby : ∀ x ∈ l0.take 8, byte x
  · rw [if_pos hby] at h
    obtain rfl := Option.some.inj h
    clear h
    have HBY := Aside0.mk hby
    clear hby
    have H8 : (l0.length : Int) ≤ 8 ∨ 8 < (l0.length : Int) := by omega
    obtain ⟨N, hN⟩ : ∃ N : Nat, N = (l0.take 8).length := ⟨_, rfl⟩
    have hN8 : N ≤ 8 := by rw [hN]; simp; omega
    have hNl : N ≤ l0.length := by rw [hN]; simp; omega
    have hE : l0.length ≤ N ∨ 8 ≤ N := by rw [hN]; simp; omega
    have HN := Aside0.mk hN
    clear hN
    cases a1
    · have hbs : ∀ k, k < N → (l0.take 8)[k]? = some (rd l0 (k : Int)) := fun k hk => by
        rw [HN.out] at hk; unfold rd; rw [Int.toNat_natCast]; exact take8_at l0 k hk
      have HBS := Aside0.mk hbs
      clear hbs
      rcases H8 with H8 | H8
      all_goals
        go_enter Try.func54, Try.ntmps54
        go_wp2
        go_loop [5, 13] (fun v5 v13 => ∃ k : Nat, k ≤ N ∧ v13 = .int .i64 k ∧ v5 = .int .u64 (getLE ((l0.take 8).take k))) (fun _ v13 => N - (intOf v13).toNat)
        case atStart => exact ⟨0, Nat.zero_le _, rfl, rfl⟩
        case round =>
          obtain ⟨k, hk, rfl, rfl⟩ := hrel
          by_cases hlt : k < N
          · obtain ⟨ad, rfl, hc⟩ := Kd.at_int HR0.out (k : Int) (by omega) (by omega)
            rw [Int.toNat_natCast] at hc
            go_wp2
            all_goals
              go_round
              case rel => exact ⟨k + 1, by omega, by go_num, congrArg _ (get_step _ k _ (by have := HN.out; omega) (by have := HN.out; omega) HBY.out (HBS.out k hlt))⟩
              case measure => simp [intOf]; omega
          · go_wp2
            go_ret
            exact ⟨congrArg (fun z => Ending.returned (.int .u64 z)) (by rw [List.take_of_length_le (by have := HN.out; omega)]; rfl), HB.out⟩
    · have hbs : ∀ k, k < N → (l0.take 8).reverse[k]? = some (rd l0 ((N - 1 - k : Nat) : Int)) := fun k hk => by
        unfold rd; rw [Int.toNat_natCast]; exact rev8_at l0 k _ (by rw [← HN.out]; exact hk) (by rw [← HN.out]; omega)
      have HBS := Aside0.mk hbs
      clear hbs
      have HBR := Aside0.mk (fun x (hx : x ∈ (l0.take 8).reverse) => HBY.out x (List.mem_reverse.1 hx))
      have HNR : Aside0 (N = (l0.take 8).reverse.length) := ⟨by rw [List.length_reverse]; exact HN.out⟩
      rcases H8 with H8 | H8
      all_goals
        go_enter Try.func54, Try.ntmps54
        go_wp2
        go_loop [5, 13] (fun v5 v13 => ∃ k : Nat, k ≤ N ∧ v13 = .int .i64 k ∧ v5 = .int .u64 (getLE ((l0.take 8).reverse.take k))) (fun _ v13 => N - (intOf v13).toNat)
        case atStart => exact ⟨0, Nat.zero_le _, rfl, rfl⟩
        case round =>
          obtain ⟨k, hk, rfl, rfl⟩ := hrel
          by_cases hlt : k < N
          · obtain ⟨ad, rfl, hc⟩ := Kd.at_int HR0.out ((N - 1 - k : Nat) : Int) (by omega) (by omega)
            rw [Int.toNat_natCast] at hc
            have hc1 : l0.length ≤ 8 → w.cell? (ad.add (l0.length - 1 - k)) = some (.int .u8 (rd l0 ((N - 1 - k : Nat) : Int))) := fun h => by rw [show l0.length - 1 - k = N - 1 - k by omega]; exact hc
            have hc2 : 8 < l0.length → w.cell? (ad.add (8 - 1 - k)) = some (.int .u8 (rd l0 ((N - 1 - k : Nat) : Int))) := fun h => by rw [show 8 - 1 - k = N - 1 - k by omega]; exact hc
            first | (replace hc1 := hc1 (by omega)) | (replace hc2 := hc2 (by omega))
            go_wp2
            all_goals
              go_round
              case rel => exact ⟨k + 1, by omega, by go_num, congrArg _ (get_step _ k _ (by have := HNR.out; omega) (by have := HNR.out; omega) HBR.out (HBS.out k hlt))⟩
              case measure => simp [intOf]; omega
          · go_wp2
            go_ret
            exact ⟨congrArg (fun z => Ending.returned (.int .u64 z)) (by rw [List.take_of_length_le (by have := HNR.out; omega)]; rfl), HB.out⟩
  · rw [if_neg hby] at h
    exact absurd h (by simp)

end Go.Proofs.Ytdblpflepfcnjaa.Q
end
section
/- nic.fetch. -/
namespace Go.Proofs.Ytdblpflepfcnjaa.Q
open Go.RowKit Go.Proofs.YtdblpflepfcnjaaW.PrintWords Go.Proofs.YtdblpflepfcnjaaW.PrintLast Go.Proofs.YtdblpflepfcnjaaW.PrintMore Go.Proofs.Ytdblpflepfcnjaa.L
attribute [local go_sem] Instr.field part asAgg lt_step max2_int min2_int max_two min_two max_three min_three max_four min_four lt_0_1 lt_0_2 lt_1_2 lt_0_3 lt_1_3 lt_2_3 lt_0_4 lt_1_4 lt_2_4 lt_3_4 lt_0_5 lt_1_5 lt_2_5 lt_3_5 lt_4_5 lt_0_6 lt_1_6 lt_2_6 lt_3_6 lt_4_6 lt_5_6 lt_0_7 lt_1_7 lt_2_7 lt_3_7 lt_4_7 lt_5_7 lt_6_7 lt_0_8 lt_1_8 lt_2_8 lt_3_8 lt_4_8 lt_5_8 lt_6_8 lt_7_8
set_option linter.unusedVariables false
set_option linter.unusedSimpArgs false
def bufD (d : List Int) : Int := getB (d.take 8) false
def sizeD (d : List Int) : Int := getB ((d.drop 8).take 2) false
def flagD (d : List Int) : Int := d.getD 10 0
def restD (d : List Int) : Int := d.getD 11 0
theorem cut_len (l : List Int) (a k : Int) (hp : (placeZ l.length a k).2 = true) : (cutL l a k).length = k.toNat := by
  rcases placeZ_cases l.length a k with ⟨h1, h2, h3, e⟩ | ⟨_, e⟩
  · unfold cutL
    rw [List.length_drop, List.length_take]
    omega
  · rw [e] at hp; cases hp
theorem bytes_c (A : Option Addr) (cap : Nat) (l : List Int) (a k : Int) (n : Nat) (w : World) (hn : n = k.toNat) (hn0 : 0 < n) (hr : Kd.C (Kd.int .u8) w A l.length l) (hc : l.length ≤ cap) (ha : u64B a) (hk : i64B k) (hl : (l.length : Int) ≤ 70000) (hp : (placeZ l.length a k).2 = true) :
    Calls Try.prog 35 #[.agg #[.slice A l.length cap], .int .u64 a, .int .i64 k] w fun e w' => ∃ b o c, e = .returned (.tuple #[.slice (some ⟨b, o, none⟩) n c, .bool true]) ∧ n ≤ c ∧ Kd.F (Kd.int .u8) w' (fun j => w.heap.size ≤ j) (some ⟨b, o, none⟩) n (cutL l a k) ∧ w.heap.size ≤ b ∧ Below w.heap.size w w' := by
  have hb := bytes_is l a k ha hk hl 1
  have hlen := cut_len l a k hp
  rw [← hn] at hlen
  unfold bytesZ at hb
  rw [if_pos hp] at hb
  refine (ram_Bytes.calls 4 A cap l a k (cutL l a k) true w hr hc hb).mono ?_
  rintro e w' ⟨v, he, hR, hB⟩
  obtain ⟨A2, c2, ev, hc2, hF⟩ := R_Fl hR
  rw [hlen] at ev hc2 hF
  obtain ⟨b, o, eA, hcell⟩ := F_cell' hF hn0
  have hbk := R_block (A := A2) (n := n) (c := c2) (by rw [← ev]; exact hR) ⟨b, o, none⟩ eA hn0
  subst eA
  exact ⟨b, o, c2, by rw [he, ev], hc2, hF, hbk, hB⟩
theorem get_c (n : Nat) (A : Option Addr) (c : Nat) (l : List Int) (w : World) (hn : l.length = n) (hr : Kd.C (Kd.int .u8) w A n l) (hc : n ≤ c) (hb : ∀ x ∈ l, byte x) :
    Calls Try.prog 54 #[.slice A n c, .bool false] w fun e w' => e = .returned (.int .u64 (getB l false)) ∧ Below w.heap.size w w' := by
  subst hn
  exact bits_Get.calls A c l false _ w hr hc (by unfold bits_Get.f; exact if_pos (fun x hx => hb x (List.mem_of_mem_take hx)))
theorem getB_small (l : List Int) (hb : ∀ x ∈ l, byte x) (n : Nat) (hn : l.length = n) (h8 : n ≤ 8) : 0 ≤ getB l false ∧ getB l false < 256 ^ n := by
  unfold getB
  simp only [Bool.false_eq_true, if_false]
  rw [List.take_of_length_le (by omega)]
  have := getLE_range l hb
  rw [hn] at this
  exact this
theorem cut_byte (l : List Int) (a k : Int) (hb : ∀ z ∈ l, byte z) : ∀ z ∈ cutL l a k, byte z := fun z hz => hb z (List.mem_of_mem_take (List.mem_of_mem_drop hz))
theorem get_buf (A : Option Addr) (c : Nat) (d : List Int) (w : World) (hn : d.length = Int.toNat 16) (hb : ∀ x ∈ d, byte x) (hr : Kd.C (Kd.int .u8) w A 8 (d.take 8)) (hc : 8 ≤ c) :
    Calls Try.prog 54 #[.slice A 8 c, .bool false] w fun e w' => e = .returned (.int .u64 (bufD d)) ∧ Below w.heap.size w w' :=
  get_c 8 A c (d.take 8) w (by simp [hn]) hr hc (fun z hz => hb z (List.mem_of_mem_take hz))
theorem get_size (A : Option Addr) (c : Nat) (d : List Int) (w : World) (hn : d.length = Int.toNat 16) (hb : ∀ x ∈ d, byte x) (hr : Kd.C (Kd.int .u8) w A 2 ((d.drop 8).take 2)) (hc : 2 ≤ c) :
    Calls Try.prog 54 #[.slice A 2 c, .bool false] w fun e w' => e = .returned (.int .u64 (sizeD d)) ∧ Below w.heap.size w w' :=
  get_c 2 A c ((d.drop 8).take 2) w (by simp [hn]) hr hc (fun z hz => hb z (List.mem_of_mem_drop (List.mem_of_mem_take hz)))
theorem C_sub {k : IntKind} {W : World} {b o n : Nat} {xs : List Int} (h : Kd.C (Kd.int k) W (some ⟨b, o, none⟩) n xs) (i m : Nat) (him : i + m ≤ n) : Kd.C (Kd.int k) W (some ⟨b, o + i, none⟩) m ((xs.drop i).take m) := by
  obtain ⟨h1, h2, h3⟩ := Kd.reads_of_C (d := (0 : Int)) h
  have hl : xs.length = n := h.1
  refine Kd.C_of_reads (d := (0 : Int)) ⟨by rw [List.length_take, List.length_drop]; omega, by omega, fun hm => ⟨⟨b, o + i, none⟩, rfl, fun j hj => ?_⟩⟩
  obtain ⟨ad, e, hc⟩ := h3 (by omega)
  injection e with e; subst e
  have := hc (i + j) (by omega)
  rw [add_eq] at this ⊢
  rw [Nat.add_assoc, this, List.getD_eq_getElem?_getD, List.getD_eq_getElem?_getD, List.getElem?_take_of_lt hj, List.getElem?_drop]
theorem F_sub {k : IntKind} {W : World} {ok : Nat → Prop} {b o n : Nat} {xs : List Int} (h : Kd.F (Kd.int k) W ok (some ⟨b, o, none⟩) n xs) (i m : Nat) (him : i + m ≤ n) : Kd.F (Kd.int k) W ok (some ⟨b, o + i, none⟩) m ((xs.drop i).take m) :=
  fun W' hW => C_sub (h W' hW) i m him
theorem F_cells16 {W : World} {b o : Nat} {d : List Int} (h : Kd.C (Kd.int .u8) W (some ⟨b, o, none⟩) 16 d) : ∀ i, i < 16 → W.cell? ⟨b, o + i, none⟩ = some (.int .u8 (d.getD i 0)) := by
  intro i hi
  obtain ⟨_, _, h3⟩ := Kd.reads_of_C (d := (0 : Int)) h
  obtain ⟨ad, e, hc⟩ := h3 (by decide)
  injection e with e; subst e
  have := hc i hi
  rw [add_eq] at this
  exact this
theorem copy_flags (W : World) (g : Nat) (a b s : Int) (qb qo qc : Nat) (d : List Int) (hn : d.length = Int.toNat 16) (hg : W.heap[g]? = some (.cells #[.int .u64 a, .int .u64 b, .int .i64 s, .int .u8 0, .int .u8 0] 58 (0, 0))) (hd : ∀ i, i < 16 → W.cell? ⟨qb, qo + i, none⟩ = some (.int .u8 (d.getD i 0))) :
    (Builtin.copy_ #[23, 23] 3 #[.slice (some ⟨g, 3, none⟩) 2 2, .slice (some ⟨qb, qo + 10, none⟩) 2 qc]).run Try.prog W = .ok (goInt 2) (W.setRow g #[.int .u64 a, .int .u64 b, .int .i64 s, .int .u8 (flagD d), .int .u8 (restD d)]) :=
  run_copy_row (P := Try.prog) W 23 23 3 5 g 3 2 2 ⟨qb, qo + 10, none⟩ 2 qc #[.int .u64 a, .int .u64 b, .int .i64 s, .int .u8 0, .int .u8 0] 58 [.int .u8 (flagD d), .int .u8 (restD d)] Try.underlying23 infoS hg rfl
    (by intro j v hv
        match j, hv with
        | 0, hv => rw [add_eq]; exact (hd 10 (by decide)).trans hv
        | 1, hv => rw [add_eq]; exact (hd 11 (by decide)).trans hv
        | n + 2, hv => cases hv)
    (by simp) (by intro v hv; rcases List.mem_cons.1 hv with rfl | hv; rfl; rcases List.mem_cons.1 hv with rfl | hv; rfl; cases hv)
set_option maxHeartbeats 1600000 in
set_option maxRecDepth 100000 in
theorem fetch_yes (A : Option Addr) (cap : Nat) (l : List Int) (base head at_ : Int) (w : World) (hat : IntKind.u64.wrap (base + IntKind.u64.wrap (16 * IntKind.u64.wrap head)) = at_) (hr : Kd.C (Kd.int .u8) w A l.length l) (hc : l.length ≤ cap) (ha : u64B at_) (hl : (l.length : Int) ≤ 70000) (hby : ∀ z ∈ l, byte z) (hp : (placeZ l.length at_ 16).2 = true) :
    Calls Try.prog 32 #[.agg #[.slice A l.length cap], .int .u64 base, .int .i64 head] w fun e w' => e = .returned (.tuple #[.agg #[.int .u64 at_, .int .u64 (bufD (cutL l at_ 16)), .int .i64 (sizeD (cutL l at_ 16)), .int .u8 (flagD (cutL l at_ 16)), .int .u8 (restD (cutL l at_ 16))], .bool true]) ∧ Below w.heap.size w w' := by
  have HB := Aside0.mk (Below.refl w.heap.size w)
  have HR := Aside0.mk hr
  have HC := Aside0.mk hc
  have HA := Aside0.mk ha
  have HL := Aside0.mk hl
  have HP := Aside0.mk hp
  have hu := Try.underlying58
  have hu6 := Try.underlying56
  have hdl := cut_len l at_ 16 hp
  have hdb := cut_byte l at_ 16 hby
  obtain ⟨d, hd⟩ : ∃ d, cutL l at_ 16 = d := ⟨_, rfl⟩
  rw [hd] at hdl hdb ⊢
  have HD := Aside0.mk hd
  have HDL := Aside0.mk hdl
  have HDB := Aside0.mk hdb
  clear hr hc ha hl hp hd hby hdl hdb
  go_enter Try.func32, Try.ntmps32
  go_wp2_with fail
  (go_at_call 35; (with_reducible refine (bytes_c A cap l at_ 16 16 _ rfl (by decide) (by repeat (first | exact HR.out | apply Kd.C_alloc)) HC.out HA.out (by unfold i64B; omega) HL.out HP.out).mono ?_); rintro e_ w1 ⟨qb, qo, qc, rfl, hq1, hq2, hq3_, hb_⟩; have HB_ : Aside0 (Below w.heap.size w w1) := Aside0.mk (below_step (bG HB) hb_); have hzw1 := hb_.size; (try simp at hzw1); have oa_ := Aside0.mk (box_below hb_ (by repeat (with_reducible first | exact nb_1 w _ | apply ext_drew | apply ext_drewN | apply ext_alloc | refine blk_far ?_ (by show _ ≠ _; dsimp only; omega) _))); have ob_ := Aside0.mk (box_below hb_ (by repeat (with_reducible first | exact nb_2 w _ _ | apply ext_drew | apply ext_drewN | apply ext_alloc | refine blk_far ?_ (by show _ ≠ _; dsimp only; omega) _))); have oc_ := Aside0.mk (box_below hb_ (by repeat (with_reducible first | exact nb_3 w _ _ _ | apply ext_drew | apply ext_drewN | apply ext_alloc | refine blk_far ?_ (by show _ ≠ _; dsimp only; omega) _))); (try clear oa oac oaf oal); have oa := oa_; clear oa_; obtain ⟨oac, oaf, oal⟩ := cells_of oa.out; (try clear ob obc obf obl); have ob := ob_; clear ob_; obtain ⟨obc, obf, obl⟩ := cells_of ob.out; (try clear oc occ ocf ocl); have oc := oc_; clear oc_; obtain ⟨occ, ocf, ocl⟩ := cells_of oc.out; clear HB hb_; have HB := HB_; clear HB_; have hq1_ := Aside0.mk hq1; clear hq1; have hq1 := hq1_; clear hq1_; have hq2_ := Aside0.mk hq2; clear hq2; have hq2 := hq2_; clear hq2_; have hq3__ := Aside0.mk hq3_; clear hq3_; have hq3_ := hq3__; clear hq3__; skip)
  rw [HD.out] at hq2
  go_upto_region 5 with fail
  have hz1 := obl
  obtain ⟨i096, hi096, _, hsz96, _⟩ := info_parts infoB
  have hc8 := hq1.out
  have hcut1 := cut_to (P := Try.prog) 23 5 .i64 Try.underlying23 hi096 (some ⟨qb, qo, none⟩) 16 qc 8 (by decide) (by decide) hq1.out
  have hcut2 := cut_mid (P := Try.prog) 23 5 .i64 .i64 Try.underlying23 hi096 1 hsz96 (some ⟨qb, qo, none⟩) 16 qc 8 10 (by decide) (by decide) (by decide) hq1.out
  have hcut3 := cut_mid (P := Try.prog) 23 5 .i64 .i64 Try.underlying23 hi096 1 hsz96 (some ⟨qb, qo, none⟩) 16 qc 10 12 (by decide) (by decide) (by decide) hq1.out
  rw [if_neg (by omega)] at hcut2 hcut3
  simp only [Option.map_some, add_eq] at hcut2 hcut3
  have hq3 := Aside0.mk (F_sub hq2.out 0 8 (by decide))
  rw [Nat.add_zero, List.drop_zero] at hq3
  have hq4 := Aside0.mk (F_sub hq2.out 8 2 (by decide))
  have hsz := getB_small ((d.drop 8).take 2) (fun z hz => HDB.out z (List.mem_of_mem_drop (List.mem_of_mem_take hz))) 2 (by simp [HDL.out]) (by decide)
  have hs0 : 0 ≤ sizeD d := hsz.1
  have hs1 : sizeD d < 65536 := hsz.2
  clear hsz
  have hwz : wrap64 (sizeD d) = sizeD d := w64 (by omega) (by omega)
  have hbg : w.heap.size + 1 + 1 < qb := Nat.lt_of_lt_of_le (by simp) hq3_.out
  go_cut [] (fun wx => Aside0 (wx.heap[w.heap.size + 1]? = some (.cells #[.int .u64 0, .int .u64 0, .int .i64 0, .int .u8 0, .int .u8 0] 58 (0, 0))) ∧ Aside0 (wx.heap[w.heap.size + 1 + 1]? = some (.cells #[.int .u64 at_, .int .u64 (bufD d), .int .i64 (sizeD d), .int .u8 0, .int .u8 0] 58 (0, 0))) ∧ Aside0 (Kd.F (Kd.int .u8) wx (fun j => w.heap.size + 1 + 1 < j) (some ⟨qb, qo, none⟩) 16 d) ∧ Aside0 (Below w.heap.size w wx))
  case first =>
    refine start_ (n := 11) (S := fun w' => True) (ds := []) #[false, false, false, false, false, false, false, false, false, false, false] (by kernel_rfl) rfl rfl trivial (fun hHeld => ?_)
    refine pure_ (i := 0) (N := some 27) (v := ?_) (a' := ?_) #[true, false, false, false, false, false, false, false, false, false, false] rfl rfl (by kernel_rfl) (fun _ _ _ h => h) (Or.inl ⟨by rfl, ?_⟩) ?_ ?_
    rotate_left
    · intro w'
      go_simp
      with_reducible rfl
    rotate_left
    · simp only [Act.put, List.setIfInBounds_toArray, List.set_cons_zero, List.set_cons_succ, i64_w, i32_w]
      rfl
    refine pure_ (i := 1) (N := some 28) (v := ?_) (a' := ?_) #[true, true, false, false, false, false, false, false, false, false, false] rfl rfl (by kernel_rfl) (fun _ _ _ h => h) (Or.inl ⟨by rfl, ?_⟩) ?_ ?_
    rotate_left
    · intro w'
      go_simp
      with_reducible rfl
    rotate_left
    · simp only [Act.put, List.setIfInBounds_toArray, List.set_cons_zero, List.set_cons_succ, i64_w, i32_w]
      rfl
    refine pure_ (i := 3) (N := some 30) (v := ?_) (a' := ?_) #[true, true, false, true, false, false, false, false, false, false, false] rfl rfl (by kernel_rfl) (fun _ _ _ h => h) (Or.inl ⟨by rfl, ?_⟩) ?_ ?_
    rotate_left
    · intro w'
      go_simp
      with_reducible rfl
    rotate_left
    · simp only [Act.put, List.setIfInBounds_toArray, List.set_cons_zero, List.set_cons_succ, i64_w, i32_w]
      rfl
    refine pure_ (i := 4) (N := some 31) (v := ?_) (a' := ?_) #[true, true, false, true, true, false, false, false, false, false, false] rfl rfl (by kernel_rfl) (fun _ _ _ h => h) (Or.inl ⟨by rfl, ?_⟩) ?_ ?_
    rotate_left
    · intro w'
      go_simp
      with_reducible rfl
    rotate_left
    · simp only [Act.put, List.setIfInBounds_toArray, List.set_cons_zero, List.set_cons_succ, i64_w, i32_w]
      rfl
    refine one_ (i := 2) (N := some 29) #[true, true, true, true, true, false, false, false, false, false, false] rfl rfl (by kernel_rfl) (by decide) (fun K hK => ?_)
    (refine goes_ Try.func54 (by kernel_rfl) rfl #[.slice (some ⟨qb, qo, none⟩) 8 qc, .bool false] (by rfl) rfl rfl (by (try simp only [List.map_toArray, List.map_cons, List.map_nil]); first | done | rfl) ?_; (with_reducible refine (get_buf _ _ d _ HDL.out HDB.out (Kd.F_now (fG hq3)) (by omega)).mono ?_); rintro e_ w2 ⟨rfl, hb_⟩; refine ⟨_, rfl, ?_⟩; have HB_ : Aside0 (Below w.heap.size w w2) := Aside0.mk (below_step (bG HB) hb_); have hzw2 := hb_.size; (try simp at hzw2); have oa_ := Aside0.mk (box_below hb_ (eG oa)); have ob_ := Aside0.mk (box_below hb_ (eG ob)); have oc_ := Aside0.mk (box_below hb_ (eG oc)); have hq2_ := Aside0.mk (Kd.F_below (fG hq2) hb_); clear hq2; have hq2 := hq2_; clear hq2_; have hq3_ := Aside0.mk (Kd.F_below (fG hq3) hb_); clear hq3; have hq3 := hq3_; clear hq3_; have hq4_ := Aside0.mk (Kd.F_below (fG hq4) hb_); clear hq4; have hq4 := hq4_; clear hq4_; (try clear oa oac oaf oal); have oa := oa_; clear oa_; obtain ⟨oac, oaf, oal⟩ := cells_of oa.out; (try clear ob obc obf obl); have ob := ob_; clear ob_; obtain ⟨obc, obf, obl⟩ := cells_of ob.out; (try clear oc occ ocf ocl); have oc := oc_; clear oc_; obtain ⟨occ, ocf, ocl⟩ := cells_of oc.out; clear HB hb_; have HB := HB_; clear HB_)
    refine hK.out _ _ trivial (fun hHeld => ?_)
    clear hK K
    refine norm_ (a' := ?_) ?_ ?_
    rotate_left
    · simp only [Act.put, List.setIfInBounds_toArray, List.set_cons_zero, List.set_cons_succ, i64_w, i32_w]
      rfl
    refine one_ (i := 5) (N := some 32) #[true, true, true, true, true, true, false, false, false, false, false] rfl rfl (by kernel_rfl) (by decide) (fun K hK => ?_)
    (refine goes_ Try.func54 (by kernel_rfl) rfl #[.slice (some ⟨qb, qo + 8, none⟩) 2 (qc - 8), .bool false] (by rfl) rfl rfl (by (try simp only [List.map_toArray, List.map_cons, List.map_nil]); first | done | rfl) ?_; (with_reducible refine (get_size _ _ d _ HDL.out HDB.out (Kd.F_now (fG hq4)) (by omega)).mono ?_); rintro e_ w3 ⟨rfl, hb_⟩; refine ⟨_, rfl, ?_⟩; have HB_ : Aside0 (Below w.heap.size w w3) := Aside0.mk (below_step (bG HB) hb_); have hzw3 := hb_.size; (try simp at hzw3); have oa_ := Aside0.mk (box_below hb_ (eG oa)); have ob_ := Aside0.mk (box_below hb_ (eG ob)); have oc_ := Aside0.mk (box_below hb_ (eG oc)); have hq2_ := Aside0.mk (Kd.F_below (fG hq2) hb_); clear hq2; have hq2 := hq2_; clear hq2_; have hq3_ := Aside0.mk (Kd.F_below (fG hq3) hb_); clear hq3; have hq3 := hq3_; clear hq3_; have hq4_ := Aside0.mk (Kd.F_below (fG hq4) hb_); clear hq4; have hq4 := hq4_; clear hq4_; (try clear oa oac oaf oal); have oa := oa_; clear oa_; obtain ⟨oac, oaf, oal⟩ := cells_of oa.out; (try clear ob obc obf obl); have ob := ob_; clear ob_; obtain ⟨obc, obf, obl⟩ := cells_of ob.out; (try clear oc occ ocf ocl); have oc := oc_; clear oc_; obtain ⟨occ, ocf, ocl⟩ := cells_of oc.out; clear HB hb_; have HB := HB_; clear HB_)
    refine hK.out _ _ trivial (fun hHeld => ?_)
    clear hK K
    refine norm_ (a' := ?_) ?_ ?_
    rotate_left
    · simp only [Act.put, List.setIfInBounds_toArray, List.set_cons_zero, List.set_cons_succ, i64_w, i32_w]
      rfl
    refine pure_ (i := 6) (N := some 33) (v := ?_) (a' := ?_) #[true, true, true, true, true, true, true, false, false, false, false] rfl rfl (by kernel_rfl) (fun _ _ _ h => h) (Or.inl ⟨by rfl, ?_⟩) ?_ ?_
    rotate_left
    · intro w'
      go_simp
      with_reducible rfl
    rotate_left
    · simp only [Act.put, List.setIfInBounds_toArray, List.set_cons_zero, List.set_cons_succ, i64_w, i32_w]
      rfl
    refine pure_ (i := 7) (N := some 34) (v := ?_) (a' := ?_) #[true, true, true, true, true, true, true, true, false, false, false] rfl rfl (by kernel_rfl) (fun _ _ _ h => h) (Or.inl ⟨by rfl, ?_⟩) ?_ ?_
    rotate_left
    · intro w'
      go_simp
      with_reducible rfl
    rotate_left
    · simp only [Act.put, List.setIfInBounds_toArray, List.set_cons_zero, List.set_cons_succ, i64_w, i32_w]
      rfl
    refine one_ (i := 8) (N := none) #[true, true, true, true, true, true, true, true, true, false, false] rfl rfl (by kernel_rfl) (by decide) (fun K hK => ?_)
    refine skip_ (w1 := ?_) (by rfl) rfl ?_ ?_
    rotate_left
    · go_simp
      rfl
    (have hq2_ := Aside0.mk (Kd.F_far (p := ⟨w.heap.size + 1 + 1, 1, none⟩) hq2.out (fun j_ hj_ => by (try dsimp only at hj_); (try dsimp only); (try simp only [sz_alloc, sz_drew, sz_drewN, sz_set] at hj_); omega) (.int .u64 (bufD d))); clear hq2; have hq2 := hq2_; clear hq2_; have oa_ := Aside0.mk (blk_far (p := ⟨w.heap.size + 1 + 1, 1, none⟩) oa.out (by show _ ≠ _; dsimp only; omega) (.int .u64 (bufD d))); clear oa oac oaf oal; have oa := oa_; clear oa_; obtain ⟨oac, oaf, oal⟩ := cells_of oa.out; have ob_ := Aside0.mk (blk_far (p := ⟨w.heap.size + 1 + 1, 1, none⟩) ob.out (by show _ ≠ _; dsimp only; omega) (.int .u64 (bufD d))); clear ob obc obf obl; have ob := ob_; clear ob_; obtain ⟨obc, obf, obl⟩ := cells_of ob.out; have oc_ := Aside0.mk (blk_put oc.out 1 (.int .u64 (bufD d)) (cs' := #[.int .u64 at_, .int .u64 (bufD d), .int .i64 0, .int .u8 0, .int .u8 0]) rfl); clear oc occ ocf ocl; have oc := oc_; clear oc_; obtain ⟨occ, ocf, ocl⟩ := cells_of oc.out)
    refine hK.out _ _ trivial (fun hHeld => ?_)
    clear hK K
    refine pure_ (i := 9) (N := some 35) (v := ?_) (a' := ?_) #[true, true, true, true, true, true, true, true, true, true, false] rfl rfl (by kernel_rfl) (fun _ _ _ h => h) (Or.inl ⟨by rfl, ?_⟩) ?_ ?_
    rotate_left
    · intro w'
      go_simp
      with_reducible rfl
    rotate_left
    · simp only [Act.put, List.setIfInBounds_toArray, List.set_cons_zero, List.set_cons_succ, i64_w, i32_w]
      rfl
    refine one_ (i := 10) (N := none) #[true, true, true, true, true, true, true, true, true, true, true] rfl rfl (by kernel_rfl) (by decide) (fun K hK => ?_)
    refine skip_ (w1 := ?_) (by rfl) rfl ?_ ?_
    rotate_left
    · go_simp
      rfl
    (have hq2_ := Aside0.mk (Kd.F_far (p := ⟨w.heap.size + 1 + 1, 2, none⟩) hq2.out (fun j_ hj_ => by (try dsimp only at hj_); (try dsimp only); (try simp only [sz_alloc, sz_drew, sz_drewN, sz_set] at hj_); omega) (.int .i64 (sizeD d))); clear hq2; have hq2 := hq2_; clear hq2_; have oa_ := Aside0.mk (blk_far (p := ⟨w.heap.size + 1 + 1, 2, none⟩) oa.out (by show _ ≠ _; dsimp only; omega) (.int .i64 (sizeD d))); clear oa oac oaf oal; have oa := oa_; clear oa_; obtain ⟨oac, oaf, oal⟩ := cells_of oa.out; have ob_ := Aside0.mk (blk_far (p := ⟨w.heap.size + 1 + 1, 2, none⟩) ob.out (by show _ ≠ _; dsimp only; omega) (.int .i64 (sizeD d))); clear ob obc obf obl; have ob := ob_; clear ob_; obtain ⟨obc, obf, obl⟩ := cells_of ob.out; have oc_ := Aside0.mk (blk_put oc.out 2 (.int .i64 (sizeD d)) (cs' := #[.int .u64 at_, .int .u64 (bufD d), .int .i64 (sizeD d), .int .u8 0, .int .u8 0]) rfl); clear oc occ ocf ocl; have oc := oc_; clear oc_; obtain ⟨occ, ocf, ocl⟩ := cells_of oc.out)
    refine hK.out _ _ trivial (fun hHeld => ?_)
    clear hK K
    refine done_ (by kernel_rfl) ?_
    go_wp2_with fail
    go_meet
    exact ⟨⟨ob.out⟩, ⟨oc.out⟩, ⟨Kd.F_mono hq2.out (fun j h => by simp at h; omega)⟩, ⟨(bG HB)⟩⟩
  case rest =>
  clear oa oac oaf oal ob obc obf obl oc occ ocf ocl HB hcut1 hcut2 hwz hq2 hq3 hq4
  obtain ⟨ob, oc, hq2, HB⟩ := hcut
  rename World => w5
  obtain ⟨obc, obf, obl⟩ := cells_of ob.out
  obtain ⟨occ, ocf, ocl⟩ := cells_of oc.out
  go_upto_region 6 with fail
  have hcp := copy_flags w5.drew (w.heap.size + 1 + 1) at_ (bufD d) (sizeD d) qb qo (qc - 10) d HDL.out oc.out (F_cells16 (Kd.F_now hq2.out))
  obtain ⟨w6, hw6⟩ : ∃ w6, w6 = w5.drew.setRow (w.heap.size + 1 + 1) #[.int .u64 at_, .int .u64 (bufD d), .int .i64 (sizeD d), .int .u8 (flagD d), .int .u8 (restD d)] := ⟨_, rfl⟩
  rw [← hw6] at hcp
  have od := Aside0.mk (show w6.heap[w.heap.size + 1 + 1]? = some (.cells #[.int .u64 at_, .int .u64 (bufD d), .int .i64 (sizeD d), .int .u8 (flagD d), .int .u8 (restD d)] 58 (0, 0)) from by rw [hw6]; exact setRow_heap w5.drew _ _ _ _ _ oc.out)
  have oz := Aside0.mk (show w6.heap[w.heap.size + 1]? = some (.cells #[.int .u64 0, .int .u64 0, .int .i64 0, .int .u8 0, .int .u8 0] 58 (0, 0)) from by rw [hw6, setRow_other w5.drew _ _ _ (by omega)]; exact ob.out)
  have HB_ : Aside0 (Below w.heap.size w w6) := ⟨by rw [hw6]; exact below_setRow (bG HB) (by omega) _⟩
  clear hw6 obc obf obl occ ocf ocl
  go_cut [] (fun wx => wx = w6)
  case first =>
    refine start_ (n := 5) (S := fun w' => True) (ds := []) #[false, false, false, false, false] (by kernel_rfl) rfl rfl trivial (fun hHeld => ?_)
    refine pure_ (i := 0) (N := some 36) (v := ?_) (a' := ?_) #[true, false, false, false, false] rfl rfl (by kernel_rfl) (fun _ _ _ h => h) (Or.inl ⟨by rfl, ?_⟩) ?_ ?_
    rotate_left
    · intro w'
      go_simp
      with_reducible rfl
    rotate_left
    · simp only [Act.put, List.setIfInBounds_toArray, List.set_cons_zero, List.set_cons_succ, i64_w, i32_w]
      rfl
    refine pure_ (i := 1) (N := some 37) (v := ?_) (a' := ?_) #[true, true, false, false, false] rfl rfl (by kernel_rfl) (fun _ _ _ h => h) (Or.inl ⟨by rfl, ?_⟩) ?_ ?_
    rotate_left
    · intro w'
      go_simp
      with_reducible rfl
    rotate_left
    · simp only [Act.put, List.setIfInBounds_toArray, List.set_cons_zero, List.set_cons_succ, i64_w, i32_w]
      rfl
    refine pure_ (i := 2) (N := some 38) (v := ?_) (a' := ?_) #[true, true, true, false, false] rfl rfl (by kernel_rfl) (fun _ _ _ h => h) (Or.inl ⟨by rfl, ?_⟩) ?_ ?_
    rotate_left
    · intro w'
      go_simp
      with_reducible rfl
    rotate_left
    · simp only [Act.put, List.setIfInBounds_toArray, List.set_cons_zero, List.set_cons_succ, i64_w, i32_w]
      rfl
    refine pure_ (i := 3) (N := some 39) (v := ?_) (a' := ?_) #[true, true, true, true, false] rfl rfl (by kernel_rfl) (fun _ _ _ h => h) (Or.inl ⟨by rfl, ?_⟩) ?_ ?_
    rotate_left
    · intro w'
      go_simp
      with_reducible rfl
    rotate_left
    · simp only [Act.put, List.setIfInBounds_toArray, List.set_cons_zero, List.set_cons_succ, i64_w, i32_w]
      rfl
    refine one_ (i := 4) (N := some 40) #[true, true, true, true, true] rfl rfl (by kernel_rfl) (by decide) (fun K hK => ?_)
    refine val_ (v := .int .i64 2) (w1 := w6) (by rfl) rfl ?_ ?_
    · go_simp
    refine hK.out _ _ trivial (fun hHeld => ?_)
    clear hK K
    refine norm_ (a' := ?_) ?_ ?_
    rotate_left
    · simp only [Act.put, List.setIfInBounds_toArray, List.set_cons_zero, List.set_cons_succ, i64_w, i32_w]
      rfl
    refine done_ (by kernel_rfl) ?_
    go_wp2_with fail
    go_meet
    rfl
  case rest =>
  subst hcut
  obtain ⟨ozc, ozf, ozl⟩ := cells_of oz.out
  obtain ⟨odc, odf, odl⟩ := cells_of od.out
  clear HB; have HB := HB_; clear HB_
  go_wp2
  refine bodyPost_ret (v := .tuple #[.agg #[.int .u64 at_, .int .u64 (bufD d), .int .i64 (sizeD d), .int .u8 (flagD d), .int .u8 (restD d)], .bool true]) (by simp [results, Try.results32, go_sem, ozc, ozf] <;> first | assumption | omega | (symm; assumption)) rfl ?_
  exact ⟨rfl, (bG HB)⟩
end Go.Proofs.Ytdblpflepfcnjaa.Q
end
section
/- nic.Send and the document's: what both do, and their ways that end early. -/
namespace Go.Proofs.Ytdblpflepfcnjaa.Q
open Go.RowKit Go.Proofs.YtdblpflepfcnjaaW.PrintWords Go.Proofs.YtdblpflepfcnjaaW.PrintLast Go.Proofs.YtdblpflepfcnjaaW.PrintMore Go.Proofs.Ytdblpflepfcnjaa.L
attribute [local go_sem] Instr.field part asAgg lt_step max2_int min2_int max_two min_two max_three min_three max_four min_four lt_0_1 lt_0_2 lt_1_2 lt_0_3 lt_1_3 lt_2_3 lt_0_4 lt_1_4 lt_2_4 lt_3_4 lt_0_5 lt_1_5 lt_2_5 lt_3_5 lt_4_5 lt_0_6 lt_1_6 lt_2_6 lt_3_6 lt_4_6 lt_5_6 lt_0_7 lt_1_7 lt_2_7 lt_3_7 lt_4_7 lt_5_7 lt_6_7 lt_0_8 lt_1_8 lt_2_8 lt_3_8 lt_4_8 lt_5_8 lt_6_8 lt_7_8
set_option linter.unusedVariables false
set_option linter.unusedSimpArgs false
theorem i27 : (Try.prog.info? 27).map (·.size) = some 1 := by kernel_rfl
theorem i58 : (Try.prog.info? 58).map (·.size) = some 5 := by kernel_rfl
theorem one27 (A : Option Addr) (n k : Nat) : (#[.slice A n k] : Array Value).all (·.oneCell') = true := by simp [Value.oneCell']
theorem results_cctt {P : Program} {fn : Func} {p q u v : Tmp} {ty ty' : TypeId} (h : fn.results = #[.cell p ty, .cell q ty', .tmp u, .tmp v]) (tmps : Array Value) (w : World) (g g' : Nat) (t t' : TypeId) (cs cs' : Array Value) (fr fr' : Nat × Nat) (d d' : TypeDesc)
    (hp : tmps.getD p undef = .pointer (some ⟨g, 0, none⟩)) (hp' : tmps.getD q undef = .pointer (some ⟨g', 0, none⟩)) (hg : w.heap[g]? = some (.cells cs t fr)) (hg' : w.heap[g']? = some (.cells cs' t' fr'))
    (hu : P.underlying ty = some d) (hd : (match d with | .struct _ | .array _ _ => true | _ => false) = true) (hi : (P.info? ty).map (·.size) = some cs.size) (hu' : P.underlying ty' = some d') (hd' : (match d' with | .struct _ | .array _ _ => true | _ => false) = true) (hi' : (P.info? ty').map (·.size) = some cs'.size) :
    (results fn tmps).run P w = .ok (.tuple #[.agg cs, .agg cs', tmps.getD u undef, tmps.getD v undef]) w := by
  have h1 : tmps[p]?.getD undef = .pointer (some ⟨g, 0, none⟩) := by simpa using hp
  have h2 : tmps[q]?.getD undef = .pointer (some ⟨g', 0, none⟩) := by simpa using hp'
  simp [results, h, h1, h2, asAddr, run_loadVar_row w g t ty cs fr d hg hu hd hi, run_loadVar_row w g' t' ty' cs' fr' d' hg' hu' hd' hi']
theorem results_cct {P : Program} {fn : Func} {p q u : Tmp} {ty ty' : TypeId} (h : fn.results = #[.cell p ty, .cell q ty', .tmp u]) (tmps : Array Value) (w : World) (g g' : Nat) (t t' : TypeId) (cs cs' : Array Value) (fr fr' : Nat × Nat) (d d' : TypeDesc)
    (hp : tmps.getD p undef = .pointer (some ⟨g, 0, none⟩)) (hp' : tmps.getD q undef = .pointer (some ⟨g', 0, none⟩)) (hg : w.heap[g]? = some (.cells cs t fr)) (hg' : w.heap[g']? = some (.cells cs' t' fr'))
    (hu : P.underlying ty = some d) (hd : (match d with | .struct _ | .array _ _ => true | _ => false) = true) (hi : (P.info? ty).map (·.size) = some cs.size) (hu' : P.underlying ty' = some d') (hd' : (match d' with | .struct _ | .array _ _ => true | _ => false) = true) (hi' : (P.info? ty').map (·.size) = some cs'.size) :
    (results fn tmps).run P w = .ok (.tuple #[.agg cs, .agg cs', tmps.getD u undef]) w := by
  have h1 : tmps[p]?.getD undef = .pointer (some ⟨g, 0, none⟩) := by simpa using hp
  have h2 : tmps[q]?.getD undef = .pointer (some ⟨g', 0, none⟩) := by simpa using hp'
  simp [results, h, h1, h2, asAddr, run_loadVar_row w g t ty cs fr d hg hu hd hi, run_loadVar_row w g' t' ty' cs' fr' d' hg' hu' hd' hi']
theorem F_nil {k : IntKind} {W : World} {ok : Nat → Prop} : Kd.F (Kd.int k) W ok none 0 [] := fun W' _ => ⟨rfl, by decide, fun h => absurd h (by decide)⟩
def SendPost (A : Option Addr) (m cap : Nat) (ok : Nat → Prop) (w : World) (c : Nat → Int) (l fr : List Int) (b : Bool) (e : Ending) (w' : World) : Prop :=
  ∃ A' c' Af cf, e = .returned (.tuple #[.agg (C14 c (.slice A m cap)), .agg #[.slice A' l.length c'], .slice Af fr.length cf, .bool b]) ∧ l.length ≤ c' ∧ Kd.F (Kd.int .u8) w' (fun j => ok j ∨ w.heap.size ≤ j) A' l.length l ∧ fr.length ≤ cf ∧ Kd.F (Kd.int .u8) w' (fun j => w.heap.size ≤ j) Af fr.length fr ∧ Below w.heap.size w w'
theorem Check_of (b : Bool) (c : Nat → Int) (A : Option Addr) (m cap : Nat) (w : World) (h : okC c m = b) : Calls Try.prog 9 #[.agg (C14 c (.slice A m cap))] w fun e w' => e = .returned (.bool b) ∧ Below w.heap.size w w' := by
  rw [← h]; exact Check_is c A m cap w
set_option maxHeartbeats 1600000 in
set_option maxRecDepth 100000 in
theorem send_head (A : Option Addr) (m cap : Nat) (R : Option Addr) (rc : Nat) (l : List Int) (c : Nat → Int) (w : World) (ok : Nat → Prop) (hr : Kd.F (Kd.int .u8) w ok R l.length l) (hc : l.length ≤ rc) (hk : okC c m = true) (hb0 : (Go.bits .and .i64 (c 0) 1 == 0) = false) (hb5 : (c 5 == c 6) = true) :
    Calls Try.prog 11 #[.agg (C14 c (.slice A m cap)), .agg #[.slice R l.length rc]] w (SendPost A m cap ok w c l [] false) := by
  have HB := Aside0.mk (Below.refl w.heap.size w)
  have HR := Aside0.mk (Kd.F_bound hr)
  have HC := Aside0.mk hc
  have hu := Try.underlying25
  have hu7 := Try.underlying27
  have HK := Aside0.mk hk
  clear hr hc hk
  go_enter Try.func11, Try.ntmps11
  go_upto_region 1 with fail
  obtain ⟨wa, hwa, on0, or0, pn0, pr0, hb_, hz0⟩ := letter4 w (.cells (C14 c (.slice A m cap)) 25 (0, 0)) (.cells #[.slice R l.length rc] 27 (0, 0)) (.cells #[.int .i64 0, .int .i64 0, .int .i64 0, .int .u64 0, .int .i64 0, .int .i64 0, .int .i64 0, .int .u64 0, .int .i64 0, .int .i64 0, .int .i64 0, .int .i64 0, .int .i64 0, .slice none 0 0] 25 (0, 0)) (.cells #[.slice none 0 0] 27 (0, 0))
  rw [hwa]
  clear hwa
  have hzwa := Nat.le_of_eq hz0.symm
  clear hz0
  have on := Aside0.mk on0
  have orr := Aside0.mk or0
  have pn := Aside0.mk pn0
  have pr := Aside0.mk pr0
  clear on0 or0 pn0 pr0
  obtain ⟨onc, onf, onl⟩ := cells_of on.out
  obtain ⟨orrc, orrf, orrl⟩ := cells_of orr.out
  obtain ⟨pnc, pnf, pnl⟩ := cells_of pn.out
  obtain ⟨prc, prf, prl⟩ := cells_of pr.out
  have HB_ : Aside0 (Below w.heap.size w wa) := ⟨hb_⟩
  have HR_ := Aside0.mk (Kd.F_below HR.out hb_)
  clear HB HR hb_; have HB := HB_; have HR := HR_; clear HB_ HR_
  have hc0 : wa.cell? ⟨w.heap.size, 0, none⟩ = some (.int .i64 (c 0)) := (onc 0).trans rfl
  have hc5 : wa.cell? ⟨w.heap.size, 5, none⟩ = some (.int .i64 (c 5)) := (onc 5).trans rfl
  have hc6 : wa.cell? ⟨w.heap.size, 6, none⟩ = some (.int .i64 (c 6)) := (onc 6).trans rfl
  clear onc
  have onc := trivial
  go_wp2_with (first | ((with_reducible refine gate_dst (N := 11) rfl ?_); (try (refine gate_guard (by rfl) ?_; dsimp only)); refine wpList_load_row rfl 25 _ rfl _ (by rfl) _ (C14 c (.slice A m cap)) _ _ (eG on) Try.underlying25 rfl i25 ?_))
  (go_at_call 9; (with_reducible refine (Check_of true c A m cap _ HK.out).mono ?_); rintro e_ w1 ⟨rfl, hb_⟩; have HB_ : Aside0 (Below w.heap.size w w1) := Aside0.mk (below_step (bG HB) hb_); have hzw1 := hb_.size; (try simp at hzw1); have on_ := Aside0.mk (box_below hb_ (eG on)); have orr_ := Aside0.mk (box_below hb_ (eG orr)); have pn_ := Aside0.mk (box_below hb_ (eG pn)); have pr_ := Aside0.mk (box_below hb_ (eG pr)); have HR_ := Aside0.mk (Kd.F_below (fG HR) hb_); clear HR; have HR := HR_; clear HR_; (try clear on onc onf onl); have on := on_; clear on_; obtain ⟨onc, onf, onl⟩ := cells_of on.out; (try clear orr orrc orrf orrl); have orr := orr_; clear orr_; obtain ⟨orrc, orrf, orrl⟩ := cells_of orr.out; (try clear pn pnc pnf pnl); have pn := pn_; clear pn_; obtain ⟨pnc, pnf, pnl⟩ := cells_of pn.out; (try clear pr prc prf prl); have pr := pr_; clear pr_; obtain ⟨prc, prf, prl⟩ := cells_of pr.out; clear HB hb_; have HB := HB_; clear HB_)
  have hc0 : w1.cell? ⟨w.heap.size, 0, none⟩ = some (.int .i64 (c 0)) := (onc 0).trans rfl
  have hc5 : w1.cell? ⟨w.heap.size, 5, none⟩ = some (.int .i64 (c 5)) := (onc 5).trans rfl
  have hc6 : w1.cell? ⟨w.heap.size, 6, none⟩ = some (.int .i64 (c 6)) := (onc 6).trans rfl
  clear onc
  have onc := trivial
  go_wp2
  refine start_ (n := 6) (S := fun w' => w'.heap[w.heap.size]? = some (.cells (C14 c (.slice A m cap)) 25 (0, 0)) ∧ w'.heap[w.heap.size + 1]? = some (.cells (#[.slice R l.length rc]) 27 (0, 0))) (ds := []) #[false, false, false, false, false, false] (by kernel_rfl) rfl rfl ⟨(eG on), (eG orr)⟩ (fun hHeld => ?_)
  refine rowL_ (i := 0) (N := some 27) #[true, false, false, false, false, false] rfl rfl (by kernel_rfl) 25 _ rfl (w.heap.size) (C14 c (.slice A m cap)) (fun _ _ _ h => h) (by rfl) (by rfl) _ _ _ (fun _ h => h.1) Try.underlying25 rfl i25 hHeld (a' := ?_) ?_ ?_
  rotate_left
  · simp only [Act.put, List.setIfInBounds_toArray, List.set_cons_zero, List.set_cons_succ, i64_w, i32_w]
    rfl
  refine rowL_ (i := 1) (N := some 28) #[true, true, false, false, false, false] rfl rfl (by kernel_rfl) 27 _ rfl (w.heap.size + 1) (#[.slice R l.length rc]) (fun _ _ _ h => h) (by rfl) (by rfl) _ _ _ (fun _ h => h.2) Try.underlying27 rfl i27 hHeld (a' := ?_) ?_ ?_
  rotate_left
  · simp only [Act.put, List.setIfInBounds_toArray, List.set_cons_zero, List.set_cons_succ, i64_w, i32_w]
    rfl
  refine rowS_ (i := 2) #[true, true, true, false, false, false] rfl rfl (by kernel_rfl) (by decide) 25 _ _ rfl (w.heap.size + 1 + 1) (C14 c (.slice A m cap)) (by rfl) (by rfl) (by rfl) (#[.int .i64 0, .int .i64 0, .int .i64 0, .int .u64 0, .int .i64 0, .int .i64 0, .int .i64 0, .int .u64 0, .int .i64 0, .int .i64 0, .int .i64 0, .int .i64 0, .int .i64 0, .slice none 0 0]) 25 (eG pn) rfl i25 (C14_one _ _ _ _) ?_
  (rintro wq1 ⟨hx_, hk_, hb_, hzz_⟩; have HB_ : Aside0 (Below w.heap.size w wq1) := Aside0.mk (Below.trans (bG HB) (Below.mono hb_ (by first | omega | (simp only [sz_alloc, sz_drew, sz_drewN]; omega)))); have hzwq1 := hzz_; (try simp at hzwq1); clear hzz_; have on_ := Aside0.mk (st_put on.out hk_ (fun h_ => (by repeat (with_reducible first | exact h_ | apply ext_drew | apply ext_drewN | apply ext_alloc | refine blk_far ?_ (by show _ ≠ _; dsimp only; omega) _))) (by omega)); clear on onc onf onl; have on := on_; clear on_; obtain ⟨onc, onf, onl⟩ := cells_of on.out; have orr_ := Aside0.mk (st_put orr.out hk_ (fun h_ => (by repeat (with_reducible first | exact h_ | apply ext_drew | apply ext_drewN | apply ext_alloc | refine blk_far ?_ (by show _ ≠ _; dsimp only; omega) _))) (by omega)); clear orr orrc orrf orrl; have orr := orr_; clear orr_; obtain ⟨orrc, orrf, orrl⟩ := cells_of orr.out; have pr_ := Aside0.mk (st_put pr.out hk_ (fun h_ => (by repeat (with_reducible first | exact h_ | apply ext_drew | apply ext_drewN | apply ext_alloc | refine blk_far ?_ (by show _ ≠ _; dsimp only; omega) _))) (by omega)); clear pr prc prf prl; have pr := pr_; clear pr_; obtain ⟨prc, prf, prl⟩ := cells_of pr.out; have HR_ := Aside0.mk (Kd.F_step (fG HR) (fun j_ hj_ hl_ => hk_ j_ (by (try dsimp only at hj_); (try simp only [sz_alloc, sz_drew, sz_drewN, sz_set] at hj_); omega))); clear HR; have HR := HR_; clear HR_; (try clear pn pnc pnf pnl); have pn := Aside0.mk hx_; obtain ⟨pnc, pnf, pnl⟩ := cells_of pn.out; clear HB hb_ hk_ hx_; have HB := HB_; clear HB_)
  refine ⟨⟨(eG on), (eG orr)⟩, ?_⟩
  refine rowS_ (i := 3) #[true, true, true, true, false, false] rfl rfl (by kernel_rfl) (by decide) 27 _ _ rfl (w.heap.size + 1 + 1 + 1) (#[.slice R l.length rc]) (by rfl) (by rfl) (by rfl) (#[.slice none 0 0]) 27 (eG pr) rfl i27 (one27 _ _ _) ?_
  (rintro wq2 ⟨hx_, hk_, hb_, hzz_⟩; have HB_ : Aside0 (Below w.heap.size w wq2) := Aside0.mk (Below.trans (bG HB) (Below.mono hb_ (by first | omega | (simp only [sz_alloc, sz_drew, sz_drewN]; omega)))); have hzwq2 := hzz_; (try simp at hzwq2); clear hzz_; have on_ := Aside0.mk (st_put on.out hk_ (fun h_ => (by repeat (with_reducible first | exact h_ | apply ext_drew | apply ext_drewN | apply ext_alloc | refine blk_far ?_ (by show _ ≠ _; dsimp only; omega) _))) (by omega)); clear on onc onf onl; have on := on_; clear on_; obtain ⟨onc, onf, onl⟩ := cells_of on.out; have orr_ := Aside0.mk (st_put orr.out hk_ (fun h_ => (by repeat (with_reducible first | exact h_ | apply ext_drew | apply ext_drewN | apply ext_alloc | refine blk_far ?_ (by show _ ≠ _; dsimp only; omega) _))) (by omega)); clear orr orrc orrf orrl; have orr := orr_; clear orr_; obtain ⟨orrc, orrf, orrl⟩ := cells_of orr.out; have pn_ := Aside0.mk (st_put pn.out hk_ (fun h_ => (by repeat (with_reducible first | exact h_ | apply ext_drew | apply ext_drewN | apply ext_alloc | refine blk_far ?_ (by show _ ≠ _; dsimp only; omega) _))) (by omega)); clear pn pnc pnf pnl; have pn := pn_; clear pn_; obtain ⟨pnc, pnf, pnl⟩ := cells_of pn.out; have HR_ := Aside0.mk (Kd.F_step (fG HR) (fun j_ hj_ hl_ => hk_ j_ (by (try dsimp only at hj_); (try simp only [sz_alloc, sz_drew, sz_drewN, sz_set] at hj_); omega))); clear HR; have HR := HR_; clear HR_; (try clear pr prc prf prl); have pr := Aside0.mk hx_; obtain ⟨prc, prf, prl⟩ := cells_of pr.out; clear HB hb_ hk_ hx_; have HB := HB_; clear HB_)
  refine ⟨⟨(eG on), (eG orr)⟩, ?_⟩
  refine pure_ (i := 4) (N := some 6) (v := ?_) (a' := ?_) #[true, true, true, true, true, false] rfl rfl (by kernel_rfl) (fun _ _ _ h => h) (Or.inl ⟨by rfl, ?_⟩) ?_ ?_
  rotate_left
  · intro w'
    go_simp
    with_reducible rfl
  rotate_left
  · simp only [Act.put, List.setIfInBounds_toArray, List.set_cons_zero, List.set_cons_succ, i64_w, i32_w]
    rfl
  refine pure_ (i := 5) (N := some 7) (v := ?_) (a' := ?_) #[true, true, true, true, true, true] rfl rfl (by kernel_rfl) (fun _ _ _ h => h) (Or.inl ⟨by rfl, ?_⟩) ?_ ?_
  rotate_left
  · intro w'
    go_simp
    with_reducible rfl
  rotate_left
  · simp only [Act.put, List.setIfInBounds_toArray, List.set_cons_zero, List.set_cons_succ, i64_w, i32_w]
    rfl
  refine done_ (by kernel_rfl) ?_
  go_wp2
  refine bodyPost_ret (results_cctt rfl _ _ (w.heap.size + 1 + 1) (w.heap.size + 1 + 1 + 1) 25 27 (C14 c (.slice A m cap)) #[.slice R l.length rc] (0, 0) (0, 0) _ _ rfl rfl pn.out pr.out Try.underlying25 rfl i25 Try.underlying27 rfl i27) rfl ?_
  exact ⟨R, rc, none, 0, rfl, HC.out, (by refine F_res (ok := ?_) ?_ ?_; rotate_left; (repeat (with_reducible first | exact HR.out | apply Kd.F_drew | apply Kd.F_drewN | apply Kd.F_alloc | refine Kd.F_far ?_ ?_ _)); all_goals (intro j_ hj_; (try dsimp only at hj_); (try dsimp only); (try simp only [sz_alloc, sz_drew, sz_drewN, sz_set] at hj_); first | omega | exact .inl hj_.1 | exact .inl hj_ | exact .inr (by omega) | (rcases hj_ with hj_ | hj_; exact .inl hj_.1; exact .inr (by omega)) | (rcases hj_ with hj_ | hj_; exact .inl hj_; exact .inr (by omega)) | (rcases hj_.1 with hk_ | hk_; (first | exact .inl hk_.1 | exact .inl hk_); exact .inr (by omega)))), Nat.le_refl _, F_nil, (bG HB)⟩
theorem own_of (b : Bool) (a x s f g : Int) (w : World) (h : (Go.bits .and .u8 f 1 == 1) = b) : Calls Try.prog 34 #[.agg #[.int .u64 a, .int .u64 x, .int .i64 s, .int .u8 f, .int .u8 g]] w fun e w' => e = .returned (.bool b) ∧ Below w.heap.size w w' := by
  rw [← h]; exact own_is a x s f g w
end Go.Proofs.Ytdblpflepfcnjaa.Q
end
section
/- Cuts of a row with a capacity of their own: xs[lo:hi:max]. -/
namespace Go.Proofs.Ytdblpflepfcnjaa.L
open Go.RowKit Go.Proofs.YtdblpflepfcnjaaW.PrintWords
theorem cut3_hm {P : Program} (t e : TypeId) {i : TypeInfo} (ht : P.underlying t = some (.slice e)) (hi : P.info? e = some i) (A : Option Addr) (n c h m : Nat) (h2 : h ≤ m) (h3 : m ≤ c) :
    ∀ W : World, (Instr.slice t (.slice A n c) none (some (.int .i64 h)) (some (.int .i64 m))).run P W = .ok (.slice A h m) W := by
  intro W
  have hel : P.elem t = e := by simp [Program.elem, ht]
  have hu : P.underlying t = some (.slice (P.elem t)) := by rw [hel]; exact ht
  have ha : (A.map fun x => x.add 0) = A := by cases A <;> simp [Addr.add]
  rw [run_slice_hm W t A n c hu .i64 .i64 h m (by omega) (by omega) (by omega), hel]
  simp [sizeOf, typeInfo, hi, sliced, Result.andThen, ha]
end Go.Proofs.Ytdblpflepfcnjaa.L
end
