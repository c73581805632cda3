import Derived.Test.YtdblpflepfcnjaaHZ1
import Derived.Test.YtdblpflepfcnjaaHQx1
import Derived.Test.YtdblpflepfcnjaaWf
import Derived.Laws.CopyOwn
/- The contract of ram.Fill, for one who reads what it answers. -/
namespace Go.Proofs.Ytdblpflepfcnjaa.Q
open Go.RowKit Go.Proofs.YtdblpflepfcnjaaW.PrintWords Go.Proofs.YtdblpflepfcnjaaW.PrintLast Go.Proofs.YtdblpflepfcnjaaW.PrintMore Go.Proofs.Ytdblpflepfcnjaa.L
attribute [local go_sem] Instr.field part asAgg lt_step max2_int min2_int max_two min_two max_three min_three max_four min_four lt_0_1 lt_0_2 lt_1_2 lt_0_3 lt_1_3 lt_2_3 lt_0_4 lt_1_4 lt_2_4 lt_3_4 lt_0_5 lt_1_5 lt_2_5 lt_3_5 lt_4_5 lt_0_6 lt_1_6 lt_2_6 lt_3_6 lt_4_6 lt_5_6 lt_0_7 lt_1_7 lt_2_7 lt_3_7 lt_4_7 lt_5_7 lt_6_7 lt_0_8 lt_1_8 lt_2_8 lt_3_8 lt_4_8 lt_5_8 lt_6_8 lt_7_8
set_option linter.unusedVariables false
set_option linter.unusedSimpArgs false
theorem infoS : (Try.prog.info? 5).map (·.size) = some 1 := by kernel_rfl
def placeZ (n at_ k : Int) : Int × Bool := if 2147483648 ≤ at_ ∧ 0 ≤ k ∧ at_ - 2147483648 + k ≤ n then (at_ - 2147483648, true) else (0, false)
theorem place_is (l : List Int) (at_ k : Int) (hat : u64B at_) (hk : -9223372036854775808 ≤ k ∧ k ≤ 9223372036854775807) (hl : (l.length : Int) ≤ 140737488355328) (m : Nat) : ram_place.f (m + 3) l at_ k = some (placeZ l.length at_ k) := by
  obtain ⟨a0, a1⟩ := hat
  obtain ⟨k0, k1⟩ := hk
  have w1 : IntKind.u64.wrap (l.length : Int) = l.length := by rw [IntKind.wrap_u64]; omega
  unfold ram_place.f placeZ
  by_cases h1 : at_ < 2147483648
  · rw [if_pos h1, if_neg (by omega)]
    simp [ram_place.j0]
  · have w2 : IntKind.u64.wrap (at_ - 2147483648) = at_ - 2147483648 := by rw [IntKind.wrap_u64]; omega
    rw [if_neg h1]
    by_cases h2 : k < 0
    · rw [decide_eq_true h2, if_neg (by omega)]
      simp [ram_place.j0]
    · rw [decide_eq_false h2]
      simp only [ram_place.j0, w1, w2]
      rw [if_neg (by decide)]
      by_cases h3 : at_ - 2147483648 > l.length
      · rw [if_pos h3, if_neg (by omega)]
      · have w3 : wrap64 (at_ - 2147483648) = at_ - 2147483648 := w64 (by omega) (by omega)
        have w4 : wrap64 (l.length - (at_ - 2147483648)) = l.length - (at_ - 2147483648) := w64 (by omega) (by omega)
        rw [if_neg h3, w3, w4]
        by_cases h4 : k > l.length - (at_ - 2147483648)
        · rw [if_pos h4, if_neg (by omega)]
        · rw [if_neg h4, if_pos (by omega)]
def fillL (l : List Int) (at_ : Int) (b : List Int) : List Int := if (placeZ l.length at_ b.length).2 = true then splice l (placeZ l.length at_ b.length).1.toNat b else l
theorem fillL_length (l : List Int) (at_ : Int) (b : List Int) : (fillL l at_ b).length = l.length := by
  unfold fillL placeZ
  by_cases h : 2147483648 ≤ at_ ∧ (0 : Int) ≤ b.length ∧ at_ - 2147483648 + b.length ≤ l.length
  · rw [if_pos h, if_pos rfl, length_splice]; omega
  · rw [if_neg h, if_neg (by simp)]
set_option maxHeartbeats 1600000 in
set_option maxRecDepth 100000 in
theorem ram_Fill.runs (A : Option Addr) (c : Nat) (l : List Int) (at_ : Int) (A2 : Option Addr) (c2 : Nat) (b : List Int) (w : World) (ok ok2 : Nat → Prop) (hrF : Kd.F (Kd.int .u8) w ok A l.length l) (hc : l.length ≤ c) (hrF2 : Kd.F (Kd.int .u8) w ok2 A2 b.length b) (hc2 : b.length ≤ c2)
    (hat : u64B at_) (hl : l.length < 140737488355328) (hb : b.length ≤ 9223372036854775807) :
    Calls Try.prog 49 #[.agg #[.slice A l.length c], .int .u64 at_, .slice A2 b.length c2] w fun e w' => ∃ A' c', e = .returned (.tuple #[.agg #[.slice A' (fillL l at_ b).length c'], .bool (placeZ l.length at_ b.length).2]) ∧ (fillL l at_ b).length ≤ c' ∧ Kd.F (Kd.int .u8) w' (fun j => ok j ∨ w.heap.size ≤ j) A' (fillL l at_ b).length (fillL l at_ b) ∧ Below w.heap.size w w' := by
  have hr := Kd.F_now hrF
  have hr2 := Kd.F_now hrF2
  have HRF := Aside0.mk hrF
  rw [fillL_length]
  clear hrF hrF2
  have hp := place_is l at_ b.length hat (by omega) (by omega) 0
  have HB := Aside0.mk (Below.refl w.heap.size w)
  have HR := Aside0.mk hr
  have HC := Aside0.mk hc
  have HR2 := Aside0.mk hr2
  have HC2 := Aside0.mk hc2
  have HL := Aside0.mk hl
  have hu := Try.underlying27
  by_cases hin : (placeZ l.length at_ b.length).2 = true
  · obtain ⟨i, hi, hfit⟩ : ∃ i : Nat, placeZ l.length at_ b.length = ((i : Int), true) ∧ i + b.length ≤ l.length := by
      unfold placeZ at hin ⊢
      split at hin
      · rename_i h
        rw [if_pos h]
        exact ⟨(at_ - 2147483648).toNat, by rw [Int.toNat_of_nonneg (by omega)], by omega⟩
      · exact absurd hin (by simp)
    have ef : fillL l at_ b = splice l i b := by unfold fillL; rw [hi, if_pos rfl, Int.toNat_natCast]
    rw [ef, hi]
    rw [hi] at hp
    have HP := Aside0.mk hp
    have HCL : Aside0 (slices_Clone_byte_byte.f l = some l) := ⟨by unfold slices_Clone_byte_byte.f; rw [if_pos hl]⟩
    have hib : (i : Int) ≤ (l.length : Int) := by omega
    clear hp hin ef hr hc hr2 hc2 hat hb
    go_enter Try.func49, Try.ntmps49
    go_wp2_with fail
    (go_at_call 56; (with_reducible refine (ram_place.calls 3 A c l at_ b.length i true _ (by repeat (first | exact HR.out | apply Kd.C_alloc)) HC.out HP.out).mono ?_); rintro e_ w1 ⟨rfl, hb_⟩; have HB_ : Aside0 (Below w.heap.size w w1) := Aside0.mk (below_step (by repeat (first | (with_reducible first | exact HB.out | exact Below.refl _ _ | apply below_alloc | apply pw_below_drewN | apply below_drew | refine below_set ?_ (by omega)) | exact HB.out)) hb_); have hzw1 := hb_.size; (try simp at hzw1); have oa_ := Aside0.mk (box_below hb_ (by repeat (with_reducible first | exact nb_1 w _ | apply ext_drew | apply ext_drewN | apply ext_alloc | refine blk_far ?_ (by show _ ≠ _; dsimp only; omega) _))); have ob_ := Aside0.mk (box_below hb_ (by repeat (with_reducible first | exact nb_2 w _ _ | apply ext_drew | apply ext_drewN | apply ext_alloc | refine blk_far ?_ (by show _ ≠ _; dsimp only; omega) _))); (try clear oa oac oaf oal); have oa := oa_; clear oa_; obtain ⟨oac, oaf, oal⟩ := cells_of oa.out; (try clear ob obc obf obl); have ob := ob_; clear ob_; obtain ⟨obc, obf, obl⟩ := cells_of ob.out; clear HB hb_; have HB := HB_; clear HB_)
    go_wp2_with fail
    (go_at_call 41; (with_reducible refine (slices_Clone_byte_byte.calls A c l l _ (Kd.C_below HR.out HB.out) HC.out HCL.out).mono ?_); rintro e_ w2 ⟨v, rfl, hv, hb_⟩)
    have hB2 : Below w.heap.size w w2 := bthen HB.out HB.out.size hb_
    have ob2 := box_below hb_ ob.out
    obtain ⟨obc2, obf2, obl2⟩ := cells_of ob2
    have HV := Aside0.mk hv
    have HB2 := Aside0.mk hB2
    have HK := Aside0.mk hb_
    have OB2 := Aside0.mk ob2
    have hw1_ := obl
    clear hv hB2 hb_ ob2 oa oac oaf oal ob obc obf obl
    obtain ⟨Ao, co, ev⟩ := Kd.R_slice HV.out
    subst ev
    obtain ⟨_, hco, hcr⟩ := Kd.R_reads' HV.out
    have hbk := R_block HV.out
    have hw1 : w.heap.size + 1 < w1.heap.size := hw1_
    by_cases hb0 : b.length = 0
    · have hs : splice l i b = l := by
        have : b = [] := List.eq_nil_of_length_eq_zero hb0
        subst this
        simp [splice]
      have HS := Aside0.mk hs
      clear hs
      have HCR := Aside0.mk hcr
      have HCO := Aside0.mk hco
      have HNE : Aside0 (∀ ad, Ao = some ad → 0 < l.length → ad.block ≠ w.heap.size + 1) := ⟨fun ad h1 h2 => by have := hbk ad h1 h2; omega⟩
      have HBK : Aside0 (∀ ad, Ao = some ad → 0 < l.length → w.heap.size ≤ ad.block) := ⟨fun ad h1 h2 => Nat.le_trans HB.out.size (hbk ad h1 h2)⟩
      clear hbk hcr hco
      have hcp : ∀ W dp dLen dCap, (Builtin.copy_ #[23, 23] 3 #[.slice dp dLen dCap, .slice A2 0 c2]).run Try.prog W = .ok (goInt 0) W := fun W dp dLen dCap =>
        run_copy_none W _ _ _ _ dp A2 dLen dCap 0 c2 Try.underlying23 infoS (Nat.zero_min _)
      clear hi hfit
      go_wp2
      all_goals refine bodyPost_ret (v := .tuple #[.agg #[.slice Ao l.length co], .bool true]) (by simp [results, Try.results49, go_sem, obc2, obf2] <;> first | assumption | omega | (symm; assumption)) rfl ?_
      all_goals exact ⟨Ao, co, rfl, HCO.out, F_of_C (by rw [HS.out]; exact C_set HCR.out HNE.out _ _) (fun ad h1 h2 => .inr (HBK.out ad h1 h2)), (by repeat (first | (with_reducible first | exact HB2.out | exact Below.refl _ _ | apply below_alloc | apply pw_below_drewN | apply below_drew | refine below_set ?_ (by omega)) | exact HB2.out))⟩
    · have hlp : 0 < l.length := by omega
      obtain ⟨g, cap, eg, hbg, hlg, cells, hcell⟩ := Kd.R_form HV.out hlp
      injection eg with e1 e2 e3
      subst e1 e3
      obtain ⟨ad2, ea2, hrd⟩ := (Kd.reads_of_C (d := (0 : Int)) (Kd.C_below HR2.out HB2.out)).2.2 (by omega)
      subst ea2
      have hcs : ∀ j : Nat, j < l.length → cells[j]? = some (.int .u8 (l.getD j 0)) := by
        intro j hj
        have h1 := (Kd.R_celln 0 HV.out (j : Int) (by omega) (by omega)).1
        rw [Int.toNat_natCast] at h1
        exact ((blk_cell hcell j).symm.trans h1)
      have hfc : l.length ≤ cells.size := by
        have := hcs (l.length - 1) (by omega)
        have := (Array.getElem?_eq_some_iff.1 this).1
        omega
      have hcp := run_copy_row (P := Try.prog) w2 23 23 3 5 g i (l.length - i) (co - i) ad2 b.length c2 cells 5 (b.map (fun x => .int .u8 x)) Try.underlying23 infoS hcell
        (by rw [List.length_map]; exact (Nat.min_eq_left (by omega)).symm)
        (by
          intro j v hv
          rw [List.getElem?_map] at hv
          obtain ⟨x, hx, rfl⟩ := Option.map_eq_some_iff.1 hv
          have hj := (List.getElem?_eq_some_iff.1 hx).1
          rw [hrd j hj, List.getD_eq_getElem?_getD, hx]; rfl)
        (by rw [List.length_map]; omega) (by intro v hv; obtain ⟨x, _, rfl⟩ := List.mem_map.1 hv; rfl)
      obtain ⟨w3, hw3⟩ : ∃ w3, w3 = w2.setRow g (cells.toList.take i ++ b.map (fun x => (.int .u8 x : Value)) ++ cells.toList.drop (i + (b.map (fun x => (.int .u8 x : Value))).length)).toArray := ⟨_, rfl⟩
      rw [← hw3, List.length_map] at hcp
      have hg3 : w3.heap[g]? = some (.cells (cells.toList.take i ++ b.map (fun x => (.int .u8 x : Value)) ++ cells.toList.drop (i + (b.map (fun x => (.int .u8 x : Value))).length)).toArray 5 (0, 0)) := by
        rw [hw3]; exact setRow_heap w2 g _ _ _ _ hcell
      have ho3 : w3.heap[w.heap.size + 1]? = some (.cells #[.slice none 0 0] 27 (0, 0)) := by
        rw [hw3, setRow_other w2 g _ _ (by omega)]; exact OB2.out
      have hB3 : Below w.heap.size w w3 := by rw [hw3]; exact below_setRow HB2.out (by omega) _
      obtain ⟨obc3, obf3, obl3⟩ := cells_of ho3
      have C3 : Kd.C (Kd.int .u8) w3 (some ⟨g, 0, none⟩) l.length (splice l i b) := by
        refine Kd.C_of_reads (d := (0 : Int)) ⟨by rw [length_splice _ _ _ (by omega)], by omega, fun _ => ⟨⟨g, 0, none⟩, rfl, fun j hj => ?_⟩⟩
        have e1 : (Addr.add ⟨g, 0, none⟩ j) = ⟨g, j, none⟩ := by unfold Addr.add; split <;> simp_all
        rw [e1, blk_cell hg3 j, List.length_map]
        rw [List.getElem?_toArray, List.getD_eq_getElem?_getD]
        unfold splice
        have t1 : (cells.toList.take i).length = i := by rw [List.length_take, Array.length_toList]; omega
        have t2 : (l.take i).length = i := by rw [List.length_take]; omega
        by_cases h1 : j < i
        · have hjl : j < l.length := by omega
          have := hcs j hjl
          rw [List.append_assoc, List.getElem?_append_left (by simp; omega), List.getElem?_append_left (by simp; omega), List.getElem?_take_of_lt h1, List.getElem?_take_of_lt h1, Array.getElem?_toList, this, List.getD_eq_getElem?_getD]
        · by_cases h2 : j < i + b.length
          · rw [List.append_assoc, List.getElem?_append_right (by rw [t1]; omega), List.getElem?_append_left (by rw [t1, List.length_map]; omega), List.getElem?_append_right (by rw [t2]; omega), List.getElem?_append_left (by rw [t2]; omega), t1, t2, List.getElem?_map,
              List.getElem?_eq_getElem (by omega)]
            rfl
          · have hjl : j < l.length := hj
            rw [List.append_assoc, List.getElem?_append_right (by rw [t1]; omega), List.getElem?_append_right (by rw [t1, List.length_map]; omega), List.getElem?_append_right (by rw [t2]; omega), List.getElem?_append_right (by rw [t2]; omega), t1, t2, List.length_map, List.getElem?_drop, List.getElem?_drop,
              show i + b.length + (j - i - b.length) = j by omega, Array.getElem?_toList, hcs j hjl, List.getD_eq_getElem?_getD]
      have hci : ¬ co = i := by omega
      have HCO := Aside0.mk hco
      have HNE : g ≠ w.heap.size + 1 := by omega
      have HGE : w.heap.size ≤ g := by have := HB.out.size; omega
      clear hcs hfc hg3 hcell hw3 hlg hrd hbk hcr hco hi hfit hlp hb0
      have HC3 := Aside0.mk C3
      have HB3 := Aside0.mk hB3
      clear C3 hB3
      go_wp2
      refine bodyPost_ret (v := .tuple #[.agg #[.slice (some ⟨g, 0, none⟩) l.length co], .bool true]) (by simp [results, Try.results49, go_sem, obc3, obf3] <;> first | assumption | omega | (symm; assumption)) rfl ?_
      exact ⟨_, co, rfl, HCO.out, F_of_C (C_set HC3.out (fun ad h _ => by injection h with h; rw [← h]; exact HNE) _ _) (fun ad h _ => by injection h with h; rw [← h]; exact .inr HGE), (by repeat (first | (with_reducible first | exact HB3.out | exact Below.refl _ _ | apply below_alloc | apply pw_below_drewN | apply below_drew | refine below_set ?_ (by omega)) | exact HB3.out))⟩
  · have e : placeZ l.length at_ b.length = (0, false) := by
      unfold placeZ at hin ⊢
      split at hin
      · exact absurd rfl hin
      · rename_i h; rw [if_neg h]
    have ef : fillL l at_ b = l := by unfold fillL; rw [if_neg hin]
    rw [ef, e]
    rw [e] at hp
    have HP := Aside0.mk hp
    clear hp hin e ef hr hc hr2 hc2 hat hl hb
    go_enter Try.func49, Try.ntmps49
    go_wp2_with fail
    (go_at_call 56; (with_reducible refine (ram_place.calls 3 A c l at_ b.length 0 false _ (by repeat (first | exact HR.out | apply Kd.C_alloc)) HC.out HP.out).mono ?_); rintro e_ w1 ⟨rfl, hb_⟩; have HB_ : Aside0 (Below w.heap.size w w1) := Aside0.mk (below_step (by repeat (first | (with_reducible first | exact HB.out | exact Below.refl _ _ | apply below_alloc | apply pw_below_drewN | apply below_drew | refine below_set ?_ (by omega)) | exact HB.out)) hb_); have hzw1 := hb_.size; (try simp at hzw1); have oa_ := Aside0.mk (box_below hb_ (by repeat (with_reducible first | exact nb_1 w _ | apply ext_drew | apply ext_drewN | apply ext_alloc | refine blk_far ?_ (by show _ ≠ _; dsimp only; omega) _))); have ob_ := Aside0.mk (box_below hb_ (by repeat (with_reducible first | exact nb_2 w _ _ | apply ext_drew | apply ext_drewN | apply ext_alloc | refine blk_far ?_ (by show _ ≠ _; dsimp only; omega) _))); (try clear oa oac oaf oal); have oa := oa_; clear oa_; obtain ⟨oac, oaf, oal⟩ := cells_of oa.out; (try clear ob obc obf obl); have ob := ob_; clear ob_; obtain ⟨obc, obf, obl⟩ := cells_of ob.out; clear HB hb_; have HB := HB_; clear HB_)
    go_wp2
    refine bodyPost_ret (v := .tuple #[.agg #[.slice A l.length c], .bool false]) (by simp [results, Try.results49, go_sem, oac, obc] <;> first | assumption | omega | (symm; assumption)) rfl ?_
    exact ⟨A, c, rfl, HC.out, F_w HRF.out (by repeat (first | (with_reducible first | exact HB.out | exact Below.refl _ _ | apply below_alloc | apply pw_below_drewN | apply below_drew | refine below_set ?_ (by omega)) | exact HB.out)) (fun _ h => .inl h), (by repeat (first | (with_reducible first | exact HB.out | exact Below.refl _ _ | apply below_alloc | apply pw_below_drewN | apply below_drew | refine below_set ?_ (by omega)) | exact HB.out))⟩
end Go.Proofs.Ytdblpflepfcnjaa.Q
