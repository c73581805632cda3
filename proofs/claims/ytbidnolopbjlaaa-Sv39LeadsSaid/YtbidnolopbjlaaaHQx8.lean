import Derived.Test.YtbidnolopbjlaaaHZ1
import Derived.Test.YtbidnolopbjlaaaHQx7
-- Ytbidnolopbjlaaa: written by a program for this claim (several laws of one seat at once)
namespace Go.Proofs.Ytbidnolopbjlaaa.Q
open Go.RowKit Go.Proofs.YtbidnolopbjlaaaW.PrintWords Go.Proofs.YtbidnolopbjlaaaW.PrintLast Go.Proofs.YtbidnolopbjlaaaW.PrintMore
attribute [local go_sem] max2_int min2_int max_two min_two max_three min_three max_four min_four   -- for this text's walks alone
set_option linter.unusedVariables false
set_option linter.unusedSimpArgs false

/-! ### ram_Read: function 19 -/
def ram_Read.f (k : Nat) (l0_0 : List Int) (a1 : Int) (a2 : Int) : Option (Int × Bool) := (ram_place.f k l0_0 a1 a2).bind fun bt196 => (if bt196.2 = true then ((bits_Align.f 0 a2).bind fun t198 => (if t198 = true then (if 0 ≤ bt196.1 then (if bt196.1 ≤ (wrap64 (bt196.1 + a2)) then (if (wrap64 (bt196.1 + a2)) ≤ (l0_0.length : Int) then ((bits_Get.f ((l0_0.take ((wrap64 (bt196.1 + a2)) : Int).toNat).drop (bt196.1 : Int).toNat) false).bind fun t200 => (some (t200, true))) else (none)) else (none)) else (none)) else (some (0, false)))) else (some (0, false)))
theorem ram_Read.mono : ∀ a0 a1 a2 k, LeO (ram_Read.f k a0 a1 a2) (ram_Read.f (k + 1) a0 a1 a2) := by
  intro a0 a1 a2 k
  unfold ram_Read.f
  repeat' first
      | (with_reducible exact ram_place.mono _ _ _ _)
      | (with_reducible exact LeO.refl _)
      | (with_reducible exact LeO.none _)
      | (with_reducible refine LeO.ite ?_ ?_)
      | (with_reducible refine LeO.bind ?_ (fun _ => ?_))
      | exact ram_place.mono _ _ _ _
      | exact LeO.none _
      | refine LeO.ite ?_ ?_
      | refine LeO.bind ?_ (fun _ => ?_)
set_option maxHeartbeats 8000000 in
set_option maxRecDepth 100000 in
theorem ram_Read.calls (k : Nat) (A0_0 : Option Addr) (c0_0 : Nat) (l0_0 : List Int) (a1 : Int) (a2 : Int) (r1 : Int) (r2 : Bool) (w : World) (hr0_0 : Kd.C (Kd.int .u8) w A0_0 l0_0.length l0_0) (hc0_0 : l0_0.length ≤ c0_0) (h : ram_Read.f k l0_0 a1 a2 = some (r1, r2)) :
    Calls Try.prog 19 #[.agg #[.slice A0_0 l0_0.length c0_0], .int .u64 a1, .int .i64 a2] w fun e w' => e = .returned (.tuple #[.int .u64 r1, .bool r2]) ∧ Below w.heap.size w w' := by
  have hu24 := Try.underlying24
  have HR0_0 := Aside0.mk hr0_0
  have HC0_0 := Aside0.mk hc0_0
  clear hr0_0 hc0_0
  have HB := Aside0.mk (Below.refl w.heap.size w)
  have H : ((ram_place.f k l0_0 a1 a2).bind fun bt196 => (if bt196.2 = true then ((bits_Align.f 0 a2).bind fun t198 => (if t198 = true then (if 0 ≤ bt196.1 then (if bt196.1 ≤ (wrap64 (bt196.1 + a2)) then (if (wrap64 (bt196.1 + a2)) ≤ (l0_0.length : Int) then ((bits_Get.f ((l0_0.take ((wrap64 (bt196.1 + a2)) : Int).toNat).drop (bt196.1 : Int).toNat) false).bind fun t200 => (some (t200, true))) else (none)) else (none)) else (none)) else (some (0, false)))) else (some (0, false)))) = some (r1, r2) := h
  clear h
  replace H := Option.bind_eq_some_iff.mp H
  obtain ⟨⟨t196, t197⟩, A40, H⟩ := H
  replace H : (if t197 = true then ((bits_Align.f 0 a2).bind fun t198 => (if t198 = true then (if 0 ≤ t196 then (if t196 ≤ (wrap64 (t196 + a2)) then (if (wrap64 (t196 + a2)) ≤ (l0_0.length : Int) then ((bits_Get.f ((l0_0.take ((wrap64 (t196 + a2)) : Int).toNat).drop (t196 : Int).toNat) false).bind fun t200 => (some (t200, true))) else (none)) else (none)) else (none)) else (some (0, false)))) else (some (0, false))) = some (r1, r2) := H
  have A4 := Aside0.mk A40
  clear A40
  by_cases c5 : t197 = true
  · subst c5
    have H1 : ((bits_Align.f 0 a2).bind fun t198 => (if t198 = true then (if 0 ≤ t196 then (if t196 ≤ (wrap64 (t196 + a2)) then (if (wrap64 (t196 + a2)) ≤ (l0_0.length : Int) then ((bits_Get.f ((l0_0.take ((wrap64 (t196 + a2)) : Int).toNat).drop (t196 : Int).toNat) false).bind fun t200 => (some (t200, true))) else (none)) else (none)) else (none)) else (some (0, false)))) = some (r1, r2) := by rw [if_pos rfl] at H; exact H
    clear H
    have H := H1
    clear H1
    replace H := Option.bind_eq_some_iff.mp H
    obtain ⟨t198, A60, H⟩ := H
    replace H : (if t198 = true then (if 0 ≤ t196 then (if t196 ≤ (wrap64 (t196 + a2)) then (if (wrap64 (t196 + a2)) ≤ (l0_0.length : Int) then ((bits_Get.f ((l0_0.take ((wrap64 (t196 + a2)) : Int).toNat).drop (t196 : Int).toNat) false).bind fun t200 => (some (t200, true))) else (none)) else (none)) else (none)) else (some (0, false))) = some (r1, r2) := H
    have A6 := Aside0.mk A60
    clear A60
    by_cases c7 : t198 = true
    · subst c7
      have H1 : (if 0 ≤ t196 then (if t196 ≤ (wrap64 (t196 + a2)) then (if (wrap64 (t196 + a2)) ≤ (l0_0.length : Int) then ((bits_Get.f ((l0_0.take ((wrap64 (t196 + a2)) : Int).toNat).drop (t196 : Int).toNat) false).bind fun t200 => (some (t200, true))) else (none)) else (none)) else (none)) = some (r1, r2) := by rw [if_pos rfl] at H; exact H
      clear H
      have H := H1
      clear H1
      by_cases c8 : 0 ≤ t196
      · rw [if_pos c8] at H
        have c8b0 := eq_true c8
        have c8b1 : decide (0 ≤ t196) = true := decide_eq_true c8
        clear c8
        by_cases c9 : t196 ≤ (wrap64 (t196 + a2))
        · rw [if_pos c9] at H
          have c9b0 := eq_true c9
          have c9b1 : decide (t196 ≤ (wrap64 (t196 + a2))) = true := decide_eq_true c9
          by_cases c10 : (wrap64 (t196 + a2)) ≤ (l0_0.length : Int)
          · rw [if_pos c10] at H
            have c10b0 := eq_true c10
            have c10b1 : decide ((wrap64 (t196 + a2)) ≤ (l0_0.length : Int)) = true := decide_eq_true c10
            replace H := Option.bind_eq_some_iff.mp H
            obtain ⟨t200, A110, H⟩ := H
            replace H : (some (t200, true)) = some (r1, r2) := H
            have A11 := Aside0.mk A110
            clear A110
            simp only [Option.some.injEq, Prod.mk.injEq] at H
            obtain ⟨rfl, rfl⟩ := H
            go_enter Try.func19, Try.ntmps19
            go_wp2_with (first | ((with_reducible refine gate_dst (N := 3) rfl ?_); refine box_event ?hg (N := 3) ?hd (cs := #[.slice A0_0 l0_0.length c0_0]) (t := 24) ?hr ?_; (case hd => rfl); (case hg => rfl); (case hr => first | (go_simp; done) | (go_simp; rfl)); intro gb195 hg w12 hbox hb; have n0_ := Aside0.mk (below_step (by repeat (first | (with_reducible first | exact HB.out | apply below_alloc | apply pw_below_drewN | apply below_drew1) | exact HB.out)) hb); have n1_ := Aside0.mk (hbox); have n2_ := Aside0.mk ((by rw [hg]; exact (below_size (by repeat (first | (with_reducible first | exact HB.out | apply below_alloc | apply pw_below_drewN | apply below_drew1) | exact HB.out))) : w.heap.size ≤ gb195)); have n3_ := Aside0.mk ((by rw [hg]; exact (below_size (by repeat (first | (with_reducible first | exact HB.out | apply below_alloc | apply pw_below_drewN | apply below_drew1) | exact HB.out))) : w.heap.size ≤ gb195)); clear HB; have HB := n0_; have BK195 := n1_; have GW195 := n2_; have GE195 := n3_; clear n0_ n1_ n2_ n3_; clear hb hbox hg; have hcz13_0 : w12.cell? ⟨gb195, 0, none⟩ = some (.slice A0_0 l0_0.length c0_0) := (blk_cell BK195.out 0).trans rfl; have hfz13_0 := blk_frozen BK195.out 0) | ((with_reducible refine gate_callee (f := 31) rfl ?_); refine goesL_ (some 14) rfl rfl Try.func31 (by kernel_rfl) rfl #[.agg #[.slice A0_0 l0_0.length c0_0], .int .u64 a1, .int .i64 a2] rfl (by (try simp only [List.map_toArray, List.map_cons, List.map_nil]); first | done | rfl | (simp only [List.length_drop, List.length_take]; rfl)) ?_; (with_reducible refine (ram_place.calls k _ _ l0_0 a1 a2 t196 true _ ?side1 ?side2 A4.out).mono ?_); (case side1 => repeat (first | exact (Kd.C_below HR0_0.out HB.out) | (with_reducible refine Kd.C_alloc ?_ _) | (with_reducible refine Kd.C_drewN ?_ _) | (with_reducible refine Kd.C_drew ?_))); (case side2 => exact HC0_0.out); rintro e w14 ⟨rfl, hb⟩; refine ⟨_, rfl, ?_⟩; have n0_ := Aside0.mk (blk_below (g := gb195) (o := .cells #[.slice A0_0 l0_0.length c0_0] 24 (0, 0)) (by (with_reducible repeat (first | refine blk_drewN ?_ _ | refine blk_drew ?_ | refine blk_alloc ?_ _)); exact BK195.out) hb); have n1_ := Aside0.mk (below_step (by repeat (first | (with_reducible first | exact HB.out | apply below_alloc | apply pw_below_drewN | apply below_drew1 | refine below_set ?_ GE195.out) | exact HB.out)) hb); clear BK195; clear HB; have BK195 := n0_; have HB := n1_; clear n0_ n1_; (try clear hb); (try clear hb2); (try clear hk); (try clear hi)) | (go_at_call 32; (with_reducible refine (bits_Align.calls 0 a2 true _ A6.out).mono ?_); rintro e w' ⟨rfl, ⟨nd, rfl⟩⟩; have hcz15_0 : w14.cell? ⟨gb195, 0, none⟩ = some (.slice A0_0 l0_0.length c0_0) := (blk_cell BK195.out 0).trans rfl; have hfz15_0 := blk_frozen BK195.out 0; obtain ⟨i016, hi016, _, hsz16, _⟩ := info_parts info5; obtain ⟨A16, hcut16, hA16, hC16⟩ := print_mid_of (P := Try.prog) (Value.int .u8) 0 22 5 .i64 .i64 Try.underlying22 hi016 hsz16 A0_0 c0_0 l0_0 t196 (wrap64 (t196 + a2)) (of_decide_eq_true (by first | (with_reducible assumption) | assumption)) (by first | omega | exact of_decide_eq_true (by first | (with_reducible assumption) | assumption)) (of_decide_eq_true (by first | (with_reducible assumption) | assumption)) HC0_0.out; have HR199 := Aside0.mk (Kd.C_of_reads (h1 := fun _ => rfl) (hA16 _ (Kd.reads_of_C HR0_0.out))); have HC199 := Aside0.mk hC16; clear hA16 hC16 hi016 hsz16) | ((with_reducible refine gate_callee (f := 33) rfl ?_); refine goesL_ (some 31) rfl rfl Try.func33 (by kernel_rfl) rfl #[.slice A16 ((l0_0.take ((wrap64 (t196 + a2)) : Int).toNat).drop (t196 : Int).toNat).length (c0_0 - t196.toNat), .bool false] rfl (by (try simp only [List.map_toArray, List.map_cons, List.map_nil]); first | done | (rw [show ((l0_0.take ((wrap64 (t196 + a2)) : Int).toNat).drop (t196 : Int).toNat).length = ((wrap64 (t196 + a2)).toNat - t196.toNat) from (by rw [List.length_drop, List.length_take]; have h_ : ((wrap64 (t196 + a2)) : Int) ≤ (l0_0.length : Int) := of_decide_eq_true (by first | (with_reducible assumption) | assumption); omega)] <;> rfl) | rfl | (simp only [List.length_drop, List.length_take]; rfl)) ?_; (with_reducible refine (bits_Get.calls _ _ ((l0_0.take ((wrap64 (t196 + a2)) : Int).toNat).drop (t196 : Int).toNat) false t200 _ ?side1 ?side2 A11.out).mono ?_); (case side1 => repeat (first | exact (Kd.C_below HR199.out (by repeat (first | (with_reducible first | exact HB.out | apply below_alloc | apply pw_below_drewN | apply below_drew1 | refine below_set ?_ GE195.out) | exact HB.out))) | (with_reducible refine Kd.C_alloc ?_ _) | (with_reducible refine Kd.C_drewN ?_ _) | (with_reducible refine Kd.C_drew ?_))); (case side2 => exact HC199.out); rintro e w17 ⟨rfl, hb⟩; refine ⟨_, rfl, ?_⟩; have n0_ := Aside0.mk (blk_below (g := gb195) (o := .cells #[.slice A0_0 l0_0.length c0_0] 24 (0, 0)) (by (with_reducible repeat (first | refine blk_drewN ?_ _ | refine blk_drew ?_ | refine blk_alloc ?_ _)); exact BK195.out) hb); have n1_ := Aside0.mk (below_step (by repeat (first | (with_reducible first | exact HB.out | apply below_alloc | apply pw_below_drewN | apply below_drew1 | refine below_set ?_ GE195.out) | exact HB.out)) hb); clear BK195; clear HB; have BK195 := n0_; have HB := n1_; clear n0_ n1_; (try clear hb); (try clear hb2); (try clear hk); (try clear hi)))
            go_ret2
            exact ⟨by first | rfl | (simp [errW_none, errW_some] <;> rfl) | (simp [*, errW_none, errW_some] <;> rfl), by repeat (first | (with_reducible first | exact HB.out | apply below_alloc | apply pw_below_drewN | apply below_drew1 | refine below_set ?_ GE195.out) | exact HB.out)⟩
          · rw [if_neg c10] at H
            exact absurd H (by simp)
        · rw [if_neg c9] at H
          exact absurd H (by simp)
      · rw [if_neg c8] at H
        exact absurd H (by simp)
    · replace c7 := Bool.eq_false_iff.mpr c7
      subst c7
      have H1 : (some (0, false)) = some (r1, r2) := by rw [if_neg (show ¬ (false = true) by decide)] at H; exact H
      clear H
      have H := H1
      clear H1
      simp only [Option.some.injEq, Prod.mk.injEq] at H
      obtain ⟨rfl, rfl⟩ := H
      go_enter Try.func19, Try.ntmps19
      go_wp2_with (first | ((with_reducible refine gate_dst (N := 3) rfl ?_); refine box_event ?hg (N := 3) ?hd (cs := #[.slice A0_0 l0_0.length c0_0]) (t := 24) ?hr ?_; (case hd => rfl); (case hg => rfl); (case hr => first | (go_simp; done) | (go_simp; rfl)); intro gb195 hg w18 hbox hb; have n0_ := Aside0.mk (below_step (by repeat (first | (with_reducible first | exact HB.out | apply below_alloc | apply pw_below_drewN | apply below_drew1) | exact HB.out)) hb); have n1_ := Aside0.mk (hbox); have n2_ := Aside0.mk ((by rw [hg]; exact (below_size (by repeat (first | (with_reducible first | exact HB.out | apply below_alloc | apply pw_below_drewN | apply below_drew1) | exact HB.out))) : w.heap.size ≤ gb195)); have n3_ := Aside0.mk ((by rw [hg]; exact (below_size (by repeat (first | (with_reducible first | exact HB.out | apply below_alloc | apply pw_below_drewN | apply below_drew1) | exact HB.out))) : w.heap.size ≤ gb195)); clear HB; have HB := n0_; have BK195 := n1_; have GW195 := n2_; have GE195 := n3_; clear n0_ n1_ n2_ n3_; clear hb hbox hg; have hcz19_0 : w18.cell? ⟨gb195, 0, none⟩ = some (.slice A0_0 l0_0.length c0_0) := (blk_cell BK195.out 0).trans rfl; have hfz19_0 := blk_frozen BK195.out 0) | ((with_reducible refine gate_callee (f := 31) rfl ?_); refine goesL_ (some 14) rfl rfl Try.func31 (by kernel_rfl) rfl #[.agg #[.slice A0_0 l0_0.length c0_0], .int .u64 a1, .int .i64 a2] rfl (by (try simp only [List.map_toArray, List.map_cons, List.map_nil]); first | done | rfl | (simp only [List.length_drop, List.length_take]; rfl)) ?_; (with_reducible refine (ram_place.calls k _ _ l0_0 a1 a2 t196 true _ ?side1 ?side2 A4.out).mono ?_); (case side1 => repeat (first | exact (Kd.C_below HR0_0.out HB.out) | (with_reducible refine Kd.C_alloc ?_ _) | (with_reducible refine Kd.C_drewN ?_ _) | (with_reducible refine Kd.C_drew ?_))); (case side2 => exact HC0_0.out); rintro e w20 ⟨rfl, hb⟩; refine ⟨_, rfl, ?_⟩; have n0_ := Aside0.mk (blk_below (g := gb195) (o := .cells #[.slice A0_0 l0_0.length c0_0] 24 (0, 0)) (by (with_reducible repeat (first | refine blk_drewN ?_ _ | refine blk_drew ?_ | refine blk_alloc ?_ _)); exact BK195.out) hb); have n1_ := Aside0.mk (below_step (by repeat (first | (with_reducible first | exact HB.out | apply below_alloc | apply pw_below_drewN | apply below_drew1 | refine below_set ?_ GE195.out) | exact HB.out)) hb); clear BK195; clear HB; have BK195 := n0_; have HB := n1_; clear n0_ n1_; (try clear hb); (try clear hb2); (try clear hk); (try clear hi)) | (go_at_call 32; (with_reducible refine (bits_Align.calls 0 a2 false _ A6.out).mono ?_); rintro e w' ⟨rfl, ⟨nd, rfl⟩⟩))
      go_ret2
      exact ⟨by first | rfl | (simp [errW_none, errW_some] <;> rfl) | (simp [*, errW_none, errW_some] <;> rfl), by repeat (first | (with_reducible first | exact HB.out | apply below_alloc | apply pw_below_drewN | apply below_drew1 | refine below_set ?_ GE195.out) | exact HB.out)⟩
  · replace c5 := Bool.eq_false_iff.mpr c5
    subst c5
    have H1 : (some (0, false)) = some (r1, r2) := by rw [if_neg (show ¬ (false = true) by decide)] at H; exact H
    clear H
    have H := H1
    clear H1
    simp only [Option.some.injEq, Prod.mk.injEq] at H
    obtain ⟨rfl, rfl⟩ := H
    go_enter Try.func19, Try.ntmps19
    go_wp2_with (first | ((with_reducible refine gate_dst (N := 3) rfl ?_); refine box_event ?hg (N := 3) ?hd (cs := #[.slice A0_0 l0_0.length c0_0]) (t := 24) ?hr ?_; (case hd => rfl); (case hg => rfl); (case hr => first | (go_simp; done) | (go_simp; rfl)); intro gb195 hg w21 hbox hb; have n0_ := Aside0.mk (below_step (by repeat (first | (with_reducible first | exact HB.out | apply below_alloc | apply pw_below_drewN | apply below_drew1) | exact HB.out)) hb); have n1_ := Aside0.mk (hbox); have n2_ := Aside0.mk ((by rw [hg]; exact (below_size (by repeat (first | (with_reducible first | exact HB.out | apply below_alloc | apply pw_below_drewN | apply below_drew1) | exact HB.out))) : w.heap.size ≤ gb195)); have n3_ := Aside0.mk ((by rw [hg]; exact (below_size (by repeat (first | (with_reducible first | exact HB.out | apply below_alloc | apply pw_below_drewN | apply below_drew1) | exact HB.out))) : w.heap.size ≤ gb195)); clear HB; have HB := n0_; have BK195 := n1_; have GW195 := n2_; have GE195 := n3_; clear n0_ n1_ n2_ n3_; clear hb hbox hg; have hcz22_0 : w21.cell? ⟨gb195, 0, none⟩ = some (.slice A0_0 l0_0.length c0_0) := (blk_cell BK195.out 0).trans rfl; have hfz22_0 := blk_frozen BK195.out 0) | ((with_reducible refine gate_callee (f := 31) rfl ?_); refine goesL_ (some 14) rfl rfl Try.func31 (by kernel_rfl) rfl #[.agg #[.slice A0_0 l0_0.length c0_0], .int .u64 a1, .int .i64 a2] rfl (by (try simp only [List.map_toArray, List.map_cons, List.map_nil]); first | done | rfl | (simp only [List.length_drop, List.length_take]; rfl)) ?_; (with_reducible refine (ram_place.calls k _ _ l0_0 a1 a2 t196 false _ ?side1 ?side2 A4.out).mono ?_); (case side1 => repeat (first | exact (Kd.C_below HR0_0.out HB.out) | (with_reducible refine Kd.C_alloc ?_ _) | (with_reducible refine Kd.C_drewN ?_ _) | (with_reducible refine Kd.C_drew ?_))); (case side2 => exact HC0_0.out); rintro e w23 ⟨rfl, hb⟩; refine ⟨_, rfl, ?_⟩; have n0_ := Aside0.mk (blk_below (g := gb195) (o := .cells #[.slice A0_0 l0_0.length c0_0] 24 (0, 0)) (by (with_reducible repeat (first | refine blk_drewN ?_ _ | refine blk_drew ?_ | refine blk_alloc ?_ _)); exact BK195.out) hb); have n1_ := Aside0.mk (below_step (by repeat (first | (with_reducible first | exact HB.out | apply below_alloc | apply pw_below_drewN | apply below_drew1 | refine below_set ?_ GE195.out) | exact HB.out)) hb); clear BK195; clear HB; have BK195 := n0_; have HB := n1_; clear n0_ n1_; (try clear hb); (try clear hb2); (try clear hk); (try clear hi)))
    go_ret2
    exact ⟨by first | rfl | (simp [errW_none, errW_some] <;> rfl) | (simp [*, errW_none, errW_some] <;> rfl), by repeat (first | (with_reducible first | exact HB.out | apply below_alloc | apply pw_below_drewN | apply below_drew1 | refine below_set ?_ GE195.out) | exact HB.out)⟩

/-! ### sv39_odd: function 20 -/
def sv39_odd.f (a0 : Int) : Option (Bool) := if (Go.bits .and .u64 a0 1) = 0 then (some true) else (if (Go.bits .and .u64 a0 6) = 4 then (some true) else ((bits_Field.f a0 63 54).bind fun t201 => (some (decide (t201 > 0)))))
set_option maxHeartbeats 8000000 in
set_option maxRecDepth 100000 in
theorem sv39_odd.calls (a0 : Int) (r : Bool) (w : World) (h : sv39_odd.f a0 = some r) :
    Calls Try.prog 20 #[.int .u64 a0] w fun e w' => e = .returned (.bool r) ∧ Drawn0 w w' := by
  have H : (if (Go.bits .and .u64 a0 1) = 0 then (some true) else (if (Go.bits .and .u64 a0 6) = 4 then (some true) else ((bits_Field.f a0 63 54).bind fun t201 => (some (decide (t201 > 0)))))) = some r := h
  clear h
  by_cases c2 : (Go.bits .and .u64 a0 1) = 0
  · rw [if_pos c2] at H
    have c2b0 : ((Go.bits .and .u64 a0 1) == 0) = true := beq_iff_eq.mpr c2
    have c2b1 : ((Go.bits .and .u64 a0 1) != 0) = false := bne_eq_false_iff_eq.mpr c2
    clear c2
    obtain rfl := Option.some.inj H
    go_enter Try.func20, Try.ntmps20
    go_wp2
    go_ret
    exact ⟨by first | rfl | (simp; done) | (simp [*]; done), by repeat (first | exact Drawn0.refl _ | apply Drawn0.step)⟩
  · rw [if_neg c2] at H
    have c2b0 : ((Go.bits .and .u64 a0 1) == 0) = false := beq_eq_false_iff_ne.mpr c2
    have c2b1 : ((Go.bits .and .u64 a0 1) != 0) = true := bne_iff_ne.mpr c2
    by_cases c3 : (Go.bits .and .u64 a0 6) = 4
    · rw [if_pos c3] at H
      have c3b0 : ((Go.bits .and .u64 a0 6) == 4) = true := beq_iff_eq.mpr c3
      have c3b1 : ((Go.bits .and .u64 a0 6) != 4) = false := bne_eq_false_iff_eq.mpr c3
      clear c3
      obtain rfl := Option.some.inj H
      go_enter Try.func20, Try.ntmps20
      go_wp2
      go_ret
      exact ⟨by first | rfl | (simp; done) | (simp [*]; done), by repeat (first | exact Drawn0.refl _ | apply Drawn0.step)⟩
    · rw [if_neg c3] at H
      have c3b0 : ((Go.bits .and .u64 a0 6) == 4) = false := beq_eq_false_iff_ne.mpr c3
      have c3b1 : ((Go.bits .and .u64 a0 6) != 4) = true := bne_iff_ne.mpr c3
      replace H := Option.bind_eq_some_iff.mp H
      obtain ⟨t201, A40, H⟩ := H
      replace H : (some (decide (t201 > 0))) = some r := H
      have A4 := Aside0.mk A40
      clear A40
      obtain rfl := Option.some.inj H
      go_enter Try.func20, Try.ntmps20
      go_wp2_with (first | (go_at_call 17; (with_reducible refine (bits_Field.calls a0 63 54 t201 _ A4.out).mono ?_); rintro e w' ⟨rfl, ⟨nd, rfl⟩⟩))
      go_ret
      exact ⟨by first | rfl | (simp; done) | (simp [*]; done), by repeat (first | exact Drawn0.refl _ | apply Drawn0.step)⟩

/-! ### sv39_may: function 21 -/
def sv39_may.f (a0 : Int) (a1 : Int) (a2 : Int) (a3 : Int) : Option (Bool) := if a3 = 0 then (if a2 ≥ 1 then (if ((Go.bits .and .u64 a0 16) > 0) then (some false) else (some (decide ((Go.bits .and .u64 a0 8) > 0)))) else (if (Go.bits .and .u64 a0 16) > 0 then (some (decide ((Go.bits .and .u64 a0 8) > 0))) else (some false))) else (if a3 = 2 then (if a2 ≥ 1 then (if ((Go.bits .and .u64 a0 16) > 0) then (if (Go.bits .and .u64 a1 262144) > 0 then (some (decide ((Go.bits .and .u64 a0 4) > 0))) else (some false)) else (some (decide ((Go.bits .and .u64 a0 4) > 0)))) else (if (Go.bits .and .u64 a0 16) > 0 then (some (decide ((Go.bits .and .u64 a0 4) > 0))) else (some false))) else (if (Go.bits .and .u64 a1 524288) > 0 then (if a2 ≥ 1 then (if ((Go.bits .and .u64 a0 16) > 0) then (if (Go.bits .and .u64 a1 262144) > 0 then (some (decide ((Go.bits .and .u64 a0 10) > 0))) else (some false)) else (some (decide ((Go.bits .and .u64 a0 10) > 0)))) else (if (Go.bits .and .u64 a0 16) > 0 then (some (decide ((Go.bits .and .u64 a0 10) > 0))) else (some false))) else (if a2 ≥ 1 then (if ((Go.bits .and .u64 a0 16) > 0) then (if (Go.bits .and .u64 a1 262144) > 0 then (some (decide ((Go.bits .and .u64 a0 2) > 0))) else (some false)) else (some (decide ((Go.bits .and .u64 a0 2) > 0)))) else (if (Go.bits .and .u64 a0 16) > 0 then (some (decide ((Go.bits .and .u64 a0 2) > 0))) else (some false)))))
set_option maxHeartbeats 8000000 in
set_option maxRecDepth 100000 in
theorem sv39_may.calls (a0 : Int) (a1 : Int) (a2 : Int) (a3 : Int) (r : Bool) (w : World) (h : sv39_may.f a0 a1 a2 a3 = some r) :
    Calls Try.prog 21 #[.int .u64 a0, .int .u64 a1, .int .i64 a2, .int .i64 a3] w fun e w' => e = .returned (.bool r) ∧ Drawn0 w w' := by
  have H : (if a3 = 0 then (if a2 ≥ 1 then (if ((Go.bits .and .u64 a0 16) > 0) then (some false) else (some (decide ((Go.bits .and .u64 a0 8) > 0)))) else (if (Go.bits .and .u64 a0 16) > 0 then (some (decide ((Go.bits .and .u64 a0 8) > 0))) else (some false))) else (if a3 = 2 then (if a2 ≥ 1 then (if ((Go.bits .and .u64 a0 16) > 0) then (if (Go.bits .and .u64 a1 262144) > 0 then (some (decide ((Go.bits .and .u64 a0 4) > 0))) else (some false)) else (some (decide ((Go.bits .and .u64 a0 4) > 0)))) else (if (Go.bits .and .u64 a0 16) > 0 then (some (decide ((Go.bits .and .u64 a0 4) > 0))) else (some false))) else (if (Go.bits .and .u64 a1 524288) > 0 then (if a2 ≥ 1 then (if ((Go.bits .and .u64 a0 16) > 0) then (if (Go.bits .and .u64 a1 262144) > 0 then (some (decide ((Go.bits .and .u64 a0 10) > 0))) else (some false)) else (some (decide ((Go.bits .and .u64 a0 10) > 0)))) else (if (Go.bits .and .u64 a0 16) > 0 then (some (decide ((Go.bits .and .u64 a0 10) > 0))) else (some false))) else (if a2 ≥ 1 then (if ((Go.bits .and .u64 a0 16) > 0) then (if (Go.bits .and .u64 a1 262144) > 0 then (some (decide ((Go.bits .and .u64 a0 2) > 0))) else (some false)) else (some (decide ((Go.bits .and .u64 a0 2) > 0)))) else (if (Go.bits .and .u64 a0 16) > 0 then (some (decide ((Go.bits .and .u64 a0 2) > 0))) else (some false)))))) = some r := h
  clear h
  by_cases c5 : a3 = 0
  · rw [if_pos c5] at H
    have c5b0 : (a3 == 0) = true := beq_iff_eq.mpr c5
    have c5b1 : (a3 != 0) = false := bne_eq_false_iff_eq.mpr c5
    clear c5
    by_cases c6 : a2 ≥ 1
    · rw [if_pos c6] at H
      have c6b0 : decide (1 ≤ a2) = true := decide_eq_true c6
      clear c6
      by_cases c7 : ((Go.bits .and .u64 a0 16) > 0)
      · rw [if_pos c7] at H
        have c7b0 : decide (0 < (Go.bits .and .u64 a0 16)) = true := decide_eq_true c7
        clear c7
        obtain rfl := Option.some.inj H
        go_enter Try.func21, Try.ntmps21
        go_wp2
        go_ret
        exact ⟨by first | rfl | (simp; done) | (simp [*]; done), by repeat (first | exact Drawn0.refl _ | apply Drawn0.step)⟩
      · rw [if_neg c7] at H
        have c7b0 : decide (0 < (Go.bits .and .u64 a0 16)) = false := decide_eq_false c7
        clear c7
        obtain rfl := Option.some.inj H
        go_enter Try.func21, Try.ntmps21
        go_wp2
        go_ret
        exact ⟨by first | rfl | (simp; done) | (simp [*]; done), by repeat (first | exact Drawn0.refl _ | apply Drawn0.step)⟩
    · rw [if_neg c6] at H
      have c6b0 : decide (1 ≤ a2) = false := decide_eq_false c6
      clear c6
      by_cases c8 : (Go.bits .and .u64 a0 16) > 0
      · rw [if_pos c8] at H
        have c8b0 : decide (0 < (Go.bits .and .u64 a0 16)) = true := decide_eq_true c8
        clear c8
        obtain rfl := Option.some.inj H
        go_enter Try.func21, Try.ntmps21
        go_wp2
        go_ret
        exact ⟨by first | rfl | (simp; done) | (simp [*]; done), by repeat (first | exact Drawn0.refl _ | apply Drawn0.step)⟩
      · rw [if_neg c8] at H
        have c8b0 : decide (0 < (Go.bits .and .u64 a0 16)) = false := decide_eq_false c8
        clear c8
        obtain rfl := Option.some.inj H
        go_enter Try.func21, Try.ntmps21
        go_wp2
        go_ret
        exact ⟨by first | rfl | (simp; done) | (simp [*]; done), by repeat (first | exact Drawn0.refl _ | apply Drawn0.step)⟩
  · rw [if_neg c5] at H
    have c5b0 : (a3 == 0) = false := beq_eq_false_iff_ne.mpr c5
    have c5b1 : (a3 != 0) = true := bne_iff_ne.mpr c5
    by_cases c9 : a3 = 2
    · rw [if_pos c9] at H
      have c9b0 : (a3 == 2) = true := beq_iff_eq.mpr c9
      have c9b1 : (a3 != 2) = false := bne_eq_false_iff_eq.mpr c9
      clear c9
      by_cases c10 : a2 ≥ 1
      · rw [if_pos c10] at H
        have c10b0 : decide (1 ≤ a2) = true := decide_eq_true c10
        clear c10
        by_cases c11 : ((Go.bits .and .u64 a0 16) > 0)
        · rw [if_pos c11] at H
          have c11b0 : decide (0 < (Go.bits .and .u64 a0 16)) = true := decide_eq_true c11
          clear c11
          by_cases c12 : (Go.bits .and .u64 a1 262144) > 0
          · rw [if_pos c12] at H
            have c12b0 : decide (0 < (Go.bits .and .u64 a1 262144)) = true := decide_eq_true c12
            clear c12
            obtain rfl := Option.some.inj H
            go_enter Try.func21, Try.ntmps21
            go_wp2
            go_ret
            exact ⟨by first | rfl | (simp; done) | (simp [*]; done), by repeat (first | exact Drawn0.refl _ | apply Drawn0.step)⟩
          · rw [if_neg c12] at H
            have c12b0 : decide (0 < (Go.bits .and .u64 a1 262144)) = false := decide_eq_false c12
            clear c12
            obtain rfl := Option.some.inj H
            go_enter Try.func21, Try.ntmps21
            go_wp2
            go_ret
            exact ⟨by first | rfl | (simp; done) | (simp [*]; done), by repeat (first | exact Drawn0.refl _ | apply Drawn0.step)⟩
        · rw [if_neg c11] at H
          have c11b0 : decide (0 < (Go.bits .and .u64 a0 16)) = false := decide_eq_false c11
          clear c11
          obtain rfl := Option.some.inj H
          go_enter Try.func21, Try.ntmps21
          go_wp2
          go_ret
          exact ⟨by first | rfl | (simp; done) | (simp [*]; done), by repeat (first | exact Drawn0.refl _ | apply Drawn0.step)⟩
      · rw [if_neg c10] at H
        have c10b0 : decide (1 ≤ a2) = false := decide_eq_false c10
        clear c10
        by_cases c13 : (Go.bits .and .u64 a0 16) > 0
        · rw [if_pos c13] at H
          have c13b0 : decide (0 < (Go.bits .and .u64 a0 16)) = true := decide_eq_true c13
          clear c13
          obtain rfl := Option.some.inj H
          go_enter Try.func21, Try.ntmps21
          go_wp2
          go_ret
          exact ⟨by first | rfl | (simp; done) | (simp [*]; done), by repeat (first | exact Drawn0.refl _ | apply Drawn0.step)⟩
        · rw [if_neg c13] at H
          have c13b0 : decide (0 < (Go.bits .and .u64 a0 16)) = false := decide_eq_false c13
          clear c13
          obtain rfl := Option.some.inj H
          go_enter Try.func21, Try.ntmps21
          go_wp2
          go_ret
          exact ⟨by first | rfl | (simp; done) | (simp [*]; done), by repeat (first | exact Drawn0.refl _ | apply Drawn0.step)⟩
    · rw [if_neg c9] at H
      have c9b0 : (a3 == 2) = false := beq_eq_false_iff_ne.mpr c9
      have c9b1 : (a3 != 2) = true := bne_iff_ne.mpr c9
      by_cases c14 : (Go.bits .and .u64 a1 524288) > 0
      · rw [if_pos c14] at H
        have c14b0 : decide (0 < (Go.bits .and .u64 a1 524288)) = true := decide_eq_true c14
        clear c14
        by_cases c15 : a2 ≥ 1
        · rw [if_pos c15] at H
          have c15b0 : decide (1 ≤ a2) = true := decide_eq_true c15
          clear c15
          by_cases c16 : ((Go.bits .and .u64 a0 16) > 0)
          · rw [if_pos c16] at H
            have c16b0 : decide (0 < (Go.bits .and .u64 a0 16)) = true := decide_eq_true c16
            clear c16
            by_cases c17 : (Go.bits .and .u64 a1 262144) > 0
            · rw [if_pos c17] at H
              have c17b0 : decide (0 < (Go.bits .and .u64 a1 262144)) = true := decide_eq_true c17
              clear c17
              obtain rfl := Option.some.inj H
              go_enter Try.func21, Try.ntmps21
              go_wp2
              go_ret
              exact ⟨by first | rfl | (simp; done) | (simp [*]; done), by repeat (first | exact Drawn0.refl _ | apply Drawn0.step)⟩
            · rw [if_neg c17] at H
              have c17b0 : decide (0 < (Go.bits .and .u64 a1 262144)) = false := decide_eq_false c17
              clear c17
              obtain rfl := Option.some.inj H
              go_enter Try.func21, Try.ntmps21
              go_wp2
              go_ret
              exact ⟨by first | rfl | (simp; done) | (simp [*]; done), by repeat (first | exact Drawn0.refl _ | apply Drawn0.step)⟩
          · rw [if_neg c16] at H
            have c16b0 : decide (0 < (Go.bits .and .u64 a0 16)) = false := decide_eq_false c16
            clear c16
            obtain rfl := Option.some.inj H
            go_enter Try.func21, Try.ntmps21
            go_wp2
            go_ret
            exact ⟨by first | rfl | (simp; done) | (simp [*]; done), by repeat (first | exact Drawn0.refl _ | apply Drawn0.step)⟩
        · rw [if_neg c15] at H
          have c15b0 : decide (1 ≤ a2) = false := decide_eq_false c15
          clear c15
          by_cases c18 : (Go.bits .and .u64 a0 16) > 0
          · rw [if_pos c18] at H
            have c18b0 : decide (0 < (Go.bits .and .u64 a0 16)) = true := decide_eq_true c18
            clear c18
            obtain rfl := Option.some.inj H
            go_enter Try.func21, Try.ntmps21
            go_wp2
            go_ret
            exact ⟨by first | rfl | (simp; done) | (simp [*]; done), by repeat (first | exact Drawn0.refl _ | apply Drawn0.step)⟩
          · rw [if_neg c18] at H
            have c18b0 : decide (0 < (Go.bits .and .u64 a0 16)) = false := decide_eq_false c18
            clear c18
            obtain rfl := Option.some.inj H
            go_enter Try.func21, Try.ntmps21
            go_wp2
            go_ret
            exact ⟨by first | rfl | (simp; done) | (simp [*]; done), by repeat (first | exact Drawn0.refl _ | apply Drawn0.step)⟩
      · rw [if_neg c14] at H
        have c14b0 : decide (0 < (Go.bits .and .u64 a1 524288)) = false := decide_eq_false c14
        clear c14
        by_cases c19 : a2 ≥ 1
        · rw [if_pos c19] at H
          have c19b0 : decide (1 ≤ a2) = true := decide_eq_true c19
          clear c19
          by_cases c20 : ((Go.bits .and .u64 a0 16) > 0)
          · rw [if_pos c20] at H
            have c20b0 : decide (0 < (Go.bits .and .u64 a0 16)) = true := decide_eq_true c20
            clear c20
            by_cases c21 : (Go.bits .and .u64 a1 262144) > 0
            · rw [if_pos c21] at H
              have c21b0 : decide (0 < (Go.bits .and .u64 a1 262144)) = true := decide_eq_true c21
              clear c21
              obtain rfl := Option.some.inj H
              go_enter Try.func21, Try.ntmps21
              go_wp2
              go_ret
              exact ⟨by first | rfl | (simp; done) | (simp [*]; done), by repeat (first | exact Drawn0.refl _ | apply Drawn0.step)⟩
            · rw [if_neg c21] at H
              have c21b0 : decide (0 < (Go.bits .and .u64 a1 262144)) = false := decide_eq_false c21
              clear c21
              obtain rfl := Option.some.inj H
              go_enter Try.func21, Try.ntmps21
              go_wp2
              go_ret
              exact ⟨by first | rfl | (simp; done) | (simp [*]; done), by repeat (first | exact Drawn0.refl _ | apply Drawn0.step)⟩
          · rw [if_neg c20] at H
            have c20b0 : decide (0 < (Go.bits .and .u64 a0 16)) = false := decide_eq_false c20
            clear c20
            obtain rfl := Option.some.inj H
            go_enter Try.func21, Try.ntmps21
            go_wp2
            go_ret
            exact ⟨by first | rfl | (simp; done) | (simp [*]; done), by repeat (first | exact Drawn0.refl _ | apply Drawn0.step)⟩
        · rw [if_neg c19] at H
          have c19b0 : decide (1 ≤ a2) = false := decide_eq_false c19
          clear c19
          by_cases c22 : (Go.bits .and .u64 a0 16) > 0
          · rw [if_pos c22] at H
            have c22b0 : decide (0 < (Go.bits .and .u64 a0 16)) = true := decide_eq_true c22
            clear c22
            obtain rfl := Option.some.inj H
            go_enter Try.func21, Try.ntmps21
            go_wp2
            go_ret
            exact ⟨by first | rfl | (simp; done) | (simp [*]; done), by repeat (first | exact Drawn0.refl _ | apply Drawn0.step)⟩
          · rw [if_neg c22] at H
            have c22b0 : decide (0 < (Go.bits .and .u64 a0 16)) = false := decide_eq_false c22
            clear c22
            obtain rfl := Option.some.inj H
            go_enter Try.func21, Try.ntmps21
            go_wp2
            go_ret
            exact ⟨by first | rfl | (simp; done) | (simp [*]; done), by repeat (first | exact Drawn0.refl _ | apply Drawn0.step)⟩

end Go.Proofs.Ytbidnolopbjlaaa.Q
