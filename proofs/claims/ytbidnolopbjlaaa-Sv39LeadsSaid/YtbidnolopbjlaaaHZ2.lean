import Derived.Test.YtbidnolopbjlaaaHZ1
import Derived.Test.YtbidnolopbjlaaaHQx1
import Derived.Test.YtbidnolopbjlaaaHEram
import Derived.Test.YtbidnolopbjlaaaHEbp
import Derived.Deep.RegionWith
import Derived.Test.YtbidnolopbjlaaaHQx7
import Derived.Test.YtbidnolopbjlaaaHQx2
import Derived.Test.YtbidnolopbjlaaaPm
import Derived.Test.YtbidnolopbjlaaaHQx8
section
-- Ytbidnolopbjlaaa: written by a program for this claim (several laws of one seat at once)
namespace Go.Proofs.Ytbidnolopbjlaaa.Q
open Go.RowKit Go.Proofs.YtbidnolopbjlaaaW.PrintWords Go.Proofs.YtbidnolopbjlaaaW.PrintLast Go.Proofs.YtbidnolopbjlaaaW.PrintMore
attribute [local go_sem] max2_int min2_int max_two min_two max_three min_three max_four min_four   -- for this text's walks alone
set_option linter.unusedVariables false
set_option linter.unusedSimpArgs false

/-! ### drawbridgeref07_Bytes: function 29 -/
def drawbridgeref07_Bytes.f (l0_0 : List Int) (a1 : Int) (a2 : Int) : Option (List Int × Bool) := (drawbridgeref07_Inside.f l0_0 a1 a2).bind fun t137 => (if t137 = true then ((some (([] : List Int) : List Int)).bind fun y138 => (if 0 ≤ (wrap64 (IntKind.u64.wrap (a1 - 2147483648))) then (if (wrap64 (IntKind.u64.wrap (a1 - 2147483648))) ≤ (wrap64 ((wrap64 (IntKind.u64.wrap (a1 - 2147483648))) + a2)) then (if (wrap64 ((wrap64 (IntKind.u64.wrap (a1 - 2147483648))) + a2)) ≤ (l0_0.length : Int) then (if y138.length + ((l0_0.take ((wrap64 ((wrap64 (IntKind.u64.wrap (a1 - 2147483648))) + a2)) : Int).toNat).drop ((wrap64 (IntKind.u64.wrap (a1 - 2147483648))) : Int).toNat).length < 140737488355328 then (some ((y138 ++ ((l0_0.take ((wrap64 ((wrap64 (IntKind.u64.wrap (a1 - 2147483648))) + a2)) : Int).toNat).drop ((wrap64 (IntKind.u64.wrap (a1 - 2147483648))) : Int).toNat)), true)) else (none)) else (none)) else (none)) else (none))) else (some (([] : List Int), false)))
set_option maxHeartbeats 8000000 in
set_option maxRecDepth 100000 in
theorem drawbridgeref07_Bytes.calls (A0_0 : Option Addr) (c0_0 : Nat) (l0_0 : List Int) (a1 : Int) (a2 : Int) (r1 : List Int) (r2 : Bool) (w : World) (hr0_0 : Kd.C (Kd.int .u8) w A0_0 l0_0.length l0_0) (hc0_0 : l0_0.length ≤ c0_0) (h : drawbridgeref07_Bytes.f l0_0 a1 a2 = some (r1, r2)) :
    Calls Try.prog 29 #[.agg #[.slice A0_0 l0_0.length c0_0], .int .u64 a1, .int .i64 a2] w fun e w' => ∃ v0_ : Value, e = .returned (.tuple #[v0_, .bool r2]) ∧ Kd.R (Kd.int .u8) 5 w' w.heap.size (fun _ => True) v0_ r1 ∧ Below w.heap.size w w' := by
  have hu24 := Try.underlying24
  have HR0_0 := Aside0.mk hr0_0
  have HC0_0 := Aside0.mk hc0_0
  clear hr0_0 hc0_0
  have HB := Aside0.mk (Below.refl w.heap.size w)
  have H : ((drawbridgeref07_Inside.f l0_0 a1 a2).bind fun t137 => (if t137 = true then ((some (([] : List Int) : List Int)).bind fun y138 => (if 0 ≤ (wrap64 (IntKind.u64.wrap (a1 - 2147483648))) then (if (wrap64 (IntKind.u64.wrap (a1 - 2147483648))) ≤ (wrap64 ((wrap64 (IntKind.u64.wrap (a1 - 2147483648))) + a2)) then (if (wrap64 ((wrap64 (IntKind.u64.wrap (a1 - 2147483648))) + a2)) ≤ (l0_0.length : Int) then (if y138.length + ((l0_0.take ((wrap64 ((wrap64 (IntKind.u64.wrap (a1 - 2147483648))) + a2)) : Int).toNat).drop ((wrap64 (IntKind.u64.wrap (a1 - 2147483648))) : Int).toNat).length < 140737488355328 then (some ((y138 ++ ((l0_0.take ((wrap64 ((wrap64 (IntKind.u64.wrap (a1 - 2147483648))) + a2)) : Int).toNat).drop ((wrap64 (IntKind.u64.wrap (a1 - 2147483648))) : Int).toNat)), true)) else (none)) else (none)) else (none)) else (none))) else (some (([] : List Int), false)))) = some (r1, r2) := h
  clear h
  replace H := Option.bind_eq_some_iff.mp H
  obtain ⟨t137, A40, H⟩ := H
  replace H : (if t137 = true then ((some (([] : List Int) : List Int)).bind fun y138 => (if 0 ≤ (wrap64 (IntKind.u64.wrap (a1 - 2147483648))) then (if (wrap64 (IntKind.u64.wrap (a1 - 2147483648))) ≤ (wrap64 ((wrap64 (IntKind.u64.wrap (a1 - 2147483648))) + a2)) then (if (wrap64 ((wrap64 (IntKind.u64.wrap (a1 - 2147483648))) + a2)) ≤ (l0_0.length : Int) then (if y138.length + ((l0_0.take ((wrap64 ((wrap64 (IntKind.u64.wrap (a1 - 2147483648))) + a2)) : Int).toNat).drop ((wrap64 (IntKind.u64.wrap (a1 - 2147483648))) : Int).toNat).length < 140737488355328 then (some ((y138 ++ ((l0_0.take ((wrap64 ((wrap64 (IntKind.u64.wrap (a1 - 2147483648))) + a2)) : Int).toNat).drop ((wrap64 (IntKind.u64.wrap (a1 - 2147483648))) : Int).toNat)), true)) else (none)) else (none)) else (none)) else (none))) else (some (([] : List Int), false))) = some (r1, r2) := H
  have A4 := Aside0.mk A40
  clear A40
  by_cases c5 : t137 = true
  · subst c5
    have H1 : ((some (([] : List Int) : List Int)).bind fun y138 => (if 0 ≤ (wrap64 (IntKind.u64.wrap (a1 - 2147483648))) then (if (wrap64 (IntKind.u64.wrap (a1 - 2147483648))) ≤ (wrap64 ((wrap64 (IntKind.u64.wrap (a1 - 2147483648))) + a2)) then (if (wrap64 ((wrap64 (IntKind.u64.wrap (a1 - 2147483648))) + a2)) ≤ (l0_0.length : Int) then (if y138.length + ((l0_0.take ((wrap64 ((wrap64 (IntKind.u64.wrap (a1 - 2147483648))) + a2)) : Int).toNat).drop ((wrap64 (IntKind.u64.wrap (a1 - 2147483648))) : Int).toNat).length < 140737488355328 then (some ((y138 ++ ((l0_0.take ((wrap64 ((wrap64 (IntKind.u64.wrap (a1 - 2147483648))) + a2)) : Int).toNat).drop ((wrap64 (IntKind.u64.wrap (a1 - 2147483648))) : Int).toNat)), true)) else (none)) else (none)) else (none)) else (none))) = some (r1, r2) := by rw [if_pos rfl] at H; exact H
    clear H
    have H := H1
    clear H1
    obtain ⟨y138, hy138⟩ : ∃ y_ : List Int, y_ = (([] : List Int)) := ⟨_, rfl⟩
    replace H : (if 0 ≤ (wrap64 (IntKind.u64.wrap (a1 - 2147483648))) then (if (wrap64 (IntKind.u64.wrap (a1 - 2147483648))) ≤ (wrap64 ((wrap64 (IntKind.u64.wrap (a1 - 2147483648))) + a2)) then (if (wrap64 ((wrap64 (IntKind.u64.wrap (a1 - 2147483648))) + a2)) ≤ (l0_0.length : Int) then (if y138.length + ((l0_0.take ((wrap64 ((wrap64 (IntKind.u64.wrap (a1 - 2147483648))) + a2)) : Int).toNat).drop ((wrap64 (IntKind.u64.wrap (a1 - 2147483648))) : Int).toNat).length < 140737488355328 then (some ((y138 ++ ((l0_0.take ((wrap64 ((wrap64 (IntKind.u64.wrap (a1 - 2147483648))) + a2)) : Int).toNat).drop ((wrap64 (IntKind.u64.wrap (a1 - 2147483648))) : Int).toNat)), true)) else (none)) else (none)) else (none)) else (none)) = some (r1, r2) := by first | (rw [hy138]; with_reducible exact H) | (have H2_ := (Option.bind_some _ _).symm.trans H; rw [hy138]; with_reducible exact H2_) | (have H2_ := (Option.bind_some _ _).symm.trans H; with_reducible exact H2_) | with_reducible exact H | (rw [hy138]; exact H) | exact H
    have Ny138 := Aside0.mk hy138
    clear hy138
    obtain ⟨ji6, hji6⟩ : ∃ j_ : Int, (wrap64 (IntKind.u64.wrap (a1 - 2147483648))) = j_ := ⟨_, rfl⟩
    replace H : (if 0 ≤ (ji6) then (if (ji6) ≤ (wrap64 ((ji6) + a2)) then (if (wrap64 ((ji6) + a2)) ≤ (l0_0.length : Int) then (if y138.length + ((l0_0.take ((wrap64 ((ji6) + a2)) : Int).toNat).drop ((ji6) : Int).toNat).length < 140737488355328 then (some ((y138 ++ ((l0_0.take ((wrap64 ((ji6) + a2)) : Int).toNat).drop ((ji6) : Int).toNat)), true)) else (none)) else (none)) else (none)) else (none)) = some (r1, r2) := by first | (rw [hji6] at H; exact H) | (simp only [hji6] at H ⊢; exact H)
    (try rw [hji6] at A4)
    have hji6w : (IntKind.i64.wrap (IntKind.u64.wrap (a1 - 2147483648))) = ji6 := (i64_w _).trans hji6
    by_cases c7 : 0 ≤ (ji6)
    · rw [if_pos c7] at H
      have c7b0 := eq_true c7
      have c7b1 : decide (0 ≤ (ji6)) = true := decide_eq_true c7
      clear c7
      by_cases c8 : (ji6) ≤ (wrap64 ((ji6) + a2))
      · rw [if_pos c8] at H
        have c8b0 := eq_true c8
        have c8b1 : decide ((ji6) ≤ (wrap64 ((ji6) + a2))) = true := decide_eq_true c8
        by_cases c9 : (wrap64 ((ji6) + a2)) ≤ (l0_0.length : Int)
        · rw [if_pos c9] at H
          have c9b0 := eq_true c9
          have c9b1 : decide ((wrap64 ((ji6) + a2)) ≤ (l0_0.length : Int)) = true := decide_eq_true c9
          by_cases c10 : y138.length + ((l0_0.take ((wrap64 ((ji6) + a2)) : Int).toNat).drop ((ji6) : Int).toNat).length < 140737488355328
          · rw [if_pos c10] at H
            have LMc10 := Aside0.mk c10
            clear c10
            obtain ⟨y142, hy142⟩ : ∃ y_ : List Int, y_ = (y138 ++ ((l0_0.take ((wrap64 ((ji6) + a2)) : Int).toNat).drop ((ji6) : Int).toNat)) := ⟨_, rfl⟩
            replace H : (some (y142, true)) = some (r1, r2) := by first | (rw [hy142]; with_reducible exact H) | (have H2_ := (Option.bind_some _ _).symm.trans H; rw [hy142]; with_reducible exact H2_) | (have H2_ := (Option.bind_some _ _).symm.trans H; with_reducible exact H2_) | with_reducible exact H | (rw [hy142]; exact H) | exact H
            have Ny142 := Aside0.mk hy142
            clear hy142
            simp only [Option.some.injEq, Prod.mk.injEq] at H
            obtain ⟨rfl, rfl⟩ := H
            go_enter Try.func29, Try.ntmps29
            go_wp2_with (first | ((with_reducible refine gate_dst (N := 3) rfl ?_); refine box_event ?hg (N := 3) ?hd (cs := #[.slice A0_0 l0_0.length c0_0]) (t := 24) ?hr ?_; (case hd => rfl); (case hg => rfl); (case hr => first | (go_simp; done) | (go_simp; rfl)); intro gb136 hg w11 hbox hb; have n0_ := Aside0.mk (below_step (by repeat (first | (with_reducible first | exact HB.out | apply below_alloc | apply pw_below_drewN | apply below_drew1) | exact HB.out)) hb); have n1_ := Aside0.mk (hbox); have n2_ := Aside0.mk ((by rw [hg]; exact (below_size (by repeat (first | (with_reducible first | exact HB.out | apply below_alloc | apply pw_below_drewN | apply below_drew1) | exact HB.out))) : w.heap.size ≤ gb136)); have n3_ := Aside0.mk ((by rw [hg]; exact (below_size (by repeat (first | (with_reducible first | exact HB.out | apply below_alloc | apply pw_below_drewN | apply below_drew1) | exact HB.out))) : w.heap.size ≤ gb136)); clear HB; have HB := n0_; have BK136 := n1_; have GW136 := n2_; have GE136 := n3_; clear n0_ n1_ n2_ n3_; clear hb hbox hg; have hcz12_0 : w11.cell? ⟨gb136, 0, none⟩ = some (.slice A0_0 l0_0.length c0_0) := (blk_cell BK136.out 0).trans rfl; have hfz12_0 := blk_frozen BK136.out 0) | ((with_reducible refine gate_callee (f := 37) rfl ?_); refine goesL_ (some 12) rfl rfl Try.func37 (by kernel_rfl) rfl #[.agg #[.slice A0_0 l0_0.length c0_0], .int .u64 a1, .int .i64 a2] rfl (by (try simp only [List.map_toArray, List.map_cons, List.map_nil]); first | done | rfl | (simp only [List.length_drop, List.length_take]; rfl)) ?_; (with_reducible refine (drawbridgeref07_Inside.calls _ _ l0_0 a1 a2 true _ ?side1 ?side2 A4.out).mono ?_); (case side1 => repeat (first | exact (Kd.C_below HR0_0.out HB.out) | (with_reducible refine Kd.C_alloc ?_ _) | (with_reducible refine Kd.C_drewN ?_ _) | (with_reducible refine Kd.C_drew ?_))); (case side2 => exact HC0_0.out); rintro e w13 ⟨rfl, hb⟩; refine ⟨_, rfl, ?_⟩; have n0_ := Aside0.mk (blk_below (g := gb136) (o := .cells #[.slice A0_0 l0_0.length c0_0] 24 (0, 0)) (by (with_reducible repeat (first | refine blk_drewN ?_ _ | refine blk_drew ?_ | refine blk_alloc ?_ _)); exact BK136.out) hb); have n1_ := Aside0.mk (below_step (by repeat (first | (with_reducible first | exact HB.out | apply below_alloc | apply pw_below_drewN | apply below_drew1 | refine below_set ?_ GE136.out) | exact HB.out)) hb); clear BK136; clear HB; have BK136 := n0_; have HB := n1_; clear n0_ n1_; (try clear hb); (try clear hb2); (try clear hk); (try clear hi)) | ((with_reducible refine gate_dst (N := 17) rfl ?_); refine Kd.R_lit (Kd.int .u8) _ 5 ?hg (N := 17) ?hd (xs := ([] : List Int)) (inner := []) (ok := fun _ => True) (okp := fun _ => True) ?hr ?hp (fun _ hk => hk) trivial (Below.refl _ _) (Nat.le_refl _) (by simp) ?_; (case hd => rfl); (case hg => rfl); (case hr => first | (go_simp; done) | (go_simp; rfl)); (case hp => exact (Reps.none _ _)); intro v139 w14 ho15 hb hg_ hnew_; clear hg_ hnew_; (first | rw [← Ny138.out] at ho15 | (simp only [Int.reduceToNat] at ho15; rw [← Ny138.out] at ho15)); have n0_ := Aside0.mk (Kd.R_lower ho15 (below_size (by repeat (first | (with_reducible first | exact HB.out | apply below_alloc | apply pw_below_drewN | apply below_drew1 | refine below_set ?_ GE136.out) | exact HB.out)))); have n1_ := Aside0.mk (blk_below (g := gb136) (o := .cells #[.slice A0_0 l0_0.length c0_0] 24 (0, 0)) (by (with_reducible repeat (first | refine blk_drewN ?_ _ | refine blk_drew ?_ | refine blk_alloc ?_ _)); exact BK136.out) hb); have n2_ := Aside0.mk (below_step (by repeat (first | (with_reducible first | exact HB.out | apply below_alloc | apply pw_below_drewN | apply below_drew1 | refine below_set ?_ GE136.out) | exact HB.out)) hb); clear BK136; clear HB; have HO140 := n0_; have BK136 := n1_; have HB := n2_; clear n0_ n1_ n2_; clear hb ho15; have hcz16_0 : w14.cell? ⟨gb136, 0, none⟩ = some (.slice A0_0 l0_0.length c0_0) := (blk_cell BK136.out 0).trans rfl; have hfz16_0 := blk_frozen BK136.out 0; obtain ⟨i017, hi017, _, hsz17, _⟩ := info_parts info5; obtain ⟨A17, hcut17, hA17, hC17⟩ := print_mid_of (P := Try.prog) (Value.int .u8) 0 22 5 .i64 .i64 Try.underlying22 hi017 hsz17 A0_0 c0_0 l0_0 (ji6) (wrap64 ((ji6) + a2)) (of_decide_eq_true (by first | (with_reducible assumption) | assumption)) (by first | omega | exact of_decide_eq_true (by first | (with_reducible assumption) | assumption)) (of_decide_eq_true (by first | (with_reducible assumption) | assumption)) HC0_0.out; have HR141 := Aside0.mk (Kd.C_of_reads (h1 := fun _ => rfl) (hA17 _ (Kd.reads_of_C HR0_0.out))); have HC141 := Aside0.mk hC17; clear hA17 hC17 hi017 hsz17) | ((with_reducible refine gate_builtin (b := .append) (xs := #[.tmp 17, .tmp 24]) rfl ?_); at_builtin; refine Kd.R_append_rows (Kd.int .u8) (w0 := w) w.heap.size rfl (.tmp 17) (.tmp 24) 22 5 (.int .u8 0) 1 rfl Try.underlying22 info5 rfl (by decide) (by omega) v139 y138 ((l0_0.take ((wrap64 ((ji6) + a2)) : Int).toNat).drop ((ji6) : Int).toNat) _ _ _ (fun _ => True) (fun _ => False) rfl rfl ?aO ?aR (fun _ _ h => h) (fun _ h => h.elim) ?aF ?aB ?aS ?aL ?_; (case aR => first | (rw [← show ((l0_0.take ((wrap64 ((ji6) + a2)) : Int).toNat).drop ((ji6) : Int).toNat).length = ((wrap64 ((ji6) + a2)).toNat - (ji6).toNat) from (by rw [List.length_drop, List.length_take]; have h_ : ((wrap64 ((ji6) + a2)) : Int) ≤ (l0_0.length : Int) := of_decide_eq_true (by first | (with_reducible assumption) | assumption); omega)]; (repeat (first | exact (Kd.C_below HR141.out HB.out) | (with_reducible refine Kd.C_alloc ?_ _) | (with_reducible refine Kd.C_drewN ?_ _) | (with_reducible refine Kd.C_drew ?_))); done) | (refine Eq.mp (congrArg (fun n_ => ReadsRow _ _ _ _ n_ _) (show ((l0_0.take ((wrap64 ((ji6) + a2)) : Int).toNat).drop ((ji6) : Int).toNat).length = ((wrap64 ((ji6) + a2)).toNat - (ji6).toNat) from (by rw [List.length_drop, List.length_take]; have h_ : ((wrap64 ((ji6) + a2)) : Int) ≤ (l0_0.length : Int) := of_decide_eq_true (by first | (with_reducible assumption) | assumption); omega))) ?_; (repeat (first | exact (Kd.C_below HR141.out HB.out) | (with_reducible refine Kd.C_alloc ?_ _) | (with_reducible refine Kd.C_drewN ?_ _) | (with_reducible refine Kd.C_drew ?_))); done) | (repeat (first | exact (Kd.C_below HR141.out HB.out) | (with_reducible refine Kd.C_alloc ?_ _) | (with_reducible refine Kd.C_drewN ?_ _) | (with_reducible refine Kd.C_drew ?_)))); (case aB => exact (by repeat (first | (with_reducible first | exact HB.out | apply below_alloc | apply pw_below_drewN | apply below_drew1 | refine below_set ?_ GE136.out) | exact HB.out))); (case aF => exact (fun _ _ => trivial)); (case aO => exact (by (with_reducible repeat (first | apply Kd.R_alloc | apply Kd.R_drewN | apply Kd.R_drew)); exact HO140.out)); (case aS => exact (below_size (by repeat (first | (with_reducible first | exact HB.out | apply below_alloc | apply pw_below_drewN | apply below_drew1 | refine below_set ?_ GE136.out) | exact HB.out)))); (case aL => have := LMc10.out; have hlx_ := (show ((l0_0.take ((wrap64 ((ji6) + a2)) : Int).toNat).drop ((ji6) : Int).toNat).length = ((wrap64 ((ji6) + a2)).toNat - (ji6).toNat) from (by rw [List.length_drop, List.length_take]; have h_ : ((wrap64 ((ji6) + a2)) : Int) ≤ (l0_0.length : Int) := of_decide_eq_true (by first | (with_reducible assumption) | assumption); omega)); omega); intro v143 w18 ho hb hg hat; rw [← Ny142.out] at ho; have n0_ := Aside0.mk (blk_grown (g := gb136) (o := .cells #[.slice A0_0 l0_0.length c0_0] 24 (0, 0)) (by (with_reducible repeat (first | refine blk_drewN ?_ _ | refine blk_drew ?_ | refine blk_alloc ?_ _)); exact BK136.out) hg (Kd.R_ne HO140.out BK136.out (by decide))); have n1_ := Aside0.mk (hb); have n2_ := Aside0.mk (ho); clear BK136; clear HB; clear HO140; have BK136 := n0_; have HB := n1_; have HO144 := n2_; clear n0_ n1_ n2_; clear ho hb hg hat))
            go_ret2
            exact ⟨_, by first | rfl | (simp [errW_none, errW_some] <;> rfl) | (simp only [← hji6]; first | rfl | (simp [errW_none, errW_some] <;> rfl)) | (simp [*, errW_none, errW_some] <;> rfl), by (with_reducible repeat (first | apply Kd.R_alloc | apply Kd.R_drewN | apply Kd.R_drew)); exact HO144.out, by repeat (first | (with_reducible first | exact HB.out | apply below_alloc | apply pw_below_drewN | apply below_drew1 | refine below_set ?_ GE136.out) | exact HB.out)⟩
          · rw [if_neg c10] at H
            exact absurd H (by simp)
        · rw [if_neg c9] at H
          exact absurd H (by simp)
      · rw [if_neg c8] at H
        exact absurd H (by simp)
    · rw [if_neg c7] at H
      exact absurd H (by simp)
  · replace c5 := Bool.eq_false_iff.mpr c5
    subst c5
    have H1 : (some (([] : List Int), false)) = some (r1, r2) := by rw [if_neg (show ¬ (false = true) by decide)] at H; exact H
    clear H
    have H := H1
    clear H1
    simp only [Option.some.injEq, Prod.mk.injEq] at H
    obtain ⟨rfl, rfl⟩ := H
    go_enter Try.func29, Try.ntmps29
    go_wp2_with (first | ((with_reducible refine gate_dst (N := 3) rfl ?_); refine box_event ?hg (N := 3) ?hd (cs := #[.slice A0_0 l0_0.length c0_0]) (t := 24) ?hr ?_; (case hd => rfl); (case hg => rfl); (case hr => first | (go_simp; done) | (go_simp; rfl)); intro gb136 hg w19 hbox hb; have n0_ := Aside0.mk (below_step (by repeat (first | (with_reducible first | exact HB.out | apply below_alloc | apply pw_below_drewN | apply below_drew1) | exact HB.out)) hb); have n1_ := Aside0.mk (hbox); have n2_ := Aside0.mk ((by rw [hg]; exact (below_size (by repeat (first | (with_reducible first | exact HB.out | apply below_alloc | apply pw_below_drewN | apply below_drew1) | exact HB.out))) : w.heap.size ≤ gb136)); have n3_ := Aside0.mk ((by rw [hg]; exact (below_size (by repeat (first | (with_reducible first | exact HB.out | apply below_alloc | apply pw_below_drewN | apply below_drew1) | exact HB.out))) : w.heap.size ≤ gb136)); clear HB; have HB := n0_; have BK136 := n1_; have GW136 := n2_; have GE136 := n3_; clear n0_ n1_ n2_ n3_; clear hb hbox hg; have hcz20_0 : w19.cell? ⟨gb136, 0, none⟩ = some (.slice A0_0 l0_0.length c0_0) := (blk_cell BK136.out 0).trans rfl; have hfz20_0 := blk_frozen BK136.out 0) | ((with_reducible refine gate_callee (f := 37) rfl ?_); refine goesL_ (some 12) rfl rfl Try.func37 (by kernel_rfl) rfl #[.agg #[.slice A0_0 l0_0.length c0_0], .int .u64 a1, .int .i64 a2] rfl (by (try simp only [List.map_toArray, List.map_cons, List.map_nil]); first | done | rfl | (simp only [List.length_drop, List.length_take]; rfl)) ?_; (with_reducible refine (drawbridgeref07_Inside.calls _ _ l0_0 a1 a2 false _ ?side1 ?side2 A4.out).mono ?_); (case side1 => repeat (first | exact (Kd.C_below HR0_0.out HB.out) | (with_reducible refine Kd.C_alloc ?_ _) | (with_reducible refine Kd.C_drewN ?_ _) | (with_reducible refine Kd.C_drew ?_))); (case side2 => exact HC0_0.out); rintro e w21 ⟨rfl, hb⟩; refine ⟨_, rfl, ?_⟩; have n0_ := Aside0.mk (blk_below (g := gb136) (o := .cells #[.slice A0_0 l0_0.length c0_0] 24 (0, 0)) (by (with_reducible repeat (first | refine blk_drewN ?_ _ | refine blk_drew ?_ | refine blk_alloc ?_ _)); exact BK136.out) hb); have n1_ := Aside0.mk (below_step (by repeat (first | (with_reducible first | exact HB.out | apply below_alloc | apply pw_below_drewN | apply below_drew1 | refine below_set ?_ GE136.out) | exact HB.out)) hb); clear BK136; clear HB; have BK136 := n0_; have HB := n1_; clear n0_ n1_; (try clear hb); (try clear hb2); (try clear hk); (try clear hi)))
    go_ret2
    exact ⟨_, by first | rfl | (simp [errW_none, errW_some] <;> rfl) | (simp [*, errW_none, errW_some] <;> rfl), by first | exact Kd.R_nil _ _ _ _ _ | exact Kd.N_nil _ _ _ _ _ | exact Kd.V_nil _ _ _ _ _ | exact Kd.Q_nil _ _ _ _ _ | exact Kd.S_nil _ _ _ _ _, by repeat (first | (with_reducible first | exact HB.out | apply below_alloc | apply pw_below_drewN | apply below_drew1 | refine below_set ?_ GE136.out) | exact HB.out)⟩

end Go.Proofs.Ytbidnolopbjlaaa.Q
end
section
/- The contract of ram.Write, for one who reads what it answers. -/
namespace Go.Proofs.Ytbidnolopbjlaaa.Q
open Go.RowKit Go.Proofs.YtbidnolopbjlaaaW.PrintWords Go.Proofs.YtbidnolopbjlaaaW.PrintLast Go.Proofs.YtbidnolopbjlaaaW.PrintMore Go.Proofs.Ytbidnolopbjlaaa.L
attribute [local go_sem] Instr.field part asAgg lt_step max2_int min2_int max_two min_two max_three min_three max_four min_four lt_0_1 lt_0_2 lt_1_2 lt_0_3 lt_1_3 lt_2_3 lt_0_4 lt_1_4 lt_2_4 lt_3_4 lt_0_5 lt_1_5 lt_2_5 lt_3_5 lt_4_5 lt_0_6 lt_1_6 lt_2_6 lt_3_6 lt_4_6 lt_5_6 lt_0_7 lt_1_7 lt_2_7 lt_3_7 lt_4_7 lt_5_7 lt_6_7 lt_0_8 lt_1_8 lt_2_8 lt_3_8 lt_4_8 lt_5_8 lt_6_8 lt_7_8
set_option linter.unusedVariables false
set_option linter.unusedSimpArgs false
def knownZ (s : Int) : Bool := s == 1 || s == 2 || s == 4 || s == 8
theorem align_is (s : Int) : bits_Align.f 0 s = some (knownZ s) := by
  by_cases h1 : 1 ≤ s ∧ s ≤ 8
  · have : s = 1 ∨ s = 2 ∨ s = 3 ∨ s = 4 ∨ s = 5 ∨ s = 6 ∨ s = 7 ∨ s = 8 := by omega
    rcases this with rfl | rfl | rfl | rfl | rfl | rfl | rfl | rfl <;> decide +kernel
  · have e : knownZ s = false := by
      unfold knownZ
      rw [beq_eq_false_iff_ne.2 (show s ≠ 1 by omega), beq_eq_false_iff_ne.2 (show s ≠ 2 by omega), beq_eq_false_iff_ne.2 (show s ≠ 4 by omega), beq_eq_false_iff_ne.2 (show s ≠ 8 by omega)]; rfl
    rw [e]
    unfold bits_Align.f
    by_cases h2 : s ≥ 1
    · rw [if_pos h2, if_neg (by omega)]
    · rw [if_neg h2]
def writeL (l : List Int) (at_ size x : Int) : List Int := if knownZ size = true then fillL l at_ (putB x size false) else l
def writeK (l : List Int) (at_ size x : Int) : Bool := knownZ size && (placeZ l.length at_ (putB x size false).length).2
theorem writeL_length (l : List Int) (at_ size x : Int) : (writeL l at_ size x).length = l.length := by unfold writeL; split; exact fillL_length _ _ _; rfl
theorem putB_small (x size : Int) (b : Bool) : (putB x size b).length ≤ 9223372036854775807 := by
  have := putN_le size
  unfold putB
  split
  · rw [List.length_reverse, putL_length]; omega
  · rw [putL_length]; omega
set_option maxHeartbeats 1600000 in
set_option maxRecDepth 100000 in
theorem ram_Write.runs (A : Option Addr) (c : Nat) (l : List Int) (at_ size x : Int) (w : World) (ok : Nat → Prop) (hr : Kd.F (Kd.int .u8) w ok A l.length l) (hc : l.length ≤ c) (hat : u64B at_) (hl : l.length < 140737488355328) :
    Calls Try.prog 22 #[.agg #[.slice A l.length c], .int .u64 at_, .int .i64 size, .int .u64 x] w fun e w' => ∃ A' c', e = .returned (.tuple #[.agg #[.slice A' (writeL l at_ size x).length c'], .bool (writeK l at_ size x)]) ∧ (writeL l at_ size x).length ≤ c' ∧ Kd.F (Kd.int .u8) w' (fun j => ok j ∨ w.heap.size ≤ j) A' (writeL l at_ size x).length (writeL l at_ size x) ∧ Below w.heap.size w w' := by
  have ha := align_is size
  have HB := Aside0.mk (Below.refl w.heap.size w)
  have HR := Aside0.mk (Kd.F_bound hr)
  have HC := Aside0.mk hc
  have HT := Aside0.mk hat
  have HL := Aside0.mk hl
  have hu := Try.underlying24
  unfold writeK writeL
  cases hk : knownZ size
  · rw [hk] at ha
    rw [if_neg (by decide), Bool.false_and]
    have HA := Aside0.mk ha
    clear ha hk hr hc hat hl
    go_enter Try.func22, Try.ntmps22
    go_wp2_with fail
    (go_at_call 32; (with_reducible refine (dr (bits_Align.calls 0 size false _ HA.out)).mono ?_); rintro e_ w1 ⟨rfl, hb_⟩; have HB_ : Aside0 (Below w.heap.size w w1) := Aside0.mk (below_step (by repeat (first | (with_reducible first | exact HB.out | exact Below.refl _ _ | apply below_alloc | apply pw_below_drewN | apply below_drew | refine below_set ?_ (by omega)) | exact HB.out)) hb_); have hzw1 := hb_.size; (try simp at hzw1); have oa_ := Aside0.mk (box_below hb_ (by repeat (with_reducible first | exact nb_1 w _ | apply ext_drew | apply ext_drewN | apply ext_alloc | refine blk_far ?_ (by show _ ≠ _; dsimp only; omega) _))); have ob_ := Aside0.mk (box_below hb_ (by repeat (with_reducible first | exact nb_2 w _ _ | apply ext_drew | apply ext_drewN | apply ext_alloc | refine blk_far ?_ (by show _ ≠ _; dsimp only; omega) _))); (try clear oa oac oaf oal); have oa := oa_; clear oa_; obtain ⟨oac, oaf, oal⟩ := cells_of oa.out; (try clear ob obc obf obl); have ob := ob_; clear ob_; obtain ⟨obc, obf, obl⟩ := cells_of ob.out; clear HB hb_; have HB := HB_; clear HB_)
    go_wp2
    refine bodyPost_ret (v := .tuple #[.agg #[.slice A l.length c], .bool false]) (by simp [results, Try.results22, go_sem, oac, obc] <;> first | assumption | omega | (symm; assumption)) rfl ?_
    exact ⟨A, c, rfl, HC.out, F_w HR.out (by repeat (first | (with_reducible first | exact HB.out | exact Below.refl _ _ | apply below_alloc | apply pw_below_drewN | apply below_drew | refine below_set ?_ (by omega)) | exact HB.out)) (fun _ h => .inl h.1), (by repeat (first | (with_reducible first | exact HB.out | exact Below.refl _ _ | apply below_alloc | apply pw_below_drewN | apply below_drew | refine below_set ?_ (by omega)) | exact HB.out))⟩
  · rw [hk] at ha
    rw [if_pos rfl, Bool.true_and]
    have HA := Aside0.mk ha
    clear ha hk hr hc hat hl
    go_enter Try.func22, Try.ntmps22
    go_wp2_with fail
    (go_at_call 32; (with_reducible refine (dr (bits_Align.calls 0 size true _ HA.out)).mono ?_); rintro e_ w1 ⟨rfl, hb_⟩; have HB_ : Aside0 (Below w.heap.size w w1) := Aside0.mk (below_step (by repeat (first | (with_reducible first | exact HB.out | exact Below.refl _ _ | apply below_alloc | apply pw_below_drewN | apply below_drew | refine below_set ?_ (by omega)) | exact HB.out)) hb_); have hzw1 := hb_.size; (try simp at hzw1); have oa_ := Aside0.mk (box_below hb_ (by repeat (with_reducible first | exact nb_1 w _ | apply ext_drew | apply ext_drewN | apply ext_alloc | refine blk_far ?_ (by show _ ≠ _; dsimp only; omega) _))); have ob_ := Aside0.mk (box_below hb_ (by repeat (with_reducible first | exact nb_2 w _ _ | apply ext_drew | apply ext_drewN | apply ext_alloc | refine blk_far ?_ (by show _ ≠ _; dsimp only; omega) _))); (try clear oa oac oaf oal); have oa := oa_; clear oa_; obtain ⟨oac, oaf, oal⟩ := cells_of oa.out; (try clear ob obc obf obl); have ob := ob_; clear ob_; obtain ⟨obc, obf, obl⟩ := cells_of ob.out; clear HB hb_; have HB := HB_; clear HB_)
    have HR_ := Aside0.mk (Kd.F_below HR.out HB.out)
    clear HR; have HR := HR_; clear HR_
    go_wp2_with fail
    go_region_with (first | (go_at_call 35; (with_reducible refine (bits_Put.calls x size false _ _ rfl).mono ?_); rintro e_ w2 ⟨v_q, rfl, hr_q, hb_⟩; have HB_ : Aside0 (Below w.heap.size w w2) := Aside0.mk (below_step (by repeat (first | (with_reducible first | exact HB.out | exact Below.refl _ _ | apply below_alloc | apply pw_below_drewN | apply below_drew | refine below_set ?_ (by omega)) | exact HB.out)) hb_); have hzw2 := hb_.size; (try simp at hzw2); have oa_ := Aside0.mk (box_below hb_ (by repeat (with_reducible first | exact oa.out | apply ext_drew | apply ext_drewN | apply ext_alloc | refine blk_far ?_ (by show _ ≠ _; dsimp only; omega) _))); have ob_ := Aside0.mk (box_below hb_ (by repeat (with_reducible first | exact ob.out | apply ext_drew | apply ext_drewN | apply ext_alloc | refine blk_far ?_ (by show _ ≠ _; dsimp only; omega) _))); have HR_ := Aside0.mk (Kd.F_below (by (repeat (with_reducible first | exact HR.out | apply Kd.F_drew | apply Kd.F_drewN | apply Kd.F_alloc | refine Kd.F_far ?_ ?_ _)); all_goals (intro j_ hj_; (try dsimp only at hj_); (try dsimp only); (try simp only [sz_alloc, sz_drew, sz_drewN, sz_set] at hj_); omega)) hb_); clear HR; have HR := HR_; clear HR_; (try clear oa oac oaf oal); have oa := oa_; clear oa_; obtain ⟨oac, oaf, oal⟩ := cells_of oa.out; (try clear ob obc obf obl); have ob := ob_; clear ob_; obtain ⟨obc, obf, obl⟩ := cells_of ob.out; clear HB hb_; have HB := HB_; clear HB_; obtain ⟨A_q, c_q, ev_, hc_q, hf_q⟩ := R_Fl hr_q; subst ev_; have qc := Aside0.mk hc_q; have q := Aside0.mk (Kd.F_bound hf_q); clear hc_q hf_q hr_q; skip) | (go_at_call 34; (with_reducible refine (ram_Fill.runs A c l at_ A_q c_q (putB x size false) _ _ _ HR.out HC.out (by (repeat (with_reducible first | exact q.out | apply Kd.F_drew | apply Kd.F_drewN | apply Kd.F_alloc | refine Kd.F_far ?_ ?_ _)); all_goals (intro j_ hj_; (try dsimp only at hj_); (try dsimp only); (try simp only [sz_alloc, sz_drew, sz_drewN, sz_set] at hj_); omega)) qc.out HT.out HL.out (putB_small _ _ _)).mono ?_); rintro e_ w3 ⟨A_s, c_s, rfl, hc_s, hr_s, hb_⟩; have HB_ : Aside0 (Below w.heap.size w w3) := Aside0.mk (below_step (by repeat (first | (with_reducible first | exact HB.out | exact Below.refl _ _ | apply below_alloc | apply pw_below_drewN | apply below_drew | refine below_set ?_ (by omega)) | exact HB.out)) hb_); have hzw3 := hb_.size; (try simp at hzw3); have oa_ := Aside0.mk (box_below hb_ (by repeat (with_reducible first | exact oa.out | apply ext_drew | apply ext_drewN | apply ext_alloc | refine blk_far ?_ (by show _ ≠ _; dsimp only; omega) _))); have ob_ := Aside0.mk (box_below hb_ (by repeat (with_reducible first | exact ob.out | apply ext_drew | apply ext_drewN | apply ext_alloc | refine blk_far ?_ (by show _ ≠ _; dsimp only; omega) _))); (try clear oa oac oaf oal); have oa := oa_; clear oa_; obtain ⟨oac, oaf, oal⟩ := cells_of oa.out; (try clear ob obc obf obl); have ob := ob_; clear ob_; obtain ⟨obc, obf, obl⟩ := cells_of ob.out; clear HB hb_; have HB := HB_; clear HB_; have sc := Aside0.mk hc_s; have s := Aside0.mk (Kd.F_bound hr_s); clear hc_s hr_s; skip))
    all_goals go_wp2
    all_goals refine bodyPost_ret (v := .tuple #[.agg #[.slice A_s (fillL l at_ (putB x size false)).length c_s], .bool (placeZ l.length at_ (putB x size false).length).2]) (by simp [results, Try.results22, go_sem, obc, obf] <;> first | assumption | omega | (symm; assumption)) rfl ?_
    all_goals exact ⟨A_s, c_s, rfl, sc.out, (by refine F_res (ok := ?_) ?_ ?_; rotate_left; (repeat (with_reducible first | exact s.out | apply Kd.F_drew | apply Kd.F_drewN | apply Kd.F_alloc | refine Kd.F_far ?_ ?_ _)); all_goals (intro j_ hj_; (try dsimp only at hj_); (try dsimp only); (try simp only [sz_alloc, sz_drew, sz_drewN, sz_set] at hj_); first | omega | exact .inl hj_.1 | exact .inl hj_ | exact .inr (by omega) | (rcases hj_ with hj_ | hj_; exact .inl hj_.1; exact .inr (by omega)) | (rcases hj_ with hj_ | hj_; exact .inl hj_; exact .inr (by omega)) | (rcases hj_.1 with hk_ | hk_; (first | exact .inl hk_.1 | exact .inl hk_); exact .inr (by omega)))), (by repeat (first | (with_reducible first | exact HB.out | exact Below.refl _ _ | apply below_alloc | apply pw_below_drewN | apply below_drew | refine below_set ?_ (by omega)) | exact HB.out))⟩
end Go.Proofs.Ytbidnolopbjlaaa.Q
end
section
/- The reference's Put (layer 1): a number's bytes. -/
set_option linter.unusedVariables false
namespace Go.Proofs.Ytbidnolopbjlaaa.Q
open Go.RowKit Go.Proofs.YtbidnolopbjlaaaW.PrintWords Go.Proofs.YtbidnolopbjlaaaW.PrintLast Go.Proofs.YtbidnolopbjlaaaW.PrintMore Go.Proofs.Ytbidnolopbjlaaa.L
theorem refput_loop (x : Int) (n : Int) (big : Bool) (hn : -9223372036854775808 ≤ n ∧ n ≤ 9223372036854775807) (d : Nat) : ∀ (k i : Nat), i ≤ putN n → putN n - i = d → 2 * d + 2 ≤ k →
    drawbridgeref01_Put.l0 k x n big (if big then (putL x i).reverse else putL x i) (i : Int) = some (putB x n big) := by
  have hN : (putN n : Int) = if n ≤ 0 then 0 else if 8 < n then 8 else n := by unfold putN; (repeat' split) <;> omega
  induction d with
  | zero =>
    intro k i hi hd hk
    obtain ⟨k, rfl⟩ : ∃ m, k = m + 2 := ⟨k - 2, by omega⟩
    have e : i = putN n := by omega
    simp only [drawbridgeref01_Put.l0, drawbridgeref01_Put.j1]
    have hx8 : (i : Int) < n → decide ((i : Int) < 8) = false := fun h => decide_eq_false (by split at hN <;> (try split at hN) <;> omega)
    by_cases hlt : (i : Int) < n
    · rw [if_pos hlt, hx8 hlt, if_neg (by decide), e]; rfl
    · rw [if_neg hlt, if_neg (by decide), e]; rfl
  | succ d ih =>
    intro k i hi hd hk
    obtain ⟨k, rfl⟩ : ∃ m, k = m + 2 := ⟨k - 2, by omega⟩
    have hlt : (i : Int) < n := by split at hN <;> (try split at hN) <;> omega
    have h8 : (i : Int) < 8 := by have := putN_le n; omega
    simp only [drawbridgeref01_Put.l0, drawbridgeref01_Put.j1]
    rw [if_pos hlt, decide_eq_true h8, if_pos rfl]
    have e8 : wrap64 (8 * (i : Int)) = ((8 * i : Nat) : Int) := by rw [w64 (by omega) (by omega)]; omega
    have ei : wrap64 ((i : Int) + 1) = ((i + 1 : Nat) : Int) := by rw [w64 (by omega) (by omega)]; omega
    rw [e8, u64_i64 (by omega) (by omega), if_pos (by omega), shr_u64 _ _ (by omega), ei]
    have es : putL x (i + 1) = putL x i ++ [x / 2 ^ (8 * i) % 256] := by
      unfold putL; rw [List.range_succ, List.map_append]; rfl
    have hl : (putL x i).length = i := putL_length x i
    have := ih k (i + 1) (by omega) (by omega) (by omega)
    cases big
    · simp only [Bool.false_eq_true, if_false] at this ⊢
      rw [hl, if_pos (by omega), ← es]
      exact this
    · simp only [if_true, Option.bind_some] at this ⊢
      rw [List.length_reverse, hl, if_pos (by simp; omega)]
      have er : [x / 2 ^ (8 * i) % 256] ++ (putL x i).reverse = (putL x (i + 1)).reverse := by rw [es, List.reverse_append]; rfl
      rw [er]
      exact this
theorem refput_tells (k : Nat) (hk : 18 ≤ k) (x n : Int) (big : Bool) (hn : -9223372036854775808 ≤ n ∧ n ≤ 9223372036854775807) : drawbridgeref01_Put.f k x n big = some (putB x n big) := by
  unfold drawbridgeref01_Put.f
  have h := refput_loop x n big hn (putN n) k 0 (Nat.zero_le _) (by omega) (by have := putN_le n; omega)
  have e : (if big then (putL x 0).reverse else putL x 0) = [] := by cases big <;> rfl
  rw [e] at h
  exact h
end Go.Proofs.Ytbidnolopbjlaaa.Q
end
section
/- Field (layer 1). -/
set_option linter.unusedVariables false
namespace Go.Proofs.Ytbidnolopbjlaaa.Q
open Go.RowKit Go.Proofs.YtbidnolopbjlaaaW.PrintWords Go.Proofs.YtbidnolopbjlaaaW.PrintLast Go.Proofs.YtbidnolopbjlaaaW.PrintMore Go.Proofs.Ytbidnolopbjlaaa.L
theorem field_tells (x h l : Int) (hx : u64B x) (hh : -9223372036854775808 ≤ h ∧ h ≤ 9223372036854775807) (hl : -9223372036854775808 ≤ l ∧ l ≤ 9223372036854775807) : bits_Field.f x h l = some (fieldZ x h l) := by
  unfold bits_Field.f fieldZ
  by_cases h1 : l < 0
  · rw [if_pos h1, if_pos (.inl h1)]
  · by_cases h2 : l > h
    · rw [if_neg h1, if_pos h2, if_pos (.inr (.inl h2))]
    · by_cases h3 : h ≥ 64
      · rw [if_neg h1, if_neg h2, if_pos h3, if_pos (.inr (.inr (by omega)))]
      · obtain ⟨L, rfl⟩ := Int.eq_ofNat_of_zero_le (show 0 ≤ l by omega)
        obtain ⟨H, rfl⟩ := Int.eq_ofNat_of_zero_le (show 0 ≤ h by omega)
        obtain ⟨X, rfl⟩ := Int.eq_ofNat_of_zero_le hx.1
        rw [if_neg h1, if_neg h2, if_neg h3, w64 (x := 63 - (H : Int)) (by omega) (by omega), w64 (x := 63 - (H : Int) + L) (by omega) (by omega), if_pos (by omega), if_pos (by omega), if_neg (by omega)]
        have e1 : (63 - (H : Int)) = ((63 - H : Nat) : Int) := by omega
        have e2 : (63 - (H : Int) + L) = ((63 - H + L : Nat) : Int) := by omega
        have e3 : ((H : Int) - L + 1).toNat = H - L + 1 := by omega
        rw [e2, e1, shl_u64 _ _ (by omega), shr_u64 _ _ (by omega), e3, Int.toNat_natCast]
        congr 1
        have e := field_nat X (63 - H) L (H - L + 1) (by omega)
        have e' : (((X * 2 ^ (63 - H) % 2 ^ 64 / 2 ^ (63 - H + L) : Nat)) : Int) = ((X / 2 ^ L % 2 ^ (H - L + 1) : Nat) : Int) := by rw [e]
        simpa using e'
end Go.Proofs.Ytbidnolopbjlaaa.Q
end
section
/- Sext (layer 1). -/
set_option linter.unusedVariables false
namespace Go.Proofs.Ytbidnolopbjlaaa.Q
open Go.RowKit Go.Proofs.YtbidnolopbjlaaaW.PrintWords Go.Proofs.YtbidnolopbjlaaaW.PrintLast Go.Proofs.YtbidnolopbjlaaaW.PrintMore Go.Proofs.Ytbidnolopbjlaaa.L
theorem sext_tells (x n : Int) (hx : u64B x) (hn : -9223372036854775808 ≤ n ∧ n ≤ 9223372036854775807) : bits_Sext.f x n = some (sextZ x n) := by
  unfold bits_Sext.f
  by_cases h1 : n ≤ 0
  · rw [if_pos h1, sextZ_le x n h1]
  · by_cases h2 : n ≥ 64
    · rw [if_neg h1, if_pos h2, sextZ_ge x n (by omega)]
    · obtain ⟨N, rfl⟩ := Int.eq_ofNat_of_zero_le (show 0 ≤ n by omega)
      obtain ⟨X, rfl⟩ := Int.eq_ofNat_of_zero_le hx.1
      rw [if_neg h1, if_neg h2, w64 (x := 64 - (N : Int)) (by omega) (by omega), if_pos (by omega)]
      have e1 : (64 - (N : Int)) = ((64 - N : Nat) : Int) := by omega
      rw [e1, shl_u64 _ _ (by omega)]
      unfold sextZ shr
      rw [if_neg (by omega), if_neg (by omega), Int.toNat_natCast, Int.toNat_natCast, show IntKind.i64.bits = 64 from rfl, Nat.min_eq_left (by omega)]
      have hp := two_pow_pos N
      have hq := two_pow_pos (64 - N)
      have hpq : (2 : Int) ^ (64 - N) * 2 ^ N = 18446744073709551616 := by
        rw [← Int.pow_add, show 64 - N + N = 64 by omega]; decide
      have hpp := two_pow_pred (n := N) (by omega)
      have hl := two_pow_lt64 (n := N) (by omega)
      have hlow : ((X : Int) * 2 ^ (64 - N) % 18446744073709551616) = 2 ^ (64 - N) * ((X : Int) % 2 ^ N) := by
        rw [← hpq, Int.mul_comm (X : Int), Int.mul_emod_mul_of_pos _ _ hq]
      rw [hlow]
      have hA0 := Int.emod_nonneg (X : Int) (Int.ne_of_gt hp)
      have hA1 := Int.emod_lt_of_pos (X : Int) hp
      clear hlow
      generalize (X : Int) % 2 ^ N = A at hA0 hA1 ⊢
      generalize (2 : Int) ^ (64 - N) = Q at hq hpq ⊢
      generalize (2 : Int) ^ N = P at hp hpq hpp hl hA1 ⊢
      generalize (2 : Int) ^ (N - 1) = R at hpp ⊢
      have hQA0 : 0 ≤ Q * A := Int.mul_nonneg (Int.le_of_lt hq) hA0
      by_cases hlt : A < R
      · rw [if_pos hlt]
        have h2A : Q * A < 9223372036854775808 := by
          have h1 : Q * A < Q * R := Int.mul_lt_mul_of_pos_left hlt hq
          have h2 : Q * P = 2 * (Q * R) := by rw [hpp, ← Int.mul_assoc, Int.mul_comm Q 2, Int.mul_assoc]
          omega
        rw [w64 (by omega) (by omega), Int.mul_ediv_cancel_left _ (Int.ne_of_gt hq), u64_i64 hA0 (by omega)]
      · rw [if_neg hlt]
        have h2A : 9223372036854775808 ≤ Q * A := by
          have h1 : Q * R ≤ Q * A := Int.mul_le_mul_of_nonneg_left (by omega) (Int.le_of_lt hq)
          have h2 : Q * P = 2 * (Q * R) := by rw [hpp, ← Int.mul_assoc, Int.mul_comm Q 2, Int.mul_assoc]
          omega
        have h2B : Q * A < 18446744073709551616 := by
          have h1 : Q * A < Q * P := Int.mul_lt_mul_of_pos_left hA1 hq
          omega
        have hw : wrap64 (Q * A) = Q * (A - P) := by
          rw [Int.mul_sub, hpq]; unfold wrap64; omega
        rw [hw, Int.mul_ediv_cancel_left _ (Int.ne_of_gt hq), IntKind.wrap_u64]
        congr 1
        omega
/-! ### Align -/
end Go.Proofs.Ytbidnolopbjlaaa.Q
end
section
/- ram.Fill and ram.Write, as those who call them have it. -/
namespace Go.Proofs.Ytbidnolopbjlaaa.Q
open Go.RowKit Go.Proofs.YtbidnolopbjlaaaW.PrintWords Go.Proofs.YtbidnolopbjlaaaW.PrintLast Go.Proofs.YtbidnolopbjlaaaW.PrintMore Go.Proofs.Ytbidnolopbjlaaa.L
attribute [local go_sem] Instr.field part asAgg lt_step max2_int min2_int max_two min_two max_three min_three max_four min_four lt_0_1 lt_0_2 lt_1_2 lt_0_3 lt_1_3 lt_2_3 lt_0_4 lt_1_4 lt_2_4 lt_3_4 lt_0_5 lt_1_5 lt_2_5 lt_3_5 lt_4_5 lt_0_6 lt_1_6 lt_2_6 lt_3_6 lt_4_6 lt_5_6 lt_0_7 lt_1_7 lt_2_7 lt_3_7 lt_4_7 lt_5_7 lt_6_7 lt_0_8 lt_1_8 lt_2_8 lt_3_8 lt_4_8 lt_5_8 lt_6_8 lt_7_8
set_option linter.unusedVariables false
set_option linter.unusedSimpArgs false
def ram_Fill.f (l : List Int) (a : Int) (b : List Int) : Option (List Int × Bool) := if u64B a ∧ l.length < 140737488355328 ∧ b.length ≤ 9223372036854775807 then some (fillL l a b, (placeZ l.length a b.length).2) else none
theorem ram_Fill.calls (P0_0_ : Nat → Prop) (A0_0 : Option Addr) (c0_0 : Nat) (l0_0 : List Int) (a1 : Int) (A2 : Option Addr) (c2 : Nat) (l2 : List Int) (r1 : List Int) (r2 : Bool) (w : World) (hs0_0 : Kd.V (Kd.int .u8) 5 w w.heap.size (fun k_ => P0_0_ k_) (.slice A0_0 l0_0.length c0_0) l0_0) (hr2 : Kd.C (Kd.int .u8) w A2 l2.length l2) (hc2 : l2.length ≤ c2) (h : ram_Fill.f l0_0 a1 l2 = some (r1, r2)) :
    Calls Try.prog 34 #[.agg #[.slice A0_0 l0_0.length c0_0], .int .u64 a1, .slice A2 l2.length c2] w fun e w' => ∃ v0_ : Value, e = .returned (.tuple #[.agg #[v0_], .bool r2]) ∧ Kd.V (Kd.int .u8) 5 w' w.heap.size (fun k_ => (P0_0_ k_ ∨ w.heap.size ≤ k_)) v0_ r1 ∧ Below w.heap.size w w' := by
  unfold ram_Fill.f at h
  split at h
  case isFalse => cases h
  case isTrue hh =>
  obtain ⟨ha, hl, hb⟩ := hh
  injection h with h
  injection h with e1 e2
  subst e1; subst e2
  obtain ⟨_, hc, hF⟩ := V_F hs0_0
  refine (ram_Fill.runs A0_0 c0_0 l0_0 a1 A2 c2 l2 w P0_0_ _ hF hc (F_in hr2) hc2 ha hl hb).mono ?_
  rintro e w' ⟨A', c', he, hc', hF', hB⟩
  exact ⟨_, he, ⟨A', c', rfl, hc', hF'⟩, hB⟩
def ram_Write.f (l : List Int) (a size x : Int) : Option (List Int × Bool) := if u64B a ∧ l.length < 140737488355328 then some (writeL l a size x, writeK l a size x) else none
theorem ram_Write.calls (P0_0_ : Nat → Prop) (A0_0 : Option Addr) (c0_0 : Nat) (l0_0 : List Int) (a1 : Int) (a2 : Int) (a3 : Int) (r1 : List Int) (r2 : Bool) (w : World) (hs0_0 : Kd.V (Kd.int .u8) 5 w w.heap.size (fun k_ => P0_0_ k_) (.slice A0_0 l0_0.length c0_0) l0_0) (h : ram_Write.f l0_0 a1 a2 a3 = some (r1, r2)) :
    Calls Try.prog 22 #[.agg #[.slice A0_0 l0_0.length c0_0], .int .u64 a1, .int .i64 a2, .int .u64 a3] w fun e w' => ∃ v0_ : Value, e = .returned (.tuple #[.agg #[v0_], .bool r2]) ∧ Kd.V (Kd.int .u8) 5 w' w.heap.size (fun k_ => (P0_0_ k_ ∨ w.heap.size ≤ k_)) v0_ r1 ∧ Below w.heap.size w w' := by
  unfold ram_Write.f at h
  split at h
  case isFalse => cases h
  case isTrue hh =>
  obtain ⟨ha, hl⟩ := hh
  injection h with h
  injection h with e1 e2
  subst e1; subst e2
  obtain ⟨_, hc, hF⟩ := V_F hs0_0
  refine (ram_Write.runs A0_0 c0_0 l0_0 a1 a2 a3 w P0_0_ hF hc ha hl).mono ?_
  rintro e w' ⟨A', c', he, hc', hF', hB⟩
  exact ⟨_, he, ⟨A', c', rfl, hc', hF'⟩, hB⟩
end Go.Proofs.Ytbidnolopbjlaaa.Q
end
section
/- What is told of memory: cuts, numbers (layer 7). -/
set_option linter.unusedVariables false
namespace Go.Proofs.Ytbidnolopbjlaaa.Q
open Go.RowKit Go.Proofs.YtbidnolopbjlaaaW.PrintWords Go.Proofs.YtbidnolopbjlaaaW.PrintLast Go.Proofs.YtbidnolopbjlaaaW.PrintMore Go.Proofs.Ytbidnolopbjlaaa.L
def i64B (x : Int) : Prop := -9223372036854775808 ≤ x ∧ x ≤ 9223372036854775807
def cutL (l : List Int) (a k : Int) : List Int := (l.take (a - 2147483648 + k).toNat).drop (a - 2147483648).toNat
def bytesZ (l : List Int) (a k : Int) : List Int × Bool := if (placeZ l.length a k).2 = true then (cutL l a k, true) else ([], false)
def readZ (l : List Int) (a s : Int) : Int × Bool := if (placeZ l.length a s).2 = true ∧ knownZ s = true then (getB (cutL l a s) false, true) else (0, false)
theorem placeZ_cases (n a k : Int) : (2147483648 ≤ a ∧ 0 ≤ k ∧ a - 2147483648 + k ≤ n ∧ placeZ n a k = (a - 2147483648, true)) ∨ (¬ (2147483648 ≤ a ∧ 0 ≤ k ∧ a - 2147483648 + k ≤ n) ∧ placeZ n a k = (0, false)) := by
  unfold placeZ
  by_cases h : 2147483648 ≤ a ∧ 0 ≤ k ∧ a - 2147483648 + k ≤ n
  · exact .inl ⟨h.1, h.2.1, h.2.2, if_pos h⟩
  · exact .inr ⟨h, if_neg h⟩
theorem cutL_byte (l : List Int) (a k : Int) (hb : ∀ z ∈ l, byte z) : ∀ z ∈ (cutL l a k).take 8, byte z := fun z hz => hb z (List.mem_of_mem_take (List.mem_of_mem_drop (List.mem_of_mem_take hz)))
theorem byte_wf {z : Int} (h : (Lit.int .u8 z).wf = true) : byte z := by
  simp only [Lit.wf, Bool.and_eq_true, decide_eq_true_eq] at h
  have h1 : IntKind.u8.min = 0 := rfl
  have h2 : IntKind.u8.max = 255 := rfl
  exact ⟨by omega, by omega⟩
theorem i64_wf {z : Int} (h : (Lit.int .i64 z).wf = true) : i64B z := by
  simp only [Lit.wf, Bool.and_eq_true, decide_eq_true_eq] at h
  have h1 : IntKind.i64.min = -9223372036854775808 := rfl
  have h2 : IntKind.i64.max = 9223372036854775807 := rfl
  exact ⟨by omega, by omega⟩
theorem u64_wf {z : Int} (h : (Lit.int .u64 z).wf = true) : u64B z := by
  simp only [Lit.wf, Bool.and_eq_true, decide_eq_true_eq] at h
  have h1 : IntKind.u64.min = 0 := rfl
  have h2 : IntKind.u64.max = 18446744073709551615 := rfl
  exact ⟨by omega, by omega⟩
theorem putB_byte (x s : Int) (b : Bool) : ∀ z ∈ putB x s b, byte z := by
  intro z hz
  unfold putB at hz
  split at hz
  · exact putL_byte _ _ z (List.mem_reverse.1 hz)
  · exact putL_byte _ _ z hz
theorem splice_byte (l b : List Int) (i : Nat) (hl : ∀ z ∈ l, byte z) (hb : ∀ z ∈ b, byte z) : ∀ z ∈ splice l i b, byte z := by
  intro z hz
  unfold splice at hz
  rcases List.mem_append.1 hz with h | h
  · exact hl z (List.mem_of_mem_take h)
  · rcases List.mem_append.1 h with h | h
    · exact hb z h
    · exact hl z (List.mem_of_mem_drop h)
theorem fillL_byte (l : List Int) (a : Int) (b : List Int) (hl : ∀ z ∈ l, byte z) (hb : ∀ z ∈ b, byte z) : ∀ z ∈ fillL l a b, byte z := by
  unfold fillL; split
  · exact splice_byte l b _ hl hb
  · exact hl
theorem writeL_byte (l : List Int) (a s x : Int) (hl : ∀ z ∈ l, byte z) : ∀ z ∈ writeL l a s x, byte z := by
  unfold writeL; split
  · exact fillL_byte l a _ hl (putB_byte x s false)
  · exact hl
end Go.Proofs.Ytbidnolopbjlaaa.Q
end
section
/- The reference's Write, as those who call it have it. -/
namespace Go.Proofs.Ytbidnolopbjlaaa.Q
open Go.RowKit Go.Proofs.YtbidnolopbjlaaaW.PrintWords Go.Proofs.YtbidnolopbjlaaaW.PrintLast Go.Proofs.YtbidnolopbjlaaaW.PrintMore Go.Proofs.Ytbidnolopbjlaaa.L
attribute [local go_sem] Instr.field part asAgg lt_step max2_int min2_int max_two min_two max_three min_three max_four min_four lt_0_1 lt_0_2 lt_1_2 lt_0_3 lt_1_3 lt_2_3 lt_0_4 lt_1_4 lt_2_4 lt_3_4 lt_0_5 lt_1_5 lt_2_5 lt_3_5 lt_4_5 lt_0_6 lt_1_6 lt_2_6 lt_3_6 lt_4_6 lt_5_6 lt_0_7 lt_1_7 lt_2_7 lt_3_7 lt_4_7 lt_5_7 lt_6_7 lt_0_8 lt_1_8 lt_2_8 lt_3_8 lt_4_8 lt_5_8 lt_6_8 lt_7_8
set_option linter.unusedVariables false
set_option linter.unusedSimpArgs false
def drawbridgeref07_Write.f (l : List Int) (a size x : Int) : Option (List Int × Bool) := if -9223372036854775808 ≤ size ∧ size ≤ 9223372036854775807 then (if knownZ size = true then drawbridgeref07_Fill.f l a (putB x size false) else some (l, false)) else none
theorem known_is (s : Int) : drawbridgeref07_known.f s = some (knownZ s) := by
  unfold drawbridgeref07_known.f knownZ
  by_cases h1 : s = 1
  · subst h1; rfl
  by_cases h2 : s = 2
  · subst h2; rfl
  by_cases h4 : s = 4
  · subst h4; rfl
  rw [if_neg h1, if_neg h2, if_neg h4, beq_eq_false_iff_ne.2 h1, beq_eq_false_iff_ne.2 h2, beq_eq_false_iff_ne.2 h4]
  rfl
set_option maxHeartbeats 1600000 in
set_option maxRecDepth 100000 in
theorem drawbridgeref07_Write.calls (P0_0_ : Nat → Prop) (A0_0 : Option Addr) (c0_0 : Nat) (l0_0 : List Int) (a1 : Int) (a2 : Int) (a3 : Int) (r1 : List Int) (r2 : Bool) (w : World) (hs0_0 : Kd.V (Kd.int .u8) 5 w w.heap.size (fun k_ => P0_0_ k_) (.slice A0_0 l0_0.length c0_0) l0_0) (h : drawbridgeref07_Write.f l0_0 a1 a2 a3 = some (r1, r2)) :
    Calls Try.prog 15 #[.agg #[.slice A0_0 l0_0.length c0_0], .int .u64 a1, .int .i64 a2, .int .u64 a3] w fun e w' => ∃ v0_ : Value, e = .returned (.tuple #[.agg #[v0_], .bool r2]) ∧ Kd.V (Kd.int .u8) 5 w' w.heap.size (fun k_ => (P0_0_ k_ ∨ w.heap.size ≤ k_)) v0_ r1 ∧ Below w.heap.size w w' := by
  unfold drawbridgeref07_Write.f at h
  split at h
  case isFalse => cases h
  case isTrue hx =>
  obtain ⟨_, hc, hF⟩ := V_F hs0_0
  have ha := known_is a2
  have HB := Aside0.mk (Below.refl w.heap.size w)
  have HR := Aside0.mk (Kd.F_bound hF)
  have HC := Aside0.mk hc
  have HX := Aside0.mk hx
  have hu := Try.underlying24
  cases hk : knownZ a2
  · rw [hk] at ha h
    rw [if_neg (by decide)] at h
    injection h with h
    injection h with e1 e2
    subst e1; subst e2
    have HA := Aside0.mk ha
    clear ha hk hF hc hs0_0 hx
    go_enter Try.func15, Try.ntmps15
    go_wp2_with fail
    (go_at_call 26; (with_reducible refine (dr (drawbridgeref07_known.calls _ false _ HA.out)).mono ?_); rintro e_ w1 ⟨rfl, hb_⟩; have HB_ : Aside0 (Below w.heap.size w w1) := Aside0.mk (below_step (by repeat (first | (with_reducible first | exact HB.out | exact Below.refl _ _ | apply below_alloc | apply pw_below_drewN | apply below_drew | refine below_set ?_ (by omega)) | exact HB.out)) hb_); have hzw1 := hb_.size; (try simp at hzw1); have oa_ := Aside0.mk (box_below hb_ (by repeat (with_reducible first | exact nb_1 w _ | apply ext_drew | apply ext_drewN | apply ext_alloc | refine blk_far ?_ (by show _ ≠ _; dsimp only; omega) _))); have ob_ := Aside0.mk (box_below hb_ (by repeat (with_reducible first | exact nb_2 w _ _ | apply ext_drew | apply ext_drewN | apply ext_alloc | refine blk_far ?_ (by show _ ≠ _; dsimp only; omega) _))); (try clear oa oac oaf oal); have oa := oa_; clear oa_; obtain ⟨oac, oaf, oal⟩ := cells_of oa.out; (try clear ob obc obf obl); have ob := ob_; clear ob_; obtain ⟨obc, obf, obl⟩ := cells_of ob.out; clear HB hb_; have HB := HB_; clear HB_)
    go_wp2
    refine bodyPost_ret (v := .tuple #[.agg #[.slice A0_0 l0_0.length c0_0], .bool false]) (by simp [results, Try.results15, go_sem, oac, obc] <;> first | assumption | omega | (symm; assumption)) rfl ?_
    exact ⟨_, rfl, ⟨A0_0, c0_0, rfl, HC.out, F_w HR.out (by repeat (first | (with_reducible first | exact HB.out | exact Below.refl _ _ | apply below_alloc | apply pw_below_drewN | apply below_drew | refine below_set ?_ (by omega)) | exact HB.out)) (fun _ h => .inl h.1)⟩, (by repeat (first | (with_reducible first | exact HB.out | exact Below.refl _ _ | apply below_alloc | apply pw_below_drewN | apply below_drew | refine below_set ?_ (by omega)) | exact HB.out))⟩
  · rw [hk] at ha h
    rw [if_pos rfl] at h
    have hp := refput_tells 18 (by omega) a3 a2 false hx
    have HA := Aside0.mk ha
    have HF := Aside0.mk h
    have HP := Aside0.mk hp
    clear ha hk hF hc hs0_0 h hp hx
    go_enter Try.func15, Try.ntmps15
    go_wp2_with fail
    (go_at_call 26; (with_reducible refine (dr (drawbridgeref07_known.calls _ true _ HA.out)).mono ?_); rintro e_ w1 ⟨rfl, hb_⟩; have HB_ : Aside0 (Below w.heap.size w w1) := Aside0.mk (below_step (by repeat (first | (with_reducible first | exact HB.out | exact Below.refl _ _ | apply below_alloc | apply pw_below_drewN | apply below_drew | refine below_set ?_ (by omega)) | exact HB.out)) hb_); have hzw1 := hb_.size; (try simp at hzw1); have oa_ := Aside0.mk (box_below hb_ (by repeat (with_reducible first | exact nb_1 w _ | apply ext_drew | apply ext_drewN | apply ext_alloc | refine blk_far ?_ (by show _ ≠ _; dsimp only; omega) _))); have ob_ := Aside0.mk (box_below hb_ (by repeat (with_reducible first | exact nb_2 w _ _ | apply ext_drew | apply ext_drewN | apply ext_alloc | refine blk_far ?_ (by show _ ≠ _; dsimp only; omega) _))); (try clear oa oac oaf oal); have oa := oa_; clear oa_; obtain ⟨oac, oaf, oal⟩ := cells_of oa.out; (try clear ob obc obf obl); have ob := ob_; clear ob_; obtain ⟨obc, obf, obl⟩ := cells_of ob.out; clear HB hb_; have HB := HB_; clear HB_)
    have HR_ := Aside0.mk (Kd.F_below HR.out HB.out)
    clear HR; have HR := HR_; clear HR_
    go_wp2_with fail
    go_region_with (first | (go_at_call 28; (with_reducible refine (drawbridgeref01_Put.calls 18 _ _ _ _ _ HP.out).mono ?_); rintro e_ w2 ⟨v_q, rfl, hr_q, hb_⟩; have HB_ : Aside0 (Below w.heap.size w w2) := Aside0.mk (below_step (by repeat (first | (with_reducible first | exact HB.out | exact Below.refl _ _ | apply below_alloc | apply pw_below_drewN | apply below_drew | refine below_set ?_ (by omega)) | exact HB.out)) hb_); have hzw2 := hb_.size; (try simp at hzw2); have oa_ := Aside0.mk (box_below hb_ (by repeat (with_reducible first | exact oa.out | apply ext_drew | apply ext_drewN | apply ext_alloc | refine blk_far ?_ (by show _ ≠ _; dsimp only; omega) _))); have ob_ := Aside0.mk (box_below hb_ (by repeat (with_reducible first | exact ob.out | apply ext_drew | apply ext_drewN | apply ext_alloc | refine blk_far ?_ (by show _ ≠ _; dsimp only; omega) _))); have HR_ := Aside0.mk (Kd.F_below (by (repeat (with_reducible first | exact HR.out | apply Kd.F_drew | apply Kd.F_drewN | apply Kd.F_alloc | refine Kd.F_far ?_ ?_ _)); all_goals (intro j_ hj_; (try dsimp only at hj_); (try dsimp only); (try simp only [sz_alloc, sz_drew, sz_drewN, sz_set] at hj_); omega)) hb_); clear HR; have HR := HR_; clear HR_; (try clear oa oac oaf oal); have oa := oa_; clear oa_; obtain ⟨oac, oaf, oal⟩ := cells_of oa.out; (try clear ob obc obf obl); have ob := ob_; clear ob_; obtain ⟨obc, obf, obl⟩ := cells_of ob.out; clear HB hb_; have HB := HB_; clear HB_; obtain ⟨A_q, c_q, ev_, hc_q, hf_q⟩ := R_Fl hr_q; subst ev_; have qc := Aside0.mk hc_q; have q := Aside0.mk (Kd.F_bound hf_q); clear hc_q hf_q hr_q; skip) | (go_at_call 27; (with_reducible refine (drawbridgeref07_Fill.calls _ A0_0 c0_0 l0_0 a1 A_q c_q _ r1 r2 _ (Kd.V_mk HC.out HR.out) (Kd.F_now (by (repeat (with_reducible first | exact q.out | apply Kd.F_drew | apply Kd.F_drewN | apply Kd.F_alloc | refine Kd.F_far ?_ ?_ _)); all_goals (intro j_ hj_; (try dsimp only at hj_); (try dsimp only); (try simp only [sz_alloc, sz_drew, sz_drewN, sz_set] at hj_); omega))) qc.out HF.out).mono ?_); rintro e_ w3 ⟨v_s, rfl, ⟨A_s, c_s, rfl, hc_s, hr_s⟩, hb_⟩; have HB_ : Aside0 (Below w.heap.size w w3) := Aside0.mk (below_step (by repeat (first | (with_reducible first | exact HB.out | exact Below.refl _ _ | apply below_alloc | apply pw_below_drewN | apply below_drew | refine below_set ?_ (by omega)) | exact HB.out)) hb_); have hzw3 := hb_.size; (try simp at hzw3); have oa_ := Aside0.mk (box_below hb_ (by repeat (with_reducible first | exact oa.out | apply ext_drew | apply ext_drewN | apply ext_alloc | refine blk_far ?_ (by show _ ≠ _; dsimp only; omega) _))); have ob_ := Aside0.mk (box_below hb_ (by repeat (with_reducible first | exact ob.out | apply ext_drew | apply ext_drewN | apply ext_alloc | refine blk_far ?_ (by show _ ≠ _; dsimp only; omega) _))); (try clear oa oac oaf oal); have oa := oa_; clear oa_; obtain ⟨oac, oaf, oal⟩ := cells_of oa.out; (try clear ob obc obf obl); have ob := ob_; clear ob_; obtain ⟨obc, obf, obl⟩ := cells_of ob.out; clear HB hb_; have HB := HB_; clear HB_; have sc := Aside0.mk hc_s; have s := Aside0.mk (Kd.F_bound hr_s); clear hc_s hr_s; skip))
    all_goals go_wp2
    all_goals refine bodyPost_ret (v := .tuple #[.agg #[.slice A_s r1.length c_s], .bool r2]) (by simp [results, Try.results15, go_sem, obc, obf] <;> first | assumption | omega | (symm; assumption)) rfl ?_
    all_goals exact ⟨_, rfl, ⟨A_s, c_s, rfl, sc.out, (by refine F_res (ok := ?_) ?_ ?_; rotate_left; (repeat (with_reducible first | exact s.out | apply Kd.F_drew | apply Kd.F_drewN | apply Kd.F_alloc | refine Kd.F_far ?_ ?_ _)); all_goals (intro j_ hj_; (try dsimp only at hj_); (try dsimp only); (try simp only [sz_alloc, sz_drew, sz_drewN, sz_set] at hj_); first | omega | exact .inl hj_.1 | exact .inl hj_ | exact .inr (by omega) | (rcases hj_ with hj_ | hj_; exact .inl hj_.1; exact .inr (by omega)) | (rcases hj_ with hj_ | hj_; exact .inl hj_; exact .inr (by omega)) | (rcases hj_.1 with hk_ | hk_; (first | exact .inl hk_.1 | exact .inl hk_); exact .inr (by omega))))⟩, (by repeat (first | (with_reducible first | exact HB.out | exact Below.refl _ _ | apply below_alloc | apply pw_below_drewN | apply below_drew | refine below_set ?_ (by omega)) | exact HB.out))⟩
end Go.Proofs.Ytbidnolopbjlaaa.Q
end
section
/- Read (layer 7). -/
set_option linter.unusedVariables false
namespace Go.Proofs.Ytbidnolopbjlaaa.Q
open Go.RowKit Go.Proofs.YtbidnolopbjlaaaW.PrintWords Go.Proofs.YtbidnolopbjlaaaW.PrintLast Go.Proofs.YtbidnolopbjlaaaW.PrintMore Go.Proofs.Ytbidnolopbjlaaa.L
section
variable (l : List Int) (a k : Int) (ha : u64B a) (hk : i64B k) (hl : (l.length : Int) ≤ 70000)
include ha hk hl
theorem read_is (hb : ∀ z ∈ l, byte z) (m : Nat) : ram_Read.f (m + 3) l a k = some (readZ l a k) := by
  have hby := cutL_byte l a k hb
  unfold ram_Read.f readZ
  rw [place_is l a k ha hk (by omega) m, Option.bind_some, align_is, Option.bind_some]
  obtain ⟨k0, k1⟩ := hk
  rcases placeZ_cases l.length a k with ⟨h1, h2, h3, e⟩ | ⟨_, e⟩
  · rw [e]
    have e1 : wrap64 (a - 2147483648 + k) = a - 2147483648 + k := w64 (by omega) (by omega)
    simp only [if_true, e1, true_and]
    cases knownZ k
    · simp
    · simp only [if_true]
      rw [if_pos (by omega), if_pos (by omega), if_pos (by omega)]
      have hg : bits_Get.f ((l.take (a - 2147483648 + k).toNat).drop (a - 2147483648).toNat) false = some (getB (cutL l a k) false) := by
        unfold bits_Get.f; exact if_pos hby
      rw [hg]; rfl
  · rw [e]; simp
end
end Go.Proofs.Ytbidnolopbjlaaa.Q
end
