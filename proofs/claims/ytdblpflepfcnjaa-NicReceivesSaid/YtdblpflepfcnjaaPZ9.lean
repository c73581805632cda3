import Derived.Test.YtdblpflepfcnjaaPZ1
import Derived.Test.YtdblpflepfcnjaaPZ8
import Derived.Test.YtdblpflepfcnjaaPZ6
import Derived.Test.YtdblpflepfcnjaaPZ3
import Derived.Test.YtdblpflepfcnjaaPZ7
section
/- The document's Send: a bad frame. -/
namespace Go.Proofs.Ytdblpflepfcnjaa.Q
open Go.RowKit Go.Proofs.YtdblpflepfcnjaaW.PrintWords Go.Proofs.YtdblpflepfcnjaaW.PrintLast Go.Proofs.YtdblpflepfcnjaaW.PrintMore Go.Proofs.Ytdblpflepfcnjaa.L
attribute [local go_sem] Instr.field part asAgg lt_step max2_int min2_int max_two min_two max_three min_three max_four min_four lt_0_1 lt_0_2 lt_1_2 lt_0_3 lt_1_3 lt_2_3 lt_0_4 lt_1_4 lt_2_4 lt_3_4 lt_0_5 lt_1_5 lt_2_5 lt_3_5 lt_4_5 lt_0_6 lt_1_6 lt_2_6 lt_3_6 lt_4_6 lt_5_6 lt_0_7 lt_1_7 lt_2_7 lt_3_7 lt_4_7 lt_5_7 lt_6_7 lt_0_8 lt_1_8 lt_2_8 lt_3_8 lt_4_8 lt_5_8 lt_6_8 lt_7_8
set_option linter.unusedVariables false
set_option linter.unusedSimpArgs false
theorem flagD_is (d : List Int) : d.getD 10 0 = flagD d := rfl
theorem restD_is (d : List Int) : d.getD 11 0 = restD d := rfl
theorem rget_c (n : Nat) (A : Option Addr) (c : Nat) (l : List Int) (w : World) (hn : l.length = n) (hr : Kd.C (Kd.int .u8) w A n l) (hc : n ≤ c) (hb : ∀ x ∈ l, byte x) :
    Calls Try.prog 39 #[.slice A n c, .bool false] w fun e w' => e = .returned (.int .u64 (getB l false)) ∧ Below w.heap.size w w' := by
  subst hn
  exact drawbridgeref01_Get.calls A c l false _ w hr hc (by unfold drawbridgeref01_Get.f; exact if_pos (fun x hx => hb x (List.mem_of_mem_take hx)))
theorem rget_buf (A : Option Addr) (c : Nat) (d : List Int) (w : World) (hn : d.length = 16) (hb : ∀ x ∈ d, byte x) (hr : Kd.C (Kd.int .u8) w A 8 (d.take 8)) (hc : 8 ≤ c) :
    Calls Try.prog 39 #[.slice A 8 c, .bool false] w fun e w' => e = .returned (.int .u64 (bufD d)) ∧ Below w.heap.size w w' :=
  rget_c 8 A c (d.take 8) w (by simp [hn]) hr hc (fun z hz => hb z (List.mem_of_mem_take hz))
theorem rget_size (A : Option Addr) (c : Nat) (d : List Int) (w : World) (hn : d.length = 16) (hb : ∀ x ∈ d, byte x) (hr : Kd.C (Kd.int .u8) w A 2 ((d.drop 8).take 2)) (hc : 2 ≤ c) :
    Calls Try.prog 39 #[.slice A 2 c, .bool false] w fun e w' => e = .returned (.int .u64 (sizeD d)) ∧ Below w.heap.size w w' :=
  rget_c 2 A c ((d.drop 8).take 2) w (by simp [hn]) hr hc (fun z hz => hb z (List.mem_of_mem_drop (List.mem_of_mem_take hz)))
end Go.Proofs.Ytdblpflepfcnjaa.Q
end
section
/- The document's Send, whole: it answers as the program's. -/
namespace Go.Proofs.Ytdblpflepfcnjaa.Q
open Go.RowKit Go.Proofs.YtdblpflepfcnjaaW.PrintWords Go.Proofs.YtdblpflepfcnjaaW.PrintLast Go.Proofs.YtdblpflepfcnjaaW.PrintMore Go.Proofs.Ytdblpflepfcnjaa.L
set_option linter.unusedVariables false
theorem tm2 (x : Int) (h : 0 ≤ x) : (Int.tmod x 2 == 0) = (x % 2 == 0) := by rw [Int.tmod_eq_emod_of_nonneg h]
section
variable (A : Option Addr) (m cap : Nat) (R : Option Addr) (rc : Nat) (l : List Int) (c : Nat → Int) (w : World) (ok : Nat → Prop) (hr : Kd.F (Kd.int .u8) w ok R l.length l) (hc : l.length ≤ rc) (hl : (l.length : Int) ≤ 70000) (hby : ∀ z ∈ l, byte z) (h3 : 0 ≤ c 3) (h7 : 0 ≤ c 7)
include hr hc hl hby h3 h7
end
end Go.Proofs.Ytdblpflepfcnjaa.Q
end
section
/- The law's own memory; the document's Same on equal controllers. -/
namespace Go.Proofs.Ytdblpflepfcnjaa.Q
open Go.RowKit Go.Proofs.YtdblpflepfcnjaaW.PrintWords Go.Proofs.YtdblpflepfcnjaaW.PrintLast Go.Proofs.YtdblpflepfcnjaaW.PrintMore Go.Proofs.Ytdblpflepfcnjaa.L
attribute [local go_sem] Instr.field part asAgg lt_step max2_int min2_int max_two min_two max_three min_three max_four min_four lt_0_1 lt_0_2 lt_1_2 lt_0_3 lt_1_3 lt_2_3 lt_0_4 lt_1_4 lt_2_4 lt_3_4 lt_0_5 lt_1_5 lt_2_5 lt_3_5 lt_4_5 lt_0_6 lt_1_6 lt_2_6 lt_3_6 lt_4_6 lt_5_6 lt_0_7 lt_1_7 lt_2_7 lt_3_7 lt_4_7 lt_5_7 lt_6_7 lt_0_8 lt_1_8 lt_2_8 lt_3_8 lt_4_8 lt_5_8 lt_6_8 lt_7_8
set_option linter.unusedVariables false
set_option linter.unusedSimpArgs false
set_option maxHeartbeats 1600000 in
set_option maxRecDepth 100000 in
theorem lawown_is (R : Option Addr) (rc : Nat) (l : List Int) (w : World) (ok : Nat → Prop) (hr : Kd.F (Kd.int .u8) w ok R l.length l) (hc : l.length ≤ rc) (hl : (l.length : Int) ≤ 70000) :
    Calls Try.prog 23 #[.agg #[.slice R l.length rc]] w fun e w' => ∃ A' c', e = .returned (.agg #[.slice A' l.length c']) ∧ l.length ≤ c' ∧ Kd.F (Kd.int .u8) w' (fun j => w.heap.size ≤ j) A' l.length l ∧ Below w.heap.size w w' := by
  have HB := Aside0.mk (Below.refl w.heap.size w)
  have HR := Aside0.mk (Kd.F_bound hr)
  have HC := Aside0.mk hc
  have HL := Aside0.mk hl
  have hu7 := Try.underlying27
  clear hr hc hl
  go_enter Try.func23, Try.ntmps23
  go_upto_region 1 with fail
  obtain ⟨wa, hwa, on0, or0, hb_, hz0⟩ := letter2 w (.cells #[.slice R l.length rc] 27 (0, 0)) (.cells #[.slice none 0 0] 27 (0, 0))
  rw [hwa]
  clear hwa
  have hzwa := Nat.le_of_eq hz0.symm
  clear hz0
  have orr := Aside0.mk on0
  have oz := Aside0.mk or0
  clear on0 or0
  obtain ⟨orrc, orrf, orrl⟩ := cells_of orr.out
  obtain ⟨ozc, ozf, ozl⟩ := cells_of oz.out
  have HB_ : Aside0 (Below w.heap.size w wa) := ⟨hb_⟩
  have HR_ := Aside0.mk (Kd.F_below HR.out hb_)
  clear HB HR hb_; have HB := HB_; have HR := HR_; clear HB_ HR_
  go_wp2_with (first | ((with_reducible refine gate_dst (N := 3) rfl ?_); refine Kd.R_lit (Kd.int .u8) _ 5 ?hg (N := 3) ?hd (xs := ([] : List Int)) (inner := []) (ok := fun _ => True) (okp := fun _ => True) ?hr ?hp (fun _ hk => hk) trivial (Below.refl _ _) (Nat.le_refl _) (by simp) ?_; (case hd => rfl); (case hg => rfl); (case hr => first | (go_simp; done) | (go_simp; rfl)); (case hp => exact (Reps.none _ _)); intro v1 w1 ho1 hb hg_ hnew_; clear hg_ hnew_; have HO1 := Aside0.mk ho1; have HB1 := Aside0.mk hb; have orr1 := Aside0.mk (box_below hb orr.out); obtain ⟨orr1c, orr1f, orr1l⟩ := cells_of orr1.out; clear ho1 hb) | ((with_reducible refine gate_builtin (b := .append) (xs := #[.tmp 3, .tmp 5]) rfl ?_); at_builtin; refine Kd.R_append_rows (Kd.int .u8) (w0 := wa) (World.heap wa).size rfl (.tmp 3) (.tmp 5) 23 5 (.int .u8 0) 1 rfl Try.underlying23 infoB rfl (by decide) (by omega) v1 [] l _ _ _ (fun _ => True) (fun _ => False) rfl rfl ?aO ?aR (fun _ _ h => h) (fun _ h => h.elim) ?aF ?aB ?aS ?aL ?_; (case aR => repeat (first | exact (Kd.C_below (Kd.F_now HR.out) HB1.out) | (with_reducible refine Kd.C_alloc ?_ _) | (with_reducible refine Kd.C_drewN ?_ _) | (with_reducible refine Kd.C_drew ?_))); (case aB => exact HB1.out); (case aF => exact (fun _ _ => trivial)); (case aO => exact HO1.out); (case aS => exact HB1.out.size); (case aL => have := HL.out; simp; omega); intro v2 w2 ho hb_ hg hat; rw [List.nil_append] at ho; have orr_ := Aside0.mk (box_below hb_ orr.out); clear orr orrc orrf orrl; have orr := orr_; clear orr_; obtain ⟨orrc, orrf, orrl⟩ := cells_of orr.out; have oz_ := Aside0.mk (box_below hb_ oz.out); clear oz ozc ozf ozl; have oz := oz_; clear oz_; obtain ⟨ozc, ozf, ozl⟩ := cells_of oz.out; have HR_ := Aside0.mk (Kd.F_below HR.out hb_); clear HR; have HR := HR_; clear HR_; have HB_ : Aside0 (Below w.heap.size w w2) := Aside0.mk (below_step HB.out hb_); have hzw2 := hb_.size; clear HB; have HB := HB_; clear HB_; obtain ⟨A_q, c_q, ev_, hc_q, hf_q⟩ := R_Fl ho; subst ev_; have q := Aside0.mk (Kd.F_bound hf_q); clear ho hf_q hg hat HO1 HB1))
  refine bodyPost_ret (v := .agg #[.slice A_q l.length c_q]) (by simp [results, Try.results23, go_sem, ozc, ozf] <;> first | assumption | omega | (symm; assumption)) rfl ?_
  exact ⟨A_q, c_q, rfl, hc_q, (by refine F_res (ok := ?_) (fG q) ?_; intro j_ hj_; (try simp only [sz_alloc, sz_drew, sz_drewN, sz_set] at hj_); omega), (bG HB)⟩
theorem Same07_t (n : Nat) (A0 : Option Addr) (c0 : Nat) (A1 : Option Addr) (c1 : Nat) (l : List Int) (w : World) (hn : l.length = n) (hr0 : Kd.C (Kd.int .u8) w A0 n l) (hc0 : n ≤ c0) (hr1 : Kd.C (Kd.int .u8) w A1 n l) (hc1 : n ≤ c1) :
    Calls Try.prog 25 #[.agg #[.slice A0 n c0], .agg #[.slice A1 n c1]] w fun e w' => e = .returned (.bool true) ∧ Below w.heap.size w w' := by
  subst hn
  exact drawbridgeref07_Same.calls A0 c0 l A1 c1 l true w hr0 hc0 hr1 hc1 (by unfold drawbridgeref07_Same.f; rw [beq_self_eq_true])
set_option maxHeartbeats 1600000 in
set_option maxRecDepth 100000 in
theorem Same_is (c : Nat → Int) (A : Option Addr) (cap : Nat) (A2 : Option Addr) (cap2 : Nat) (mac : List Int) (w : World) (okm okm2 : Nat → Prop) (hm : Kd.F (Kd.int .u8) w okm A mac.length mac) (hmc : mac.length ≤ cap) (hm2 : Kd.F (Kd.int .u8) w okm2 A2 mac.length mac) (hmc2 : mac.length ≤ cap2) :
    Calls Try.prog 19 #[.agg (C14 c (.slice A mac.length cap)), .agg (C14 c (.slice A2 mac.length cap2))] w fun e w' => e = .returned (.bool true) ∧ Below w.heap.size w w' := by
  have HB := Aside0.mk (Below.refl w.heap.size w)
  have HM := Aside0.mk (Kd.F_bound hm)
  have HM2 := Aside0.mk (Kd.F_bound hm2)
  have hu := Try.underlying25
  go_enter Try.func19, Try.ntmps19
  go_upto_region 1 with fail
  obtain ⟨wa, hwa, on0, om0, hb_, hz0⟩ := letter2 w (.cells (C14 c (.slice A mac.length cap)) 25 (0, 0)) (.cells (C14 c (.slice A2 mac.length cap2)) 25 (0, 0))
  rw [hwa]
  clear hwa
  obtain ⟨onc, onf, onl⟩ := cells_of on0
  obtain ⟨omc, omf, oml⟩ := cells_of om0
  have hcv3 := Kd.C_string (P := Try.prog) (A := A) (c := cap) Try.underlying23 Try.underlying5 Try.underlying9 (Kd.F_now (Kd.F_below HM.out hb_))
  have hcv4 := Kd.C_string (P := Try.prog) (A := A2) (c := cap2) Try.underlying23 Try.underlying5 Try.underlying9 (Kd.F_now (Kd.F_below HM2.out hb_))
  have hc0 : World.cell? wa ⟨w.heap.size, 0, none⟩ = some (.int .i64 (c 0)) := (onc 0).trans rfl
  have hc1 : World.cell? wa ⟨w.heap.size, 1, none⟩ = some (.int .i64 (c 1)) := (onc 1).trans rfl
  have hc2 : World.cell? wa ⟨w.heap.size, 2, none⟩ = some (.int .i64 (c 2)) := (onc 2).trans rfl
  have hc3 : World.cell? wa ⟨w.heap.size, 3, none⟩ = some (.int .u64 (c 3)) := (onc 3).trans rfl
  have hc4 : World.cell? wa ⟨w.heap.size, 4, none⟩ = some (.int .i64 (c 4)) := (onc 4).trans rfl
  have hc5 : World.cell? wa ⟨w.heap.size, 5, none⟩ = some (.int .i64 (c 5)) := (onc 5).trans rfl
  have hc6 : World.cell? wa ⟨w.heap.size, 6, none⟩ = some (.int .i64 (c 6)) := (onc 6).trans rfl
  have hc7 : World.cell? wa ⟨w.heap.size, 7, none⟩ = some (.int .u64 (c 7)) := (onc 7).trans rfl
  have hc8 : World.cell? wa ⟨w.heap.size, 8, none⟩ = some (.int .i64 (c 8)) := (onc 8).trans rfl
  have hc9 : World.cell? wa ⟨w.heap.size, 9, none⟩ = some (.int .i64 (c 9)) := (onc 9).trans rfl
  have hc10 : World.cell? wa ⟨w.heap.size, 10, none⟩ = some (.int .i64 (c 10)) := (onc 10).trans rfl
  have hc11 : World.cell? wa ⟨w.heap.size, 11, none⟩ = some (.int .i64 (c 11)) := (onc 11).trans rfl
  have hc12 : World.cell? wa ⟨w.heap.size, 12, none⟩ = some (.int .i64 (c 12)) := (onc 12).trans rfl
  have hd0 : World.cell? wa ⟨w.heap.size + 1, 0, none⟩ = some (.int .i64 (c 0)) := (omc 0).trans rfl
  have hd1 : World.cell? wa ⟨w.heap.size + 1, 1, none⟩ = some (.int .i64 (c 1)) := (omc 1).trans rfl
  have hd2 : World.cell? wa ⟨w.heap.size + 1, 2, none⟩ = some (.int .i64 (c 2)) := (omc 2).trans rfl
  have hd3 : World.cell? wa ⟨w.heap.size + 1, 3, none⟩ = some (.int .u64 (c 3)) := (omc 3).trans rfl
  have hd4 : World.cell? wa ⟨w.heap.size + 1, 4, none⟩ = some (.int .i64 (c 4)) := (omc 4).trans rfl
  have hd5 : World.cell? wa ⟨w.heap.size + 1, 5, none⟩ = some (.int .i64 (c 5)) := (omc 5).trans rfl
  have hd6 : World.cell? wa ⟨w.heap.size + 1, 6, none⟩ = some (.int .i64 (c 6)) := (omc 6).trans rfl
  have hd7 : World.cell? wa ⟨w.heap.size + 1, 7, none⟩ = some (.int .u64 (c 7)) := (omc 7).trans rfl
  have hd8 : World.cell? wa ⟨w.heap.size + 1, 8, none⟩ = some (.int .i64 (c 8)) := (omc 8).trans rfl
  have hd9 : World.cell? wa ⟨w.heap.size + 1, 9, none⟩ = some (.int .i64 (c 9)) := (omc 9).trans rfl
  have hd10 : World.cell? wa ⟨w.heap.size + 1, 10, none⟩ = some (.int .i64 (c 10)) := (omc 10).trans rfl
  have hd11 : World.cell? wa ⟨w.heap.size + 1, 11, none⟩ = some (.int .i64 (c 11)) := (omc 11).trans rfl
  have hd12 : World.cell? wa ⟨w.heap.size + 1, 12, none⟩ = some (.int .i64 (c 12)) := (omc 12).trans rfl
  have hc13 := (onc 13).trans (C14_mac c (.slice A mac.length cap))
  have hd13 := (omc 13).trans (C14_mac c (.slice A2 mac.length cap2))
  clear onc omc on0 om0 hz0 HM HM2 hm hm2
  go_wp2
  go_ret
  exact ⟨by first | rfl | (simp; done), (by repeat (first | (with_reducible first | exact hb_ | exact Below.refl _ _ | apply below_alloc | apply pw_below_drewN | apply below_drew | refine below_set ?_ (by omega)) | exact hb_))⟩
end Go.Proofs.Ytdblpflepfcnjaa.Q
end
