import Derived.Test.YtnjgejjijboibaaPZ1
import Derived.Test.YtnjgejjijboibaaPZ7
import Derived.Laws.BitsAllLaws
import Derived.RowKit
import Derived.Test.YtnjgejjijboibaaPXWWords
import Derived.Test.YtnjgejjijboibaaPXWLast
import Derived.Test.YtnjgejjijboibaaPXWMore
import Derived.ProofKit
import Derived.Deep.Slices
import Derived.ChangeSame
section
/- NatOnce, walked: the question that was asked. -/
namespace Go.Proofs.Ytnjgejjijboibaa.Q
open Go.RowKit Go.Proofs.YtnjgejjijboibaaW.PrintWords Go.Proofs.YtnjgejjijboibaaW.PrintLast Go.Proofs.YtnjgejjijboibaaW.PrintMore Go.Proofs.Ytnjgejjijboibaa.L
attribute [local go_sem] Instr.field part asAgg lt_step max2_int min2_int max_two min_two max_three min_three max_four min_four lt_0_1 lt_0_2 lt_1_2 lt_0_3 lt_1_3 lt_2_3 lt_0_4 lt_1_4 lt_2_4 lt_3_4 lt_0_5 lt_1_5 lt_2_5 lt_3_5 lt_4_5 lt_0_6 lt_1_6 lt_2_6 lt_3_6 lt_4_6 lt_5_6 lt_0_7 lt_1_7 lt_2_7 lt_3_7 lt_4_7 lt_5_7 lt_6_7 lt_0_8 lt_1_8 lt_2_8 lt_3_8 lt_4_8 lt_5_8 lt_6_8 lt_7_8
set_option linter.unusedVariables false
set_option linter.unusedSimpArgs false
set_option maxHeartbeats 1600000 in
set_option maxRecDepth 100000 in
theorem NatOnce_ok (A0 : Option Addr) (c0 : Nat) (fl : List S48) (A1 : Option Addr) (c1 : Nat) (ql : List S39) (now : Int) (w : World) (ok0 ok1 : Nat → Prop) (hr0 : Kd.F k48 w ok0 A0 fl.length fl) (hc0 : fl.length ≤ c0) (hr1 : Kd.F k39 w ok1 A1 ql.length ql) (hc1 : ql.length ≤ c1) (hwf : ∀ x ∈ fl, wfF x) (hwq : ∀ x ∈ ql, wfQ x) (hl0 : fl.length ≤ 1000) (hl1 : ql.length ≤ 1000) (guest gid later : Int) (h0 : decide ((fl.length : Int) > 40) = false) (h1 : decide ((ql.length : Int) > 40) = false) (h2 : decide (later < 0) = false) (h3 : decide (later > 20) = false) (h4 : decide (now < 0) = false) (h5 : decide (now > 549755813888) = false) (fl' : List S48) (ql' : List S39) (h : Int) (hop : askF fl ql now guest gid = (fl', ql', h, true)) (hadd : wrap64 (now + later) = now + later) (hwf2 : ∀ x ∈ fl', wfF x) (hwq2 : ∀ x ∈ ql', wfQ x) (hl2 : fl'.length ≤ 1000) (hl3 : ql'.length ≤ 1000) (ql2 ql3 : List S39) (p0 p1 p2 p3 r0 r1 r2 r3 : Int) (i : Bool) (hi1 : backF fl' ql' (now + later) h = (ql2, ⟨p0, p1, p2, p3⟩, i)) (hi2 : backF fl' ql2 (now + later) h = (ql3, ⟨r0, r1, r2, r3⟩, false)) (h60 : decide (later < 5) = i) (hv : i = true → p1 = guest ∧ p2 = gid) (hwq3 : ∀ x ∈ ql2, wfQ x) (hl4 : ql2.length ≤ 1000) (hck : checkZ fl' ql2 = true) (h16 : decide ((ql'.length : Int) ≤ 16) = true) :
    Calls Try.prog 5 #[.agg #[.slice A0 fl.length c0, .slice A1 ql.length c1], .int .i64 now, .int .i64 guest, .int .i64 gid, .int .i64 later] w fun e w' => e = .returned (.bool true) ∧ Below w.heap.size w w' := by
  have HB := Aside0.mk (Below.refl w.heap.size w)
  have HR := Aside0.mk (Kd.F_bound hr0)
  have HQ := Aside0.mk (Kd.F_bound hr1)
  have HC0 := Aside0.mk hc0
  have HC1 := Aside0.mk hc1
  have HWF := Aside0.mk hwf
  have HWQ := Aside0.mk hwq
  have HL0 := Aside0.mk hl0
  have HL1 := Aside0.mk hl1
  have HOP := Aside0.mk hop
  have HWF2 := Aside0.mk hwf2
  have HWQ2 := Aside0.mk hwq2
  have HL2 := Aside0.mk hl2
  have HL3 := Aside0.mk hl3
  have HI1 := Aside0.mk hi1
  have HI2 := Aside0.mk hi2
  have HCK := Aside0.mk hck
  have HV := Aside0.mk hv
  have HWQ3 := Aside0.mk hwq3
  have HL4 := Aside0.mk hl4
  have H60 := Aside0.mk h60
  have H16 := Aside0.mk h16
  have hu := Try.underlying27
  have hu9 := Try.underlying39
  clear hr0 hr1 hc0 hc1 hwf hwq hl0 hl1 hop hwf2 hwq2 hl2 hl3 hi1 hi2 hck hv h60 h16 hwq3 hl4
  go_enter Try.func5, Try.ntmps5
  go_upto_region 1 with fail
  obtain ⟨wa, hw_, on0, hb_, hz0⟩ := letter1 w (.cells #[.slice A0 fl.length c0, .slice A1 ql.length c1] 27 (0, 0))
  rw [hw_]
  clear hw_
  have hzwa := Nat.le_of_eq hz0.symm
  clear hz0
  have HR_ := Aside0.mk (Kd.F_below HR.out hb_)
  clear HR
  have HR := HR_
  clear HR_
  have HQ_ := Aside0.mk (Kd.F_below HQ.out hb_)
  clear HQ
  have HQ := HQ_
  clear HQ_
  have on := Aside0.mk on0
  clear on0
  obtain ⟨onc, onf, onl⟩ := cells_of on.out
  have HB_ : Aside0 (Below w.heap.size w wa) := Aside0.mk (below_step HB.out hb_)
  clear HB hb_
  have HB := HB_
  clear HB_
  go_wp2_with fail
  (go_at_call 11; (with_reducible refine (ask_is A0 c0 fl A1 c1 ql now _ _ _ (fG HR) HC0.out (fG HQ) HC1.out HWF.out HWQ.out HL0.out HL1.out guest gid fl' ql' h true HOP.out).mono ?_); rintro e_ w1 ⟨A_s, c_s, A_q, c_q, rfl, hc_s, hr_s, hc_q, hr_q, hb_⟩; have HB_ : Aside0 (Below w.heap.size w w1) := Aside0.mk (below_step (bG HB) hb_); have hzw1 := hb_.size; (try simp at hzw1); have on_ := Aside0.mk (box_below hb_ (eG on)); (try clear on onc onf onl); have on := on_; clear on_; obtain ⟨onc, onf, onl⟩ := cells_of on.out; clear HB hb_; have HB := HB_; clear HB_; have sc := Aside0.mk hc_s; have s := Aside0.mk (Kd.F_bound hr_s); clear hc_s hr_s; have qc := Aside0.mk hc_q; have q := Aside0.mk (Kd.F_bound hr_q); clear hc_q hr_q; skip)
  go_upto_region 4 with fail
  obtain ⟨w2, hw_, om0, hb_, hz0⟩ := letter1 w1 (.cells #[.slice A_s fl'.length c_s, .slice A_q ql'.length c_q] 27 (0, 0))
  rw [hw_]
  clear hw_
  have hzw2 := Nat.le_of_eq hz0.symm
  clear hz0
  have s_ := Aside0.mk (Kd.F_below s.out hb_)
  clear s
  have s := s_
  clear s_
  have q_ := Aside0.mk (Kd.F_below q.out hb_)
  clear q
  have q := q_
  clear q_
  have om := Aside0.mk om0
  clear om0
  obtain ⟨omc, omf, oml⟩ := cells_of om.out
  have HB_ : Aside0 (Below w.heap.size w w2) := Aside0.mk (below_step HB.out hb_)
  clear HB hb_
  have HB := HB_
  clear HB_
  go_wp2_with fail
  (go_at_call 12; (with_reducible refine (backL_is A_s c_s fl' A_q c_q ql' (now + later) _ _ _ (fG s) sc.out (fG q) qc.out HWF2.out HWQ2.out HL2.out HL3.out h ql2 p0 p1 p2 p3 i HI1.out).mono ?_); rintro e_ w3 ⟨A_s2, c_s2, A_t2, c_t2, rfl, hc_s2, hr_s2, hc_t2, hr_t2, hb_⟩; have HB_ : Aside0 (Below w.heap.size w w3) := Aside0.mk (below_step (bG HB) hb_); have hzw3 := hb_.size; (try simp at hzw3); have om_ := Aside0.mk (box_below hb_ (eG om)); (try clear om omc omf oml); have om := om_; clear om_; obtain ⟨omc, omf, oml⟩ := cells_of om.out; clear HB hb_; have HB := HB_; clear HB_; have s2c := Aside0.mk hc_s2; have s2 := Aside0.mk (Kd.F_bound hr_s2); clear hc_s2 hr_s2; have t2c := Aside0.mk hc_t2; have t2 := Aside0.mk (Kd.F_bound hr_t2); clear hc_t2 hr_t2; skip)
  go_upto_region 7 with fail
  obtain ⟨w4, hw_, ob0, oq0, hb_, hz0⟩ := letter2 w3 (.cells #[.slice A_s2 fl'.length c_s2, .slice A_t2 ql2.length c_t2] 27 (0, 0)) (.cells #[.int .i64 p0, .int .i64 p1, .int .i64 p2, .int .i64 p3] 39 (0, 0))
  rw [hw_]
  clear hw_
  have hzw4 := Nat.le_of_eq hz0.symm
  clear hz0
  have om_ := Aside0.mk (box_below hb_ om.out)
  (try clear om omc omf oml)
  have om := om_
  clear om_
  obtain ⟨omc, omf, oml⟩ := cells_of om.out
  have s2_ := Aside0.mk (Kd.F_below s2.out hb_)
  clear s2
  have s2 := s2_
  clear s2_
  have t2_ := Aside0.mk (Kd.F_below t2.out hb_)
  clear t2
  have t2 := t2_
  clear t2_
  have ob := Aside0.mk ob0
  clear ob0
  obtain ⟨obc, obf, obl⟩ := cells_of ob.out
  have oq := Aside0.mk oq0
  clear oq0
  obtain ⟨oqc, oqf, oql⟩ := cells_of oq.out
  have HB_ : Aside0 (Below w.heap.size w w4) := Aside0.mk (below_step HB.out hb_)
  clear HB hb_
  have HB := HB_
  clear HB_
  have hv := HV.out
  have h60 := H60.out
  have h16 := H16.out
  clear HV H60 H16 HI1
  have hii : i = true ∨ i = false := by cases i <;> simp
  rcases hii with rfl | rfl
  · obtain ⟨rfl, rfl⟩ := hv rfl
    go_wp2_with fail
    (go_at_call 12; (with_reducible refine (backL_is A_s2 c_s2 fl' A_t2 c_t2 ql2 (now + later) _ _ _ (fG s2) s2c.out (fG t2) t2c.out HWF2.out HWQ3.out HL2.out HL4.out h ql3 r0 r1 r2 r3 false HI2.out).mono ?_); rintro e_ w5 ⟨A_s3, c_s3, A_t3, c_t3, rfl, hc_s3, hr_s3, hc_t3, hr_t3, hb_⟩; have HB_ : Aside0 (Below w.heap.size w w5) := Aside0.mk (below_step (bG HB) hb_); have hzw5 := hb_.size; (try simp at hzw5); have om_ := Aside0.mk (box_below hb_ (eG om)); have ob_ := Aside0.mk (box_below hb_ (eG ob)); have s2_ := Aside0.mk (Kd.F_below (fG s2) hb_); clear s2; have s2 := s2_; clear s2_; have t2_ := Aside0.mk (Kd.F_below (fG t2) hb_); clear t2; have t2 := t2_; clear t2_; (try clear om omc omf oml); have om := om_; clear om_; obtain ⟨omc, omf, oml⟩ := cells_of om.out; (try clear ob obc obf obl); have ob := ob_; clear ob_; obtain ⟨obc, obf, obl⟩ := cells_of ob.out; clear HB hb_; have HB := HB_; clear HB_; have s3c := Aside0.mk hc_s3; have s3 := Aside0.mk (Kd.F_bound hr_s3); clear hc_s3 hr_s3; have t3c := Aside0.mk hc_t3; have t3 := Aside0.mk (Kd.F_bound hr_t3); clear hc_t3 hr_t3; skip)
    go_upto_region 10 with fail
    obtain ⟨w6, hw_, ox0, oy0, hb_, hz0⟩ := letter2 w5 (.cells #[.slice A_s3 fl'.length c_s3, .slice A_t3 ql3.length c_t3] 27 (0, 0)) (.cells #[.int .i64 r0, .int .i64 r1, .int .i64 r2, .int .i64 r3] 39 (0, 0))
    rw [hw_]
    clear hw_
    have hzw6 := Nat.le_of_eq hz0.symm
    clear hz0
    have om_ := Aside0.mk (box_below hb_ om.out)
    (try clear om omc omf oml)
    have om := om_
    clear om_
    obtain ⟨omc, omf, oml⟩ := cells_of om.out
    have ob_ := Aside0.mk (box_below hb_ ob.out)
    (try clear ob obc obf obl)
    have ob := ob_
    clear ob_
    obtain ⟨obc, obf, obl⟩ := cells_of ob.out
    have s2_ := Aside0.mk (Kd.F_below s2.out hb_)
    clear s2
    have s2 := s2_
    clear s2_
    have t2_ := Aside0.mk (Kd.F_below t2.out hb_)
    clear t2
    have t2 := t2_
    clear t2_
    have ox := Aside0.mk ox0
    clear ox0
    obtain ⟨oxc, oxf, oxl⟩ := cells_of ox.out
    have oy := Aside0.mk oy0
    clear oy0
    obtain ⟨oyc, oyf, oyl⟩ := cells_of oy.out
    have HB_ : Aside0 (Below w.heap.size w w6) := Aside0.mk (below_step HB.out hb_)
    clear HB hb_
    have HB := HB_
    clear HB_
    go_wp2_with fail
    (go_at_call 10; (with_reducible refine (check_runs A_s2 c_s2 fl' A_t2 c_t2 ql2 _ (Kd.F_now (fG s2)) (Kd.F_now (fG t2)) HWF2.out HWQ3.out true HCK.out).mono ?_); rintro e_ w7 ⟨rfl, hb_⟩; have HB_ : Aside0 (Below w.heap.size w w7) := Aside0.mk (below_step (bG HB) hb_); have hzw7 := hb_.size; (try simp at hzw7); have om_ := Aside0.mk (box_below hb_ (eG om)); (try clear om omc omf oml); have om := om_; clear om_; obtain ⟨omc, omf, oml⟩ := cells_of om.out; clear HB hb_; have HB := HB_; clear HB_)
    go_wp2_with fail
    (go_at_call 6; (with_reducible refine (heads_is _).mono ?_); rintro e_ w8 ⟨rfl, hb_⟩; have HB_ : Aside0 (Below w.heap.size w w8) := Aside0.mk (below_step (bG HB) hb_); have hzw8 := hb_.size; (try simp at hzw8); have om_ := Aside0.mk (box_below hb_ (eG om)); (try clear om omc omf oml); have om := om_; clear om_; obtain ⟨omc, omf, oml⟩ := cells_of om.out; clear HB hb_; have HB := HB_; clear HB_)
    go_wp2
    go_ret
    exact ⟨rfl, HB.out⟩
  · clear hv
    go_wp2_with fail
    (go_at_call 12; (with_reducible refine (backL_is A_s2 c_s2 fl' A_t2 c_t2 ql2 (now + later) _ _ _ (fG s2) s2c.out (fG t2) t2c.out HWF2.out HWQ3.out HL2.out HL4.out h ql3 r0 r1 r2 r3 false HI2.out).mono ?_); rintro e_ w5 ⟨A_s3, c_s3, A_t3, c_t3, rfl, hc_s3, hr_s3, hc_t3, hr_t3, hb_⟩; have HB_ : Aside0 (Below w.heap.size w w5) := Aside0.mk (below_step (bG HB) hb_); have hzw5 := hb_.size; (try simp at hzw5); have om_ := Aside0.mk (box_below hb_ (eG om)); have ob_ := Aside0.mk (box_below hb_ (eG ob)); have s2_ := Aside0.mk (Kd.F_below (fG s2) hb_); clear s2; have s2 := s2_; clear s2_; have t2_ := Aside0.mk (Kd.F_below (fG t2) hb_); clear t2; have t2 := t2_; clear t2_; (try clear om omc omf oml); have om := om_; clear om_; obtain ⟨omc, omf, oml⟩ := cells_of om.out; (try clear ob obc obf obl); have ob := ob_; clear ob_; obtain ⟨obc, obf, obl⟩ := cells_of ob.out; clear HB hb_; have HB := HB_; clear HB_; have s3c := Aside0.mk hc_s3; have s3 := Aside0.mk (Kd.F_bound hr_s3); clear hc_s3 hr_s3; have t3c := Aside0.mk hc_t3; have t3 := Aside0.mk (Kd.F_bound hr_t3); clear hc_t3 hr_t3; skip)
    go_upto_region 10 with fail
    obtain ⟨w6, hw_, ox0, oy0, hb_, hz0⟩ := letter2 w5 (.cells #[.slice A_s3 fl'.length c_s3, .slice A_t3 ql3.length c_t3] 27 (0, 0)) (.cells #[.int .i64 r0, .int .i64 r1, .int .i64 r2, .int .i64 r3] 39 (0, 0))
    rw [hw_]
    clear hw_
    have hzw6 := Nat.le_of_eq hz0.symm
    clear hz0
    have om_ := Aside0.mk (box_below hb_ om.out)
    (try clear om omc omf oml)
    have om := om_
    clear om_
    obtain ⟨omc, omf, oml⟩ := cells_of om.out
    have ob_ := Aside0.mk (box_below hb_ ob.out)
    (try clear ob obc obf obl)
    have ob := ob_
    clear ob_
    obtain ⟨obc, obf, obl⟩ := cells_of ob.out
    have s2_ := Aside0.mk (Kd.F_below s2.out hb_)
    clear s2
    have s2 := s2_
    clear s2_
    have t2_ := Aside0.mk (Kd.F_below t2.out hb_)
    clear t2
    have t2 := t2_
    clear t2_
    have ox := Aside0.mk ox0
    clear ox0
    obtain ⟨oxc, oxf, oxl⟩ := cells_of ox.out
    have oy := Aside0.mk oy0
    clear oy0
    obtain ⟨oyc, oyf, oyl⟩ := cells_of oy.out
    have HB_ : Aside0 (Below w.heap.size w w6) := Aside0.mk (below_step HB.out hb_)
    clear HB hb_
    have HB := HB_
    clear HB_
    go_wp2_with fail
    (go_at_call 10; (with_reducible refine (check_runs A_s2 c_s2 fl' A_t2 c_t2 ql2 _ (Kd.F_now (fG s2)) (Kd.F_now (fG t2)) HWF2.out HWQ3.out true HCK.out).mono ?_); rintro e_ w7 ⟨rfl, hb_⟩; have HB_ : Aside0 (Below w.heap.size w w7) := Aside0.mk (below_step (bG HB) hb_); have hzw7 := hb_.size; (try simp at hzw7); have om_ := Aside0.mk (box_below hb_ (eG om)); (try clear om omc omf oml); have om := om_; clear om_; obtain ⟨omc, omf, oml⟩ := cells_of om.out; clear HB hb_; have HB := HB_; clear HB_)
    go_wp2_with fail
    (go_at_call 6; (with_reducible refine (heads_is _).mono ?_); rintro e_ w8 ⟨rfl, hb_⟩; have HB_ : Aside0 (Below w.heap.size w w8) := Aside0.mk (below_step (bG HB) hb_); have hzw8 := hb_.size; (try simp at hzw8); have om_ := Aside0.mk (box_below hb_ (eG om)); (try clear om omc omf oml); have om := om_; clear om_; obtain ⟨omc, omf, oml⟩ := cells_of om.out; clear HB hb_; have HB := HB_; clear HB_)
    go_wp2
    go_ret
    exact ⟨rfl, HB.out⟩
end Go.Proofs.Ytnjgejjijboibaa.Q
end
section
/- NatBack, walked. -/
namespace Go.Proofs.Ytnjgejjijboibaa.Q
open Go.RowKit Go.Proofs.YtnjgejjijboibaaW.PrintWords Go.Proofs.YtnjgejjijboibaaW.PrintLast Go.Proofs.YtnjgejjijboibaaW.PrintMore Go.Proofs.Ytnjgejjijboibaa.L
attribute [local go_sem] Instr.field part asAgg lt_step max2_int min2_int max_two min_two max_three min_three max_four min_four lt_0_1 lt_0_2 lt_1_2 lt_0_3 lt_1_3 lt_2_3 lt_0_4 lt_1_4 lt_2_4 lt_3_4 lt_0_5 lt_1_5 lt_2_5 lt_3_5 lt_4_5 lt_0_6 lt_1_6 lt_2_6 lt_3_6 lt_4_6 lt_5_6 lt_0_7 lt_1_7 lt_2_7 lt_3_7 lt_4_7 lt_5_7 lt_6_7 lt_0_8 lt_1_8 lt_2_8 lt_3_8 lt_4_8 lt_5_8 lt_6_8 lt_7_8
set_option linter.unusedVariables false
set_option linter.unusedSimpArgs false
set_option maxHeartbeats 1600000 in
set_option maxRecDepth 100000 in
theorem NatBack_no (A0 : Option Addr) (c0 : Nat) (fl : List S48) (A1 : Option Addr) (c1 : Nat) (ql : List S39) (now : Int) (w : World) (ok0 ok1 : Nat → Prop) (hr0 : Kd.F k48 w ok0 A0 fl.length fl) (hc0 : fl.length ≤ c0) (hr1 : Kd.F k39 w ok1 A1 ql.length ql) (hc1 : ql.length ≤ c1) (guest remote port other later : Int) (h : (decide ((fl.length : Int) > 40) || decide ((ql.length : Int) > 40) || decide (later < 0) || decide (later > 100) || decide (now < 0) || decide (now > 549755813888)) = true) :
    Calls Try.prog 4 #[.agg #[.slice A0 fl.length c0, .slice A1 ql.length c1], .int .i64 now, .int .i64 guest, .int .u32 remote, .int .i64 port, .int .u32 other, .int .i64 later] w fun e w' => e = .returned (.bool true) ∧ Below w.heap.size w w' := by
  obtain ⟨e0, h0⟩ : ∃ b, decide ((fl.length : Int) > 40) = b := ⟨_, rfl⟩
  obtain ⟨e1, h1⟩ : ∃ b, decide ((ql.length : Int) > 40) = b := ⟨_, rfl⟩
  obtain ⟨e2, h2⟩ : ∃ b, decide (later < 0) = b := ⟨_, rfl⟩
  obtain ⟨e3, h3⟩ : ∃ b, decide (later > 100) = b := ⟨_, rfl⟩
  obtain ⟨e4, h4⟩ : ∃ b, decide (now < 0) = b := ⟨_, rfl⟩
  obtain ⟨e5, h5⟩ : ∃ b, decide (now > 549755813888) = b := ⟨_, rfl⟩
  rw [h0, h1, h2, h3, h4, h5] at h
  have hc : (e0 = true) ∨ (e0 = false ∧ e1 = true) ∨ (e0 = false ∧ e1 = false ∧ e2 = true) ∨ (e0 = false ∧ e1 = false ∧ e2 = false ∧ e3 = true) ∨ (e0 = false ∧ e1 = false ∧ e2 = false ∧ e3 = false ∧ e4 = true) ∨ (e0 = false ∧ e1 = false ∧ e2 = false ∧ e3 = false ∧ e4 = false ∧ e5 = true) := by revert h; cases e0 <;> cases e1 <;> cases e2 <;> cases e3 <;> cases e4 <;> cases e5 <;> simp
  clear h
  have HB := Aside0.mk (Below.refl w.heap.size w)
  have HR := Aside0.mk (Kd.F_bound hr0)
  have HQ := Aside0.mk (Kd.F_bound hr1)
  have HC0 := Aside0.mk hc0
  have HC1 := Aside0.mk hc1
  have hu := Try.underlying27
  have hu9 := Try.underlying39
  clear hr0 hr1 hc0 hc1
  go_enter Try.func4, Try.ntmps4
  go_upto_region 1 with fail
  obtain ⟨wa, hw_, on0, hb_, hz0⟩ := letter1 w (.cells #[.slice A0 fl.length c0, .slice A1 ql.length c1] 27 (0, 0))
  rw [hw_]
  clear hw_
  have hzwa := Nat.le_of_eq hz0.symm
  clear hz0
  have HR_ := Aside0.mk (Kd.F_below HR.out hb_)
  clear HR
  have HR := HR_
  clear HR_
  have HQ_ := Aside0.mk (Kd.F_below HQ.out hb_)
  clear HQ
  have HQ := HQ_
  clear HQ_
  have on := Aside0.mk on0
  clear on0
  obtain ⟨onc, onf, onl⟩ := cells_of on.out
  have HB_ : Aside0 (Below w.heap.size w wa) := Aside0.mk (below_step HB.out hb_)
  clear HB hb_
  have HB := HB_
  clear HB_
  rcases hc with rfl | ⟨rfl, rfl⟩ | ⟨rfl, rfl, rfl⟩ | ⟨rfl, rfl, rfl, rfl⟩ | ⟨rfl, rfl, rfl, rfl, rfl⟩ | ⟨rfl, rfl, rfl, rfl, rfl, rfl⟩
  all_goals (go_wp2_with fail)
  all_goals (go_at_call 6; (with_reducible refine (heads_is _).mono ?_); rintro e_ w1 ⟨rfl, hb_⟩; have HB_ : Aside0 (Below w.heap.size w w1) := Aside0.mk (below_step (bG HB) hb_); have hzw1 := hb_.size; (try simp at hzw1); clear HB hb_; have HB := HB_; clear HB_)
  all_goals (go_wp2)
  all_goals (go_ret)
  all_goals (exact ⟨rfl, HB.out⟩)
set_option maxHeartbeats 1600000 in
set_option maxRecDepth 100000 in
theorem NatBack_fail (A0 : Option Addr) (c0 : Nat) (fl : List S48) (A1 : Option Addr) (c1 : Nat) (ql : List S39) (now : Int) (w : World) (ok0 ok1 : Nat → Prop) (hr0 : Kd.F k48 w ok0 A0 fl.length fl) (hc0 : fl.length ≤ c0) (hr1 : Kd.F k39 w ok1 A1 ql.length ql) (hc1 : ql.length ≤ c1) (hwf : ∀ x ∈ fl, wfF x) (hwq : ∀ x ∈ ql, wfQ x) (hl0 : fl.length ≤ 1000) (hl1 : ql.length ≤ 1000) (guest remote port other later : Int) (h0 : decide ((fl.length : Int) > 40) = false) (h1 : decide ((ql.length : Int) > 40) = false) (h2 : decide (later < 0) = false) (h3 : decide (later > 100) = false) (h4 : decide (now < 0) = false) (h5 : decide (now > 549755813888) = false) (fl' : List S48) (ql' : List S39) (hop : openF fl ql now guest remote port = (fl', ql', 0, false)) :
    Calls Try.prog 4 #[.agg #[.slice A0 fl.length c0, .slice A1 ql.length c1], .int .i64 now, .int .i64 guest, .int .u32 remote, .int .i64 port, .int .u32 other, .int .i64 later] w fun e w' => e = .returned (.bool true) ∧ Below w.heap.size w w' := by
  have HB := Aside0.mk (Below.refl w.heap.size w)
  have HR := Aside0.mk (Kd.F_bound hr0)
  have HQ := Aside0.mk (Kd.F_bound hr1)
  have HC0 := Aside0.mk hc0
  have HC1 := Aside0.mk hc1
  have HWF := Aside0.mk hwf
  have HWQ := Aside0.mk hwq
  have HL0 := Aside0.mk hl0
  have HL1 := Aside0.mk hl1
  have HOP := Aside0.mk hop
  have hu := Try.underlying27
  have hu9 := Try.underlying39
  clear hr0 hr1 hc0 hc1 hwf hwq hl0 hl1 hop
  go_enter Try.func4, Try.ntmps4
  go_upto_region 1 with fail
  obtain ⟨wa, hw_, on0, hb_, hz0⟩ := letter1 w (.cells #[.slice A0 fl.length c0, .slice A1 ql.length c1] 27 (0, 0))
  rw [hw_]
  clear hw_
  have hzwa := Nat.le_of_eq hz0.symm
  clear hz0
  have HR_ := Aside0.mk (Kd.F_below HR.out hb_)
  clear HR
  have HR := HR_
  clear HR_
  have HQ_ := Aside0.mk (Kd.F_below HQ.out hb_)
  clear HQ
  have HQ := HQ_
  clear HQ_
  have on := Aside0.mk on0
  clear on0
  obtain ⟨onc, onf, onl⟩ := cells_of on.out
  have HB_ : Aside0 (Below w.heap.size w wa) := Aside0.mk (below_step HB.out hb_)
  clear HB hb_
  have HB := HB_
  clear HB_
  go_wp2_with fail
  (go_at_call 7; (with_reducible refine (open_is A0 c0 fl A1 c1 ql now _ _ _ (fG HR) HC0.out (fG HQ) HC1.out HWF.out HWQ.out HL0.out HL1.out guest remote port fl' ql' 0 false HOP.out).mono ?_); rintro e_ w1 ⟨A_s, c_s, A_q, c_q, rfl, hc_s, hr_s, hc_q, hr_q, hb_⟩; have HB_ : Aside0 (Below w.heap.size w w1) := Aside0.mk (below_step (bG HB) hb_); have hzw1 := hb_.size; (try simp at hzw1); have on_ := Aside0.mk (box_below hb_ (eG on)); (try clear on onc onf onl); have on := on_; clear on_; obtain ⟨onc, onf, onl⟩ := cells_of on.out; clear HB hb_; have HB := HB_; clear HB_; have sc := Aside0.mk hc_s; have s := Aside0.mk (Kd.F_bound hr_s); clear hc_s hr_s; have qc := Aside0.mk hc_q; have q := Aside0.mk (Kd.F_bound hr_q); clear hc_q hr_q; skip)
  go_wp2_with fail
  (go_at_call 6; (with_reducible refine (heads_is _).mono ?_); rintro e_ w2 ⟨rfl, hb_⟩; have HB_ : Aside0 (Below w.heap.size w w2) := Aside0.mk (below_step (bG HB) hb_); have hzw2 := hb_.size; (try simp at hzw2); clear HB hb_; have HB := HB_; clear HB_)
  go_wp2
  go_ret
  exact ⟨rfl, HB.out⟩
end Go.Proofs.Ytnjgejjijboibaa.Q
end
section
/- NatBack, walked: the way that was opened. -/
namespace Go.Proofs.Ytnjgejjijboibaa.Q
open Go.RowKit Go.Proofs.YtnjgejjijboibaaW.PrintWords Go.Proofs.YtnjgejjijboibaaW.PrintLast Go.Proofs.YtnjgejjijboibaaW.PrintMore Go.Proofs.Ytnjgejjijboibaa.L
attribute [local go_sem] Instr.field part asAgg lt_step max2_int min2_int max_two min_two max_three min_three max_four min_four lt_0_1 lt_0_2 lt_1_2 lt_0_3 lt_1_3 lt_2_3 lt_0_4 lt_1_4 lt_2_4 lt_3_4 lt_0_5 lt_1_5 lt_2_5 lt_3_5 lt_4_5 lt_0_6 lt_1_6 lt_2_6 lt_3_6 lt_4_6 lt_5_6 lt_0_7 lt_1_7 lt_2_7 lt_3_7 lt_4_7 lt_5_7 lt_6_7 lt_0_8 lt_1_8 lt_2_8 lt_3_8 lt_4_8 lt_5_8 lt_6_8 lt_7_8
set_option linter.unusedVariables false
set_option linter.unusedSimpArgs false
set_option maxHeartbeats 1600000 in
set_option maxRecDepth 100000 in
theorem NatBack_ok (A0 : Option Addr) (c0 : Nat) (fl : List S48) (A1 : Option Addr) (c1 : Nat) (ql : List S39) (now : Int) (w : World) (ok0 ok1 : Nat → Prop) (hr0 : Kd.F k48 w ok0 A0 fl.length fl) (hc0 : fl.length ≤ c0) (hr1 : Kd.F k39 w ok1 A1 ql.length ql) (hc1 : ql.length ≤ c1) (hwf : ∀ x ∈ fl, wfF x) (hwq : ∀ x ∈ ql, wfQ x) (hl0 : fl.length ≤ 1000) (hl1 : ql.length ≤ 1000) (guest remote port other later : Int) (h0 : decide ((fl.length : Int) > 40) = false) (h1 : decide ((ql.length : Int) > 40) = false) (h2 : decide (later < 0) = false) (h3 : decide (later > 100) = false) (h4 : decide (now < 0) = false) (h5 : decide (now > 549755813888) = false) (fl' : List S48) (ql' : List S39) (h : Int) (h0' : True) (hop : openF fl ql now guest remote port = (fl', ql', h, true)) (hadd : wrap64 (now + later) = now + later) (hwf2 : ∀ x ∈ fl', wfF x) (hwq2 : ∀ x ∈ ql', wfQ x) (hl2 : fl'.length ≤ 1000) (hl3 : ql'.length ≤ 1000) (v v2 : Int) (i t u : Bool) (hi1 : inF fl' ql' (now + later) h remote port = (v, i)) (hi2 : inF fl' ql' (now + later) h other port = (v2, u)) (h60 : decide (later < 60) = i) (hv : i = true → v = guest) (ht : (other == remote) = t) (ht' : other = remote ↔ t = true) (htu : t = false → u = false) (hck : checkZ fl' ql' = true) (h16 : decide ((fl'.length : Int) ≤ 16) = true) :
    Calls Try.prog 4 #[.agg #[.slice A0 fl.length c0, .slice A1 ql.length c1], .int .i64 now, .int .i64 guest, .int .u32 remote, .int .i64 port, .int .u32 other, .int .i64 later] w fun e w' => e = .returned (.bool true) ∧ Below w.heap.size w w' := by
  have HB := Aside0.mk (Below.refl w.heap.size w)
  have HR := Aside0.mk (Kd.F_bound hr0)
  have HQ := Aside0.mk (Kd.F_bound hr1)
  have HC0 := Aside0.mk hc0
  have HC1 := Aside0.mk hc1
  have HWF := Aside0.mk hwf
  have HWQ := Aside0.mk hwq
  have HL0 := Aside0.mk hl0
  have HL1 := Aside0.mk hl1
  have HOP := Aside0.mk hop
  have HWF2 := Aside0.mk hwf2
  have HWQ2 := Aside0.mk hwq2
  have HL2 := Aside0.mk hl2
  have HL3 := Aside0.mk hl3
  have HI1 := Aside0.mk hi1
  have HI2 := Aside0.mk hi2
  have HCK := Aside0.mk hck
  have HV := Aside0.mk hv
  have HTU := Aside0.mk htu
  have H60 := Aside0.mk h60
  have HT := Aside0.mk ht
  have HT2 := Aside0.mk ht'
  have H16 := Aside0.mk h16
  have hu := Try.underlying27
  have hu9 := Try.underlying39
  clear hr0 hr1 hc0 hc1 hwf hwq hl0 hl1 hop hwf2 hwq2 hl2 hl3 hi1 hi2 hck hv htu h60 ht ht' h16 h0'
  go_enter Try.func4, Try.ntmps4
  go_upto_region 1 with fail
  obtain ⟨wa, hw_, on0, hb_, hz0⟩ := letter1 w (.cells #[.slice A0 fl.length c0, .slice A1 ql.length c1] 27 (0, 0))
  rw [hw_]
  clear hw_
  have hzwa := Nat.le_of_eq hz0.symm
  clear hz0
  have HR_ := Aside0.mk (Kd.F_below HR.out hb_)
  clear HR
  have HR := HR_
  clear HR_
  have HQ_ := Aside0.mk (Kd.F_below HQ.out hb_)
  clear HQ
  have HQ := HQ_
  clear HQ_
  have on := Aside0.mk on0
  clear on0
  obtain ⟨onc, onf, onl⟩ := cells_of on.out
  have HB_ : Aside0 (Below w.heap.size w wa) := Aside0.mk (below_step HB.out hb_)
  clear HB hb_
  have HB := HB_
  clear HB_
  go_wp2_with fail
  (go_at_call 7; (with_reducible refine (open_is A0 c0 fl A1 c1 ql now _ _ _ (fG HR) HC0.out (fG HQ) HC1.out HWF.out HWQ.out HL0.out HL1.out guest remote port fl' ql' h true HOP.out).mono ?_); rintro e_ w1 ⟨A_s, c_s, A_q, c_q, rfl, hc_s, hr_s, hc_q, hr_q, hb_⟩; have HB_ : Aside0 (Below w.heap.size w w1) := Aside0.mk (below_step (bG HB) hb_); have hzw1 := hb_.size; (try simp at hzw1); have on_ := Aside0.mk (box_below hb_ (eG on)); (try clear on onc onf onl); have on := on_; clear on_; obtain ⟨onc, onf, onl⟩ := cells_of on.out; clear HB hb_; have HB := HB_; clear HB_; have sc := Aside0.mk hc_s; have s := Aside0.mk (Kd.F_bound hr_s); clear hc_s hr_s; have qc := Aside0.mk hc_q; have q := Aside0.mk (Kd.F_bound hr_q); clear hc_q hr_q; skip)
  go_upto_region 4 with fail
  obtain ⟨w2, hw_, om0, hb_, hz0⟩ := letter1 w1 (.cells #[.slice A_s fl'.length c_s, .slice A_q ql'.length c_q] 27 (0, 0))
  rw [hw_]
  clear hw_
  have hzw2 := Nat.le_of_eq hz0.symm
  clear hz0
  have s_ := Aside0.mk (Kd.F_below s.out hb_)
  clear s
  have s := s_
  clear s_
  have q_ := Aside0.mk (Kd.F_below q.out hb_)
  clear q
  have q := q_
  clear q_
  have om := Aside0.mk om0
  clear om0
  obtain ⟨omc, omf, oml⟩ := cells_of om.out
  have HB_ : Aside0 (Below w.heap.size w w2) := Aside0.mk (below_step HB.out hb_)
  clear HB hb_
  have HB := HB_
  clear HB_
  go_wp2_with fail
  (go_at_call 9; (with_reducible refine (in_is A_s c_s fl' A_q c_q ql' (now + later) _ _ _ (fG s) sc.out (fG q) qc.out HWF2.out HWQ2.out HL2.out HL3.out h remote port v i HI1.out).mono ?_); rintro e_ w3 ⟨rfl, hb_⟩; have HB_ : Aside0 (Below w.heap.size w w3) := Aside0.mk (below_step (bG HB) hb_); have hzw3 := hb_.size; (try simp at hzw3); have om_ := Aside0.mk (box_below hb_ (eG om)); have s_ := Aside0.mk (Kd.F_below (fG s) hb_); clear s; have s := s_; clear s_; have q_ := Aside0.mk (Kd.F_below (fG q) hb_); clear q; have q := q_; clear q_; (try clear om omc omf oml); have om := om_; clear om_; obtain ⟨omc, omf, oml⟩ := cells_of om.out; clear HB hb_; have HB := HB_; clear HB_)
  go_upto_region 7 with fail
  have hv := HV.out
  have h60 := H60.out
  clear HV H60
  have hHI1 := HI1
  clear HI1 hHI1
  have hii : i = true ∨ i = false := by cases i <;> simp
  rcases hii with rfl | rfl
  · obtain rfl := hv rfl
    go_wp2_with fail
    (go_at_call 9; (with_reducible refine (in_is A_s c_s fl' A_q c_q ql' (now + later) _ _ _ (fG s) sc.out (fG q) qc.out HWF2.out HWQ2.out HL2.out HL3.out h other port v2 u HI2.out).mono ?_); rintro e_ w4 ⟨rfl, hb_⟩; have HB_ : Aside0 (Below w.heap.size w w4) := Aside0.mk (below_step (bG HB) hb_); have hzw4 := hb_.size; (try simp at hzw4); have om_ := Aside0.mk (box_below hb_ (eG om)); have s_ := Aside0.mk (Kd.F_below (fG s) hb_); clear s; have s := s_; clear s_; have q_ := Aside0.mk (Kd.F_below (fG q) hb_); clear q; have q := q_; clear q_; (try clear om omc omf oml); have om := om_; clear om_; obtain ⟨omc, omf, oml⟩ := cells_of om.out; clear HB hb_; have HB := HB_; clear HB_)
    go_upto_region 10 with fail
    have htu := HTU.out
    have ht := HT.out
    have ht' := HT2.out
    have h16 := H16.out
    clear HTU HT HT2 H16 HI2
    have htt : t = true ∨ (t = false ∧ u = false) := by cases t <;> simp at htu ⊢; exact htu
    clear htu
    rcases htt with rfl | ⟨rfl, rfl⟩
    · replace ht' : other = remote ↔ True := by simpa using ht'
      go_wp2_with fail
      (go_at_call 10; (with_reducible refine (check_runs A_s c_s fl' A_q c_q ql' _ (Kd.F_now (fG s)) (Kd.F_now (fG q)) HWF2.out HWQ2.out true HCK.out).mono ?_); rintro e_ w5 ⟨rfl, hb_⟩; have HB_ : Aside0 (Below w.heap.size w w5) := Aside0.mk (below_step (bG HB) hb_); have hzw5 := hb_.size; (try simp at hzw5); have om_ := Aside0.mk (box_below hb_ (eG om)); (try clear om omc omf oml); have om := om_; clear om_; obtain ⟨omc, omf, oml⟩ := cells_of om.out; clear HB hb_; have HB := HB_; clear HB_)
      go_wp2_with fail
      (go_at_call 6; (with_reducible refine (heads_is _).mono ?_); rintro e_ w6 ⟨rfl, hb_⟩; have HB_ : Aside0 (Below w.heap.size w w6) := Aside0.mk (below_step (bG HB) hb_); have hzw6 := hb_.size; (try simp at hzw6); have om_ := Aside0.mk (box_below hb_ (eG om)); (try clear om omc omf oml); have om := om_; clear om_; obtain ⟨omc, omf, oml⟩ := cells_of om.out; clear HB hb_; have HB := HB_; clear HB_)
      go_wp2
      go_ret
      exact ⟨rfl, HB.out⟩
    · replace ht' : ¬ other = remote := by simpa using ht'
      go_wp2_with fail
      (go_at_call 10; (with_reducible refine (check_runs A_s c_s fl' A_q c_q ql' _ (Kd.F_now (fG s)) (Kd.F_now (fG q)) HWF2.out HWQ2.out true HCK.out).mono ?_); rintro e_ w5 ⟨rfl, hb_⟩; have HB_ : Aside0 (Below w.heap.size w w5) := Aside0.mk (below_step (bG HB) hb_); have hzw5 := hb_.size; (try simp at hzw5); have om_ := Aside0.mk (box_below hb_ (eG om)); (try clear om omc omf oml); have om := om_; clear om_; obtain ⟨omc, omf, oml⟩ := cells_of om.out; clear HB hb_; have HB := HB_; clear HB_)
      go_wp2_with fail
      (go_at_call 6; (with_reducible refine (heads_is _).mono ?_); rintro e_ w6 ⟨rfl, hb_⟩; have HB_ : Aside0 (Below w.heap.size w w6) := Aside0.mk (below_step (bG HB) hb_); have hzw6 := hb_.size; (try simp at hzw6); have om_ := Aside0.mk (box_below hb_ (eG om)); (try clear om omc omf oml); have om := om_; clear om_; obtain ⟨omc, omf, oml⟩ := cells_of om.out; clear HB hb_; have HB := HB_; clear HB_)
      go_wp2
      go_ret
      exact ⟨rfl, HB.out⟩
  · clear hv
    go_wp2_with fail
    (go_at_call 9; (with_reducible refine (in_is A_s c_s fl' A_q c_q ql' (now + later) _ _ _ (fG s) sc.out (fG q) qc.out HWF2.out HWQ2.out HL2.out HL3.out h other port v2 u HI2.out).mono ?_); rintro e_ w4 ⟨rfl, hb_⟩; have HB_ : Aside0 (Below w.heap.size w w4) := Aside0.mk (below_step (bG HB) hb_); have hzw4 := hb_.size; (try simp at hzw4); have om_ := Aside0.mk (box_below hb_ (eG om)); have s_ := Aside0.mk (Kd.F_below (fG s) hb_); clear s; have s := s_; clear s_; have q_ := Aside0.mk (Kd.F_below (fG q) hb_); clear q; have q := q_; clear q_; (try clear om omc omf oml); have om := om_; clear om_; obtain ⟨omc, omf, oml⟩ := cells_of om.out; clear HB hb_; have HB := HB_; clear HB_)
    go_upto_region 10 with fail
    have htu := HTU.out
    have ht := HT.out
    have ht' := HT2.out
    have h16 := H16.out
    clear HTU HT HT2 H16 HI2
    have htt : t = true ∨ (t = false ∧ u = false) := by cases t <;> simp at htu ⊢; exact htu
    clear htu
    rcases htt with rfl | ⟨rfl, rfl⟩
    · replace ht' : other = remote ↔ True := by simpa using ht'
      go_wp2_with fail
      (go_at_call 10; (with_reducible refine (check_runs A_s c_s fl' A_q c_q ql' _ (Kd.F_now (fG s)) (Kd.F_now (fG q)) HWF2.out HWQ2.out true HCK.out).mono ?_); rintro e_ w5 ⟨rfl, hb_⟩; have HB_ : Aside0 (Below w.heap.size w w5) := Aside0.mk (below_step (bG HB) hb_); have hzw5 := hb_.size; (try simp at hzw5); have om_ := Aside0.mk (box_below hb_ (eG om)); (try clear om omc omf oml); have om := om_; clear om_; obtain ⟨omc, omf, oml⟩ := cells_of om.out; clear HB hb_; have HB := HB_; clear HB_)
      go_wp2_with fail
      (go_at_call 6; (with_reducible refine (heads_is _).mono ?_); rintro e_ w6 ⟨rfl, hb_⟩; have HB_ : Aside0 (Below w.heap.size w w6) := Aside0.mk (below_step (bG HB) hb_); have hzw6 := hb_.size; (try simp at hzw6); have om_ := Aside0.mk (box_below hb_ (eG om)); (try clear om omc omf oml); have om := om_; clear om_; obtain ⟨omc, omf, oml⟩ := cells_of om.out; clear HB hb_; have HB := HB_; clear HB_)
      go_wp2
      go_ret
      exact ⟨rfl, HB.out⟩
    · replace ht' : ¬ other = remote := by simpa using ht'
      go_wp2_with fail
      (go_at_call 10; (with_reducible refine (check_runs A_s c_s fl' A_q c_q ql' _ (Kd.F_now (fG s)) (Kd.F_now (fG q)) HWF2.out HWQ2.out true HCK.out).mono ?_); rintro e_ w5 ⟨rfl, hb_⟩; have HB_ : Aside0 (Below w.heap.size w w5) := Aside0.mk (below_step (bG HB) hb_); have hzw5 := hb_.size; (try simp at hzw5); have om_ := Aside0.mk (box_below hb_ (eG om)); (try clear om omc omf oml); have om := om_; clear om_; obtain ⟨omc, omf, oml⟩ := cells_of om.out; clear HB hb_; have HB := HB_; clear HB_)
      go_wp2_with fail
      (go_at_call 6; (with_reducible refine (heads_is _).mono ?_); rintro e_ w6 ⟨rfl, hb_⟩; have HB_ : Aside0 (Below w.heap.size w w6) := Aside0.mk (below_step (bG HB) hb_); have hzw6 := hb_.size; (try simp at hzw6); have om_ := Aside0.mk (box_below hb_ (eG om)); (try clear om omc omf oml); have om := om_; clear om_; obtain ⟨omc, omf, oml⟩ := cells_of om.out; clear HB hb_; have HB := HB_; clear HB_)
      go_wp2
      go_ret
      exact ⟨rfl, HB.out⟩
end Go.Proofs.Ytnjgejjijboibaa.Q
end
section
/- nat, in plain lists: a checked row stays checked, and who was opened is found. -/
namespace Go.Proofs.Ytnjgejjijboibaa.Q
open Go.RowKit Go.Proofs.YtnjgejjijboibaaW.PrintWords Go.Proofs.YtnjgejjijboibaaW.PrintLast Go.Proofs.YtnjgejjijboibaaW.PrintMore Go.Proofs.Ytnjgejjijboibaa.L
attribute [local go_sem] Instr.field part asAgg lt_step max2_int min2_int max_two min_two max_three min_three max_four min_four lt_0_1 lt_0_2 lt_1_2 lt_0_3 lt_1_3 lt_2_3 lt_0_4 lt_1_4 lt_2_4 lt_3_4 lt_0_5 lt_1_5 lt_2_5 lt_3_5 lt_4_5 lt_0_6 lt_1_6 lt_2_6 lt_3_6 lt_4_6 lt_5_6 lt_0_7 lt_1_7 lt_2_7 lt_3_7 lt_4_7 lt_5_7 lt_6_7 lt_0_8 lt_1_8 lt_2_8 lt_3_8 lt_4_8 lt_5_8 lt_6_8 lt_7_8
set_option linter.unusedVariables false
set_option linter.unusedSimpArgs false
theorem leastGo_spec {ks : List Int} : ∀ (f i : Nat), (∃ j : Nat, i ≤ j ∧ j ≤ i + f ∧ (j : Int) ∉ ks) → ((leastGo ks i f : Nat) : Int) ∉ ks ∧ i ≤ leastGo ks i f ∧ leastGo ks i f ≤ i + f
  | 0, i, ⟨j, h1, h2, h3⟩ => by
    obtain rfl : j = i := by omega
    rw [leastGo]
    exact ⟨h3, Nat.le_refl _, Nat.le_refl _⟩
  | f + 1, i, ⟨j, h1, h2, h3⟩ => by
    rw [leastGo]
    by_cases e : (i : Int) ∈ ks
    · rw [if_pos (by simpa using e)]
      have hne : i ≠ j := fun hh => by subst hh; exact h3 e
      obtain ⟨a, b, c⟩ := leastGo_spec f (i + 1) ⟨j, by omega, by omega, h3⟩
      exact ⟨a, by omega, by omega⟩
    · rw [if_neg (by simpa using e)]
      exact ⟨e, Nat.le_refl _, by omega⟩
theorem leastN_spec (ks : List Int) : leastN ks ∉ ks ∧ 1 ≤ leastN ks ∧ leastN ks ≤ (ks.length : Int) + 1 := by
  have hex : ∃ j : Nat, 1 ≤ j ∧ j ≤ 1 + ks.length ∧ (j : Int) ∉ ks := by
    refine Classical.byContradiction fun hn => ?_
    have := pigeon (ks.length + 1) ks (fun i h1 h2 => Classical.byContradiction fun h3 => hn ⟨i, h1, by omega, h3⟩)
    omega
  obtain ⟨a, b, c⟩ := leastGo_spec ks.length 1 hex
  unfold leastN
  exact ⟨a, by omega, by omega⟩
def baseF (x : S48) : Bool := (wordB x.f0 && wordB x.f3) && slotB x.f1 x.f4
def baseQ (x : S39) : Bool := (wordB x.f1 && wordB x.f2) && slotB x.f0 x.f3
def RF (x y : S48) : Prop := x.f1 ≠ y.f1 ∧ wayB x y = false
def RQ (x y : S39) : Prop := x.f0 ≠ y.f0
theorem oneF_iff (prev : List S48) (x : S48) : oneF prev x = true ↔ baseF x = true ∧ ∀ y ∈ prev, RF y x := by
  unfold oneF baseF RF
  simp only [Bool.and_eq_true, Bool.not_eq_true', List.any_eq_false]
  constructor
  · rintro ⟨⟨⟨h1, h2⟩, h3⟩, h4⟩
    refine ⟨⟨h1, h2⟩, fun y hy => ⟨fun e => ?_, by simpa using h4 y hy⟩⟩
    have : x.f1 ∈ prev.map (fun y => y.f1) := List.mem_map.2 ⟨y, hy, e⟩
    have h5 := List.contains_iff_mem.2 this
    rw [h3] at h5; cases h5
  · rintro ⟨⟨h1, h2⟩, h3⟩
    refine ⟨⟨⟨h1, h2⟩, ?_⟩, fun y hy => by simpa using (h3 y hy).2⟩
    refine Bool.eq_false_iff.2 fun hc => ?_
    obtain ⟨y, hy, e⟩ := List.mem_map.1 (List.contains_iff_mem.1 hc)
    exact (h3 y hy).1 e
theorem oneQ_iff (prev : List S39) (x : S39) : oneQ prev x = true ↔ baseQ x = true ∧ ∀ y ∈ prev, RQ y x := by
  unfold oneQ baseQ RQ
  simp only [Bool.and_eq_true, Bool.not_eq_true']
  constructor
  · rintro ⟨⟨h1, h2⟩, h3⟩
    refine ⟨⟨h1, h2⟩, fun y hy e => ?_⟩
    have : x.f0 ∈ prev.map (fun y => y.f0) := List.mem_map.2 ⟨y, hy, e⟩
    have h5 := List.contains_iff_mem.2 this
    rw [h3] at h5; cases h5
  · rintro ⟨⟨h1, h2⟩, h3⟩
    refine ⟨⟨h1, h2⟩, ?_⟩
    refine Bool.eq_false_iff.2 fun hc => ?_
    obtain ⟨y, hy, e⟩ := List.mem_map.1 (List.contains_iff_mem.1 hc)
    exact h3 y hy e
theorem okF_iff : ∀ (l prev : List S48), okF prev l = true ↔ (∀ x ∈ l, baseF x = true) ∧ (∀ y ∈ prev, ∀ x ∈ l, RF y x) ∧ l.Pairwise RF
  | [], prev => by simp [okF]
  | x :: l, prev => by
    rw [okF, Bool.and_eq_true, oneF_iff, okF_iff l (prev ++ [x]), List.pairwise_cons]
    constructor
    · rintro ⟨⟨h1, h2⟩, h3, h4, h5⟩
      refine ⟨fun z hz => ?_, fun y hy z hz => ?_, fun z hz => h4 x (by simp) z hz, h5⟩
      · rcases List.mem_cons.1 hz with rfl | hz
        · exact h1
        · exact h3 z hz
      · rcases List.mem_cons.1 hz with rfl | hz
        · exact h2 y hy
        · exact h4 y (by simp [hy]) z hz
    · rintro ⟨h1, h2, h3, h4⟩
      refine ⟨⟨h1 x (by simp), fun y hy => h2 y hy x (by simp)⟩, fun z hz => h1 z (by simp [hz]), fun y hy z hz => ?_, h4⟩
      rcases List.mem_append.1 hy with hy | hy
      · exact h2 y hy z (by simp [hz])
      · rw [List.mem_singleton.1 hy]; exact h3 z hz
theorem okQ_iff : ∀ (l prev : List S39), okQ prev l = true ↔ (∀ x ∈ l, baseQ x = true) ∧ (∀ y ∈ prev, ∀ x ∈ l, RQ y x) ∧ l.Pairwise RQ
  | [], prev => by simp [okQ]
  | x :: l, prev => by
    rw [okQ, Bool.and_eq_true, oneQ_iff, okQ_iff l (prev ++ [x]), List.pairwise_cons]
    constructor
    · rintro ⟨⟨h1, h2⟩, h3, h4, h5⟩
      refine ⟨fun z hz => ?_, fun y hy z hz => ?_, fun z hz => h4 x (by simp) z hz, h5⟩
      · rcases List.mem_cons.1 hz with rfl | hz
        · exact h1
        · exact h3 z hz
      · rcases List.mem_cons.1 hz with rfl | hz
        · exact h2 y hy
        · exact h4 y (by simp [hy]) z hz
    · rintro ⟨h1, h2, h3, h4⟩
      refine ⟨⟨h1 x (by simp), fun y hy => h2 y hy x (by simp)⟩, fun z hz => h1 z (by simp [hz]), fun y hy z hz => ?_, h4⟩
      rcases List.mem_append.1 hy with hy | hy
      · exact h2 y hy z (by simp [hz])
      · rw [List.mem_singleton.1 hy]; exact h3 z hz
theorem checkZ_iff (fl : List S48) (ql : List S39) : checkZ fl ql = true ↔ (fl.length ≤ 16 ∧ ql.length ≤ 16) ∧ ((∀ x ∈ fl, baseF x = true) ∧ fl.Pairwise RF) ∧ (∀ x ∈ ql, baseQ x = true) ∧ ql.Pairwise RQ := by
  unfold checkZ
  rw [Bool.and_eq_true, Bool.and_eq_true, Bool.and_eq_true, decide_eq_true_eq, decide_eq_true_eq, okF_iff, okQ_iff]
  constructor
  · rintro ⟨h, ⟨a, _, b⟩, c, _, d⟩; exact ⟨h, ⟨a, b⟩, c, d⟩
  · rintro ⟨h, ⟨a, b⟩, c, d⟩; exact ⟨h, ⟨a, by simp, b⟩, c, by simp, d⟩
theorem may_iff (fl : List S48) (ql : List S39) (now : Int) : mayZ fl ql now = true ↔ checkZ fl ql = true ∧ 0 ≤ now ∧ now ≤ 1099511627716 := by
  unfold mayZ
  rw [Bool.and_eq_true, Bool.and_eq_true, decide_eq_true_eq, decide_eq_true_eq]
  exact ⟨fun h => ⟨h.1.1, h.1.2, h.2⟩, fun h => ⟨⟨h.1, h.2.1⟩, h.2.2⟩⟩
theorem uniq {α : Type} {R : α → α → Prop} {f : α → Int} (hR : ∀ x y, R x y → f x ≠ f y) : ∀ {l : List α}, l.Pairwise R → ∀ {x y : α}, x ∈ l → y ∈ l → f x = f y → x = y
  | [], _, x, y, hx, _, _ => by cases hx
  | a :: l, h, x, y, hx, hy, e => by
    obtain ⟨h1, h2⟩ := List.pairwise_cons.1 h
    rcases List.mem_cons.1 hx with hx1 | hx1 <;> rcases List.mem_cons.1 hy with hy1 | hy1
    · rw [hx1, hy1]
    · subst hx1; exact absurd e (hR _ _ (h1 y hy1))
    · subst hy1; exact absurd e.symm (hR _ _ (h1 x hx1))
    · exact uniq hR h2 hx1 hy1 e
theorem way_facts {g r p : Int} {x : S48} (h : wayP g r p x = true) : x.f0 = g ∧ x.f2 = r ∧ x.f3 = p := by
  unfold wayP at h
  simp only [Bool.and_eq_true, beq_iff_eq] at h
  exact ⟨h.1.1, h.1.2, h.2⟩
/-- What Open leaves is checked, and holds what was opened. -/
theorem open_keeps {fl : List S48} {ql : List S39} {now guest remote port : Int} {fl' : List S48} {ql' : List S39} {h : Int} (hop : openF fl ql now guest remote port = (fl', ql', h, true)) :
    checkZ fl' ql' = true ∧ ql' = EQ ql now ∧ (⟨guest, h, remote, port, now + 60⟩ : S48) ∈ fl' ∧ (0 ≤ now ∧ now ≤ 1099511627716) ∧ (∀ z ∈ fl', z ∈ fl ∨ z = ⟨guest, h, remote, port, now + 60⟩) ∧ 1 ≤ h ∧ h ≤ 16 := by
  unfold openF at hop
  split at hop
  case isFalse => simp at hop
  case isTrue hx =>
  obtain ⟨hm, hd⟩ := (Bool.and_eq_true _ _).mp hx
  obtain ⟨hd0, hd1⟩ := (Bool.and_eq_true _ _).mp hd
  obtain ⟨hc, hn0, hn1⟩ := (may_iff _ _ _).1 hm
  obtain ⟨⟨l0, l1⟩, ⟨b0, p0⟩, b1, p1⟩ := (checkZ_iff _ _).1 hc
  have bE : ∀ x ∈ EF fl now, baseF x = true := fun x hx => b0 x (List.mem_filter.1 hx).1
  have pE : (EF fl now).Pairwise RF := p0.filter _
  have bQ : ∀ x ∈ EQ ql now, baseQ x = true := fun x hx => b1 x (List.mem_filter.1 hx).1
  have pQ : (EQ ql now).Pairwise RQ := p1.filter _
  have lE := EF_len fl now
  have lQ := EQ_len ql now
  have slot_of : ∀ n : Int, 1 ≤ n → n ≤ 16 → slotB n (now + 60) = true := fun n h1 h2 => by
    unfold slotB
    simp only [Bool.and_eq_true, decide_eq_true_eq]
    omega
  rcases idxP_spec (wayP guest remote port) z48 (EF fl now) 0 with ⟨h1, _, hno⟩ | h1 | ⟨k, hk, he, _, hw⟩
  · rw [if_pos h1] at hop
    split at hop
    case isTrue => simp at hop
    case isFalse h16 =>
    simp only [Prod.mk.injEq, and_true] at hop
    obtain ⟨rfl, rfl, rfl⟩ := hop
    obtain ⟨s1, s2, s3⟩ := leastN_spec ((EF fl now).map fun x => x.f1)
    rw [List.length_map] at s3
    have s4 : leastN ((EF fl now).map fun x => x.f1) ≤ 16 := by omega
    refine ⟨(checkZ_iff _ _).2 ⟨⟨by rw [List.length_append]; show (EF fl now).length + 1 ≤ 16; omega, by omega⟩, ⟨fun x hx => ?_, List.pairwise_append.2 ⟨pE, by simp, fun x hx y hy => ?_⟩⟩, bQ, pQ⟩, rfl, by simp, ⟨hn0, hn1⟩, fun z hz => ?_, s2, s4⟩
    · rcases List.mem_append.1 hx with hx | hx
      · exact bE x hx
      · rw [List.mem_singleton.1 hx]
        unfold baseF
        dsimp only
        rw [hd0, hd1, slot_of _ s2 s4]; rfl
    · rw [List.mem_singleton.1 hy]
      refine ⟨fun e => s1 (List.mem_map.2 ⟨x, hx, e⟩), ?_⟩
      exact hno x hx
    · rcases List.mem_append.1 hz with hz | hz
      · exact .inl (List.mem_filter.1 hz).1
      · exact .inr (List.mem_singleton.1 hz)
  · exact absurd h1 (by decide)
  · rw [Int.zero_add] at he
    rw [if_neg (by omega), he, Int.toNat_natCast] at hop
    simp only [Prod.mk.injEq, and_true] at hop
    have hx : (EF fl now).getD k z48 ∈ EF fl now := by
      rw [List.getD_eq_getElem?_getD, List.getElem?_eq_getElem hk]; exact List.getElem_mem hk
    obtain ⟨X, hX⟩ : ∃ X, X = (EF fl now).getD k z48 := ⟨_, rfl⟩
    rw [← hX] at hop hw hx
    obtain ⟨w0, w2, w3⟩ := way_facts hw
    rw [w0, w2, w3] at hop
    obtain ⟨rfl, rfl, rfl⟩ := hop
    have bX := bE X hx
    have bX2 := bX
    unfold baseF slotB at bX2
    simp only [Bool.and_eq_true, decide_eq_true_eq] at bX2
    have hXk : (EF fl now)[k]? = some X := by rw [hX, List.getD_eq_getElem?_getD, List.getElem?_eq_getElem hk]; rfl
    have hmap : ∀ {β : Type} (f : S48 → β), f ⟨guest, X.f1, remote, port, now + 60⟩ = f X → ((EF fl now).set k ⟨guest, X.f1, remote, port, now + 60⟩).map f = (EF fl now).map f := fun f hf => by
      rw [List.map_set, hf]
      apply List.ext_getElem?
      intro j
      rw [List.getElem?_set]
      split
      case isTrue hj =>
        subst hj
        rw [List.getElem?_map, hXk]
        split
        · rfl
        · rename_i hnl; rw [List.length_map] at hnl; exact absurd hk hnl
      case isFalse => rfl
    have pS : ((EF fl now).set k ⟨guest, X.f1, remote, port, now + 60⟩).Pairwise RF := by
      have h2 : ((EF fl now).map (fun x : S48 => (x.f0, x.f1, x.f2, x.f3))).Pairwise (fun a b => a.2.1 ≠ b.2.1 ∧ (a.1 == b.1 && a.2.2.1 == b.2.2.1 && a.2.2.2 == b.2.2.2) = false) := List.pairwise_map.2 pE
      rw [← hmap (fun x : S48 => (x.f0, x.f1, x.f2, x.f3)) (by dsimp only; rw [w0, w2, w3])] at h2
      have h3 := List.pairwise_map.1 h2
      exact h3
    refine ⟨(checkZ_iff _ _).2 ⟨⟨by rw [List.length_set]; omega, by omega⟩, ⟨fun x hx => ?_, pS⟩, bQ, pQ⟩, rfl, List.mem_set hk _, ⟨hn0, hn1⟩, fun z hz => ?_, bX2.2.1.1.1, bX2.2.1.1.2⟩
    · rcases List.mem_or_eq_of_mem_set hx with hx | rfl
      · exact bE x hx
      · unfold baseF
        dsimp only
        rw [hd0, hd1, slot_of _ bX2.2.1.1.1 bX2.2.1.1.2]; rfl
    · rcases List.mem_or_eq_of_mem_set hz with hz | rfl
      · exact .inl (List.mem_filter.1 hz).1
      · exact .inr rfl
theorem open_no_h {fl : List S48} {ql : List S39} {now guest remote port : Int} {fl' : List S48} {ql' : List S39} {h : Int} (hop : openF fl ql now guest remote port = (fl', ql', h, false)) : h = 0 := by
  unfold openF at hop
  repeat' split at hop
  all_goals (simp only [Prod.mk.injEq, and_true, Bool.true_eq_false, and_false, Bool.false_eq_true] at hop)
  all_goals (obtain ⟨_, _, rfl⟩ := hop; rfl)
/-- Who is asked for by that number, and none else, comes in. -/
theorem in_of {fl' : List S48} {ql' : List S39} {X : S48} (hck : checkZ fl' ql' = true) (hX : X ∈ fl') {t : Int} (ht0 : 0 ≤ t) (ht1 : t ≤ 1099511627716) (r p : Int) :
    inF fl' ql' t X.f1 r p = if ((X.f2 == r && X.f3 == p) && decide (X.f4 > t)) = true then (X.f0, true) else (0, false) := by
  obtain ⟨_, ⟨_, pw⟩, _⟩ := (checkZ_iff _ _).1 hck
  unfold inF
  rw [if_pos ((may_iff _ _ _).2 ⟨hck, ht0, ht1⟩)]
  unfold inV
  cases hf : fl'.find? (inP X.f1 r p t) with
  | some y =>
    have hy := List.mem_of_find?_eq_some hf
    have hp := List.find?_some hf
    have hp2 := hp
    unfold inP at hp2
    simp only [Bool.and_eq_true, beq_iff_eq, decide_eq_true_eq] at hp2
    obtain rfl := uniq (f := fun x : S48 => x.f1) (fun x y h => h.1) pw hX hy hp2.1.1.1.symm
    rw [if_pos (by simp only [Bool.and_eq_true, beq_iff_eq, decide_eq_true_eq]; exact ⟨⟨hp2.1.1.2, hp2.1.2⟩, hp2.2⟩)]
  | none =>
    have h1 := List.find?_eq_none.1 hf X hX
    rw [if_neg]
    intro hc
    apply h1
    unfold inP
    simp only [Bool.and_eq_true, beq_iff_eq, decide_eq_true_eq] at hc ⊢
    exact ⟨⟨⟨trivial, hc.1.1⟩, hc.1.2⟩, hc.2⟩
end Go.Proofs.Ytnjgejjijboibaa.Q
end
section
/- NatBack: the walk and the plain law, joined. -/
namespace Go.Proofs.Ytnjgejjijboibaa.Q
open Go.RowKit Go.Proofs.YtnjgejjijboibaaW.PrintWords Go.Proofs.YtnjgejjijboibaaW.PrintLast Go.Proofs.YtnjgejjijboibaaW.PrintMore Go.Proofs.Ytnjgejjijboibaa.L
attribute [local go_sem] Instr.field part asAgg lt_step max2_int min2_int max_two min_two max_three min_three max_four min_four lt_0_1 lt_0_2 lt_1_2 lt_0_3 lt_1_3 lt_2_3 lt_0_4 lt_1_4 lt_2_4 lt_3_4 lt_0_5 lt_1_5 lt_2_5 lt_3_5 lt_4_5 lt_0_6 lt_1_6 lt_2_6 lt_3_6 lt_4_6 lt_5_6 lt_0_7 lt_1_7 lt_2_7 lt_3_7 lt_4_7 lt_5_7 lt_6_7 lt_0_8 lt_1_8 lt_2_8 lt_3_8 lt_4_8 lt_5_8 lt_6_8 lt_7_8
set_option linter.unusedVariables false
set_option linter.unusedSimpArgs false
instance (x : Int) : Decidable (wf64 x) := by unfold wf64; infer_instance
instance (x : Int) : Decidable (wf32 x) := by unfold wf32; infer_instance
theorem wf_kept {fl : List S48} {ql : List S39} {now guest remote port : Int} {fl' : List S48} {ql' : List S39} {h : Int} (hop : openF fl ql now guest remote port = (fl', ql', h, true)) (hwf : ∀ x ∈ fl, wfF x) (hwq : ∀ x ∈ ql, wfQ x) (hg : wf64 guest) (hr : wf32 remote) (hp : wf64 port) : (∀ x ∈ fl', wfF x) ∧ ∀ x ∈ ql', wfQ x := by
  obtain ⟨_, h2, _, h4, h5, h6, h7⟩ := open_keeps hop
  refine ⟨fun x hx => ?_, fun x hx => ?_⟩
  · rcases h5 x hx with h | rfl
    · exact hwf x h
    · exact ⟨hg, by unfold wf64; dsimp only; omega, hr, hp, by unfold wf64; dsimp only; omega⟩
  · rw [h2] at hx
    exact hwq x (List.mem_filter.1 hx).1
theorem NatBack_yes (A0 : Option Addr) (c0 : Nat) (fl : List S48) (A1 : Option Addr) (c1 : Nat) (ql : List S39) (now guest remote port other later : Int) (w : World) (ok0 ok1 : Nat → Prop) (hr0 : Kd.F k48 w ok0 A0 fl.length fl) (hc0 : fl.length ≤ c0) (hr1 : Kd.F k39 w ok1 A1 ql.length ql) (hc1 : ql.length ≤ c1) (hwf : ∀ x ∈ fl, wfF x) (hwq : ∀ x ∈ ql, wfQ x) (hg : wf64 guest) (hr : wf32 remote) (hp : wf64 port)
    (h0 : decide ((fl.length : Int) > 40) = false) (h1 : decide ((ql.length : Int) > 40) = false) (h2 : decide (later < 0) = false) (h3 : decide (later > 100) = false) (h4 : decide (now < 0) = false) (h5 : decide (now > 549755813888) = false) :
    Calls Try.prog 4 #[.agg #[.slice A0 fl.length c0, .slice A1 ql.length c1], .int .i64 now, .int .i64 guest, .int .u32 remote, .int .i64 port, .int .u32 other, .int .i64 later] w fun e w' => e = .returned (.bool true) ∧ Below w.heap.size w w' := by
  have g0 := of_decide_eq_false h0
  have g1 := of_decide_eq_false h1
  have g2 := of_decide_eq_false h2
  have g3 := of_decide_eq_false h3
  have g4 := of_decide_eq_false h4
  have g5 := of_decide_eq_false h5
  have hl0 : fl.length ≤ 1000 := by omega
  have hl1 : ql.length ≤ 1000 := by omega
  obtain ⟨fl', ql', h, b, hop⟩ : ∃ fl' ql' h b, openF fl ql now guest remote port = (fl', ql', h, b) := ⟨_, _, _, _, rfl⟩
  cases b with
  | false =>
    obtain rfl := open_no_h hop
    exact NatBack_fail A0 c0 fl A1 c1 ql now w ok0 ok1 hr0 hc0 hr1 hc1 hwf hwq hl0 hl1 guest remote port other later h0 h1 h2 h3 h4 h5 fl' ql' hop
  | true =>
    obtain ⟨k1, k2, k3, k4, k5, k6⟩ := open_keeps hop
    obtain ⟨wf', wq'⟩ := wf_kept hop hwf hwq hg hr hp
    obtain ⟨⟨l0, l1⟩, _⟩ := (checkZ_iff _ _).1 k1
    have i1 := in_of k1 k3 (t := now + later) (by omega) (by omega) remote port
    have i2 := in_of k1 k3 (t := now + later) (by omega) (by omega) other port
    dsimp only at i1 i2
    rw [beq_self_eq_true, beq_self_eq_true, Bool.and_self, Bool.true_and] at i1
    have hd : decide (now + 60 > now + later) = decide (later < 60) := by rw [decide_eq_decide]; omega
    rw [hd] at i1
    obtain ⟨v2, u, hi2⟩ : ∃ v u, inF fl' ql' (now + later) h other port = (v, u) := ⟨_, _, rfl⟩
    obtain ⟨v, i, hi1⟩ : ∃ v i, inF fl' ql' (now + later) h remote port = (v, i) := ⟨_, _, rfl⟩
    refine NatBack_ok A0 c0 fl A1 c1 ql now w ok0 ok1 hr0 hc0 hr1 hc1 hwf hwq hl0 hl1 guest remote port other later h0 h1 h2 h3 h4 h5 fl' ql' h trivial hop (by unfold wrap64; omega) wf' wq' (by omega) (by omega) v v2 i (other == remote) u hi1 hi2 ?_ ?_ rfl beq_iff_eq.symm ?_ k1 (decide_eq_true (by omega))
    · rw [hi1] at i1
      cases hb : decide (later < 60)
      · rw [hb] at i1; simp at i1; exact i1.2.symm
      · rw [hb] at i1; simp at i1; exact i1.2.symm
    · intro hi
      rw [hi1, hi] at i1
      split at i1
      · exact (Prod.mk.inj i1).1
      · cases (Prod.mk.inj i1).2
    · intro ht
      rw [hi2, show (remote == other) = false from by rw [beq_eq_false_iff_ne] at ht ⊢; exact fun e => ht e.symm, Bool.false_and, Bool.false_and, if_neg (by decide)] at i2
      exact (Prod.mk.inj i2).2
def drawbridgelaw26_NatBack.f (l0 : List S48) (l1 : List S39) (a1 a2 a3 a4 a5 a6 : Int) : Option Bool := if (∀ z ∈ l0, wfF z) ∧ (∀ z ∈ l1, wfQ z) ∧ wf64 a2 ∧ wf32 a3 ∧ wf64 a4 then some true else none
theorem drawbridgelaw26_NatBack.calls (A0 : Option Addr) (c0 : Nat) (l0 : List S48) (A1 : Option Addr) (c1 : Nat) (l1 : List S39) (a1 a2 a3 a4 a5 a6 : Int) (r : Bool) (w : World) (hr0 : Kd.C k48 w A0 l0.length l0) (hc0 : l0.length ≤ c0) (hr1 : Kd.C k39 w A1 l1.length l1) (hc1 : l1.length ≤ c1) (h : drawbridgelaw26_NatBack.f l0 l1 a1 a2 a3 a4 a5 a6 = some r) :
    Calls Try.prog 4 #[.agg #[.slice A0 l0.length c0, .slice A1 l1.length c1], .int .i64 a1, .int .i64 a2, .int .u32 a3, .int .i64 a4, .int .u32 a5, .int .i64 a6] w fun e w' => e = .returned (.bool r) ∧ Below w.heap.size w w' := by
  unfold drawbridgelaw26_NatBack.f at h
  split at h
  case isFalse => cases h
  case isTrue hh =>
  obtain rfl := Option.some.inj h
  obtain ⟨q1, q2, q3, q4, q5⟩ := hh
  cases hG : (decide ((l0.length : Int) > 40) || decide ((l1.length : Int) > 40) || decide (a6 < 0) || decide (a6 > 100) || decide (a1 < 0) || decide (a1 > 549755813888)) with
  | true => exact NatBack_no A0 c0 l0 A1 c1 l1 a1 w _ _ (F_in48 hr0) hc0 (F_in39 hr1) hc1 a2 a3 a4 a5 a6 hG
  | false =>
    simp only [Bool.or_eq_false_iff] at hG
    obtain ⟨⟨⟨⟨⟨t0, t1⟩, t2⟩, t3⟩, t4⟩, t5⟩ := hG
    exact NatBack_yes A0 c0 l0 A1 c1 l1 a1 a2 a3 a4 a5 a6 w _ _ (F_in48 hr0) hc0 (F_in39 hr1) hc1 q1 q2 q3 q4 q5 t0 t1 t2 t3 t4 t5
end Go.Proofs.Ytnjgejjijboibaa.Q
end
section
/- NatOnce: the walk and the plain law, joined. -/
namespace Go.Proofs.Ytnjgejjijboibaa.Q
open Go.RowKit Go.Proofs.YtnjgejjijboibaaW.PrintWords Go.Proofs.YtnjgejjijboibaaW.PrintLast Go.Proofs.YtnjgejjijboibaaW.PrintMore Go.Proofs.Ytnjgejjijboibaa.L
attribute [local go_sem] Instr.field part asAgg lt_step max2_int min2_int max_two min_two max_three min_three max_four min_four lt_0_1 lt_0_2 lt_1_2 lt_0_3 lt_1_3 lt_2_3 lt_0_4 lt_1_4 lt_2_4 lt_3_4 lt_0_5 lt_1_5 lt_2_5 lt_3_5 lt_4_5 lt_0_6 lt_1_6 lt_2_6 lt_3_6 lt_4_6 lt_5_6 lt_0_7 lt_1_7 lt_2_7 lt_3_7 lt_4_7 lt_5_7 lt_6_7 lt_0_8 lt_1_8 lt_2_8 lt_3_8 lt_4_8 lt_5_8 lt_6_8 lt_7_8
set_option linter.unusedVariables false
set_option linter.unusedSimpArgs false
theorem ask_keeps {fl : List S48} {ql : List S39} {now guest gid : Int} {fl' : List S48} {ql' : List S39} {h : Int} (hop : askF fl ql now guest gid = (fl', ql', h, true)) :
    checkZ fl' ql' = true ∧ fl' = EF fl now ∧ (⟨h, guest, gid, now + 5⟩ : S39) ∈ ql' ∧ (0 ≤ now ∧ now ≤ 1099511627716) ∧ (∀ z ∈ ql', z ∈ ql ∨ z = ⟨h, guest, gid, now + 5⟩) ∧ 1 ≤ h ∧ h ≤ 16 := by
  unfold askF at hop
  split at hop
  case isFalse => simp at hop
  case isTrue hx =>
  obtain ⟨hm, hd⟩ := (Bool.and_eq_true _ _).mp hx
  obtain ⟨hd0, hd1⟩ := (Bool.and_eq_true _ _).mp hd
  obtain ⟨hc, hn0, hn1⟩ := (may_iff _ _ _).1 hm
  obtain ⟨⟨l0, l1⟩, ⟨b0, p0⟩, b1, p1⟩ := (checkZ_iff _ _).1 hc
  have bE : ∀ x ∈ EF fl now, baseF x = true := fun x hx => b0 x (List.mem_filter.1 hx).1
  have pE : (EF fl now).Pairwise RF := p0.filter _
  have bQ : ∀ x ∈ EQ ql now, baseQ x = true := fun x hx => b1 x (List.mem_filter.1 hx).1
  have pQ : (EQ ql now).Pairwise RQ := p1.filter _
  have lE := EF_len fl now
  have lQ := EQ_len ql now
  split at hop
  case isTrue => simp at hop
  case isFalse h16 =>
  simp only [Prod.mk.injEq, and_true] at hop
  obtain ⟨rfl, rfl, rfl⟩ := hop
  obtain ⟨s1, s2, s3⟩ := leastN_spec ((EQ ql now).map fun x => x.f0)
  rw [List.length_map] at s3
  have s4 : leastN ((EQ ql now).map fun x => x.f0) ≤ 16 := by omega
  refine ⟨(checkZ_iff _ _).2 ⟨⟨by omega, by rw [List.length_append]; show (EQ ql now).length + 1 ≤ 16; omega⟩, ⟨bE, pE⟩, fun x hx => ?_, List.pairwise_append.2 ⟨pQ, by simp, fun x hx y hy => ?_⟩⟩, rfl, by simp, ⟨hn0, hn1⟩, fun z hz => ?_, s2, s4⟩
  · rcases List.mem_append.1 hx with hx | hx
    · exact bQ x hx
    · rw [List.mem_singleton.1 hx]
      unfold baseQ
      dsimp only
      rw [hd0, hd1, Bool.and_self, Bool.true_and]
      unfold slotB
      simp only [Bool.and_eq_true, decide_eq_true_eq]
      omega
  · rw [List.mem_singleton.1 hy]
    exact fun e => s1 (List.mem_map.2 ⟨x, hx, e⟩)
  · rcases List.mem_append.1 hz with hz | hz
    · exact .inl (List.mem_filter.1 hz).1
    · exact .inr (List.mem_singleton.1 hz)
theorem ask_no_h {fl : List S48} {ql : List S39} {now guest gid : Int} {fl' : List S48} {ql' : List S39} {h : Int} (hop : askF fl ql now guest gid = (fl', ql', h, false)) : h = 0 := by
  unfold askF at hop
  repeat' split at hop
  all_goals (simp only [Prod.mk.injEq, and_true, Bool.true_eq_false, and_false, Bool.false_eq_true] at hop)
  all_goals (obtain ⟨_, _, rfl⟩ := hop; rfl)
theorem id_facts {id t : Int} {x : S39} (h : idP id t x = true) : x.f0 = id ∧ x.f3 > t := by
  unfold idP at h
  simp only [Bool.and_eq_true, beq_iff_eq, decide_eq_true_eq] at h
  exact h
theorem back_none_of {fl' : List S48} {ql' : List S39} {id t : Int} (h : ∀ x ∈ ql', idP id t x = false) : backF fl' ql' t id = (ql', z39, false) := by
  unfold backF
  split
  · rcases idxP_spec (idP id t) z39 ql' 0 with ⟨h1, _⟩ | h1 | ⟨k, hk, _, _, hw⟩
    · rw [if_pos h1]
    · exact absurd h1 (by decide)
    · have hx : ql'.getD k z39 ∈ ql' := by
        rw [List.getD_eq_getElem?_getD, List.getElem?_eq_getElem hk]; exact List.getElem_mem hk
      rw [h _ hx] at hw
      cases hw
  · rfl
/-- Who was asked is told once. -/
theorem back_of {fl' : List S48} {ql' : List S39} {X : S39} (hck : checkZ fl' ql' = true) (hX : X ∈ ql') {t : Int} (ht0 : 0 ≤ t) (ht1 : t ≤ 1099511627716) :
    ∃ ql2 q, backF fl' ql' t X.f0 = (ql2, q, decide (X.f3 > t)) ∧ (X.f3 > t → q = X) ∧ checkZ fl' ql2 = true ∧ (∀ z ∈ ql2, z ∈ ql') ∧ ql2.length ≤ ql'.length ∧ backF fl' ql2 t X.f0 = (ql2, z39, false) := by
  obtain ⟨⟨l0, l1⟩, pf, bq, pw⟩ := (checkZ_iff _ _).1 hck
  rcases idxP_spec (idP X.f0 t) z39 ql' 0 with ⟨h1, _, hno⟩ | h1 | ⟨k, hk, he, _, hw⟩
  · have hle : decide (X.f3 > t) = false := by
      have := hno X hX
      unfold idP at this
      rwa [beq_self_eq_true, Bool.true_and] at this
    refine ⟨ql', z39, by rw [back_none_of hno, hle], fun h => absurd h (of_decide_eq_false hle), hck, fun z hz => hz, Nat.le_refl _, back_none_of hno⟩
  · exact absurd h1 (by decide)
  · rw [Int.zero_add] at he
    have hx : ql'.getD k z39 ∈ ql' := by
      rw [List.getD_eq_getElem?_getD, List.getElem?_eq_getElem hk]; exact List.getElem_mem hk
    obtain ⟨hy0, hy3⟩ := id_facts hw
    have hXk : ql'.getD k z39 = X := uniq (f := fun x : S39 => x.f0) (fun x y h => h) pw hx hX hy0
    rw [hXk] at hy3
    have hsub : (ql'.take k ++ ql'.drop (k + 1)).Sublist ql' := by
      rw [← List.eraseIdx_eq_take_drop_succ]; exact List.eraseIdx_sublist _ _
    have hget : ql'[k] = X := by rw [← hXk, List.getD_eq_getElem?_getD, List.getElem?_eq_getElem hk]; rfl
    have hsplit : ql' = ql'.take k ++ X :: ql'.drop (k + 1) := by
      rw [← hget, List.getElem_cons_drop, List.take_append_drop]
    have pw2 := pw
    rw [hsplit] at pw2
    obtain ⟨_, p2, p3⟩ := List.pairwise_append.1 pw2
    obtain ⟨p4, _⟩ := List.pairwise_cons.1 p2
    have hno : ∀ x ∈ ql'.take k ++ ql'.drop (k + 1), idP X.f0 t x = false := fun x hx => by
      refine Bool.eq_false_iff.2 fun hc => ?_
      have e := (id_facts hc).1
      rcases List.mem_append.1 hx with hx | hx
      · exact p3 x hx X (by simp) e
      · exact p4 x hx e.symm
    refine ⟨ql'.take k ++ ql'.drop (k + 1), X, ?_, fun _ => rfl, (checkZ_iff _ _).2 ⟨⟨l0, Nat.le_trans hsub.length_le l1⟩, pf, fun x hx => bq x (hsub.subset hx), pw.sublist hsub⟩, fun z hz => hsub.subset hz, hsub.length_le, back_none_of hno⟩
    unfold backF
    rw [if_pos ((may_iff _ _ _).2 ⟨hck, ht0, ht1⟩), he, if_neg (by omega), Int.toNat_natCast, hXk, decide_eq_true hy3]
theorem NatOnce_yes (A0 : Option Addr) (c0 : Nat) (fl : List S48) (A1 : Option Addr) (c1 : Nat) (ql : List S39) (now guest gid later : Int) (w : World) (ok0 ok1 : Nat → Prop) (hr0 : Kd.F k48 w ok0 A0 fl.length fl) (hc0 : fl.length ≤ c0) (hr1 : Kd.F k39 w ok1 A1 ql.length ql) (hc1 : ql.length ≤ c1) (hwf : ∀ x ∈ fl, wfF x) (hwq : ∀ x ∈ ql, wfQ x) (hg : wf64 guest) (hp : wf64 gid)
    (h0 : decide ((fl.length : Int) > 40) = false) (h1 : decide ((ql.length : Int) > 40) = false) (h2 : decide (later < 0) = false) (h3 : decide (later > 20) = false) (h4 : decide (now < 0) = false) (h5 : decide (now > 549755813888) = false) :
    Calls Try.prog 5 #[.agg #[.slice A0 fl.length c0, .slice A1 ql.length c1], .int .i64 now, .int .i64 guest, .int .i64 gid, .int .i64 later] w fun e w' => e = .returned (.bool true) ∧ Below w.heap.size w w' := by
  have g0 := of_decide_eq_false h0
  have g1 := of_decide_eq_false h1
  have g2 := of_decide_eq_false h2
  have g3 := of_decide_eq_false h3
  have g4 := of_decide_eq_false h4
  have g5 := of_decide_eq_false h5
  have hl0 : fl.length ≤ 1000 := by omega
  have hl1 : ql.length ≤ 1000 := by omega
  obtain ⟨fl', ql', h, b, hop⟩ : ∃ fl' ql' h b, askF fl ql now guest gid = (fl', ql', h, b) := ⟨_, _, _, _, rfl⟩
  cases b with
  | false =>
    obtain rfl := ask_no_h hop
    exact NatOnce_fail A0 c0 fl A1 c1 ql now w ok0 ok1 hr0 hc0 hr1 hc1 hwf hwq hl0 hl1 guest gid later h0 h1 h2 h3 h4 h5 fl' ql' hop
  | true =>
    obtain ⟨k1, k2, k3, k4, k5, k6, k7⟩ := ask_keeps hop
    have wf' : ∀ x ∈ fl', wfF x := fun x hx => by
      rw [k2] at hx; exact hwf x (List.mem_filter.1 hx).1
    have wq' : ∀ x ∈ ql', wfQ x := fun x hx => by
      rcases k5 x hx with h | rfl
      · exact hwq x h
      · exact ⟨by unfold wf64; dsimp only; omega, hg, hp, by unfold wf64; dsimp only; omega⟩
    obtain ⟨⟨l0, l1⟩, _⟩ := (checkZ_iff _ _).1 k1
    obtain ⟨ql2, q, i1, i2, i3, i4, i5, i6⟩ := back_of k1 k3 (t := now + later) (by omega) (by omega)
    dsimp only at i1 i2 i6
    refine NatOnce_ok A0 c0 fl A1 c1 ql now w ok0 ok1 hr0 hc0 hr1 hc1 hwf hwq hl0 hl1 guest gid later h0 h1 h2 h3 h4 h5 fl' ql' h hop (by unfold wrap64; omega) wf' wq' (by omega) (by omega) ql2 ql2 q.f0 q.f1 q.f2 q.f3 0 0 0 0 _ i1 i6 ?_ ?_ (fun x hx => wq' x (i4 x hx)) (by omega) i3 (decide_eq_true (by omega))
    · rw [decide_eq_decide]; omega
    · intro hi
      have := i2 (of_decide_eq_true hi)
      rw [this]
      exact ⟨rfl, rfl⟩
def drawbridgelaw26_NatOnce.f (l0 : List S48) (l1 : List S39) (a1 a2 a3 a4 : Int) : Option Bool := if (∀ z ∈ l0, wfF z) ∧ (∀ z ∈ l1, wfQ z) ∧ wf64 a2 ∧ wf64 a3 then some true else none
theorem drawbridgelaw26_NatOnce.calls (A0 : Option Addr) (c0 : Nat) (l0 : List S48) (A1 : Option Addr) (c1 : Nat) (l1 : List S39) (a1 a2 a3 a4 : Int) (r : Bool) (w : World) (hr0 : Kd.C k48 w A0 l0.length l0) (hc0 : l0.length ≤ c0) (hr1 : Kd.C k39 w A1 l1.length l1) (hc1 : l1.length ≤ c1) (h : drawbridgelaw26_NatOnce.f l0 l1 a1 a2 a3 a4 = some r) :
    Calls Try.prog 5 #[.agg #[.slice A0 l0.length c0, .slice A1 l1.length c1], .int .i64 a1, .int .i64 a2, .int .i64 a3, .int .i64 a4] w fun e w' => e = .returned (.bool r) ∧ Below w.heap.size w w' := by
  unfold drawbridgelaw26_NatOnce.f at h
  split at h
  case isFalse => cases h
  case isTrue hh =>
  obtain rfl := Option.some.inj h
  obtain ⟨q1, q2, q3, q4⟩ := hh
  cases hG : (decide ((l0.length : Int) > 40) || decide ((l1.length : Int) > 40) || decide (a4 < 0) || decide (a4 > 20) || decide (a1 < 0) || decide (a1 > 549755813888)) with
  | true => exact NatOnce_no A0 c0 l0 A1 c1 l1 a1 w _ _ (F_in48 hr0) hc0 (F_in39 hr1) hc1 a2 a3 a4 hG
  | false =>
    simp only [Bool.or_eq_false_iff] at hG
    obtain ⟨⟨⟨⟨⟨t0, t1⟩, t2⟩, t3⟩, t4⟩, t5⟩ := hG
    exact NatOnce_yes A0 c0 l0 A1 c1 l1 a1 a2 a3 a4 w _ _ (F_in48 hr0) hc0 (F_in39 hr1) hc1 q1 q2 q3 q4 t0 t1 t2 t3 t4 t5
end Go.Proofs.Ytnjgejjijboibaa.Q
end
section
/- Plain facts on whole numbers, bytes and bits, no program in sight: the value of a row of bytes, what '|' of separate fields is. -/
set_option linter.unusedVariables false
namespace Go.Proofs.Ytnjgejjijboibaa.L
open Go.RowKit

def byte (x : Int) : Prop := 0 ≤ x ∧ x < 256
instance (x : Int) : Decidable (byte x) := inferInstanceAs (Decidable (_ ∧ _))
def u64B (x : Int) : Prop := 0 ≤ x ∧ x < 18446744073709551616
instance (x : Int) : Decidable (u64B x) := inferInstanceAs (Decidable (_ ∧ _))
end Go.Proofs.Ytnjgejjijboibaa.L
end
section
namespace Go.Proofs.Ytnjgejjijboibaa.Pure
open Go.RowKit Go.Proofs.Ytnjgejjijboibaa.Q Go.Proofs.YtnjgejjijboibaaW.PrintWords Go.Proofs.YtnjgejjijboibaaW.PrintLast Go.Proofs.YtnjgejjijboibaaW.PrintMore Go.Proofs.Ytnjgejjijboibaa.L
def NatOnce.wf39 (x : S39) : Prop := ((Lit.int .i64 x.f0).wf = true) ∧ ((Lit.int .i64 x.f1).wf = true) ∧ ((Lit.int .i64 x.f2).wf = true) ∧ ((Lit.int .i64 x.f3).wf = true)
def NatOnce.wf48 (x : S48) : Prop := ((Lit.int .i64 x.f0).wf = true) ∧ ((Lit.int .i64 x.f1).wf = true) ∧ ((Lit.int .u32 x.f2).wf = true) ∧ ((Lit.int .i64 x.f3).wf = true) ∧ ((Lit.int .i64 x.f4).wf = true)
/-- The pure statement of NatOnce: numbers and lists alone. -/
def NatOnce.Said : Prop := ∀ (l0_0 : List S48) (l0_1 : List S39) (a1 : Int) (a2 : Int) (a3 : Int) (a4 : Int), l0_0.length ≤ maxLen → (∀ z ∈ l0_0, NatOnce.wf48 z) → l0_1.length ≤ maxLen → (∀ z ∈ l0_1, NatOnce.wf39 z) → (Lit.int .i64 a1).wf = true → (Lit.int .i64 a2).wf = true → (Lit.int .i64 a3).wf = true → (Lit.int .i64 a4).wf = true → drawbridgelaw26_NatOnce.f l0_0 l0_1 a1 a2 a3 a4 = some true
end Go.Proofs.Ytnjgejjijboibaa.Pure
end
section
/- NatOnce, in plain numbers and lists: what is asked of the inputs is what every Go value is. No condition beyond the statement's own. -/
namespace Go.Proofs.Ytnjgejjijboibaa.Pure
open Go.RowKit Go.Proofs.Ytnjgejjijboibaa.Q Go.Proofs.Ytnjgejjijboibaa.L
theorem wf64_is {x : Int} (h : (Lit.int .i64 x).wf = true) : wf64 x := by
  simp [Lit.wf] at h
  unfold wf64
  have h1 : -9223372036854775808 ≤ x := h.1
  have h2 : x ≤ 9223372036854775807 := h.2
  exact ⟨h1, h2⟩
theorem wf32_is {x : Int} (h : (Lit.int .u32 x).wf = true) : wf32 x := by
  simp [Lit.wf] at h
  unfold wf32
  have h1 : 0 ≤ x := h.1
  have h2 : x ≤ 4294967295 := h.2
  exact ⟨h1, by omega⟩
theorem NatOnce : NatOnce.Said := by
  intro l0 l1 a1 a2 a3 a4 _ w0 _ w1 _ h2 h3 _
  unfold drawbridgelaw26_NatOnce.f
  rw [if_pos ⟨fun z hz => ⟨wf64_is (w0 z hz).1, wf64_is (w0 z hz).2.1, wf32_is (w0 z hz).2.2.1, wf64_is (w0 z hz).2.2.2.1, wf64_is (w0 z hz).2.2.2.2⟩, fun z hz => ⟨wf64_is (w1 z hz).1, wf64_is (w1 z hz).2.1, wf64_is (w1 z hz).2.2.1, wf64_is (w1 z hz).2.2.2⟩, wf64_is h2, wf64_is h3⟩]
end Go.Proofs.Ytnjgejjijboibaa.Pure
end
section
/- Arguments that lie in memory, opened: a row of whole numbers, a row of elements of whatever kind, as lists. -/
namespace Go.Proofs.Ytnjgejjijboibaa.L
open Go.RowKit Go.Proofs.YtnjgejjijboibaaW.PrintWords Go.Proofs.YtnjgejjijboibaaW.PrintLast Go.Proofs.YtnjgejjijboibaaW.PrintMore Go.ChangeShapes Go.WideShapes Go.Deep
section
variable {H : Type} {enc : TypeId × Value → H} {P : Program} {w : World} {base : Nat} {spare : Nat → Bool} {held : Bool} {n : Nat} {t e : TypeId} {c : Value} {x : DataW H × List MemPlace}
theorem leaf_int {k : IntKind} (ht : P.underlying t = some (.int k)) (h : DataW.trod enc P w base spare held n t [c] = some x) : ∃ a, c = .int k a ∧ (Lit.int k a).wf = true := by
  obtain ⟨a, he, _, hw⟩ := DataW.trod_int ht h
  exact ⟨a, by injection he, hw⟩
theorem leaf_rows {α : Type} {d : Kd α} (Q : α → Prop) (ht : P.underlying t = some (.slice e)) (hsz : P.cellsOf e = d.sz)
    (hel : ∀ (n : Nat) (cs : List Value) (y : DataW H × List MemPlace), cs.length = P.cellsOf e → DataW.trod enc P w base spare held n e cs = some y → ∃ s, d.K w s cs ∧ Q s)
    (h : DataW.trod enc P w base spare held n t [c] = some x) : ∃ (A : Option Addr) (cap : Nat) (l : List α), c = .slice A l.length cap ∧ d.C w A l.length l ∧ l.length ≤ cap ∧ l.length ≤ maxLen ∧ ∀ s ∈ l, Q s := by
  rcases open_slice ht h with ⟨hcs, _⟩ | ⟨a, len, cap, m, n', D, Pl, hcs, _, hl, hm, hmm, hx, hi⟩
  · injection hcs with hc
    exact ⟨none, 0, [], hc, ⟨rfl, Nat.zero_le _, fun hn => absurd hn (Nat.lt_irrefl 0)⟩, Nat.le_refl _, Nat.zero_le _, fun s hs => by cases hs⟩
  · have hc : c = .slice (some a) len cap := by injection hcs
    have hlm : len ≤ m := by rw [hmm]; split <;> omega
    have key : ∀ i, i < len → ∃ s cs, cs.length = d.sz ∧ d.K w s cs ∧ Q s ∧ ∀ j u, cs[j]? = some u → w.cell? (a.add (i * d.sz + j)) = some u := by
      intro i hil
      obtain ⟨cs', hcells, htr⟩ := hi i (by omega)
      rw [hsz] at hcells
      obtain ⟨_, hcl, hat⟩ := World.cells?_some hcells
      obtain ⟨s, hk, hq⟩ := hel n' cs' _ (by rw [hsz]; exact hcl) htr
      refine ⟨s, cs', hcl, hk, hq, fun j u hu => ?_⟩
      have hj : j < cs'.length := (List.getElem?_eq_some_iff.1 hu).1
      have := hat j (by omega)
      rw [Go.Deep.add_add] at this
      rw [this]; exact hu
    have ex : ∃ l : List α, l.length = len ∧ ∀ i s, l[i]? = some s → Q s ∧ ∃ cs, cs.length = d.sz ∧ d.K w s cs ∧ ∀ j u, cs[j]? = some u → w.cell? (a.add (i * d.sz + j)) = some u := by
      clear hi hc hl hm hmm hlm hcs hx
      induction len with
      | zero => exact ⟨[], rfl, fun i s hs => by simp at hs⟩
      | succ len ih =>
        obtain ⟨l, hll, hl⟩ := ih (fun i hil => key i (by omega))
        obtain ⟨s, cs, h1, h2, h3, h4⟩ := key len (by omega)
        refine ⟨l ++ [s], by simp [hll], fun i z hz => ?_⟩
        rcases Nat.lt_or_ge i l.length with hlt | hge
        · rw [List.getElem?_append_left hlt] at hz
          exact hl i z hz
        · have hi : i = len := by
            have := (List.getElem?_eq_some_iff.1 hz).1
            rw [List.length_append, List.length_singleton] at this
            omega
          subst hi
          rw [List.getElem?_append_right hge, hll, Nat.sub_self] at hz
          have : s = z := by simpa using hz
          subst this
          exact ⟨h3, cs, h1, h2, h4⟩
    obtain ⟨l, hll, hl'⟩ := ex
    refine ⟨some a, cap, l, by rw [hll]; exact hc, ⟨rfl, by rw [hll]; unfold maxLen at hm; omega, fun _ => ⟨a, rfl, fun j p hj => ?_⟩⟩, by omega, by omega, fun s hs => ?_⟩
    · obtain ⟨_, cs, h1, h2, h4⟩ := hl' j p hj
      exact ⟨cs, h1, h2, h4⟩
    · obtain ⟨i, hi'⟩ := List.getElem?_of_mem hs
      exact (hl' i s hi').1
/-- A struct's field, as a reading of its own cells. -/
theorem leaf_field {fs : Array Field} {cs : List Value} (ht : P.underlying t = some (.struct fs)) (h : DataW.trod enc P w base spare held n t cs = some x) :
    ∃ m, ∀ (i : Nat) (f : Field), fs[i]? = some f → ∃ y, DataW.trod enc P w base spare held m f.type ((cs.drop f.offset).take (P.cellsOf f.type)) = some y := by
  obtain ⟨xs, m, _, _, _, hlen, hg⟩ := DataW.trod_struct ht h
  refine ⟨m, fun i f hf => ?_⟩
  have hi : i < fs.size := (Array.getElem?_eq_some_iff.1 hf).1
  exact ⟨_, (hg i f hf).trans (List.getElem?_eq_getElem (by omega))⟩
end
end Go.Proofs.Ytnjgejjijboibaa.L
end
