import Derived.Test.YtnjgejjijboibaaPZ1
import Derived.Test.YtnjgejjijboibaaPZ5
import Derived.Test.YtnjgejjijboibaaPZ6
import Derived.Test.YtnjgejjijboibaaPZ3
section
/- nat.Ask. -/
namespace Go.Proofs.Ytnjgejjijboibaa.Q
open Go.RowKit Go.Proofs.YtnjgejjijboibaaW.PrintWords Go.Proofs.YtnjgejjijboibaaW.PrintLast Go.Proofs.YtnjgejjijboibaaW.PrintMore Go.Proofs.Ytnjgejjijboibaa.L
attribute [local go_sem] Instr.field part asAgg lt_step max2_int min2_int max_two min_two max_three min_three max_four min_four lt_0_1 lt_0_2 lt_1_2 lt_0_3 lt_1_3 lt_2_3 lt_0_4 lt_1_4 lt_2_4 lt_3_4 lt_0_5 lt_1_5 lt_2_5 lt_3_5 lt_4_5 lt_0_6 lt_1_6 lt_2_6 lt_3_6 lt_4_6 lt_5_6 lt_0_7 lt_1_7 lt_2_7 lt_3_7 lt_4_7 lt_5_7 lt_6_7 lt_0_8 lt_1_8 lt_2_8 lt_3_8 lt_4_8 lt_5_8 lt_6_8 lt_7_8
set_option linter.unusedVariables false
set_option linter.unusedSimpArgs false
theorem appF39 {W : World} {base : Nat} {ok : Nat → Prop} {v : Value} {l : List S39} {vo : Option Nat} {n g : Nat} (h : Kd.R k39 39 W base ok v l) (hat : v.ownBlock = vo ∨ ∃ b, v.ownBlock = some b ∧ n ≤ b) (hvo : ∀ b, vo = some b → b = g) : ∃ A c, v = .slice A l.length c ∧ l.length ≤ c ∧ Kd.F k39 W (fun j => j = g ∨ n ≤ j) A l.length l := by
  rcases R_or39 h with ⟨rfl, rfl⟩ | ⟨g', cap, rfl, hb, hc⟩
  · exact ⟨none, 0, rfl, Nat.le_refl _, F_of_C39 (Kd.R_reads' h).2.2 (fun ad e _ => by cases e)⟩
  · refine ⟨some ⟨g', 0, none⟩, cap, rfl, hc, F_of_C39 (Kd.R_reads' h).2.2 (fun ad e _ => ?_)⟩
    injection e with e
    rw [← e]
    have ho : Value.ownBlock (.slice (some ⟨g', 0, none⟩) l.length cap) = some g' := rfl
    rcases hat with h1 | ⟨b, h1, h2⟩
    · exact .inl (hvo g' (by rw [← h1, ho]))
    · rw [ho] at h1; injection h1 with h1; exact .inr (by show n ≤ g'; omega)
set_option maxHeartbeats 1600000 in
set_option maxRecDepth 100000 in
theorem ask_no (A0 : Option Addr) (c0 : Nat) (fl : List S48) (A1 : Option Addr) (c1 : Nat) (ql : List S39) (now : Int) (w : World) (ok0 ok1 : Nat → Prop) (hr0 : Kd.F k48 w ok0 A0 fl.length fl) (hc0 : fl.length ≤ c0) (hr1 : Kd.F k39 w ok1 A1 ql.length ql) (hc1 : ql.length ≤ c1) (hwf : ∀ x ∈ fl, wfF x) (hwq : ∀ x ∈ ql, wfQ x) (guest gid : Int) (m d : Bool) (hm : mayZ fl ql now = m) (hd : (wordB guest && wordB gid) = d) (hx : (m && d) = false) :
    Calls Try.prog 11 #[.agg #[.slice A0 fl.length c0, .slice A1 ql.length c1], .int .i64 now, .int .i64 guest, .int .i64 gid] w (OpenPost ok0 ok1 w fl ql (0) false) := by
  have HB := Aside0.mk (Below.refl w.heap.size w)
  have HR := Aside0.mk (Kd.F_bound hr0)
  have HQ := Aside0.mk (Kd.F_bound hr1)
  have HC0 := Aside0.mk hc0
  have HC1 := Aside0.mk hc1
  have HWF := Aside0.mk hwf
  have HWQ := Aside0.mk hwq
  have HM := Aside0.mk hm
  have HD := Aside0.mk hd
  have hu := Try.underlying27
  clear hr0 hr1 hwf hwq hm hc0 hc1 hd
  go_enter Try.func11, Try.ntmps11
  go_upto_region 1 with fail
  obtain ⟨wa, hwa, on0, or0, hb_, hz0⟩ := letter2 w (.cells #[.slice A0 fl.length c0, .slice A1 ql.length c1] 27 (0, 0)) (.cells #[.slice none 0 0, .slice none 0 0] 27 (0, 0))
  rw [hwa]
  clear hwa
  have on := Aside0.mk on0
  have orr := Aside0.mk or0
  have HR_ := Aside0.mk (Kd.F_below HR.out hb_)
  have HQ_ := Aside0.mk (Kd.F_below HQ.out hb_)
  have HB_ : Aside0 (Below w.heap.size w wa) := ⟨hb_⟩
  clear on0 or0 hb_ HB HR HQ
  have HB := HB_
  have HR := HR_
  have HQ := HQ_
  clear HB_ HR_ HQ_
  have hzwa := Nat.le_of_eq hz0.symm
  clear hz0
  obtain ⟨onc, onf, onl⟩ := cells_of on.out
  obtain ⟨orrc, orrf, orrl⟩ := cells_of orr.out
  go_wp2_with fail
  cases m
  case false =>
    (go_at_call 14; (with_reducible refine (may_runs A0 c0 fl A1 c1 ql now _ _ _ (fG HR) (fG HQ) HWF.out HWQ.out false HM.out).mono ?_); rintro e_ w1 ⟨rfl, hb_⟩; have HB_ : Aside0 (Below w.heap.size w w1) := Aside0.mk (below_step (bG HB) hb_); have hzw1 := hb_.size; (try simp at hzw1); have on_ := Aside0.mk (box_below hb_ (eG on)); have orr_ := Aside0.mk (box_below hb_ (eG orr)); have HR_ := Aside0.mk (Kd.F_below (fG HR) hb_); clear HR; have HR := HR_; clear HR_; have HQ_ := Aside0.mk (Kd.F_below (fG HQ) hb_); clear HQ; have HQ := HQ_; clear HQ_; (try clear on onc onf onl); have on := on_; clear on_; obtain ⟨onc, onf, onl⟩ := cells_of on.out; (try clear orr orrc orrf orrl); have orr := orr_; clear orr_; obtain ⟨orrc, orrf, orrl⟩ := cells_of orr.out; clear HB hb_; have HB := HB_; clear HB_)
    go_wp2
    refine bodyPost_ret (v := .tuple #[.agg #[.slice A0 fl.length c0, .slice A1 ql.length c1], .int .i64 0, .bool false]) (by simp [results, Try.results11, go_sem, orrc, orrf] <;> first | assumption | omega | (symm; assumption)) rfl ?_
    exact ⟨A0, c0, A1, c1, rfl, HC0.out, (Kd.F_mono (ok := fun k => ok0 k ∧ k < w.heap.size) (fG HR) (fun j hj => .inl hj.1)), HC1.out, (Kd.F_mono (ok := fun k => ok1 k ∧ k < w.heap.size) (fG HQ) (fun j hj => .inl hj.1)), (bG HB)⟩
  case true =>
    obtain rfl : d = false := by simpa using hx
    (go_at_call 14; (with_reducible refine (may_runs A0 c0 fl A1 c1 ql now _ _ _ (fG HR) (fG HQ) HWF.out HWQ.out true HM.out).mono ?_); rintro e_ w1 ⟨rfl, hb_⟩; have HB_ : Aside0 (Below w.heap.size w w1) := Aside0.mk (below_step (bG HB) hb_); have hzw1 := hb_.size; (try simp at hzw1); have on_ := Aside0.mk (box_below hb_ (eG on)); have orr_ := Aside0.mk (box_below hb_ (eG orr)); have HR_ := Aside0.mk (Kd.F_below (fG HR) hb_); clear HR; have HR := HR_; clear HR_; have HQ_ := Aside0.mk (Kd.F_below (fG HQ) hb_); clear HQ; have HQ := HQ_; clear HQ_; (try clear on onc onf onl); have on := on_; clear on_; obtain ⟨onc, onf, onl⟩ := cells_of on.out; (try clear orr orrc orrf orrl); have orr := orr_; clear orr_; obtain ⟨orrc, orrf, orrl⟩ := cells_of orr.out; clear HB hb_; have HB := HB_; clear HB_)
    go_wp2_with fail
    (go_at_call 15; (with_reducible refine (word_runs _ guest gid _ (nb_1 _ _) false HD.out).mono ?_); rintro e_ w2 ⟨rfl, hb_⟩; have HB_ : Aside0 (Below w.heap.size w w2) := Aside0.mk (below_step (bG HB) hb_); have hzw2 := hb_.size; (try simp at hzw2); have on_ := Aside0.mk (box_below hb_ (eG on)); have orr_ := Aside0.mk (box_below hb_ (eG orr)); have HR_ := Aside0.mk (Kd.F_below (fG HR) hb_); clear HR; have HR := HR_; clear HR_; have HQ_ := Aside0.mk (Kd.F_below (fG HQ) hb_); clear HQ; have HQ := HQ_; clear HQ_; (try clear on onc onf onl); have on := on_; clear on_; obtain ⟨onc, onf, onl⟩ := cells_of on.out; (try clear orr orrc orrf orrl); have orr := orr_; clear orr_; obtain ⟨orrc, orrf, orrl⟩ := cells_of orr.out; clear HB hb_; have HB := HB_; clear HB_)
    go_wp2
    refine bodyPost_ret (v := .tuple #[.agg #[.slice A0 fl.length c0, .slice A1 ql.length c1], .int .i64 0, .bool false]) (by simp [results, Try.results11, go_sem, orrc, orrf] <;> first | assumption | omega | (symm; assumption)) rfl ?_
    exact ⟨A0, c0, A1, c1, rfl, HC0.out, (Kd.F_mono (ok := fun k => ok0 k ∧ k < w.heap.size) (fG HR) (fun j hj => .inl hj.1)), HC1.out, (Kd.F_mono (ok := fun k => ok1 k ∧ k < w.heap.size) (fG HQ) (fun j hj => .inl hj.1)), (bG HB)⟩
set_option maxHeartbeats 1600000 in
set_option maxRecDepth 100000 in
theorem ask_full (A0 : Option Addr) (c0 : Nat) (fl : List S48) (A1 : Option Addr) (c1 : Nat) (ql : List S39) (now : Int) (w : World) (ok0 ok1 : Nat → Prop) (hr0 : Kd.F k48 w ok0 A0 fl.length fl) (hc0 : fl.length ≤ c0) (hr1 : Kd.F k39 w ok1 A1 ql.length ql) (hc1 : ql.length ≤ c1) (hwf : ∀ x ∈ fl, wfF x) (hwq : ∀ x ∈ ql, wfQ x) (guest gid : Int) (hl0 : fl.length ≤ 1000) (hl1 : ql.length ≤ 1000) (hm : mayZ fl ql now = true) (hd : (wordB guest && wordB gid) = true) (hadd : wrap64 (now + 5) = now + 5) (h16 : (((ql.filter (fun x => decide (x.f3 > now))).length : Int) == 16) = true) (h16' : ((ql.filter (fun x => decide (x.f3 > now))).length : Int) = 16 ↔ True) :
    Calls Try.prog 11 #[.agg #[.slice A0 fl.length c0, .slice A1 ql.length c1], .int .i64 now, .int .i64 guest, .int .i64 gid] w (OpenPost ok0 ok1 w (fl.filter (fun x => decide (x.f4 > now))) (ql.filter (fun x => decide (x.f3 > now))) (0) false) := by
  have HB := Aside0.mk (Below.refl w.heap.size w)
  have HR := Aside0.mk (Kd.F_bound hr0)
  have HQ := Aside0.mk (Kd.F_bound hr1)
  have HC0 := Aside0.mk hc0
  have HC1 := Aside0.mk hc1
  have HWF := Aside0.mk hwf
  have HWQ := Aside0.mk hwq
  have HM := Aside0.mk hm
  have HD := Aside0.mk hd
  have HL0 := Aside0.mk hl0
  have HL1 := Aside0.mk hl1
  have hu := Try.underlying27
  clear hr0 hr1 hwf hwq hm hc0 hc1 hd
  clear hl0 hl1
  go_enter Try.func11, Try.ntmps11
  go_upto_region 1 with fail
  obtain ⟨wa, hwa, on0, or0, hb_, hz0⟩ := letter2 w (.cells #[.slice A0 fl.length c0, .slice A1 ql.length c1] 27 (0, 0)) (.cells #[.slice none 0 0, .slice none 0 0] 27 (0, 0))
  rw [hwa]
  clear hwa
  have on := Aside0.mk on0
  have orr := Aside0.mk or0
  have HR_ := Aside0.mk (Kd.F_below HR.out hb_)
  have HQ_ := Aside0.mk (Kd.F_below HQ.out hb_)
  have HB_ : Aside0 (Below w.heap.size w wa) := ⟨hb_⟩
  clear on0 or0 hb_ HB HR HQ
  have HB := HB_
  have HR := HR_
  have HQ := HQ_
  clear HB_ HR_ HQ_
  have hzwa := Nat.le_of_eq hz0.symm
  clear hz0
  obtain ⟨onc, onf, onl⟩ := cells_of on.out
  obtain ⟨orrc, orrf, orrl⟩ := cells_of orr.out
  go_wp2_with fail
  (go_at_call 14; (with_reducible refine (may_runs A0 c0 fl A1 c1 ql now _ _ _ (fG HR) (fG HQ) HWF.out HWQ.out true HM.out).mono ?_); rintro e_ w1 ⟨rfl, hb_⟩; have HB_ : Aside0 (Below w.heap.size w w1) := Aside0.mk (below_step (bG HB) hb_); have hzw1 := hb_.size; (try simp at hzw1); have on_ := Aside0.mk (box_below hb_ (eG on)); have orr_ := Aside0.mk (box_below hb_ (eG orr)); have HR_ := Aside0.mk (Kd.F_below (fG HR) hb_); clear HR; have HR := HR_; clear HR_; have HQ_ := Aside0.mk (Kd.F_below (fG HQ) hb_); clear HQ; have HQ := HQ_; clear HQ_; (try clear on onc onf onl); have on := on_; clear on_; obtain ⟨onc, onf, onl⟩ := cells_of on.out; (try clear orr orrc orrf orrl); have orr := orr_; clear orr_; obtain ⟨orrc, orrf, orrl⟩ := cells_of orr.out; clear HB hb_; have HB := HB_; clear HB_)
  go_wp2_with fail
  (go_at_call 15; (with_reducible refine (word_runs _ guest gid _ (nb_1 _ _) true HD.out).mono ?_); rintro e_ w2 ⟨rfl, hb_⟩; have HB_ : Aside0 (Below w.heap.size w w2) := Aside0.mk (below_step (bG HB) hb_); have hzw2 := hb_.size; (try simp at hzw2); have on_ := Aside0.mk (box_below hb_ (eG on)); have orr_ := Aside0.mk (box_below hb_ (eG orr)); have HR_ := Aside0.mk (Kd.F_below (fG HR) hb_); clear HR; have HR := HR_; clear HR_; have HQ_ := Aside0.mk (Kd.F_below (fG HQ) hb_); clear HQ; have HQ := HQ_; clear HQ_; (try clear on onc onf onl); have on := on_; clear on_; obtain ⟨onc, onf, onl⟩ := cells_of on.out; (try clear orr orrc orrf orrl); have orr := orr_; clear orr_; obtain ⟨orrc, orrf, orrl⟩ := cells_of orr.out; clear HB hb_; have HB := HB_; clear HB_)
  go_wp2_with fail
  (go_at_call 13; (with_reducible refine (exp_yes A0 c0 fl A1 c1 ql now _ _ _ (fG HR) HC0.out (fG HQ) HC1.out HWF.out HWQ.out HL0.out HL1.out HM.out).mono ?_); rintro e_ w3 ⟨g, cur, t, g2, cur2, t2, A_s, c_s, A_q, c_q, rfl, og, hq, og2, hq2, hne, hc_s, hr_s, hc_q, hr_q, hb_⟩; have HB_ : Aside0 (Below w.heap.size w w3) := Aside0.mk (below_step (bG HB) hb_); have hzw3 := hb_.size; (try simp at hzw3); have on_ := Aside0.mk (box_below hb_ (eG on)); have orr_ := Aside0.mk (box_below hb_ (eG orr)); (try clear on onc onf onl); have on := on_; clear on_; obtain ⟨onc, onf, onl⟩ := cells_of on.out; (try clear orr orrc orrf orrl); have orr := orr_; clear orr_; obtain ⟨orrc, orrf, orrl⟩ := cells_of orr.out; clear HB hb_; have HB := HB_; clear HB_; have sc := Aside0.mk hc_s; have s := Aside0.mk (Kd.F_bound hr_s); clear hc_s hr_s; have qc := Aside0.mk hc_q; have q := Aside0.mk (Kd.F_bound hr_q); clear hc_q hr_q; have og_ := Aside0.mk og; clear og; have og := og_; clear og_; have hq_ := Aside0.mk hq; clear hq; have hq := hq_; clear hq_; have og2_ := Aside0.mk og2; clear og2; have og2 := og2_; clear og2_; have hq2_ := Aside0.mk hq2; clear hq2; have hq2 := hq2_; clear hq2_; have hne_ := Aside0.mk hne; clear hne; have hne := hne_; clear hne_; skip)
  obtain ⟨ogc, ogf, ogl⟩ := cells_of og.out
  obtain ⟨og2c, og2f, og2l⟩ := cells_of og2.out
  have hg_lo : w2.heap.size ≤ g := hq.out.1
  have hg2_lo : w2.heap.size ≤ g2 := hq2.out.1
  have hg_hi : g < w3.heap.size := ogl
  have hg2_hi : g2 < w3.heap.size := og2l
  have hgne : g ≠ g2 := hne.out
  have s_ := Aside0.mk (F_of_C48 (ok := fun j => j = g) (Kd.F_now s.out) (fun ad e hp => by
    rcases hq.out.2 with ⟨h1, h2, _⟩ | ⟨h1, _⟩
    · rw [h1] at e; cases e
    · rw [h1] at e; injection e with e; rw [← e]))
  have q_ := Aside0.mk (F_of_C39 (ok := fun j => j = g2) (Kd.F_now q.out) (fun ad e hp => by
    rcases hq2.out.2 with ⟨h1, h2, _⟩ | ⟨h1, _⟩
    · rw [h1] at e; cases e
    · rw [h1] at e; injection e with e; rw [← e]))
  clear s q hne
  have s := s_
  have q := q_
  clear s_ q_
  go_upto_region 4 with fail
  obtain ⟨w4, hw_, om0, hb_, hz0⟩ := letter1 w3 (.cells #[.slice A_s (fl.filter (fun x => decide (x.f4 > now))).length c_s, .slice A_q (ql.filter (fun x => decide (x.f3 > now))).length c_q] 27 (0, 0))
  rw [hw_]
  clear hw_
  have hzw4 := Nat.le_of_eq hz0.symm
  clear hz0
  have on_ := Aside0.mk (box_below hb_ on.out)
  (try clear on onc onf onl)
  have on := on_
  clear on_
  obtain ⟨onc, onf, onl⟩ := cells_of on.out
  have orr_ := Aside0.mk (box_below hb_ orr.out)
  (try clear orr orrc orrf orrl)
  have orr := orr_
  clear orr_
  obtain ⟨orrc, orrf, orrl⟩ := cells_of orr.out
  have og_ := Aside0.mk (box_below hb_ og.out)
  (try clear og ogc ogf ogl)
  have og := og_
  clear og_
  obtain ⟨ogc, ogf, ogl⟩ := cells_of og.out
  have og2_ := Aside0.mk (box_below hb_ og2.out)
  (try clear og2 og2c og2f og2l)
  have og2 := og2_
  clear og2_
  obtain ⟨og2c, og2f, og2l⟩ := cells_of og2.out
  have s_ := Aside0.mk (Kd.F_below s.out hb_)
  clear s
  have s := s_
  clear s_
  have q_ := Aside0.mk (Kd.F_below q.out hb_)
  clear q
  have q := q_
  clear q_
  have om := Aside0.mk om0
  clear om0
  obtain ⟨omc, omf, oml⟩ := cells_of om.out
  have HB_ : Aside0 (Below w.heap.size w w4) := Aside0.mk (below_step HB.out hb_)
  clear HB hb_
  have HB := HB_
  clear HB_
  go_wp2
  refine bodyPost_ret (v := .tuple #[.agg #[.slice A_s (fl.filter (fun x => decide (x.f4 > now))).length c_s, .slice A_q (ql.filter (fun x => decide (x.f3 > now))).length c_q], .int .i64 0, .bool false]) (by simp [results, Try.results11, go_sem, orrc, orrf] <;> first | assumption | omega | (symm; assumption)) rfl ?_
  exact ⟨A_s, c_s, A_q, c_q, rfl, sc.out, (Kd.F_mono (ok := fun j => j = g) (fG s) (fun j hj => by (try simp only [sz_alloc, sz_drew, sz_drewN, sz_set] at hj); exact .inr (by omega))), qc.out, (Kd.F_mono (ok := fun j => j = g2) (fG q) (fun j hj => by (try simp only [sz_alloc, sz_drew, sz_drewN, sz_set] at hj); exact .inr (by omega))), (bG HB)⟩
set_option maxHeartbeats 1600000 in
set_option maxRecDepth 100000 in
theorem ask_new (A0 : Option Addr) (c0 : Nat) (fl : List S48) (A1 : Option Addr) (c1 : Nat) (ql : List S39) (now : Int) (w : World) (ok0 ok1 : Nat → Prop) (hr0 : Kd.F k48 w ok0 A0 fl.length fl) (hc0 : fl.length ≤ c0) (hr1 : Kd.F k39 w ok1 A1 ql.length ql) (hc1 : ql.length ≤ c1) (hwf : ∀ x ∈ fl, wfF x) (hwq : ∀ x ∈ ql, wfQ x) (guest gid : Int) (hl0 : fl.length ≤ 1000) (hl1 : ql.length ≤ 1000) (hm : mayZ fl ql now = true) (hd : (wordB guest && wordB gid) = true) (hadd : wrap64 (now + 5) = now + 5) (h16 : (((ql.filter (fun x => decide (x.f3 > now))).length : Int) == 16) = false) (h16' : ¬ ((ql.filter (fun x => decide (x.f3 > now))).length : Int) = 16) (hwe : ∀ x ∈ (ql.filter (fun x => decide (x.f3 > now))), wf64 x.f0) (hle : (ql.filter (fun x => decide (x.f3 > now))).length ≤ 1000) :
    Calls Try.prog 11 #[.agg #[.slice A0 fl.length c0, .slice A1 ql.length c1], .int .i64 now, .int .i64 guest, .int .i64 gid] w (fun e w' => ∃ hh, leastP ((ql.filter (fun x => decide (x.f3 > now))).map fun x => x.f0) hh ∧ OpenPost ok0 ok1 w (fl.filter (fun x => decide (x.f4 > now))) ((ql.filter (fun x : S39 => decide (x.f3 > now))) ++ [(⟨hh, guest, gid, now + 5⟩ : S39)]) (hh) true e w') := by
  have HB := Aside0.mk (Below.refl w.heap.size w)
  have HR := Aside0.mk (Kd.F_bound hr0)
  have HQ := Aside0.mk (Kd.F_bound hr1)
  have HC0 := Aside0.mk hc0
  have HC1 := Aside0.mk hc1
  have HWF := Aside0.mk hwf
  have HWQ := Aside0.mk hwq
  have HM := Aside0.mk hm
  have HD := Aside0.mk hd
  have HL0 := Aside0.mk hl0
  have HL1 := Aside0.mk hl1
  have HWE := Aside0.mk hwe
  have HLE := Aside0.mk hle
  have hu := Try.underlying27
  clear hr0 hr1 hwf hwq hm hc0 hc1 hd
  clear hl0 hl1 hwe hle
  go_enter Try.func11, Try.ntmps11
  go_upto_region 1 with fail
  obtain ⟨wa, hwa, on0, or0, hb_, hz0⟩ := letter2 w (.cells #[.slice A0 fl.length c0, .slice A1 ql.length c1] 27 (0, 0)) (.cells #[.slice none 0 0, .slice none 0 0] 27 (0, 0))
  rw [hwa]
  clear hwa
  have on := Aside0.mk on0
  have orr := Aside0.mk or0
  have HR_ := Aside0.mk (Kd.F_below HR.out hb_)
  have HQ_ := Aside0.mk (Kd.F_below HQ.out hb_)
  have HB_ : Aside0 (Below w.heap.size w wa) := ⟨hb_⟩
  clear on0 or0 hb_ HB HR HQ
  have HB := HB_
  have HR := HR_
  have HQ := HQ_
  clear HB_ HR_ HQ_
  have hzwa := Nat.le_of_eq hz0.symm
  clear hz0
  obtain ⟨onc, onf, onl⟩ := cells_of on.out
  obtain ⟨orrc, orrf, orrl⟩ := cells_of orr.out
  go_wp2_with fail
  (go_at_call 14; (with_reducible refine (may_runs A0 c0 fl A1 c1 ql now _ _ _ (fG HR) (fG HQ) HWF.out HWQ.out true HM.out).mono ?_); rintro e_ w1 ⟨rfl, hb_⟩; have HB_ : Aside0 (Below w.heap.size w w1) := Aside0.mk (below_step (bG HB) hb_); have hzw1 := hb_.size; (try simp at hzw1); have on_ := Aside0.mk (box_below hb_ (eG on)); have orr_ := Aside0.mk (box_below hb_ (eG orr)); have HR_ := Aside0.mk (Kd.F_below (fG HR) hb_); clear HR; have HR := HR_; clear HR_; have HQ_ := Aside0.mk (Kd.F_below (fG HQ) hb_); clear HQ; have HQ := HQ_; clear HQ_; (try clear on onc onf onl); have on := on_; clear on_; obtain ⟨onc, onf, onl⟩ := cells_of on.out; (try clear orr orrc orrf orrl); have orr := orr_; clear orr_; obtain ⟨orrc, orrf, orrl⟩ := cells_of orr.out; clear HB hb_; have HB := HB_; clear HB_)
  go_wp2_with fail
  (go_at_call 15; (with_reducible refine (word_runs _ guest gid _ (nb_1 _ _) true HD.out).mono ?_); rintro e_ w2 ⟨rfl, hb_⟩; have HB_ : Aside0 (Below w.heap.size w w2) := Aside0.mk (below_step (bG HB) hb_); have hzw2 := hb_.size; (try simp at hzw2); have on_ := Aside0.mk (box_below hb_ (eG on)); have orr_ := Aside0.mk (box_below hb_ (eG orr)); have HR_ := Aside0.mk (Kd.F_below (fG HR) hb_); clear HR; have HR := HR_; clear HR_; have HQ_ := Aside0.mk (Kd.F_below (fG HQ) hb_); clear HQ; have HQ := HQ_; clear HQ_; (try clear on onc onf onl); have on := on_; clear on_; obtain ⟨onc, onf, onl⟩ := cells_of on.out; (try clear orr orrc orrf orrl); have orr := orr_; clear orr_; obtain ⟨orrc, orrf, orrl⟩ := cells_of orr.out; clear HB hb_; have HB := HB_; clear HB_)
  go_wp2_with fail
  (go_at_call 13; (with_reducible refine (exp_yes A0 c0 fl A1 c1 ql now _ _ _ (fG HR) HC0.out (fG HQ) HC1.out HWF.out HWQ.out HL0.out HL1.out HM.out).mono ?_); rintro e_ w3 ⟨g, cur, t, g2, cur2, t2, A_s, c_s, A_q, c_q, rfl, og, hq, og2, hq2, hne, hc_s, hr_s, hc_q, hr_q, hb_⟩; have HB_ : Aside0 (Below w.heap.size w w3) := Aside0.mk (below_step (bG HB) hb_); have hzw3 := hb_.size; (try simp at hzw3); have on_ := Aside0.mk (box_below hb_ (eG on)); have orr_ := Aside0.mk (box_below hb_ (eG orr)); (try clear on onc onf onl); have on := on_; clear on_; obtain ⟨onc, onf, onl⟩ := cells_of on.out; (try clear orr orrc orrf orrl); have orr := orr_; clear orr_; obtain ⟨orrc, orrf, orrl⟩ := cells_of orr.out; clear HB hb_; have HB := HB_; clear HB_; have sc := Aside0.mk hc_s; have s := Aside0.mk (Kd.F_bound hr_s); clear hc_s hr_s; have qc := Aside0.mk hc_q; have q := Aside0.mk (Kd.F_bound hr_q); clear hc_q hr_q; have og_ := Aside0.mk og; clear og; have og := og_; clear og_; have hq_ := Aside0.mk hq; clear hq; have hq := hq_; clear hq_; have og2_ := Aside0.mk og2; clear og2; have og2 := og2_; clear og2_; have hq2_ := Aside0.mk hq2; clear hq2; have hq2 := hq2_; clear hq2_; have hne_ := Aside0.mk hne; clear hne; have hne := hne_; clear hne_; skip)
  obtain ⟨ogc, ogf, ogl⟩ := cells_of og.out
  obtain ⟨og2c, og2f, og2l⟩ := cells_of og2.out
  have hg_lo : w2.heap.size ≤ g := hq.out.1
  have hg2_lo : w2.heap.size ≤ g2 := hq2.out.1
  have hg_hi : g < w3.heap.size := ogl
  have hg2_hi : g2 < w3.heap.size := og2l
  have hgne : g ≠ g2 := hne.out
  have s_ := Aside0.mk (F_of_C48 (ok := fun j => j = g) (Kd.F_now s.out) (fun ad e hp => by
    rcases hq.out.2 with ⟨h1, h2, _⟩ | ⟨h1, _⟩
    · rw [h1] at e; cases e
    · rw [h1] at e; injection e with e; rw [← e]))
  have q_ := Aside0.mk (F_of_C39 (ok := fun j => j = g2) (Kd.F_now q.out) (fun ad e hp => by
    rcases hq2.out.2 with ⟨h1, h2, _⟩ | ⟨h1, _⟩
    · rw [h1] at e; cases e
    · rw [h1] at e; injection e with e; rw [← e]))
  clear s q hne
  have s := s_
  have q := q_
  clear s_ q_
  go_upto_region 4 with fail
  obtain ⟨w4, hw_, om0, hb_, hz0⟩ := letter1 w3 (.cells #[.slice A_s (fl.filter (fun x => decide (x.f4 > now))).length c_s, .slice A_q (ql.filter (fun x => decide (x.f3 > now))).length c_q] 27 (0, 0))
  rw [hw_]
  clear hw_
  have hzw4 := Nat.le_of_eq hz0.symm
  clear hz0
  have on_ := Aside0.mk (box_below hb_ on.out)
  (try clear on onc onf onl)
  have on := on_
  clear on_
  obtain ⟨onc, onf, onl⟩ := cells_of on.out
  have orr_ := Aside0.mk (box_below hb_ orr.out)
  (try clear orr orrc orrf orrl)
  have orr := orr_
  clear orr_
  obtain ⟨orrc, orrf, orrl⟩ := cells_of orr.out
  have og_ := Aside0.mk (box_below hb_ og.out)
  (try clear og ogc ogf ogl)
  have og := og_
  clear og_
  obtain ⟨ogc, ogf, ogl⟩ := cells_of og.out
  have og2_ := Aside0.mk (box_below hb_ og2.out)
  (try clear og2 og2c og2f og2l)
  have og2 := og2_
  clear og2_
  obtain ⟨og2c, og2f, og2l⟩ := cells_of og2.out
  have s_ := Aside0.mk (Kd.F_below s.out hb_)
  clear s
  have s := s_
  clear s_
  have q_ := Aside0.mk (Kd.F_below q.out hb_)
  clear q
  have q := q_
  clear q_
  have om := Aside0.mk om0
  clear om0
  obtain ⟨omc, omf, oml⟩ := cells_of om.out
  have HB_ : Aside0 (Below w.heap.size w w4) := Aside0.mk (below_step HB.out hb_)
  clear HB hb_
  have HB := HB_
  clear HB_
  go_wp2_with fail
  (go_at_call 21; (with_reducible refine (least39_runs A_q c_q (ql.filter (fun x => decide (x.f3 > now))) _ (Kd.F_now (fG q)) HLE.out HWE.out).mono ?_); rintro e_ w6 ⟨hh, rfl, hP, hb_⟩; have HB_ : Aside0 (Below w.heap.size w w6) := Aside0.mk (below_step (bG HB) hb_); have hzw6 := hb_.size; (try simp at hzw6); have on_ := Aside0.mk (box_below hb_ (eG on)); have orr_ := Aside0.mk (box_below hb_ (eG orr)); have og_ := Aside0.mk (box_below hb_ (eG og)); have og2_ := Aside0.mk (box_below hb_ (eG og2)); have om_ := Aside0.mk (box_below hb_ (eG om)); have s_ := Aside0.mk (Kd.F_below (fG s) hb_); clear s; have s := s_; clear s_; have q_ := Aside0.mk (Kd.F_below (fG q) hb_); clear q; have q := q_; clear q_; (try clear on onc onf onl); have on := on_; clear on_; obtain ⟨onc, onf, onl⟩ := cells_of on.out; (try clear orr orrc orrf orrl); have orr := orr_; clear orr_; obtain ⟨orrc, orrf, orrl⟩ := cells_of orr.out; (try clear og ogc ogf ogl); have og := og_; clear og_; obtain ⟨ogc, ogf, ogl⟩ := cells_of og.out; (try clear og2 og2c og2f og2l); have og2 := og2_; clear og2_; obtain ⟨og2c, og2f, og2l⟩ := cells_of og2.out; (try clear om omc omf oml); have om := om_; clear om_; obtain ⟨omc, omf, oml⟩ := cells_of om.out; clear HB hb_; have HB := HB_; clear HB_; have hP_ := Aside0.mk hP; clear hP; have hP := hP_; clear hP_; skip)
  have HRA : Aside0 (Kd.R k39 39 (w6.alloc (.cells #[.int .i64 hh, .int .i64 guest, .int .i64 gid, .int .i64 (now + 5)] 39 (0, 0))) (w.heap.size + 1 + 1) (fun _ => True) (.slice A_q (ql.filter (fun x => decide (x.f3 > now))).length c_q) (ql.filter (fun x => decide (x.f3 > now)))) := ⟨R_of_Blk39 (ext_alloc og2.out _) hq2.out qc.out _ (by omega)⟩
  have HVA : Aside0 (Kd.C k39 (w6.alloc (.cells #[.int .i64 hh, .int .i64 guest, .int .i64 gid, .int .i64 (now + 5)] 39 (0, 0))) (some ⟨w6.heap.size, 0, none⟩) 1 [(⟨hh, guest, gid, now + 5⟩ : S39)]) := ⟨(Kd.R_reads' (R_mk_39 (l := [(⟨hh, guest, gid, now + 5⟩ : S39)]) (base := 0) (cap := 1) (ok := fun _ => True) (nb_1 w6 (.cells #[.int .i64 hh, .int .i64 guest, .int .i64 gid, .int .i64 (now + 5)] 39 (0, 0))) (Nat.zero_le _) trivial (by simp) (by decide) rfl rfl)).2.2⟩
  go_upto_region 8 with (first | ((with_reducible refine gate_builtin (b := .append) (xs := #[.tmp 37, .tmp 44]) rfl ?_); at_builtin; refine Kd.R_append_rows k39 (w0 := w6.alloc (.cells #[.int .i64 hh, .int .i64 guest, .int .i64 gid, .int .i64 (now + 5)] 39 (0, 0))) (w.heap.size + 1 + 1) rfl (.tmp 37) (.tmp 44) 25 39 (.agg #[.int .i64 0, .int .i64 0, .int .i64 0, .int .i64 0]) 32 rfl Try.underlying25 info39 rfl (by decide) (by omega) _ (ql.filter (fun x => decide (x.f3 > now))) [(⟨hh, guest, gid, now + 5⟩ : S39)] _ _ _ (fun _ => True) (fun _ => False) rfl rfl HRA.out HVA.out (fun _ cs h => by rw [k39_open h]; exact k39_mkM _ _ _ _) (fun _ h => h.elim) (fun _ _ => trivial) (Below.refl _ _) (by simp; omega) (Nat.le_trans (Nat.mul_le_mul_right 32 (Nat.add_le_add_right HLE.out 1)) (by decide)) ?_; intro v' wq ho hb_ hg hat; have HO := Aside0.mk ho; have HG : Aside0 (World.grownBy (w6.alloc (.cells #[.int .i64 hh, .int .i64 guest, .int .i64 gid, .int .i64 (now + 5)] 39 (0, 0))) wq (Value.ownBlock (.slice A_q (ql.filter (fun x => decide (x.f3 > now))).length c_q))) := Aside0.mk hg; have HAT : Aside0 (v'.ownBlock = Value.ownBlock (.slice A_q (ql.filter (fun x => decide (x.f3 > now))).length c_q) ∨ ∃ b, v'.ownBlock = some b ∧ (w6.alloc (.cells #[.int .i64 hh, .int .i64 guest, .int .i64 gid, .int .i64 (now + 5)] 39 (0, 0))).heap.size ≤ b) := Aside0.mk hat; clear ho hb_ hg hat; have hgo : ∀ j, j < (w6.alloc (.cells #[.int .i64 hh, .int .i64 guest, .int .i64 gid, .int .i64 (now + 5)] 39 (0, 0))).heap.size → j ≠ g2 → wq.heap[j]? = (w6.alloc (.cells #[.int .i64 hh, .int .i64 guest, .int .i64 gid, .int .i64 (now + 5)] 39 (0, 0))).heap[j]? := fun j h1 h2 => HG.out.block j h1 (by rcases hq2.out.2 with ⟨h3, _⟩ | ⟨h3, _⟩ <;> rw [h3] <;> simp [Value.ownBlock] <;> exact h2); have hsz6 : (w6.alloc (.cells #[.int .i64 hh, .int .i64 guest, .int .i64 gid, .int .i64 (now + 5)] 39 (0, 0))).heap.size = w6.heap.size + 1 := (by simp); have omq : wq.heap[w3.heap.size]? = some (.cells #[.slice A_s (fl.filter (fun x => decide (x.f4 > now))).length c_s, .slice A_q (ql.filter (fun x => decide (x.f3 > now))).length c_q] 27 (0, 0)) := (hgo _ (by rw [hsz6]; have := oml; omega) (by omega)).trans (ext_alloc om.out _); have orq : wq.heap[w.heap.size + 1]? = some (.cells #[.slice none 0 0, .slice none 0 0] 27 (0, 0)) := (hgo _ (by rw [hsz6]; have := orrl; omega) (by omega)).trans (ext_alloc orr.out _); have hbq : Below w.heap.size w wq := (below_alloc HB.out (.cells #[.int .i64 hh, .int .i64 guest, .int .i64 gid, .int .i64 (now + 5)] 39 (0, 0))).trans ⟨HG.out.os, HG.out.tape, HG.out.output, HG.out.size, fun j hj => hgo j (by rw [hsz6]; have := HB.out.size; omega) (by omega)⟩; have hss : Kd.F k48 wq (fun j => j = g) A_s (fl.filter (fun x => decide (x.f4 > now))).length (fl.filter (fun x => decide (x.f4 > now))) := Kd.F_step s.out (fun j hj hl_ => by (try dsimp only at hj); rw [hj, hgo g (by rw [hsz6]; have := ogl; omega) (by omega), ext_alloc og.out _, og.out]); obtain ⟨A_n, c_n, ev, hcn, hFn⟩ := appF39 HO.out HAT.out (g := g2) (fun b hb_ => by rcases hq2.out.2 with ⟨h3, _⟩ | ⟨h3, _⟩ <;> rw [h3] at hb_ <;> simp [Value.ownBlock] at hb_ <;> omega); obtain ⟨Ln, hLn⟩ : ∃ L, ((ql.filter (fun x : S39 => decide (x.f3 > now))) ++ [(⟨hh, guest, gid, now + 5⟩ : S39)]).length = L := ⟨_, rfl⟩; rw [hLn] at ev hcn hFn; have HLN := Aside0.mk hLn; clear hLn; subst ev; clear on onc onf onl orr orrc orrf orrl og ogc ogf ogl og2 og2c og2f og2l om omc omf oml s q HB HRA HVA HO HG HAT hgo; have om := Aside0.mk omq; have orr := Aside0.mk orq; have HB := Aside0.mk hbq; have s := Aside0.mk hss; have q := Aside0.mk hFn; clear omq orq hbq hss hFn; obtain ⟨omc, omf, oml⟩ := cells_of om.out; obtain ⟨orrc, orrf, orrl⟩ := cells_of orr.out))
  have hmr : ¬ w3.heap.size = w.heap.size + 1 := by omega
  (have s_ := Aside0.mk (Kd.F_far (p := ⟨w3.heap.size, 1, none⟩) s.out (fun j_ hj_ => by (try dsimp only at hj_); (try dsimp only); (try simp only [sz_alloc, sz_drew, sz_drewN, sz_set] at hj_); omega) (.slice A_n Ln c_n)); clear s; have s := s_; clear s_; have orr_ := Aside0.mk (blk_far (p := ⟨w3.heap.size, 1, none⟩) orr.out (by show _ ≠ _; dsimp only; omega) (.slice A_n Ln c_n)); clear orr orrc orrf orrl; have orr := orr_; clear orr_; obtain ⟨orrc, orrf, orrl⟩ := cells_of orr.out; have om_ := Aside0.mk (blk_put om.out 1 (.slice A_n Ln c_n) (cs' := #[.slice A_s (fl.filter (fun x => decide (x.f4 > now))).length c_s, .slice A_n Ln c_n]) rfl); clear om omc omf oml; have om := om_; clear om_; obtain ⟨omc, omf, oml⟩ := cells_of om.out)
  go_wp2
  refine bodyPost_ret (v := .tuple #[.agg #[.slice A_s (fl.filter (fun x => decide (x.f4 > now))).length c_s, .slice A_n Ln c_n], .int .i64 hh, .bool true]) (by simp [results, Try.results11, go_sem, orrc, orrf] <;> first | assumption | omega | (symm; assumption)) rfl ?_
  exact ⟨hh, hP.out, A_s, c_s, A_n, c_n, by rw [HLN.out], sc.out, (Kd.F_mono (ok := fun j => j = g) (fG s) (fun j hj => .inr (by omega))), by rw [HLN.out]; exact hcn, by rw [HLN.out]; exact (Kd.F_mono (ok := fun j => j = g2 ∨ (w6.alloc (.cells #[.int .i64 hh, .int .i64 guest, .int .i64 gid, .int .i64 (now + 5)] 39 (0, 0))).heap.size ≤ j) (fG q) (fun j hj => .inr (by simp only [sz_alloc] at hj; omega))), (bG HB)⟩
end Go.Proofs.Ytnjgejjijboibaa.Q
end
section
/- nat, in plain lists: what Open, Ask and Back answer, and what they keep. -/
namespace Go.Proofs.Ytnjgejjijboibaa.Q
open Go.RowKit Go.Proofs.YtnjgejjijboibaaW.PrintWords Go.Proofs.YtnjgejjijboibaaW.PrintLast Go.Proofs.YtnjgejjijboibaaW.PrintMore Go.Proofs.Ytnjgejjijboibaa.L
attribute [local go_sem] Instr.field part asAgg lt_step max2_int min2_int max_two min_two max_three min_three max_four min_four lt_0_1 lt_0_2 lt_1_2 lt_0_3 lt_1_3 lt_2_3 lt_0_4 lt_1_4 lt_2_4 lt_3_4 lt_0_5 lt_1_5 lt_2_5 lt_3_5 lt_4_5 lt_0_6 lt_1_6 lt_2_6 lt_3_6 lt_4_6 lt_5_6 lt_0_7 lt_1_7 lt_2_7 lt_3_7 lt_4_7 lt_5_7 lt_6_7 lt_0_8 lt_1_8 lt_2_8 lt_3_8 lt_4_8 lt_5_8 lt_6_8 lt_7_8
set_option linter.unusedVariables false
set_option linter.unusedSimpArgs false
def EF (fl : List S48) (now : Int) : List S48 := fl.filter (fun x => decide (x.f4 > now))
def EQ (ql : List S39) (now : Int) : List S39 := ql.filter (fun x => decide (x.f3 > now))
def leastGo (ks : List Int) : Nat → Nat → Nat
  | i, 0 => i
  | i, f + 1 => if ks.contains (i : Int) = true then leastGo ks (i + 1) f else i
def leastN (ks : List Int) : Int := (leastGo ks 1 ks.length : Nat)
theorem leastGo_of {ks : List Int} {m : Nat} (hm : (m : Int) ∉ ks) : ∀ (f i : Nat), i ≤ m → m ≤ i + f → (∀ j : Nat, i ≤ j → j < m → (j : Int) ∈ ks) → leastGo ks i f = m
  | 0, i, h1, h2, _ => by rw [leastGo]; omega
  | f + 1, i, h1, h2, h => by
    rw [leastGo]
    by_cases e : i = m
    · subst e
      rw [if_neg (by simpa using hm)]
    · rw [if_pos (by simpa using h i (Nat.le_refl _) (by omega))]
      exact leastGo_of hm f (i + 1) (by omega) (by omega) (fun j h3 h4 => h j (by omega) h4)
theorem leastN_of {ks : List Int} {n : Int} (h : leastP ks n) : leastN ks = n := by
  obtain ⟨m, rfl, h1, h2, h3, h4⟩ := h
  exact congrArg Nat.cast (leastGo_of h3 _ _ h1 (by omega) h4)
def wayP (g r p : Int) (x : S48) : Bool := (x.f0 == g && x.f2 == r && x.f3 == p)
def openF (fl : List S48) (ql : List S39) (now guest remote port : Int) : List S48 × List S39 × Int × Bool :=
  if (mayZ fl ql now && (wordB guest && wordB port)) = true then
    (if idxP (wayP guest remote port) (EF fl now) 0 = -1 then
      (if (EF fl now).length = 16 then (EF fl now, EQ ql now, 0, false)
       else (EF fl now ++ [⟨guest, leastN ((EF fl now).map fun x => x.f1), remote, port, now + 60⟩], EQ ql now, leastN ((EF fl now).map fun x => x.f1), true))
     else ((EF fl now).set (idxP (wayP guest remote port) (EF fl now) 0).toNat ⟨((EF fl now).getD (idxP (wayP guest remote port) (EF fl now) 0).toNat z48).f0, ((EF fl now).getD (idxP (wayP guest remote port) (EF fl now) 0).toNat z48).f1, ((EF fl now).getD (idxP (wayP guest remote port) (EF fl now) 0).toNat z48).f2, ((EF fl now).getD (idxP (wayP guest remote port) (EF fl now) 0).toNat z48).f3, now + 60⟩,
       EQ ql now, ((EF fl now).getD (idxP (wayP guest remote port) (EF fl now) 0).toNat z48).f1, true))
  else (fl, ql, 0, false)
def askF (fl : List S48) (ql : List S39) (now guest gid : Int) : List S48 × List S39 × Int × Bool :=
  if (mayZ fl ql now && (wordB guest && wordB gid)) = true then
    (if (EQ ql now).length = 16 then (EF fl now, EQ ql now, 0, false)
     else (EF fl now, EQ ql now ++ [⟨leastN ((EQ ql now).map fun x => x.f0), guest, gid, now + 5⟩], leastN ((EQ ql now).map fun x => x.f0), true))
  else (fl, ql, 0, false)
def idP (id now : Int) (x : S39) : Bool := (x.f0 == id && decide (x.f3 > now))
def backF (fl : List S48) (ql : List S39) (now id : Int) : List S39 × S39 × Bool :=
  if mayZ fl ql now = true then
    (if idxP (idP id now) ql 0 = -1 then (ql, z39, false)
     else (ql.take (idxP (idP id now) ql 0).toNat ++ ql.drop ((idxP (idP id now) ql 0).toNat + 1), ql.getD (idxP (idP id now) ql 0).toNat z39, true))
  else (ql, z39, false)
def inF (fl : List S48) (ql : List S39) (now host remote port : Int) : Int × Bool := if mayZ fl ql now = true then inV fl host remote port now else (0, false)
section
variable (A0 : Option Addr) (c0 : Nat) (fl : List S48) (A1 : Option Addr) (c1 : Nat) (ql : List S39) (now : Int) (w : World) (ok0 ok1 : Nat → Prop) (hr0 : Kd.F k48 w ok0 A0 fl.length fl) (hc0 : fl.length ≤ c0) (hr1 : Kd.F k39 w ok1 A1 ql.length ql) (hc1 : ql.length ≤ c1) (hwf : ∀ x ∈ fl, wfF x) (hwq : ∀ x ∈ ql, wfQ x) (hl0 : fl.length ≤ 1000) (hl1 : ql.length ≤ 1000)
theorem may_now {fl : List S48} {ql : List S39} {now : Int} (h : mayZ fl ql now = true) : 0 ≤ now ∧ now ≤ 1099511627716 := by
  simp only [mayZ, Bool.and_eq_true, decide_eq_true_eq] at h
  exact ⟨h.1.2, h.2⟩
theorem EF_len (fl : List S48) (now : Int) : (EF fl now).length ≤ fl.length := List.length_filter_le _ _
theorem EQ_len (ql : List S39) (now : Int) : (EQ ql now).length ≤ ql.length := List.length_filter_le _ _
include hr0 hc0 hr1 hc1 hwf hwq hl0 hl1
theorem open_is (guest remote port : Int) (fl' : List S48) (ql' : List S39) (h : Int) (b : Bool) (hf : openF fl ql now guest remote port = (fl', ql', h, b)) :
    Calls Try.prog 7 #[.agg #[.slice A0 fl.length c0, .slice A1 ql.length c1], .int .i64 now, .int .i64 guest, .int .u32 remote, .int .i64 port] w (OpenPost ok0 ok1 w fl' ql' h b) := by
  unfold openF at hf
  split at hf
  case isFalse hx =>
    simp only [Prod.mk.injEq] at hf
    obtain ⟨rfl, rfl, rfl, rfl⟩ := hf
    exact open_no A0 c0 fl A1 c1 ql now w ok0 ok1 hr0 hc0 hr1 hc1 hwf hwq guest remote port _ _ rfl rfl (by simpa using hx)
  case isTrue hx =>
  obtain ⟨hm, hd⟩ := (Bool.and_eq_true _ _).mp hx
  have hn := may_now hm
  have hadd : wrap64 (now + 60) = now + 60 := by unfold wrap64; omega
  split at hf
  case isTrue hi =>
    split at hf
    case isTrue h16 =>
      simp only [Prod.mk.injEq] at hf
      obtain ⟨rfl, rfl, rfl, rfl⟩ := hf
      exact open_full A0 c0 fl A1 c1 ql now w ok0 ok1 hr0 hc0 hr1 hc1 hwf hwq guest remote port hl0 hl1 hm hd hadd hi (by show (((EF fl now).length : Int) == 16) = true; rw [h16]; rfl) (by show ((EF fl now).length : Int) = 16 ↔ True; rw [h16]; simp)
    case isFalse h16 =>
      simp only [Prod.mk.injEq] at hf
      obtain ⟨rfl, rfl, rfl, rfl⟩ := hf
      refine Calls.mono (open_new A0 c0 fl A1 c1 ql now w ok0 ok1 hr0 hc0 hr1 hc1 hwf hwq guest remote port hl0 hl1 hm hd hadd hi (by show (((EF fl now).length : Int) == 16) = false; exact beq_eq_false_iff_ne.2 (by omega)) (by show ¬ ((EF fl now).length : Int) = 16; omega) (fun x hx => (hwf x (List.mem_filter.1 hx).1).2.1) (Nat.le_trans (EF_len fl now) hl0)) ?_
      rintro e w' ⟨hh, hle, hp⟩
      have e1 := leastN_of hle
      rw [show leastN ((EF fl now).map fun x => x.f1) = hh from e1]
      exact hp
  case isFalse hi =>
    simp only [Prod.mk.injEq] at hf
    obtain ⟨rfl, rfl, rfl, rfl⟩ := hf
    rcases idxP_spec (wayP guest remote port) z48 (EF fl now) 0 with h1 | h1 | ⟨k, hk, he, _, _⟩
    · exact absurd h1.1 hi
    · exact absurd h1 (by decide)
    · rw [Int.zero_add] at he
      rw [he, Int.toNat_natCast]
      exact open_found A0 c0 fl A1 c1 ql now w ok0 ok1 hr0 hc0 hr1 hc1 hwf hwq guest remote port hl0 hl1 hm hd hadd k _ he hk rfl
theorem ask_is (guest gid : Int) (fl' : List S48) (ql' : List S39) (h : Int) (b : Bool) (hf : askF fl ql now guest gid = (fl', ql', h, b)) :
    Calls Try.prog 11 #[.agg #[.slice A0 fl.length c0, .slice A1 ql.length c1], .int .i64 now, .int .i64 guest, .int .i64 gid] w (OpenPost ok0 ok1 w fl' ql' h b) := by
  unfold askF at hf
  split at hf
  case isFalse hx =>
    simp only [Prod.mk.injEq] at hf
    obtain ⟨rfl, rfl, rfl, rfl⟩ := hf
    exact ask_no A0 c0 fl A1 c1 ql now w ok0 ok1 hr0 hc0 hr1 hc1 hwf hwq guest gid _ _ rfl rfl (by simpa using hx)
  case isTrue hx =>
  obtain ⟨hm, hd⟩ := (Bool.and_eq_true _ _).mp hx
  have hn := may_now hm
  have hadd : wrap64 (now + 5) = now + 5 := by unfold wrap64; omega
  split at hf
  case isTrue h16 =>
    simp only [Prod.mk.injEq] at hf
    obtain ⟨rfl, rfl, rfl, rfl⟩ := hf
    exact ask_full A0 c0 fl A1 c1 ql now w ok0 ok1 hr0 hc0 hr1 hc1 hwf hwq guest gid hl0 hl1 hm hd hadd (by show (((EQ ql now).length : Int) == 16) = true; rw [h16]; rfl) (by show ((EQ ql now).length : Int) = 16 ↔ True; rw [h16]; simp)
  case isFalse h16 =>
    simp only [Prod.mk.injEq] at hf
    obtain ⟨rfl, rfl, rfl, rfl⟩ := hf
    refine Calls.mono (ask_new A0 c0 fl A1 c1 ql now w ok0 ok1 hr0 hc0 hr1 hc1 hwf hwq guest gid hl0 hl1 hm hd hadd (by show (((EQ ql now).length : Int) == 16) = false; exact beq_eq_false_iff_ne.2 (by omega)) (by show ¬ ((EQ ql now).length : Int) = 16; omega) (fun x hx => (hwq x (List.mem_filter.1 hx).1).1) (Nat.le_trans (EQ_len ql now) hl1)) ?_
    rintro e w' ⟨hh, hle, hp⟩
    have e1 := leastN_of hle
    rw [show leastN ((EQ ql now).map fun x => x.f0) = hh from e1]
    exact hp
theorem back_is (id : Int) (ql' : List S39) (q : S39) (b : Bool) (hf : backF fl ql now id = (ql', q, b)) :
    Calls Try.prog 12 #[.agg #[.slice A0 fl.length c0, .slice A1 ql.length c1], .int .i64 now, .int .i64 id] w (BackPost ok0 ok1 w fl ql' q b) := by
  have _ := hl0
  unfold backF at hf
  split at hf
  case isFalse hx =>
    simp only [Prod.mk.injEq] at hf
    obtain ⟨rfl, rfl, rfl⟩ := hf
    exact back_may A0 c0 fl A1 c1 ql now w ok0 ok1 hr0 hc0 hr1 hc1 hwf hwq id (by simpa using hx)
  case isTrue hm =>
  split at hf
  case isTrue hi =>
    simp only [Prod.mk.injEq] at hf
    obtain ⟨rfl, rfl, rfl⟩ := hf
    exact back_none A0 c0 fl A1 c1 ql now w ok0 ok1 hr0 hc0 hr1 hc1 hwf hwq id hm hi
  case isFalse hi =>
    simp only [Prod.mk.injEq] at hf
    obtain ⟨rfl, rfl, rfl⟩ := hf
    rcases idxP_spec (idP id now) z39 ql 0 with h1 | h1 | ⟨k, hk, he, _, _⟩
    · exact absurd h1.1 hi
    · exact absurd h1 (by decide)
    · rw [Int.zero_add] at he
      rw [he, Int.toNat_natCast]
      exact back_yes A0 c0 fl A1 c1 ql now w ok0 ok1 hr0 hc0 hr1 hc1 hwf hwq id hm hl1 k _ he hk rfl
theorem in_is (host remote port : Int) (v : Int) (b : Bool) (hf : inF fl ql now host remote port = (v, b)) :
    Calls Try.prog 9 #[.agg #[.slice A0 fl.length c0, .slice A1 ql.length c1], .int .i64 now, .int .i64 host, .int .u32 remote, .int .i64 port] w fun e w' => e = .returned (.tuple #[.int .i64 v, .bool b]) ∧ Below w.heap.size w w' := by
  have _ := hl0
  have _ := hl1
  unfold inF at hf
  split at hf
  case isTrue hm => exact in_yes A0 c0 fl A1 c1 ql now w ok0 ok1 hr0 hc0 hr1 hc1 hwf hwq host remote port hm v b hf
  case isFalse hm =>
    simp only [Prod.mk.injEq] at hf
    obtain ⟨rfl, rfl⟩ := hf
    exact in_no A0 c0 fl A1 c1 ql now w ok0 ok1 hr0 hc0 hr1 hc1 hwf hwq host remote port (by simpa using hm)
theorem exp_is (hm : mayZ fl ql now = true) :
    Calls Try.prog 13 #[.agg #[.slice A0 fl.length c0, .slice A1 ql.length c1], .int .i64 now] w fun e w' => ∃ A c A' c', e = .returned (.agg #[.slice A (EF fl now).length c, .slice A' (EQ ql now).length c']) ∧ Below w.heap.size w w' := by
  refine Calls.mono (exp_yes A0 c0 fl A1 c1 ql now w ok0 ok1 hr0 hc0 hr1 hc1 hwf hwq hl0 hl1 hm) ?_
  rintro e w' ⟨g, cur, t, g2, cur2, t2, A, c, A', c', he, _, _, _, _, _, _, _, _, _, hB⟩
  exact ⟨A, c, A', c', he, hB⟩
end
end Go.Proofs.Ytnjgejjijboibaa.Q
end
section
/- nat, in plain lists: a checked row stays checked, and who was opened is found. -/
namespace Go.Proofs.Ytnjgejjijboibaa.Q
open Go.RowKit Go.Proofs.YtnjgejjijboibaaW.PrintWords Go.Proofs.YtnjgejjijboibaaW.PrintLast Go.Proofs.YtnjgejjijboibaaW.PrintMore Go.Proofs.Ytnjgejjijboibaa.L
attribute [local go_sem] Instr.field part asAgg lt_step max2_int min2_int max_two min_two max_three min_three max_four min_four lt_0_1 lt_0_2 lt_1_2 lt_0_3 lt_1_3 lt_2_3 lt_0_4 lt_1_4 lt_2_4 lt_3_4 lt_0_5 lt_1_5 lt_2_5 lt_3_5 lt_4_5 lt_0_6 lt_1_6 lt_2_6 lt_3_6 lt_4_6 lt_5_6 lt_0_7 lt_1_7 lt_2_7 lt_3_7 lt_4_7 lt_5_7 lt_6_7 lt_0_8 lt_1_8 lt_2_8 lt_3_8 lt_4_8 lt_5_8 lt_6_8 lt_7_8
set_option linter.unusedVariables false
set_option linter.unusedSimpArgs false
theorem leastGo_spec {ks : List Int} : ∀ (f i : Nat), (∃ j : Nat, i ≤ j ∧ j ≤ i + f ∧ (j : Int) ∉ ks) → ((leastGo ks i f : Nat) : Int) ∉ ks ∧ i ≤ leastGo ks i f ∧ leastGo ks i f ≤ i + f
  | 0, i, ⟨j, h1, h2, h3⟩ => by
    obtain rfl : j = i := by omega
    rw [leastGo]
    exact ⟨h3, Nat.le_refl _, Nat.le_refl _⟩
  | f + 1, i, ⟨j, h1, h2, h3⟩ => by
    rw [leastGo]
    by_cases e : (i : Int) ∈ ks
    · rw [if_pos (by simpa using e)]
      have hne : i ≠ j := fun hh => by subst hh; exact h3 e
      obtain ⟨a, b, c⟩ := leastGo_spec f (i + 1) ⟨j, by omega, by omega, h3⟩
      exact ⟨a, by omega, by omega⟩
    · rw [if_neg (by simpa using e)]
      exact ⟨e, Nat.le_refl _, by omega⟩
theorem leastN_spec (ks : List Int) : leastN ks ∉ ks ∧ 1 ≤ leastN ks ∧ leastN ks ≤ (ks.length : Int) + 1 := by
  have hex : ∃ j : Nat, 1 ≤ j ∧ j ≤ 1 + ks.length ∧ (j : Int) ∉ ks := by
    refine Classical.byContradiction fun hn => ?_
    have := pigeon (ks.length + 1) ks (fun i h1 h2 => Classical.byContradiction fun h3 => hn ⟨i, h1, by omega, h3⟩)
    omega
  obtain ⟨a, b, c⟩ := leastGo_spec ks.length 1 hex
  unfold leastN
  exact ⟨a, by omega, by omega⟩
def baseF (x : S48) : Bool := (wordB x.f0 && wordB x.f3) && slotB x.f1 x.f4
def baseQ (x : S39) : Bool := (wordB x.f1 && wordB x.f2) && slotB x.f0 x.f3
def RF (x y : S48) : Prop := x.f1 ≠ y.f1 ∧ wayB x y = false
def RQ (x y : S39) : Prop := x.f0 ≠ y.f0
theorem oneF_iff (prev : List S48) (x : S48) : oneF prev x = true ↔ baseF x = true ∧ ∀ y ∈ prev, RF y x := by
  unfold oneF baseF RF
  simp only [Bool.and_eq_true, Bool.not_eq_true', List.any_eq_false]
  constructor
  · rintro ⟨⟨⟨h1, h2⟩, h3⟩, h4⟩
    refine ⟨⟨h1, h2⟩, fun y hy => ⟨fun e => ?_, by simpa using h4 y hy⟩⟩
    have : x.f1 ∈ prev.map (fun y => y.f1) := List.mem_map.2 ⟨y, hy, e⟩
    have h5 := List.contains_iff_mem.2 this
    rw [h3] at h5; cases h5
  · rintro ⟨⟨h1, h2⟩, h3⟩
    refine ⟨⟨⟨h1, h2⟩, ?_⟩, fun y hy => by simpa using (h3 y hy).2⟩
    refine Bool.eq_false_iff.2 fun hc => ?_
    obtain ⟨y, hy, e⟩ := List.mem_map.1 (List.contains_iff_mem.1 hc)
    exact (h3 y hy).1 e
theorem oneQ_iff (prev : List S39) (x : S39) : oneQ prev x = true ↔ baseQ x = true ∧ ∀ y ∈ prev, RQ y x := by
  unfold oneQ baseQ RQ
  simp only [Bool.and_eq_true, Bool.not_eq_true']
  constructor
  · rintro ⟨⟨h1, h2⟩, h3⟩
    refine ⟨⟨h1, h2⟩, fun y hy e => ?_⟩
    have : x.f0 ∈ prev.map (fun y => y.f0) := List.mem_map.2 ⟨y, hy, e⟩
    have h5 := List.contains_iff_mem.2 this
    rw [h3] at h5; cases h5
  · rintro ⟨⟨h1, h2⟩, h3⟩
    refine ⟨⟨h1, h2⟩, ?_⟩
    refine Bool.eq_false_iff.2 fun hc => ?_
    obtain ⟨y, hy, e⟩ := List.mem_map.1 (List.contains_iff_mem.1 hc)
    exact h3 y hy e
theorem okF_iff : ∀ (l prev : List S48), okF prev l = true ↔ (∀ x ∈ l, baseF x = true) ∧ (∀ y ∈ prev, ∀ x ∈ l, RF y x) ∧ l.Pairwise RF
  | [], prev => by simp [okF]
  | x :: l, prev => by
    rw [okF, Bool.and_eq_true, oneF_iff, okF_iff l (prev ++ [x]), List.pairwise_cons]
    constructor
    · rintro ⟨⟨h1, h2⟩, h3, h4, h5⟩
      refine ⟨fun z hz => ?_, fun y hy z hz => ?_, fun z hz => h4 x (by simp) z hz, h5⟩
      · rcases List.mem_cons.1 hz with rfl | hz
        · exact h1
        · exact h3 z hz
      · rcases List.mem_cons.1 hz with rfl | hz
        · exact h2 y hy
        · exact h4 y (by simp [hy]) z hz
    · rintro ⟨h1, h2, h3, h4⟩
      refine ⟨⟨h1 x (by simp), fun y hy => h2 y hy x (by simp)⟩, fun z hz => h1 z (by simp [hz]), fun y hy z hz => ?_, h4⟩
      rcases List.mem_append.1 hy with hy | hy
      · exact h2 y hy z (by simp [hz])
      · rw [List.mem_singleton.1 hy]; exact h3 z hz
theorem okQ_iff : ∀ (l prev : List S39), okQ prev l = true ↔ (∀ x ∈ l, baseQ x = true) ∧ (∀ y ∈ prev, ∀ x ∈ l, RQ y x) ∧ l.Pairwise RQ
  | [], prev => by simp [okQ]
  | x :: l, prev => by
    rw [okQ, Bool.and_eq_true, oneQ_iff, okQ_iff l (prev ++ [x]), List.pairwise_cons]
    constructor
    · rintro ⟨⟨h1, h2⟩, h3, h4, h5⟩
      refine ⟨fun z hz => ?_, fun y hy z hz => ?_, fun z hz => h4 x (by simp) z hz, h5⟩
      · rcases List.mem_cons.1 hz with rfl | hz
        · exact h1
        · exact h3 z hz
      · rcases List.mem_cons.1 hz with rfl | hz
        · exact h2 y hy
        · exact h4 y (by simp [hy]) z hz
    · rintro ⟨h1, h2, h3, h4⟩
      refine ⟨⟨h1 x (by simp), fun y hy => h2 y hy x (by simp)⟩, fun z hz => h1 z (by simp [hz]), fun y hy z hz => ?_, h4⟩
      rcases List.mem_append.1 hy with hy | hy
      · exact h2 y hy z (by simp [hz])
      · rw [List.mem_singleton.1 hy]; exact h3 z hz
theorem checkZ_iff (fl : List S48) (ql : List S39) : checkZ fl ql = true ↔ (fl.length ≤ 16 ∧ ql.length ≤ 16) ∧ ((∀ x ∈ fl, baseF x = true) ∧ fl.Pairwise RF) ∧ (∀ x ∈ ql, baseQ x = true) ∧ ql.Pairwise RQ := by
  unfold checkZ
  rw [Bool.and_eq_true, Bool.and_eq_true, Bool.and_eq_true, decide_eq_true_eq, decide_eq_true_eq, okF_iff, okQ_iff]
  constructor
  · rintro ⟨h, ⟨a, _, b⟩, c, _, d⟩; exact ⟨h, ⟨a, b⟩, c, d⟩
  · rintro ⟨h, ⟨a, b⟩, c, d⟩; exact ⟨h, ⟨a, by simp, b⟩, c, by simp, d⟩
theorem may_iff (fl : List S48) (ql : List S39) (now : Int) : mayZ fl ql now = true ↔ checkZ fl ql = true ∧ 0 ≤ now ∧ now ≤ 1099511627716 := by
  unfold mayZ
  rw [Bool.and_eq_true, Bool.and_eq_true, decide_eq_true_eq, decide_eq_true_eq]
  exact ⟨fun h => ⟨h.1.1, h.1.2, h.2⟩, fun h => ⟨⟨h.1, h.2.1⟩, h.2.2⟩⟩
theorem uniq {α : Type} {R : α → α → Prop} {f : α → Int} (hR : ∀ x y, R x y → f x ≠ f y) : ∀ {l : List α}, l.Pairwise R → ∀ {x y : α}, x ∈ l → y ∈ l → f x = f y → x = y
  | [], _, x, y, hx, _, _ => by cases hx
  | a :: l, h, x, y, hx, hy, e => by
    obtain ⟨h1, h2⟩ := List.pairwise_cons.1 h
    rcases List.mem_cons.1 hx with hx1 | hx1 <;> rcases List.mem_cons.1 hy with hy1 | hy1
    · rw [hx1, hy1]
    · subst hx1; exact absurd e (hR _ _ (h1 y hy1))
    · subst hy1; exact absurd e.symm (hR _ _ (h1 x hx1))
    · exact uniq hR h2 hx1 hy1 e
theorem way_facts {g r p : Int} {x : S48} (h : wayP g r p x = true) : x.f0 = g ∧ x.f2 = r ∧ x.f3 = p := by
  unfold wayP at h
  simp only [Bool.and_eq_true, beq_iff_eq] at h
  exact ⟨h.1.1, h.1.2, h.2⟩
/-- What Open leaves is checked, and holds what was opened. -/
theorem open_keeps {fl : List S48} {ql : List S39} {now guest remote port : Int} {fl' : List S48} {ql' : List S39} {h : Int} (hop : openF fl ql now guest remote port = (fl', ql', h, true)) :
    checkZ fl' ql' = true ∧ ql' = EQ ql now ∧ (⟨guest, h, remote, port, now + 60⟩ : S48) ∈ fl' ∧ (0 ≤ now ∧ now ≤ 1099511627716) ∧ (∀ z ∈ fl', z ∈ fl ∨ z = ⟨guest, h, remote, port, now + 60⟩) ∧ 1 ≤ h ∧ h ≤ 16 := by
  unfold openF at hop
  split at hop
  case isFalse => simp at hop
  case isTrue hx =>
  obtain ⟨hm, hd⟩ := (Bool.and_eq_true _ _).mp hx
  obtain ⟨hd0, hd1⟩ := (Bool.and_eq_true _ _).mp hd
  obtain ⟨hc, hn0, hn1⟩ := (may_iff _ _ _).1 hm
  obtain ⟨⟨l0, l1⟩, ⟨b0, p0⟩, b1, p1⟩ := (checkZ_iff _ _).1 hc
  have bE : ∀ x ∈ EF fl now, baseF x = true := fun x hx => b0 x (List.mem_filter.1 hx).1
  have pE : (EF fl now).Pairwise RF := p0.filter _
  have bQ : ∀ x ∈ EQ ql now, baseQ x = true := fun x hx => b1 x (List.mem_filter.1 hx).1
  have pQ : (EQ ql now).Pairwise RQ := p1.filter _
  have lE := EF_len fl now
  have lQ := EQ_len ql now
  have slot_of : ∀ n : Int, 1 ≤ n → n ≤ 16 → slotB n (now + 60) = true := fun n h1 h2 => by
    unfold slotB
    simp only [Bool.and_eq_true, decide_eq_true_eq]
    omega
  rcases idxP_spec (wayP guest remote port) z48 (EF fl now) 0 with ⟨h1, _, hno⟩ | h1 | ⟨k, hk, he, _, hw⟩
  · rw [if_pos h1] at hop
    split at hop
    case isTrue => simp at hop
    case isFalse h16 =>
    simp only [Prod.mk.injEq, and_true] at hop
    obtain ⟨rfl, rfl, rfl⟩ := hop
    obtain ⟨s1, s2, s3⟩ := leastN_spec ((EF fl now).map fun x => x.f1)
    rw [List.length_map] at s3
    have s4 : leastN ((EF fl now).map fun x => x.f1) ≤ 16 := by omega
    refine ⟨(checkZ_iff _ _).2 ⟨⟨by rw [List.length_append]; show (EF fl now).length + 1 ≤ 16; omega, by omega⟩, ⟨fun x hx => ?_, List.pairwise_append.2 ⟨pE, by simp, fun x hx y hy => ?_⟩⟩, bQ, pQ⟩, rfl, by simp, ⟨hn0, hn1⟩, fun z hz => ?_, s2, s4⟩
    · rcases List.mem_append.1 hx with hx | hx
      · exact bE x hx
      · rw [List.mem_singleton.1 hx]
        unfold baseF
        dsimp only
        rw [hd0, hd1, slot_of _ s2 s4]; rfl
    · rw [List.mem_singleton.1 hy]
      refine ⟨fun e => s1 (List.mem_map.2 ⟨x, hx, e⟩), ?_⟩
      exact hno x hx
    · rcases List.mem_append.1 hz with hz | hz
      · exact .inl (List.mem_filter.1 hz).1
      · exact .inr (List.mem_singleton.1 hz)
  · exact absurd h1 (by decide)
  · rw [Int.zero_add] at he
    rw [if_neg (by omega), he, Int.toNat_natCast] at hop
    simp only [Prod.mk.injEq, and_true] at hop
    have hx : (EF fl now).getD k z48 ∈ EF fl now := by
      rw [List.getD_eq_getElem?_getD, List.getElem?_eq_getElem hk]; exact List.getElem_mem hk
    obtain ⟨X, hX⟩ : ∃ X, X = (EF fl now).getD k z48 := ⟨_, rfl⟩
    rw [← hX] at hop hw hx
    obtain ⟨w0, w2, w3⟩ := way_facts hw
    rw [w0, w2, w3] at hop
    obtain ⟨rfl, rfl, rfl⟩ := hop
    have bX := bE X hx
    have bX2 := bX
    unfold baseF slotB at bX2
    simp only [Bool.and_eq_true, decide_eq_true_eq] at bX2
    have hXk : (EF fl now)[k]? = some X := by rw [hX, List.getD_eq_getElem?_getD, List.getElem?_eq_getElem hk]; rfl
    have hmap : ∀ {β : Type} (f : S48 → β), f ⟨guest, X.f1, remote, port, now + 60⟩ = f X → ((EF fl now).set k ⟨guest, X.f1, remote, port, now + 60⟩).map f = (EF fl now).map f := fun f hf => by
      rw [List.map_set, hf]
      apply List.ext_getElem?
      intro j
      rw [List.getElem?_set]
      split
      case isTrue hj =>
        subst hj
        rw [List.getElem?_map, hXk]
        split
        · rfl
        · rename_i hnl; rw [List.length_map] at hnl; exact absurd hk hnl
      case isFalse => rfl
    have pS : ((EF fl now).set k ⟨guest, X.f1, remote, port, now + 60⟩).Pairwise RF := by
      have h2 : ((EF fl now).map (fun x : S48 => (x.f0, x.f1, x.f2, x.f3))).Pairwise (fun a b => a.2.1 ≠ b.2.1 ∧ (a.1 == b.1 && a.2.2.1 == b.2.2.1 && a.2.2.2 == b.2.2.2) = false) := List.pairwise_map.2 pE
      rw [← hmap (fun x : S48 => (x.f0, x.f1, x.f2, x.f3)) (by dsimp only; rw [w0, w2, w3])] at h2
      have h3 := List.pairwise_map.1 h2
      exact h3
    refine ⟨(checkZ_iff _ _).2 ⟨⟨by rw [List.length_set]; omega, by omega⟩, ⟨fun x hx => ?_, pS⟩, bQ, pQ⟩, rfl, List.mem_set hk _, ⟨hn0, hn1⟩, fun z hz => ?_, bX2.2.1.1.1, bX2.2.1.1.2⟩
    · rcases List.mem_or_eq_of_mem_set hx with hx | rfl
      · exact bE x hx
      · unfold baseF
        dsimp only
        rw [hd0, hd1, slot_of _ bX2.2.1.1.1 bX2.2.1.1.2]; rfl
    · rcases List.mem_or_eq_of_mem_set hz with hz | rfl
      · exact .inl (List.mem_filter.1 hz).1
      · exact .inr rfl
theorem open_no_h {fl : List S48} {ql : List S39} {now guest remote port : Int} {fl' : List S48} {ql' : List S39} {h : Int} (hop : openF fl ql now guest remote port = (fl', ql', h, false)) : h = 0 := by
  unfold openF at hop
  repeat' split at hop
  all_goals (simp only [Prod.mk.injEq, and_true, Bool.true_eq_false, and_false, Bool.false_eq_true] at hop)
  all_goals (obtain ⟨_, _, rfl⟩ := hop; rfl)
/-- Who is asked for by that number, and none else, comes in. -/
theorem in_of {fl' : List S48} {ql' : List S39} {X : S48} (hck : checkZ fl' ql' = true) (hX : X ∈ fl') {t : Int} (ht0 : 0 ≤ t) (ht1 : t ≤ 1099511627716) (r p : Int) :
    inF fl' ql' t X.f1 r p = if ((X.f2 == r && X.f3 == p) && decide (X.f4 > t)) = true then (X.f0, true) else (0, false) := by
  obtain ⟨_, ⟨_, pw⟩, _⟩ := (checkZ_iff _ _).1 hck
  unfold inF
  rw [if_pos ((may_iff _ _ _).2 ⟨hck, ht0, ht1⟩)]
  unfold inV
  cases hf : fl'.find? (inP X.f1 r p t) with
  | some y =>
    have hy := List.mem_of_find?_eq_some hf
    have hp := List.find?_some hf
    have hp2 := hp
    unfold inP at hp2
    simp only [Bool.and_eq_true, beq_iff_eq, decide_eq_true_eq] at hp2
    obtain rfl := uniq (f := fun x : S48 => x.f1) (fun x y h => h.1) pw hX hy hp2.1.1.1.symm
    rw [if_pos (by simp only [Bool.and_eq_true, beq_iff_eq, decide_eq_true_eq]; exact ⟨⟨hp2.1.1.2, hp2.1.2⟩, hp2.2⟩)]
  | none =>
    have h1 := List.find?_eq_none.1 hf X hX
    rw [if_neg]
    intro hc
    apply h1
    unfold inP
    simp only [Bool.and_eq_true, beq_iff_eq, decide_eq_true_eq] at hc ⊢
    exact ⟨⟨⟨trivial, hc.1.1⟩, hc.1.2⟩, hc.2⟩
end Go.Proofs.Ytnjgejjijboibaa.Q
end
section
/- NatFull, in plain lists: sixteen ways, one by one. -/
namespace Go.Proofs.Ytnjgejjijboibaa.Q
open Go.RowKit Go.Proofs.YtnjgejjijboibaaW.PrintWords Go.Proofs.YtnjgejjijboibaaW.PrintLast Go.Proofs.YtnjgejjijboibaaW.PrintMore Go.Proofs.Ytnjgejjijboibaa.L
attribute [local go_sem] Instr.field part asAgg lt_step max2_int min2_int max_two min_two max_three min_three max_four min_four lt_0_1 lt_0_2 lt_1_2 lt_0_3 lt_1_3 lt_2_3 lt_0_4 lt_1_4 lt_2_4 lt_3_4 lt_0_5 lt_1_5 lt_2_5 lt_3_5 lt_4_5 lt_0_6 lt_1_6 lt_2_6 lt_3_6 lt_4_6 lt_5_6 lt_0_7 lt_1_7 lt_2_7 lt_3_7 lt_4_7 lt_5_7 lt_6_7 lt_0_8 lt_1_8 lt_2_8 lt_3_8 lt_4_8 lt_5_8 lt_6_8 lt_7_8
set_option linter.unusedVariables false
set_option linter.unusedSimpArgs false
def FLs (p r now : Int) : Nat → List S48
  | 0 => []
  | j + 1 => FLs p r now j ++ [⟨p + j, j + 1, r, 7, now + 60⟩]
theorem FLs_len (p r now : Int) : ∀ j, (FLs p r now j).length = j
  | 0 => rfl
  | j + 1 => by rw [FLs, List.length_append, FLs_len p r now j]; rfl
theorem FLs_mem (p r now : Int) : ∀ (j : Nat) (x : S48), x ∈ FLs p r now j → ∃ i : Nat, i < j ∧ x = ⟨p + i, i + 1, r, 7, now + 60⟩
  | 0, x, h => by cases h
  | j + 1, x, h => by
    rcases List.mem_append.1 h with h | h
    · obtain ⟨i, h1, h2⟩ := FLs_mem p r now j x h
      exact ⟨i, by omega, h2⟩
    · exact ⟨j, by omega, List.mem_singleton.1 h⟩
theorem FLs_in (p r now : Int) : ∀ (j i : Nat), i < j → (⟨p + i, i + 1, r, 7, now + 60⟩ : S48) ∈ FLs p r now j
  | 0, i, h => absurd h (Nat.not_lt_zero _)
  | j + 1, i, h => by
    rw [FLs]
    by_cases e : i = j
    · subst e; simp
    · exact List.mem_append_left _ (FLs_in p r now j i (by omega))
theorem FLs_EF {p r now t : Int} (j : Nat) (h : t < now + 60) : EF (FLs p r now j) t = FLs p r now j := by
  refine List.filter_eq_self.2 fun x hx => ?_
  obtain ⟨i, _, rfl⟩ := FLs_mem p r now j x hx
  exact decide_eq_true h
theorem FLs_EF0 {p r now t : Int} (j : Nat) (h : now + 60 ≤ t) : EF (FLs p r now j) t = [] := by
  refine List.filter_eq_nil_iff.2 fun x hx => ?_
  obtain ⟨i, _, rfl⟩ := FLs_mem p r now j x hx
  dsimp only
  rw [decide_eq_true_eq]
  omega
theorem FLs_idx (p r now : Int) (j n : Nat) (hn : j ≤ n) : idxP (wayP (p + n) r 7) (FLs p r now j) 0 = -1 := by
  rcases idxP_spec (wayP (p + n) r 7) z48 (FLs p r now j) 0 with ⟨h1, _⟩ | h1 | ⟨k, hk, _, _, hw⟩
  · exact h1
  · exact absurd h1 (by decide)
  · have hx : (FLs p r now j).getD k z48 ∈ FLs p r now j := by
      rw [List.getD_eq_getElem?_getD, List.getElem?_eq_getElem hk]; exact List.getElem_mem hk
    obtain ⟨i, hi, e⟩ := FLs_mem p r now j _ hx
    rw [e] at hw
    have := (way_facts hw).1
    dsimp only at this
    omega
theorem FLs_least (p r now : Int) (j : Nat) : leastN ((FLs p r now j).map fun x => x.f1) = (j : Int) + 1 := by
  refine leastN_of ⟨j + 1, by omega, by omega, by rw [List.length_map, FLs_len]; omega, fun hm => ?_, fun i h1 h2 => ?_⟩
  · obtain ⟨x, hx, e⟩ := List.mem_map.1 hm
    obtain ⟨i, hi, rfl⟩ := FLs_mem p r now j x hx
    dsimp only at e
    omega
  · refine List.mem_map.2 ⟨_, FLs_in p r now j (i - 1) (by omega), ?_⟩
    dsimp only
    omega
theorem word_ok {a : Int} (h0 : 0 ≤ a) (h1 : a ≤ 65535) : wordB a = true := by
  unfold wordB
  have : a / 65536 = 0 := by omega
  rw [this]; rfl
section
variable (p r now : Int) (hp0 : 0 ≤ p) (hp1 : p ≤ 60000) (hn0 : 0 ≤ now) (hn1 : now ≤ 549755813888)
include hp0 hp1 hn0 hn1
theorem FLs_step (j : Nat) (hj : j < 16) (hc : checkZ (FLs p r now j) [] = true) : openF (FLs p r now j) [] now (p + j) r 7 = (FLs p r now (j + 1), [], (j : Int) + 1, true) := by
  unfold openF
  rw [if_pos (by rw [(may_iff _ _ _).2 ⟨hc, hn0, by omega⟩, word_ok (a := p + j) (by omega) (by omega), word_ok (a := 7) (by decide) (by decide)]; rfl), FLs_EF j (by omega), if_pos (FLs_idx p r now j j (Nat.le_refl _)), FLs_len, if_neg (by omega), FLs_least]
  rfl
theorem FLs_check : ∀ (j : Nat), j ≤ 16 → checkZ (FLs p r now j) [] = true
  | 0, _ => by show checkZ [] [] = true; decide
  | j + 1, h => (open_keeps (FLs_step p r now hp0 hp1 hn0 hn1 j (by omega) (FLs_check j (by omega)))).1
theorem FLs_open (j : Nat) (hj : j < 16) : openF (FLs p r now j) [] now (p + j) r 7 = (FLs p r now (j + 1), [], (j : Int) + 1, true) := FLs_step p r now hp0 hp1 hn0 hn1 j hj (FLs_check p r now hp0 hp1 hn0 hn1 j (by omega))
theorem FLs_full : openF (FLs p r now 16) [] (now + 59) (p + 16) r 7 = (FLs p r now 16, [], 0, false) := by
  unfold openF
  rw [if_pos (by rw [(may_iff _ _ _).2 ⟨FLs_check p r now hp0 hp1 hn0 hn1 16 (by omega), by omega, by omega⟩, word_ok (a := p + 16) (by omega) (by omega), word_ok (a := 7) (by decide) (by decide)]; rfl), FLs_EF 16 (by omega), if_pos (show idxP (wayP (p + 16) r 7) (FLs p r now 16) 0 = -1 from FLs_idx p r now 16 16 (Nat.le_refl _)), FLs_len, if_pos rfl]
  rfl
theorem FLs_late : openF (FLs p r now 16) [] (now + 60) (p + 16) r 7 = ([⟨p + 16, 1, r, 7, now + 60 + 60⟩], [], 1, true) := by
  unfold openF
  rw [if_pos (by rw [(may_iff _ _ _).2 ⟨FLs_check p r now hp0 hp1 hn0 hn1 16 (by omega), by omega, by omega⟩, word_ok (a := p + 16) (by omega) (by omega), word_ok (a := 7) (by decide) (by decide)]; rfl), FLs_EF0 16 (by omega), if_pos (show idxP (wayP (p + 16) r 7) [] 0 = -1 from rfl), if_neg (by decide)]
  rfl
end
theorem FLs_wf (p r now : Int) (hr : wf32 r) (hp0 : 0 ≤ p) (hp1 : p ≤ 60000) (hn0 : 0 ≤ now) (hn1 : now ≤ 549755813888) (j : Nat) (hj : j ≤ 16) : ∀ x ∈ FLs p r now j, wfF x := by
  intro x hx
  obtain ⟨i, hi, rfl⟩ := FLs_mem p r now j x hx
  refine ⟨?_, ?_, hr, ?_, ?_⟩ <;> unfold wf64 <;> dsimp only <;> omega
theorem same_l0 (fl : List S48) (hl : fl.length ≤ 1000) : ∀ (m i : Nat), i + m = fl.length → drawbridgeref26_Same.l0 (m + 2) i fl [] fl [] = some true
  | 0, i, h => by
    rw [drawbridgeref26_Same.l0, if_neg (by omega), drawbridgeref26_Same.l1, if_neg (by decide)]
  | m + 1, i, h => by
    rw [drawbridgeref26_Same.l0, if_pos (by omega), if_pos (by omega), if_pos (by omega), if_neg (by simp), show wrap64 ((i : Int) + 1) = ((i + 1 : Nat) : Int) from by unfold wrap64; omega]
    exact same_l0 fl hl m (i + 1) (by omega)
theorem same_is (fl : List S48) (hl : fl.length ≤ 1000) : drawbridgeref26_Same.f (fl.length + 3) fl [] fl [] = some true := by
  unfold drawbridgeref26_Same.f
  rw [if_pos rfl, show (fl.length + 3) = (fl.length + 2) + 1 from rfl, drawbridgeref26_Same.j0, if_neg (by simp)]
  exact same_l0 fl hl fl.length 0 (by omega)
end Go.Proofs.Ytnjgejjijboibaa.Q
end
section
/- What must come at any rate (NAT's heads). -/
namespace Go.Proofs.Ytnjgejjijboibaa.Q
open Go.RowKit Go.Proofs.YtnjgejjijboibaaW.PrintWords Go.Proofs.YtnjgejjijboibaaW.PrintLast Go.Proofs.YtnjgejjijboibaaW.PrintMore Go.Proofs.Ytnjgejjijboibaa.L
attribute [local go_sem] Instr.field part asAgg lt_step max2_int min2_int max_two min_two max_three min_three max_four min_four lt_0_1 lt_0_2 lt_1_2 lt_0_3 lt_1_3 lt_2_3 lt_0_4 lt_1_4 lt_2_4 lt_3_4 lt_0_5 lt_1_5 lt_2_5 lt_3_5 lt_4_5 lt_0_6 lt_1_6 lt_2_6 lt_3_6 lt_4_6 lt_5_6 lt_0_7 lt_1_7 lt_2_7 lt_3_7 lt_4_7 lt_5_7 lt_6_7 lt_0_8 lt_1_8 lt_2_8 lt_3_8 lt_4_8 lt_5_8 lt_6_8 lt_7_8
set_option linter.unusedVariables false
set_option linter.unusedSimpArgs false
def hF1 : List S48 := [⟨1000, 1, 7, 53, 60⟩]
def hF2 : List S48 := [⟨1000, 1, 7, 53, 65⟩]
def hF3 : List S48 := [⟨1000, 1, 7, 53, 65⟩, ⟨1001, 2, 7, 53, 65⟩]
def hQ0 : List S39 := []
def BackPostL (ok0 ok1 : Nat → Prop) (w : World) (fl : List S48) (ql : List S39) (q0 q1 q2 q3 : Int) (b : Bool) (e : Ending) (w' : World) : Prop :=
  ∃ A c A' c', e = .returned (.tuple #[.agg #[.slice A fl.length c, .slice A' ql.length c'], .agg #[.int .i64 q0, .int .i64 q1, .int .i64 q2, .int .i64 q3], .bool b]) ∧ fl.length ≤ c ∧ Kd.F k48 w' (fun j => ok0 j ∨ w.heap.size ≤ j) A fl.length fl ∧ ql.length ≤ c' ∧ Kd.F k39 w' (fun j => ok1 j ∨ w.heap.size ≤ j) A' ql.length ql ∧ Below w.heap.size w w'
def hQ1 : List S39 := [⟨1, 1000, 9, 11⟩]
instance (x : S48) : Decidable (wfF x) := by unfold wfF wf64 wf32; infer_instance
instance (x : S39) : Decidable (wfQ x) := by unfold wfQ wf64; infer_instance
theorem hopen1 (w : World) : Calls Try.prog 7 #[.agg #[.slice none 0 0, .slice none 0 0], .int .i64 0, .int .i64 1000, .int .u32 7, .int .i64 53] w (OpenPost (fun _ => False) (fun _ => False) w hF1 hQ0 1 true) :=
  open_is none 0 [] none 0 [] 0 w _ _ (F_of_C48 (C_nil48 w) (fun ad e _ => by cases e)) (by decide) (F_of_C39 (C_nil39 w) (fun ad e _ => by cases e)) (by decide) (by decide) (by decide) (by decide) (by decide) 1000 7 53 _ _ _ _ (by kernel_rfl)
section
variable (A : Option Addr) (c : Nat) (B : Option Addr) (d : Nat) (w : World) (ok0 ok1 : Nat → Prop)
theorem hopen2 (hA : Kd.F k48 w ok0 A hF1.length hF1) (hc : hF1.length ≤ c) (hB : Kd.F k39 w ok1 B hQ0.length hQ0) (hd : hQ0.length ≤ d) : Calls Try.prog 7 #[.agg #[.slice A hF1.length c, .slice B hQ0.length d], .int .i64 5, .int .i64 1000, .int .u32 7, .int .i64 53] w (OpenPost ok0 ok1 w hF2 hQ0 1 true) :=
  open_is A c hF1 B d hQ0 5 w ok0 ok1 hA hc hB hd (by decide +kernel) (by decide +kernel) (by decide +kernel) (by decide +kernel) 1000 7 53 _ _ _ _ (by kernel_rfl)
theorem hopen3 (hA : Kd.F k48 w ok0 A hF2.length hF2) (hc : hF2.length ≤ c) (hB : Kd.F k39 w ok1 B hQ0.length hQ0) (hd : hQ0.length ≤ d) : Calls Try.prog 7 #[.agg #[.slice A hF2.length c, .slice B hQ0.length d], .int .i64 5, .int .i64 1001, .int .u32 7, .int .i64 53] w (OpenPost ok0 ok1 w hF3 hQ0 2 true) :=
  open_is A c hF2 B d hQ0 5 w ok0 ok1 hA hc hB hd (by decide +kernel) (by decide +kernel) (by decide +kernel) (by decide +kernel) 1001 7 53 _ _ _ _ (by kernel_rfl)
theorem hin1 (hA : Kd.F k48 w ok0 A hF3.length hF3) (hc : hF3.length ≤ c) (hB : Kd.F k39 w ok1 B hQ0.length hQ0) (hd : hQ0.length ≤ d) : Calls Try.prog 9 #[.agg #[.slice A hF3.length c, .slice B hQ0.length d], .int .i64 6, .int .i64 1, .int .u32 7, .int .i64 53] w fun e w' => e = .returned (.tuple #[.int .i64 1000, .bool true]) ∧ Below w.heap.size w w' :=
  in_is A c hF3 B d hQ0 6 w ok0 ok1 hA hc hB hd (by decide +kernel) (by decide +kernel) (by decide +kernel) (by decide +kernel) 1 7 53 _ _ (by decide +kernel)
theorem hin2 (hA : Kd.F k48 w ok0 A hF3.length hF3) (hc : hF3.length ≤ c) (hB : Kd.F k39 w ok1 B hQ0.length hQ0) (hd : hQ0.length ≤ d) : Calls Try.prog 9 #[.agg #[.slice A hF3.length c, .slice B hQ0.length d], .int .i64 6, .int .i64 1, .int .u32 7, .int .i64 54] w fun e w' => e = .returned (.tuple #[.int .i64 0, .bool false]) ∧ Below w.heap.size w w' :=
  in_is A c hF3 B d hQ0 6 w ok0 ok1 hA hc hB hd (by decide +kernel) (by decide +kernel) (by decide +kernel) (by decide +kernel) 1 7 54 _ _ (by decide +kernel)
theorem hin3 (hA : Kd.F k48 w ok0 A hF3.length hF3) (hc : hF3.length ≤ c) (hB : Kd.F k39 w ok1 B hQ0.length hQ0) (hd : hQ0.length ≤ d) : Calls Try.prog 9 #[.agg #[.slice A hF3.length c, .slice B hQ0.length d], .int .i64 65, .int .i64 1, .int .u32 7, .int .i64 53] w fun e w' => e = .returned (.tuple #[.int .i64 0, .bool false]) ∧ Below w.heap.size w w' :=
  in_is A c hF3 B d hQ0 65 w ok0 ok1 hA hc hB hd (by decide +kernel) (by decide +kernel) (by decide +kernel) (by decide +kernel) 1 7 53 _ _ (by decide +kernel)
theorem hask (hA : Kd.F k48 w ok0 A hF3.length hF3) (hc : hF3.length ≤ c) (hB : Kd.F k39 w ok1 B hQ0.length hQ0) (hd : hQ0.length ≤ d) : Calls Try.prog 11 #[.agg #[.slice A hF3.length c, .slice B hQ0.length d], .int .i64 6, .int .i64 1000, .int .i64 9] w (OpenPost ok0 ok1 w hF3 hQ1 1 true) :=
  ask_is A c hF3 B d hQ0 6 w ok0 ok1 hA hc hB hd (by decide +kernel) (by decide +kernel) (by decide +kernel) (by decide +kernel) 1000 9 _ _ _ _ (by kernel_rfl)
theorem hback1 (hA : Kd.F k48 w ok0 A hF3.length hF3) (hc : hF3.length ≤ c) (hB : Kd.F k39 w ok1 B hQ1.length hQ1) (hd : hQ1.length ≤ d) : Calls Try.prog 12 #[.agg #[.slice A hF3.length c, .slice B hQ1.length d], .int .i64 7, .int .i64 1] w (BackPostL ok0 ok1 w hF3 hQ0 1 1000 9 11 true) :=
  back_is A c hF3 B d hQ1 7 w ok0 ok1 hA hc hB hd (by decide +kernel) (by decide +kernel) (by decide +kernel) (by decide +kernel) 1 hQ0 ⟨1, 1000, 9, 11⟩ true (by kernel_rfl)
theorem hback2 (hA : Kd.F k48 w ok0 A hF3.length hF3) (hc : hF3.length ≤ c) (hB : Kd.F k39 w ok1 B hQ0.length hQ0) (hd : hQ0.length ≤ d) : Calls Try.prog 12 #[.agg #[.slice A hF3.length c, .slice B hQ0.length d], .int .i64 7, .int .i64 1] w (BackPostL ok0 ok1 w hF3 hQ0 0 0 0 0 false) :=
  back_is A c hF3 B d hQ0 7 w ok0 ok1 hA hc hB hd (by decide +kernel) (by decide +kernel) (by decide +kernel) (by decide +kernel) 1 hQ0 ⟨0, 0, 0, 0⟩ false (by kernel_rfl)
theorem hexp (hA : Kd.F k48 w ok0 A hF3.length hF3) (hc : hF3.length ≤ c) (hB : Kd.F k39 w ok1 B hQ0.length hQ0) (hd : hQ0.length ≤ d) : Calls Try.prog 13 #[.agg #[.slice A hF3.length c, .slice B hQ0.length d], .int .i64 65] w fun e w' => ∃ A c A' c', e = .returned (.agg #[.slice A 0 c, .slice A' 0 c']) ∧ Below w.heap.size w w' :=
  exp_is A c hF3 B d hQ0 65 w ok0 ok1 hA hc hB hd (by decide +kernel) (by decide +kernel) (by decide +kernel) (by decide +kernel) (by decide +kernel)
theorem hchk (hA : Kd.F k48 w ok0 A hF3.length hF3) (hc : hF3.length ≤ c) (hB : Kd.F k39 w ok1 B hQ1.length hQ1) (hd : hQ1.length ≤ d) : Calls Try.prog 10 #[.agg #[.slice A hF3.length c, .slice B hQ1.length d]] w fun e w' => e = .returned (.bool true) ∧ Below w.heap.size w w' :=
  check_runs A c hF3 B d hQ1 w (Kd.F_now hA) (Kd.F_now hB) (by decide +kernel) (by decide +kernel) true (by decide +kernel)
end
end Go.Proofs.Ytnjgejjijboibaa.Q
end
