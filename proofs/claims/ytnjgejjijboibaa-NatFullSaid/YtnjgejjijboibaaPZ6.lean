import Derived.Test.YtnjgejjijboibaaPZ1
import Derived.Test.YtnjgejjijboibaaPZ5
import Derived.Test.YtnjgejjijboibaaPZ2
section
/- nat.Back. -/
namespace Go.Proofs.Ytnjgejjijboibaa.Q
open Go.RowKit Go.Proofs.YtnjgejjijboibaaW.PrintWords Go.Proofs.YtnjgejjijboibaaW.PrintLast Go.Proofs.YtnjgejjijboibaaW.PrintMore Go.Proofs.Ytnjgejjijboibaa.L
attribute [local go_sem] Instr.field part asAgg lt_step max2_int min2_int max_two min_two max_three min_three max_four min_four lt_0_1 lt_0_2 lt_1_2 lt_0_3 lt_1_3 lt_2_3 lt_0_4 lt_1_4 lt_2_4 lt_3_4 lt_0_5 lt_1_5 lt_2_5 lt_3_5 lt_4_5 lt_0_6 lt_1_6 lt_2_6 lt_3_6 lt_4_6 lt_5_6 lt_0_7 lt_1_7 lt_2_7 lt_3_7 lt_4_7 lt_5_7 lt_6_7 lt_0_8 lt_1_8 lt_2_8 lt_3_8 lt_4_8 lt_5_8 lt_6_8 lt_7_8
set_option linter.unusedVariables false
set_option linter.unusedSimpArgs false
theorem i39 : (Try.prog.info? 39).map (·.size) = some 4 := by kernel_rfl
theorem one39 (a b c d : Int) : (#[.int .i64 a, .int .i64 b, .int .i64 c, .int .i64 d] : Array Value).all (·.oneCell') = true := by simp [Value.oneCell']
theorem results_cct {P : Program} {fn : Func} {p q u : Tmp} {ty ty' : TypeId} (h : fn.results = #[.cell p ty, .cell q ty', .tmp u]) (tmps : Array Value) (w : World) (g g' : Nat) (t t' : TypeId) (cs cs' : Array Value) (fr fr' : Nat × Nat) (d d' : TypeDesc)
    (hp : tmps.getD p undef = .pointer (some ⟨g, 0, none⟩)) (hp' : tmps.getD q undef = .pointer (some ⟨g', 0, none⟩)) (hg : w.heap[g]? = some (.cells cs t fr)) (hg' : w.heap[g']? = some (.cells cs' t' fr'))
    (hu : P.underlying ty = some d) (hd : (match d with | .struct _ | .array _ _ => true | _ => false) = true) (hi : (P.info? ty).map (·.size) = some cs.size) (hu' : P.underlying ty' = some d') (hd' : (match d' with | .struct _ | .array _ _ => true | _ => false) = true) (hi' : (P.info? ty').map (·.size) = some cs'.size) :
    (results fn tmps).run P w = .ok (.tuple #[.agg cs, .agg cs', tmps.getD u undef]) w := by
  have h1 : tmps[p]?.getD undef = .pointer (some ⟨g, 0, none⟩) := by simpa using hp
  have h2 : tmps[q]?.getD undef = .pointer (some ⟨g', 0, none⟩) := by simpa using hp'
  simp [results, h, h1, h2, asAddr, run_loadVar_row w g t ty cs fr d hg hu hd hi, run_loadVar_row w g' t' ty' cs' fr' d' hg' hu' hd' hi']
def aggQ (q : S39) : Value := .agg #[.int .i64 q.f0, .int .i64 q.f1, .int .i64 q.f2, .int .i64 q.f3]
def BackPost (ok0 ok1 : Nat → Prop) (w : World) (fl : List S48) (ql : List S39) (q : S39) (b : Bool) (e : Ending) (w' : World) : Prop :=
  ∃ A c A' c', e = .returned (.tuple #[.agg #[.slice A fl.length c, .slice A' ql.length c'], aggQ q, .bool b]) ∧ fl.length ≤ c ∧ Kd.F k48 w' (fun j => ok0 j ∨ w.heap.size ≤ j) A fl.length fl ∧ ql.length ≤ c' ∧ Kd.F k39 w' (fun j => ok1 j ∨ w.heap.size ≤ j) A' ql.length ql ∧ Below w.heap.size w w'
theorem indexB_of (R : Int) (g1 g2 : Nat) (id now : Int) (A0 : Option Addr) (c0 : Nat) (l0 : List S39) (w : World) (hr0 : Kd.C k39 w A0 l0.length l0) (hb0 : w.heap[g1]? = some (.cells #[.int .i64 id] 3 (0, 0))) (hb1 : w.heap[g2]? = some (.cells #[.int .i64 now] 3 (0, 0))) (hR : idxP (fun x => (x.f0 == id && decide (x.f3 > now))) l0 0 = R) :
    Calls Try.prog 23 #[.slice A0 l0.length c0, .func (.func 24) #[] #[.pointer (some ⟨g1, 0, none⟩), .pointer (some ⟨g2, 0, none⟩)]] w fun e w' => e = .returned (.int .i64 R) ∧ Below w.heap.size w w' := by
  subst hR
  exact indexB_runs g1 g2 id now A0 c0 l0 w hr0 hb0 hb1
set_option maxHeartbeats 1600000 in
set_option maxRecDepth 100000 in
theorem back_may (A0 : Option Addr) (c0 : Nat) (fl : List S48) (A1 : Option Addr) (c1 : Nat) (ql : List S39) (now : Int) (w : World) (ok0 ok1 : Nat → Prop) (hr0 : Kd.F k48 w ok0 A0 fl.length fl) (hc0 : fl.length ≤ c0) (hr1 : Kd.F k39 w ok1 A1 ql.length ql) (hc1 : ql.length ≤ c1) (hwf : ∀ x ∈ fl, wfF x) (hwq : ∀ x ∈ ql, wfQ x) (id : Int) (hm : mayZ fl ql now = false) :
    Calls Try.prog 12 #[.agg #[.slice A0 fl.length c0, .slice A1 ql.length c1], .int .i64 now, .int .i64 id] w (BackPost ok0 ok1 w fl ql z39 false) := by
  have HB := Aside0.mk (Below.refl w.heap.size w)
  have HR := Aside0.mk (Kd.F_bound hr0)
  have HQ := Aside0.mk (Kd.F_bound hr1)
  have HC0 := Aside0.mk hc0
  have HC1 := Aside0.mk hc1
  have HWF := Aside0.mk hwf
  have HWQ := Aside0.mk hwq
  have HM := Aside0.mk hm
  have hu := Try.underlying27
  have hu9 := Try.underlying39
  clear hr0 hr1 hwf hwq hm hc0 hc1
  go_enter Try.func12, Try.ntmps12
  go_upto_region 1 with fail
  obtain ⟨wa, hwa, on0, o10, o20, or0, oq0, hb_, hz0⟩ := letter5 w (.cells #[.slice A0 fl.length c0, .slice A1 ql.length c1] 27 (0, 0)) (.cells #[.int .i64 now] 3 (0, 0)) (.cells #[.int .i64 id] 3 (0, 0)) (.cells #[.slice none 0 0, .slice none 0 0] 27 (0, 0)) (.cells #[.int .i64 0, .int .i64 0, .int .i64 0, .int .i64 0] 39 (0, 0))
  rw [hwa]
  clear hwa
  have on := Aside0.mk on0
  have o1 := Aside0.mk o10
  have o2 := Aside0.mk o20
  have orr := Aside0.mk or0
  have oq := Aside0.mk oq0
  have HR_ := Aside0.mk (Kd.F_below HR.out hb_)
  have HQ_ := Aside0.mk (Kd.F_below HQ.out hb_)
  have HB_ : Aside0 (Below w.heap.size w wa) := ⟨hb_⟩
  clear on0 o10 o20 or0 oq0 hb_ HB HR HQ
  have HB := HB_
  have HR := HR_
  have HQ := HQ_
  clear HB_ HR_ HQ_
  have hzwa := Nat.le_of_eq hz0.symm
  clear hz0
  obtain ⟨onc, onf, onl⟩ := cells_of on.out
  obtain ⟨o1c, o1f, o1l⟩ := cells_of o1.out
  obtain ⟨o2c, o2f, o2l⟩ := cells_of o2.out
  obtain ⟨oqc, oqf, oql⟩ := cells_of oq.out
  obtain ⟨orrc, orrf, orrl⟩ := cells_of orr.out
  go_wp2_with fail
  (go_at_call 14; (with_reducible refine (may_runs A0 c0 fl A1 c1 ql now _ _ _ (fG HR) (fG HQ) HWF.out HWQ.out false HM.out).mono ?_); rintro e_ w1 ⟨rfl, hb_⟩; have HB_ : Aside0 (Below w.heap.size w w1) := Aside0.mk (below_step (bG HB) hb_); have hzw1 := hb_.size; (try simp at hzw1); have on_ := Aside0.mk (box_below hb_ (eG on)); have o1_ := Aside0.mk (box_below hb_ (eG o1)); have o2_ := Aside0.mk (box_below hb_ (eG o2)); have orr_ := Aside0.mk (box_below hb_ (eG orr)); have oq_ := Aside0.mk (box_below hb_ (eG oq)); have HR_ := Aside0.mk (Kd.F_below (fG HR) hb_); clear HR; have HR := HR_; clear HR_; have HQ_ := Aside0.mk (Kd.F_below (fG HQ) hb_); clear HQ; have HQ := HQ_; clear HQ_; (try clear on onc onf onl); have on := on_; clear on_; obtain ⟨onc, onf, onl⟩ := cells_of on.out; (try clear o1 o1c o1f o1l); have o1 := o1_; clear o1_; obtain ⟨o1c, o1f, o1l⟩ := cells_of o1.out; (try clear o2 o2c o2f o2l); have o2 := o2_; clear o2_; obtain ⟨o2c, o2f, o2l⟩ := cells_of o2.out; (try clear orr orrc orrf orrl); have orr := orr_; clear orr_; obtain ⟨orrc, orrf, orrl⟩ := cells_of orr.out; (try clear oq oqc oqf oql); have oq := oq_; clear oq_; obtain ⟨oqc, oqf, oql⟩ := cells_of oq.out; clear HB hb_; have HB := HB_; clear HB_)
  go_wp2
  refine bodyPost_ret (v := .tuple #[.agg #[.slice A0 fl.length c0, .slice A1 ql.length c1], aggQ z39, .bool false]) (by simp [results, Try.results12, go_sem, orrc, orrf, oqc, oqf, aggQ, z39] <;> first | assumption | omega | (symm; assumption)) rfl ?_
  exact ⟨A0, c0, A1, c1, rfl, HC0.out, (Kd.F_mono (ok := fun k => ok0 k ∧ k < w.heap.size) (fG HR) (fun j hj => .inl hj.1)), HC1.out, (Kd.F_mono (ok := fun k => ok1 k ∧ k < w.heap.size) (fG HQ) (fun j hj => .inl hj.1)), (bG HB)⟩
set_option maxHeartbeats 1600000 in
set_option maxRecDepth 100000 in
theorem back_none (A0 : Option Addr) (c0 : Nat) (fl : List S48) (A1 : Option Addr) (c1 : Nat) (ql : List S39) (now : Int) (w : World) (ok0 ok1 : Nat → Prop) (hr0 : Kd.F k48 w ok0 A0 fl.length fl) (hc0 : fl.length ≤ c0) (hr1 : Kd.F k39 w ok1 A1 ql.length ql) (hc1 : ql.length ≤ c1) (hwf : ∀ x ∈ fl, wfF x) (hwq : ∀ x ∈ ql, wfQ x) (id : Int) (hm : mayZ fl ql now = true) (hi : idxP (fun x => (x.f0 == id && decide (x.f3 > now))) ql 0 = -1) :
    Calls Try.prog 12 #[.agg #[.slice A0 fl.length c0, .slice A1 ql.length c1], .int .i64 now, .int .i64 id] w (BackPost ok0 ok1 w fl ql z39 false) := by
  have HB := Aside0.mk (Below.refl w.heap.size w)
  have HR := Aside0.mk (Kd.F_bound hr0)
  have HQ := Aside0.mk (Kd.F_bound hr1)
  have HC0 := Aside0.mk hc0
  have HC1 := Aside0.mk hc1
  have HWF := Aside0.mk hwf
  have HWQ := Aside0.mk hwq
  have HM := Aside0.mk hm
  have HIX := Aside0.mk hi
  have hu := Try.underlying27
  have hu9 := Try.underlying39
  clear hr0 hr1 hwf hwq hm hc0 hc1 hi
  go_enter Try.func12, Try.ntmps12
  go_upto_region 1 with fail
  obtain ⟨wa, hwa, on0, o10, o20, or0, oq0, hb_, hz0⟩ := letter5 w (.cells #[.slice A0 fl.length c0, .slice A1 ql.length c1] 27 (0, 0)) (.cells #[.int .i64 now] 3 (0, 0)) (.cells #[.int .i64 id] 3 (0, 0)) (.cells #[.slice none 0 0, .slice none 0 0] 27 (0, 0)) (.cells #[.int .i64 0, .int .i64 0, .int .i64 0, .int .i64 0] 39 (0, 0))
  rw [hwa]
  clear hwa
  have on := Aside0.mk on0
  have o1 := Aside0.mk o10
  have o2 := Aside0.mk o20
  have orr := Aside0.mk or0
  have oq := Aside0.mk oq0
  have HR_ := Aside0.mk (Kd.F_below HR.out hb_)
  have HQ_ := Aside0.mk (Kd.F_below HQ.out hb_)
  have HB_ : Aside0 (Below w.heap.size w wa) := ⟨hb_⟩
  clear on0 o10 o20 or0 oq0 hb_ HB HR HQ
  have HB := HB_
  have HR := HR_
  have HQ := HQ_
  clear HB_ HR_ HQ_
  have hzwa := Nat.le_of_eq hz0.symm
  clear hz0
  obtain ⟨onc, onf, onl⟩ := cells_of on.out
  obtain ⟨o1c, o1f, o1l⟩ := cells_of o1.out
  obtain ⟨o2c, o2f, o2l⟩ := cells_of o2.out
  obtain ⟨oqc, oqf, oql⟩ := cells_of oq.out
  obtain ⟨orrc, orrf, orrl⟩ := cells_of orr.out
  go_wp2_with fail
  (go_at_call 14; (with_reducible refine (may_runs A0 c0 fl A1 c1 ql now _ _ _ (fG HR) (fG HQ) HWF.out HWQ.out true HM.out).mono ?_); rintro e_ w1 ⟨rfl, hb_⟩; have HB_ : Aside0 (Below w.heap.size w w1) := Aside0.mk (below_step (bG HB) hb_); have hzw1 := hb_.size; (try simp at hzw1); have on_ := Aside0.mk (box_below hb_ (eG on)); have o1_ := Aside0.mk (box_below hb_ (eG o1)); have o2_ := Aside0.mk (box_below hb_ (eG o2)); have orr_ := Aside0.mk (box_below hb_ (eG orr)); have oq_ := Aside0.mk (box_below hb_ (eG oq)); have HR_ := Aside0.mk (Kd.F_below (fG HR) hb_); clear HR; have HR := HR_; clear HR_; have HQ_ := Aside0.mk (Kd.F_below (fG HQ) hb_); clear HQ; have HQ := HQ_; clear HQ_; (try clear on onc onf onl); have on := on_; clear on_; obtain ⟨onc, onf, onl⟩ := cells_of on.out; (try clear o1 o1c o1f o1l); have o1 := o1_; clear o1_; obtain ⟨o1c, o1f, o1l⟩ := cells_of o1.out; (try clear o2 o2c o2f o2l); have o2 := o2_; clear o2_; obtain ⟨o2c, o2f, o2l⟩ := cells_of o2.out; (try clear orr orrc orrf orrl); have orr := orr_; clear orr_; obtain ⟨orrc, orrf, orrl⟩ := cells_of orr.out; (try clear oq oqc oqf oql); have oq := oq_; clear oq_; obtain ⟨oqc, oqf, oql⟩ := cells_of oq.out; clear HB hb_; have HB := HB_; clear HB_)
  go_wp2_with fail
  (go_at_call 23; (with_reducible refine (indexB_of (-1) _ _ id now A1 c1 ql _ (Kd.F_now (fG HQ)) (eG o2) (eG o1) HIX.out).mono ?_); rintro e_ w2 ⟨rfl, hb_⟩; have HB_ : Aside0 (Below w.heap.size w w2) := Aside0.mk (below_step (bG HB) hb_); have hzw2 := hb_.size; (try simp at hzw2); have on_ := Aside0.mk (box_below hb_ (eG on)); have o1_ := Aside0.mk (box_below hb_ (eG o1)); have o2_ := Aside0.mk (box_below hb_ (eG o2)); have orr_ := Aside0.mk (box_below hb_ (eG orr)); have oq_ := Aside0.mk (box_below hb_ (eG oq)); have HR_ := Aside0.mk (Kd.F_below (fG HR) hb_); clear HR; have HR := HR_; clear HR_; have HQ_ := Aside0.mk (Kd.F_below (fG HQ) hb_); clear HQ; have HQ := HQ_; clear HQ_; (try clear on onc onf onl); have on := on_; clear on_; obtain ⟨onc, onf, onl⟩ := cells_of on.out; (try clear o1 o1c o1f o1l); have o1 := o1_; clear o1_; obtain ⟨o1c, o1f, o1l⟩ := cells_of o1.out; (try clear o2 o2c o2f o2l); have o2 := o2_; clear o2_; obtain ⟨o2c, o2f, o2l⟩ := cells_of o2.out; (try clear orr orrc orrf orrl); have orr := orr_; clear orr_; obtain ⟨orrc, orrf, orrl⟩ := cells_of orr.out; (try clear oq oqc oqf oql); have oq := oq_; clear oq_; obtain ⟨oqc, oqf, oql⟩ := cells_of oq.out; clear HB hb_; have HB := HB_; clear HB_)
  go_wp2
  refine bodyPost_ret (v := .tuple #[.agg #[.slice A0 fl.length c0, .slice A1 ql.length c1], aggQ z39, .bool false]) (by simp [results, Try.results12, go_sem, orrc, orrf, oqc, oqf, aggQ, z39] <;> first | assumption | omega | (symm; assumption)) rfl ?_
  exact ⟨A0, c0, A1, c1, rfl, HC0.out, (Kd.F_mono (ok := fun k => ok0 k ∧ k < w.heap.size) (fG HR) (fun j hj => .inl hj.1)), HC1.out, (Kd.F_mono (ok := fun k => ok1 k ∧ k < w.heap.size) (fG HQ) (fun j hj => .inl hj.1)), (bG HB)⟩
set_option maxHeartbeats 1600000 in
set_option maxRecDepth 100000 in
theorem back_yes (A0 : Option Addr) (c0 : Nat) (fl : List S48) (A1 : Option Addr) (c1 : Nat) (ql : List S39) (now : Int) (w : World) (ok0 ok1 : Nat → Prop) (hr0 : Kd.F k48 w ok0 A0 fl.length fl) (hc0 : fl.length ≤ c0) (hr1 : Kd.F k39 w ok1 A1 ql.length ql) (hc1 : ql.length ≤ c1) (hwf : ∀ x ∈ fl, wfF x) (hwq : ∀ x ∈ ql, wfQ x) (id : Int) (hm : mayZ fl ql now = true) (hql : ql.length ≤ 1000) (i : Nat) (x : S39) (hi : idxP (fun x => (x.f0 == id && decide (x.f3 > now))) ql 0 = (i : Int)) (hlt : i < ql.length) (hx : ql.getD i z39 = x) :
    Calls Try.prog 12 #[.agg #[.slice A0 fl.length c0, .slice A1 ql.length c1], .int .i64 now, .int .i64 id] w (BackPost ok0 ok1 w fl (ql.take i ++ ql.drop (i + 1)) x true) := by
  have HB := Aside0.mk (Below.refl w.heap.size w)
  have HR := Aside0.mk (Kd.F_bound hr0)
  have HQ := Aside0.mk (Kd.F_bound hr1)
  have HC0 := Aside0.mk hc0
  have HC1 := Aside0.mk hc1
  have HWF := Aside0.mk hwf
  have HWQ := Aside0.mk hwq
  have HM := Aside0.mk hm
  have HIX := Aside0.mk hi
  have HLT := Aside0.mk hlt
  have HX := Aside0.mk hx
  have HCL : Aside0 (clone39.f ql = some ql) := ⟨by unfold clone39.f; rw [if_pos (by omega)]⟩
  have hu := Try.underlying27
  have hu9 := Try.underlying39
  clear hr0 hr1 hwf hwq hm hc0 hc1 hi hlt hx hql
  go_enter Try.func12, Try.ntmps12
  go_upto_region 1 with fail
  obtain ⟨wa, hwa, on0, o10, o20, or0, oq0, hb_, hz0⟩ := letter5 w (.cells #[.slice A0 fl.length c0, .slice A1 ql.length c1] 27 (0, 0)) (.cells #[.int .i64 now] 3 (0, 0)) (.cells #[.int .i64 id] 3 (0, 0)) (.cells #[.slice none 0 0, .slice none 0 0] 27 (0, 0)) (.cells #[.int .i64 0, .int .i64 0, .int .i64 0, .int .i64 0] 39 (0, 0))
  rw [hwa]
  clear hwa
  have on := Aside0.mk on0
  have o1 := Aside0.mk o10
  have o2 := Aside0.mk o20
  have orr := Aside0.mk or0
  have oq := Aside0.mk oq0
  have HR_ := Aside0.mk (Kd.F_below HR.out hb_)
  have HQ_ := Aside0.mk (Kd.F_below HQ.out hb_)
  have HB_ : Aside0 (Below w.heap.size w wa) := ⟨hb_⟩
  clear on0 o10 o20 or0 oq0 hb_ HB HR HQ
  have HB := HB_
  have HR := HR_
  have HQ := HQ_
  clear HB_ HR_ HQ_
  have hzwa := Nat.le_of_eq hz0.symm
  clear hz0
  obtain ⟨onc, onf, onl⟩ := cells_of on.out
  obtain ⟨o1c, o1f, o1l⟩ := cells_of o1.out
  obtain ⟨o2c, o2f, o2l⟩ := cells_of o2.out
  obtain ⟨oqc, oqf, oql⟩ := cells_of oq.out
  obtain ⟨orrc, orrf, orrl⟩ := cells_of orr.out
  go_wp2_with fail
  (go_at_call 14; (with_reducible refine (may_runs A0 c0 fl A1 c1 ql now _ _ _ (fG HR) (fG HQ) HWF.out HWQ.out true HM.out).mono ?_); rintro e_ w1 ⟨rfl, hb_⟩; have HB_ : Aside0 (Below w.heap.size w w1) := Aside0.mk (below_step (bG HB) hb_); have hzw1 := hb_.size; (try simp at hzw1); have on_ := Aside0.mk (box_below hb_ (eG on)); have o1_ := Aside0.mk (box_below hb_ (eG o1)); have o2_ := Aside0.mk (box_below hb_ (eG o2)); have orr_ := Aside0.mk (box_below hb_ (eG orr)); have oq_ := Aside0.mk (box_below hb_ (eG oq)); have HR_ := Aside0.mk (Kd.F_below (fG HR) hb_); clear HR; have HR := HR_; clear HR_; have HQ_ := Aside0.mk (Kd.F_below (fG HQ) hb_); clear HQ; have HQ := HQ_; clear HQ_; (try clear on onc onf onl); have on := on_; clear on_; obtain ⟨onc, onf, onl⟩ := cells_of on.out; (try clear o1 o1c o1f o1l); have o1 := o1_; clear o1_; obtain ⟨o1c, o1f, o1l⟩ := cells_of o1.out; (try clear o2 o2c o2f o2l); have o2 := o2_; clear o2_; obtain ⟨o2c, o2f, o2l⟩ := cells_of o2.out; (try clear orr orrc orrf orrl); have orr := orr_; clear orr_; obtain ⟨orrc, orrf, orrl⟩ := cells_of orr.out; (try clear oq oqc oqf oql); have oq := oq_; clear oq_; obtain ⟨oqc, oqf, oql⟩ := cells_of oq.out; clear HB hb_; have HB := HB_; clear HB_)
  go_wp2_with fail
  (go_at_call 23; (with_reducible refine (indexB_of (i : Int) _ _ id now A1 c1 ql _ (Kd.F_now (fG HQ)) (eG o2) (eG o1) HIX.out).mono ?_); rintro e_ w2 ⟨rfl, hb_⟩; have HB_ : Aside0 (Below w.heap.size w w2) := Aside0.mk (below_step (bG HB) hb_); have hzw2 := hb_.size; (try simp at hzw2); have on_ := Aside0.mk (box_below hb_ (eG on)); have o1_ := Aside0.mk (box_below hb_ (eG o1)); have o2_ := Aside0.mk (box_below hb_ (eG o2)); have orr_ := Aside0.mk (box_below hb_ (eG orr)); have oq_ := Aside0.mk (box_below hb_ (eG oq)); have HR_ := Aside0.mk (Kd.F_below (fG HR) hb_); clear HR; have HR := HR_; clear HR_; have HQ_ := Aside0.mk (Kd.F_below (fG HQ) hb_); clear HQ; have HQ := HQ_; clear HQ_; (try clear on onc onf onl); have on := on_; clear on_; obtain ⟨onc, onf, onl⟩ := cells_of on.out; (try clear o1 o1c o1f o1l); have o1 := o1_; clear o1_; obtain ⟨o1c, o1f, o1l⟩ := cells_of o1.out; (try clear o2 o2c o2f o2l); have o2 := o2_; clear o2_; obtain ⟨o2c, o2f, o2l⟩ := cells_of o2.out; (try clear orr orrc orrf orrl); have orr := orr_; clear orr_; obtain ⟨orrc, orrf, orrl⟩ := cells_of orr.out; (try clear oq oqc oqf oql); have oq := oq_; clear oq_; obtain ⟨oqc, oqf, oql⟩ := cells_of oq.out; clear HB hb_; have HB := HB_; clear HB_)
  have hlm := (Kd.F_now HQ.out).2.1
  obtain ⟨ad, rfl, hc0, hc1, hc2, hc3⟩ := at_T39 (Kd.F_now HQ.out) (i : Int) (by omega) (by have := HLT.out; omega)
  rw [Int.toNat_natCast] at hc0 hc1 hc2 hc3
  have hx' : rd_T39 ql (i : Int) = x := by unfold rd_T39; rw [Int.toNat_natCast]; exact HX.out
  rw [hx'] at hc0 hc1 hc2 hc3
  have hlt' : (i : Int) < (ql.length : Int) := by have := HLT.out; omega
  have hi0 : ¬ (i : Int) < 0 := by omega
  have hib : decide ((i : Int) < 0) = false := decide_eq_false hi0
  have hadd : wrap64 ((i : Int) + 1) = (i : Int) + 1 := by unfold wrap64; omega
  go_upto_region 7 with fail
  obtain ⟨w3, hw_, ox0, hb_, hz0⟩ := letter1 w2 (.cells #[.int .i64 x.f0, .int .i64 x.f1, .int .i64 x.f2, .int .i64 x.f3] 39 (0, 0))
  rw [hw_]
  clear hw_
  have hzw3 := Nat.le_of_eq hz0.symm
  clear hz0
  have on_ := Aside0.mk (box_below hb_ on.out)
  (try clear on onc onf onl)
  have on := on_
  clear on_
  obtain ⟨onc, onf, onl⟩ := cells_of on.out
  have o1_ := Aside0.mk (box_below hb_ o1.out)
  (try clear o1 o1c o1f o1l)
  have o1 := o1_
  clear o1_
  obtain ⟨o1c, o1f, o1l⟩ := cells_of o1.out
  have o2_ := Aside0.mk (box_below hb_ o2.out)
  (try clear o2 o2c o2f o2l)
  have o2 := o2_
  clear o2_
  obtain ⟨o2c, o2f, o2l⟩ := cells_of o2.out
  have orr_ := Aside0.mk (box_below hb_ orr.out)
  (try clear orr orrc orrf orrl)
  have orr := orr_
  clear orr_
  obtain ⟨orrc, orrf, orrl⟩ := cells_of orr.out
  have oq_ := Aside0.mk (box_below hb_ oq.out)
  (try clear oq oqc oqf oql)
  have oq := oq_
  clear oq_
  obtain ⟨oqc, oqf, oql⟩ := cells_of oq.out
  have HR_ := Aside0.mk (Kd.F_below HR.out hb_)
  clear HR
  have HR := HR_
  clear HR_
  have HQ_ := Aside0.mk (Kd.F_below HQ.out hb_)
  clear HQ
  have HQ := HQ_
  clear HQ_
  have ox := Aside0.mk ox0
  clear ox0
  obtain ⟨oxc, oxf, oxl⟩ := cells_of ox.out
  have HB_ : Aside0 (Below w.heap.size w w3) := Aside0.mk (below_step HB.out hb_)
  clear HB hb_
  have HB := HB_
  clear HB_
  go_wp2_with fail
  go_at_call 26
  with_reducible refine (clone39.calls (some ad) c1 ql ql _ (Kd.F_now (fG HQ)) HC1.out HCL.out).mono ?_
  rintro e_ w4 ⟨v, rfl, hRc, hb_⟩
  have HRc := Aside0.mk hRc
  have hRc2 := hRc
  have HB_ : Aside0 (Below w.heap.size w w4) := Aside0.mk (below_step (bG HB) hb_)
  have hzw4 := hb_.size
  have on_ := Aside0.mk (box_below hb_ on.out); (try clear on onc onf onl); have on := on_; clear on_; obtain ⟨onc, onf, onl⟩ := cells_of on.out; have o1_ := Aside0.mk (box_below hb_ o1.out); (try clear o1 o1c o1f o1l); have o1 := o1_; clear o1_; obtain ⟨o1c, o1f, o1l⟩ := cells_of o1.out; have o2_ := Aside0.mk (box_below hb_ o2.out); (try clear o2 o2c o2f o2l); have o2 := o2_; clear o2_; obtain ⟨o2c, o2f, o2l⟩ := cells_of o2.out; have orr_ := Aside0.mk (box_below hb_ orr.out); (try clear orr orrc orrf orrl); have orr := orr_; clear orr_; obtain ⟨orrc, orrf, orrl⟩ := cells_of orr.out; have oq_ := Aside0.mk (box_below hb_ oq.out); (try clear oq oqc oqf oql); have oq := oq_; clear oq_; obtain ⟨oqc, oqf, oql⟩ := cells_of oq.out; have ox_ := Aside0.mk (box_below hb_ ox.out); (try clear ox oxc oxf oxl); have ox := ox_; clear ox_; obtain ⟨oxc, oxf, oxl⟩ := cells_of ox.out; have HR_ := Aside0.mk (Kd.F_below HR.out hb_); clear HR HQ; have HR := HR_; clear HR_
  clear HB hb_ hRc
  have HB := HB_
  clear HB_
  rcases R_or39 hRc2 with ⟨_, hnil⟩ | ⟨g, cap, rfl, hbg, hcap⟩
  · have := HLT.out; rw [hnil] at this; simp at this
  clear hRc2
  go_wp2_with fail
  go_at_call 25
  with_reducible refine (delete_runs w3.heap.size g cap i _ ql _ HRc.out HLT.out).mono ?_
  rintro e_ w5 ⟨v, rfl, hRd, hb_⟩
  obtain ⟨A_n, c_n, ev, hcn, hFn⟩ := R_F39 hRd
  obtain ⟨Ln, hLn⟩ : ∃ L, (ql.take i ++ ql.drop (i + 1)).length = L := ⟨_, rfl⟩
  rw [hLn] at ev hcn hFn
  have HLN := Aside0.mk hLn
  subst ev
  have hsub : Below w4.heap.size w4 w5 ∨ True := .inr trivial
  have on_ := Aside0.mk (low_box hb_ (by omega) on.out); (try clear on onc onf onl); have on := on_; clear on_; obtain ⟨onc, onf, onl⟩ := cells_of on.out; have o1_ := Aside0.mk (low_box hb_ (by omega) o1.out); (try clear o1 o1c o1f o1l); have o1 := o1_; clear o1_; obtain ⟨o1c, o1f, o1l⟩ := cells_of o1.out; have o2_ := Aside0.mk (low_box hb_ (by omega) o2.out); (try clear o2 o2c o2f o2l); have o2 := o2_; clear o2_; obtain ⟨o2c, o2f, o2l⟩ := cells_of o2.out; have orr_ := Aside0.mk (low_box hb_ (by omega) orr.out); (try clear orr orrc orrf orrl); have orr := orr_; clear orr_; obtain ⟨orrc, orrf, orrl⟩ := cells_of orr.out; have oq_ := Aside0.mk (low_box hb_ (by omega) oq.out); (try clear oq oqc oqf oql); have oq := oq_; clear oq_; obtain ⟨oqc, oqf, oql⟩ := cells_of oq.out; have ox_ := Aside0.mk (low_box hb_ (by omega) ox.out); (try clear ox oxc oxf oxl); have ox := ox_; clear ox_; obtain ⟨oxc, oxf, oxl⟩ := cells_of ox.out; have HR_ := Aside0.mk (Kd.F_step HR.out (fun j hj _ => hb_.block j (by omega))); clear HR; have HR := HR_; clear HR_
  have HB_ : Aside0 (Below w.heap.size w w5) := Aside0.mk (HB.out.trans (Below.mono hb_ (by omega)))
  have q := Aside0.mk hFn
  have hzw5 := hb_.size
  clear HB hb_ hLn hRd hFn HRc hsub
  have HB := HB_
  clear HB_
  go_upto_region 8 with fail
  (have HR_ := Aside0.mk (Kd.F_far (p := ⟨w.heap.size, 1, none⟩) HR.out (fun j_ hj_ => by (try dsimp only at hj_); (try dsimp only); (try simp only [sz_alloc, sz_drew, sz_drewN, sz_set] at hj_); omega) (.slice A_n Ln c_n)); clear HR; have HR := HR_; clear HR_; have q_ := Aside0.mk (Kd.F_far (p := ⟨w.heap.size, 1, none⟩) q.out (fun j_ hj_ => by (try dsimp only at hj_); (try dsimp only); (try simp only [sz_alloc, sz_drew, sz_drewN, sz_set] at hj_); omega) (.slice A_n Ln c_n)); clear q; have q := q_; clear q_; have o1_ := Aside0.mk (blk_far (p := ⟨w.heap.size, 1, none⟩) o1.out (by show _ ≠ _; dsimp only; omega) (.slice A_n Ln c_n)); clear o1 o1c o1f o1l; have o1 := o1_; clear o1_; obtain ⟨o1c, o1f, o1l⟩ := cells_of o1.out; have o2_ := Aside0.mk (blk_far (p := ⟨w.heap.size, 1, none⟩) o2.out (by show _ ≠ _; dsimp only; omega) (.slice A_n Ln c_n)); clear o2 o2c o2f o2l; have o2 := o2_; clear o2_; obtain ⟨o2c, o2f, o2l⟩ := cells_of o2.out; have orr_ := Aside0.mk (blk_far (p := ⟨w.heap.size, 1, none⟩) orr.out (by show _ ≠ _; dsimp only; omega) (.slice A_n Ln c_n)); clear orr orrc orrf orrl; have orr := orr_; clear orr_; obtain ⟨orrc, orrf, orrl⟩ := cells_of orr.out; have oq_ := Aside0.mk (blk_far (p := ⟨w.heap.size, 1, none⟩) oq.out (by show _ ≠ _; dsimp only; omega) (.slice A_n Ln c_n)); clear oq oqc oqf oql; have oq := oq_; clear oq_; obtain ⟨oqc, oqf, oql⟩ := cells_of oq.out; have ox_ := Aside0.mk (blk_far (p := ⟨w.heap.size, 1, none⟩) ox.out (by show _ ≠ _; dsimp only; omega) (.slice A_n Ln c_n)); clear ox oxc oxf oxl; have ox := ox_; clear ox_; obtain ⟨oxc, oxf, oxl⟩ := cells_of ox.out; have on_ := Aside0.mk (blk_put on.out 1 (.slice A_n Ln c_n) (cs' := #[.slice A0 fl.length c0, .slice A_n Ln c_n]) rfl); clear on onc onf onl; have on := on_; clear on_; obtain ⟨onc, onf, onl⟩ := cells_of on.out)
  refine start_ (n := 5) (S := fun w' => w'.heap[w.heap.size]? = some (.cells #[.slice A0 fl.length c0, .slice A_n Ln c_n] 27 (0, 0)) ∧ w'.heap[w2.heap.size]? = some (.cells #[.int .i64 x.f0, .int .i64 x.f1, .int .i64 x.f2, .int .i64 x.f3] 39 (0, 0))) (ds := []) #[false, false, false, false, false] (by kernel_rfl) rfl rfl ⟨(eG on), (eG ox)⟩ (fun hHeld => ?_)
  refine rowL_ (i := 0) (N := some 38) #[true, false, false, false, false] rfl rfl (by kernel_rfl) 27 _ rfl (w.heap.size) (#[.slice A0 fl.length c0, .slice A_n Ln c_n]) (fun _ _ _ h => h) (by rfl) (by rfl) _ _ _ (fun _ h => h.1) Try.underlying27 rfl i27 hHeld (a' := ?_) ?_ ?_
  rotate_left
  · simp only [Act.put, List.setIfInBounds_toArray, List.set_cons_zero, List.set_cons_succ, i64_w, i32_w]
    rfl
  refine rowL_ (i := 1) (N := some 39) #[true, true, false, false, false] rfl rfl (by kernel_rfl) 39 _ rfl (w2.heap.size) (#[.int .i64 x.f0, .int .i64 x.f1, .int .i64 x.f2, .int .i64 x.f3]) (fun _ _ _ h => h) (by rfl) (by rfl) _ _ _ (fun _ h => h.2) Try.underlying39 rfl i39 hHeld (a' := ?_) ?_ ?_
  rotate_left
  · simp only [Act.put, List.setIfInBounds_toArray, List.set_cons_zero, List.set_cons_succ, i64_w, i32_w]
    rfl
  refine rowS_ (i := 2) #[true, true, true, false, false] rfl rfl (by kernel_rfl) (by decide) 27 _ _ rfl (w.heap.size + 1 + 1 + 1) (#[.slice A0 fl.length c0, .slice A_n Ln c_n]) (by rfl) (by rfl) (by rfl) (#[.slice none 0 0, .slice none 0 0]) 27 (eG orr) rfl i27 (one27 _ _ _ _ _ _) ?_
  (rintro w6 ⟨hx_, hk_, hb_, hzz_⟩; have HB_ : Aside0 (Below w.heap.size w w6) := Aside0.mk (Below.trans (bG HB) (Below.mono hb_ (by first | omega | (simp only [sz_alloc, sz_drew, sz_drewN]; omega)))); have hzw6 := hzz_; (try simp at hzw6); clear hzz_; have on_ := Aside0.mk (st_put on.out hk_ (fun h_ => (by repeat (with_reducible first | exact h_ | apply ext_drew | apply ext_drewN | apply ext_alloc | refine blk_far ?_ (by show _ ≠ _; dsimp only; omega) _))) (by omega)); clear on onc onf onl; have on := on_; clear on_; obtain ⟨onc, onf, onl⟩ := cells_of on.out; have oq_ := Aside0.mk (st_put oq.out hk_ (fun h_ => (by repeat (with_reducible first | exact h_ | apply ext_drew | apply ext_drewN | apply ext_alloc | refine blk_far ?_ (by show _ ≠ _; dsimp only; omega) _))) (by omega)); clear oq oqc oqf oql; have oq := oq_; clear oq_; obtain ⟨oqc, oqf, oql⟩ := cells_of oq.out; have ox_ := Aside0.mk (st_put ox.out hk_ (fun h_ => (by repeat (with_reducible first | exact h_ | apply ext_drew | apply ext_drewN | apply ext_alloc | refine blk_far ?_ (by show _ ≠ _; dsimp only; omega) _))) (by omega)); clear ox oxc oxf oxl; have ox := ox_; clear ox_; obtain ⟨oxc, oxf, oxl⟩ := cells_of ox.out; have HR_ := Aside0.mk (Kd.F_step (fG HR) (fun j_ hj_ hl_ => hk_ j_ (by (try dsimp only at hj_); (try simp only [sz_alloc, sz_drew, sz_drewN, sz_set] at hj_); omega))); clear HR; have HR := HR_; clear HR_; have q_ := Aside0.mk (Kd.F_step (fG q) (fun j_ hj_ hl_ => hk_ j_ (by (try dsimp only at hj_); (try simp only [sz_alloc, sz_drew, sz_drewN, sz_set] at hj_); omega))); clear q; have q := q_; clear q_; (try clear orr orrc orrf orrl); have orr := Aside0.mk hx_; obtain ⟨orrc, orrf, orrl⟩ := cells_of orr.out; clear HB hb_ hk_ hx_; have HB := HB_; clear HB_)
  refine ⟨⟨(eG on), (eG ox)⟩, ?_⟩
  refine rowS_ (i := 3) #[true, true, true, true, false] rfl rfl (by kernel_rfl) (by decide) 39 _ _ rfl (w.heap.size + 1 + 1 + 1 + 1) (#[.int .i64 x.f0, .int .i64 x.f1, .int .i64 x.f2, .int .i64 x.f3]) (by rfl) (by rfl) (by rfl) (#[.int .i64 0, .int .i64 0, .int .i64 0, .int .i64 0]) 39 (eG oq) rfl i39 (one39 _ _ _ _) ?_
  (rintro w7 ⟨hx_, hk_, hb_, hzz_⟩; have HB_ : Aside0 (Below w.heap.size w w7) := Aside0.mk (Below.trans (bG HB) (Below.mono hb_ (by first | omega | (simp only [sz_alloc, sz_drew, sz_drewN]; omega)))); have hzw7 := hzz_; (try simp at hzw7); clear hzz_; have on_ := Aside0.mk (st_put on.out hk_ (fun h_ => (by repeat (with_reducible first | exact h_ | apply ext_drew | apply ext_drewN | apply ext_alloc | refine blk_far ?_ (by show _ ≠ _; dsimp only; omega) _))) (by omega)); clear on onc onf onl; have on := on_; clear on_; obtain ⟨onc, onf, onl⟩ := cells_of on.out; have orr_ := Aside0.mk (st_put orr.out hk_ (fun h_ => (by repeat (with_reducible first | exact h_ | apply ext_drew | apply ext_drewN | apply ext_alloc | refine blk_far ?_ (by show _ ≠ _; dsimp only; omega) _))) (by omega)); clear orr orrc orrf orrl; have orr := orr_; clear orr_; obtain ⟨orrc, orrf, orrl⟩ := cells_of orr.out; have ox_ := Aside0.mk (st_put ox.out hk_ (fun h_ => (by repeat (with_reducible first | exact h_ | apply ext_drew | apply ext_drewN | apply ext_alloc | refine blk_far ?_ (by show _ ≠ _; dsimp only; omega) _))) (by omega)); clear ox oxc oxf oxl; have ox := ox_; clear ox_; obtain ⟨oxc, oxf, oxl⟩ := cells_of ox.out; have HR_ := Aside0.mk (Kd.F_step (fG HR) (fun j_ hj_ hl_ => hk_ j_ (by (try dsimp only at hj_); (try simp only [sz_alloc, sz_drew, sz_drewN, sz_set] at hj_); omega))); clear HR; have HR := HR_; clear HR_; have q_ := Aside0.mk (Kd.F_step (fG q) (fun j_ hj_ hl_ => hk_ j_ (by (try dsimp only at hj_); (try simp only [sz_alloc, sz_drew, sz_drewN, sz_set] at hj_); omega))); clear q; have q := q_; clear q_; (try clear oq oqc oqf oql); have oq := Aside0.mk hx_; obtain ⟨oqc, oqf, oql⟩ := cells_of oq.out; clear HB hb_ hk_ hx_; have HB := HB_; clear HB_)
  refine ⟨⟨(eG on), (eG ox)⟩, ?_⟩
  refine pure_ (i := 4) (N := some 8) (v := ?_) (a' := ?_) #[true, true, true, true, true] rfl rfl (by kernel_rfl) (fun _ _ _ h => h) (Or.inl ⟨by rfl, ?_⟩) ?_ ?_
  rotate_left
  · intro w'
    go_simp
    with_reducible rfl
  rotate_left
  · simp only [Act.put, List.setIfInBounds_toArray, List.set_cons_zero, List.set_cons_succ, i64_w, i32_w]
    rfl
  refine done_ (by kernel_rfl) ?_
  go_wp2
  refine bodyPost_ret (results_cct rfl _ _ (w.heap.size + 1 + 1 + 1) (w.heap.size + 1 + 1 + 1 + 1) 27 39 (#[.slice A0 fl.length c0, .slice A_n Ln c_n]) (#[.int .i64 x.f0, .int .i64 x.f1, .int .i64 x.f2, .int .i64 x.f3]) (0, 0) (0, 0) _ _ rfl rfl orr.out oq.out Try.underlying27 rfl i27 Try.underlying39 rfl i39) rfl ?_
  exact ⟨A0, c0, A_n, c_n, by rw [HLN.out]; rfl, HC0.out, (Kd.F_mono (ok := fun k => ok0 k ∧ k < w.heap.size) (fG HR) (fun j hj => .inl hj.1)), by rw [HLN.out]; exact hcn, by rw [HLN.out]; exact (Kd.F_mono (ok := fun j => w3.heap.size ≤ j) (fG q) (fun j hj => .inr (by omega))), (bG HB)⟩
end Go.Proofs.Ytnjgejjijboibaa.Q
end
section
/- nat.Open: a new way. -/
namespace Go.Proofs.Ytnjgejjijboibaa.Q
open Go.RowKit Go.Proofs.YtnjgejjijboibaaW.PrintWords Go.Proofs.YtnjgejjijboibaaW.PrintLast Go.Proofs.YtnjgejjijboibaaW.PrintMore Go.Proofs.Ytnjgejjijboibaa.L
attribute [local go_sem] Instr.field part asAgg lt_step max2_int min2_int max_two min_two max_three min_three max_four min_four lt_0_1 lt_0_2 lt_1_2 lt_0_3 lt_1_3 lt_2_3 lt_0_4 lt_1_4 lt_2_4 lt_3_4 lt_0_5 lt_1_5 lt_2_5 lt_3_5 lt_4_5 lt_0_6 lt_1_6 lt_2_6 lt_3_6 lt_4_6 lt_5_6 lt_0_7 lt_1_7 lt_2_7 lt_3_7 lt_4_7 lt_5_7 lt_6_7 lt_0_8 lt_1_8 lt_2_8 lt_3_8 lt_4_8 lt_5_8 lt_6_8 lt_7_8
set_option linter.unusedVariables false
set_option linter.unusedSimpArgs false
theorem appF48 {W : World} {base : Nat} {ok : Nat → Prop} {v : Value} {l : List S48} {vo : Option Nat} {n g : Nat} (h : Kd.R k48 48 W base ok v l) (hat : v.ownBlock = vo ∨ ∃ b, v.ownBlock = some b ∧ n ≤ b) (hvo : ∀ b, vo = some b → b = g) : ∃ A c, v = .slice A l.length c ∧ l.length ≤ c ∧ Kd.F k48 W (fun j => j = g ∨ n ≤ j) A l.length l := by
  rcases R_or48 h with ⟨rfl, rfl⟩ | ⟨g', cap, rfl, hb, hc⟩
  · exact ⟨none, 0, rfl, Nat.le_refl _, F_of_C48 (Kd.R_reads' h).2.2 (fun ad e _ => by cases e)⟩
  · refine ⟨some ⟨g', 0, none⟩, cap, rfl, hc, F_of_C48 (Kd.R_reads' h).2.2 (fun ad e _ => ?_)⟩
    injection e with e
    rw [← e]
    have ho : Value.ownBlock (.slice (some ⟨g', 0, none⟩) l.length cap) = some g' := rfl
    rcases hat with h1 | ⟨b, h1, h2⟩
    · exact .inl (hvo g' (by rw [← h1, ho]))
    · rw [ho] at h1; injection h1 with h1; exact .inr (by show n ≤ g'; omega)
set_option maxHeartbeats 1600000 in
set_option maxRecDepth 100000 in
theorem open_new (A0 : Option Addr) (c0 : Nat) (fl : List S48) (A1 : Option Addr) (c1 : Nat) (ql : List S39) (now : Int) (w : World) (ok0 ok1 : Nat → Prop) (hr0 : Kd.F k48 w ok0 A0 fl.length fl) (hc0 : fl.length ≤ c0) (hr1 : Kd.F k39 w ok1 A1 ql.length ql) (hc1 : ql.length ≤ c1) (hwf : ∀ x ∈ fl, wfF x) (hwq : ∀ x ∈ ql, wfQ x) (guest remote port : Int) (hl0 : fl.length ≤ 1000) (hl1 : ql.length ≤ 1000) (hm : mayZ fl ql now = true) (hd : (wordB guest && wordB port) = true) (hadd : wrap64 (now + 60) = now + 60) (hi : idxP (fun x => (x.f0 == guest && x.f2 == remote && x.f3 == port)) (fl.filter (fun x => decide (x.f4 > now))) 0 = -1) (h16 : (((fl.filter (fun x => decide (x.f4 > now))).length : Int) == 16) = false) (h16' : ¬ ((fl.filter (fun x => decide (x.f4 > now))).length : Int) = 16) (hwe : ∀ x ∈ (fl.filter (fun x => decide (x.f4 > now))), wf64 x.f1) (hle : (fl.filter (fun x => decide (x.f4 > now))).length ≤ 1000) :
    Calls Try.prog 7 #[.agg #[.slice A0 fl.length c0, .slice A1 ql.length c1], .int .i64 now, .int .i64 guest, .int .u32 remote, .int .i64 port] w (fun e w' => ∃ hh, leastP ((fl.filter (fun x => decide (x.f4 > now))).map fun x => x.f1) hh ∧ OpenPost ok0 ok1 w ((fl.filter (fun x : S48 => decide (x.f4 > now))) ++ [(⟨guest, hh, remote, port, now + 60⟩ : S48)]) (ql.filter (fun x => decide (x.f3 > now))) (hh) true e w') := by
  have HB := Aside0.mk (Below.refl w.heap.size w)
  have HR := Aside0.mk (Kd.F_bound hr0)
  have HQ := Aside0.mk (Kd.F_bound hr1)
  have HC0 := Aside0.mk hc0
  have HC1 := Aside0.mk hc1
  have HWF := Aside0.mk hwf
  have HWQ := Aside0.mk hwq
  have HM := Aside0.mk hm
  have HD := Aside0.mk hd
  have HL0 := Aside0.mk hl0
  have HL1 := Aside0.mk hl1
  have HIX := Aside0.mk hi
  have HWE := Aside0.mk hwe
  have HLE := Aside0.mk hle
  have hu := Try.underlying27
  clear hr0 hr1 hwf hwq hm hc0 hc1 hd
  clear hl0 hl1 hi hwe hle
  go_enter Try.func7, Try.ntmps7
  go_upto_region 1 with fail
  obtain ⟨wa, hwa, on0, o10, o20, o30, or0, hb_, hz0⟩ := letter5 w (.cells #[.slice A0 fl.length c0, .slice A1 ql.length c1] 27 (0, 0)) (.cells #[.int .i64 guest] 3 (0, 0)) (.cells #[.int .u32 remote] 22 (0, 0)) (.cells #[.int .i64 port] 3 (0, 0)) (.cells #[.slice none 0 0, .slice none 0 0] 27 (0, 0))
  rw [hwa]
  clear hwa
  have on := Aside0.mk on0
  have o1 := Aside0.mk o10
  have o2 := Aside0.mk o20
  have o3 := Aside0.mk o30
  have orr := Aside0.mk or0
  have HR_ := Aside0.mk (Kd.F_below HR.out hb_)
  have HQ_ := Aside0.mk (Kd.F_below HQ.out hb_)
  have HB_ : Aside0 (Below w.heap.size w wa) := ⟨hb_⟩
  clear on0 o10 o20 o30 or0 hb_ HB HR HQ
  have HB := HB_
  have HR := HR_
  have HQ := HQ_
  clear HB_ HR_ HQ_
  have hzwa := Nat.le_of_eq hz0.symm
  clear hz0
  obtain ⟨onc, onf, onl⟩ := cells_of on.out
  obtain ⟨o1c, o1f, o1l⟩ := cells_of o1.out
  obtain ⟨o2c, o2f, o2l⟩ := cells_of o2.out
  obtain ⟨o3c, o3f, o3l⟩ := cells_of o3.out
  obtain ⟨orrc, orrf, orrl⟩ := cells_of orr.out
  go_wp2_with fail
  (go_at_call 14; (with_reducible refine (may_runs A0 c0 fl A1 c1 ql now _ _ _ (fG HR) (fG HQ) HWF.out HWQ.out true HM.out).mono ?_); rintro e_ w1 ⟨rfl, hb_⟩; have HB_ : Aside0 (Below w.heap.size w w1) := Aside0.mk (below_step (bG HB) hb_); have hzw1 := hb_.size; (try simp at hzw1); have on_ := Aside0.mk (box_below hb_ (eG on)); have o1_ := Aside0.mk (box_below hb_ (eG o1)); have o2_ := Aside0.mk (box_below hb_ (eG o2)); have o3_ := Aside0.mk (box_below hb_ (eG o3)); have orr_ := Aside0.mk (box_below hb_ (eG orr)); have HR_ := Aside0.mk (Kd.F_below (fG HR) hb_); clear HR; have HR := HR_; clear HR_; have HQ_ := Aside0.mk (Kd.F_below (fG HQ) hb_); clear HQ; have HQ := HQ_; clear HQ_; (try clear on onc onf onl); have on := on_; clear on_; obtain ⟨onc, onf, onl⟩ := cells_of on.out; (try clear o1 o1c o1f o1l); have o1 := o1_; clear o1_; obtain ⟨o1c, o1f, o1l⟩ := cells_of o1.out; (try clear o2 o2c o2f o2l); have o2 := o2_; clear o2_; obtain ⟨o2c, o2f, o2l⟩ := cells_of o2.out; (try clear o3 o3c o3f o3l); have o3 := o3_; clear o3_; obtain ⟨o3c, o3f, o3l⟩ := cells_of o3.out; (try clear orr orrc orrf orrl); have orr := orr_; clear orr_; obtain ⟨orrc, orrf, orrl⟩ := cells_of orr.out; clear HB hb_; have HB := HB_; clear HB_)
  go_wp2_with fail
  (go_at_call 15; (with_reducible refine (word_runs _ guest port _ (nb_1 _ _) true HD.out).mono ?_); rintro e_ w2 ⟨rfl, hb_⟩; have HB_ : Aside0 (Below w.heap.size w w2) := Aside0.mk (below_step (bG HB) hb_); have hzw2 := hb_.size; (try simp at hzw2); have on_ := Aside0.mk (box_below hb_ (eG on)); have o1_ := Aside0.mk (box_below hb_ (eG o1)); have o2_ := Aside0.mk (box_below hb_ (eG o2)); have o3_ := Aside0.mk (box_below hb_ (eG o3)); have orr_ := Aside0.mk (box_below hb_ (eG orr)); have HR_ := Aside0.mk (Kd.F_below (fG HR) hb_); clear HR; have HR := HR_; clear HR_; have HQ_ := Aside0.mk (Kd.F_below (fG HQ) hb_); clear HQ; have HQ := HQ_; clear HQ_; (try clear on onc onf onl); have on := on_; clear on_; obtain ⟨onc, onf, onl⟩ := cells_of on.out; (try clear o1 o1c o1f o1l); have o1 := o1_; clear o1_; obtain ⟨o1c, o1f, o1l⟩ := cells_of o1.out; (try clear o2 o2c o2f o2l); have o2 := o2_; clear o2_; obtain ⟨o2c, o2f, o2l⟩ := cells_of o2.out; (try clear o3 o3c o3f o3l); have o3 := o3_; clear o3_; obtain ⟨o3c, o3f, o3l⟩ := cells_of o3.out; (try clear orr orrc orrf orrl); have orr := orr_; clear orr_; obtain ⟨orrc, orrf, orrl⟩ := cells_of orr.out; clear HB hb_; have HB := HB_; clear HB_)
  go_wp2_with fail
  (go_at_call 13; (with_reducible refine (exp_yes A0 c0 fl A1 c1 ql now _ _ _ (fG HR) HC0.out (fG HQ) HC1.out HWF.out HWQ.out HL0.out HL1.out HM.out).mono ?_); rintro e_ w3 ⟨g, cur, t, g2, cur2, t2, A_s, c_s, A_q, c_q, rfl, og, hq, og2, hq2, hne, hc_s, hr_s, hc_q, hr_q, hb_⟩; have HB_ : Aside0 (Below w.heap.size w w3) := Aside0.mk (below_step (bG HB) hb_); have hzw3 := hb_.size; (try simp at hzw3); have on_ := Aside0.mk (box_below hb_ (eG on)); have o1_ := Aside0.mk (box_below hb_ (eG o1)); have o2_ := Aside0.mk (box_below hb_ (eG o2)); have o3_ := Aside0.mk (box_below hb_ (eG o3)); have orr_ := Aside0.mk (box_below hb_ (eG orr)); (try clear on onc onf onl); have on := on_; clear on_; obtain ⟨onc, onf, onl⟩ := cells_of on.out; (try clear o1 o1c o1f o1l); have o1 := o1_; clear o1_; obtain ⟨o1c, o1f, o1l⟩ := cells_of o1.out; (try clear o2 o2c o2f o2l); have o2 := o2_; clear o2_; obtain ⟨o2c, o2f, o2l⟩ := cells_of o2.out; (try clear o3 o3c o3f o3l); have o3 := o3_; clear o3_; obtain ⟨o3c, o3f, o3l⟩ := cells_of o3.out; (try clear orr orrc orrf orrl); have orr := orr_; clear orr_; obtain ⟨orrc, orrf, orrl⟩ := cells_of orr.out; clear HB hb_; have HB := HB_; clear HB_; have sc := Aside0.mk hc_s; have s := Aside0.mk (Kd.F_bound hr_s); clear hc_s hr_s; have qc := Aside0.mk hc_q; have q := Aside0.mk (Kd.F_bound hr_q); clear hc_q hr_q; have og_ := Aside0.mk og; clear og; have og := og_; clear og_; have hq_ := Aside0.mk hq; clear hq; have hq := hq_; clear hq_; have og2_ := Aside0.mk og2; clear og2; have og2 := og2_; clear og2_; have hq2_ := Aside0.mk hq2; clear hq2; have hq2 := hq2_; clear hq2_; have hne_ := Aside0.mk hne; clear hne; have hne := hne_; clear hne_; skip)
  obtain ⟨ogc, ogf, ogl⟩ := cells_of og.out
  obtain ⟨og2c, og2f, og2l⟩ := cells_of og2.out
  have hg_lo : w2.heap.size ≤ g := hq.out.1
  have hg2_lo : w2.heap.size ≤ g2 := hq2.out.1
  have hg_hi : g < w3.heap.size := ogl
  have hg2_hi : g2 < w3.heap.size := og2l
  have hgne : g ≠ g2 := hne.out
  have s_ := Aside0.mk (F_of_C48 (ok := fun j => j = g) (Kd.F_now s.out) (fun ad e hp => by
    rcases hq.out.2 with ⟨h1, h2, _⟩ | ⟨h1, _⟩
    · rw [h1] at e; cases e
    · rw [h1] at e; injection e with e; rw [← e]))
  have q_ := Aside0.mk (F_of_C39 (ok := fun j => j = g2) (Kd.F_now q.out) (fun ad e hp => by
    rcases hq2.out.2 with ⟨h1, h2, _⟩ | ⟨h1, _⟩
    · rw [h1] at e; cases e
    · rw [h1] at e; injection e with e; rw [← e]))
  clear s q hne
  have s := s_
  have q := q_
  clear s_ q_
  go_upto_region 4 with fail
  obtain ⟨w4, hw_, om0, hb_, hz0⟩ := letter1 w3 (.cells #[.slice A_s (fl.filter (fun x => decide (x.f4 > now))).length c_s, .slice A_q (ql.filter (fun x => decide (x.f3 > now))).length c_q] 27 (0, 0))
  rw [hw_]
  clear hw_
  have hzw4 := Nat.le_of_eq hz0.symm
  clear hz0
  have on_ := Aside0.mk (box_below hb_ on.out)
  (try clear on onc onf onl)
  have on := on_
  clear on_
  obtain ⟨onc, onf, onl⟩ := cells_of on.out
  have o1_ := Aside0.mk (box_below hb_ o1.out)
  (try clear o1 o1c o1f o1l)
  have o1 := o1_
  clear o1_
  obtain ⟨o1c, o1f, o1l⟩ := cells_of o1.out
  have o2_ := Aside0.mk (box_below hb_ o2.out)
  (try clear o2 o2c o2f o2l)
  have o2 := o2_
  clear o2_
  obtain ⟨o2c, o2f, o2l⟩ := cells_of o2.out
  have o3_ := Aside0.mk (box_below hb_ o3.out)
  (try clear o3 o3c o3f o3l)
  have o3 := o3_
  clear o3_
  obtain ⟨o3c, o3f, o3l⟩ := cells_of o3.out
  have orr_ := Aside0.mk (box_below hb_ orr.out)
  (try clear orr orrc orrf orrl)
  have orr := orr_
  clear orr_
  obtain ⟨orrc, orrf, orrl⟩ := cells_of orr.out
  have og_ := Aside0.mk (box_below hb_ og.out)
  (try clear og ogc ogf ogl)
  have og := og_
  clear og_
  obtain ⟨ogc, ogf, ogl⟩ := cells_of og.out
  have og2_ := Aside0.mk (box_below hb_ og2.out)
  (try clear og2 og2c og2f og2l)
  have og2 := og2_
  clear og2_
  obtain ⟨og2c, og2f, og2l⟩ := cells_of og2.out
  have s_ := Aside0.mk (Kd.F_below s.out hb_)
  clear s
  have s := s_
  clear s_
  have q_ := Aside0.mk (Kd.F_below q.out hb_)
  clear q
  have q := q_
  clear q_
  have om := Aside0.mk om0
  clear om0
  obtain ⟨omc, omf, oml⟩ := cells_of om.out
  have HB_ : Aside0 (Below w.heap.size w w4) := Aside0.mk (below_step HB.out hb_)
  clear HB hb_
  have HB := HB_
  clear HB_
  go_wp2_with fail
  (go_at_call 16; (with_reducible refine (indexW_of (-1) _ _ _ guest remote port A_s c_s (fl.filter (fun x => decide (x.f4 > now))) _ (Kd.F_now (fG s)) (eG o1) (eG o2) (eG o3) HIX.out).mono ?_); rintro e_ w5 ⟨rfl, hb_⟩; have HB_ : Aside0 (Below w.heap.size w w5) := Aside0.mk (below_step (bG HB) hb_); have hzw5 := hb_.size; (try simp at hzw5); have on_ := Aside0.mk (box_below hb_ (eG on)); have o1_ := Aside0.mk (box_below hb_ (eG o1)); have o2_ := Aside0.mk (box_below hb_ (eG o2)); have o3_ := Aside0.mk (box_below hb_ (eG o3)); have orr_ := Aside0.mk (box_below hb_ (eG orr)); have og_ := Aside0.mk (box_below hb_ (eG og)); have og2_ := Aside0.mk (box_below hb_ (eG og2)); have om_ := Aside0.mk (box_below hb_ (eG om)); have s_ := Aside0.mk (Kd.F_below (fG s) hb_); clear s; have s := s_; clear s_; have q_ := Aside0.mk (Kd.F_below (fG q) hb_); clear q; have q := q_; clear q_; (try clear on onc onf onl); have on := on_; clear on_; obtain ⟨onc, onf, onl⟩ := cells_of on.out; (try clear o1 o1c o1f o1l); have o1 := o1_; clear o1_; obtain ⟨o1c, o1f, o1l⟩ := cells_of o1.out; (try clear o2 o2c o2f o2l); have o2 := o2_; clear o2_; obtain ⟨o2c, o2f, o2l⟩ := cells_of o2.out; (try clear o3 o3c o3f o3l); have o3 := o3_; clear o3_; obtain ⟨o3c, o3f, o3l⟩ := cells_of o3.out; (try clear orr orrc orrf orrl); have orr := orr_; clear orr_; obtain ⟨orrc, orrf, orrl⟩ := cells_of orr.out; (try clear og ogc ogf ogl); have og := og_; clear og_; obtain ⟨ogc, ogf, ogl⟩ := cells_of og.out; (try clear og2 og2c og2f og2l); have og2 := og2_; clear og2_; obtain ⟨og2c, og2f, og2l⟩ := cells_of og2.out; (try clear om omc omf oml); have om := om_; clear om_; obtain ⟨omc, omf, oml⟩ := cells_of om.out; clear HB hb_; have HB := HB_; clear HB_)
  go_wp2_with fail
  (go_at_call 18; (with_reducible refine (least48_runs A_s c_s (fl.filter (fun x => decide (x.f4 > now))) _ (Kd.F_now (fG s)) HLE.out HWE.out).mono ?_); rintro e_ w6 ⟨hh, rfl, hP, hb_⟩; have HB_ : Aside0 (Below w.heap.size w w6) := Aside0.mk (below_step (bG HB) hb_); have hzw6 := hb_.size; (try simp at hzw6); have on_ := Aside0.mk (box_below hb_ (eG on)); have o1_ := Aside0.mk (box_below hb_ (eG o1)); have o2_ := Aside0.mk (box_below hb_ (eG o2)); have o3_ := Aside0.mk (box_below hb_ (eG o3)); have orr_ := Aside0.mk (box_below hb_ (eG orr)); have og_ := Aside0.mk (box_below hb_ (eG og)); have og2_ := Aside0.mk (box_below hb_ (eG og2)); have om_ := Aside0.mk (box_below hb_ (eG om)); have s_ := Aside0.mk (Kd.F_below (fG s) hb_); clear s; have s := s_; clear s_; have q_ := Aside0.mk (Kd.F_below (fG q) hb_); clear q; have q := q_; clear q_; (try clear on onc onf onl); have on := on_; clear on_; obtain ⟨onc, onf, onl⟩ := cells_of on.out; (try clear o1 o1c o1f o1l); have o1 := o1_; clear o1_; obtain ⟨o1c, o1f, o1l⟩ := cells_of o1.out; (try clear o2 o2c o2f o2l); have o2 := o2_; clear o2_; obtain ⟨o2c, o2f, o2l⟩ := cells_of o2.out; (try clear o3 o3c o3f o3l); have o3 := o3_; clear o3_; obtain ⟨o3c, o3f, o3l⟩ := cells_of o3.out; (try clear orr orrc orrf orrl); have orr := orr_; clear orr_; obtain ⟨orrc, orrf, orrl⟩ := cells_of orr.out; (try clear og ogc ogf ogl); have og := og_; clear og_; obtain ⟨ogc, ogf, ogl⟩ := cells_of og.out; (try clear og2 og2c og2f og2l); have og2 := og2_; clear og2_; obtain ⟨og2c, og2f, og2l⟩ := cells_of og2.out; (try clear om omc omf oml); have om := om_; clear om_; obtain ⟨omc, omf, oml⟩ := cells_of om.out; clear HB hb_; have HB := HB_; clear HB_; have hP_ := Aside0.mk hP; clear hP; have hP := hP_; clear hP_; skip)
  have HRA : Aside0 (Kd.R k48 48 (w6.alloc (.cells #[.int .i64 guest, .int .i64 hh, .int .u32 remote, .int .i64 port, .int .i64 (now + 60)] 48 (0, 0))) (w.heap.size + 1 + 1 + 1 + 1 + 1) (fun _ => True) (.slice A_s (fl.filter (fun x => decide (x.f4 > now))).length c_s) (fl.filter (fun x => decide (x.f4 > now)))) := ⟨R_of_Blk48 (ext_alloc og.out _) hq.out sc.out _ (by omega)⟩
  have HVA : Aside0 (Kd.C k48 (w6.alloc (.cells #[.int .i64 guest, .int .i64 hh, .int .u32 remote, .int .i64 port, .int .i64 (now + 60)] 48 (0, 0))) (some ⟨w6.heap.size, 0, none⟩) 1 [(⟨guest, hh, remote, port, now + 60⟩ : S48)]) := ⟨(Kd.R_reads' (R_mk_48 (l := [(⟨guest, hh, remote, port, now + 60⟩ : S48)]) (base := 0) (cap := 1) (ok := fun _ => True) (nb_1 w6 (.cells #[.int .i64 guest, .int .i64 hh, .int .u32 remote, .int .i64 port, .int .i64 (now + 60)] 48 (0, 0))) (Nat.zero_le _) trivial (by simp) (by decide) rfl rfl)).2.2⟩
  go_upto_region 13 with (first | ((with_reducible refine gate_builtin (b := .append) (xs := #[.tmp 64, .tmp 71]) rfl ?_); at_builtin; refine Kd.R_append_rows k48 (w0 := w6.alloc (.cells #[.int .i64 guest, .int .i64 hh, .int .u32 remote, .int .i64 port, .int .i64 (now + 60)] 48 (0, 0))) (w.heap.size + 1 + 1 + 1 + 1 + 1) rfl (.tmp 64) (.tmp 71) 24 48 (.agg #[.int .i64 0, .int .i64 0, .int .u32 0, .int .i64 0, .int .i64 0]) 40 rfl Try.underlying24 info48 rfl (by decide) (by omega) _ (fl.filter (fun x => decide (x.f4 > now))) [(⟨guest, hh, remote, port, now + 60⟩ : S48)] _ _ _ (fun _ => True) (fun _ => False) rfl rfl HRA.out HVA.out (fun _ cs h => by rw [k48_open h]; exact k48_mkM _ _ _ _) (fun _ h => h.elim) (fun _ _ => trivial) (Below.refl _ _) (by simp; omega) (Nat.le_trans (Nat.mul_le_mul_right 40 (Nat.add_le_add_right HLE.out 1)) (by decide)) ?_; intro v' wq ho hb_ hg hat; have HO := Aside0.mk ho; have HG : Aside0 (World.grownBy (w6.alloc (.cells #[.int .i64 guest, .int .i64 hh, .int .u32 remote, .int .i64 port, .int .i64 (now + 60)] 48 (0, 0))) wq (Value.ownBlock (.slice A_s (fl.filter (fun x => decide (x.f4 > now))).length c_s))) := Aside0.mk hg; have HAT : Aside0 (v'.ownBlock = Value.ownBlock (.slice A_s (fl.filter (fun x => decide (x.f4 > now))).length c_s) ∨ ∃ b, v'.ownBlock = some b ∧ (w6.alloc (.cells #[.int .i64 guest, .int .i64 hh, .int .u32 remote, .int .i64 port, .int .i64 (now + 60)] 48 (0, 0))).heap.size ≤ b) := Aside0.mk hat; clear ho hb_ hg hat; have hgo : ∀ j, j < (w6.alloc (.cells #[.int .i64 guest, .int .i64 hh, .int .u32 remote, .int .i64 port, .int .i64 (now + 60)] 48 (0, 0))).heap.size → j ≠ g → wq.heap[j]? = (w6.alloc (.cells #[.int .i64 guest, .int .i64 hh, .int .u32 remote, .int .i64 port, .int .i64 (now + 60)] 48 (0, 0))).heap[j]? := fun j h1 h2 => HG.out.block j h1 (by rcases hq.out.2 with ⟨h3, _⟩ | ⟨h3, _⟩ <;> rw [h3] <;> simp [Value.ownBlock] <;> exact h2); have hsz6 : (w6.alloc (.cells #[.int .i64 guest, .int .i64 hh, .int .u32 remote, .int .i64 port, .int .i64 (now + 60)] 48 (0, 0))).heap.size = w6.heap.size + 1 := (by simp); have omq : wq.heap[w3.heap.size]? = some (.cells #[.slice A_s (fl.filter (fun x => decide (x.f4 > now))).length c_s, .slice A_q (ql.filter (fun x => decide (x.f3 > now))).length c_q] 27 (0, 0)) := (hgo _ (by rw [hsz6]; have := oml; omega) (by omega)).trans (ext_alloc om.out _); have orq : wq.heap[w.heap.size + 1 + 1 + 1 + 1]? = some (.cells #[.slice none 0 0, .slice none 0 0] 27 (0, 0)) := (hgo _ (by rw [hsz6]; have := orrl; omega) (by omega)).trans (ext_alloc orr.out _); have hbq : Below w.heap.size w wq := (below_alloc HB.out (.cells #[.int .i64 guest, .int .i64 hh, .int .u32 remote, .int .i64 port, .int .i64 (now + 60)] 48 (0, 0))).trans ⟨HG.out.os, HG.out.tape, HG.out.output, HG.out.size, fun j hj => hgo j (by rw [hsz6]; have := HB.out.size; omega) (by omega)⟩; have hqq : Kd.F k39 wq (fun j => j = g2) A_q (ql.filter (fun x => decide (x.f3 > now))).length (ql.filter (fun x => decide (x.f3 > now))) := Kd.F_step q.out (fun j hj hl_ => by (try dsimp only at hj); rw [hj, hgo g2 (by rw [hsz6]; have := og2l; omega) (by omega), ext_alloc og2.out _, og2.out]); obtain ⟨A_n, c_n, ev, hcn, hFn⟩ := appF48 HO.out HAT.out (g := g) (fun b hb_ => by rcases hq.out.2 with ⟨h3, _⟩ | ⟨h3, _⟩ <;> rw [h3] at hb_ <;> simp [Value.ownBlock] at hb_ <;> omega); obtain ⟨Ln, hLn⟩ : ∃ L, ((fl.filter (fun x : S48 => decide (x.f4 > now))) ++ [(⟨guest, hh, remote, port, now + 60⟩ : S48)]).length = L := ⟨_, rfl⟩; rw [hLn] at ev hcn hFn; have HLN := Aside0.mk hLn; clear hLn; subst ev; clear on onc onf onl o1 o1c o1f o1l o2 o2c o2f o2l o3 o3c o3f o3l orr orrc orrf orrl og ogc ogf ogl og2 og2c og2f og2l om omc omf oml s q HB HRA HVA HO HG HAT hgo; have om := Aside0.mk omq; have orr := Aside0.mk orq; have HB := Aside0.mk hbq; have q := Aside0.mk hqq; have s := Aside0.mk hFn; clear omq orq hbq hqq hFn; obtain ⟨omc, omf, oml⟩ := cells_of om.out; obtain ⟨orrc, orrf, orrl⟩ := cells_of orr.out))
  have hmr : ¬ w3.heap.size = w.heap.size + 1 + 1 + 1 + 1 := by omega
  (have orr_ := Aside0.mk (blk_far (p := ⟨w3.heap.size, 0, none⟩) orr.out (by show _ ≠ _; dsimp only; omega) (.slice A_n Ln c_n)); clear orr orrc orrf orrl; have orr := orr_; clear orr_; obtain ⟨orrc, orrf, orrl⟩ := cells_of orr.out; have om_ := Aside0.mk (blk_put om.out 0 (.slice A_n Ln c_n) (cs' := #[.slice A_n Ln c_n, .slice A_q (ql.filter (fun x => decide (x.f3 > now))).length c_q]) rfl); clear om omc omf oml; have om := om_; clear om_; obtain ⟨omc, omf, oml⟩ := cells_of om.out)
  go_wp2
  refine bodyPost_ret (v := .tuple #[.agg #[.slice A_n Ln c_n, .slice A_q (ql.filter (fun x => decide (x.f3 > now))).length c_q], .int .i64 hh, .bool true]) (by simp [results, Try.results7, go_sem, orrc, orrf] <;> first | assumption | omega | (symm; assumption)) rfl ?_
  exact ⟨hh, hP.out, A_n, c_n, A_q, c_q, by rw [HLN.out], by rw [HLN.out]; exact hcn, by rw [HLN.out]; exact (Kd.F_mono (ok := fun j => j = g ∨ (w6.alloc (.cells #[.int .i64 guest, .int .i64 hh, .int .u32 remote, .int .i64 port, .int .i64 (now + 60)] 48 (0, 0))).heap.size ≤ j) (fG s) (fun j hj => .inr (by simp only [sz_alloc] at hj; omega))), qc.out, (Kd.F_mono (ok := fun j => j = g2) (fG q) (fun j hj => .inr (by omega))), (bG HB)⟩
end Go.Proofs.Ytnjgejjijboibaa.Q
end
section
/- nat.Open: a way that was there. -/
namespace Go.Proofs.Ytnjgejjijboibaa.Q
open Go.RowKit Go.Proofs.YtnjgejjijboibaaW.PrintWords Go.Proofs.YtnjgejjijboibaaW.PrintLast Go.Proofs.YtnjgejjijboibaaW.PrintMore Go.Proofs.Ytnjgejjijboibaa.L
attribute [local go_sem] Instr.field part asAgg lt_step max2_int min2_int max_two min_two max_three min_three max_four min_four lt_0_1 lt_0_2 lt_1_2 lt_0_3 lt_1_3 lt_2_3 lt_0_4 lt_1_4 lt_2_4 lt_3_4 lt_0_5 lt_1_5 lt_2_5 lt_3_5 lt_4_5 lt_0_6 lt_1_6 lt_2_6 lt_3_6 lt_4_6 lt_5_6 lt_0_7 lt_1_7 lt_2_7 lt_3_7 lt_4_7 lt_5_7 lt_6_7 lt_0_8 lt_1_8 lt_2_8 lt_3_8 lt_4_8 lt_5_8 lt_6_8 lt_7_8
set_option linter.unusedVariables false
set_option linter.unusedSimpArgs false
theorem cellsL_set48 (u : Int) : ∀ (l : List S48) (i : Nat) (x : S48), i < l.length → l.getD i z48 = x → (cellsL_48 l).set (i * 5 + 4) (.int .i64 u) = cellsL_48 (l.set i ⟨x.f0, x.f1, x.f2, x.f3, u⟩)
  | [], i, x, h, _ => by simp at h
  | y :: l, 0, x, _, hx => by
    have : y = x := by simpa using hx
    subst this
    rfl
  | y :: l, i + 1, x, h, hx => by
    rw [cellsL_48, List.set_cons_succ, cellsL_48, ← cellsL_set48 u l i x (by simpa using h) (by simpa using hx), List.set_append_right _ _ (by show 5 ≤ _; omega), show (i + 1) * 5 + 4 - (cells1_48 y).length = i * 5 + 4 by show _ - 5 = _; omega]
theorem cur_set48 {cur : Array Value} {l : List S48} {i : Nat} {x : S48} (u : Int) (h : cur.toList.take (l.length * 5) = cellsL_48 l) (hi : i < l.length) (hx : l.getD i z48 = x) : (cur.setIfInBounds (i * 5 + 4) (.int .i64 u)).toList.take ((l.set i ⟨x.f0, x.f1, x.f2, x.f3, u⟩).length * 5) = cellsL_48 (l.set i ⟨x.f0, x.f1, x.f2, x.f3, u⟩) := by
  rw [List.length_set, Array.toList_setIfInBounds, List.take_set, h, cellsL_set48 u l i x hi hx]
set_option maxHeartbeats 1600000 in
set_option maxRecDepth 100000 in
theorem open_found (A0 : Option Addr) (c0 : Nat) (fl : List S48) (A1 : Option Addr) (c1 : Nat) (ql : List S39) (now : Int) (w : World) (ok0 ok1 : Nat → Prop) (hr0 : Kd.F k48 w ok0 A0 fl.length fl) (hc0 : fl.length ≤ c0) (hr1 : Kd.F k39 w ok1 A1 ql.length ql) (hc1 : ql.length ≤ c1) (hwf : ∀ x ∈ fl, wfF x) (hwq : ∀ x ∈ ql, wfQ x) (guest remote port : Int) (hl0 : fl.length ≤ 1000) (hl1 : ql.length ≤ 1000) (hm : mayZ fl ql now = true) (hd : (wordB guest && wordB port) = true) (hadd : wrap64 (now + 60) = now + 60) (i : Nat) (x : S48) (hi : idxP (fun x => (x.f0 == guest && x.f2 == remote && x.f3 == port)) (fl.filter (fun x => decide (x.f4 > now))) 0 = (i : Int)) (hlt : i < (fl.filter (fun x => decide (x.f4 > now))).length) (hx : (fl.filter (fun x => decide (x.f4 > now))).getD i z48 = x) :
    Calls Try.prog 7 #[.agg #[.slice A0 fl.length c0, .slice A1 ql.length c1], .int .i64 now, .int .i64 guest, .int .u32 remote, .int .i64 port] w (OpenPost ok0 ok1 w ((fl.filter (fun x : S48 => decide (x.f4 > now))).set i (⟨x.f0, x.f1, x.f2, x.f3, now + 60⟩ : S48)) (ql.filter (fun x => decide (x.f3 > now))) (x.f1) true) := by
  have HB := Aside0.mk (Below.refl w.heap.size w)
  have HR := Aside0.mk (Kd.F_bound hr0)
  have HQ := Aside0.mk (Kd.F_bound hr1)
  have HC0 := Aside0.mk hc0
  have HC1 := Aside0.mk hc1
  have HWF := Aside0.mk hwf
  have HWQ := Aside0.mk hwq
  have HM := Aside0.mk hm
  have HD := Aside0.mk hd
  have HL0 := Aside0.mk hl0
  have HL1 := Aside0.mk hl1
  have HIX := Aside0.mk hi
  have HLT := Aside0.mk hlt
  have HX := Aside0.mk hx
  have hu := Try.underlying27
  clear hr0 hr1 hwf hwq hm hc0 hc1 hd
  clear hl0 hl1 hi hlt hx
  go_enter Try.func7, Try.ntmps7
  go_upto_region 1 with fail
  obtain ⟨wa, hwa, on0, o10, o20, o30, or0, hb_, hz0⟩ := letter5 w (.cells #[.slice A0 fl.length c0, .slice A1 ql.length c1] 27 (0, 0)) (.cells #[.int .i64 guest] 3 (0, 0)) (.cells #[.int .u32 remote] 22 (0, 0)) (.cells #[.int .i64 port] 3 (0, 0)) (.cells #[.slice none 0 0, .slice none 0 0] 27 (0, 0))
  rw [hwa]
  clear hwa
  have on := Aside0.mk on0
  have o1 := Aside0.mk o10
  have o2 := Aside0.mk o20
  have o3 := Aside0.mk o30
  have orr := Aside0.mk or0
  have HR_ := Aside0.mk (Kd.F_below HR.out hb_)
  have HQ_ := Aside0.mk (Kd.F_below HQ.out hb_)
  have HB_ : Aside0 (Below w.heap.size w wa) := ⟨hb_⟩
  clear on0 o10 o20 o30 or0 hb_ HB HR HQ
  have HB := HB_
  have HR := HR_
  have HQ := HQ_
  clear HB_ HR_ HQ_
  have hzwa := Nat.le_of_eq hz0.symm
  clear hz0
  obtain ⟨onc, onf, onl⟩ := cells_of on.out
  obtain ⟨o1c, o1f, o1l⟩ := cells_of o1.out
  obtain ⟨o2c, o2f, o2l⟩ := cells_of o2.out
  obtain ⟨o3c, o3f, o3l⟩ := cells_of o3.out
  obtain ⟨orrc, orrf, orrl⟩ := cells_of orr.out
  go_wp2_with fail
  (go_at_call 14; (with_reducible refine (may_runs A0 c0 fl A1 c1 ql now _ _ _ (fG HR) (fG HQ) HWF.out HWQ.out true HM.out).mono ?_); rintro e_ w1 ⟨rfl, hb_⟩; have HB_ : Aside0 (Below w.heap.size w w1) := Aside0.mk (below_step (bG HB) hb_); have hzw1 := hb_.size; (try simp at hzw1); have on_ := Aside0.mk (box_below hb_ (eG on)); have o1_ := Aside0.mk (box_below hb_ (eG o1)); have o2_ := Aside0.mk (box_below hb_ (eG o2)); have o3_ := Aside0.mk (box_below hb_ (eG o3)); have orr_ := Aside0.mk (box_below hb_ (eG orr)); have HR_ := Aside0.mk (Kd.F_below (fG HR) hb_); clear HR; have HR := HR_; clear HR_; have HQ_ := Aside0.mk (Kd.F_below (fG HQ) hb_); clear HQ; have HQ := HQ_; clear HQ_; (try clear on onc onf onl); have on := on_; clear on_; obtain ⟨onc, onf, onl⟩ := cells_of on.out; (try clear o1 o1c o1f o1l); have o1 := o1_; clear o1_; obtain ⟨o1c, o1f, o1l⟩ := cells_of o1.out; (try clear o2 o2c o2f o2l); have o2 := o2_; clear o2_; obtain ⟨o2c, o2f, o2l⟩ := cells_of o2.out; (try clear o3 o3c o3f o3l); have o3 := o3_; clear o3_; obtain ⟨o3c, o3f, o3l⟩ := cells_of o3.out; (try clear orr orrc orrf orrl); have orr := orr_; clear orr_; obtain ⟨orrc, orrf, orrl⟩ := cells_of orr.out; clear HB hb_; have HB := HB_; clear HB_)
  go_wp2_with fail
  (go_at_call 15; (with_reducible refine (word_runs _ guest port _ (nb_1 _ _) true HD.out).mono ?_); rintro e_ w2 ⟨rfl, hb_⟩; have HB_ : Aside0 (Below w.heap.size w w2) := Aside0.mk (below_step (bG HB) hb_); have hzw2 := hb_.size; (try simp at hzw2); have on_ := Aside0.mk (box_below hb_ (eG on)); have o1_ := Aside0.mk (box_below hb_ (eG o1)); have o2_ := Aside0.mk (box_below hb_ (eG o2)); have o3_ := Aside0.mk (box_below hb_ (eG o3)); have orr_ := Aside0.mk (box_below hb_ (eG orr)); have HR_ := Aside0.mk (Kd.F_below (fG HR) hb_); clear HR; have HR := HR_; clear HR_; have HQ_ := Aside0.mk (Kd.F_below (fG HQ) hb_); clear HQ; have HQ := HQ_; clear HQ_; (try clear on onc onf onl); have on := on_; clear on_; obtain ⟨onc, onf, onl⟩ := cells_of on.out; (try clear o1 o1c o1f o1l); have o1 := o1_; clear o1_; obtain ⟨o1c, o1f, o1l⟩ := cells_of o1.out; (try clear o2 o2c o2f o2l); have o2 := o2_; clear o2_; obtain ⟨o2c, o2f, o2l⟩ := cells_of o2.out; (try clear o3 o3c o3f o3l); have o3 := o3_; clear o3_; obtain ⟨o3c, o3f, o3l⟩ := cells_of o3.out; (try clear orr orrc orrf orrl); have orr := orr_; clear orr_; obtain ⟨orrc, orrf, orrl⟩ := cells_of orr.out; clear HB hb_; have HB := HB_; clear HB_)
  go_wp2_with fail
  (go_at_call 13; (with_reducible refine (exp_yes A0 c0 fl A1 c1 ql now _ _ _ (fG HR) HC0.out (fG HQ) HC1.out HWF.out HWQ.out HL0.out HL1.out HM.out).mono ?_); rintro e_ w3 ⟨g, cur, t, g2, cur2, t2, A_s, c_s, A_q, c_q, rfl, og, hq, og2, hq2, hne, hc_s, hr_s, hc_q, hr_q, hb_⟩; have HB_ : Aside0 (Below w.heap.size w w3) := Aside0.mk (below_step (bG HB) hb_); have hzw3 := hb_.size; (try simp at hzw3); have on_ := Aside0.mk (box_below hb_ (eG on)); have o1_ := Aside0.mk (box_below hb_ (eG o1)); have o2_ := Aside0.mk (box_below hb_ (eG o2)); have o3_ := Aside0.mk (box_below hb_ (eG o3)); have orr_ := Aside0.mk (box_below hb_ (eG orr)); (try clear on onc onf onl); have on := on_; clear on_; obtain ⟨onc, onf, onl⟩ := cells_of on.out; (try clear o1 o1c o1f o1l); have o1 := o1_; clear o1_; obtain ⟨o1c, o1f, o1l⟩ := cells_of o1.out; (try clear o2 o2c o2f o2l); have o2 := o2_; clear o2_; obtain ⟨o2c, o2f, o2l⟩ := cells_of o2.out; (try clear o3 o3c o3f o3l); have o3 := o3_; clear o3_; obtain ⟨o3c, o3f, o3l⟩ := cells_of o3.out; (try clear orr orrc orrf orrl); have orr := orr_; clear orr_; obtain ⟨orrc, orrf, orrl⟩ := cells_of orr.out; clear HB hb_; have HB := HB_; clear HB_; have sc := Aside0.mk hc_s; have s := Aside0.mk (Kd.F_bound hr_s); clear hc_s hr_s; have qc := Aside0.mk hc_q; have q := Aside0.mk (Kd.F_bound hr_q); clear hc_q hr_q; have og_ := Aside0.mk og; clear og; have og := og_; clear og_; have hq_ := Aside0.mk hq; clear hq; have hq := hq_; clear hq_; have og2_ := Aside0.mk og2; clear og2; have og2 := og2_; clear og2_; have hq2_ := Aside0.mk hq2; clear hq2; have hq2 := hq2_; clear hq2_; have hne_ := Aside0.mk hne; clear hne; have hne := hne_; clear hne_; skip)
  obtain ⟨ogc, ogf, ogl⟩ := cells_of og.out
  obtain ⟨og2c, og2f, og2l⟩ := cells_of og2.out
  have hg_lo : w2.heap.size ≤ g := hq.out.1
  have hg2_lo : w2.heap.size ≤ g2 := hq2.out.1
  have hg_hi : g < w3.heap.size := ogl
  have hg2_hi : g2 < w3.heap.size := og2l
  have hgne : g ≠ g2 := hne.out
  have s_ := Aside0.mk (F_of_C48 (ok := fun j => j = g) (Kd.F_now s.out) (fun ad e hp => by
    rcases hq.out.2 with ⟨h1, h2, _⟩ | ⟨h1, _⟩
    · rw [h1] at e; cases e
    · rw [h1] at e; injection e with e; rw [← e]))
  have q_ := Aside0.mk (F_of_C39 (ok := fun j => j = g2) (Kd.F_now q.out) (fun ad e hp => by
    rcases hq2.out.2 with ⟨h1, h2, _⟩ | ⟨h1, _⟩
    · rw [h1] at e; cases e
    · rw [h1] at e; injection e with e; rw [← e]))
  clear s q hne
  have s := s_
  have q := q_
  clear s_ q_
  go_upto_region 4 with fail
  obtain ⟨w4, hw_, om0, hb_, hz0⟩ := letter1 w3 (.cells #[.slice A_s (fl.filter (fun x => decide (x.f4 > now))).length c_s, .slice A_q (ql.filter (fun x => decide (x.f3 > now))).length c_q] 27 (0, 0))
  rw [hw_]
  clear hw_
  have hzw4 := Nat.le_of_eq hz0.symm
  clear hz0
  have on_ := Aside0.mk (box_below hb_ on.out)
  (try clear on onc onf onl)
  have on := on_
  clear on_
  obtain ⟨onc, onf, onl⟩ := cells_of on.out
  have o1_ := Aside0.mk (box_below hb_ o1.out)
  (try clear o1 o1c o1f o1l)
  have o1 := o1_
  clear o1_
  obtain ⟨o1c, o1f, o1l⟩ := cells_of o1.out
  have o2_ := Aside0.mk (box_below hb_ o2.out)
  (try clear o2 o2c o2f o2l)
  have o2 := o2_
  clear o2_
  obtain ⟨o2c, o2f, o2l⟩ := cells_of o2.out
  have o3_ := Aside0.mk (box_below hb_ o3.out)
  (try clear o3 o3c o3f o3l)
  have o3 := o3_
  clear o3_
  obtain ⟨o3c, o3f, o3l⟩ := cells_of o3.out
  have orr_ := Aside0.mk (box_below hb_ orr.out)
  (try clear orr orrc orrf orrl)
  have orr := orr_
  clear orr_
  obtain ⟨orrc, orrf, orrl⟩ := cells_of orr.out
  have og_ := Aside0.mk (box_below hb_ og.out)
  (try clear og ogc ogf ogl)
  have og := og_
  clear og_
  obtain ⟨ogc, ogf, ogl⟩ := cells_of og.out
  have og2_ := Aside0.mk (box_below hb_ og2.out)
  (try clear og2 og2c og2f og2l)
  have og2 := og2_
  clear og2_
  obtain ⟨og2c, og2f, og2l⟩ := cells_of og2.out
  have s_ := Aside0.mk (Kd.F_below s.out hb_)
  clear s
  have s := s_
  clear s_
  have q_ := Aside0.mk (Kd.F_below q.out hb_)
  clear q
  have q := q_
  clear q_
  have om := Aside0.mk om0
  clear om0
  obtain ⟨omc, omf, oml⟩ := cells_of om.out
  have HB_ : Aside0 (Below w.heap.size w w4) := Aside0.mk (below_step HB.out hb_)
  clear HB hb_
  have HB := HB_
  clear HB_
  go_wp2_with fail
  (go_at_call 16; (with_reducible refine (indexW_of (i : Int) _ _ _ guest remote port A_s c_s (fl.filter (fun x => decide (x.f4 > now))) _ (Kd.F_now (fG s)) (eG o1) (eG o2) (eG o3) HIX.out).mono ?_); rintro e_ w5 ⟨rfl, hb_⟩; have HB_ : Aside0 (Below w.heap.size w w5) := Aside0.mk (below_step (bG HB) hb_); have hzw5 := hb_.size; (try simp at hzw5); have on_ := Aside0.mk (box_below hb_ (eG on)); have o1_ := Aside0.mk (box_below hb_ (eG o1)); have o2_ := Aside0.mk (box_below hb_ (eG o2)); have o3_ := Aside0.mk (box_below hb_ (eG o3)); have orr_ := Aside0.mk (box_below hb_ (eG orr)); have og_ := Aside0.mk (box_below hb_ (eG og)); have og2_ := Aside0.mk (box_below hb_ (eG og2)); have om_ := Aside0.mk (box_below hb_ (eG om)); have s_ := Aside0.mk (Kd.F_below (fG s) hb_); clear s; have s := s_; clear s_; have q_ := Aside0.mk (Kd.F_below (fG q) hb_); clear q; have q := q_; clear q_; (try clear on onc onf onl); have on := on_; clear on_; obtain ⟨onc, onf, onl⟩ := cells_of on.out; (try clear o1 o1c o1f o1l); have o1 := o1_; clear o1_; obtain ⟨o1c, o1f, o1l⟩ := cells_of o1.out; (try clear o2 o2c o2f o2l); have o2 := o2_; clear o2_; obtain ⟨o2c, o2f, o2l⟩ := cells_of o2.out; (try clear o3 o3c o3f o3l); have o3 := o3_; clear o3_; obtain ⟨o3c, o3f, o3l⟩ := cells_of o3.out; (try clear orr orrc orrf orrl); have orr := orr_; clear orr_; obtain ⟨orrc, orrf, orrl⟩ := cells_of orr.out; (try clear og ogc ogf ogl); have og := og_; clear og_; obtain ⟨ogc, ogf, ogl⟩ := cells_of og.out; (try clear og2 og2c og2f og2l); have og2 := og2_; clear og2_; obtain ⟨og2c, og2f, og2l⟩ := cells_of og2.out; (try clear om omc omf oml); have om := om_; clear om_; obtain ⟨omc, omf, oml⟩ := cells_of om.out; clear HB hb_; have HB := HB_; clear HB_)
  obtain ⟨rfl, rfl, hsz, hcm, htk⟩ : A_s = some ⟨g, 0, none⟩ ∧ t = 48 ∧ cur.size = c_s * 5 ∧ c_s ≤ maxLen ∧ cur.toList.take ((fl.filter (fun x : S48 => decide (x.f4 > now))).length * 5) = cellsL_48 (fl.filter (fun x : S48 => decide (x.f4 > now))) := by
    rcases hq.out.2 with ⟨_, h2, _⟩ | h
    · have := HLT.out; rw [h2] at this; simp at this
    · exact h
  have hcl : ∀ f v, f < 5 → (cells1_48 x)[f]? = some v → cur[i * 5 + f]? = some v := fun f v hf hv => by
    have h1 := cells_at_48 (fl.filter (fun x : S48 => decide (x.f4 > now))) i f HLT.out hf
    rw [HX.out, hv, ← htk, List.getElem?_take_of_lt (by have := HLT.out; omega), Array.getElem?_toList] at h1
    exact h1
  have hy4 : cur[i * 5 + 4]? = some (.int .i64 x.f4) := hcl 4 _ (by decide) rfl
  have hf4 : w5.frozen? ⟨g, i * 5 + 4, none⟩ = false := ogf _
  have hcur1 : (cur.setIfInBounds (i * 5 + 4) (.int .i64 (now + 60)))[i * 5 + 1]? = some (.int .i64 x.f1) := by
    rw [Array.getElem?_setIfInBounds_ne (by omega)]; exact hcl 1 _ (by decide) rfl
  have HCU1 := Aside0.mk hcur1
  have HRM : Aside0 (((fl.filter (fun x : S48 => decide (x.f4 > now))).set i (⟨x.f0, x.f1, x.f2, x.f3, now + 60⟩ : S48)).length ≤ c_s ∧ (cur.setIfInBounds (i * 5 + 4) (.int .i64 (now + 60))).size = c_s * 5 ∧ (cur.setIfInBounds (i * 5 + 4) (.int .i64 (now + 60))).toList.take (((fl.filter (fun x : S48 => decide (x.f4 > now))).set i (⟨x.f0, x.f1, x.f2, x.f3, now + 60⟩ : S48)).length * 5) = cellsL_48 ((fl.filter (fun x : S48 => decide (x.f4 > now))).set i (⟨x.f0, x.f1, x.f2, x.f3, now + 60⟩ : S48))) := ⟨by rw [List.length_set]; exact sc.out, by rw [Array.size_setIfInBounds]; exact hsz, cur_set48 (now + 60) htk HLT.out HX.out⟩
  have hlt' : (i : Int) < ((fl.filter (fun x : S48 => decide (x.f4 > now))).length : Int) := by have := HLT.out; omega
  have hi0 : (0 : Int) ≤ (i : Int) := by omega
  have hib : decide ((i : Int) ≥ 0) = true := decide_eq_true hi0
  clear hcl hcur1 htk
  go_upto_region 8 with fail
  (have q_ := Aside0.mk (Kd.F_far (p := ⟨g, (i * 5 + 4), none⟩) q.out (fun j_ hj_ => by (try dsimp only at hj_); (try dsimp only); (try simp only [sz_alloc, sz_drew, sz_drewN, sz_set] at hj_); omega) (.int .i64 (now + 60))); clear q; have q := q_; clear q_; have on_ := Aside0.mk (blk_far (p := ⟨g, (i * 5 + 4), none⟩) on.out (by show _ ≠ _; dsimp only; omega) (.int .i64 (now + 60))); clear on onc onf onl; have on := on_; clear on_; obtain ⟨onc, onf, onl⟩ := cells_of on.out; have o1_ := Aside0.mk (blk_far (p := ⟨g, (i * 5 + 4), none⟩) o1.out (by show _ ≠ _; dsimp only; omega) (.int .i64 (now + 60))); clear o1 o1c o1f o1l; have o1 := o1_; clear o1_; obtain ⟨o1c, o1f, o1l⟩ := cells_of o1.out; have o2_ := Aside0.mk (blk_far (p := ⟨g, (i * 5 + 4), none⟩) o2.out (by show _ ≠ _; dsimp only; omega) (.int .i64 (now + 60))); clear o2 o2c o2f o2l; have o2 := o2_; clear o2_; obtain ⟨o2c, o2f, o2l⟩ := cells_of o2.out; have o3_ := Aside0.mk (blk_far (p := ⟨g, (i * 5 + 4), none⟩) o3.out (by show _ ≠ _; dsimp only; omega) (.int .i64 (now + 60))); clear o3 o3c o3f o3l; have o3 := o3_; clear o3_; obtain ⟨o3c, o3f, o3l⟩ := cells_of o3.out; have orr_ := Aside0.mk (blk_far (p := ⟨g, (i * 5 + 4), none⟩) orr.out (by show _ ≠ _; dsimp only; omega) (.int .i64 (now + 60))); clear orr orrc orrf orrl; have orr := orr_; clear orr_; obtain ⟨orrc, orrf, orrl⟩ := cells_of orr.out; have om_ := Aside0.mk (blk_far (p := ⟨g, (i * 5 + 4), none⟩) om.out (by show _ ≠ _; dsimp only; omega) (.int .i64 (now + 60))); clear om omc omf oml; have om := om_; clear om_; obtain ⟨omc, omf, oml⟩ := cells_of om.out; have og2_ := Aside0.mk (blk_far (p := ⟨g, (i * 5 + 4), none⟩) og2.out (by show _ ≠ _; dsimp only; omega) (.int .i64 (now + 60))); clear og2 og2c og2f og2l; have og2 := og2_; clear og2_; obtain ⟨og2c, og2f, og2l⟩ := cells_of og2.out; have og_ := Aside0.mk (blk_put og.out (i * 5 + 4) (.int .i64 (now + 60)) (cs' := (cur.setIfInBounds (i * 5 + 4) (.int .i64 (now + 60)))) rfl); clear og ogc ogf ogl; have og := og_; clear og_; obtain ⟨ogc, ogf, ogl⟩ := cells_of og.out)
  clear hy4 hf4 s
  refine start_ (n := 10) (S := fun w' => w'.heap[w3.heap.size]? = some (.cells #[.slice (some ⟨g, 0, none⟩) (fl.filter (fun x => decide (x.f4 > now))).length c_s, .slice A_q (ql.filter (fun x => decide (x.f3 > now))).length c_q] 27 (0, 0)) ∧ w'.cell? ⟨g, i * 5 + 1, none⟩ = some (.int .i64 x.f1)) (ds := []) #[false, false, false, false, false, false, false, false, false, false] (by kernel_rfl) rfl rfl ⟨(eG om), ((cells_of (eG og)).1 _).trans HCU1.out⟩ (fun hHeld => ?_)
  refine rowL_ (i := 0) (N := some 47) #[true, false, false, false, false, false, false, false, false, false] rfl rfl (by kernel_rfl) 27 _ rfl (w3.heap.size) (#[.slice (some ⟨g, 0, none⟩) (fl.filter (fun x => decide (x.f4 > now))).length c_s, .slice A_q (ql.filter (fun x => decide (x.f3 > now))).length c_q]) (fun _ _ _ h => h) (by rfl) (by rfl) _ _ _ (fun _ h => h.1) Try.underlying27 rfl i27 hHeld (a' := ?_) ?_ ?_
  rotate_left
  · simp only [Act.put, List.setIfInBounds_toArray, List.set_cons_zero, List.set_cons_succ, i64_w, i32_w]
    rfl
  refine pure_ (i := 1) (N := some 48) (v := ?_) (a' := ?_) #[true, true, false, false, false, false, false, false, false, false] rfl rfl (by kernel_rfl) (fun _ _ _ h => h) (Or.inl ⟨by rfl, ?_⟩) ?_ ?_
  rotate_left
  · intro w'
    go_simp
    with_reducible rfl
  rotate_left
  · simp only [Act.put, List.setIfInBounds_toArray, List.set_cons_zero, List.set_cons_succ, i64_w, i32_w]
    rfl
  refine take_ (i := 2) (N := some 49) (v := ?_) (a' := ?_) #[true, true, true, false, false, false, false, false, false, false] rfl rfl (by kernel_rfl) (fun _ _ _ h => h) (Or.inl ⟨by rfl, ?_⟩) hHeld ?_ ?_
  rotate_left
  · rintro w' ⟨h_, _⟩
    replace h_ : w'.cell? ⟨w3.heap.size, 0, none⟩ = some (.slice (some ⟨g, 0, none⟩) (fl.filter (fun x => decide (x.f4 > now))).length c_s) := ((cells_of h_).1 0).trans rfl
    go_simp
    with_reducible rfl
  rotate_left
  · simp only [Act.put, List.setIfInBounds_toArray, List.set_cons_zero, List.set_cons_succ, i64_w, i32_w]
    rfl
  refine pure_ (i := 3) (N := some 50) (v := ?_) (a' := ?_) #[true, true, true, true, false, false, false, false, false, false] rfl rfl (by kernel_rfl) (fun _ _ _ h => h) (Or.inl ⟨by rfl, ?_⟩) ?_ ?_
  rotate_left
  · intro w'
    go_simp
    with_reducible rfl
  rotate_left
  · simp only [Act.put, List.setIfInBounds_toArray, List.set_cons_zero, List.set_cons_succ, i64_w, i32_w]
    rfl
  refine pure_ (i := 4) (N := some 51) (v := ?_) (a' := ?_) #[true, true, true, true, true, false, false, false, false, false] rfl rfl (by kernel_rfl) (fun _ _ _ h => h) (Or.inl ⟨by rfl, ?_⟩) ?_ ?_
  rotate_left
  · intro w'
    go_simp
    with_reducible rfl
  rotate_left
  · simp only [Act.put, List.setIfInBounds_toArray, List.set_cons_zero, List.set_cons_succ, i64_w, i32_w]
    rfl
  refine pure_ (i := 5) (N := some 52) (v := ?_) (a' := ?_) #[true, true, true, true, true, true, false, false, false, false] rfl rfl (by kernel_rfl) (fun _ _ _ h => h) (Or.inl ⟨by rfl, ?_⟩) ?_ ?_
  rotate_left
  · intro w'
    go_simp
    with_reducible rfl
  rotate_left
  · simp only [Act.put, List.setIfInBounds_toArray, List.set_cons_zero, List.set_cons_succ, i64_w, i32_w]
    rfl
  refine take_ (i := 6) (N := some 53) (v := ?_) (a' := ?_) #[true, true, true, true, true, true, true, false, false, false] rfl rfl (by kernel_rfl) (fun _ _ _ h => h) (Or.inl ⟨by rfl, ?_⟩) hHeld ?_ ?_
  rotate_left
  · rintro w' ⟨_, h_⟩
    go_simp
    with_reducible rfl
  rotate_left
  · simp only [Act.put, List.setIfInBounds_toArray, List.set_cons_zero, List.set_cons_succ, i64_w, i32_w]
    rfl
  refine rowS_ (i := 7) #[true, true, true, true, true, true, true, true, false, false] rfl rfl (by kernel_rfl) (by decide) 27 _ _ rfl (w.heap.size + 1 + 1 + 1 + 1) (#[.slice (some ⟨g, 0, none⟩) (fl.filter (fun x => decide (x.f4 > now))).length c_s, .slice A_q (ql.filter (fun x => decide (x.f3 > now))).length c_q]) (by rfl) (by rfl) (by rfl) (#[.slice none 0 0, .slice none 0 0]) 27 (eG orr) rfl i27 (one27 _ _ _ _ _ _) ?_
  (rintro w6 ⟨hx_, hk_, hb_, hzz_⟩; have HB_ : Aside0 (Below w.heap.size w w6) := Aside0.mk (Below.trans (bG HB) (Below.mono hb_ (by first | omega | (simp only [sz_alloc, sz_drew, sz_drewN]; omega)))); have hzw6 := hzz_; (try simp at hzw6); clear hzz_; have og_ := Aside0.mk (st_put og.out hk_ (fun h_ => (by repeat (with_reducible first | exact h_ | apply ext_drew | apply ext_drewN | apply ext_alloc | refine blk_far ?_ (by show _ ≠ _; dsimp only; omega) _))) (by omega)); clear og ogc ogf ogl; have og := og_; clear og_; obtain ⟨ogc, ogf, ogl⟩ := cells_of og.out; have om_ := Aside0.mk (st_put om.out hk_ (fun h_ => (by repeat (with_reducible first | exact h_ | apply ext_drew | apply ext_drewN | apply ext_alloc | refine blk_far ?_ (by show _ ≠ _; dsimp only; omega) _))) (by omega)); clear om omc omf oml; have om := om_; clear om_; obtain ⟨omc, omf, oml⟩ := cells_of om.out; have q_ := Aside0.mk (Kd.F_step (fG q) (fun j_ hj_ hl_ => hk_ j_ (by (try dsimp only at hj_); (try simp only [sz_alloc, sz_drew, sz_drewN, sz_set] at hj_); omega))); clear q; have q := q_; clear q_; (try clear orr orrc orrf orrl); have orr := Aside0.mk hx_; obtain ⟨orrc, orrf, orrl⟩ := cells_of orr.out; clear HB hb_ hk_ hx_; have HB := HB_; clear HB_)
  refine ⟨⟨(eG om), ((cells_of (eG og)).1 _).trans HCU1.out⟩, ?_⟩
  refine pure_ (i := 8) (N := some 11) (v := ?_) (a' := ?_) #[true, true, true, true, true, true, true, true, true, false] rfl rfl (by kernel_rfl) (fun _ _ _ h => h) (Or.inl ⟨by rfl, ?_⟩) ?_ ?_
  rotate_left
  · intro w'
    go_simp
    with_reducible rfl
  rotate_left
  · simp only [Act.put, List.setIfInBounds_toArray, List.set_cons_zero, List.set_cons_succ, i64_w, i32_w]
    rfl
  refine pure_ (i := 9) (N := some 12) (v := ?_) (a' := ?_) #[true, true, true, true, true, true, true, true, true, true] rfl rfl (by kernel_rfl) (fun _ _ _ h => h) (Or.inl ⟨by rfl, ?_⟩) ?_ ?_
  rotate_left
  · intro w'
    go_simp
    with_reducible rfl
  rotate_left
  · simp only [Act.put, List.setIfInBounds_toArray, List.set_cons_zero, List.set_cons_succ, i64_w, i32_w]
    rfl
  refine done_ (by kernel_rfl) ?_
  go_wp2
  refine bodyPost_ret (results_ctt rfl _ _ (w.heap.size + 1 + 1 + 1 + 1) 27 (#[.slice (some ⟨g, 0, none⟩) (fl.filter (fun x => decide (x.f4 > now))).length c_s, .slice A_q (ql.filter (fun x => decide (x.f3 > now))).length c_q]) (0, 0) _ rfl orr.out Try.underlying27 rfl i27) rfl ?_
  have hR := R_mk_48 (l := ((fl.filter (fun x : S48 => decide (x.f4 > now))).set i (⟨x.f0, x.f1, x.f2, x.f3, now + 60⟩ : S48))) (base := 0) (cap := c_s) (ok := fun _ => True) og.out (Nat.zero_le _) trivial HRM.out.1 hcm HRM.out.2.1 HRM.out.2.2
  have hF := F_of_C48 (ok := fun j => j = g) (Kd.R_reads' hR).2.2 (fun ad e _ => by injection e with e; rw [← e])
  rw [List.length_set] at hF
  exact ⟨some ⟨g, 0, none⟩, c_s, A_q, c_q, by rw [List.length_set]; rfl, by rw [List.length_set]; exact sc.out, by rw [List.length_set]; exact Kd.F_mono hF (fun j hj => .inr (by omega)), qc.out, (Kd.F_mono (ok := fun j => j = g2) (fG q) (fun j hj => .inr (by omega))), (bG HB)⟩
end Go.Proofs.Ytnjgejjijboibaa.Q
end
