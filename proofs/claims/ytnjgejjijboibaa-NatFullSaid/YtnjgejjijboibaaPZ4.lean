import Derived.Test.YtnjgejjijboibaaPZ1
import Derived.Test.YtnjgejjijboibaaPZ3
import Derived.RegionTactic
import Derived.BigRegion
import Derived.Test.YtnjgejjijboibaaPZ2
section
/- nat.Check. -/
namespace Go.Proofs.Ytnjgejjijboibaa.Q
open Go.RowKit Go.Proofs.YtnjgejjijboibaaW.PrintWords Go.Proofs.YtnjgejjijboibaaW.PrintLast Go.Proofs.YtnjgejjijboibaaW.PrintMore Go.Proofs.Ytnjgejjijboibaa.L
attribute [local go_sem] Instr.field part asAgg lt_step max2_int min2_int max_two min_two max_three min_three max_four min_four lt_0_1 lt_0_2 lt_1_2 lt_0_3 lt_1_3 lt_2_3 lt_0_4 lt_1_4 lt_2_4 lt_3_4 lt_0_5 lt_1_5 lt_2_5 lt_3_5 lt_4_5 lt_0_6 lt_1_6 lt_2_6 lt_3_6 lt_4_6 lt_5_6 lt_0_7 lt_1_7 lt_2_7 lt_3_7 lt_4_7 lt_5_7 lt_6_7 lt_0_8 lt_1_8 lt_2_8 lt_3_8 lt_4_8 lt_5_8 lt_6_8 lt_7_8
set_option linter.unusedVariables false
set_option linter.unusedSimpArgs false
theorem own_empty (w : World) (P : Program) (k : TypeId) {H : Type} (R : Value → Option (DataW H × List MemPlace)) (b : Nat) (h : w.heap[b]? = some (.map #[] 0)) : w.ownsMap P k R b 0 (.map []) := ⟨#[], 0, h, ⟨by simp, MapKept.stamped_empty 0, by simp⟩, Nat.le_refl _, rfl⟩
def wfF (x : S48) : Prop := wf64 x.f0 ∧ wf64 x.f1 ∧ wf32 x.f2 ∧ wf64 x.f3 ∧ wf64 x.f4
def wfQ (x : S39) : Prop := wf64 x.f0 ∧ wf64 x.f1 ∧ wf64 x.f2 ∧ wf64 x.f3
def wk (x : S48) : Lit := wayK x.f0 x.f2 x.f3
theorem wk_key {x : S48} (h : wfF x) : WideAt.IsKeyLit (wk x) := law50.key (key50 h.1 h.2.2.1 h.2.2.2.1)
def wayB (x y : S48) : Bool := x.f0 == y.f0 && x.f2 == y.f2 && x.f3 == y.f3
theorem wk_same {x y : S48} (hx : wfF x) (hy : wfF y) : (wk x).sameKey (wk y) = wayB x y := by
  refine Bool.eq_iff_iff.2 ?_
  rw [WideAt.sameKey_iff (wk_key hy)]
  unfold wayB
  simp only [Bool.and_eq_true, beq_iff_eq]
  constructor
  · intro h
    have := wayK_inj hx.1 hx.2.2.1 hx.2.2.2.1 hy.1 hy.2.2.1 hy.2.2.2.1 h
    exact ⟨⟨this.1, this.2.1⟩, this.2.2⟩
  · rintro ⟨⟨h1, h2⟩, h3⟩
    unfold wk
    rw [h1, h2, h3]
theorem any_wk (l : List S48) (y : S48) (hl : ∀ x ∈ l, wfF x) (hy : wfF y) : ((l.map wk).any fun k => k.sameKey (wk y)) = l.any fun x => wayB x y := by
  induction l with
  | nil => rfl
  | cons x l ih => rw [List.map_cons, List.any_cons, List.any_cons, ih (fun z hz => hl z (List.mem_cons_of_mem _ hz)), wk_same (hl x (List.mem_cons_self ..)) hy]
theorem at_wk (l : List S48) (y : S48) (hl : ∀ x ∈ l, wfF x) (hy : wfF y) : (setT (l.map wk)).atKey (wk y) (.lit (.bool false)) = .lit (.bool (l.any fun x => wayB x y)) := by
  rw [atKey_setT _ _ (wk_key hy) (by intro k hk; obtain ⟨x, hx, rfl⟩ := List.mem_map.1 hk; exact wk_key (hl x hx)), any_wk l y hl hy]
def oneF (prev : List S48) (x : S48) : Bool := (wordB x.f0 && wordB x.f3) && slotB x.f1 x.f4 && !(prev.map fun y => y.f1).contains x.f1 && !(prev.any fun y => wayB y x)
def okF : List S48 → List S48 → Bool
  | _, [] => true
  | prev, x :: l => oneF prev x && okF (prev ++ [x]) l
def oneQ (prev : List S39) (x : S39) : Bool := (wordB x.f1 && wordB x.f2) && slotB x.f0 x.f3 && !(prev.map fun y => y.f0).contains x.f0
def okQ : List S39 → List S39 → Bool
  | _, [] => true
  | prev, x :: l => oneQ prev x && okQ (prev ++ [x]) l
theorem okF_step {l : List S48} {k : Nat} {x : S48} (hk : k < l.length) (hx : l[k] = x) : okF (l.take k) (l.drop k) = (oneF (l.take k) x && okF (l.take (k + 1)) (l.drop (k + 1))) := by
  rw [List.drop_eq_getElem_cons hk, okF, List.take_add_one, List.getElem?_eq_getElem hk, hx]; rfl
theorem okQ_step {l : List S39} {k : Nat} {x : S39} (hk : k < l.length) (hx : l[k] = x) : okQ (l.take k) (l.drop k) = (oneQ (l.take k) x && okQ (l.take (k + 1)) (l.drop (k + 1))) := by
  rw [List.drop_eq_getElem_cons hk, okQ, List.take_add_one, List.getElem?_eq_getElem hk, hx]; rfl
theorem info50 : (Try.prog.info? 50).map (·.size) = some 3 := by kernel_rfl
set_option maxHeartbeats 1600000 in
set_option maxRecDepth 100000 in
theorem check_main (A0 : Option Addr) (c0 : Nat) (fl : List S48) (A1 : Option Addr) (c1 : Nat) (ql : List S39) (w : World) (hr0 : Kd.C k48 w A0 fl.length fl) (hr1 : Kd.C k39 w A1 ql.length ql) (hwf : ∀ x ∈ fl, wfF x) (hwq : ∀ x ∈ ql, wfQ x) (hl0 : fl.length ≤ 16) (hl1 : ql.length ≤ 16) (RF RQ : Bool) (hRF : okF [] fl = RF) (hRQ : okQ [] ql = RQ) :
    Calls Try.prog 10 #[.agg #[.slice A0 fl.length c0, .slice A1 ql.length c1]] w fun e w' => e = .returned (.bool (RF && RQ)) ∧ Below w.heap.size w w' := by
  have HB := Aside0.mk (Below.refl w.heap.size w)
  have HR0 := Aside0.mk hr0
  have HR1 := Aside0.mk hr1
  have HWF := Aside0.mk hwf
  have HWQ := Aside0.mk hwq
  have HRF : Aside0 (okF (fl.take 0) (fl.drop 0) = RF) := ⟨hRF⟩
  have HRQ : Aside0 (okQ (ql.take 0) (ql.drop 0) = RQ) := ⟨hRQ⟩
  have hmm := @run_makeMap Try.prog
  have hd0 : decide ((fl.length : Int) > 16) = false := decide_eq_false (by omega)
  have hd1 : decide ((ql.length : Int) > 16) = false := decide_eq_false (by omega)
  have hu := Try.underlying27
  clear hr0 hr1 hwf hwq hRF hRQ
  go_enter Try.func10, Try.ntmps10
  go_upto_region 4 with fail
  obtain ⟨wa, hwa, on0, oh0, oi0, ow0, hb_, hz0⟩ := letter4 w (.cells #[.slice A0 fl.length c0, .slice A1 ql.length c1] 27 (0, 0)) (.map #[] 0) (.map #[] 0) (.map #[] 0)
  rw [hwa]
  clear hwa hmm
  have hzwa := Nat.le_of_eq hz0.symm
  clear hz0
  have on := Aside0.mk on0
  have HH := Aside0.mk (own_empty wa Try.prog 3 (plainElem (H := Unit) Try.prog 4) _ oh0)
  have HI := Aside0.mk (own_empty wa Try.prog 3 (plainElem (H := Unit) Try.prog 4) _ oi0)
  have HW := Aside0.mk (own_empty wa Try.prog 50 (plainElem (H := Unit) Try.prog 4) _ ow0)
  clear on0 oh0 oi0 ow0
  obtain ⟨onc, onf, onl⟩ := cells_of on.out
  have HB_ : Aside0 (Below w.heap.size w wa) := ⟨hb_⟩
  clear HB hb_
  have HB := HB_
  clear HB_
  have hla := HR0.out.2.1
  have hlb := HR1.out.2.1
  go_wp2_with fail
  go_loopw [27] (fun i wx => ∃ k : Nat, k ≤ fl.length ∧ i = .int .i64 k ∧ Aside0 (okF (fl.take k) (fl.drop k) = RF) ∧ Aside0 (wx.heap[w.heap.size]? = some (.cells #[.slice A0 fl.length c0, .slice A1 ql.length c1] 27 (0, 0))) ∧ Aside0 (wx.ownsMap Try.prog 3 (plainElem (H := Unit) Try.prog 4) (w.heap.size + 1) (k) (setT (((fl.take (k)).map fun x => x.f1).map intK))) ∧ Aside0 (wx.ownsMap Try.prog 3 (plainElem (H := Unit) Try.prog 4) (w.heap.size + 1 + 1) (0) ((.map []))) ∧ Aside0 (wx.ownsMap Try.prog 50 (plainElem (H := Unit) Try.prog 4) (w.heap.size + 1 + 1 + 1) (k) (setT ((fl.take (k)).map wk))) ∧ Aside0 (Below w.heap.size w wx)) (fun i _ => fl.length - (intOf i).toNat)
  case atStart => exact ⟨0, Nat.zero_le _, rfl, HRF, on, HH, HI, HW, HB⟩
  case round =>
    clear HRF on HH HI HW HB onc onf onl hzwa
    obtain ⟨k, hk, rfl, HK, on, HH, HI, HW, HB⟩ := hrel
    obtain ⟨onc, onf, onl⟩ := cells_of on.out
    have hz := HB.out.size
    have hz4 : w.heap.size + 1 + 1 + 1 < wr.heap.size := HW.out.lt
    by_cases hlt : k < fl.length
    · obtain ⟨ad, rfl, hc0, hc1, hc2, hc3, hc4⟩ := at_T48 (Kd.C_below HR0.out HB.out) (k : Int) (by omega) (by omega)
      rw [Int.toNat_natCast] at hc0 hc1 hc2 hc3 hc4
      obtain ⟨x, hx⟩ : ∃ x, rd_T48 fl (k : Int) = x := ⟨_, rfl⟩
      rw [hx] at hc0 hc1 hc2 hc3 hc4
      have hx' : fl[k] = x := by rw [← hx]; unfold rd_T48; rw [Int.toNat_natCast, List.getD_eq_getElem?_getD, List.getElem?_eq_getElem hlt]; rfl
      have hwx : wfF x := by rw [← hx']; exact HWF.out _ (List.getElem_mem hlt)
      have hpre : ∀ y ∈ fl.take k, wfF y := fun y hy => HWF.out y (List.mem_of_mem_take hy)
      have HKX : Aside0 (keyOf Try.prog 3 (.int .i64 x.f1) = some (intK x.f1)) := ⟨key3 hwx.2.1⟩
      have HKW : Aside0 (keyOf Try.prog 50 (.agg #[.int .i64 x.f0, .int .u32 x.f2, .int .i64 x.f3]) = some (wk x)) := ⟨key50 hwx.1 hwx.2.2.1 hwx.2.2.2.1⟩
      have HT1 : Aside0 (((fl.take (k + 1)).map fun x => x.f1).map intK = ((fl.take k).map fun x => x.f1).map intK ++ [intK x.f1]) := ⟨by rw [List.take_add_one, List.getElem?_eq_getElem hlt, hx']; simp [Option.toList]⟩
      have HT2 : Aside0 ((fl.take (k + 1)).map wk = (fl.take k).map wk ++ [wk x]) := ⟨by rw [List.take_add_one, List.getElem?_eq_getElem hlt, hx']; simp [Option.toList]⟩
      have hst := HK.out
      rw [okF_step hlt hx'] at hst
      unfold oneF at hst
      obtain ⟨b1, h1⟩ : ∃ b, (wordB x.f0 && wordB x.f3) = b := ⟨_, rfl⟩
      obtain ⟨b2, h2⟩ : ∃ b, slotB x.f1 x.f4 = b := ⟨_, rfl⟩
      obtain ⟨b3, h3⟩ : ∃ b, ((fl.take k).map fun y => y.f1).contains x.f1 = b := ⟨_, rfl⟩
      obtain ⟨b4, h4⟩ : ∃ b, ((fl.take k).any fun y => wayB y x) = b := ⟨_, rfl⟩
      rw [h1, h2, h3, h4] at hst
      have HST := Aside0.mk hst
      have H1 := Aside0.mk h1
      have H2 := Aside0.mk h2
      have H3 : Aside0 ((setT (((fl.take k).map fun x => x.f1).map intK)).atKey (intK x.f1) (.lit (.bool false)) = .lit (.bool b3)) := ⟨by rw [at_intK, h3]⟩
      have H4 : Aside0 ((setT ((fl.take k).map wk)).atKey (wk x) (.lit (.bool false)) = .lit (.bool b4)) := ⟨by rw [at_wk _ _ hpre hwx, h4]⟩
      have HLT := Aside0.mk hlt
      have hlt' : (k : Int) < (fl.length : Int) := by omega
      have hkm : k < maxLen := by unfold maxLen; omega
      clear hx hx' hwx hpre hst h1 h2 h3 h4 hlt HK
      go_upto_region 8 with fail
      obtain ⟨wL, hwL, o70, o80, hb_, hz0⟩ := letter2 wr (.cells #[.int .i64 x.f0, .int .i64 x.f1, .int .u32 x.f2, .int .i64 x.f3, .int .i64 x.f4] 48 (0, 0)) (.cells #[.int .i64 x.f0, .int .u32 x.f2, .int .i64 x.f3] 50 (0, 0))
      rw [hwL]
      clear hwL hc0 hc1 hc2 hc3 hc4
      have hzL := Nat.le_of_eq hz0.symm
      clear hz0
      have o7 := Aside0.mk o70
      have o8 := Aside0.mk o80
      clear o70 o80
      have on_ := Aside0.mk (box_below hb_ (by repeat (with_reducible first | exact on.out | apply ext_drew | apply ext_drewN | apply ext_alloc))); (try clear on onc onf onl); have on := on_; clear on_; obtain ⟨onc, onf, onl⟩ := cells_of on.out; (first | (have HH_ := Aside0.mk (own_below hb_ HH.out)) | (have HH_ := Aside0.mk (own_below hb_ (World.ownsMap.alloc HH.out _)))); clear HH; have HH := HH_; clear HH_; (first | (have HI_ := Aside0.mk (own_below hb_ HI.out)) | (have HI_ := Aside0.mk (own_below hb_ (World.ownsMap.alloc HI.out _)))); clear HI; have HI := HI_; clear HI_; (first | (have HW_ := Aside0.mk (own_below hb_ HW.out)) | (have HW_ := Aside0.mk (own_below hb_ (World.ownsMap.alloc HW.out _)))); clear HW; have HW := HW_; clear HW_
      obtain ⟨o7c, o7f, o7l⟩ := cells_of o7.out
      obtain ⟨o8c, o8f, o8l⟩ := cells_of o8.out
      have HB_ : Aside0 (Below w.heap.size w wL) := ⟨HB.out.trans (Below.mono hb_ hz)⟩
      clear HB hb_
      have HB := HB_
      clear HB_
      go_wp2_with fail
      (go_at_call 15; (with_reducible refine (word_runs _ x.f0 x.f3 _ (nb_1 _ _) b1 H1.out).mono ?_); rintro e_ w1 ⟨rfl, hb_⟩; have on_ := Aside0.mk (box_below hb_ (by repeat (with_reducible first | exact on.out | apply ext_drew | apply ext_drewN | apply ext_alloc))); (try clear on onc onf onl); have on := on_; clear on_; obtain ⟨onc, onf, onl⟩ := cells_of on.out; have o7_ := Aside0.mk (box_below hb_ (by repeat (with_reducible first | exact o7.out | apply ext_drew | apply ext_drewN | apply ext_alloc))); (try clear o7 o7c o7f o7l); have o7 := o7_; clear o7_; obtain ⟨o7c, o7f, o7l⟩ := cells_of o7.out; have o8_ := Aside0.mk (box_below hb_ (by repeat (with_reducible first | exact o8.out | apply ext_drew | apply ext_drewN | apply ext_alloc))); (try clear o8 o8c o8f o8l); have o8 := o8_; clear o8_; obtain ⟨o8c, o8f, o8l⟩ := cells_of o8.out; (first | (have HH_ := Aside0.mk (own_below hb_ HH.out)) | (have HH_ := Aside0.mk (own_below hb_ (World.ownsMap.alloc HH.out _)))); clear HH; have HH := HH_; clear HH_; (first | (have HI_ := Aside0.mk (own_below hb_ HI.out)) | (have HI_ := Aside0.mk (own_below hb_ (World.ownsMap.alloc HI.out _)))); clear HI; have HI := HI_; clear HI_; (first | (have HW_ := Aside0.mk (own_below hb_ HW.out)) | (have HW_ := Aside0.mk (own_below hb_ (World.ownsMap.alloc HW.out _)))); clear HW; have HW := HW_; clear HW_; have HB_ : Aside0 (Below w.heap.size w w1) := Aside0.mk (below_step (bG HB) hb_); have hzw1 := hb_.size; (try simp at hzw1); clear HB hb_; have HB := HB_; clear HB_)
      cases b1
      case false =>
        have hst := HST.out
        simp only [Bool.false_and] at hst
        have HS2 := Aside0.mk hst
        clear hst
        go_wp2
        go_ret
        exact ⟨by rw [← HS2.out]; rfl, HB.out⟩
      case true =>
      go_wp2_with fail
      (go_at_call 20; (with_reducible refine (slot_runs x.f1 x.f4 _ b2 H2.out).mono ?_); rintro e_ w2 ⟨rfl, hb_⟩; have on_ := Aside0.mk (box_below hb_ (by repeat (with_reducible first | exact on.out | apply ext_drew | apply ext_drewN | apply ext_alloc))); (try clear on onc onf onl); have on := on_; clear on_; obtain ⟨onc, onf, onl⟩ := cells_of on.out; have o7_ := Aside0.mk (box_below hb_ (by repeat (with_reducible first | exact o7.out | apply ext_drew | apply ext_drewN | apply ext_alloc))); (try clear o7 o7c o7f o7l); have o7 := o7_; clear o7_; obtain ⟨o7c, o7f, o7l⟩ := cells_of o7.out; have o8_ := Aside0.mk (box_below hb_ (by repeat (with_reducible first | exact o8.out | apply ext_drew | apply ext_drewN | apply ext_alloc))); (try clear o8 o8c o8f o8l); have o8 := o8_; clear o8_; obtain ⟨o8c, o8f, o8l⟩ := cells_of o8.out; (first | (have HH_ := Aside0.mk (own_below hb_ HH.out)) | (have HH_ := Aside0.mk (own_below hb_ (World.ownsMap.alloc HH.out _)))); clear HH; have HH := HH_; clear HH_; (first | (have HI_ := Aside0.mk (own_below hb_ HI.out)) | (have HI_ := Aside0.mk (own_below hb_ (World.ownsMap.alloc HI.out _)))); clear HI; have HI := HI_; clear HI_; (first | (have HW_ := Aside0.mk (own_below hb_ HW.out)) | (have HW_ := Aside0.mk (own_below hb_ (World.ownsMap.alloc HW.out _)))); clear HW; have HW := HW_; clear HW_; have HB_ : Aside0 (Below w.heap.size w w2) := Aside0.mk (below_step (bG HB) hb_); have hzw2 := hb_.size; (try simp at hzw2); clear HB hb_; have HB := HB_; clear HB_)
      cases b2
      case false =>
        have hst := HST.out
        simp only [Bool.and_false, Bool.false_and, Bool.true_and] at hst
        have HS2 := Aside0.mk hst
        clear hst
        go_wp2
        go_ret
        exact ⟨by rw [← HS2.out]; rfl, HB.out⟩
      case true =>
      cases b3
      case true =>
        have hst := HST.out
        simp only [Bool.and_false, Bool.false_and, Bool.true_and, Bool.not_true] at hst
        have HS2 := Aside0.mk hst
        clear hst
        go_wp2_with (first | (at_lookup; (try (refine gate_guard (by rfl) ?_; dsimp only)); refine wpList_lookup_bool _ rfl _ _ 54 rfl 3 4 law3 Try.underlying54 Try.underlying4 (zero4 _) (w.heap.size + 1) _ _ rfl (by repeat (with_reducible first | exact HH.out | refine World.ownsMap.alloc ?_ _ | refine World.ownsMap.drew ?_)) _ _ rfl HKX.out _ H3.out ?_))
        go_ret
        exact ⟨by rw [← HS2.out]; rfl, HB.out⟩
      case false =>
      cases b4
      case true =>
        have hst := HST.out
        simp only [Bool.and_false, Bool.false_and, Bool.true_and, Bool.not_true, Bool.not_false] at hst
        have HS2 := Aside0.mk hst
        clear hst
        go_wp2_with (first | (at_lookup; (try (refine gate_guard (by rfl) ?_; dsimp only)); refine wpList_lookup_bool _ rfl _ _ 54 rfl 3 4 law3 Try.underlying54 Try.underlying4 (zero4 _) (w.heap.size + 1) _ _ rfl (by repeat (with_reducible first | exact HH.out | refine World.ownsMap.alloc ?_ _ | refine World.ownsMap.drew ?_)) _ _ rfl HKX.out _ H3.out ?_) | (at_lookup; (try (refine gate_guard (by rfl) ?_; dsimp only)); refine wpList_lookup_bool _ rfl _ _ 55 rfl 50 4 law50 Try.underlying55 Try.underlying4 (zero4 _) (w.heap.size + 1 + 1 + 1) _ _ rfl (by repeat (with_reducible first | exact HW.out | refine World.ownsMap.alloc ?_ _ | refine World.ownsMap.drew ?_)) _ _ rfl HKW.out _ H4.out ?_))
        go_ret
        exact ⟨by rw [← HS2.out]; rfl, HB.out⟩
      case false =>
        have hst := HST.out
        simp only [Bool.and_false, Bool.false_and, Bool.true_and, Bool.not_true, Bool.not_false] at hst
        have HS2 := Aside0.mk hst
        clear hst HST
        go_upto_region 10 with (first | (at_lookup; (try (refine gate_guard (by rfl) ?_; dsimp only)); refine wpList_lookup_bool _ rfl _ _ 54 rfl 3 4 law3 Try.underlying54 Try.underlying4 (zero4 _) (w.heap.size + 1) _ _ rfl (by repeat (with_reducible first | exact HH.out | refine World.ownsMap.alloc ?_ _ | refine World.ownsMap.drew ?_)) _ _ rfl HKX.out _ H3.out ?_) | (at_lookup; (try (refine gate_guard (by rfl) ?_; dsimp only)); refine wpList_lookup_bool _ rfl _ _ 55 rfl 50 4 law50 Try.underlying55 Try.underlying4 (zero4 _) (w.heap.size + 1 + 1 + 1) _ _ rfl (by repeat (with_reducible first | exact HW.out | refine World.ownsMap.alloc ?_ _ | refine World.ownsMap.drew ?_)) _ _ rfl HKW.out _ H4.out ?_))
        obtain ⟨wA, hrA, hoA, hgA⟩ := (HH.out.drew).update law3 Try.underlying54 hkm HKX.out (plainElem_bool Try.underlying4 true)
        have HWA := Aside0.mk ((HW.out.drew).kept hgA (by simp; omega))
        obtain ⟨wB, hrB, hoB, hgB⟩ := HWA.out.update law50 Try.underlying55 hkm HKW.out (plainElem_bool Try.underlying4 true)
        have o7A : wA.heap[wr.heap.size]? = some (.cells #[.int .i64 x.f0, .int .i64 x.f1, .int .u32 x.f2, .int .i64 x.f3, .int .i64 x.f4] 48 (0, 0)) := (hgA.block _ o7l (by simp; omega)).trans o7.out
        have o8A : wA.heap[wr.heap.size + 1]? = some (.cells #[.int .i64 x.f0, .int .u32 x.f2, .int .i64 x.f3] 50 (0, 0)) := (hgA.block _ o8l (by simp; omega)).trans o8.out
        have o7B : wB.heap[wr.heap.size]? = some (.cells #[.int .i64 x.f0, .int .i64 x.f1, .int .u32 x.f2, .int .i64 x.f3, .int .i64 x.f4] 48 (0, 0)) := (hgB.block _ (cells_of o7A).2.2 (by simp; omega)).trans o7A
        have o8B : wB.heap[wr.heap.size + 1]? = some (.cells #[.int .i64 x.f0, .int .u32 x.f2, .int .i64 x.f3] 50 (0, 0)) := (hgB.block _ (cells_of o8A).2.2 (by simp; omega)).trans o8A
        have HF : Aside0 ((wB.heap[w.heap.size]? = some (.cells #[.slice (some ad) fl.length c0, .slice A1 ql.length c1] 27 (0, 0))) ∧ wB.ownsMap Try.prog 3 (plainElem (H := Unit) Try.prog 4) (w.heap.size + 1) (k + 1) (setT (((fl.take (k + 1)).map fun x => x.f1).map intK)) ∧ wB.ownsMap Try.prog 3 (plainElem (H := Unit) Try.prog 4) (w.heap.size + 1 + 1) (0) ((.map [])) ∧ wB.ownsMap Try.prog 50 (plainElem (H := Unit) Try.prog 4) (w.heap.size + 1 + 1 + 1) (k + 1) (setT ((fl.take (k + 1)).map wk)) ∧ Below w.heap.size w wB) := by
          have onA : wA.heap[w.heap.size]? = some (.cells #[.slice (some ad) fl.length c0, .slice A1 ql.length c1] 27 (0, 0)) := (hgA.block _ onl (by simp)).trans on.out
          have HIA := (HI.out.drew).kept hgA (by simp)
          refine ⟨(hgB.block _ (cells_of onA).2.2 (by simp; omega)).trans onA, ?_, HIA.kept hgB (by simp), ?_, ?_⟩
          · rw [HT1.out, setT_snoc]; exact hoA.kept hgB (by simp)
          · rw [HT2.out, setT_snoc]; exact hoB
          · have h1 : Below w.heap.size w wA := (below_drew HB.out).grown hgA HB.out.size (fun j hj => by cases hj; omega)
            exact h1.grown hgB h1.size (fun j hj => by cases hj; omega)
        have o7D : (World.drew w2).heap[wr.heap.size]? = some (.cells #[.int .i64 x.f0, .int .i64 x.f1, .int .u32 x.f2, .int .i64 x.f3, .int .i64 x.f4] 48 (0, 0)) := o7.out
        have o8D : (World.drew w2).heap[wr.heap.size + 1]? = some (.cells #[.int .i64 x.f0, .int .u32 x.f2, .int .i64 x.f3] 50 (0, 0)) := o8.out
        clear on o7 o8 HH HI HW HWA HB hoA hoB hgA hgB HT1 HT2 HKX HKW onc onf onl o7c o7f o7l o8c o8f o8l
        refine start_ (n := 7) (S := fun w' => w'.heap[wr.heap.size]? = some (.cells #[.int .i64 x.f0, .int .i64 x.f1, .int .u32 x.f2, .int .i64 x.f3, .int .i64 x.f4] 48 (0, 0)) ∧ w'.heap[wr.heap.size + 1]? = some (.cells #[.int .i64 x.f0, .int .u32 x.f2, .int .i64 x.f3] 50 (0, 0))) (ds := []) #[false, false, false, false, false, false, false] (by kernel_rfl) rfl rfl ⟨o7D, o8D⟩ (fun hHeld => ?_)
        refine pure_ (i := 0) (N := some 64) (v := ?_) (a' := ?_) #[true, false, false, false, false, false, false] rfl rfl (by kernel_rfl) (fun _ _ _ h => h) (Or.inl ⟨by rfl, ?_⟩) ?_ ?_
        rotate_left
        · intro w'
          go_simp
          with_reducible rfl
        rotate_left
        · simp only [Act.put, List.setIfInBounds_toArray, List.set_cons_zero, List.set_cons_succ, i64_w, i32_w]
          rfl
        refine pure_ (i := 1) (N := some 65) (v := ?_) (a' := ?_) #[true, true, false, false, false, false, false] rfl rfl (by kernel_rfl) (fun _ _ _ h => h) (Or.inl ⟨by rfl, ?_⟩) ?_ ?_
        rotate_left
        · intro w'
          go_simp
          with_reducible rfl
        rotate_left
        · simp only [Act.put, List.setIfInBounds_toArray, List.set_cons_zero, List.set_cons_succ, i64_w, i32_w]
          rfl
        refine take_ (i := 2) (N := some 66) (v := ?_) (a' := ?_) #[true, true, true, false, false, false, false] rfl rfl (by kernel_rfl) (fun _ _ _ h => h) (Or.inl ⟨by rfl, ?_⟩) hHeld ?_ ?_
        rotate_left
        · rintro w' h_
          replace h_ : w'.cell? ⟨wr.heap.size, 1, none⟩ = some (.int .i64 x.f1) := ((cells_of h_.1).1 1).trans rfl
          go_simp
          with_reducible rfl
        rotate_left
        · simp only [Act.put, List.setIfInBounds_toArray, List.set_cons_zero, List.set_cons_succ, i64_w, i32_w]
          rfl
        refine pure_ (i := 3) (N := some 67) (v := ?_) (a' := ?_) #[true, true, true, true, false, false, false] rfl rfl (by kernel_rfl) (fun _ _ _ h => h) (Or.inl ⟨by rfl, ?_⟩) ?_ ?_
        rotate_left
        · intro w'
          go_simp
          with_reducible rfl
        rotate_left
        · simp only [Act.put, List.setIfInBounds_toArray, List.set_cons_zero, List.set_cons_succ, i64_w, i32_w]
          rfl
        refine rowL_ (i := 4) (N := some 68) #[true, true, true, true, true, false, false] rfl rfl (by kernel_rfl) 50 _ rfl (wr.heap.size + 1) (#[.int .i64 x.f0, .int .u32 x.f2, .int .i64 x.f3]) (fun _ _ _ h => h) (by rfl) (by rfl) _ _ _ (fun _ h => h.2) Try.underlying50 rfl info50 hHeld (a' := ?_) ?_ ?_
        rotate_left
        · simp only [Act.put, List.setIfInBounds_toArray, List.set_cons_zero, List.set_cons_succ, i64_w, i32_w]
          rfl
        refine one_ (i := 5) (N := none) #[true, true, true, true, true, true, false] rfl rfl (by kernel_rfl) (by decide) (fun K hK => ?_)
        refine skip_ (w1 := wA) (by rfl) rfl ?_ ?_
        · simp [execOp, Act.eval, Act.put, hrA, Result.andThen]
        refine hK.out _ _ ⟨o7A, o8A⟩ (fun hHeld => ?_)
        clear hK K
        refine one_ (i := 6) (N := none) #[true, true, true, true, true, true, true] rfl rfl (by kernel_rfl) (by decide) (fun K hK => ?_)
        refine skip_ (w1 := wB) (by rfl) rfl ?_ ?_
        · simp [execOp, Act.eval, Act.put, hrB, Result.andThen]
        refine hK.out _ _ ⟨o7B, o8B⟩ (fun hHeld => ?_)
        clear hK K
        refine done_ (by kernel_rfl) ?_
        go_wp2_with fail
        go_roundw
        case rel => exact ⟨k + 1, by have := HLT.out; omega, by go_num, HS2, ⟨HF.out.1⟩, ⟨HF.out.2.1⟩, ⟨HF.out.2.2.1⟩, ⟨HF.out.2.2.2.1⟩, ⟨HF.out.2.2.2.2⟩⟩
        case measure => have := HLT.out; simp [intOf]; omega
    · obtain rfl : k = fl.length := by omega
      have hRF := HK.out
      rw [List.drop_length, show okF (fl.take fl.length) [] = true from rfl] at hRF
      subst hRF
      clear HK HH HW
      go_wp2_with fail
      go_loopw [73] (fun i wx => ∃ k : Nat, k ≤ ql.length ∧ i = .int .i64 k ∧ Aside0 (okQ (ql.take k) (ql.drop k) = RQ) ∧ Aside0 (wx.heap[w.heap.size]? = some (.cells #[.slice A0 fl.length c0, .slice A1 ql.length c1] 27 (0, 0))) ∧ Aside0 (wx.ownsMap Try.prog 3 (plainElem (H := Unit) Try.prog 4) (w.heap.size + 1 + 1) (k) (setT (((ql.take k).map fun x => x.f0).map intK))) ∧ Aside0 (Below w.heap.size w wx)) (fun i _ => ql.length - (intOf i).toNat)
      case atStart => exact ⟨0, Nat.zero_le _, rfl, HRQ, on, HI, HB⟩
      case round =>
        clear HRQ on HI HB onc onf onl hz hz4
        obtain ⟨k, hk, rfl, HK, on, HI, HB⟩ := hrel
        obtain ⟨onc, onf, onl⟩ := cells_of on.out
        have hz := HB.out.size
        have hz4 : w.heap.size + 1 + 1 < wr.heap.size := HI.out.lt
        by_cases hlt : k < ql.length
        · obtain ⟨ad, rfl, hc0, hc1, hc2, hc3⟩ := at_T39 (Kd.C_below HR1.out HB.out) (k : Int) (by omega) (by omega)
          rw [Int.toNat_natCast] at hc0 hc1 hc2 hc3
          obtain ⟨x, hx⟩ : ∃ x, rd_T39 ql (k : Int) = x := ⟨_, rfl⟩
          rw [hx] at hc0 hc1 hc2 hc3
          have hx' : ql[k] = x := by rw [← hx]; unfold rd_T39; rw [Int.toNat_natCast, List.getD_eq_getElem?_getD, List.getElem?_eq_getElem hlt]; rfl
          have hwx : wfQ x := by rw [← hx']; exact HWQ.out _ (List.getElem_mem hlt)
          have HKX : Aside0 (keyOf Try.prog 3 (.int .i64 x.f0) = some (intK x.f0)) := ⟨key3 hwx.1⟩
          have HT1 : Aside0 (((ql.take (k + 1)).map fun x => x.f0).map intK = ((ql.take k).map fun x => x.f0).map intK ++ [intK x.f0]) := ⟨by rw [List.take_add_one, List.getElem?_eq_getElem hlt, hx']; simp [Option.toList]⟩
          have hst := HK.out
          rw [okQ_step hlt hx'] at hst
          unfold oneQ at hst
          obtain ⟨b1, h1⟩ : ∃ b, (wordB x.f1 && wordB x.f2) = b := ⟨_, rfl⟩
          obtain ⟨b2, h2⟩ : ∃ b, slotB x.f0 x.f3 = b := ⟨_, rfl⟩
          obtain ⟨b3, h3⟩ : ∃ b, ((ql.take k).map fun y => y.f0).contains x.f0 = b := ⟨_, rfl⟩
          rw [h1, h2, h3] at hst
          have HST := Aside0.mk hst
          have H1 := Aside0.mk h1
          have H2 := Aside0.mk h2
          have H3 : Aside0 ((setT (((ql.take k).map fun x => x.f0).map intK)).atKey (intK x.f0) (.lit (.bool false)) = .lit (.bool b3)) := ⟨by rw [at_intK, h3]⟩
          have HLT := Aside0.mk hlt
          have hlt' : (k : Int) < (ql.length : Int) := by omega
          have hkm : k < maxLen := by unfold maxLen; omega
          clear hx hx' hwx hst h1 h2 h3 hlt HK
          go_upto_region 15 with fail
          obtain ⟨wL, hwL, o70, hb_, hz0⟩ := letter1 wr (.cells #[.int .i64 x.f0, .int .i64 x.f1, .int .i64 x.f2, .int .i64 x.f3] 39 (0, 0))
          rw [hwL]
          clear hwL hc0 hc1 hc2 hc3
          have hzL := Nat.le_of_eq hz0.symm
          clear hz0
          have o7 := Aside0.mk o70
          clear o70
          have on_ := Aside0.mk (box_below hb_ (by repeat (with_reducible first | exact on.out | apply ext_drew | apply ext_drewN | apply ext_alloc))); (try clear on onc onf onl); have on := on_; clear on_; obtain ⟨onc, onf, onl⟩ := cells_of on.out; (first | (have HI_ := Aside0.mk (own_below hb_ HI.out)) | (have HI_ := Aside0.mk (own_below hb_ (World.ownsMap.alloc HI.out _)))); clear HI; have HI := HI_; clear HI_
          obtain ⟨o7c, o7f, o7l⟩ := cells_of o7.out
          have HB_ : Aside0 (Below w.heap.size w wL) := ⟨HB.out.trans (Below.mono hb_ hz)⟩
          clear HB hb_
          have HB := HB_
          clear HB_
          go_wp2_with fail
          (go_at_call 15; (with_reducible refine (word_runs _ x.f1 x.f2 _ (nb_1 _ _) b1 H1.out).mono ?_); rintro e_ w1 ⟨rfl, hb_⟩; have on_ := Aside0.mk (box_below hb_ (by repeat (with_reducible first | exact on.out | apply ext_drew | apply ext_drewN | apply ext_alloc))); (try clear on onc onf onl); have on := on_; clear on_; obtain ⟨onc, onf, onl⟩ := cells_of on.out; have o7_ := Aside0.mk (box_below hb_ (by repeat (with_reducible first | exact o7.out | apply ext_drew | apply ext_drewN | apply ext_alloc))); (try clear o7 o7c o7f o7l); have o7 := o7_; clear o7_; obtain ⟨o7c, o7f, o7l⟩ := cells_of o7.out; (first | (have HI_ := Aside0.mk (own_below hb_ HI.out)) | (have HI_ := Aside0.mk (own_below hb_ (World.ownsMap.alloc HI.out _)))); clear HI; have HI := HI_; clear HI_; have HB_ : Aside0 (Below w.heap.size w w1) := Aside0.mk (below_step (bG HB) hb_); have hzw1 := hb_.size; (try simp at hzw1); clear HB hb_; have HB := HB_; clear HB_)
          cases b1
          case false =>
            have hst := HST.out
            simp only [Bool.false_and] at hst
            subst hst
            go_wp2
            go_ret
            exact ⟨rfl, HB.out⟩
          case true =>
          go_wp2_with fail
          (go_at_call 20; (with_reducible refine (slot_runs x.f0 x.f3 _ b2 H2.out).mono ?_); rintro e_ w2 ⟨rfl, hb_⟩; have on_ := Aside0.mk (box_below hb_ (by repeat (with_reducible first | exact on.out | apply ext_drew | apply ext_drewN | apply ext_alloc))); (try clear on onc onf onl); have on := on_; clear on_; obtain ⟨onc, onf, onl⟩ := cells_of on.out; have o7_ := Aside0.mk (box_below hb_ (by repeat (with_reducible first | exact o7.out | apply ext_drew | apply ext_drewN | apply ext_alloc))); (try clear o7 o7c o7f o7l); have o7 := o7_; clear o7_; obtain ⟨o7c, o7f, o7l⟩ := cells_of o7.out; (first | (have HI_ := Aside0.mk (own_below hb_ HI.out)) | (have HI_ := Aside0.mk (own_below hb_ (World.ownsMap.alloc HI.out _)))); clear HI; have HI := HI_; clear HI_; have HB_ : Aside0 (Below w.heap.size w w2) := Aside0.mk (below_step (bG HB) hb_); have hzw2 := hb_.size; (try simp at hzw2); clear HB hb_; have HB := HB_; clear HB_)
          cases b2
          case false =>
            have hst := HST.out
            simp only [Bool.and_false, Bool.false_and, Bool.true_and] at hst
            subst hst
            go_wp2
            go_ret
            exact ⟨rfl, HB.out⟩
          case true =>
          cases b3
          case true =>
            have hst := HST.out
            simp only [Bool.and_false, Bool.false_and, Bool.true_and, Bool.not_true] at hst
            subst hst
            go_wp2_with (first | (at_lookup; (try (refine gate_guard (by rfl) ?_; dsimp only)); refine wpList_lookup_bool _ rfl _ _ 54 rfl 3 4 law3 Try.underlying54 Try.underlying4 (zero4 _) (w.heap.size + 1 + 1) _ _ rfl (by repeat (with_reducible first | exact HI.out | refine World.ownsMap.alloc ?_ _ | refine World.ownsMap.drew ?_)) _ _ rfl HKX.out _ H3.out ?_))
            go_ret
            exact ⟨rfl, HB.out⟩
          case false =>
            have hst := HST.out
            simp only [Bool.and_false, Bool.false_and, Bool.true_and, Bool.not_true, Bool.not_false] at hst
            have HS2 := Aside0.mk hst
            clear hst HST
            go_wp2_with (first | (at_lookup; (try (refine gate_guard (by rfl) ?_; dsimp only)); refine wpList_lookup_bool _ rfl _ _ 54 rfl 3 4 law3 Try.underlying54 Try.underlying4 (zero4 _) (w.heap.size + 1 + 1) _ _ rfl (by repeat (with_reducible first | exact HI.out | refine World.ownsMap.alloc ?_ _ | refine World.ownsMap.drew ?_)) _ _ rfl HKX.out _ H3.out ?_) | (at_mapUpdate; refine wpList_mapUpdate_own _ rfl _ _ _ 54 rfl 3 4 law3 Try.underlying54 _ (w.heap.size + 1 + 1) k _ rfl HI.out hkm _ _ _ rfl rfl HKX.out _ [] (plainElem_bool Try.underlying4 true) ?_; intro w4 hown2 hgrow2; have HI2_ := Aside0.mk hown2; have HB2_ : Aside0 (Below w.heap.size w w4) := ⟨HB.out.grown hgrow2 HB.out.size (fun j hj => by cases hj; omega)⟩; have on2_ := Aside0.mk ((hgrow2.block _ onl (by simp; omega)).trans on.out); clear hown2 hgrow2))
            go_roundw
            case rel => exact ⟨k + 1, by have := HLT.out; omega, by go_num, HS2, on2_, ⟨by rw [HT1.out, setT_snoc]; exact HI2_.out⟩, HB2_⟩
            case measure => have := HLT.out; simp [intOf]; omega
        · obtain rfl : k = ql.length := by omega
          have hRQ := HK.out
          rw [List.drop_length, show okQ (ql.take ql.length) [] = true from rfl] at hRQ
          subst hRQ
          clear HK
          go_wp2
          go_ret
          exact ⟨rfl, HB.out⟩
end Go.Proofs.Ytnjgejjijboibaa.Q
end
section
/- slices.DeleteFunc, walked. -/
namespace Go.Proofs.Ytnjgejjijboibaa.Q
open Go.RowKit Go.Proofs.YtnjgejjijboibaaW.PrintWords Go.Proofs.YtnjgejjijboibaaW.PrintLast Go.Proofs.YtnjgejjijboibaaW.PrintMore Go.Proofs.Ytnjgejjijboibaa.L
attribute [local go_sem] Instr.field part asAgg lt_step max2_int min2_int max_two min_two max_three min_three max_four min_four lt_0_1 lt_0_2 lt_1_2 lt_0_3 lt_1_3 lt_2_3 lt_0_4 lt_1_4 lt_2_4 lt_3_4 lt_0_5 lt_1_5 lt_2_5 lt_3_5 lt_4_5 lt_0_6 lt_1_6 lt_2_6 lt_3_6 lt_4_6 lt_5_6 lt_0_7 lt_1_7 lt_2_7 lt_3_7 lt_4_7 lt_5_7 lt_6_7 lt_0_8 lt_1_8 lt_2_8 lt_3_8 lt_4_8 lt_5_8 lt_6_8 lt_7_8
set_option linter.unusedVariables false
set_option linter.unusedSimpArgs false
set_option maxHeartbeats 1600000 in
set_option maxRecDepth 100000 in
theorem del48_runs (b0 gt gn : Nat) (now : Int) (g cap : Nat) (ok : Nat → Prop) (l : List S48) (w : World) (hR : Kd.R k48 48 w b0 ok (.slice (some ⟨g, 0, none⟩) l.length cap) l) (ht : w.heap[gt]? = some (.cells #[.func (.func 28) #[] #[.pointer (some ⟨gn, 0, none⟩)]] 51 (0, 0))) (hn : w.heap[gn]? = some (.cells #[.int .i64 now] 3 (0, 0))) (hgt : gt < b0) (hgn : gn < b0) :
    Calls Try.prog 33 #[.slice (some ⟨g, 0, none⟩) l.length cap, .func (.func 35) #[] #[.pointer (some ⟨gt, 0, none⟩)]] w fun e w' => ∃ v, e = .returned v ∧ Kd.R k48 48 w' b0 ok v (l.filter (fun x => decide (x.f4 > now))) ∧ Below b0 w w' := by
  obtain ⟨cur0, hh0, hbg, hkg, _, hnc, hcm, hcs0, ht0⟩ := R_cells_48 hR
  have hcm' : cap ≤ 9223372036854775807 := hcm
  have HOK := Aside0.mk hkg
  have HN := Aside0.mk hn
  have HT := Aside0.mk ht
  have hglt : g < w.heap.size := (cells_of hh0).2.2
  have HRC := Aside0.mk (Kd.R_reads' hR).2.2
  have hlm : (l.length : Int) ≤ 9223372036854775807 := by omega
  have hidx := idxP_spec (fun x => (!decide (x.f4 > now))) z48 l 0
  have HRR := Aside0.mk hR
  have HI0 : Aside0 (rowI_48 w g cap l (fun x => decide (x.f4 > now)) 0) := ⟨cur0, hh0, hcs0, by simp [cellsL_48], fun t _ h => by
    rw [← ht0, List.getElem?_take_of_lt h, Array.getElem?_toList]⟩
  obtain ⟨i0, hi0⟩ : ∃ i, idxP (fun x => (!decide (x.f4 > now))) l 0 = i := ⟨_, rfl⟩
  rw [hi0] at hidx
  have HX := Aside0.mk hi0
  have HDX := Aside0.mk hidx
  clear hR hn ht hkg hcs0 ht0 hh0 hi0 hidx
  go_enter Try.func33, Try.ntmps33
  go_wp2_with fail
  go_at_call 16
  with_reducible refine (indexS48_runs gt gn now (some ⟨g, 0, none⟩) cap l w HRC.out HT.out HN.out).mono ?_
  rw [HX.out]
  rintro e_ w1 ⟨rfl, hb_⟩
  have HB : Aside0 (Below b0 w w1) := ⟨Below.mono hb_ (by omega)⟩
  have HI1 : Aside0 (rowI_48 w1 g cap l (fun x => decide (x.f4 > now)) 0) := by
    obtain ⟨cur, h1, h2⟩ := HI0.out
    exact ⟨cur, box_below hb_ h1, h2⟩
  have HR1 := Aside0.mk (Kd.R_below HRR.out hb_)
  clear hb_ HI0 HRR
  have hidx := HDX.out
  clear HDX HX
  by_cases hm1 : i0 = -1
  · subst hm1
    have hall : ∀ x ∈ l, ((fun x => (!decide (x.f4 > now))) x) = false := by
      rcases hidx with h | h | ⟨k, _, h, _⟩
      · exact h.2.2
      · omega
      · omega
    have e : l.filter (fun x => decide (x.f4 > now)) = l := filter_all _ l hall
    have HE := Aside0.mk e
    clear hidx hall e
    go_wp2
    go_ret
    exact ⟨_, rfl, by rw [HE.out]; exact HR1.out, HB.out⟩
  · obtain ⟨k0, hk0, rfl, hpre, hat⟩ : ∃ k : Nat, k < l.length ∧ i0 = k ∧ (∀ x ∈ l.take k, (fun x => (!decide (x.f4 > now))) x = false) ∧ (fun x => (!decide (x.f4 > now))) (l.getD k z48) = true := by
      rcases hidx with h | h | ⟨k, h1, h2, h3, h4⟩
      · exact absurd h.1 hm1
      · omega
      · exact ⟨k, h1, by omega, h3, h4⟩
    clear hidx HR1
    have hf0 : (l.take k0).filter (fun x => decide (x.f4 > now)) = l.take k0 := filter_all _ _ hpre
    have hfl : ((l.take k0).filter (fun x => decide (x.f4 > now))).length = k0 := by rw [hf0, List.length_take]; omega
    have HIk : rowI_48 w1 g cap l (fun x => decide (x.f4 > now)) k0 := by
      obtain ⟨cur, h1, h2, _, h4⟩ := HI1.out
      refine ⟨cur, h1, h2, ?_, fun t _ h6 => h4 t (by omega) h6⟩
      rw [hfl, hf0]
      have hlt0 : k0 * 5 < l.length * 5 := by omega
      have hlc : l.length * 5 ≤ cap * 5 := Nat.mul_le_mul_right _ hnc
      apply List.ext_getElem?
      intro i
      rw [← cellsL_take_48]
      by_cases hi : i < k0 * 5
      · rw [List.getElem?_take_of_lt hi, List.getElem?_take_of_lt hi, Array.getElem?_toList]
        exact h4 i (by omega) (by omega)
      · rw [List.getElem?_eq_none (by rw [List.length_take]; omega), List.getElem?_eq_none (by rw [List.length_take]; omega)]
    have hstep := rowI_skip_48 HIk hk0 (by simpa using hat)
    have hk1 := hstep.1.trans hfl
    have HS : Aside0 (rowI_48 w1 g cap l (fun x => decide (x.f4 > now)) (k0 + 1)) := ⟨hstep.2⟩
    have HK1 : Aside0 (((l.take (k0 + 1)).filter (fun x => decide (x.f4 > now))).length = k0) := ⟨hk1⟩
    have hkw : ((k0 : Int) == -1) = false := beq_eq_false_iff_ne.2 hm1
    have hkw2 : ¬ ((k0 : Int) = -1) := hm1
    clear hpre hat hf0 hfl HIk hstep hk1 HI1 hm1
    go_wp2_with fail
    go_loopw [5, 6] (fun v5 v6 wx => ∃ j : Nat, j ≤ l.length ∧ v6 = .int .i64 j ∧ v5 = .int .i64 (((l.take j).filter (fun x => decide (x.f4 > now))).length : Nat) ∧ ((l.take j).filter (fun x => decide (x.f4 > now))).length < j ∧ Aside0 (rowI_48 wx g cap l (fun x => decide (x.f4 > now)) j) ∧ Aside0 (Below b0 w wx)) (fun _ v6 _ => l.length - (intOf v6).toNat)
    case atStart => exact ⟨k0 + 1, by omega, by go_num, by rw [HK1.out], by rw [HK1.out]; omega, HS, HB⟩
    case round =>
      clear HS HK1 HB
      obtain ⟨j, hj, rfl, rfl, hcj, HS, HB⟩ := hrel
      obtain ⟨c, hc⟩ : ∃ c, ((l.take j).filter (fun x => decide (x.f4 > now))).length = c := ⟨_, rfl⟩
      rw [hc] at hcj ⊢
      have HC := Aside0.mk hc
      clear hc
      by_cases hlt : j < l.length
      · obtain ⟨x, hx⟩ : ∃ x, l.getD j z48 = x := ⟨_, rfl⟩
        obtain ⟨cur, h1, h2, h3, h4⟩ := HS.out
        have hlc : l.length * 5 ≤ cap * 5 := Nat.mul_le_mul_right _ hnc
        have hjl : (j + 1) * 5 ≤ l.length * 5 := Nat.mul_le_mul_right _ hlt
        have hcl : ∀ f v, f < 5 → (cells1_48 x)[f]? = some v → wr.cell? ⟨g, j * 5 + f, none⟩ = some v := fun f v hf hv => by
          rw [(cells_of h1).1, h4 _ (by omega) (by omega), cells_at_48 l j f hlt hf, hx, hv]
        have hy0 : wr.cell? ⟨g, j * 5, none⟩ = some (.int .i64 x.f0) := hcl 0 _ (by decide) rfl
        have hy1 : wr.cell? ⟨g, j * 5 + 1, none⟩ = some (.int .i64 x.f1) := hcl 1 _ (by decide) rfl
        have hy2 : wr.cell? ⟨g, j * 5 + 2, none⟩ = some (.int .u32 x.f2) := hcl 2 _ (by decide) rfl
        have hy3 : wr.cell? ⟨g, j * 5 + 3, none⟩ = some (.int .i64 x.f3) := hcl 3 _ (by decide) rfl
        have hy4 : wr.cell? ⟨g, j * 5 + 4, none⟩ = some (.int .i64 x.f4) := hcl 4 _ (by decide) rfl
        obtain ⟨b, hb⟩ : ∃ b, decide (x.f4 > now) = b := ⟨_, rfl⟩
        have HX := Aside0.mk hx
        have HBB := Aside0.mk hb
        have hcr := (cells_of h1).2.2
        have HLT := Aside0.mk hlt
        have hlt' : (j : Int) < (l.length : Int) := by omega
        have hcl' : (c : Int) < (l.length : Int) := by omega
        have hoT := Aside0.mk (low_box HB.out hgt HT.out)
        have hoN := Aside0.mk (low_box HB.out hgn HN.out)
        clear hcl h1 h2 h3 h4 hx hb hlt
        go_wp2_with fail
        go_at_call 35
        with_reducible refine (sift48_runs gt gn now _ _ _ _ _ _ (ext_alloc hoT.out _) (ext_alloc hoN.out _)).mono ?_
        rw [HBB.out]
        rintro e_ w2 ⟨rfl, hb_⟩
        have ob := Aside0.mk (box_below hb_ (nb_1 wr _))
        have HS2 : Aside0 (rowI_48 w2 g cap l (fun x => decide (x.f4 > now)) j) := by
          obtain ⟨cur, h1, h2⟩ := HS.out
          exact ⟨cur, box_below hb_ (ext_alloc h1 _), h2⟩
        have HB2 : Aside0 (Below b0 w w2) := ⟨HB.out.trans ((Below.alloc (Below.refl b0 wr) (by have := HB.out.size; omega) _).trans (Below.mono hb_ (by have := HB.out.size; simp; omega)))⟩
        obtain ⟨obc, obf, obl⟩ := cells_of ob.out
        clear hb_ HS HB hoT hoN
        cases b
        case false =>
          go_wp2
          go_roundw
          case rel =>
            have hs := rowI_skip_48 HS2.out HLT.out (by rw [HX.out]; exact HBB.out)
            exact ⟨j + 1, by have := HLT.out; omega, by go_num, by rw [hs.1, HC.out], by rw [hs.1, HC.out]; omega, ⟨hs.2⟩, HB2⟩
          case measure => have := HLT.out; simp [intOf]; omega
        case true =>
          have hth : w2.there g (c * 5) 5 := by
            obtain ⟨cur, h1, h2, _⟩ := HS2.out
            exact there_of h1 (by rw [h2]; have : (c + 1) * 5 ≤ cap * 5 := Nat.mul_le_mul_right _ (by have := HLT.out; omega); omega)
          have HTH := Aside0.mk hth
          clear hth
          go_wp2_with (first | ((with_reducible refine gate_store (t := 48) (p := 33) (v := .tmp 32) rfl ?_); refine wpList_store_mid rfl 48 _ _ rfl g (c * 5) #[.int .i64 x.f0, .int .i64 x.f1, .int .u32 x.f2, .int .i64 x.f3, .int .i64 x.f4] (by first | rfl | (simp [Act.eval, Act.put]; done)) (by first | rfl | (simp [Act.eval, Act.put]; done)) HTH.out (by rw [Option.map_eq_some_iff]; obtain ⟨i_, hq_, hi_⟩ := Option.map_eq_some_iff.1 info48; simp only [Prod.mk.injEq] at hi_; exact ⟨i_, hq_, hi_.2.1⟩) (by simp [Value.oneCell']) ?_; have HS3_ := rowI_keep_48 HS2.out hnc HLT.out HX.out HBB.out; rw [HC.out] at HS3_; have HS3 := Aside0.mk HS3_; have HB3 : Aside0 (Below b0 w (w2.setCells g (c * 5) [.int .i64 x.f0, .int .i64 x.f1, .int .u32 x.f2, .int .i64 x.f3, .int .i64 x.f4])) := ⟨below_cells hbg _ _ _ HB2.out⟩; clear HS3_; obtain ⟨w3, hw3⟩ : ∃ w3, w2.setCells g (c * 5) [.int .i64 x.f0, .int .i64 x.f1, .int .u32 x.f2, .int .i64 x.f3, .int .i64 x.f4] = w3 := ⟨_, rfl⟩; rw [show (cells1_48 x) = [.int .i64 x.f0, .int .i64 x.f1, .int .u32 x.f2, .int .i64 x.f3, .int .i64 x.f4] from rfl, hw3] at HS3; rw [hw3] at HB3; show wpList _ _ _ _ _ (w2.setCells g (c * 5) [.int .i64 x.f0, .int .i64 x.f1, .int .u32 x.f2, .int .i64 x.f3, .int .i64 x.f4]); rw [hw3]; clear hw3))
          go_roundw
          case rel => exact ⟨j + 1, by have := HLT.out; omega, by go_num, by rw [HS3.out.1]; go_num, by rw [HS3.out.1]; omega, ⟨HS3.out.2⟩, HB3⟩
          case measure => have := HLT.out; simp [intOf]; omega
      · obtain rfl : j = l.length := by omega
        rw [List.take_length] at HC
        obtain ⟨cur, h1, h2, h3, h4⟩ := HS.out
        rw [List.take_length, HC.out] at h3
        have hlc : l.length * 5 ≤ cap * 5 := Nat.mul_le_mul_right _ hnc
        have hcn : c * 5 + (l.length - c) * 5 = l.length * 5 := by rw [← Nat.add_mul]; congr 1; omega
        obtain ⟨zs, hzl, hclr⟩ := run_clear_48 wr 0 g (c * 5) (l.length - c) (cap - c) (by omega) (there_of h1 (by rw [hcn, h2]; exact hlc))
        obtain ⟨cur', g1, g2, g3⟩ := blk_cells (t := 48) zs (c * 5) wr cur h1
        have hfin : Kd.R k48 48 (wr.setCells g (c * 5) zs) b0 ok (.slice (some ⟨g, 0, none⟩) c cap) (l.filter (fun x => decide (x.f4 > now))) := by
          have hr := R_mk_48 (cap := cap) (ok := ok) (base := b0) (l := l.filter (fun x => decide (x.f4 > now))) g1 hbg HOK.out (by rw [HC.out]; omega) hcm (by rw [g2, h2]) ?_
          · rw [HC.out] at hr; exact hr
          · rw [HC.out, ← h3]
            apply List.ext_getElem?
            intro i
            by_cases hi : i < c * 5
            · rw [List.getElem?_take_of_lt hi, List.getElem?_take_of_lt hi, Array.getElem?_toList, Array.getElem?_toList, g3 i (by rw [h2]; omega), if_neg (by omega)]
            · rw [List.getElem?_eq_none (by rw [List.length_take]; omega), List.getElem?_eq_none (by rw [List.length_take]; omega)]
        have HFIN := Aside0.mk hfin
        have HBF : Aside0 (Below b0 w (wr.setCells g (c * 5) zs)) := ⟨below_cells hbg _ _ _ HB.out⟩
        obtain ⟨i096, hi096, hzz⟩ := Option.map_eq_some_iff.1 info48
        simp only [Prod.mk.injEq] at hzz
        have hcut1 := cut_from (P := Try.prog) 24 48 .i64 Try.underlying24 hi096 5 hzz.2.1 (some ⟨g, 0, none⟩) l.length cap (c : Int) (by omega) (by omega)
        have hcut2 := cut_to (P := Try.prog) 24 48 .i64 Try.underlying24 hi096 (some ⟨g, 0, none⟩) l.length cap (c : Int) (by omega) (by omega) hnc
        rw [Int.toNat_natCast] at hcut1 hcut2
        rw [if_neg (by omega)] at hcut1
        simp only [Option.map_some, add_eq, Nat.zero_add] at hcut1
        clear hfin g1 g2 g3 h1 h2 h3 h4 hzl hzz hi096 HS HB
        go_wp2
        go_ret
        exact ⟨_, rfl, HFIN.out, HBF.out⟩
set_option maxHeartbeats 1600000 in
set_option maxRecDepth 100000 in
theorem del39_runs (b0 gt gn : Nat) (now : Int) (g cap : Nat) (ok : Nat → Prop) (l : List S39) (w : World) (hR : Kd.R k39 39 w b0 ok (.slice (some ⟨g, 0, none⟩) l.length cap) l) (ht : w.heap[gt]? = some (.cells #[.func (.func 30) #[] #[.pointer (some ⟨gn, 0, none⟩)]] 60 (0, 0))) (hn : w.heap[gn]? = some (.cells #[.int .i64 now] 3 (0, 0))) (hgt : gt < b0) (hgn : gn < b0) :
    Calls Try.prog 36 #[.slice (some ⟨g, 0, none⟩) l.length cap, .func (.func 37) #[] #[.pointer (some ⟨gt, 0, none⟩)]] w fun e w' => ∃ v, e = .returned v ∧ Kd.R k39 39 w' b0 ok v (l.filter (fun x => decide (x.f3 > now))) ∧ Below b0 w w' := by
  obtain ⟨cur0, hh0, hbg, hkg, _, hnc, hcm, hcs0, ht0⟩ := R_cells_39 hR
  have hcm' : cap ≤ 9223372036854775807 := hcm
  have HOK := Aside0.mk hkg
  have HN := Aside0.mk hn
  have HT := Aside0.mk ht
  have hglt : g < w.heap.size := (cells_of hh0).2.2
  have HRC := Aside0.mk (Kd.R_reads' hR).2.2
  have hlm : (l.length : Int) ≤ 9223372036854775807 := by omega
  have hidx := idxP_spec (fun x => (!decide (x.f3 > now))) z39 l 0
  have HRR := Aside0.mk hR
  have HI0 : Aside0 (rowI_39 w g cap l (fun x => decide (x.f3 > now)) 0) := ⟨cur0, hh0, hcs0, by simp [cellsL_39], fun t _ h => by
    rw [← ht0, List.getElem?_take_of_lt h, Array.getElem?_toList]⟩
  obtain ⟨i0, hi0⟩ : ∃ i, idxP (fun x => (!decide (x.f3 > now))) l 0 = i := ⟨_, rfl⟩
  rw [hi0] at hidx
  have HX := Aside0.mk hi0
  have HDX := Aside0.mk hidx
  clear hR hn ht hkg hcs0 ht0 hh0 hi0 hidx
  go_enter Try.func36, Try.ntmps36
  go_wp2_with fail
  go_at_call 23
  with_reducible refine (indexS39_runs gt gn now (some ⟨g, 0, none⟩) cap l w HRC.out HT.out HN.out).mono ?_
  rw [HX.out]
  rintro e_ w1 ⟨rfl, hb_⟩
  have HB : Aside0 (Below b0 w w1) := ⟨Below.mono hb_ (by omega)⟩
  have HI1 : Aside0 (rowI_39 w1 g cap l (fun x => decide (x.f3 > now)) 0) := by
    obtain ⟨cur, h1, h2⟩ := HI0.out
    exact ⟨cur, box_below hb_ h1, h2⟩
  have HR1 := Aside0.mk (Kd.R_below HRR.out hb_)
  clear hb_ HI0 HRR
  have hidx := HDX.out
  clear HDX HX
  by_cases hm1 : i0 = -1
  · subst hm1
    have hall : ∀ x ∈ l, ((fun x => (!decide (x.f3 > now))) x) = false := by
      rcases hidx with h | h | ⟨k, _, h, _⟩
      · exact h.2.2
      · omega
      · omega
    have e : l.filter (fun x => decide (x.f3 > now)) = l := filter_all _ l hall
    have HE := Aside0.mk e
    clear hidx hall e
    go_wp2
    go_ret
    exact ⟨_, rfl, by rw [HE.out]; exact HR1.out, HB.out⟩
  · obtain ⟨k0, hk0, rfl, hpre, hat⟩ : ∃ k : Nat, k < l.length ∧ i0 = k ∧ (∀ x ∈ l.take k, (fun x => (!decide (x.f3 > now))) x = false) ∧ (fun x => (!decide (x.f3 > now))) (l.getD k z39) = true := by
      rcases hidx with h | h | ⟨k, h1, h2, h3, h4⟩
      · exact absurd h.1 hm1
      · omega
      · exact ⟨k, h1, by omega, h3, h4⟩
    clear hidx HR1
    have hf0 : (l.take k0).filter (fun x => decide (x.f3 > now)) = l.take k0 := filter_all _ _ hpre
    have hfl : ((l.take k0).filter (fun x => decide (x.f3 > now))).length = k0 := by rw [hf0, List.length_take]; omega
    have HIk : rowI_39 w1 g cap l (fun x => decide (x.f3 > now)) k0 := by
      obtain ⟨cur, h1, h2, _, h4⟩ := HI1.out
      refine ⟨cur, h1, h2, ?_, fun t _ h6 => h4 t (by omega) h6⟩
      rw [hfl, hf0]
      have hlt0 : k0 * 4 < l.length * 4 := by omega
      have hlc : l.length * 4 ≤ cap * 4 := Nat.mul_le_mul_right _ hnc
      apply List.ext_getElem?
      intro i
      rw [← cellsL_take_39]
      by_cases hi : i < k0 * 4
      · rw [List.getElem?_take_of_lt hi, List.getElem?_take_of_lt hi, Array.getElem?_toList]
        exact h4 i (by omega) (by omega)
      · rw [List.getElem?_eq_none (by rw [List.length_take]; omega), List.getElem?_eq_none (by rw [List.length_take]; omega)]
    have hstep := rowI_skip_39 HIk hk0 (by simpa using hat)
    have hk1 := hstep.1.trans hfl
    have HS : Aside0 (rowI_39 w1 g cap l (fun x => decide (x.f3 > now)) (k0 + 1)) := ⟨hstep.2⟩
    have HK1 : Aside0 (((l.take (k0 + 1)).filter (fun x => decide (x.f3 > now))).length = k0) := ⟨hk1⟩
    have hkw : ((k0 : Int) == -1) = false := beq_eq_false_iff_ne.2 hm1
    have hkw2 : ¬ ((k0 : Int) = -1) := hm1
    clear hpre hat hf0 hfl HIk hstep hk1 HI1 hm1
    go_wp2_with fail
    go_loopw [5, 6] (fun v5 v6 wx => ∃ j : Nat, j ≤ l.length ∧ v6 = .int .i64 j ∧ v5 = .int .i64 (((l.take j).filter (fun x => decide (x.f3 > now))).length : Nat) ∧ ((l.take j).filter (fun x => decide (x.f3 > now))).length < j ∧ Aside0 (rowI_39 wx g cap l (fun x => decide (x.f3 > now)) j) ∧ Aside0 (Below b0 w wx)) (fun _ v6 _ => l.length - (intOf v6).toNat)
    case atStart => exact ⟨k0 + 1, by omega, by go_num, by rw [HK1.out], by rw [HK1.out]; omega, HS, HB⟩
    case round =>
      clear HS HK1 HB
      obtain ⟨j, hj, rfl, rfl, hcj, HS, HB⟩ := hrel
      obtain ⟨c, hc⟩ : ∃ c, ((l.take j).filter (fun x => decide (x.f3 > now))).length = c := ⟨_, rfl⟩
      rw [hc] at hcj ⊢
      have HC := Aside0.mk hc
      clear hc
      by_cases hlt : j < l.length
      · obtain ⟨x, hx⟩ : ∃ x, l.getD j z39 = x := ⟨_, rfl⟩
        obtain ⟨cur, h1, h2, h3, h4⟩ := HS.out
        have hlc : l.length * 4 ≤ cap * 4 := Nat.mul_le_mul_right _ hnc
        have hjl : (j + 1) * 4 ≤ l.length * 4 := Nat.mul_le_mul_right _ hlt
        have hcl : ∀ f v, f < 4 → (cells1_39 x)[f]? = some v → wr.cell? ⟨g, j * 4 + f, none⟩ = some v := fun f v hf hv => by
          rw [(cells_of h1).1, h4 _ (by omega) (by omega), cells_at_39 l j f hlt hf, hx, hv]
        have hy0 : wr.cell? ⟨g, j * 4, none⟩ = some (.int .i64 x.f0) := hcl 0 _ (by decide) rfl
        have hy1 : wr.cell? ⟨g, j * 4 + 1, none⟩ = some (.int .i64 x.f1) := hcl 1 _ (by decide) rfl
        have hy2 : wr.cell? ⟨g, j * 4 + 2, none⟩ = some (.int .i64 x.f2) := hcl 2 _ (by decide) rfl
        have hy3 : wr.cell? ⟨g, j * 4 + 3, none⟩ = some (.int .i64 x.f3) := hcl 3 _ (by decide) rfl
        obtain ⟨b, hb⟩ : ∃ b, decide (x.f3 > now) = b := ⟨_, rfl⟩
        have HX := Aside0.mk hx
        have HBB := Aside0.mk hb
        have hcr := (cells_of h1).2.2
        have HLT := Aside0.mk hlt
        have hlt' : (j : Int) < (l.length : Int) := by omega
        have hcl' : (c : Int) < (l.length : Int) := by omega
        have hoT := Aside0.mk (low_box HB.out hgt HT.out)
        have hoN := Aside0.mk (low_box HB.out hgn HN.out)
        clear hcl h1 h2 h3 h4 hx hb hlt
        go_wp2_with fail
        go_at_call 37
        with_reducible refine (sift39_runs gt gn now _ _ _ _ _ (ext_alloc hoT.out _) (ext_alloc hoN.out _)).mono ?_
        rw [HBB.out]
        rintro e_ w2 ⟨rfl, hb_⟩
        have ob := Aside0.mk (box_below hb_ (nb_1 wr _))
        have HS2 : Aside0 (rowI_39 w2 g cap l (fun x => decide (x.f3 > now)) j) := by
          obtain ⟨cur, h1, h2⟩ := HS.out
          exact ⟨cur, box_below hb_ (ext_alloc h1 _), h2⟩
        have HB2 : Aside0 (Below b0 w w2) := ⟨HB.out.trans ((Below.alloc (Below.refl b0 wr) (by have := HB.out.size; omega) _).trans (Below.mono hb_ (by have := HB.out.size; simp; omega)))⟩
        obtain ⟨obc, obf, obl⟩ := cells_of ob.out
        clear hb_ HS HB hoT hoN
        cases b
        case false =>
          go_wp2
          go_roundw
          case rel =>
            have hs := rowI_skip_39 HS2.out HLT.out (by rw [HX.out]; exact HBB.out)
            exact ⟨j + 1, by have := HLT.out; omega, by go_num, by rw [hs.1, HC.out], by rw [hs.1, HC.out]; omega, ⟨hs.2⟩, HB2⟩
          case measure => have := HLT.out; simp [intOf]; omega
        case true =>
          have hth : w2.there g (c * 4) 4 := by
            obtain ⟨cur, h1, h2, _⟩ := HS2.out
            exact there_of h1 (by rw [h2]; have : (c + 1) * 4 ≤ cap * 4 := Nat.mul_le_mul_right _ (by have := HLT.out; omega); omega)
          have HTH := Aside0.mk hth
          clear hth
          go_wp2_with (first | ((with_reducible refine gate_store (t := 39) (p := 33) (v := .tmp 32) rfl ?_); refine wpList_store_mid rfl 39 _ _ rfl g (c * 4) #[.int .i64 x.f0, .int .i64 x.f1, .int .i64 x.f2, .int .i64 x.f3] (by first | rfl | (simp [Act.eval, Act.put]; done)) (by first | rfl | (simp [Act.eval, Act.put]; done)) HTH.out (by rw [Option.map_eq_some_iff]; obtain ⟨i_, hq_, hi_⟩ := Option.map_eq_some_iff.1 info39; simp only [Prod.mk.injEq] at hi_; exact ⟨i_, hq_, hi_.2.1⟩) (by simp [Value.oneCell']) ?_; have HS3_ := rowI_keep_39 HS2.out hnc HLT.out HX.out HBB.out; rw [HC.out] at HS3_; have HS3 := Aside0.mk HS3_; have HB3 : Aside0 (Below b0 w (w2.setCells g (c * 4) [.int .i64 x.f0, .int .i64 x.f1, .int .i64 x.f2, .int .i64 x.f3])) := ⟨below_cells hbg _ _ _ HB2.out⟩; clear HS3_; obtain ⟨w3, hw3⟩ : ∃ w3, w2.setCells g (c * 4) [.int .i64 x.f0, .int .i64 x.f1, .int .i64 x.f2, .int .i64 x.f3] = w3 := ⟨_, rfl⟩; rw [show (cells1_39 x) = [.int .i64 x.f0, .int .i64 x.f1, .int .i64 x.f2, .int .i64 x.f3] from rfl, hw3] at HS3; rw [hw3] at HB3; show wpList _ _ _ _ _ (w2.setCells g (c * 4) [.int .i64 x.f0, .int .i64 x.f1, .int .i64 x.f2, .int .i64 x.f3]); rw [hw3]; clear hw3))
          go_roundw
          case rel => exact ⟨j + 1, by have := HLT.out; omega, by go_num, by rw [HS3.out.1]; go_num, by rw [HS3.out.1]; omega, ⟨HS3.out.2⟩, HB3⟩
          case measure => have := HLT.out; simp [intOf]; omega
      · obtain rfl : j = l.length := by omega
        rw [List.take_length] at HC
        obtain ⟨cur, h1, h2, h3, h4⟩ := HS.out
        rw [List.take_length, HC.out] at h3
        have hlc : l.length * 4 ≤ cap * 4 := Nat.mul_le_mul_right _ hnc
        have hcn : c * 4 + (l.length - c) * 4 = l.length * 4 := by rw [← Nat.add_mul]; congr 1; omega
        obtain ⟨zs, hzl, hclr⟩ := run_clear_39 wr 0 g (c * 4) (l.length - c) (cap - c) (by omega) (there_of h1 (by rw [hcn, h2]; exact hlc))
        obtain ⟨cur', g1, g2, g3⟩ := blk_cells (t := 39) zs (c * 4) wr cur h1
        have hfin : Kd.R k39 39 (wr.setCells g (c * 4) zs) b0 ok (.slice (some ⟨g, 0, none⟩) c cap) (l.filter (fun x => decide (x.f3 > now))) := by
          have hr := R_mk_39 (cap := cap) (ok := ok) (base := b0) (l := l.filter (fun x => decide (x.f3 > now))) g1 hbg HOK.out (by rw [HC.out]; omega) hcm (by rw [g2, h2]) ?_
          · rw [HC.out] at hr; exact hr
          · rw [HC.out, ← h3]
            apply List.ext_getElem?
            intro i
            by_cases hi : i < c * 4
            · rw [List.getElem?_take_of_lt hi, List.getElem?_take_of_lt hi, Array.getElem?_toList, Array.getElem?_toList, g3 i (by rw [h2]; omega), if_neg (by omega)]
            · rw [List.getElem?_eq_none (by rw [List.length_take]; omega), List.getElem?_eq_none (by rw [List.length_take]; omega)]
        have HFIN := Aside0.mk hfin
        have HBF : Aside0 (Below b0 w (wr.setCells g (c * 4) zs)) := ⟨below_cells hbg _ _ _ HB.out⟩
        obtain ⟨i096, hi096, hzz⟩ := Option.map_eq_some_iff.1 info39
        simp only [Prod.mk.injEq] at hzz
        have hcut1 := cut_from (P := Try.prog) 25 39 .i64 Try.underlying25 hi096 4 hzz.2.1 (some ⟨g, 0, none⟩) l.length cap (c : Int) (by omega) (by omega)
        have hcut2 := cut_to (P := Try.prog) 25 39 .i64 Try.underlying25 hi096 (some ⟨g, 0, none⟩) l.length cap (c : Int) (by omega) (by omega) hnc
        rw [Int.toNat_natCast] at hcut1 hcut2
        rw [if_neg (by omega)] at hcut1
        simp only [Option.map_some, add_eq, Nat.zero_add] at hcut1
        clear hfin g1 g2 g3 h1 h2 h3 h4 hzl hzz hi096 HS HB
        go_wp2
        go_ret
        exact ⟨_, rfl, HFIN.out, HBF.out⟩
end Go.Proofs.Ytnjgejjijboibaa.Q
end
section
/- nat.Check whole, nat.may; rows with footprints. -/
namespace Go.Proofs.Ytnjgejjijboibaa.Q
open Go.RowKit Go.Proofs.YtnjgejjijboibaaW.PrintWords Go.Proofs.YtnjgejjijboibaaW.PrintLast Go.Proofs.YtnjgejjijboibaaW.PrintMore Go.Proofs.Ytnjgejjijboibaa.L
attribute [local go_sem] Instr.field part asAgg lt_step max2_int min2_int max_two min_two max_three min_three max_four min_four lt_0_1 lt_0_2 lt_1_2 lt_0_3 lt_1_3 lt_2_3 lt_0_4 lt_1_4 lt_2_4 lt_3_4 lt_0_5 lt_1_5 lt_2_5 lt_3_5 lt_4_5 lt_0_6 lt_1_6 lt_2_6 lt_3_6 lt_4_6 lt_5_6 lt_0_7 lt_1_7 lt_2_7 lt_3_7 lt_4_7 lt_5_7 lt_6_7 lt_0_8 lt_1_8 lt_2_8 lt_3_8 lt_4_8 lt_5_8 lt_6_8 lt_7_8
set_option linter.unusedVariables false
set_option linter.unusedSimpArgs false
theorem F_of_C48 {W : World} {ok : Nat → Prop} {A : Option Addr} {n : Nat} {xs : List S48} (h : Kd.C k48 W A n xs) (hb : ∀ ad, A = some ad → 0 < n → ok ad.block) : Kd.F k48 W ok A n xs := by
  intro W' hW
  obtain ⟨h1, h2, h3⟩ := h
  refine ⟨h1, h2, fun hp => ?_⟩
  obtain ⟨ad, e, hc⟩ := h3 hp
  refine ⟨ad, e, fun i p hi => ?_⟩
  obtain ⟨c, hl, hK, hcell⟩ := hc i p hi
  refine ⟨c, hl, by rw [k48_open hK]; exact k48_mk _ _, fun q v hv => ?_⟩
  have h5 := hcell q v hv
  refine cell_of_heap h5 ?_
  rw [L.add_block]
  have h6 := World.block_lt_of_cell? W _ h5
  rw [L.add_block] at h6
  exact hW _ (hb ad e hp) h6
theorem F_in48 {W : World} {A : Option Addr} {n : Nat} {xs : List S48} (h : Kd.C k48 W A n xs) : Kd.F k48 W (fun j => j < W.heap.size) A n xs := by
  refine F_of_C48 h (fun ad e hp => ?_)
  obtain ⟨ad', e', hc⟩ := h.2.2 hp
  rw [e] at e'; injection e' with e'; subst e'
  have hx : 0 < xs.length := by rw [h.1]; exact hp
  obtain ⟨c, hl, hK, hcell⟩ := hc 0 (xs[0]) (List.getElem?_eq_getElem hx)
  have hl' : 0 < c.length := by rw [k48_open hK]; simp
  have h6 := World.block_lt_of_cell? W _ (hcell 0 c[0] (List.getElem?_eq_getElem hl'))
  rw [L.add_block] at h6
  exact h6
theorem R_or48 {w : World} {base : Nat} {ok : Nat → Prop} {v : Value} {l : List S48} (h : Kd.R k48 48 w base ok v l) : (v = .slice none 0 0 ∧ l = []) ∨ ∃ g cap, v = .slice (some ⟨g, 0, none⟩) l.length cap ∧ base ≤ g ∧ l.length ≤ cap := by
  obtain ⟨hok, inner, ⟨hl, ho⟩, hr⟩ := h
  rcases ho with ⟨hv, hx⟩ | ⟨g', cap', cur, hv, hb, hh, hnc, hcm, hcs, ht⟩
  · refine .inl ⟨hv, ?_⟩
    first | exact hx | (have := hr.1; rw [hx] at this; simp at this; exact this) | (have e := reps_cells_48 l inner hr; cases l with | nil => rfl | cons x l => (simp_all [cellsL_48, cells1_48]))
  · exact .inr ⟨g', cap', hv, hb, hnc⟩
theorem R_F48 {w : World} {base : Nat} {ok : Nat → Prop} {v : Value} {xs : List S48} (h : Kd.R k48 48 w base ok v xs) : ∃ A c, v = .slice A xs.length c ∧ xs.length ≤ c ∧ Kd.F k48 w (fun j => base ≤ j) A xs.length xs := by
  rcases R_or48 h with ⟨rfl, rfl⟩ | ⟨g, cap, rfl, hb, hc⟩
  · exact ⟨none, 0, rfl, Nat.le_refl _, F_of_C48 (Kd.R_reads' h).2.2 (fun ad e _ => by cases e)⟩
  · exact ⟨some ⟨g, 0, none⟩, cap, rfl, hc, F_of_C48 (Kd.R_reads' h).2.2 (fun ad e _ => by injection e with e; rw [← e]; exact hb)⟩
theorem F_of_C39 {W : World} {ok : Nat → Prop} {A : Option Addr} {n : Nat} {xs : List S39} (h : Kd.C k39 W A n xs) (hb : ∀ ad, A = some ad → 0 < n → ok ad.block) : Kd.F k39 W ok A n xs := by
  intro W' hW
  obtain ⟨h1, h2, h3⟩ := h
  refine ⟨h1, h2, fun hp => ?_⟩
  obtain ⟨ad, e, hc⟩ := h3 hp
  refine ⟨ad, e, fun i p hi => ?_⟩
  obtain ⟨c, hl, hK, hcell⟩ := hc i p hi
  refine ⟨c, hl, by rw [k39_open hK]; exact k39_mk _ _, fun q v hv => ?_⟩
  have h5 := hcell q v hv
  refine cell_of_heap h5 ?_
  rw [L.add_block]
  have h6 := World.block_lt_of_cell? W _ h5
  rw [L.add_block] at h6
  exact hW _ (hb ad e hp) h6
theorem F_in39 {W : World} {A : Option Addr} {n : Nat} {xs : List S39} (h : Kd.C k39 W A n xs) : Kd.F k39 W (fun j => j < W.heap.size) A n xs := by
  refine F_of_C39 h (fun ad e hp => ?_)
  obtain ⟨ad', e', hc⟩ := h.2.2 hp
  rw [e] at e'; injection e' with e'; subst e'
  have hx : 0 < xs.length := by rw [h.1]; exact hp
  obtain ⟨c, hl, hK, hcell⟩ := hc 0 (xs[0]) (List.getElem?_eq_getElem hx)
  have hl' : 0 < c.length := by rw [k39_open hK]; simp
  have h6 := World.block_lt_of_cell? W _ (hcell 0 c[0] (List.getElem?_eq_getElem hl'))
  rw [L.add_block] at h6
  exact h6
theorem R_or39 {w : World} {base : Nat} {ok : Nat → Prop} {v : Value} {l : List S39} (h : Kd.R k39 39 w base ok v l) : (v = .slice none 0 0 ∧ l = []) ∨ ∃ g cap, v = .slice (some ⟨g, 0, none⟩) l.length cap ∧ base ≤ g ∧ l.length ≤ cap := by
  obtain ⟨hok, inner, ⟨hl, ho⟩, hr⟩ := h
  rcases ho with ⟨hv, hx⟩ | ⟨g', cap', cur, hv, hb, hh, hnc, hcm, hcs, ht⟩
  · refine .inl ⟨hv, ?_⟩
    first | exact hx | (have := hr.1; rw [hx] at this; simp at this; exact this) | (have e := reps_cells_39 l inner hr; cases l with | nil => rfl | cons x l => (simp_all [cellsL_39, cells1_39]))
  · exact .inr ⟨g', cap', hv, hb, hnc⟩
theorem R_F39 {w : World} {base : Nat} {ok : Nat → Prop} {v : Value} {xs : List S39} (h : Kd.R k39 39 w base ok v xs) : ∃ A c, v = .slice A xs.length c ∧ xs.length ≤ c ∧ Kd.F k39 w (fun j => base ≤ j) A xs.length xs := by
  rcases R_or39 h with ⟨rfl, rfl⟩ | ⟨g, cap, rfl, hb, hc⟩
  · exact ⟨none, 0, rfl, Nat.le_refl _, F_of_C39 (Kd.R_reads' h).2.2 (fun ad e _ => by cases e)⟩
  · exact ⟨some ⟨g, 0, none⟩, cap, rfl, hc, F_of_C39 (Kd.R_reads' h).2.2 (fun ad e _ => by injection e with e; rw [← e]; exact hb)⟩
def checkZ (fl : List S48) (ql : List S39) : Bool := decide (fl.length ≤ 16) && decide (ql.length ≤ 16) && (okF [] fl && okQ [] ql)
set_option maxHeartbeats 1600000 in
set_option maxRecDepth 100000 in
theorem check_long (A0 : Option Addr) (c0 n0 : Nat) (A1 : Option Addr) (c1 n1 : Nat) (w : World) (e0 e1 : Bool) (h0 : decide ((n0 : Int) > 16) = e0) (h1 : decide ((n1 : Int) > 16) = e1) (h : (e0 || e1) = true) :
    Calls Try.prog 10 #[.agg #[.slice A0 n0 c0, .slice A1 n1 c1]] w fun e w' => e = .returned (.bool false) ∧ Below w.heap.size w w' := by
  have HB := Aside0.mk (Below.refl w.heap.size w)
  have hu := Try.underlying27
  go_enter Try.func10, Try.ntmps10
  cases e0
  case true =>
    go_wp2
    go_ret
    exact ⟨rfl, (bG HB)⟩
  case false =>
    obtain rfl : e1 = true := by simpa using h
    go_wp2
    go_ret
    exact ⟨rfl, (bG HB)⟩
theorem check_runs (A0 : Option Addr) (c0 : Nat) (fl : List S48) (A1 : Option Addr) (c1 : Nat) (ql : List S39) (w : World) (hr0 : Kd.C k48 w A0 fl.length fl) (hr1 : Kd.C k39 w A1 ql.length ql) (hwf : ∀ x ∈ fl, wfF x) (hwq : ∀ x ∈ ql, wfQ x) (r : Bool) (hr : checkZ fl ql = r) :
    Calls Try.prog 10 #[.agg #[.slice A0 fl.length c0, .slice A1 ql.length c1]] w fun e w' => e = .returned (.bool r) ∧ Below w.heap.size w w' := by
  unfold checkZ at hr
  by_cases h0 : fl.length ≤ 16
  · by_cases h1 : ql.length ≤ 16
    · rw [decide_eq_true h0, decide_eq_true h1, Bool.true_and, Bool.true_and] at hr
      subst hr
      exact check_main A0 c0 fl A1 c1 ql w hr0 hr1 hwf hwq h0 h1 _ _ rfl rfl
    · rw [decide_eq_false h1, Bool.and_false, Bool.false_and] at hr
      subst hr
      exact check_long A0 c0 fl.length A1 c1 ql.length w _ _ rfl rfl (by simp; omega)
  · rw [decide_eq_false h0, Bool.false_and, Bool.false_and] at hr
    subst hr
    exact check_long A0 c0 fl.length A1 c1 ql.length w _ _ rfl rfl (by simp; omega)
def mayZ (fl : List S48) (ql : List S39) (now : Int) : Bool := checkZ fl ql && decide (now ≥ 0) && decide (now ≤ 1099511627716)
set_option maxHeartbeats 1600000 in
set_option maxRecDepth 100000 in
theorem may_runs (A0 : Option Addr) (c0 : Nat) (fl : List S48) (A1 : Option Addr) (c1 : Nat) (ql : List S39) (now : Int) (w : World) (ok0 ok1 : Nat → Prop) (hr0 : Kd.F k48 w ok0 A0 fl.length fl) (hr1 : Kd.F k39 w ok1 A1 ql.length ql) (hwf : ∀ x ∈ fl, wfF x) (hwq : ∀ x ∈ ql, wfQ x) (r : Bool) (hr : mayZ fl ql now = r) :
    Calls Try.prog 14 #[.agg #[.slice A0 fl.length c0, .slice A1 ql.length c1], .int .i64 now] w fun e w' => e = .returned (.bool r) ∧ Below w.heap.size w w' := by
  have HB := Aside0.mk (Below.refl w.heap.size w)
  have H0 := Aside0.mk (Kd.F_bound hr0)
  have H1 := Aside0.mk (Kd.F_bound hr1)
  have HWF := Aside0.mk hwf
  have HWQ := Aside0.mk hwq
  obtain ⟨k, hk⟩ : ∃ k, checkZ fl ql = k := ⟨_, rfl⟩
  have HK := Aside0.mk hk
  unfold mayZ at hr
  rw [hk] at hr
  have hu := Try.underlying27
  clear hr0 hr1 hwf hwq hk
  go_enter Try.func14, Try.ntmps14
  go_wp2_with fail
  go_at_call 10
  with_reducible refine (check_runs A0 c0 fl A1 c1 ql _ (Kd.F_now (fG H0)) (Kd.F_now (fG H1)) HWF.out HWQ.out k HK.out).mono ?_
  rintro e_ w1 ⟨rfl, hb_⟩
  have HB_ : Aside0 (Below w.heap.size w w1) := Aside0.mk (below_step (bG HB) hb_)
  clear HB hb_
  have HB := HB_
  subst hr
  cases k
  all_goals go_wp2
  all_goals go_ret
  all_goals exact ⟨by simp [*] <;> (intros; omega), HB.out⟩
end Go.Proofs.Ytnjgejjijboibaa.Q
end
