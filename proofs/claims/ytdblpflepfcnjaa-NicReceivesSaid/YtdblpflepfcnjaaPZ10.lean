import Derived.Test.YtdblpflepfcnjaaPXRr3
import Derived.Test.YtdblpflepfcnjaaPZ4
import Derived.Test.YtdblpflepfcnjaaPZ9
import Derived.Lib.Bytes
import Derived.Test.YtdblpflepfcnjaaPZ1
import Derived.Test.YtdblpflepfcnjaaPZ8
import Derived.Test.YtdblpflepfcnjaaPZ3
section
/- The document's Receive, whole: it answers as the program's. -/
namespace Go.Proofs.Ytdblpflepfcnjaa.Q
open Go.RowKit Go.Proofs.YtdblpflepfcnjaaW.PrintWords Go.Proofs.YtdblpflepfcnjaaW.PrintLast Go.Proofs.YtdblpflepfcnjaaW.PrintMore Go.Proofs.Ytdblpflepfcnjaa.L
set_option linter.unusedVariables false
theorem ctl8_all : ∀ n ∈ List.range 8, (Go.bits .and .i64 (n : Int) 2 == 0) = (Int.tmod (wrap64 (Int.tdiv (n : Int) 2)) 2 == 0) ∧ ((Int.tmod (wrap64 (Int.tdiv (n : Int) 2)) 2 == 0) = false → wrap64 ((n : Int) - 2) = Go.bits .andNot .i64 (n : Int) 2) ∧ decide (Go.bits .and .i64 (n : Int) 4 > 0) = (wrap64 (Int.tdiv (n : Int) 4) == 1) := by decide +kernel
theorem bytesOf_inj : ∀ (a b : List Int), (∀ z ∈ a, byte z) → (∀ z ∈ b, byte z) → (Lib.bytesOf a = Lib.bytesOf b ↔ a = b)
  | [], [], _, _ => by simp [Lib.bytesOf]
  | [], y :: ys, _, _ => by simp [Lib.bytesOf]
  | x :: xs, [], _, _ => by simp [Lib.bytesOf]
  | x :: xs, y :: ys, ha, hb => by
    have ih := bytesOf_inj xs ys (fun z hz => ha z (List.mem_cons_of_mem _ hz)) (fun z hz => hb z (List.mem_cons_of_mem _ hz))
    have hx := ha x (List.mem_cons_self ..)
    have hy := hb y (List.mem_cons_self ..)
    unfold byte at hx hy
    unfold Lib.bytesOf at ih ⊢
    simp only [List.map_cons, List.cons.injEq, ih]
    refine and_congr_left fun _ => ⟨fun h => ?_, fun h => by rw [h]⟩
    have h2 := congrArg UInt8.toNat h
    rw [UInt8.toNat_ofNat', UInt8.toNat_ofNat', Nat.mod_eq_of_lt (by omega), Nat.mod_eq_of_lt (by omega)] at h2
    omega
theorem eqS_is (a b : List Int) (ha : ∀ z ∈ a, byte z) (hb : ∀ z ∈ b, byte z) : eqS a b = (a == b) := by
  unfold eqS
  rw [Lib.strOfNums_toList, Lib.strOfNums_toList]
  refine Bool.eq_iff_iff.2 ?_
  rw [beq_iff_eq, beq_iff_eq]
  exact bytesOf_inj a b ha hb
theorem mineK_iff (mac fr : List Int) : ∀ k, mineK mac fr k = true ↔ ∀ i, i < k → fr.getD i 0 = mac.getD i 0
  | 0 => by simp [mineK]
  | k + 1 => by
    unfold mineK
    rw [Bool.and_eq_true, mineK_iff mac fr k, beq_iff_eq]
    exact ⟨fun h i hi => by rcases Nat.lt_succ_iff_lt_or_eq.1 hi with h2 | rfl; exact h.1 i h2; exact h.2, fun h => ⟨fun i hi => h i (by omega), h k (by omega)⟩⟩
theorem everK_iff (fr : List Int) : ∀ k, everK fr k = true ↔ ∀ i, i < k → fr.getD i 0 = 255
  | 0 => by simp [everK]
  | k + 1 => by
    unfold everK
    rw [Bool.and_eq_true, everK_iff fr k, beq_iff_eq]
    exact ⟨fun h i hi => by rcases Nat.lt_succ_iff_lt_or_eq.1 hi with h2 | rfl; exact h.1 i h2; exact h.2, fun h => ⟨fun i hi => h i (by omega), h k (by omega)⟩⟩
theorem take6_iff (fr m : List Int) (h6 : m.length = 6) (h14 : 14 ≤ fr.length) : fr.take 6 = m ↔ ∀ i, i < 6 → fr.getD i 0 = m.getD i 0 := by
  constructor
  · rintro rfl i hi
    rw [List.getD_eq_getElem?_getD, List.getD_eq_getElem?_getD, List.getElem?_take_of_lt hi]
  · intro h
    refine List.ext_getElem? fun i => ?_
    by_cases hi : i < 6
    · have := h i hi
      rw [List.getD_eq_getElem?_getD, List.getD_eq_getElem?_getD] at this
      rw [List.getElem?_take_of_lt hi, List.getElem?_eq_getElem (by omega), List.getElem?_eq_getElem (by omega)]
      rw [List.getElem?_eq_getElem (by omega), List.getElem?_eq_getElem (by omega)] at this
      exact congrArg some this
    · rw [List.getElem?_eq_none (by rw [List.length_take]; omega), List.getElem?_eq_none (by omega)]
theorem for_is (c : Nat → Int) (mac fr : List Int) (h0 : 0 ≤ c 0 ∧ c 0 < 8) (h6 : mac.length = 6) (h14 : 14 ≤ fr.length) (hm : ∀ z ∈ mac, byte z) (hf : ∀ z ∈ fr, byte z) :
    ((wrap64 (Int.tdiv (c 0) 4) == 1) || mineK mac fr 6 || everK fr 6) = forZ c mac fr := by
  unfold forZ
  have e := (ctl8_all (c 0).toNat (List.mem_range.2 (by omega))).2.2
  rw [Int.toNat_of_nonneg h0.1] at e
  have ht : ∀ z ∈ fr.take 6, byte z := fun z hz => hf z (List.mem_of_mem_take hz)
  rw [e, eqS_is _ _ ht hm, eqS_is _ _ ht (by intro z hz; rw [List.eq_of_mem_replicate hz]; unfold byte; decide)]
  have a1 : mineK mac fr 6 = (fr.take 6 == mac) := Bool.eq_iff_iff.2 (by rw [mineK_iff, beq_iff_eq, take6_iff fr mac h6 h14])
  have a2 : everK fr 6 = (fr.take 6 == List.replicate 6 255) := Bool.eq_iff_iff.2 (by
    rw [everK_iff, beq_iff_eq, take6_iff fr _ (by simp) h14]
    refine ⟨fun h i hi => ?_, fun h i hi => ?_⟩
    · rw [h i hi, List.getD_eq_getElem?_getD, List.getElem?_replicate, if_pos hi]; rfl
    · have := h i hi
      rwa [List.getD_eq_getElem?_getD (l := List.replicate 6 255), List.getElem?_replicate, if_pos hi] at this)
  rw [a1, a2]
section
variable (A : Option Addr) (cap : Nat) (mac : List Int) (R : Option Addr) (rc : Nat) (l : List Int) (FA : Option Addr) (fc : Nat) (fr : List Int) (c : Nat → Int) (w : World) (okm ok okf : Nat → Prop) (hm : Kd.F (Kd.int .u8) w okm A mac.length mac) (hmc : mac.length ≤ cap) (hr : Kd.F (Kd.int .u8) w ok R l.length l) (hc : l.length ≤ rc) (hf : Kd.F (Kd.int .u8) w okf FA fr.length fr) (hfc : fr.length ≤ fc) (hl : (l.length : Int) ≤ 70000) (hby : ∀ z ∈ l, byte z) (hmb : ∀ z ∈ mac, byte z) (hfb : ∀ z ∈ fr, byte z) (hfl : (fr.length : Int) ≤ 3000) (h3 : 0 ≤ c 3) (h7 : 0 ≤ c 7)
include hm hmc hr hc hf hfc hl hby hmb hfb hfl h3 h7
theorem RRecv_is : Calls Try.prog 28 #[.agg (C14 c (.slice A mac.length cap)), .agg #[.slice R l.length rc], .slice FA fr.length fc] w (RecvPost A mac.length cap ok w (recvZ c mac l fr).1 (recvZ c mac l fr).2.1 (recvZ c mac l fr).2.2) := by
  unfold recvZ
  by_cases hk : okC c mac.length = false
  · rw [if_pos hk]; exact rrecv_x A cap mac R rc l FA fc fr c w okm ok okf hm hmc hr hc hf hfc h3 h7 hk
  rw [if_neg hk]
  have hk := eq_t hk
  have K := (okC_iff c _).1 hk
  have hC := ctl8_all (c 0).toNat (List.mem_range.2 (by have := K.ctrl; omega))
  rw [Int.toNat_of_nonneg K.ctrl.1] at hC
  obtain ⟨hC1, hC2, hC3⟩ := hC
  have hwant : ∀ W, Kd.F (Kd.int .u8) W (fun _ => True) A mac.length mac → Kd.F (Kd.int .u8) W (fun _ => True) FA fr.length fr → decide ((fr.length : Int) < 14) = false → Calls Try.prog 50 #[.agg (C14 c (.slice A mac.length cap)), .slice FA fr.length fc] W fun e w' => e = .returned (.bool (forZ c mac fr)) ∧ Below W.heap.size W w' := by
    intro W hm' hf' h1
    have h14 : 14 ≤ fr.length := by have := of_decide_eq_false h1; omega
    rw [← for_is c mac fr K.ctrl K.mac h14 hmb hfb]
    exact rwanted_is A cap mac FA fc fr c W _ _ hm' hmc hf' hfc K.mac h14 _ rfl (by rw [beq_iff_eq])
  have hwz : wantsZ c mac fr = !(decide ((fr.length : Int) < 14) || decide ((fr.length : Int) > 1514) || (Int.tmod (wrap64 (Int.tdiv (c 0) 2)) 2 == 0) || !forZ c mac fr || (c 9 == c 10)) := by
    unfold wantsZ gateZ
    rw [hC1]
    show _ = !(decide ((fr.length : Int) < 14) || decide ((1514 : Int) < (fr.length : Int)) || (Int.tmod (wrap64 (Int.tdiv (c 0) 2)) 2 == 0) || !forZ c mac fr || (c 9 == c 10))
    cases decide ((fr.length : Int) < 14) <;> cases decide ((1514 : Int) < (fr.length : Int)) <;> cases (Int.tmod (wrap64 (Int.tdiv (c 0) 2)) 2 == 0) <;> cases forZ c mac fr <;> cases (c 9 == c 10) <;> rfl
  by_cases hw : wantsZ c mac fr = false
  · rw [if_pos hw]
    rw [hwz, Bool.not_eq_false'] at hw
    exact rrecv_no A cap mac R rc l FA fc fr c w okm ok okf hm hmc hr hc hf hfc h3 h7 hk _ _ _ _ _ rfl rfl rfl (by rw [beq_iff_eq]) hwant rfl hw
  rw [if_neg hw]
  have hw := eq_t hw
  rw [hwz, Bool.not_eq_true'] at hw
  have hc2 : (Int.tmod (wrap64 (Int.tdiv (c 0) 2)) 2 == 0) = false := by
    simp only [Bool.or_eq_false_iff] at hw
    exact hw.1.1.2
  have ha := wrap_u (c 7 + IntKind.u64.wrap (16 * IntKind.u64.wrap (c 9)))
  by_cases hp : (placeZ l.length (atR c) 16).2 = false
  · rw [if_pos hp]
    exact rrecv_nodesc A cap mac R rc l FA fc fr c w okm ok okf hm hmc hr hc hf hfc (atR c) h3 h7 hk _ _ _ _ _ rfl rfl rfl (by rw [beq_iff_eq]) hwant rfl hw rfl ha hl (by unfold bytesZ; rw [if_neg (by rw [hp]; decide)]) (hC2 hc2)
  rw [if_neg hp]
  have hp := eq_t hp
  have hbz : bytesZ l (atR c) 16 = (cutL l (atR c) 16, true) := by unfold bytesZ; rw [if_pos hp]
  have hdl : (cutL l (atR c) 16).length = 16 := cut_len l (atR c) 16 hp
  have hdb := cut_byte l (atR c) 16 hby
  have hx := getD_byte _ hdb 10
  have hodd := odd_is _ hx
  by_cases ho : (Go.bits .and .u8 (flagD (cutL l (atR c) 16)) 1 == 1) = false
  · rw [if_pos ho]
    have h0 : ((cutL l (atR c) 16).getD 10 0 % 2 == 0) = true := by
      unfold flagD at ho
      rw [hodd] at ho
      have := beq_eq_false_iff_ne.1 ho
      refine beq_iff_eq.2 ?_
      omega
    exact rrecv_notown A cap mac R rc l FA fc fr c w okm ok okf hm hmc hr hc hf hfc (atR c) h3 h7 hk _ _ _ _ _ rfl rfl rfl (by rw [beq_iff_eq]) hwant rfl hw rfl ha hl _ _ hbz hdl rfl (by rw [tm2 _ hx.1]; exact h0) h0
  rw [if_neg ho]
  have ho := eq_t ho
  have h0 : ((cutL l (atR c) 16).getD 10 0 % 2 == 0) = false := by
    unfold flagD at ho
    rw [hodd] at ho
    have := beq_iff_eq.1 ho
    refine beq_eq_false_iff_ne.2 ?_
    omega
  have h0' : (Int.tmod ((cutL l (atR c) 16).getD 10 0) 2 == 0) = false := by rw [tm2 _ hx.1]; exact h0
  obtain ⟨hbu, hs0, hs1⟩ := desc_bounds l (atR c) hby hp
  have hne : ¬ c 8 = 0 := by have := K.rn; omega
  have hws : wrap64 (sizeD (cutL l (atR c) 16)) = sizeD (cutL l (atR c) 16) := w64 (by omega) (by omega)
  unfold takeZ doneL
  by_cases h1 : sizeD (cutL l (atR c) 16) < (fr.length : Int)
  · rw [if_pos h1]
    exact rrecv_bad A cap mac R rc l FA fc fr c w okm ok okf hm hmc hr hc hf hfc (atR c) h3 h7 hk _ _ _ _ _ rfl rfl rfl (by rw [beq_iff_eq]) hwant rfl hw rfl ha hl _ _ hbz hdl rfl h0' h0 hne hbu hdb hws (by omega) true _ (decide_eq_true h1) rfl rfl
  rw [if_neg h1]
  by_cases h2 : (placeZ l.length (bufD (cutL l (atR c) 16)) fr.length).2 = false
  · rw [if_pos h2]
    exact rrecv_bad A cap mac R rc l FA fc fr c w okm ok okf hm hmc hr hc hf hfc (atR c) h3 h7 hk _ _ _ _ _ rfl rfl rfl (by rw [beq_iff_eq]) hwant rfl hw rfl ha hl _ _ hbz hdl rfl h0' h0 hne hbu hdb hws (by omega) false false (decide_eq_false h1) h2 rfl
  rw [if_neg h2]
  have hwr : writeL l (IntKind.u64.wrap (atR c + 8)) 2 (fr.length : Int) = fillL l (IntKind.u64.wrap (atR c + 8)) (putB (fr.length : Int) 2 false) := by unfold writeL; rw [if_pos (by decide)]
  rw [hwr]
  exact rrecv_good A cap mac R rc l FA fc fr c w okm ok okf hm hmc hr hc hf hfc (atR c) h3 h7 hk _ _ _ _ _ rfl rfl rfl (by rw [beq_iff_eq]) hwant rfl hw rfl ha hl _ _ hbz hdl rfl h0' h0 hne hbu hdb hws (by omega) (decide_eq_false h1) (eq_t h2)
end
theorem RRecv_of (S : RR) (A : Option Addr) (cap : Nat) (mac : List Int) (R : Option Addr) (rc : Nat) (l : List Int) (FA : Option Addr) (fc : Nat) (fr : List Int) (c : Nat → Int) (w : World) (okm ok okf : Nat → Prop) (hm : Kd.F (Kd.int .u8) w okm A mac.length mac) (hmc : mac.length ≤ cap) (hr : Kd.F (Kd.int .u8) w ok R l.length l) (hc : l.length ≤ rc) (hf : Kd.F (Kd.int .u8) w okf FA fr.length fr) (hfc : fr.length ≤ fc) (hl : (l.length : Int) ≤ 70000) (hby : ∀ z ∈ l, byte z) (hmb : ∀ z ∈ mac, byte z) (hfb : ∀ z ∈ fr, byte z) (hfl : (fr.length : Int) ≤ 3000) (h3 : 0 ≤ c 3) (h7 : 0 ≤ c 7) (hS : recvZ c mac l fr = S) :
    Calls Try.prog 28 #[.agg (C14 c (.slice A mac.length cap)), .agg #[.slice R l.length rc], .slice FA fr.length fc] w (RecvPost A mac.length cap ok w S.1 S.2.1 S.2.2) := by
  subst hS
  exact RRecv_is A cap mac R rc l FA fc fr c w okm ok okf hm hmc hr hc hf hfc hl hby hmb hfb hfl h3 h7
end Go.Proofs.Ytdblpflepfcnjaa.Q
end
section
/- NicReceives, walked: what a frame that comes makes. -/
namespace Go.Proofs.Ytdblpflepfcnjaa.Q
open Go.RowKit Go.Proofs.YtdblpflepfcnjaaW.PrintWords Go.Proofs.YtdblpflepfcnjaaW.PrintLast Go.Proofs.YtdblpflepfcnjaaW.PrintMore Go.Proofs.Ytdblpflepfcnjaa.L
attribute [local go_sem] Instr.field part asAgg lt_step max2_int min2_int max_two min_two max_three min_three max_four min_four lt_0_1 lt_0_2 lt_1_2 lt_0_3 lt_1_3 lt_2_3 lt_0_4 lt_1_4 lt_2_4 lt_3_4 lt_0_5 lt_1_5 lt_2_5 lt_3_5 lt_4_5 lt_0_6 lt_1_6 lt_2_6 lt_3_6 lt_4_6 lt_5_6 lt_0_7 lt_1_7 lt_2_7 lt_3_7 lt_4_7 lt_5_7 lt_6_7 lt_0_8 lt_1_8 lt_2_8 lt_3_8 lt_4_8 lt_5_8 lt_6_8 lt_7_8
set_option linter.unusedVariables false
set_option linter.unusedSimpArgs false
set_option maxHeartbeats 1600000 in
set_option maxRecDepth 100000 in
theorem recvs_q1 (A : Option Addr) (cap : Nat) (mac : List Int) (R : Option Addr) (rc : Nat) (l : List Int) (FA : Option Addr) (fc : Nat) (fr : List Int) (c : Nat → Int) (w : World) (okm ok okf : Nat → Prop) (hm : Kd.F (Kd.int .u8) w okm A mac.length mac) (hmc : mac.length ≤ cap) (hr : Kd.F (Kd.int .u8) w ok R l.length l) (hc : l.length ≤ rc) (hf : Kd.F (Kd.int .u8) w okf FA fr.length fr) (hfc : fr.length ≤ fc) (hq : decide ((l.length : Int) > 70000) = true) :
    Calls Try.prog 6 #[.agg (C14 c (.slice A mac.length cap)), .agg #[.slice R l.length rc], .slice FA fr.length fc] w fun e w' => e = .returned (.bool true) ∧ Below w.heap.size w w' := by
  have HB := Aside0.mk (Below.refl w.heap.size w)
  have HM := Aside0.mk (Kd.F_bound hm)
  have HR := Aside0.mk (Kd.F_bound hr)
  have HMC := Aside0.mk hmc
  have HC := Aside0.mk hc
  have hu := Try.underlying25
  have hu7 := Try.underlying27
  have HF := Aside0.mk (Kd.F_bound hf)
  have HFC := Aside0.mk hfc
  clear hm hmc hr hc hf hfc
  go_enter Try.func6, Try.ntmps6
  go_upto_region 1 with fail
  obtain ⟨wa, hwa, on0, or0, hb_, hz0⟩ := letter2 w (.cells (C14 c (.slice A mac.length cap)) 25 (0, 0)) (.cells #[.slice R l.length rc] 27 (0, 0))
  rw [hwa]
  clear hwa
  have hzwa := Nat.le_of_eq hz0.symm
  clear hz0
  have on := Aside0.mk on0
  have orr := Aside0.mk or0
  clear on0 or0
  obtain ⟨onc, onf, onl⟩ := cells_of on.out
  obtain ⟨orrc, orrf, orrl⟩ := cells_of orr.out
  have HB_ : Aside0 (Below w.heap.size w wa) := ⟨hb_⟩
  have HM_ := Aside0.mk (Kd.F_below HM.out hb_)
  clear HM
  have HM := HM_
  clear HM_
  have HR_ := Aside0.mk (Kd.F_below HR.out hb_)
  clear HR
  have HR := HR_
  clear HR_
  have HF_ := Aside0.mk (Kd.F_below HF.out hb_)
  clear HF
  have HF := HF_
  clear HF_
  clear HB hb_
  have HB := HB_
  clear HB_
  go_wp2_with fail
  (go_at_call 10; (with_reducible refine (heads_is _).mono ?_); rintro e_ w2 ⟨rfl, hb_⟩; have HB_ : Aside0 (Below w.heap.size w w2) := Aside0.mk (below_step (bG HB) hb_); have hzw2 := hb_.size; (try simp at hzw2); have on_ := Aside0.mk (box_below hb_ (eG on)); have orr_ := Aside0.mk (box_below hb_ (eG orr)); (try clear on onc onf onl); have on := on_; clear on_; obtain ⟨onc, onf, onl⟩ := cells_of on.out; (try clear orr orrc orrf orrl); have orr := orr_; clear orr_; obtain ⟨orrc, orrf, orrl⟩ := cells_of orr.out; clear HB hb_; have HB := HB_; clear HB_)
  go_wp2
  go_ret
  exact ⟨rfl, (bG HB)⟩
set_option maxHeartbeats 1600000 in
set_option maxRecDepth 100000 in
theorem recvs_q2 (A : Option Addr) (cap : Nat) (mac : List Int) (R : Option Addr) (rc : Nat) (l : List Int) (FA : Option Addr) (fc : Nat) (fr : List Int) (c : Nat → Int) (w : World) (okm ok okf : Nat → Prop) (hm : Kd.F (Kd.int .u8) w okm A mac.length mac) (hmc : mac.length ≤ cap) (hr : Kd.F (Kd.int .u8) w ok R l.length l) (hc : l.length ≤ rc) (hf : Kd.F (Kd.int .u8) w okf FA fr.length fr) (hfc : fr.length ≤ fc) (hq : decide ((l.length : Int) > 70000) = false) (hq2 : decide ((fr.length : Int) > 3000) = true) :
    Calls Try.prog 6 #[.agg (C14 c (.slice A mac.length cap)), .agg #[.slice R l.length rc], .slice FA fr.length fc] w fun e w' => e = .returned (.bool true) ∧ Below w.heap.size w w' := by
  have HB := Aside0.mk (Below.refl w.heap.size w)
  have HM := Aside0.mk (Kd.F_bound hm)
  have HR := Aside0.mk (Kd.F_bound hr)
  have HMC := Aside0.mk hmc
  have HC := Aside0.mk hc
  have hu := Try.underlying25
  have hu7 := Try.underlying27
  have HF := Aside0.mk (Kd.F_bound hf)
  have HFC := Aside0.mk hfc
  clear hm hmc hr hc hf hfc
  go_enter Try.func6, Try.ntmps6
  go_upto_region 1 with fail
  obtain ⟨wa, hwa, on0, or0, hb_, hz0⟩ := letter2 w (.cells (C14 c (.slice A mac.length cap)) 25 (0, 0)) (.cells #[.slice R l.length rc] 27 (0, 0))
  rw [hwa]
  clear hwa
  have hzwa := Nat.le_of_eq hz0.symm
  clear hz0
  have on := Aside0.mk on0
  have orr := Aside0.mk or0
  clear on0 or0
  obtain ⟨onc, onf, onl⟩ := cells_of on.out
  obtain ⟨orrc, orrf, orrl⟩ := cells_of orr.out
  have HB_ : Aside0 (Below w.heap.size w wa) := ⟨hb_⟩
  have HM_ := Aside0.mk (Kd.F_below HM.out hb_)
  clear HM
  have HM := HM_
  clear HM_
  have HR_ := Aside0.mk (Kd.F_below HR.out hb_)
  clear HR
  have HR := HR_
  clear HR_
  have HF_ := Aside0.mk (Kd.F_below HF.out hb_)
  clear HF
  have HF := HF_
  clear HF_
  clear HB hb_
  have HB := HB_
  clear HB_
  go_wp2_with fail
  (go_at_call 10; (with_reducible refine (heads_is _).mono ?_); rintro e_ w2 ⟨rfl, hb_⟩; have HB_ : Aside0 (Below w.heap.size w w2) := Aside0.mk (below_step (bG HB) hb_); have hzw2 := hb_.size; (try simp at hzw2); have on_ := Aside0.mk (box_below hb_ (eG on)); have orr_ := Aside0.mk (box_below hb_ (eG orr)); (try clear on onc onf onl); have on := on_; clear on_; obtain ⟨onc, onf, onl⟩ := cells_of on.out; (try clear orr orrc orrf orrl); have orr := orr_; clear orr_; obtain ⟨orrc, orrf, orrl⟩ := cells_of orr.out; clear HB hb_; have HB := HB_; clear HB_)
  go_wp2
  go_ret
  exact ⟨rfl, (bG HB)⟩
set_option maxHeartbeats 1600000 in
set_option maxRecDepth 100000 in
theorem recvs_is (A : Option Addr) (cap : Nat) (mac : List Int) (R : Option Addr) (rc : Nat) (l : List Int) (FA : Option Addr) (fc : Nat) (fr : List Int) (c : Nat → Int) (w : World) (okm ok okf : Nat → Prop) (hm : Kd.F (Kd.int .u8) w okm A mac.length mac) (hmc : mac.length ≤ cap) (hr : Kd.F (Kd.int .u8) w ok R l.length l) (hc : l.length ≤ rc) (hf : Kd.F (Kd.int .u8) w okf FA fr.length fr) (hfc : fr.length ≤ fc) (hq : decide ((l.length : Int) > 70000) = false) (hq2 : decide ((fr.length : Int) > 3000) = false) (hby : ∀ z ∈ l, byte z) (hmb : ∀ z ∈ mac, byte z) (hfb : ∀ z ∈ fr, byte z) (h3 : 0 ≤ c 3) (h7 : 0 ≤ c 7) :
    Calls Try.prog 6 #[.agg (C14 c (.slice A mac.length cap)), .agg #[.slice R l.length rc], .slice FA fr.length fc] w fun e w' => e = .returned (.bool true) ∧ Below w.heap.size w w' := by
  have HB := Aside0.mk (Below.refl w.heap.size w)
  have HM := Aside0.mk (Kd.F_bound hm)
  have HR := Aside0.mk (Kd.F_bound hr)
  have HMC := Aside0.mk hmc
  have HC := Aside0.mk hc
  have hu := Try.underlying25
  have hu7 := Try.underlying27
  have HF := Aside0.mk (Kd.F_bound hf)
  have HFC := Aside0.mk hfc
  have hl7 : (l.length : Int) ≤ 70000 := by have := of_decide_eq_false hq; omega
  have hf3 : (fr.length : Int) ≤ 3000 := by have := of_decide_eq_false hq2; omega
  obtain ⟨⟨c1, l1, b1⟩, hS⟩ : ∃ S, recvZ c mac l fr = S := ⟨_, rfl⟩
  have HS := Aside0.mk hS
  have HBY := Aside0.mk hby
  have HMB := Aside0.mk hmb
  have HFB := Aside0.mk hfb
  have H3 := Aside0.mk h3
  have H7 := Aside0.mk h7
  clear hby hS h3 h7 hmb hfb
  clear hm hmc hr hc hf hfc
  go_enter Try.func6, Try.ntmps6
  go_upto_region 1 with fail
  obtain ⟨wa, hwa, on0, or0, hb_, hz0⟩ := letter2 w (.cells (C14 c (.slice A mac.length cap)) 25 (0, 0)) (.cells #[.slice R l.length rc] 27 (0, 0))
  rw [hwa]
  clear hwa
  have hzwa := Nat.le_of_eq hz0.symm
  clear hz0
  have on := Aside0.mk on0
  have orr := Aside0.mk or0
  clear on0 or0
  obtain ⟨onc, onf, onl⟩ := cells_of on.out
  obtain ⟨orrc, orrf, orrl⟩ := cells_of orr.out
  have HB_ : Aside0 (Below w.heap.size w wa) := ⟨hb_⟩
  have HM_ := Aside0.mk (Kd.F_below HM.out hb_)
  clear HM
  have HM := HM_
  clear HM_
  have HR_ := Aside0.mk (Kd.F_below HR.out hb_)
  clear HR
  have HR := HR_
  clear HR_
  have HF_ := Aside0.mk (Kd.F_below HF.out hb_)
  clear HF
  have HF := HF_
  clear HF_
  clear HB hb_
  have HB := HB_
  clear HB_
  go_wp2_with fail
  (go_at_call 23; (with_reducible refine (lawown_is R rc l _ _ (fG HR) HC.out hl7).mono ?_); rintro e_ w1 ⟨A_m, c_m, rfl, hc_m, hr_m, hb_⟩; have HB_ : Aside0 (Below w.heap.size w w1) := Aside0.mk (below_step (bG HB) hb_); have hzw1 := hb_.size; (try simp at hzw1); have on_ := Aside0.mk (box_below hb_ (eG on)); have orr_ := Aside0.mk (box_below hb_ (eG orr)); have HM_ := Aside0.mk (Kd.F_below (fG HM) hb_); clear HM; have HM := HM_; clear HM_; have HR_ := Aside0.mk (Kd.F_below (fG HR) hb_); clear HR; have HR := HR_; clear HR_; have HF_ := Aside0.mk (Kd.F_below (fG HF) hb_); clear HF; have HF := HF_; clear HF_; (try clear on onc onf onl); have on := on_; clear on_; obtain ⟨onc, onf, onl⟩ := cells_of on.out; (try clear orr orrc orrf orrl); have orr := orr_; clear orr_; obtain ⟨orrc, orrf, orrl⟩ := cells_of orr.out; clear HB hb_; have HB := HB_; clear HB_; have mc := Aside0.mk hc_m; have m := Aside0.mk (Kd.F_bound hr_m); clear hc_m hr_m; skip)
  go_upto_region 4 with fail
  have ow := Aside0.mk (nb_1 w1 (.cells #[.slice A_m l.length c_m] 27 (0, 0)))
  have on_ := Aside0.mk (ext_alloc on.out (.cells #[.slice A_m l.length c_m] 27 (0, 0)))
  clear on onc onf onl
  have on := on_
  clear on_
  obtain ⟨onc, onf, onl⟩ := cells_of on.out
  have orr_ := Aside0.mk (ext_alloc orr.out (.cells #[.slice A_m l.length c_m] 27 (0, 0)))
  clear orr orrc orrf orrl
  have orr := orr_
  clear orr_
  obtain ⟨orrc, orrf, orrl⟩ := cells_of orr.out
  have HM_ := Aside0.mk (Kd.F_alloc HM.out (.cells #[.slice A_m l.length c_m] 27 (0, 0)))
  clear HM
  have HM := HM_
  clear HM_
  have HR_ := Aside0.mk (Kd.F_alloc HR.out (.cells #[.slice A_m l.length c_m] 27 (0, 0)))
  clear HR
  have HR := HR_
  clear HR_
  have HF_ := Aside0.mk (Kd.F_alloc HF.out (.cells #[.slice A_m l.length c_m] 27 (0, 0)))
  clear HF
  have HF := HF_
  clear HF_
  have m_ := Aside0.mk (Kd.F_alloc m.out (.cells #[.slice A_m l.length c_m] 27 (0, 0)))
  clear m
  have m := m_
  clear m_
  obtain ⟨owc, owf, owl⟩ := cells_of ow.out
  go_wp2_with (first | ((with_reducible refine gate_dst (N := 27) rfl ?_); (try (refine gate_guard (by rfl) ?_; dsimp only)); refine wpList_load_row rfl 25 _ rfl _ (by rfl) _ (C14 c (.slice A mac.length cap)) _ _ (eG on) Try.underlying25 rfl i25 ?_))
  (go_at_call 27; (with_reducible refine (Recv_of (c1, l1, b1) A cap mac A_m c_m l FA fc fr c _ _ _ _ (fG HM) HMC.out (fG m) mc.out (fG HF) HFC.out hl7 HBY.out (by omega) HS.out).mono ?_); rintro e_ w2 ⟨A_s, c_s, rfl, hc_s, hr_s, hb_⟩; have HB_ : Aside0 (Below w.heap.size w w2) := Aside0.mk (below_step (bG HB) hb_); have hzw2 := hb_.size; (try simp at hzw2); have on_ := Aside0.mk (box_below hb_ (eG on)); have orr_ := Aside0.mk (box_below hb_ (eG orr)); have ow_ := Aside0.mk (box_below hb_ (eG ow)); have HM_ := Aside0.mk (Kd.F_below (fG HM) hb_); clear HM; have HM := HM_; clear HM_; have HR_ := Aside0.mk (Kd.F_below (fG HR) hb_); clear HR; have HR := HR_; clear HR_; have HF_ := Aside0.mk (Kd.F_below (fG HF) hb_); clear HF; have HF := HF_; clear HF_; have m_ := Aside0.mk (Kd.F_below (fG m) hb_); clear m; have m := m_; clear m_; (try clear on onc onf onl); have on := on_; clear on_; obtain ⟨onc, onf, onl⟩ := cells_of on.out; (try clear orr orrc orrf orrl); have orr := orr_; clear orr_; obtain ⟨orrc, orrf, orrl⟩ := cells_of orr.out; (try clear ow owc owf owl); have ow := ow_; clear ow_; obtain ⟨owc, owf, owl⟩ := cells_of ow.out; clear HB hb_; have HB := HB_; clear HB_; have sc := Aside0.mk hc_s; have s := Aside0.mk (Kd.F_bound hr_s); clear hc_s hr_s; skip)
  have ob := Aside0.mk (nb_2 w2 (.cells #[.int .i64 0, .int .i64 0, .int .i64 0, .int .u64 0, .int .i64 0, .int .i64 0, .int .i64 0, .int .u64 0, .int .i64 0, .int .i64 0, .int .i64 0, .int .i64 0, .int .i64 0, .slice none 0 0] 25 (0, 0)) (.cells #[.slice none 0 0] 27 (0, 0)))
  obtain ⟨obc, obf, obl⟩ := cells_of ob.out
  go_upto_region 5 with (first | ((with_reducible refine gate_store (t := 25) (p := 8) (v := .tmp 31) rfl ?_); refine wpList_store_all rfl 25 _ _ rfl rfl _ (C14 c1 (.slice A mac.length cap)) (by rfl) (by rfl) _ _ (ext_alloc (nb_1 _ _) _) rfl i25 (C14_one _ _ _ _) ?_; rintro w3 ⟨hx_, hk_, hb_, hzz_⟩; have HB_ : Aside0 (Below w.heap.size w w3) := Aside0.mk (Below.trans (bG HB) (Below.mono hb_ (by first | omega | (simp only [sz_alloc, sz_drew, sz_drewN]; omega)))); have hzw3 := Nat.le_of_eq hzz_.symm; (try simp at hzw3); clear hzz_; have ob_ := Aside0.mk (st_put ob.out hk_ (fun h_ => (by repeat (with_reducible first | exact h_ | apply ext_drew | apply ext_drewN | apply ext_alloc | refine blk_far ?_ (by show _ ≠ _; dsimp only; omega) _))) (by omega)); clear ob obc obf obl; have ob := ob_; clear ob_; obtain ⟨obc, obf, obl⟩ := cells_of ob.out; have on_ := Aside0.mk (st_put on.out hk_ (fun h_ => (by repeat (with_reducible first | exact h_ | apply ext_drew | apply ext_drewN | apply ext_alloc | refine blk_far ?_ (by show _ ≠ _; dsimp only; omega) _))) (by omega)); clear on onc onf onl; have on := on_; clear on_; obtain ⟨onc, onf, onl⟩ := cells_of on.out; have orr_ := Aside0.mk (st_put orr.out hk_ (fun h_ => (by repeat (with_reducible first | exact h_ | apply ext_drew | apply ext_drewN | apply ext_alloc | refine blk_far ?_ (by show _ ≠ _; dsimp only; omega) _))) (by omega)); clear orr orrc orrf orrl; have orr := orr_; clear orr_; obtain ⟨orrc, orrf, orrl⟩ := cells_of orr.out; have ow_ := Aside0.mk (st_put ow.out hk_ (fun h_ => (by repeat (with_reducible first | exact h_ | apply ext_drew | apply ext_drewN | apply ext_alloc | refine blk_far ?_ (by show _ ≠ _; dsimp only; omega) _))) (by omega)); clear ow owc owf owl; have ow := ow_; clear ow_; obtain ⟨owc, owf, owl⟩ := cells_of ow.out; have HM_ := Aside0.mk (Kd.F_step (fG HM) (fun j_ hj_ hl_ => hk_ j_ (by (try dsimp only at hj_); (try simp only [sz_alloc, sz_drew, sz_drewN, sz_set] at hj_); omega))); clear HM; have HM := HM_; clear HM_; have HR_ := Aside0.mk (Kd.F_step (fG HR) (fun j_ hj_ hl_ => hk_ j_ (by (try dsimp only at hj_); (try simp only [sz_alloc, sz_drew, sz_drewN, sz_set] at hj_); omega))); clear HR; have HR := HR_; clear HR_; have HF_ := Aside0.mk (Kd.F_step (fG HF) (fun j_ hj_ hl_ => hk_ j_ (by (try dsimp only at hj_); (try simp only [sz_alloc, sz_drew, sz_drewN, sz_set] at hj_); omega))); clear HF; have HF := HF_; clear HF_; have m_ := Aside0.mk (Kd.F_step (fG m) (fun j_ hj_ hl_ => hk_ j_ (by (try dsimp only at hj_); (try simp only [sz_alloc, sz_drew, sz_drewN, sz_set] at hj_); omega))); clear m; have m := m_; clear m_; have s_ := Aside0.mk (Kd.F_step (fG s) (fun j_ hj_ hl_ => hk_ j_ (by (try dsimp only at hj_); (try simp only [sz_alloc, sz_drew, sz_drewN, sz_set] at hj_); omega))); clear s; have s := s_; clear s_; (try clear oa oac oaf oal); have oa := Aside0.mk hx_; obtain ⟨oac, oaf, oal⟩ := cells_of oa.out; clear HB hb_ hk_ hx_; have HB := HB_; clear HB_))
  (have HM_ := Aside0.mk (Kd.F_far (p := ⟨w2.heap.size + 1, 0, none⟩) HM.out (fun j_ hj_ => by (try dsimp only at hj_); (try dsimp only); (try simp only [sz_alloc, sz_drew, sz_drewN, sz_set] at hj_); omega) (.slice A_s l1.length c_s)); clear HM; have HM := HM_; clear HM_; have HR_ := Aside0.mk (Kd.F_far (p := ⟨w2.heap.size + 1, 0, none⟩) HR.out (fun j_ hj_ => by (try dsimp only at hj_); (try dsimp only); (try simp only [sz_alloc, sz_drew, sz_drewN, sz_set] at hj_); omega) (.slice A_s l1.length c_s)); clear HR; have HR := HR_; clear HR_; have HF_ := Aside0.mk (Kd.F_far (p := ⟨w2.heap.size + 1, 0, none⟩) HF.out (fun j_ hj_ => by (try dsimp only at hj_); (try dsimp only); (try simp only [sz_alloc, sz_drew, sz_drewN, sz_set] at hj_); omega) (.slice A_s l1.length c_s)); clear HF; have HF := HF_; clear HF_; have m_ := Aside0.mk (Kd.F_far (p := ⟨w2.heap.size + 1, 0, none⟩) m.out (fun j_ hj_ => by (try dsimp only at hj_); (try dsimp only); (try simp only [sz_alloc, sz_drew, sz_drewN, sz_set] at hj_); omega) (.slice A_s l1.length c_s)); clear m; have m := m_; clear m_; have s_ := Aside0.mk (Kd.F_far (p := ⟨w2.heap.size + 1, 0, none⟩) s.out (fun j_ hj_ => by (try dsimp only at hj_); (try dsimp only); (try simp only [sz_alloc, sz_drew, sz_drewN, sz_set] at hj_); omega) (.slice A_s l1.length c_s)); clear s; have s := s_; clear s_; have on_ := Aside0.mk (blk_far (p := ⟨w2.heap.size + 1, 0, none⟩) on.out (by show _ ≠ _; dsimp only; omega) (.slice A_s l1.length c_s)); clear on onc onf onl; have on := on_; clear on_; obtain ⟨onc, onf, onl⟩ := cells_of on.out; have orr_ := Aside0.mk (blk_far (p := ⟨w2.heap.size + 1, 0, none⟩) orr.out (by show _ ≠ _; dsimp only; omega) (.slice A_s l1.length c_s)); clear orr orrc orrf orrl; have orr := orr_; clear orr_; obtain ⟨orrc, orrf, orrl⟩ := cells_of orr.out; have ow_ := Aside0.mk (blk_far (p := ⟨w2.heap.size + 1, 0, none⟩) ow.out (by show _ ≠ _; dsimp only; omega) (.slice A_s l1.length c_s)); clear ow owc owf owl; have ow := ow_; clear ow_; obtain ⟨owc, owf, owl⟩ := cells_of ow.out; have oa_ := Aside0.mk (blk_far (p := ⟨w2.heap.size + 1, 0, none⟩) oa.out (by show _ ≠ _; dsimp only; omega) (.slice A_s l1.length c_s)); clear oa oac oaf oal; have oa := oa_; clear oa_; obtain ⟨oac, oaf, oal⟩ := cells_of oa.out; have ob_ := Aside0.mk (blk_put ob.out 0 (.slice A_s l1.length c_s) (cs' := #[.slice A_s l1.length c_s]) rfl); clear ob obc obf obl; have ob := ob_; clear ob_; obtain ⟨obc, obf, obl⟩ := cells_of ob.out)
  go_wp2_with (first | ((with_reducible refine gate_dst (N := 35) rfl ?_); (try (refine gate_guard (by rfl) ?_; dsimp only)); refine wpList_load_row rfl 25 _ rfl _ (by rfl) _ (C14 c (.slice A mac.length cap)) _ _ (eG on) Try.underlying25 rfl i25 ?_))
  (go_at_call 28; (with_reducible refine (RRecv_of (c1, l1, b1) A cap mac R rc l FA fc fr c _ _ _ _ (fG HM) HMC.out (fG HR) HC.out (fG HF) HFC.out hl7 HBY.out HMB.out HFB.out hf3 H3.out H7.out HS.out).mono ?_); rintro e_ w4 ⟨A_t, c_t, rfl, hc_t, hr_t, hb_⟩; have HB_ : Aside0 (Below w.heap.size w w4) := Aside0.mk (below_step (bG HB) hb_); have hzw4 := hb_.size; (try simp at hzw4); have on_ := Aside0.mk (box_below hb_ (eG on)); have orr_ := Aside0.mk (box_below hb_ (eG orr)); have ow_ := Aside0.mk (box_below hb_ (eG ow)); have oa_ := Aside0.mk (box_below hb_ (eG oa)); have ob_ := Aside0.mk (box_below hb_ (eG ob)); have HM_ := Aside0.mk (Kd.F_below (fG HM) hb_); clear HM; have HM := HM_; clear HM_; have HR_ := Aside0.mk (Kd.F_below (fG HR) hb_); clear HR; have HR := HR_; clear HR_; have m_ := Aside0.mk (Kd.F_below (fG m) hb_); clear m; have m := m_; clear m_; have s_ := Aside0.mk (Kd.F_below (fG s) hb_); clear s; have s := s_; clear s_; (try clear on onc onf onl); have on := on_; clear on_; obtain ⟨onc, onf, onl⟩ := cells_of on.out; (try clear orr orrc orrf orrl); have orr := orr_; clear orr_; obtain ⟨orrc, orrf, orrl⟩ := cells_of orr.out; (try clear ow owc owf owl); have ow := ow_; clear ow_; obtain ⟨owc, owf, owl⟩ := cells_of ow.out; (try clear oa oac oaf oal); have oa := oa_; clear oa_; obtain ⟨oac, oaf, oal⟩ := cells_of oa.out; (try clear ob obc obf obl); have ob := ob_; clear ob_; obtain ⟨obc, obf, obl⟩ := cells_of ob.out; clear HB hb_; have HB := HB_; clear HB_; have tc := Aside0.mk hc_t; have t := Aside0.mk (Kd.F_bound hr_t); clear hc_t hr_t; skip)
  have od := Aside0.mk (nb_2 w4 (.cells #[.int .i64 0, .int .i64 0, .int .i64 0, .int .u64 0, .int .i64 0, .int .i64 0, .int .i64 0, .int .u64 0, .int .i64 0, .int .i64 0, .int .i64 0, .int .i64 0, .int .i64 0, .slice none 0 0] 25 (0, 0)) (.cells #[.slice none 0 0] 27 (0, 0)))
  obtain ⟨odc, odf, odl⟩ := cells_of od.out
  go_upto_region 6 with (first | ((with_reducible refine gate_store (t := 25) (p := 11) (v := .tmp 39) rfl ?_); refine wpList_store_all rfl 25 _ _ rfl rfl _ (C14 c1 (.slice A mac.length cap)) (by rfl) (by rfl) _ _ (ext_alloc (nb_1 _ _) _) rfl i25 (C14_one _ _ _ _) ?_; rintro w5 ⟨hx_, hk_, hb_, hzz_⟩; have HB_ : Aside0 (Below w.heap.size w w5) := Aside0.mk (Below.trans (bG HB) (Below.mono hb_ (by first | omega | (simp only [sz_alloc, sz_drew, sz_drewN]; omega)))); have hzw5 := Nat.le_of_eq hzz_.symm; (try simp at hzw5); clear hzz_; have od_ := Aside0.mk (st_put od.out hk_ (fun h_ => (by repeat (with_reducible first | exact h_ | apply ext_drew | apply ext_drewN | apply ext_alloc | refine blk_far ?_ (by show _ ≠ _; dsimp only; omega) _))) (by omega)); clear od odc odf odl; have od := od_; clear od_; obtain ⟨odc, odf, odl⟩ := cells_of od.out; have orr_ := Aside0.mk (st_put orr.out hk_ (fun h_ => (by repeat (with_reducible first | exact h_ | apply ext_drew | apply ext_drewN | apply ext_alloc | refine blk_far ?_ (by show _ ≠ _; dsimp only; omega) _))) (by omega)); clear orr orrc orrf orrl; have orr := orr_; clear orr_; obtain ⟨orrc, orrf, orrl⟩ := cells_of orr.out; have ow_ := Aside0.mk (st_put ow.out hk_ (fun h_ => (by repeat (with_reducible first | exact h_ | apply ext_drew | apply ext_drewN | apply ext_alloc | refine blk_far ?_ (by show _ ≠ _; dsimp only; omega) _))) (by omega)); clear ow owc owf owl; have ow := ow_; clear ow_; obtain ⟨owc, owf, owl⟩ := cells_of ow.out; have oa_ := Aside0.mk (st_put oa.out hk_ (fun h_ => (by repeat (with_reducible first | exact h_ | apply ext_drew | apply ext_drewN | apply ext_alloc | refine blk_far ?_ (by show _ ≠ _; dsimp only; omega) _))) (by omega)); clear oa oac oaf oal; have oa := oa_; clear oa_; obtain ⟨oac, oaf, oal⟩ := cells_of oa.out; have ob_ := Aside0.mk (st_put ob.out hk_ (fun h_ => (by repeat (with_reducible first | exact h_ | apply ext_drew | apply ext_drewN | apply ext_alloc | refine blk_far ?_ (by show _ ≠ _; dsimp only; omega) _))) (by omega)); clear ob obc obf obl; have ob := ob_; clear ob_; obtain ⟨obc, obf, obl⟩ := cells_of ob.out; have HM_ := Aside0.mk (Kd.F_step (fG HM) (fun j_ hj_ hl_ => hk_ j_ (by (try dsimp only at hj_); (try simp only [sz_alloc, sz_drew, sz_drewN, sz_set] at hj_); omega))); clear HM; have HM := HM_; clear HM_; have HR_ := Aside0.mk (Kd.F_step (fG HR) (fun j_ hj_ hl_ => hk_ j_ (by (try dsimp only at hj_); (try simp only [sz_alloc, sz_drew, sz_drewN, sz_set] at hj_); omega))); clear HR; have HR := HR_; clear HR_; have m_ := Aside0.mk (Kd.F_step (fG m) (fun j_ hj_ hl_ => hk_ j_ (by (try dsimp only at hj_); (try simp only [sz_alloc, sz_drew, sz_drewN, sz_set] at hj_); omega))); clear m; have m := m_; clear m_; have s_ := Aside0.mk (Kd.F_step (fG s) (fun j_ hj_ hl_ => hk_ j_ (by (try dsimp only at hj_); (try simp only [sz_alloc, sz_drew, sz_drewN, sz_set] at hj_); omega))); clear s; have s := s_; clear s_; have t_ := Aside0.mk (Kd.F_step (fG t) (fun j_ hj_ hl_ => hk_ j_ (by (try dsimp only at hj_); (try simp only [sz_alloc, sz_drew, sz_drewN, sz_set] at hj_); omega))); clear t; have t := t_; clear t_; (try clear oc occ ocf ocl); have oc := Aside0.mk hx_; obtain ⟨occ, ocf, ocl⟩ := cells_of oc.out; clear HB hb_ hk_ hx_; have HB := HB_; clear HB_))
  (have HM_ := Aside0.mk (Kd.F_far (p := ⟨w4.heap.size + 1, 0, none⟩) HM.out (fun j_ hj_ => by (try dsimp only at hj_); (try dsimp only); (try simp only [sz_alloc, sz_drew, sz_drewN, sz_set] at hj_); omega) (.slice A_t l1.length c_t)); clear HM; have HM := HM_; clear HM_; have HR_ := Aside0.mk (Kd.F_far (p := ⟨w4.heap.size + 1, 0, none⟩) HR.out (fun j_ hj_ => by (try dsimp only at hj_); (try dsimp only); (try simp only [sz_alloc, sz_drew, sz_drewN, sz_set] at hj_); omega) (.slice A_t l1.length c_t)); clear HR; have HR := HR_; clear HR_; have m_ := Aside0.mk (Kd.F_far (p := ⟨w4.heap.size + 1, 0, none⟩) m.out (fun j_ hj_ => by (try dsimp only at hj_); (try dsimp only); (try simp only [sz_alloc, sz_drew, sz_drewN, sz_set] at hj_); omega) (.slice A_t l1.length c_t)); clear m; have m := m_; clear m_; have s_ := Aside0.mk (Kd.F_far (p := ⟨w4.heap.size + 1, 0, none⟩) s.out (fun j_ hj_ => by (try dsimp only at hj_); (try dsimp only); (try simp only [sz_alloc, sz_drew, sz_drewN, sz_set] at hj_); omega) (.slice A_t l1.length c_t)); clear s; have s := s_; clear s_; have t_ := Aside0.mk (Kd.F_far (p := ⟨w4.heap.size + 1, 0, none⟩) t.out (fun j_ hj_ => by (try dsimp only at hj_); (try dsimp only); (try simp only [sz_alloc, sz_drew, sz_drewN, sz_set] at hj_); omega) (.slice A_t l1.length c_t)); clear t; have t := t_; clear t_; have orr_ := Aside0.mk (blk_far (p := ⟨w4.heap.size + 1, 0, none⟩) orr.out (by show _ ≠ _; dsimp only; omega) (.slice A_t l1.length c_t)); clear orr orrc orrf orrl; have orr := orr_; clear orr_; obtain ⟨orrc, orrf, orrl⟩ := cells_of orr.out; have ow_ := Aside0.mk (blk_far (p := ⟨w4.heap.size + 1, 0, none⟩) ow.out (by show _ ≠ _; dsimp only; omega) (.slice A_t l1.length c_t)); clear ow owc owf owl; have ow := ow_; clear ow_; obtain ⟨owc, owf, owl⟩ := cells_of ow.out; have oa_ := Aside0.mk (blk_far (p := ⟨w4.heap.size + 1, 0, none⟩) oa.out (by show _ ≠ _; dsimp only; omega) (.slice A_t l1.length c_t)); clear oa oac oaf oal; have oa := oa_; clear oa_; obtain ⟨oac, oaf, oal⟩ := cells_of oa.out; have ob_ := Aside0.mk (blk_far (p := ⟨w4.heap.size + 1, 0, none⟩) ob.out (by show _ ≠ _; dsimp only; omega) (.slice A_t l1.length c_t)); clear ob obc obf obl; have ob := ob_; clear ob_; obtain ⟨obc, obf, obl⟩ := cells_of ob.out; have oc_ := Aside0.mk (blk_far (p := ⟨w4.heap.size + 1, 0, none⟩) oc.out (by show _ ≠ _; dsimp only; omega) (.slice A_t l1.length c_t)); clear oc occ ocf ocl; have oc := oc_; clear oc_; obtain ⟨occ, ocf, ocl⟩ := cells_of oc.out; have od_ := Aside0.mk (blk_put od.out 0 (.slice A_t l1.length c_t) (cs' := #[.slice A_t l1.length c_t]) rfl); clear od odc odf odl; have od := od_; clear od_; obtain ⟨odc, odf, odl⟩ := cells_of od.out)
  go_wp2_with (first | ((with_reducible refine gate_dst (N := 42) rfl ?_); (try (refine gate_guard (by rfl) ?_; dsimp only)); refine wpList_load_row rfl 25 _ rfl _ (by rfl) _ (C14 c1 (.slice A mac.length cap)) _ _ (eG oa) Try.underlying25 rfl i25 ?_) | ((with_reducible refine gate_dst (N := 43) rfl ?_); (try (refine gate_guard (by rfl) ?_; dsimp only)); refine wpList_load_row rfl 25 _ rfl _ (by rfl) _ (C14 c1 (.slice A mac.length cap)) _ _ (eG oc) Try.underlying25 rfl i25 ?_))
  (go_at_call 19; (with_reducible refine (Same_is c1 A cap A cap mac _ _ _ (fG HM) HMC.out (fG HM) HMC.out).mono ?_); rintro e_ w6 ⟨rfl, hb_⟩; have HB_ : Aside0 (Below w.heap.size w w6) := Aside0.mk (below_step (bG HB) hb_); have hzw6 := hb_.size; (try simp at hzw6); clear oa oac oaf oal; clear oc occ ocf ocl; have orr_ := Aside0.mk (box_below hb_ (eG orr)); have ow_ := Aside0.mk (box_below hb_ (eG ow)); have ob_ := Aside0.mk (box_below hb_ (eG ob)); have od_ := Aside0.mk (box_below hb_ (eG od)); have HR_ := Aside0.mk (Kd.F_below (fG HR) hb_); clear HR; have HR := HR_; clear HR_; have m_ := Aside0.mk (Kd.F_below (fG m) hb_); clear m; have m := m_; clear m_; have s_ := Aside0.mk (Kd.F_below (fG s) hb_); clear s; have s := s_; clear s_; have t_ := Aside0.mk (Kd.F_below (fG t) hb_); clear t; have t := t_; clear t_; (try clear orr orrc orrf orrl); have orr := orr_; clear orr_; obtain ⟨orrc, orrf, orrl⟩ := cells_of orr.out; (try clear ow owc owf owl); have ow := ow_; clear ow_; obtain ⟨owc, owf, owl⟩ := cells_of ow.out; (try clear ob obc obf obl); have ob := ob_; clear ob_; obtain ⟨obc, obf, obl⟩ := cells_of ob.out; (try clear od odc odf odl); have od := od_; clear od_; obtain ⟨odc, odf, odl⟩ := cells_of od.out; clear HB hb_; have HB := HB_; clear HB_)
  go_wp2_with fail
  (go_at_call 25; (with_reducible refine (Same07_t l1.length A_s c_s A_t c_t l1 _ rfl (Kd.F_now (fG s)) sc.out (Kd.F_now (fG t)) tc.out).mono ?_); rintro e_ w7 ⟨rfl, hb_⟩; have HB_ : Aside0 (Below w.heap.size w w7) := Aside0.mk (below_step (bG HB) hb_); have hzw7 := hb_.size; (try simp at hzw7); clear ob obc obf obl; clear od odc odf odl; have orr_ := Aside0.mk (box_below hb_ (eG orr)); have ow_ := Aside0.mk (box_below hb_ (eG ow)); have HR_ := Aside0.mk (Kd.F_below (fG HR) hb_); clear HR; have HR := HR_; clear HR_; have m_ := Aside0.mk (Kd.F_below (fG m) hb_); clear m; have m := m_; clear m_; (try clear orr orrc orrf orrl); have orr := orr_; clear orr_; obtain ⟨orrc, orrf, orrl⟩ := cells_of orr.out; (try clear ow owc owf owl); have ow := ow_; clear ow_; obtain ⟨owc, owf, owl⟩ := cells_of ow.out; clear HB hb_; have HB := HB_; clear HB_)
  go_wp2_with fail
  (go_at_call 25; (with_reducible refine (Same07_t l.length A_m c_m R rc l _ rfl (Kd.F_now (fG m)) mc.out (Kd.F_now (fG HR)) HC.out).mono ?_); rintro e_ w8 ⟨rfl, hb_⟩; have HB_ : Aside0 (Below w.heap.size w w8) := Aside0.mk (below_step (bG HB) hb_); have hzw8 := hb_.size; (try simp at hzw8); have orr_ := Aside0.mk (box_below hb_ (eG orr)); (try clear orr orrc orrf orrl); have orr := orr_; clear orr_; obtain ⟨orrc, orrf, orrl⟩ := cells_of orr.out; clear HB hb_; have HB := HB_; clear HB_)
  go_wp2_with fail
  (go_at_call 10; (with_reducible refine (heads_is _).mono ?_); rintro e_ w9 ⟨rfl, hb_⟩; have HB_ : Aside0 (Below w.heap.size w w9) := Aside0.mk (below_step (bG HB) hb_); have hzw9 := hb_.size; (try simp at hzw9); have orr_ := Aside0.mk (box_below hb_ (eG orr)); (try clear orr orrc orrf orrl); have orr := orr_; clear orr_; obtain ⟨orrc, orrf, orrl⟩ := cells_of orr.out; clear HB hb_; have HB := HB_; clear HB_)
  go_wp2
  go_ret
  exact ⟨rfl, HB.out⟩
def drawbridgelaw12_NicReceives.f (a0_0 : Int) (a0_1 : Int) (a0_2 : Int) (a0_3 : Int) (a0_4 : Int) (a0_5 : Int) (a0_6 : Int) (a0_7 : Int) (a0_8 : Int) (a0_9 : Int) (a0_10 : Int) (a0_11 : Int) (a0_12 : Int) (l0_13 l1_0 l2 : List Int) : Option Bool := if (∀ z ∈ l0_13, byte z) ∧ (∀ z ∈ l1_0, byte z) ∧ (∀ z ∈ l2, byte z) ∧ 0 ≤ a0_3 ∧ 0 ≤ a0_7 then some true else none
theorem drawbridgelaw12_NicReceives.calls (a0_0 : Int) (a0_1 : Int) (a0_2 : Int) (a0_3 : Int) (a0_4 : Int) (a0_5 : Int) (a0_6 : Int) (a0_7 : Int) (a0_8 : Int) (a0_9 : Int) (a0_10 : Int) (a0_11 : Int) (a0_12 : Int) (A0_13 : Option Addr) (c0_13 : Nat) (l0_13 : List Int) (A1_0 : Option Addr) (c1_0 : Nat) (l1_0 : List Int) (A2 : Option Addr) (c2 : Nat) (l2 : List Int) (r : Bool) (w : World) (hr0_13 : Kd.C (Kd.int .u8) w A0_13 l0_13.length l0_13) (hc0_13 : l0_13.length ≤ c0_13) (hr1_0 : Kd.C (Kd.int .u8) w A1_0 l1_0.length l1_0) (hc1_0 : l1_0.length ≤ c1_0) (hr2 : Kd.C (Kd.int .u8) w A2 l2.length l2) (hc2 : l2.length ≤ c2) (h : drawbridgelaw12_NicReceives.f a0_0 a0_1 a0_2 a0_3 a0_4 a0_5 a0_6 a0_7 a0_8 a0_9 a0_10 a0_11 a0_12 l0_13 l1_0 l2 = some r) :
    Calls Try.prog 6 #[.agg #[.int .i64 a0_0, .int .i64 a0_1, .int .i64 a0_2, .int .u64 a0_3, .int .i64 a0_4, .int .i64 a0_5, .int .i64 a0_6, .int .u64 a0_7, .int .i64 a0_8, .int .i64 a0_9, .int .i64 a0_10, .int .i64 a0_11, .int .i64 a0_12, .slice A0_13 l0_13.length c0_13], .agg #[.slice A1_0 l1_0.length c1_0], .slice A2 l2.length c2] w fun e w' => e = .returned (.bool r) ∧ Below w.heap.size w w' := by
  unfold drawbridgelaw12_NicReceives.f at h
  split at h
  case isFalse => cases h
  case isTrue hh =>
  obtain rfl := Option.some.inj h
  obtain ⟨h0, h1, h2, h3, h4⟩ := hh
  cases hq : decide ((l1_0.length : Int) > 70000) with
  | true => exact recvs_q1 A0_13 c0_13 l0_13 A1_0 c1_0 l1_0 A2 c2 l2 (mk13 a0_0 a0_1 a0_2 a0_3 a0_4 a0_5 a0_6 a0_7 a0_8 a0_9 a0_10 a0_11 a0_12) w _ _ _ (F_in hr0_13) hc0_13 (F_in hr1_0) hc1_0 (F_in hr2) hc2 hq
  | false =>
    cases hq2 : decide ((l2.length : Int) > 3000) with
    | true => exact recvs_q2 A0_13 c0_13 l0_13 A1_0 c1_0 l1_0 A2 c2 l2 (mk13 a0_0 a0_1 a0_2 a0_3 a0_4 a0_5 a0_6 a0_7 a0_8 a0_9 a0_10 a0_11 a0_12) w _ _ _ (F_in hr0_13) hc0_13 (F_in hr1_0) hc1_0 (F_in hr2) hc2 hq hq2
    | false => exact recvs_is A0_13 c0_13 l0_13 A1_0 c1_0 l1_0 A2 c2 l2 (mk13 a0_0 a0_1 a0_2 a0_3 a0_4 a0_5 a0_6 a0_7 a0_8 a0_9 a0_10 a0_11 a0_12) w _ _ _ (F_in hr0_13) hc0_13 (F_in hr1_0) hc1_0 (F_in hr2) hc2 hq hq2 h1 h0 h2 h3 h4
end Go.Proofs.Ytdblpflepfcnjaa.Q
end
section
namespace Go.Proofs.Ytdblpflepfcnjaa.Pure
open Go.RowKit Go.Proofs.Ytdblpflepfcnjaa.Q Go.Proofs.YtdblpflepfcnjaaW.PrintWords Go.Proofs.YtdblpflepfcnjaaW.PrintLast Go.Proofs.YtdblpflepfcnjaaW.PrintMore Go.Proofs.Ytdblpflepfcnjaa.L
/-- The pure statement of NicReceives: numbers and lists alone. -/
def NicReceives.Said : Prop := ∀ (a0_0 : Int) (a0_1 : Int) (a0_2 : Int) (a0_3 : Int) (a0_4 : Int) (a0_5 : Int) (a0_6 : Int) (a0_7 : Int) (a0_8 : Int) (a0_9 : Int) (a0_10 : Int) (a0_11 : Int) (a0_12 : Int) (l0_13 : List Int) (l1_0 : List Int) (l2 : List Int), (Lit.int .i64 a0_0).wf = true → (Lit.int .i64 a0_1).wf = true → (Lit.int .i64 a0_2).wf = true → (Lit.int .u64 a0_3).wf = true → (Lit.int .i64 a0_4).wf = true → (Lit.int .i64 a0_5).wf = true → (Lit.int .i64 a0_6).wf = true → (Lit.int .u64 a0_7).wf = true → (Lit.int .i64 a0_8).wf = true → (Lit.int .i64 a0_9).wf = true → (Lit.int .i64 a0_10).wf = true → (Lit.int .i64 a0_11).wf = true → (Lit.int .i64 a0_12).wf = true → l0_13.length ≤ maxLen → (∀ z ∈ l0_13, (Lit.int .u8 z).wf = true) → l1_0.length ≤ maxLen → (∀ z ∈ l1_0, (Lit.int .u8 z).wf = true) → l2.length ≤ maxLen → (∀ z ∈ l2, (Lit.int .u8 z).wf = true) → drawbridgelaw12_NicReceives.f a0_0 a0_1 a0_2 a0_3 a0_4 a0_5 a0_6 a0_7 a0_8 a0_9 a0_10 a0_11 a0_12 l0_13 l1_0 l2 = some true
end Go.Proofs.Ytdblpflepfcnjaa.Pure
end
section
/- NicReceives, in plain numbers and lists: what is asked of the inputs is what every Go value is. No condition beyond the statement's own. -/
namespace Go.Proofs.Ytdblpflepfcnjaa.Pure
open Go.RowKit Go.Proofs.Ytdblpflepfcnjaa.Q Go.Proofs.Ytdblpflepfcnjaa.L
theorem NicReceives : NicReceives.Said := by
  intro a0 a1 a2 a3 a4 a5 a6 a7 a8 a9 a10 a11 a12 lm l fr _ _ _ h3 _ _ _ h7 _ _ _ _ _ _ hmb _ hlb _ hfb
  unfold drawbridgelaw12_NicReceives.f
  rw [if_pos ⟨fun z hz => byte_wf (hmb z hz), fun z hz => byte_wf (hlb z hz), fun z hz => byte_wf (hfb z hz), (u64_wf h3).1, (u64_wf h7).1⟩]
end Go.Proofs.Ytdblpflepfcnjaa.Pure
end
