import Derived.Test.YtdblpflepfcnjaaHZ1
import Derived.Test.YtdblpflepfcnjaaHNg
import Derived.Test.YtdblpflepfcnjaaHNrep
import Derived.Test.YtdblpflepfcnjaaHQx2
import Derived.Test.YtdblpflepfcnjaaHNf
import Derived.Test.YtdblpflepfcnjaaHNh
import Derived.Test.YtdblpflepfcnjaaHNi
section
/- nic.wants. -/
namespace Go.Proofs.Ytdblpflepfcnjaa.Q
open Go.RowKit Go.Proofs.YtdblpflepfcnjaaW.PrintWords Go.Proofs.YtdblpflepfcnjaaW.PrintLast Go.Proofs.YtdblpflepfcnjaaW.PrintMore Go.Proofs.Ytdblpflepfcnjaa.L
attribute [local go_sem] Instr.field part asAgg lt_step max2_int min2_int max_two min_two max_three min_three max_four min_four lt_0_1 lt_0_2 lt_1_2 lt_0_3 lt_1_3 lt_2_3 lt_0_4 lt_1_4 lt_2_4 lt_3_4 lt_0_5 lt_1_5 lt_2_5 lt_3_5 lt_4_5 lt_0_6 lt_1_6 lt_2_6 lt_3_6 lt_4_6 lt_5_6 lt_0_7 lt_1_7 lt_2_7 lt_3_7 lt_4_7 lt_5_7 lt_6_7 lt_0_8 lt_1_8 lt_2_8 lt_3_8 lt_4_8 lt_5_8 lt_6_8 lt_7_8
set_option linter.unusedVariables false
set_option linter.unusedSimpArgs false
def gateZ (c : Nat → Int) (n : Nat) : Bool := decide ((n : Int) < 14) || decide (1514 < (n : Int)) || (Go.bits .and .i64 (c 0) 2 == 0) || (c 9 == c 10)
def eqS (l0 l1 : List Int) : Bool := (strOfNums l0).toList == (strOfNums l1).toList
def forZ (c : Nat → Int) (mac fr : List Int) : Bool := decide (Go.bits .and .i64 (c 0) 4 > 0) || eqS (fr.take 6) mac || eqS (fr.take 6) (List.replicate 6 255)
def wantsZ (c : Nat → Int) (mac fr : List Int) : Bool := !gateZ c fr.length && forZ c mac fr
theorem equal_c (n m : Nat) (b : Bool) (A0 : Option Addr) (c0 : Nat) (l0 : List Int) (A1 : Option Addr) (c1 : Nat) (l1 : List Int) (w : World) (hn : l0.length = n) (hm : l1.length = m) (hr0 : Kd.C (Kd.int .u8) w A0 n l0) (hc0 : n ≤ c0) (hr1 : Kd.C (Kd.int .u8) w A1 m l1) (hc1 : m ≤ c1) (hb : eqS l0 l1 = b) :
    Calls Try.prog 58 #[.slice A0 n c0, .slice A1 m c1] w fun e w' => e = .returned (.bool b) ∧ Below w.heap.size w w' := by
  subst hn hm
  exact (bytes_Equal.calls A0 c0 l0 A1 c1 l1 b w hr0 hc0 hr1 hc1 (by unfold bytes_Equal.f; exact congrArg some hb)).mono fun _ _ ⟨he, hd⟩ => ⟨he, hd.below⟩
set_option maxHeartbeats 1600000 in
set_option maxRecDepth 100000 in
theorem wants_is (A : Option Addr) (cap : Nat) (mac : List Int) (FA : Option Addr) (fc : Nat) (fr : List Int) (c : Nat → Int) (w : World) (okm okf : Nat → Prop) (hm : Kd.F (Kd.int .u8) w okm A mac.length mac) (hmc : mac.length ≤ cap) (hf : Kd.F (Kd.int .u8) w okf FA fr.length fr) (hfc : fr.length ≤ fc) (g : Bool) (hg : gateZ c fr.length = g) (hg6 : g = false → 14 ≤ fr.length) (b1 b2 b3 : Bool) (h1 : decide (Go.bits .and .i64 (c 0) 4 > 0) = b1) (h2 : eqS (fr.take 6) mac = b2) (h3 : eqS (fr.take 6) (List.replicate 6 255) = b3) :
    Calls Try.prog 45 #[.agg (C14 c (.slice A mac.length cap)), .slice FA fr.length fc] w fun e w' => e = .returned (.bool (!g && (b1 || (b2 || b3)))) ∧ Below w.heap.size w w' := by
  have HB := Aside0.mk (Below.refl w.heap.size w)
  have HM := Aside0.mk (Kd.F_bound hm)
  have HF := Aside0.mk (Kd.F_bound hf)
  have HMC := Aside0.mk hmc
  have HFC := Aside0.mk hfc
  have HG := Aside0.mk hg
  have HG6 := Aside0.mk hg6
  have H2 := Aside0.mk h2
  have H3 := Aside0.mk h3
  have hu := Try.underlying25
  clear hm hf hmc hg hg6 h2 h3
  go_enter Try.func45, Try.ntmps45
  go_upto_region 1 with fail
  obtain ⟨wa, hwa, on0, hb_, hz0⟩ := letter1 w (.cells (C14 c (.slice A mac.length cap)) 25 (0, 0))
  rw [hwa]
  clear hwa
  have hzwa := Nat.le_of_eq hz0.symm
  clear hz0
  have on := Aside0.mk on0
  clear on0
  obtain ⟨onc, onf, onl⟩ := cells_of on.out
  have HB_ : Aside0 (Below w.heap.size w wa) := ⟨hb_⟩
  have HM_ := Aside0.mk (Kd.F_below HM.out hb_)
  have HF_ := Aside0.mk (Kd.F_below HF.out hb_)
  clear HB HM HF hb_; have HB := HB_; have HM := HM_; have HF := HF_; clear HB_ HM_ HF_
  have hc0 : World.cell? wa ⟨w.heap.size, 0, none⟩ = some (.int .i64 (c 0)) := (onc 0).trans rfl
  have hc9 : World.cell? wa ⟨w.heap.size, 9, none⟩ = some (.int .i64 (c 9)) := (onc 9).trans rfl
  have hc10 : World.cell? wa ⟨w.heap.size, 10, none⟩ = some (.int .i64 (c 10)) := (onc 10).trans rfl
  have hc13 : World.cell? wa ⟨w.heap.size, 13, none⟩ = some (.slice A mac.length cap) := (onc 13).trans rfl
  clear onc
  have onc := trivial
  go_cut [27] (fun v wx => v = .bool (gateZ c fr.length) ∧ wa = wx)
  case first =>
    go_wp2_with fail
    all_goals go_meet
    all_goals refine ⟨congrArg Value.bool ?_, rfl⟩
    all_goals (unfold gateZ; (try simp [*]); (try (intros; omega)))
  case rest =>
  obtain ⟨rfl, rfl⟩ := hcut
  rw [HG.out]
  cases g
  case true =>
    go_wp2
    go_ret
    exact ⟨rfl, HB.out⟩
  case false =>
  have h14 := HG6.out rfl
  clear HG6
  have h6c : (6 : Int) ≤ (fc : Int) := by omega
  have HT := Aside0.mk (Kd.F_take HF.out (m := 6) (by omega))
  have hT6 : (fr.take 6).length = 6 := by rw [List.length_take]; omega
  rw [hT6] at HT
  have HT6 := Aside0.mk hT6
  clear hT6
  go_wp2_with fail
  (go_at_call 57; (with_reducible refine (repeat_is _ _ (nb_1 _ _)).mono ?_); rintro e_ w1 ⟨qb, qc, rfl, hq1, hq2, hb_⟩; have HB_ : Aside0 (Below w.heap.size w w1) := Aside0.mk (below_step (bG HB) hb_); have hzw1 := hb_.size; (try simp at hzw1); have on_ := Aside0.mk (box_below hb_ (eG on)); have HM_ := Aside0.mk (Kd.F_below (fG HM) hb_); clear HM; have HM := HM_; clear HM_; have HT_ := Aside0.mk (Kd.F_below (fG HT) hb_); clear HT; have HT := HT_; clear HT_; (try clear on onc onf onl); have on := on_; clear on_; obtain ⟨onc, onf, onl⟩ := cells_of on.out; clear HB hb_; have HB := HB_; clear HB_; have hq1_ := Aside0.mk hq1; clear hq1; have hq1 := hq1_; clear hq1_; have hq2_ := Aside0.mk hq2; clear hq2; have hq2 := hq2_; clear hq2_; skip)
  have hc0 : World.cell? w1 ⟨w.heap.size, 0, none⟩ = some (.int .i64 (c 0)) := (onc 0).trans rfl
  have hc13 : World.cell? w1 ⟨w.heap.size, 13, none⟩ = some (.slice A mac.length cap) := (onc 13).trans rfl
  clear onc
  have onc := trivial
  have HMC2 := HMC.out
  cases b1
  case true =>
    go_wp2
    go_ret
    exact ⟨rfl, HB.out⟩
  case false =>
  cases b2
  case true =>
    go_wp2_with fail
    (go_at_call 58; (with_reducible refine (equal_c 6 mac.length true _ _ (fr.take 6) _ _ mac _ HT6.out rfl (Kd.F_now (fG HT)) (by omega) (Kd.F_now (fG HM)) HMC.out H2.out).mono ?_); rintro e_ w2 ⟨rfl, hb_⟩; have HB_ : Aside0 (Below w.heap.size w w2) := Aside0.mk (below_step (bG HB) hb_); have hzw2 := hb_.size; (try simp at hzw2); have on_ := Aside0.mk (box_below hb_ (eG on)); have HT_ := Aside0.mk (Kd.F_below (fG HT) hb_); clear HT; have HT := HT_; clear HT_; have HM_ := Aside0.mk (Kd.F_below (fG HM) hb_); clear HM; have HM := HM_; clear HM_; (try clear on onc onf onl); have on := on_; clear on_; obtain ⟨onc, onf, onl⟩ := cells_of on.out; clear HB hb_; have HB := HB_; clear HB_)
    go_wp2
    go_ret
    exact ⟨rfl, HB.out⟩
  case false =>
    go_wp2_with fail
    (go_at_call 58; (with_reducible refine (equal_c 6 mac.length false _ _ (fr.take 6) _ _ mac _ HT6.out rfl (Kd.F_now (fG HT)) (by omega) (Kd.F_now (fG HM)) HMC.out H2.out).mono ?_); rintro e_ w2 ⟨rfl, hb_⟩; have HB_ : Aside0 (Below w.heap.size w w2) := Aside0.mk (below_step (bG HB) hb_); have hzw2 := hb_.size; (try simp at hzw2); have on_ := Aside0.mk (box_below hb_ (eG on)); have HT_ := Aside0.mk (Kd.F_below (fG HT) hb_); clear HT; have HT := HT_; clear HT_; have HM_ := Aside0.mk (Kd.F_below (fG HM) hb_); clear HM; have HM := HM_; clear HM_; have hq2_ := Aside0.mk (Kd.F_below (fG hq2) hb_); clear hq2; have hq2 := hq2_; clear hq2_; (try clear on onc onf onl); have on := on_; clear on_; obtain ⟨onc, onf, onl⟩ := cells_of on.out; clear HB hb_; have HB := HB_; clear HB_)
    go_wp2_with fail
    (go_at_call 58; (with_reducible refine (equal_c 6 6 b3 _ _ (fr.take 6) _ _ (List.replicate 6 255) _ HT6.out rfl (Kd.F_now (fG HT)) (by omega) (Kd.F_now (fG hq2)) hq1.out H3.out).mono ?_); rintro e_ w3 ⟨rfl, hb_⟩; have HB_ : Aside0 (Below w.heap.size w w3) := Aside0.mk (below_step (bG HB) hb_); have hzw3 := hb_.size; (try simp at hzw3); have on_ := Aside0.mk (box_below hb_ (eG on)); have HT_ := Aside0.mk (Kd.F_below (fG HT) hb_); clear HT; have HT := HT_; clear HT_; (try clear on onc onf onl); have on := on_; clear on_; obtain ⟨onc, onf, onl⟩ := cells_of on.out; clear HB hb_; have HB := HB_; clear HB_)
    go_wp2
    go_ret
    exact ⟨by simp, HB.out⟩
theorem wants_of (b : Bool) (A : Option Addr) (cap : Nat) (mac : List Int) (FA : Option Addr) (fc : Nat) (fr : List Int) (c : Nat → Int) (w : World) (okm okf : Nat → Prop) (hm : Kd.F (Kd.int .u8) w okm A mac.length mac) (hmc : mac.length ≤ cap) (hf : Kd.F (Kd.int .u8) w okf FA fr.length fr) (hfc : fr.length ≤ fc) (hb : wantsZ c mac fr = b) :
    Calls Try.prog 45 #[.agg (C14 c (.slice A mac.length cap)), .slice FA fr.length fc] w fun e w' => e = .returned (.bool b) ∧ Below w.heap.size w w' := by
  have := wants_is A cap mac FA fc fr c w okm okf hm hmc hf hfc _ rfl (fun h => by unfold gateZ at h; simp at h; omega) _ _ _ rfl rfl rfl
  rw [← hb]
  unfold wantsZ forZ
  rw [Bool.or_assoc]
  exact this
end Go.Proofs.Ytdblpflepfcnjaa.Q
end
section
/- nic.registers, nic.Load. -/
namespace Go.Proofs.Ytdblpflepfcnjaa.Q
open Go.RowKit Go.Proofs.YtdblpflepfcnjaaW.PrintWords Go.Proofs.YtdblpflepfcnjaaW.PrintLast Go.Proofs.YtdblpflepfcnjaaW.PrintMore Go.Proofs.Ytdblpflepfcnjaa.L
attribute [local go_sem] Instr.field part asAgg lt_step max2_int min2_int max_two min_two max_three min_three max_four min_four lt_0_1 lt_0_2 lt_1_2 lt_0_3 lt_1_3 lt_2_3 lt_0_4 lt_1_4 lt_2_4 lt_3_4 lt_0_5 lt_1_5 lt_2_5 lt_3_5 lt_4_5 lt_0_6 lt_1_6 lt_2_6 lt_3_6 lt_4_6 lt_5_6 lt_0_7 lt_1_7 lt_2_7 lt_3_7 lt_4_7 lt_5_7 lt_6_7 lt_0_8 lt_1_8 lt_2_8 lt_3_8 lt_4_8 lt_5_8 lt_6_8 lt_7_8
set_option linter.unusedVariables false
set_option linter.unusedSimpArgs false
def regL (c : Nat → Int) (g : Int) : List Int := [IntKind.u64.wrap (c 0), IntKind.u64.wrap (c 1), IntKind.u64.wrap (c 2), c 3, IntKind.u64.wrap (c 4), IntKind.u64.wrap (c 5), IntKind.u64.wrap (c 6), c 7, IntKind.u64.wrap (c 8), IntKind.u64.wrap (c 9), IntKind.u64.wrap (c 10), IntKind.u64.wrap (c 11), IntKind.u64.wrap (c 12), Go.bits .and .u64 g 4294967295, g / 4294967296]
def regA (c : Nat → Int) (g : Int) : Array Value := #[.int .u64 (IntKind.u64.wrap (c 0)), .int .u64 (IntKind.u64.wrap (c 1)), .int .u64 (IntKind.u64.wrap (c 2)), .int .u64 (c 3), .int .u64 (IntKind.u64.wrap (c 4)), .int .u64 (IntKind.u64.wrap (c 5)), .int .u64 (IntKind.u64.wrap (c 6)), .int .u64 (c 7), .int .u64 (IntKind.u64.wrap (c 8)), .int .u64 (IntKind.u64.wrap (c 9)), .int .u64 (IntKind.u64.wrap (c 10)), .int .u64 (IntKind.u64.wrap (c 11)), .int .u64 (IntKind.u64.wrap (c 12)), .int .u64 (Go.bits .and .u64 g 4294967295), .int .u64 (g / 4294967296)]
def regV (c : Nat → Int) (g i : Int) : Int := (regL c g).getD i.toNat 0
def refuseZ (c : Nat → Int) (m : Nat) (off size : Int) : Bool := !okC c m || (size != 4) || decide (Go.bits .and .u64 off 3 > 0) || decide (off / 4 ≥ 15)
def loadV (c : Nat → Int) (mac : List Int) (off : Int) : Int := regV c (getB mac false) (off / 4)
theorem reg_index (c : Nat → Int) (g i : Int) (h0 : 0 ≤ i) (h1 : i < 15) (W : World) : (Instr.index 67 (.agg (regA c g)) (.int .u64 i)).run Try.prog W = .ok (.int .u64 (regV c g i)) W := by
  have h : i = 0 ∨ i = 1 ∨ i = 2 ∨ i = 3 ∨ i = 4 ∨ i = 5 ∨ i = 6 ∨ i = 7 ∨ i = 8 ∨ i = 9 ∨ i = 10 ∨ i = 11 ∨ i = 12 ∨ i = 13 ∨ i = 14 := by omega
  rcases h with rfl | rfl | rfl | rfl | rfl | rfl | rfl | rfl | rfl | rfl | rfl | rfl | rfl | rfl | rfl <;> rfl
set_option maxHeartbeats 1600000 in
set_option maxRecDepth 100000 in
theorem regs_is (A : Option Addr) (cap : Nat) (mac : List Int) (c : Nat → Int) (w : World) (okm : Nat → Prop) (hm : Kd.F (Kd.int .u8) w okm A mac.length mac) (hmc : mac.length ≤ cap) (hmb : ∀ z ∈ mac, byte z) :
    Calls Try.prog 40 #[.agg (C14 c (.slice A mac.length cap))] w fun e w' => e = .returned (.agg (regA c (getB mac false))) ∧ Below w.heap.size w w' := by
  have HB := Aside0.mk (Below.refl w.heap.size w)
  have HM := Aside0.mk (Kd.F_bound hm)
  have HMC := Aside0.mk hmc
  have HMB := Aside0.mk hmb
  have hu := Try.underlying25
  have hu6 := Try.underlying67
  obtain ⟨g, hg⟩ : ∃ g, getB mac false = g := ⟨_, rfl⟩
  rw [hg]
  have HG : Aside0 (∀ (A : Option Addr) (cap : Nat) (w : World), Kd.C (Kd.int .u8) w A mac.length mac → mac.length ≤ cap → Calls Try.prog 54 #[.slice A mac.length cap, .bool false] w fun e w' => e = .returned (.int .u64 g) ∧ Below w.heap.size w w') := ⟨fun A cap w h1 h2 => by rw [← hg]; exact get_c _ A cap mac w rfl h1 h2 HMB.out⟩
  clear hm hmc hmb hg
  go_enter Try.func40, Try.ntmps40
  go_upto_region 1 with fail
  obtain ⟨wa, hwa, on0, oz0, hb_, hz0⟩ := letter2 w (.cells (C14 c (.slice A mac.length cap)) 25 (0, 0)) (.cells #[.int .u64 0, .int .u64 0, .int .u64 0, .int .u64 0, .int .u64 0, .int .u64 0, .int .u64 0, .int .u64 0, .int .u64 0, .int .u64 0, .int .u64 0, .int .u64 0, .int .u64 0, .int .u64 0, .int .u64 0] 67 (0, 0))
  rw [hwa]
  clear hwa
  have hzwa := Nat.le_of_eq hz0.symm
  clear hz0
  have on := Aside0.mk on0
  have oz := Aside0.mk oz0
  clear on0 oz0
  obtain ⟨onc, onf, onl⟩ := cells_of on.out
  obtain ⟨ozc, ozf, ozl⟩ := cells_of oz.out
  have HB_ : Aside0 (Below w.heap.size w wa) := ⟨hb_⟩
  have HM_ := Aside0.mk (Kd.F_below HM.out hb_)
  clear HB HM hb_; have HB := HB_; have HM := HM_; clear HB_ HM_
  have hc13 : World.cell? wa ⟨w.heap.size, 13, none⟩ = some (.slice A mac.length cap) := (onc 13).trans rfl
  clear onc
  have onc := trivial
  go_wp2_with fail
  (go_at_call 54; (with_reducible refine (HG.out _ _ _ (Kd.F_now HM.out) HMC.out).mono ?_); rintro e_ w1 ⟨rfl, hb_⟩; have HB_ : Aside0 (Below w.heap.size w w1) := Aside0.mk (below_step (bG HB) hb_); have hzw1 := hb_.size; (try simp at hzw1); have on_ := Aside0.mk (box_below hb_ (eG on)); have oz_ := Aside0.mk (box_below hb_ (eG oz)); (try clear on onc onf onl); have on := on_; clear on_; obtain ⟨onc, onf, onl⟩ := cells_of on.out; (try clear oz ozc ozf ozl); have oz := oz_; clear oz_; obtain ⟨ozc, ozf, ozl⟩ := cells_of oz.out; clear HB hb_; have HB := HB_; clear HB_)
  have hc0 : World.cell? w1 ⟨w.heap.size, 0, none⟩ = some (.int .i64 (c 0)) := (onc 0).trans rfl
  have hc1 : World.cell? w1 ⟨w.heap.size, 1, none⟩ = some (.int .i64 (c 1)) := (onc 1).trans rfl
  have hc2 : World.cell? w1 ⟨w.heap.size, 2, none⟩ = some (.int .i64 (c 2)) := (onc 2).trans rfl
  have hc3 : World.cell? w1 ⟨w.heap.size, 3, none⟩ = some (.int .u64 (c 3)) := (onc 3).trans rfl
  have hc4 : World.cell? w1 ⟨w.heap.size, 4, none⟩ = some (.int .i64 (c 4)) := (onc 4).trans rfl
  have hc5 : World.cell? w1 ⟨w.heap.size, 5, none⟩ = some (.int .i64 (c 5)) := (onc 5).trans rfl
  have hc6 : World.cell? w1 ⟨w.heap.size, 6, none⟩ = some (.int .i64 (c 6)) := (onc 6).trans rfl
  have hc7 : World.cell? w1 ⟨w.heap.size, 7, none⟩ = some (.int .u64 (c 7)) := (onc 7).trans rfl
  have hc8 : World.cell? w1 ⟨w.heap.size, 8, none⟩ = some (.int .i64 (c 8)) := (onc 8).trans rfl
  have hc9 : World.cell? w1 ⟨w.heap.size, 9, none⟩ = some (.int .i64 (c 9)) := (onc 9).trans rfl
  have hc10 : World.cell? w1 ⟨w.heap.size, 10, none⟩ = some (.int .i64 (c 10)) := (onc 10).trans rfl
  have hc11 : World.cell? w1 ⟨w.heap.size, 11, none⟩ = some (.int .i64 (c 11)) := (onc 11).trans rfl
  have hc12 : World.cell? w1 ⟨w.heap.size, 12, none⟩ = some (.int .i64 (c 12)) := (onc 12).trans rfl
  clear onc
  have onc := trivial
  go_wp2
  refine bodyPost_ret (v := .agg (regA c g)) (by simp [results, Try.results40, go_sem, ozc, ozf, regA] <;> first | assumption | omega | (symm; assumption)) rfl ⟨rfl, (bG HB)⟩

set_option maxHeartbeats 1600000 in
set_option maxRecDepth 100000 in
theorem Load_is (A : Option Addr) (cap : Nat) (mac : List Int) (c : Nat → Int) (off size : Int) (w : World) (okm : Nat → Prop) (hm : Kd.F (Kd.int .u8) w okm A mac.length mac) (hmc : mac.length ≤ cap) (hmb : ∀ z ∈ mac, byte z) (h0 : 0 ≤ off) (h64 : off < 18446744073709551616) (b k : Bool) (hk : okC c mac.length = k) (hb : refuseZ c mac.length off size = b) :
    Calls Try.prog 13 #[.agg (C14 c (.slice A mac.length cap)), .int .u64 off, .int .i64 size] w fun e w' => e = .returned (.tuple #[.int .u64 (if b then 0 else loadV c mac off), .bool (!b)]) ∧ Below w.heap.size w w' := by
  have HB := Aside0.mk (Below.refl w.heap.size w)
  have HM := Aside0.mk (Kd.F_bound hm)
  have HMC := Aside0.mk hmc
  have HMB := Aside0.mk hmb
  have HK := Aside0.mk hk
  have hRB := hb
  have hu := Try.underlying25
  have hu6 := Try.underlying67
  have hlt : b = false → off / 4 < 15 := fun h => by
    rw [h] at hRB
    unfold refuseZ at hRB
    simp only [Bool.or_eq_false_iff, decide_eq_false_iff_not] at hRB
    omega
  have hidx : b = false → ∀ W : World, (Instr.index 67 (.agg (regA c (getB mac false))) (.int .u64 (off / 4))).run Try.prog W = .ok (.int .u64 (loadV c mac off)) W := fun h => reg_index c _ _ (by omega) (hlt h)
  have HIDX := Aside0.mk hidx
  have HRB := Aside0.mk hRB
  obtain ⟨b4, hb4⟩ : ∃ b4, (size != 4) = b4 := ⟨_, rfl⟩
  have hdv : IntKind.u64.wrap (off.tdiv 4) = off / 4 := by rw [Int.tdiv_eq_ediv_of_nonneg h0, IntKind.wrap_u64]; omega
  clear hm hmc hmb hk hlt hidx hRB hb h64
  go_enter Try.func13, Try.ntmps13
  go_upto_region 1 with fail
  obtain ⟨wa, hwa, on0, hb_, hz0⟩ := letter1 w (.cells (C14 c (.slice A mac.length cap)) 25 (0, 0))
  rw [hwa]
  clear hwa
  have hzwa := Nat.le_of_eq hz0.symm
  clear hz0
  have on := Aside0.mk on0
  clear on0
  obtain ⟨onc, onf, onl⟩ := cells_of on.out
  have HB_ : Aside0 (Below w.heap.size w wa) := ⟨hb_⟩
  have HM_ := Aside0.mk (Kd.F_below HM.out hb_)
  clear HB HM hb_; have HB := HB_; have HM := HM_; clear HB_ HM_
  go_cut [24] (fun v wx => v = .bool (refuseZ c mac.length off size) ∧ Aside0 (wx.heap[w.heap.size]? = some (.cells (C14 c (.slice A mac.length cap)) 25 (0, 0))) ∧ Aside0 (Kd.F (Kd.int .u8) wx (fun j => okm j ∧ j < w.heap.size) A mac.length mac) ∧ Aside0 (Below w.heap.size w wx))
  case first =>
    go_wp2_with (first | ((with_reducible refine gate_dst (N := 8) rfl ?_); (try (refine gate_guard (by rfl) ?_; dsimp only)); refine wpList_load_row rfl 25 _ rfl _ (by rfl) _ (C14 c (.slice A mac.length cap)) _ _ (eG on) Try.underlying25 rfl i25 ?_))
    (go_at_call 9; (with_reducible refine (Check_of k c A mac.length cap _ HK.out).mono ?_); rintro e_ w1 ⟨rfl, hb_⟩; have HB_ : Aside0 (Below w.heap.size w w1) := Aside0.mk (below_step (bG HB) hb_); have hzw1 := hb_.size; (try simp at hzw1); have on_ := Aside0.mk (box_below hb_ (eG on)); have HM_ := Aside0.mk (Kd.F_below (fG HM) hb_); clear HM; have HM := HM_; clear HM_; (try clear on onc onf onl); have on := on_; clear on_; obtain ⟨onc, onf, onl⟩ := cells_of on.out; clear HB hb_; have HB := HB_; clear HB_)
    have HM_ := Aside0.mk (Kd.F_mono HM.out (ok' := fun j => okm j ∧ j < w.heap.size) (fun j hj => by first | exact hj | exact hj.1))
    clear HM
    cases k <;> cases b4
    all_goals go_wp2_with fail
    all_goals go_meet
    all_goals refine ⟨congrArg Value.bool ?_, on, HM_, HB⟩
    all_goals (unfold refuseZ; rw [HK.out]; simp [*] <;> (intros; omega))
  case rest =>
  obtain ⟨rfl, on, HM, HB⟩ := hcut
  rename World => w2
  obtain ⟨onc, onf, onl⟩ := cells_of on.out
  rw [HRB.out]
  cases b
  case true =>
    go_wp2
    go_ret2
    exact ⟨rfl, HB.out⟩
  case false =>
    have hidx := HIDX.out rfl
    go_wp2_with (first | ((with_reducible refine gate_dst (N := 25) rfl ?_); (try (refine gate_guard (by rfl) ?_; dsimp only)); refine wpList_load_row rfl 25 _ rfl _ (by rfl) _ (C14 c (.slice A mac.length cap)) _ _ (eG on) Try.underlying25 rfl i25 ?_))
    (go_at_call 40; (with_reducible refine (regs_is A cap mac c _ _ HM.out HMC.out HMB.out).mono ?_); rintro e_ w3 ⟨rfl, hb_⟩; have HB_ : Aside0 (Below w.heap.size w w3) := Aside0.mk (below_step (bG HB) hb_); have hzw3 := hb_.size; (try simp at hzw3); have on_ := Aside0.mk (box_below hb_ (eG on)); (try clear on onc onf onl); have on := on_; clear on_; obtain ⟨onc, onf, onl⟩ := cells_of on.out; clear HB hb_; have HB := HB_; clear HB_)
    go_wp2
    go_ret2
    exact ⟨rfl, HB.out⟩
end Go.Proofs.Ytdblpflepfcnjaa.Q
end
section
/- nic.New, nic.Line. -/
namespace Go.Proofs.Ytdblpflepfcnjaa.Q
open Go.RowKit Go.Proofs.YtdblpflepfcnjaaW.PrintWords Go.Proofs.YtdblpflepfcnjaaW.PrintLast Go.Proofs.YtdblpflepfcnjaaW.PrintMore Go.Proofs.Ytdblpflepfcnjaa.L
attribute [local go_sem] Instr.field part asAgg lt_step max2_int min2_int max_two min_two max_three min_three max_four min_four lt_0_1 lt_0_2 lt_1_2 lt_0_3 lt_1_3 lt_2_3 lt_0_4 lt_1_4 lt_2_4 lt_3_4 lt_0_5 lt_1_5 lt_2_5 lt_3_5 lt_4_5 lt_0_6 lt_1_6 lt_2_6 lt_3_6 lt_4_6 lt_5_6 lt_0_7 lt_1_7 lt_2_7 lt_3_7 lt_4_7 lt_5_7 lt_6_7 lt_0_8 lt_1_8 lt_2_8 lt_3_8 lt_4_8 lt_5_8 lt_6_8 lt_7_8
set_option linter.unusedVariables false
set_option linter.unusedSimpArgs false
def new0 : Nat → Int := fun _ => 0
def new1 : Nat → Int := fun i => if i = 4 ∨ i = 8 then 1 else 0
def lineZ (c : Nat → Int) (m : Nat) : Bool := okC c m && decide (Go.bits .and .i64 (c 1) (c 2) > 0)
set_option maxHeartbeats 1600000 in
set_option maxRecDepth 100000 in
theorem New_yes (A : Option Addr) (cap : Nat) (mac : List Int) (w : World) (okm : Nat → Prop) (hm : Kd.F (Kd.int .u8) w okm A mac.length mac) (hmc : mac.length ≤ cap) (h6 : mac.length = 6) :
    Calls Try.prog 17 #[.slice A mac.length cap] w fun e w' => ∃ A' c', e = .returned (.tuple #[.agg (C14 new1 (.slice A' mac.length c')), .int .i64 0]) ∧ mac.length ≤ c' ∧ Kd.F (Kd.int .u8) w' (fun j => w.heap.size ≤ j) A' mac.length mac ∧ Below w.heap.size w w' := by
  have HB := Aside0.mk (Below.refl w.heap.size w)
  have HM := Aside0.mk (Kd.F_bound hm)
  have HMC := Aside0.mk hmc
  have hu := Try.underlying25
  have hb6 : ((mac.length : Int) != 6) = false := by rw [h6]; rfl
  have hi6 : decide ((mac.length : Int) = 6) = true := by rw [h6]; rfl
  have HCL : Aside0 (slices_Clone_byte_byte.f mac = some mac) := ⟨by unfold slices_Clone_byte_byte.f; rw [if_pos (by omega)]⟩
  clear hm hmc h6
  go_enter Try.func17, Try.ntmps17
  go_wp2_with fail
  (go_at_call 41; (with_reducible refine (slices_Clone_byte_byte.calls A cap mac mac _ (Kd.F_now (fG HM)) HMC.out HCL.out).mono ?_); rintro e_ w1 ⟨v_q, rfl, hr_q, hb_⟩; have HB_ : Aside0 (Below w.heap.size w w1) := Aside0.mk (below_step (bG HB) hb_); have hzw1 := hb_.size; (try simp at hzw1); have oa_ := Aside0.mk (box_below hb_ (by repeat (with_reducible first | exact nb_1 w _ | apply ext_drew | apply ext_drewN | apply ext_alloc | refine blk_far ?_ (by show _ ≠ _; dsimp only; omega) _))); (try clear oa oac oaf oal); have oa := oa_; clear oa_; obtain ⟨oac, oaf, oal⟩ := cells_of oa.out; clear HB hb_; have HB := HB_; clear HB_; obtain ⟨A_q, c_q, ev_, hc_q, hf_q⟩ := R_Fl hr_q; subst ev_; have qc := Aside0.mk hc_q; have q := Aside0.mk (Kd.F_bound hf_q); clear hc_q hf_q hr_q; skip)
  go_wp2
  refine bodyPost_ret (v := .tuple #[.agg (C14 new1 (.slice A_q mac.length c_q)), .int .i64 0]) (by simp [results, Try.results17, go_sem, oac, oaf, C14, new1] <;> first | assumption | omega | (symm; assumption)) rfl ?_
  exact ⟨A_q, c_q, rfl, qc.out, (by refine F_res (ok := ?_) (fG q) ?_; intro j_ hj_; (try simp only [sz_alloc, sz_drew, sz_drewN, sz_set] at hj_); omega), (bG HB)⟩
set_option maxHeartbeats 1600000 in
set_option maxRecDepth 100000 in
theorem New_no (A : Option Addr) (cap : Nat) (mac : List Int) (w : World) (h6 : ((mac.length : Int) != 6) = true) :
    Calls Try.prog 17 #[.slice A mac.length cap] w fun e w' => e = .returned (.tuple #[.agg (C14 new0 (.slice none 0 0)), .int .i64 2]) ∧ Below w.heap.size w w' := by
  have HB := Aside0.mk (Below.refl w.heap.size w)
  have hu := Try.underlying25
  go_enter Try.func17, Try.ntmps17
  go_wp2
  refine bodyPost_ret (v := .tuple #[.agg (C14 new0 (.slice none 0 0)), .int .i64 2]) (by simp [results, Try.results17, go_sem, C14, new0] <;> first | assumption | omega | (symm; assumption)) rfl ?_
  exact ⟨rfl, (bG HB)⟩
set_option maxHeartbeats 1600000 in
set_option maxRecDepth 100000 in
theorem Line_is (c : Nat → Int) (A : Option Addr) (m cap : Nat) (w : World) (k : Bool) (hk : okC c m = k) : Calls Try.prog 21 #[.agg (C14 c (.slice A m cap))] w fun e w' => e = .returned (.bool (lineZ c m)) ∧ Below w.heap.size w w' := by
  have HB := Aside0.mk (Below.refl w.heap.size w)
  have HK := Aside0.mk hk
  have hu := Try.underlying25
  unfold lineZ
  rw [hk]
  clear hk
  go_enter Try.func21, Try.ntmps21
  go_upto_region 1 with fail
  obtain ⟨wa, hwa, on0, hb_, hz0⟩ := letter1 w (.cells (C14 c (.slice A m cap)) 25 (0, 0))
  rw [hwa]
  clear hwa
  have hzwa := Nat.le_of_eq hz0.symm
  clear hz0
  have on := Aside0.mk on0
  clear on0
  obtain ⟨onc, onf, onl⟩ := cells_of on.out
  have HB_ : Aside0 (Below w.heap.size w wa) := ⟨hb_⟩
  clear HB hb_
  have HB := HB_
  clear HB_
  go_wp2_with (first | ((with_reducible refine gate_dst (N := 3) rfl ?_); (try (refine gate_guard (by rfl) ?_; dsimp only)); refine wpList_load_row rfl 25 _ rfl _ (by rfl) _ (C14 c (.slice A m cap)) _ _ (eG on) Try.underlying25 rfl i25 ?_))
  (go_at_call 9; (with_reducible refine (Check_of k c A m cap _ HK.out).mono ?_); rintro e_ w1 ⟨rfl, hb_⟩; have HB_ : Aside0 (Below w.heap.size w w1) := Aside0.mk (below_step (bG HB) hb_); have hzw1 := hb_.size; (try simp at hzw1); have on_ := Aside0.mk (box_below hb_ (eG on)); (try clear on onc onf onl); have on := on_; clear on_; obtain ⟨onc, onf, onl⟩ := cells_of on.out; clear HB hb_; have HB := HB_; clear HB_)
  have hc1 : World.cell? w1 ⟨w.heap.size, 1, none⟩ = some (.int .i64 (c 1)) := (onc 1).trans rfl
  have hc2 : World.cell? w1 ⟨w.heap.size, 2, none⟩ = some (.int .i64 (c 2)) := (onc 2).trans rfl
  clear onc
  have onc := trivial
  cases k
  all_goals go_wp2
  all_goals go_ret
  all_goals exact ⟨by simp [*], HB.out⟩
end Go.Proofs.Ytdblpflepfcnjaa.Q
end
section
/- nic.Send and nic.Receive: what they do, in plain numbers and lists. -/
namespace Go.Proofs.Ytdblpflepfcnjaa.Q
open Go.RowKit Go.Proofs.YtdblpflepfcnjaaW.PrintWords Go.Proofs.YtdblpflepfcnjaaW.PrintLast Go.Proofs.YtdblpflepfcnjaaW.PrintMore Go.Proofs.Ytdblpflepfcnjaa.L
set_option linter.unusedVariables false
def atT (c : Nat → Int) : Int := IntKind.u64.wrap (c 3 + IntKind.u64.wrap (16 * IntKind.u64.wrap (c 5)))
def atR (c : Nat → Int) : Int := IntKind.u64.wrap (c 7 + IntKind.u64.wrap (16 * IntKind.u64.wrap (c 9)))
def nextT (c : Nat → Int) : Nat → Int := upd c 5 (Int.tmod (wrap64 (c 5 + 1)) (c 4))
def nextR (c : Nat → Int) : Nat → Int := upd c 9 (Int.tmod (wrap64 (c 9 + 1)) (c 8))
def doneL (l d : List Int) (at_ st : Int) : List Int := fillL l (IntKind.u64.wrap (at_ + 10)) [Go.bits .andNot .u8 (flagD d) 1, restD d, st, 0]
theorem doneL_length (l d : List Int) (at_ st : Int) : (doneL l d at_ st).length = l.length := fillL_length _ _ _
abbrev SR := (Nat → Int) × List Int × List Int × Bool
def frameZ (c : Nat → Int) (l d : List Int) : SR :=
  if (bytesZ l (bufD d) (sizeD d)).2 = false then (failC (nextT c), doneL l d (atT c) 2, [], true)
  else if sizeD d < 14 then (failC (nextT c), doneL l d (atT c) 2, [], true)
  else if sizeD d > 1514 then (failC (nextT c), doneL l d (atT c) 2, [], true)
  else (upd (nextT c) 1 (Go.bits .or .i64 (c 1) 1), doneL l d (atT c) 1, cutL l (bufD d) (sizeD d), true)
def sendZ (c : Nat → Int) (m : Nat) (l : List Int) : SR :=
  if okC c m = false then (c, l, [], false)
  else if (Go.bits .and .i64 (c 0) 1 == 0) = true then (c, l, [], false)
  else if (c 5 == c 6) = true then (c, l, [], false)
  else if (placeZ l.length (atT c) 16).2 = false then (failC (upd c 0 (Go.bits .andNot .i64 (c 0) 1)), l, [], true)
  else if (Go.bits .and .u8 (flagD (cutL l (atT c) 16)) 1 == 1) = false then (c, l, [], false)
  else frameZ c l (cutL l (atT c) 16)
theorem eq_t {b : Bool} (h : ¬ b = false) : b = true := by cases b; exact absurd rfl h; rfl
theorem eq_f {b : Bool} (h : ¬ b = true) : b = false := by cases b; rfl; exact absurd rfl h
theorem wrap_u (x : Int) : u64B (IntKind.u64.wrap x) := by unfold u64B; rw [IntKind.wrap_u64]; omega
theorem desc_bounds (l : List Int) (a : Int) (hby : ∀ z ∈ l, byte z) (hp : (placeZ l.length a 16).2 = true) : u64B (bufD (cutL l a 16)) ∧ 0 ≤ sizeD (cutL l a 16) ∧ sizeD (cutL l a 16) < 65536 := by
  have hn := cut_len l a 16 hp
  have hb := cut_byte l a 16 hby
  generalize cutL l a 16 = d at hn hb ⊢
  have h1 := getB_small (d.take 8) (fun z hz => hb z (List.mem_of_mem_take hz)) 8 (by simp [hn]) (by decide)
  have h2 := getB_small ((d.drop 8).take 2) (fun z hz => hb z (List.mem_of_mem_drop (List.mem_of_mem_take hz))) 2 (by simp [hn]) (by decide)
  exact ⟨⟨h1.1, h1.2⟩, h2.1, h2.2⟩
theorem bytesZ_2 (l : List Int) (a k : Int) : (bytesZ l a k).2 = (placeZ l.length a k).2 := by unfold bytesZ; cases (placeZ l.length a k).2 <;> rfl
abbrev RR := (Nat → Int) × List Int × Bool
def takeZ (c : Nat → Int) (l d fr : List Int) : RR :=
  if sizeD d < (fr.length : Int) then (dropC (failC (nextR c)), doneL l d (atR c) 4, false)
  else if (placeZ l.length (bufD d) fr.length).2 = false then (dropC (failC (nextR c)), doneL l d (atR c) 4, false)
  else (upd (nextR c) 1 (Go.bits .or .i64 (c 1) 2), doneL (fillL (writeL l (IntKind.u64.wrap (atR c + 8)) 2 (fr.length : Int)) (bufD d) fr) d (atR c) 1, true)
def recvZ (c : Nat → Int) (mac l fr : List Int) : RR :=
  if okC c mac.length = false then (c, l, false)
  else if wantsZ c mac fr = false then (dropC c, l, false)
  else if (placeZ l.length (atR c) 16).2 = false then (dropC (failC (upd c 0 (Go.bits .andNot .i64 (c 0) 2))), l, false)
  else if (Go.bits .and .u8 (flagD (cutL l (atR c) 16)) 1 == 1) = false then (dropC c, l, false)
  else takeZ c l (cutL l (atR c) 16) fr
end Go.Proofs.Ytdblpflepfcnjaa.Q
end
section
/- nic.Send, whole. -/
namespace Go.Proofs.Ytdblpflepfcnjaa.Q
open Go.RowKit Go.Proofs.YtdblpflepfcnjaaW.PrintWords Go.Proofs.YtdblpflepfcnjaaW.PrintLast Go.Proofs.YtdblpflepfcnjaaW.PrintMore Go.Proofs.Ytdblpflepfcnjaa.L
set_option linter.unusedVariables false
section
variable (A : Option Addr) (m cap : Nat) (R : Option Addr) (rc : Nat) (l : List Int) (c : Nat → Int) (w : World) (ok : Nat → Prop) (hr : Kd.F (Kd.int .u8) w ok R l.length l) (hc : l.length ≤ rc) (hl : (l.length : Int) ≤ 70000) (hby : ∀ z ∈ l, byte z)
include hr hc hl hby
theorem Send_is : Calls Try.prog 11 #[.agg (C14 c (.slice A m cap)), .agg #[.slice R l.length rc]] w (SendPost A m cap ok w (sendZ c m l).1 (sendZ c m l).2.1 (sendZ c m l).2.2.1 (sendZ c m l).2.2.2) := by
  unfold sendZ
  by_cases hk : okC c m = false
  · rw [if_pos hk]; exact send_x A m cap R rc l c w ok hr hc hk
  rw [if_neg hk]
  have hk := eq_t hk
  by_cases hb0 : (Go.bits .and .i64 (c 0) 1 == 0) = true
  · rw [if_pos hb0]; exact send_ctrl A m cap R rc l c w ok hr hc hk hb0
  rw [if_neg hb0]
  have hb0 := eq_f hb0
  by_cases hb5 : (c 5 == c 6) = true
  · rw [if_pos hb5]; exact send_head A m cap R rc l c w ok hr hc hk hb0 hb5
  rw [if_neg hb5]
  have hb5 := eq_f hb5
  have ha := wrap_u (c 3 + IntKind.u64.wrap (16 * IntKind.u64.wrap (c 5)))
  by_cases hp : (placeZ l.length (atT c) 16).2 = false
  · rw [if_pos hp]; exact send_nodesc A m cap R rc l c w ok hr hc (atT c) hk hb0 hb5 rfl ha hl hp
  rw [if_neg hp]
  have hp := eq_t hp
  by_cases ho : (Go.bits .and .u8 (flagD (cutL l (atT c) 16)) 1 == 1) = false
  · rw [if_pos ho]; exact send_notown A m cap R rc l c w ok hr hc (atT c) hk hb0 hb5 rfl ha hl hby hp ho
  rw [if_neg ho]
  have ho := eq_t ho
  obtain ⟨hbu, hs0, hs1⟩ := desc_bounds l (atT c) hby hp
  have hne : ¬ c 4 = 0 := by have := ((okC_iff c m).1 hk).tn; omega
  have hki : i64B (sizeD (cutL l (atT c) 16)) := ⟨by omega, by omega⟩
  unfold frameZ
  by_cases h1 : (bytesZ l (bufD (cutL l (atT c) 16)) (sizeD (cutL l (atT c) 16))).2 = false
  · rw [if_pos h1]
    exact send_isnot A m cap R rc l c w ok hr hc (atT c) hk hb0 hb5 rfl ha hl hby hp ho hne hbu _ (Prod.ext rfl h1) hki
  rw [if_neg h1]
  have h1 := eq_t h1
  by_cases h2 : sizeD (cutL l (atT c) 16) < 14
  · rw [if_pos h2]
    exact send_short A m cap R rc l c w ok hr hc (atT c) hk hb0 hb5 rfl ha hl hby hp ho hne hbu _ (Prod.ext rfl h1) (decide_eq_true h2) hki
  rw [if_neg h2]
  by_cases h3 : sizeD (cutL l (atT c) 16) > 1514
  · rw [if_pos h3]
    exact send_long A m cap R rc l c w ok hr hc (atT c) hk hb0 hb5 rfl ha hl hby hp ho hne hbu _ (Prod.ext rfl h1) (decide_eq_false h2) (decide_eq_true h3) hki
  rw [if_neg h3]
  rw [bytesZ_2] at h1
  exact send_good A m cap R rc l c w ok hr hc (atT c) hk hb0 hb5 rfl ha hl hby hp ho hne hbu _ rfl h1 (decide_eq_false h2) (decide_eq_false h3) hki (by omega)
end
theorem Send_of (S : SR) (A : Option Addr) (m cap : Nat) (R : Option Addr) (rc : Nat) (l : List Int) (c : Nat → Int) (w : World) (ok : Nat → Prop) (hr : Kd.F (Kd.int .u8) w ok R l.length l) (hc : l.length ≤ rc) (hl : (l.length : Int) ≤ 70000) (hby : ∀ z ∈ l, byte z) (hS : sendZ c m l = S) :
    Calls Try.prog 11 #[.agg (C14 c (.slice A m cap)), .agg #[.slice R l.length rc]] w (SendPost A m cap ok w S.1 S.2.1 S.2.2.1 S.2.2.2) := by
  subst hS
  exact Send_is A m cap R rc l c w ok hr hc hl hby
end Go.Proofs.Ytdblpflepfcnjaa.Q
end
