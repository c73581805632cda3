import Derived.Test.YtdblpflepfcnjaaPZ1
import Derived.Test.YtdblpflepfcnjaaPXNg
import Derived.Test.YtdblpflepfcnjaaPZ2
import Derived.Test.YtdblpflepfcnjaaPXQx3
import Derived.Test.YtdblpflepfcnjaaPXNh
section
/- nic.wants. -/
namespace Go.Proofs.Ytdblpflepfcnjaa.Q
open Go.RowKit Go.Proofs.YtdblpflepfcnjaaW.PrintWords Go.Proofs.YtdblpflepfcnjaaW.PrintLast Go.Proofs.YtdblpflepfcnjaaW.PrintMore Go.Proofs.Ytdblpflepfcnjaa.L
attribute [local go_sem] Instr.field part asAgg lt_step max2_int min2_int max_two min_two max_three min_three max_four min_four lt_0_1 lt_0_2 lt_1_2 lt_0_3 lt_1_3 lt_2_3 lt_0_4 lt_1_4 lt_2_4 lt_3_4 lt_0_5 lt_1_5 lt_2_5 lt_3_5 lt_4_5 lt_0_6 lt_1_6 lt_2_6 lt_3_6 lt_4_6 lt_5_6 lt_0_7 lt_1_7 lt_2_7 lt_3_7 lt_4_7 lt_5_7 lt_6_7 lt_0_8 lt_1_8 lt_2_8 lt_3_8 lt_4_8 lt_5_8 lt_6_8 lt_7_8
set_option linter.unusedVariables false
set_option linter.unusedSimpArgs false
def gateZ (c : Nat → Int) (n : Nat) : Bool := decide ((n : Int) < 14) || decide (1514 < (n : Int)) || (Go.bits .and .i64 (c 0) 2 == 0) || (c 9 == c 10)
def eqS (l0 l1 : List Int) : Bool := (strOfNums l0).toList == (strOfNums l1).toList
def forZ (c : Nat → Int) (mac fr : List Int) : Bool := decide (Go.bits .and .i64 (c 0) 4 > 0) || eqS (fr.take 6) mac || eqS (fr.take 6) (List.replicate 6 255)
def wantsZ (c : Nat → Int) (mac fr : List Int) : Bool := !gateZ c fr.length && forZ c mac fr
theorem equal_c (n m : Nat) (b : Bool) (A0 : Option Addr) (c0 : Nat) (l0 : List Int) (A1 : Option Addr) (c1 : Nat) (l1 : List Int) (w : World) (hn : l0.length = n) (hm : l1.length = m) (hr0 : Kd.C (Kd.int .u8) w A0 n l0) (hc0 : n ≤ c0) (hr1 : Kd.C (Kd.int .u8) w A1 m l1) (hc1 : m ≤ c1) (hb : eqS l0 l1 = b) :
    Calls Try.prog 58 #[.slice A0 n c0, .slice A1 m c1] w fun e w' => e = .returned (.bool b) ∧ Below w.heap.size w w' := by
  subst hn hm
  exact (bytes_Equal.calls A0 c0 l0 A1 c1 l1 b w hr0 hc0 hr1 hc1 (by unfold bytes_Equal.f; exact congrArg some hb)).mono fun _ _ ⟨he, hd⟩ => ⟨he, hd.below⟩
set_option maxHeartbeats 1600000 in
set_option maxRecDepth 100000 in
theorem wants_is (A : Option Addr) (cap : Nat) (mac : List Int) (FA : Option Addr) (fc : Nat) (fr : List Int) (c : Nat → Int) (w : World) (okm okf : Nat → Prop) (hm : Kd.F (Kd.int .u8) w okm A mac.length mac) (hmc : mac.length ≤ cap) (hf : Kd.F (Kd.int .u8) w okf FA fr.length fr) (hfc : fr.length ≤ fc) (g : Bool) (hg : gateZ c fr.length = g) (hg6 : g = false → 14 ≤ fr.length) (b1 b2 b3 : Bool) (h1 : decide (Go.bits .and .i64 (c 0) 4 > 0) = b1) (h2 : eqS (fr.take 6) mac = b2) (h3 : eqS (fr.take 6) (List.replicate 6 255) = b3) :
    Calls Try.prog 45 #[.agg (C14 c (.slice A mac.length cap)), .slice FA fr.length fc] w fun e w' => e = .returned (.bool (!g && (b1 || (b2 || b3)))) ∧ Below w.heap.size w w' := by
  have HB := Aside0.mk (Below.refl w.heap.size w)
  have HM := Aside0.mk (Kd.F_bound hm)
  have HF := Aside0.mk (Kd.F_bound hf)
  have HMC := Aside0.mk hmc
  have HFC := Aside0.mk hfc
  have HG := Aside0.mk hg
  have HG6 := Aside0.mk hg6
  have H2 := Aside0.mk h2
  have H3 := Aside0.mk h3
  have hu := Try.underlying25
  clear hm hf hmc hg hg6 h2 h3
  go_enter Try.func45, Try.ntmps45
  go_upto_region 1 with fail
  obtain ⟨wa, hwa, on0, hb_, hz0⟩ := letter1 w (.cells (C14 c (.slice A mac.length cap)) 25 (0, 0))
  rw [hwa]
  clear hwa
  have hzwa := Nat.le_of_eq hz0.symm
  clear hz0
  have on := Aside0.mk on0
  clear on0
  obtain ⟨onc, onf, onl⟩ := cells_of on.out
  have HB_ : Aside0 (Below w.heap.size w wa) := ⟨hb_⟩
  have HM_ := Aside0.mk (Kd.F_below HM.out hb_)
  have HF_ := Aside0.mk (Kd.F_below HF.out hb_)
  clear HB HM HF hb_; have HB := HB_; have HM := HM_; have HF := HF_; clear HB_ HM_ HF_
  have hc0 : World.cell? wa ⟨w.heap.size, 0, none⟩ = some (.int .i64 (c 0)) := (onc 0).trans rfl
  have hc9 : World.cell? wa ⟨w.heap.size, 9, none⟩ = some (.int .i64 (c 9)) := (onc 9).trans rfl
  have hc10 : World.cell? wa ⟨w.heap.size, 10, none⟩ = some (.int .i64 (c 10)) := (onc 10).trans rfl
  have hc13 : World.cell? wa ⟨w.heap.size, 13, none⟩ = some (.slice A mac.length cap) := (onc 13).trans rfl
  clear onc
  have onc := trivial
  go_cut [27] (fun v wx => v = .bool (gateZ c fr.length) ∧ wa = wx)
  case first =>
    go_wp2_with fail
    all_goals go_meet
    all_goals refine ⟨congrArg Value.bool ?_, rfl⟩
    all_goals (unfold gateZ; (try simp [*]); (try (intros; omega)))
  case rest =>
  obtain ⟨rfl, rfl⟩ := hcut
  rw [HG.out]
  cases g
  case true =>
    go_wp2
    go_ret
    exact ⟨rfl, HB.out⟩
  case false =>
  have h14 := HG6.out rfl
  clear HG6
  have h6c : (6 : Int) ≤ (fc : Int) := by omega
  have HT := Aside0.mk (Kd.F_take HF.out (m := 6) (by omega))
  have hT6 : (fr.take 6).length = 6 := by rw [List.length_take]; omega
  rw [hT6] at HT
  have HT6 := Aside0.mk hT6
  clear hT6
  go_wp2_with fail
  (go_at_call 57; (with_reducible refine (repeat_is _ _ (nb_1 _ _)).mono ?_); rintro e_ w1 ⟨qb, qc, rfl, hq1, hq2, hb_⟩; have HB_ : Aside0 (Below w.heap.size w w1) := Aside0.mk (below_step (bG HB) hb_); have hzw1 := hb_.size; (try simp at hzw1); have on_ := Aside0.mk (box_below hb_ (eG on)); have HM_ := Aside0.mk (Kd.F_below (fG HM) hb_); clear HM; have HM := HM_; clear HM_; have HT_ := Aside0.mk (Kd.F_below (fG HT) hb_); clear HT; have HT := HT_; clear HT_; (try clear on onc onf onl); have on := on_; clear on_; obtain ⟨onc, onf, onl⟩ := cells_of on.out; clear HB hb_; have HB := HB_; clear HB_; have hq1_ := Aside0.mk hq1; clear hq1; have hq1 := hq1_; clear hq1_; have hq2_ := Aside0.mk hq2; clear hq2; have hq2 := hq2_; clear hq2_; skip)
  have hc0 : World.cell? w1 ⟨w.heap.size, 0, none⟩ = some (.int .i64 (c 0)) := (onc 0).trans rfl
  have hc13 : World.cell? w1 ⟨w.heap.size, 13, none⟩ = some (.slice A mac.length cap) := (onc 13).trans rfl
  clear onc
  have onc := trivial
  have HMC2 := HMC.out
  cases b1
  case true =>
    go_wp2
    go_ret
    exact ⟨rfl, HB.out⟩
  case false =>
  cases b2
  case true =>
    go_wp2_with fail
    (go_at_call 58; (with_reducible refine (equal_c 6 mac.length true _ _ (fr.take 6) _ _ mac _ HT6.out rfl (Kd.F_now (fG HT)) (by omega) (Kd.F_now (fG HM)) HMC.out H2.out).mono ?_); rintro e_ w2 ⟨rfl, hb_⟩; have HB_ : Aside0 (Below w.heap.size w w2) := Aside0.mk (below_step (bG HB) hb_); have hzw2 := hb_.size; (try simp at hzw2); have on_ := Aside0.mk (box_below hb_ (eG on)); have HT_ := Aside0.mk (Kd.F_below (fG HT) hb_); clear HT; have HT := HT_; clear HT_; have HM_ := Aside0.mk (Kd.F_below (fG HM) hb_); clear HM; have HM := HM_; clear HM_; (try clear on onc onf onl); have on := on_; clear on_; obtain ⟨onc, onf, onl⟩ := cells_of on.out; clear HB hb_; have HB := HB_; clear HB_)
    go_wp2
    go_ret
    exact ⟨rfl, HB.out⟩
  case false =>
    go_wp2_with fail
    (go_at_call 58; (with_reducible refine (equal_c 6 mac.length false _ _ (fr.take 6) _ _ mac _ HT6.out rfl (Kd.F_now (fG HT)) (by omega) (Kd.F_now (fG HM)) HMC.out H2.out).mono ?_); rintro e_ w2 ⟨rfl, hb_⟩; have HB_ : Aside0 (Below w.heap.size w w2) := Aside0.mk (below_step (bG HB) hb_); have hzw2 := hb_.size; (try simp at hzw2); have on_ := Aside0.mk (box_below hb_ (eG on)); have HT_ := Aside0.mk (Kd.F_below (fG HT) hb_); clear HT; have HT := HT_; clear HT_; have HM_ := Aside0.mk (Kd.F_below (fG HM) hb_); clear HM; have HM := HM_; clear HM_; have hq2_ := Aside0.mk (Kd.F_below (fG hq2) hb_); clear hq2; have hq2 := hq2_; clear hq2_; (try clear on onc onf onl); have on := on_; clear on_; obtain ⟨onc, onf, onl⟩ := cells_of on.out; clear HB hb_; have HB := HB_; clear HB_)
    go_wp2_with fail
    (go_at_call 58; (with_reducible refine (equal_c 6 6 b3 _ _ (fr.take 6) _ _ (List.replicate 6 255) _ HT6.out rfl (Kd.F_now (fG HT)) (by omega) (Kd.F_now (fG hq2)) hq1.out H3.out).mono ?_); rintro e_ w3 ⟨rfl, hb_⟩; have HB_ : Aside0 (Below w.heap.size w w3) := Aside0.mk (below_step (bG HB) hb_); have hzw3 := hb_.size; (try simp at hzw3); have on_ := Aside0.mk (box_below hb_ (eG on)); have HT_ := Aside0.mk (Kd.F_below (fG HT) hb_); clear HT; have HT := HT_; clear HT_; (try clear on onc onf onl); have on := on_; clear on_; obtain ⟨onc, onf, onl⟩ := cells_of on.out; clear HB hb_; have HB := HB_; clear HB_)
    go_wp2
    go_ret
    exact ⟨by simp, HB.out⟩
theorem wants_of (b : Bool) (A : Option Addr) (cap : Nat) (mac : List Int) (FA : Option Addr) (fc : Nat) (fr : List Int) (c : Nat → Int) (w : World) (okm okf : Nat → Prop) (hm : Kd.F (Kd.int .u8) w okm A mac.length mac) (hmc : mac.length ≤ cap) (hf : Kd.F (Kd.int .u8) w okf FA fr.length fr) (hfc : fr.length ≤ fc) (hb : wantsZ c mac fr = b) :
    Calls Try.prog 45 #[.agg (C14 c (.slice A mac.length cap)), .slice FA fr.length fc] w fun e w' => e = .returned (.bool b) ∧ Below w.heap.size w w' := by
  have := wants_is A cap mac FA fc fr c w okm okf hm hmc hf hfc _ rfl (fun h => by unfold gateZ at h; simp at h; omega) _ _ _ rfl rfl rfl
  rw [← hb]
  unfold wantsZ forZ
  rw [Bool.or_assoc]
  exact this
end Go.Proofs.Ytdblpflepfcnjaa.Q
end
section
/- nic.Send and nic.Receive: what they do, in plain numbers and lists. -/
namespace Go.Proofs.Ytdblpflepfcnjaa.Q
open Go.RowKit Go.Proofs.YtdblpflepfcnjaaW.PrintWords Go.Proofs.YtdblpflepfcnjaaW.PrintLast Go.Proofs.YtdblpflepfcnjaaW.PrintMore Go.Proofs.Ytdblpflepfcnjaa.L
set_option linter.unusedVariables false
def atT (c : Nat → Int) : Int := IntKind.u64.wrap (c 3 + IntKind.u64.wrap (16 * IntKind.u64.wrap (c 5)))
def nextT (c : Nat → Int) : Nat → Int := upd c 5 (Int.tmod (wrap64 (c 5 + 1)) (c 4))
def doneL (l d : List Int) (at_ st : Int) : List Int := fillL l (IntKind.u64.wrap (at_ + 10)) [Go.bits .andNot .u8 (flagD d) 1, restD d, st, 0]
abbrev SR := (Nat → Int) × List Int × List Int × Bool
def frameZ (c : Nat → Int) (l d : List Int) : SR :=
  if (bytesZ l (bufD d) (sizeD d)).2 = false then (failC (nextT c), doneL l d (atT c) 2, [], true)
  else if sizeD d < 14 then (failC (nextT c), doneL l d (atT c) 2, [], true)
  else if sizeD d > 1514 then (failC (nextT c), doneL l d (atT c) 2, [], true)
  else (upd (nextT c) 1 (Go.bits .or .i64 (c 1) 1), doneL l d (atT c) 1, cutL l (bufD d) (sizeD d), true)
def sendZ (c : Nat → Int) (m : Nat) (l : List Int) : SR :=
  if okC c m = false then (c, l, [], false)
  else if (Go.bits .and .i64 (c 0) 1 == 0) = true then (c, l, [], false)
  else if (c 5 == c 6) = true then (c, l, [], false)
  else if (placeZ l.length (atT c) 16).2 = false then (failC (upd c 0 (Go.bits .andNot .i64 (c 0) 1)), l, [], true)
  else if (Go.bits .and .u8 (flagD (cutL l (atT c) 16)) 1 == 1) = false then (c, l, [], false)
  else frameZ c l (cutL l (atT c) 16)
theorem eq_t {b : Bool} (h : ¬ b = false) : b = true := by cases b; exact absurd rfl h; rfl
theorem eq_f {b : Bool} (h : ¬ b = true) : b = false := by cases b; rfl; exact absurd rfl h
theorem wrap_u (x : Int) : u64B (IntKind.u64.wrap x) := by unfold u64B; rw [IntKind.wrap_u64]; omega
theorem desc_bounds (l : List Int) (a : Int) (hby : ∀ z ∈ l, byte z) (hp : (placeZ l.length a 16).2 = true) : u64B (bufD (cutL l a 16)) ∧ 0 ≤ sizeD (cutL l a 16) ∧ sizeD (cutL l a 16) < 65536 := by
  have hn := cut_len l a 16 hp
  have hb := cut_byte l a 16 hby
  generalize cutL l a 16 = d at hn hb ⊢
  have h1 := getB_small (d.take 8) (fun z hz => hb z (List.mem_of_mem_take hz)) 8 (by simp [hn]) (by decide)
  have h2 := getB_small ((d.drop 8).take 2) (fun z hz => hb z (List.mem_of_mem_drop (List.mem_of_mem_take hz))) 2 (by simp [hn]) (by decide)
  exact ⟨⟨h1.1, h1.2⟩, h2.1, h2.2⟩
theorem bytesZ_2 (l : List Int) (a k : Int) : (bytesZ l a k).2 = (placeZ l.length a k).2 := by unfold bytesZ; cases (placeZ l.length a k).2 <;> rfl
end Go.Proofs.Ytdblpflepfcnjaa.Q
end
section
/- nic.registers, nic.Load. -/
namespace Go.Proofs.Ytdblpflepfcnjaa.Q
open Go.RowKit Go.Proofs.YtdblpflepfcnjaaW.PrintWords Go.Proofs.YtdblpflepfcnjaaW.PrintLast Go.Proofs.YtdblpflepfcnjaaW.PrintMore Go.Proofs.Ytdblpflepfcnjaa.L
attribute [local go_sem] Instr.field part asAgg lt_step max2_int min2_int max_two min_two max_three min_three max_four min_four lt_0_1 lt_0_2 lt_1_2 lt_0_3 lt_1_3 lt_2_3 lt_0_4 lt_1_4 lt_2_4 lt_3_4 lt_0_5 lt_1_5 lt_2_5 lt_3_5 lt_4_5 lt_0_6 lt_1_6 lt_2_6 lt_3_6 lt_4_6 lt_5_6 lt_0_7 lt_1_7 lt_2_7 lt_3_7 lt_4_7 lt_5_7 lt_6_7 lt_0_8 lt_1_8 lt_2_8 lt_3_8 lt_4_8 lt_5_8 lt_6_8 lt_7_8
set_option linter.unusedVariables false
set_option linter.unusedSimpArgs false
def regL (c : Nat → Int) (g : Int) : List Int := [IntKind.u64.wrap (c 0), IntKind.u64.wrap (c 1), IntKind.u64.wrap (c 2), c 3, IntKind.u64.wrap (c 4), IntKind.u64.wrap (c 5), IntKind.u64.wrap (c 6), c 7, IntKind.u64.wrap (c 8), IntKind.u64.wrap (c 9), IntKind.u64.wrap (c 10), IntKind.u64.wrap (c 11), IntKind.u64.wrap (c 12), Go.bits .and .u64 g 4294967295, g / 4294967296]
def regA (c : Nat → Int) (g : Int) : Array Value := #[.int .u64 (IntKind.u64.wrap (c 0)), .int .u64 (IntKind.u64.wrap (c 1)), .int .u64 (IntKind.u64.wrap (c 2)), .int .u64 (c 3), .int .u64 (IntKind.u64.wrap (c 4)), .int .u64 (IntKind.u64.wrap (c 5)), .int .u64 (IntKind.u64.wrap (c 6)), .int .u64 (c 7), .int .u64 (IntKind.u64.wrap (c 8)), .int .u64 (IntKind.u64.wrap (c 9)), .int .u64 (IntKind.u64.wrap (c 10)), .int .u64 (IntKind.u64.wrap (c 11)), .int .u64 (IntKind.u64.wrap (c 12)), .int .u64 (Go.bits .and .u64 g 4294967295), .int .u64 (g / 4294967296)]
def regV (c : Nat → Int) (g i : Int) : Int := (regL c g).getD i.toNat 0
def refuseZ (c : Nat → Int) (m : Nat) (off size : Int) : Bool := !okC c m || (size != 4) || decide (Go.bits .and .u64 off 3 > 0) || decide (off / 4 ≥ 15)
def loadV (c : Nat → Int) (mac : List Int) (off : Int) : Int := regV c (getB mac false) (off / 4)
theorem reg_index (c : Nat → Int) (g i : Int) (h0 : 0 ≤ i) (h1 : i < 15) (W : World) : (Instr.index 67 (.agg (regA c g)) (.int .u64 i)).run Try.prog W = .ok (.int .u64 (regV c g i)) W := by
  have h : i = 0 ∨ i = 1 ∨ i = 2 ∨ i = 3 ∨ i = 4 ∨ i = 5 ∨ i = 6 ∨ i = 7 ∨ i = 8 ∨ i = 9 ∨ i = 10 ∨ i = 11 ∨ i = 12 ∨ i = 13 ∨ i = 14 := by omega
  rcases h with rfl | rfl | rfl | rfl | rfl | rfl | rfl | rfl | rfl | rfl | rfl | rfl | rfl | rfl | rfl <;> rfl
set_option maxHeartbeats 1600000 in
set_option maxRecDepth 100000 in
theorem regs_is (A : Option Addr) (cap : Nat) (mac : List Int) (c : Nat → Int) (w : World) (okm : Nat → Prop) (hm : Kd.F (Kd.int .u8) w okm A mac.length mac) (hmc : mac.length ≤ cap) (hmb : ∀ z ∈ mac, byte z) :
    Calls Try.prog 40 #[.agg (C14 c (.slice A mac.length cap))] w fun e w' => e = .returned (.agg (regA c (getB mac false))) ∧ Below w.heap.size w w' := by
  have HB := Aside0.mk (Below.refl w.heap.size w)
  have HM := Aside0.mk (Kd.F_bound hm)
  have HMC := Aside0.mk hmc
  have HMB := Aside0.mk hmb
  have hu := Try.underlying25
  have hu6 := Try.underlying67
  obtain ⟨g, hg⟩ : ∃ g, getB mac false = g := ⟨_, rfl⟩
  rw [hg]
  have HG : Aside0 (∀ (A : Option Addr) (cap : Nat) (w : World), Kd.C (Kd.int .u8) w A mac.length mac → mac.length ≤ cap → Calls Try.prog 54 #[.slice A mac.length cap, .bool false] w fun e w' => e = .returned (.int .u64 g) ∧ Below w.heap.size w w') := ⟨fun A cap w h1 h2 => by rw [← hg]; exact get_c _ A cap mac w rfl h1 h2 HMB.out⟩
  clear hm hmc hmb hg
  go_enter Try.func40, Try.ntmps40
  go_upto_region 1 with fail
  obtain ⟨wa, hwa, on0, oz0, hb_, hz0⟩ := letter2 w (.cells (C14 c (.slice A mac.length cap)) 25 (0, 0)) (.cells #[.int .u64 0, .int .u64 0, .int .u64 0, .int .u64 0, .int .u64 0, .int .u64 0, .int .u64 0, .int .u64 0, .int .u64 0, .int .u64 0, .int .u64 0, .int .u64 0, .int .u64 0, .int .u64 0, .int .u64 0] 67 (0, 0))
  rw [hwa]
  clear hwa
  have hzwa := Nat.le_of_eq hz0.symm
  clear hz0
  have on := Aside0.mk on0
  have oz := Aside0.mk oz0
  clear on0 oz0
  obtain ⟨onc, onf, onl⟩ := cells_of on.out
  obtain ⟨ozc, ozf, ozl⟩ := cells_of oz.out
  have HB_ : Aside0 (Below w.heap.size w wa) := ⟨hb_⟩
  have HM_ := Aside0.mk (Kd.F_below HM.out hb_)
  clear HB HM hb_; have HB := HB_; have HM := HM_; clear HB_ HM_
  have hc13 : World.cell? wa ⟨w.heap.size, 13, none⟩ = some (.slice A mac.length cap) := (onc 13).trans rfl
  clear onc
  have onc := trivial
  go_wp2_with fail
  (go_at_call 54; (with_reducible refine (HG.out _ _ _ (Kd.F_now HM.out) HMC.out).mono ?_); rintro e_ w1 ⟨rfl, hb_⟩; have HB_ : Aside0 (Below w.heap.size w w1) := Aside0.mk (below_step (bG HB) hb_); have hzw1 := hb_.size; (try simp at hzw1); have on_ := Aside0.mk (box_below hb_ (eG on)); have oz_ := Aside0.mk (box_below hb_ (eG oz)); (try clear on onc onf onl); have on := on_; clear on_; obtain ⟨onc, onf, onl⟩ := cells_of on.out; (try clear oz ozc ozf ozl); have oz := oz_; clear oz_; obtain ⟨ozc, ozf, ozl⟩ := cells_of oz.out; clear HB hb_; have HB := HB_; clear HB_)
  have hc0 : World.cell? w1 ⟨w.heap.size, 0, none⟩ = some (.int .i64 (c 0)) := (onc 0).trans rfl
  have hc1 : World.cell? w1 ⟨w.heap.size, 1, none⟩ = some (.int .i64 (c 1)) := (onc 1).trans rfl
  have hc2 : World.cell? w1 ⟨w.heap.size, 2, none⟩ = some (.int .i64 (c 2)) := (onc 2).trans rfl
  have hc3 : World.cell? w1 ⟨w.heap.size, 3, none⟩ = some (.int .u64 (c 3)) := (onc 3).trans rfl
  have hc4 : World.cell? w1 ⟨w.heap.size, 4, none⟩ = some (.int .i64 (c 4)) := (onc 4).trans rfl
  have hc5 : World.cell? w1 ⟨w.heap.size, 5, none⟩ = some (.int .i64 (c 5)) := (onc 5).trans rfl
  have hc6 : World.cell? w1 ⟨w.heap.size, 6, none⟩ = some (.int .i64 (c 6)) := (onc 6).trans rfl
  have hc7 : World.cell? w1 ⟨w.heap.size, 7, none⟩ = some (.int .u64 (c 7)) := (onc 7).trans rfl
  have hc8 : World.cell? w1 ⟨w.heap.size, 8, none⟩ = some (.int .i64 (c 8)) := (onc 8).trans rfl
  have hc9 : World.cell? w1 ⟨w.heap.size, 9, none⟩ = some (.int .i64 (c 9)) := (onc 9).trans rfl
  have hc10 : World.cell? w1 ⟨w.heap.size, 10, none⟩ = some (.int .i64 (c 10)) := (onc 10).trans rfl
  have hc11 : World.cell? w1 ⟨w.heap.size, 11, none⟩ = some (.int .i64 (c 11)) := (onc 11).trans rfl
  have hc12 : World.cell? w1 ⟨w.heap.size, 12, none⟩ = some (.int .i64 (c 12)) := (onc 12).trans rfl
  clear onc
  have onc := trivial
  go_wp2
  refine bodyPost_ret (v := .agg (regA c g)) (by simp [results, Try.results40, go_sem, ozc, ozf, regA] <;> first | assumption | omega | (symm; assumption)) rfl ⟨rfl, (bG HB)⟩

set_option maxHeartbeats 1600000 in
set_option maxRecDepth 100000 in
theorem Load_is (A : Option Addr) (cap : Nat) (mac : List Int) (c : Nat → Int) (off size : Int) (w : World) (okm : Nat → Prop) (hm : Kd.F (Kd.int .u8) w okm A mac.length mac) (hmc : mac.length ≤ cap) (hmb : ∀ z ∈ mac, byte z) (h0 : 0 ≤ off) (h64 : off < 18446744073709551616) (b k : Bool) (hk : okC c mac.length = k) (hb : refuseZ c mac.length off size = b) :
    Calls Try.prog 13 #[.agg (C14 c (.slice A mac.length cap)), .int .u64 off, .int .i64 size] w fun e w' => e = .returned (.tuple #[.int .u64 (if b then 0 else loadV c mac off), .bool (!b)]) ∧ Below w.heap.size w w' := by
  have HB := Aside0.mk (Below.refl w.heap.size w)
  have HM := Aside0.mk (Kd.F_bound hm)
  have HMC := Aside0.mk hmc
  have HMB := Aside0.mk hmb
  have HK := Aside0.mk hk
  have hRB := hb
  have hu := Try.underlying25
  have hu6 := Try.underlying67
  have hlt : b = false → off / 4 < 15 := fun h => by
    rw [h] at hRB
    unfold refuseZ at hRB
    simp only [Bool.or_eq_false_iff, decide_eq_false_iff_not] at hRB
    omega
  have hidx : b = false → ∀ W : World, (Instr.index 67 (.agg (regA c (getB mac false))) (.int .u64 (off / 4))).run Try.prog W = .ok (.int .u64 (loadV c mac off)) W := fun h => reg_index c _ _ (by omega) (hlt h)
  have HIDX := Aside0.mk hidx
  have HRB := Aside0.mk hRB
  obtain ⟨b4, hb4⟩ : ∃ b4, (size != 4) = b4 := ⟨_, rfl⟩
  have hdv : IntKind.u64.wrap (off.tdiv 4) = off / 4 := by rw [Int.tdiv_eq_ediv_of_nonneg h0, IntKind.wrap_u64]; omega
  clear hm hmc hmb hk hlt hidx hRB hb h64
  go_enter Try.func13, Try.ntmps13
  go_upto_region 1 with fail
  obtain ⟨wa, hwa, on0, hb_, hz0⟩ := letter1 w (.cells (C14 c (.slice A mac.length cap)) 25 (0, 0))
  rw [hwa]
  clear hwa
  have hzwa := Nat.le_of_eq hz0.symm
  clear hz0
  have on := Aside0.mk on0
  clear on0
  obtain ⟨onc, onf, onl⟩ := cells_of on.out
  have HB_ : Aside0 (Below w.heap.size w wa) := ⟨hb_⟩
  have HM_ := Aside0.mk (Kd.F_below HM.out hb_)
  clear HB HM hb_; have HB := HB_; have HM := HM_; clear HB_ HM_
  go_cut [24] (fun v wx => v = .bool (refuseZ c mac.length off size) ∧ Aside0 (wx.heap[w.heap.size]? = some (.cells (C14 c (.slice A mac.length cap)) 25 (0, 0))) ∧ Aside0 (Kd.F (Kd.int .u8) wx (fun j => okm j ∧ j < w.heap.size) A mac.length mac) ∧ Aside0 (Below w.heap.size w wx))
  case first =>
    go_wp2_with (first | ((with_reducible refine gate_dst (N := 8) rfl ?_); (try (refine gate_guard (by rfl) ?_; dsimp only)); refine wpList_load_row rfl 25 _ rfl _ (by rfl) _ (C14 c (.slice A mac.length cap)) _ _ (eG on) Try.underlying25 rfl i25 ?_))
    (go_at_call 9; (with_reducible refine (Check_of k c A mac.length cap _ HK.out).mono ?_); rintro e_ w1 ⟨rfl, hb_⟩; have HB_ : Aside0 (Below w.heap.size w w1) := Aside0.mk (below_step (bG HB) hb_); have hzw1 := hb_.size; (try simp at hzw1); have on_ := Aside0.mk (box_below hb_ (eG on)); have HM_ := Aside0.mk (Kd.F_below (fG HM) hb_); clear HM; have HM := HM_; clear HM_; (try clear on onc onf onl); have on := on_; clear on_; obtain ⟨onc, onf, onl⟩ := cells_of on.out; clear HB hb_; have HB := HB_; clear HB_)
    have HM_ := Aside0.mk (Kd.F_mono HM.out (ok' := fun j => okm j ∧ j < w.heap.size) (fun j hj => by first | exact hj | exact hj.1))
    clear HM
    cases k <;> cases b4
    all_goals go_wp2_with fail
    all_goals go_meet
    all_goals refine ⟨congrArg Value.bool ?_, on, HM_, HB⟩
    all_goals (unfold refuseZ; rw [HK.out]; simp [*] <;> (intros; omega))
  case rest =>
  obtain ⟨rfl, on, HM, HB⟩ := hcut
  rename World => w2
  obtain ⟨onc, onf, onl⟩ := cells_of on.out
  rw [HRB.out]
  cases b
  case true =>
    go_wp2
    go_ret2
    exact ⟨rfl, HB.out⟩
  case false =>
    have hidx := HIDX.out rfl
    go_wp2_with (first | ((with_reducible refine gate_dst (N := 25) rfl ?_); (try (refine gate_guard (by rfl) ?_; dsimp only)); refine wpList_load_row rfl 25 _ rfl _ (by rfl) _ (C14 c (.slice A mac.length cap)) _ _ (eG on) Try.underlying25 rfl i25 ?_))
    (go_at_call 40; (with_reducible refine (regs_is A cap mac c _ _ HM.out HMC.out HMB.out).mono ?_); rintro e_ w3 ⟨rfl, hb_⟩; have HB_ : Aside0 (Below w.heap.size w w3) := Aside0.mk (below_step (bG HB) hb_); have hzw3 := hb_.size; (try simp at hzw3); have on_ := Aside0.mk (box_below hb_ (eG on)); (try clear on onc onf onl); have on := on_; clear on_; obtain ⟨onc, onf, onl⟩ := cells_of on.out; clear HB hb_; have HB := HB_; clear HB_)
    go_wp2
    go_ret2
    exact ⟨rfl, HB.out⟩
end Go.Proofs.Ytdblpflepfcnjaa.Q
end
section
/- nic.Store. -/
namespace Go.Proofs.Ytdblpflepfcnjaa.Q
open Go.RowKit Go.Proofs.YtdblpflepfcnjaaW.PrintWords Go.Proofs.YtdblpflepfcnjaaW.PrintLast Go.Proofs.YtdblpflepfcnjaaW.PrintMore Go.Proofs.Ytdblpflepfcnjaa.L
attribute [local go_sem] Instr.field part asAgg lt_step max2_int min2_int max_two min_two max_three min_three max_four min_four lt_0_1 lt_0_2 lt_1_2 lt_0_3 lt_1_3 lt_2_3 lt_0_4 lt_1_4 lt_2_4 lt_3_4 lt_0_5 lt_1_5 lt_2_5 lt_3_5 lt_4_5 lt_0_6 lt_1_6 lt_2_6 lt_3_6 lt_4_6 lt_5_6 lt_0_7 lt_1_7 lt_2_7 lt_3_7 lt_4_7 lt_5_7 lt_6_7 lt_0_8 lt_1_8 lt_2_8 lt_3_8 lt_4_8 lt_5_8 lt_6_8 lt_7_8
set_option linter.unusedVariables false
set_option linter.unusedSimpArgs false
def stZ (c : Nat → Int) (i y : Int) : Nat → Int :=
  if i = 0 then upd c 0 (Go.bits .and .i64 y 7) else if i = 1 then upd c 1 (Go.bits .andNot .i64 (c 1) y) else if i = 2 then upd c 2 (Go.bits .and .i64 y 15) else if i = 3 then upd c 3 y
  else if i = 4 then (if 1 ≤ y ∧ y ≤ 64 then upd (upd (upd c 4 y) 5 0) 6 0 else c) else if i = 6 then (if y < c 4 then upd c 6 y else c) else if i = 7 then upd c 7 y
  else if i = 8 then (if 1 ≤ y ∧ y ≤ 64 then upd (upd (upd c 8 y) 9 0) 10 0 else c) else if i = 10 then (if y < c 8 then upd c 10 y else c) else c
theorem st4n (c : Nat → Int) (y : Int) (h : ¬ (1 ≤ y ∧ y ≤ 64)) : stZ c 4 y = c := by simp [stZ, h]
theorem st8n (c : Nat → Int) (y : Int) (h : ¬ (1 ≤ y ∧ y ≤ 64)) : stZ c 8 y = c := by simp [stZ, h]
theorem st6n (c : Nat → Int) (y : Int) (h : ¬ y < c 4) : stZ c 6 y = c := by simp [stZ, h]
theorem st10n (c : Nat → Int) (y : Int) (h : ¬ y < c 8) : stZ c 10 y = c := by simp [stZ, h]
theorem st4p (c : Nat → Int) (y : Int) (h : 1 ≤ y ∧ y ≤ 64) : stZ c 4 y = upd (upd (upd c 4 y) 5 0) 6 0 := by simp [stZ, h]
theorem st8p (c : Nat → Int) (y : Int) (h : 1 ≤ y ∧ y ≤ 64) : stZ c 8 y = upd (upd (upd c 8 y) 9 0) 10 0 := by simp [stZ, h]
theorem st6p (c : Nat → Int) (y : Int) (h : y < c 4) : stZ c 6 y = upd c 6 y := by simp [stZ, h]
theorem st10p (c : Nat → Int) (y : Int) (h : y < c 8) : stZ c 10 y = upd c 10 y := by simp [stZ, h]
theorem refuse_off {c : Nat → Int} {m : Nat} {off size : Int} (h0 : 0 ≤ off) (h64 : off < 18446744073709551616) (h : refuseZ c m off size = false) : off = 0 ∨ off = 4 ∨ off = 8 ∨ off = 12 ∨ off = 16 ∨ off = 20 ∨ off = 24 ∨ off = 28 ∨ off = 32 ∨ off = 36 ∨ off = 40 ∨ off = 44 ∨ off = 48 ∨ off = 52 ∨ off = 56 := by
  unfold refuseZ at h
  simp only [Bool.or_eq_false_iff, decide_eq_false_iff_not] at h
  have h1 := h.1.2
  have h2 := h.2
  have h3 : Go.bits .and .u64 off 3 = off % 4 := by
    rw [u64_and off 3 h0 h64 (by decide) (by decide)]
    obtain ⟨n, rfl⟩ := Int.eq_ofNat_of_zero_le h0
    show ((n &&& 3 : Nat) : Int) = _
    rw [show (3 : Nat) = 2 ^ 2 - 1 from rfl, Nat.and_two_pow_sub_one_eq_mod]
    omega
  rw [h3] at h1
  omega
section
variable (A : Option Addr) (cap : Nat) (mac : List Int) (c : Nat → Int) (off size x : Int) (w : World) (okm : Nat → Prop) (hm : Kd.F (Kd.int .u8) w okm A mac.length mac) (hmc : mac.length ≤ cap) (hmb : ∀ z ∈ mac, byte z) (h0 : 0 ≤ off) (h64 : off < 18446744073709551616)
include hm hmc hmb h0 h64
set_option maxHeartbeats 1600000 in
set_option maxRecDepth 100000 in
theorem store_yes (y : Int) (hy : IntKind.u32.wrap x = y) (hb : refuseZ c mac.length off size = false) :
    Calls Try.prog 15 #[.agg (C14 c (.slice A mac.length cap)), .int .u64 off, .int .i64 size, .int .u64 x] w fun e w' => e = .returned (.tuple #[.agg (C14 (stZ c (off / 4) y) (.slice A mac.length cap)), .bool true]) ∧ Below w.heap.size w w' := by
  have hy0 : 0 ≤ y := by rw [← hy, IntKind.wrap_u32]; omega
  have hy1 : y < 4294967296 := by rw [← hy, IntKind.wrap_u32]; omega
  have HOF := Aside0.mk (refuse_off h0 h64 hb)
  have HB := Aside0.mk (Below.refl w.heap.size w)
  have HM := Aside0.mk (Kd.F_bound hm)
  have HMC := Aside0.mk hmc
  have HMB := Aside0.mk hmb
  have HRB := Aside0.mk hb
  have hu := Try.underlying25
  clear hm hmc hmb hb
  go_enter Try.func15, Try.ntmps15
  go_upto_region 1 with fail
  obtain ⟨wa, hwa, on0, pn0, hb_, hz0⟩ := letter2 w (.cells (C14 c (.slice A mac.length cap)) 25 (0, 0)) (.cells #[.int .i64 0, .int .i64 0, .int .i64 0, .int .u64 0, .int .i64 0, .int .i64 0, .int .i64 0, .int .u64 0, .int .i64 0, .int .i64 0, .int .i64 0, .int .i64 0, .int .i64 0, .slice none 0 0] 25 (0, 0))
  rw [hwa]
  clear hwa
  have hzwa := Nat.le_of_eq hz0.symm
  clear hz0
  have on := Aside0.mk on0
  have pn := Aside0.mk pn0
  clear on0 pn0
  obtain ⟨onc, onf, onl⟩ := cells_of on.out
  obtain ⟨pnc, pnf, pnl⟩ := cells_of pn.out
  have HB_ : Aside0 (Below w.heap.size w wa) := ⟨hb_⟩
  have HM_ := Aside0.mk (Kd.F_below HM.out hb_)
  clear HB HM hb_; have HB := HB_; have HM := HM_; clear HB_ HM_
  go_wp2_with (first | ((with_reducible refine gate_dst (N := 18) rfl ?_); (try (refine gate_guard (by rfl) ?_; dsimp only)); refine wpList_load_row rfl 25 _ rfl _ (by rfl) _ (C14 c (.slice A mac.length cap)) _ _ (eG on) Try.underlying25 rfl i25 ?_))
  (go_at_call 13; (with_reducible refine (Load_is A cap mac c off size _ _ HM.out HMC.out HMB.out h0 h64 _ _ rfl HRB.out).mono ?_); rintro e_ w1 ⟨rfl, hb_⟩; have HB_ : Aside0 (Below w.heap.size w w1) := Aside0.mk (below_step (bG HB) hb_); have hzw1 := hb_.size; (try simp at hzw1); have on_ := Aside0.mk (box_below hb_ (eG on)); have pn_ := Aside0.mk (box_below hb_ (eG pn)); (try clear on onc onf onl); have on := on_; clear on_; obtain ⟨onc, onf, onl⟩ := cells_of on.out; (try clear pn pnc pnf pnl); have pn := pn_; clear pn_; obtain ⟨pnc, pnf, pnl⟩ := cells_of pn.out; clear HB hb_; have HB := HB_; clear HB_)
  go_upto_region 6 with fail
  go_cut [14] (fun v wx => v = .bool (decide (1 ≤ y) && decide (y ≤ 64)) ∧ w1 = wx)
  case first =>
    go_wp2_with fail
    all_goals go_meet
    all_goals refine ⟨congrArg Value.bool ?_, rfl⟩
    all_goals (simp [*] <;> omega)
  case rest =>
  obtain ⟨rfl, hw_⟩ := hcut
  subst hw_
  have hc0 : World.cell? w1 ⟨w.heap.size, 0, none⟩ = some (.int .i64 (c 0)) := (onc 0).trans rfl
  have hc1 : World.cell? w1 ⟨w.heap.size, 1, none⟩ = some (.int .i64 (c 1)) := (onc 1).trans rfl
  have hc2 : World.cell? w1 ⟨w.heap.size, 2, none⟩ = some (.int .i64 (c 2)) := (onc 2).trans rfl
  have hc3 : World.cell? w1 ⟨w.heap.size, 3, none⟩ = some (.int .u64 (c 3)) := (onc 3).trans rfl
  have hc4 : World.cell? w1 ⟨w.heap.size, 4, none⟩ = some (.int .i64 (c 4)) := (onc 4).trans rfl
  have hc5 : World.cell? w1 ⟨w.heap.size, 5, none⟩ = some (.int .i64 (c 5)) := (onc 5).trans rfl
  have hc6 : World.cell? w1 ⟨w.heap.size, 6, none⟩ = some (.int .i64 (c 6)) := (onc 6).trans rfl
  have hc7 : World.cell? w1 ⟨w.heap.size, 7, none⟩ = some (.int .u64 (c 7)) := (onc 7).trans rfl
  have hc8 : World.cell? w1 ⟨w.heap.size, 8, none⟩ = some (.int .i64 (c 8)) := (onc 8).trans rfl
  have hc9 : World.cell? w1 ⟨w.heap.size, 9, none⟩ = some (.int .i64 (c 9)) := (onc 9).trans rfl
  have hc10 : World.cell? w1 ⟨w.heap.size, 10, none⟩ = some (.int .i64 (c 10)) := (onc 10).trans rfl
  have hc11 : World.cell? w1 ⟨w.heap.size, 11, none⟩ = some (.int .i64 (c 11)) := (onc 11).trans rfl
  have hc12 : World.cell? w1 ⟨w.heap.size, 12, none⟩ = some (.int .i64 (c 12)) := (onc 12).trans rfl
  clear onc
  have onc := trivial
  go_upto_block 0 with fail
  go_cut [14] (fun _ wx => Aside0 (wx.heap[w.heap.size]? = some (.cells (C14 (stZ c (off / 4) y) (.slice A mac.length cap)) 25 (0, 0))) ∧ Aside0 (wx.heap[w.heap.size + 1]? = some (.cells #[.int .i64 0, .int .i64 0, .int .i64 0, .int .u64 0, .int .i64 0, .int .i64 0, .int .i64 0, .int .u64 0, .int .i64 0, .int .i64 0, .int .i64 0, .int .i64 0, .int .i64 0, .slice none 0 0] 25 (0, 0))) ∧ Aside0 (Below w.heap.size w wx))
  case first =>
    clear hy
    rcases HOF.out with rfl | rfl | rfl | rfl | rfl | rfl | rfl | rfl | rfl | rfl | rfl | rfl | rfl | rfl | rfl
    · go_wp2_with fail
      all_goals go_meet
      all_goals first | (exact ⟨⟨blk_put on.out 0 _ rfl⟩, ⟨(eG pn)⟩, ⟨(bG HB)⟩⟩)
    · go_wp2_with fail
      all_goals go_meet
      all_goals first | (exact ⟨⟨blk_put on.out 1 _ rfl⟩, ⟨(eG pn)⟩, ⟨(bG HB)⟩⟩)
    · go_wp2_with fail
      all_goals go_meet
      all_goals first | (exact ⟨⟨blk_put on.out 2 _ rfl⟩, ⟨(eG pn)⟩, ⟨(bG HB)⟩⟩)
    · go_wp2_with fail
      all_goals go_meet
      all_goals first | (exact ⟨⟨blk_put on.out 3 _ rfl⟩, ⟨(eG pn)⟩, ⟨(bG HB)⟩⟩)
    · go_wp2_with fail
      all_goals go_meet
      all_goals first | (rw [show stZ c (16 / 4) y = upd (upd (upd c 4 y) 5 0) 6 0 from st4p c y (by omega)]; exact ⟨⟨blk_put (cs' := C14 (upd (upd (upd c 4 y) 5 0) 6 0) (.slice A mac.length cap)) (blk_put (cs' := C14 (upd (upd c 4 y) 5 0) (.slice A mac.length cap)) (blk_put (cs' := C14 (upd c 4 y) (.slice A mac.length cap)) on.out 4 _ rfl) 5 _ rfl) 6 _ rfl⟩, ⟨(eG pn)⟩, ⟨(bG HB)⟩⟩) | (rw [show stZ c (16 / 4) y = c from st4n c y (by omega)]; exact ⟨on, pn, HB⟩)
    · go_wp2_with fail
      all_goals go_meet
      all_goals first | exact ⟨on, pn, HB⟩
    · go_wp2_with fail
      all_goals go_meet
      all_goals first | (rw [show stZ c (24 / 4) y = upd c 6 y from st6p c y (by omega)]; exact ⟨⟨blk_put on.out 6 _ rfl⟩, ⟨(eG pn)⟩, ⟨(bG HB)⟩⟩) | (rw [show stZ c (24 / 4) y = c from st6n c y (by omega)]; exact ⟨on, pn, HB⟩)
    · go_wp2_with fail
      all_goals go_meet
      all_goals first | (exact ⟨⟨blk_put on.out 7 _ rfl⟩, ⟨(eG pn)⟩, ⟨(bG HB)⟩⟩)
    · go_wp2_with fail
      all_goals go_meet
      all_goals first | (rw [show stZ c (32 / 4) y = upd (upd (upd c 8 y) 9 0) 10 0 from st8p c y (by omega)]; exact ⟨⟨blk_put (cs' := C14 (upd (upd (upd c 8 y) 9 0) 10 0) (.slice A mac.length cap)) (blk_put (cs' := C14 (upd (upd c 8 y) 9 0) (.slice A mac.length cap)) (blk_put (cs' := C14 (upd c 8 y) (.slice A mac.length cap)) on.out 8 _ rfl) 9 _ rfl) 10 _ rfl⟩, ⟨(eG pn)⟩, ⟨(bG HB)⟩⟩) | (rw [show stZ c (32 / 4) y = c from st8n c y (by omega)]; exact ⟨on, pn, HB⟩)
    · go_wp2_with fail
      all_goals go_meet
      all_goals first | exact ⟨on, pn, HB⟩
    · go_wp2_with fail
      all_goals go_meet
      all_goals first | (rw [show stZ c (40 / 4) y = upd c 10 y from st10p c y (by omega)]; exact ⟨⟨blk_put on.out 10 _ rfl⟩, ⟨(eG pn)⟩, ⟨(bG HB)⟩⟩) | (rw [show stZ c (40 / 4) y = c from st10n c y (by omega)]; exact ⟨on, pn, HB⟩)
    · go_wp2_with fail
      all_goals go_meet
      all_goals first | exact ⟨on, pn, HB⟩
    · go_wp2_with fail
      all_goals go_meet
      all_goals first | exact ⟨on, pn, HB⟩
    · go_wp2_with fail
      all_goals go_meet
      all_goals first | exact ⟨on, pn, HB⟩
    · go_wp2_with fail
      all_goals go_meet
      all_goals first | exact ⟨on, pn, HB⟩
  case rest =>
  obtain ⟨on, pn, HB⟩ := hcut
  rename World => w3
  obtain ⟨onc, onf, onl⟩ := cells_of on.out
  obtain ⟨pnc, pnf, pnl⟩ := cells_of pn.out
  go_wp2_with (first | ((with_reducible refine gate_dst (N := 112) rfl ?_); (try (refine gate_guard (by rfl) ?_; dsimp only)); refine wpList_load_row rfl 25 _ rfl _ (by rfl) _ (C14 (stZ c (off / 4) y) (.slice A mac.length cap)) _ _ (eG on) Try.underlying25 rfl i25 ?_) | ((with_reducible refine gate_store (t := 25) (p := 8) (v := .tmp 112) rfl ?_); refine wpList_store_all rfl 25 _ _ rfl rfl _ (C14 (stZ c (off / 4) y) (.slice A mac.length cap)) (by rfl) (by rfl) _ _ pn.out rfl i25 (C14_one _ _ _ _) ?_; rintro w4 ⟨hx_, hk_, hb_, hzz_⟩; have HB_ : Aside0 (Below w.heap.size w w4) := Aside0.mk (Below.trans (bG HB) (Below.mono hb_ (by first | omega | (simp only [sz_alloc, sz_drew, sz_drewN]; omega)))); have hzw4 := hzz_; (try simp at hzw4); clear hzz_; have on_ := Aside0.mk (st_put on.out hk_ (fun h_ => (by repeat (with_reducible first | exact h_ | apply ext_drew | apply ext_drewN | apply ext_alloc | refine blk_far ?_ (by show _ ≠ _; dsimp only; omega) _))) (by omega)); clear on onc onf onl; have on := on_; clear on_; obtain ⟨onc, onf, onl⟩ := cells_of on.out; (try clear pn pnc pnf pnl); have pn := Aside0.mk hx_; obtain ⟨pnc, pnf, pnl⟩ := cells_of pn.out; clear HB hb_ hk_ hx_; have HB := HB_; clear HB_))
  refine bodyPost_ret (results_ct rfl _ _ (w.heap.size + 1) 25 (C14 (stZ c (off / 4) y) (.slice A mac.length cap)) (0, 0) _ rfl pn.out Try.underlying25 rfl i25) rfl ⟨rfl, (bG HB)⟩
end
end Go.Proofs.Ytdblpflepfcnjaa.Q
end
section
/- The controller's plain laws: what may be stays so; what frames there are. -/
namespace Go.Proofs.Ytdblpflepfcnjaa.Q
open Go.RowKit Go.Proofs.YtdblpflepfcnjaaW.PrintWords Go.Proofs.YtdblpflepfcnjaaW.PrintLast Go.Proofs.YtdblpflepfcnjaaW.PrintMore Go.Proofs.Ytdblpflepfcnjaa.L
set_option linter.unusedVariables false
set_option linter.unusedSimpArgs false
def mk13 (a0_0 : Int) (a0_1 : Int) (a0_2 : Int) (a0_3 : Int) (a0_4 : Int) (a0_5 : Int) (a0_6 : Int) (a0_7 : Int) (a0_8 : Int) (a0_9 : Int) (a0_10 : Int) (a0_11 : Int) (a0_12 : Int) : Nat → Int := fun i => if i = 0 then a0_0 else if i = 1 then a0_1 else if i = 2 then a0_2 else if i = 3 then a0_3 else if i = 4 then a0_4 else if i = 5 then a0_5 else if i = 6 then a0_6 else if i = 7 then a0_7 else if i = 8 then a0_8 else if i = 9 then a0_9 else if i = 10 then a0_10 else if i = 11 then a0_11 else a0_12
theorem toInt_small {v : BitVec 64} {K : Nat} (h : v.toNat ≤ K) (hK : K < 9223372036854775808) : 0 ≤ v.toInt ∧ v.toInt ≤ K := by
  have e : v.toInt = (v.toNat : Int) := by rw [BitVec.toInt_eq_toNat_cond, if_pos (by omega)]
  rw [e]; omega
theorem and_le (y : Int) (K : Nat) (hK : K < 9223372036854775808) : 0 ≤ Go.bits .and .i64 y K ∧ Go.bits .and .i64 y K ≤ K := by
  rw [i64_and]
  refine toInt_small ?_ hK
  rw [BitVec.toNat_and]
  refine Nat.le_trans Nat.and_le_right ?_
  unfold bv
  rw [BitVec.ofInt_natCast, BitVec.toNat_ofNat]
  exact Nat.mod_le _ _
theorem andNot_le (x y : Int) (K : Nat) (h0 : 0 ≤ x) (h1 : x ≤ K) (hK : K < 9223372036854775808) : 0 ≤ Go.bits .andNot .i64 x y ∧ Go.bits .andNot .i64 x y ≤ K := by
  rw [i64_andNot]
  refine toInt_small ?_ hK
  rw [BitVec.toNat_and]
  refine Nat.le_trans Nat.and_le_left ?_
  unfold bv
  obtain ⟨n, rfl⟩ := Int.eq_ofNat_of_zero_le h0
  rw [BitVec.ofInt_natCast, BitVec.toNat_ofNat]
  exact Nat.le_trans (Nat.mod_le _ _) (by omega)
theorem or16_all : ∀ n ∈ List.range 16, ∀ b ∈ [1, 2, 4, 8], 0 ≤ Go.bits .or .i64 (n : Int) b ∧ Go.bits .or .i64 (n : Int) b < 16 := by decide +kernel
theorem or16 (x b : Int) (h : 0 ≤ x ∧ x < 16) (hb : b ∈ [1, 2, 4, 8]) : 0 ≤ Go.bits .or .i64 x b ∧ Go.bits .or .i64 x b < 16 := by
  obtain ⟨n, rfl⟩ := Int.eq_ofNat_of_zero_le h.1
  exact or16_all n (List.mem_range.2 (by omega)) b hb
theorem most_in (x : Int) (h : 0 ≤ x ∧ x ≤ 2147483648) : 0 ≤ mostZ x ∧ mostZ x ≤ 2147483648 := by
  unfold mostZ
  rw [w64 (by omega) (by omega)]
  split <;> omega
theorem next_in (h n : Int) (hh : 0 ≤ h ∧ h < n) (hn : 1 ≤ n ∧ n ≤ 64) : 0 ≤ Int.tmod (wrap64 (h + 1)) n ∧ Int.tmod (wrap64 (h + 1)) n < n := by
  rw [w64 (by omega) (by omega), Int.tmod_eq_emod_of_nonneg (by omega)]
  exact ⟨Int.emod_nonneg _ (by omega), Int.emod_lt_of_pos _ (by omega)⟩
section
variable {c : Nat → Int} {m : Nat} (k : Ok c m)
include k
theorem Ok.fail : Ok (failC c) m := ⟨k.mac, k.ctrl, or16 _ 4 k.cause (by decide), k.mask, k.drops, most_in _ k.errs, k.tb, k.tn, k.th, k.tt, k.rb, k.rn, k.rh, k.rt⟩
theorem Ok.drop : Ok (dropC c) m := ⟨k.mac, k.ctrl, or16 _ 8 k.cause (by decide), k.mask, most_in _ k.drops, k.errs, k.tb, k.tn, k.th, k.tt, k.rb, k.rn, k.rh, k.rt⟩
theorem Ok.ctl (v : Int) (h : 0 ≤ v ∧ v < 8) : Ok (upd c 0 v) m := ⟨k.mac, h, k.cause, k.mask, k.drops, k.errs, k.tb, k.tn, k.th, k.tt, k.rb, k.rn, k.rh, k.rt⟩
theorem Ok.cau (v : Int) (h : 0 ≤ v ∧ v < 16) : Ok (upd c 1 v) m := ⟨k.mac, k.ctrl, h, k.mask, k.drops, k.errs, k.tb, k.tn, k.th, k.tt, k.rb, k.rn, k.rh, k.rt⟩
theorem Ok.nextT : Ok (nextT c) m := ⟨k.mac, k.ctrl, k.cause, k.mask, k.drops, k.errs, k.tb, k.tn, next_in _ _ k.th k.tn, k.tt, k.rb, k.rn, k.rh, k.rt⟩
theorem Ok.st (i y : Int) (hy : 0 ≤ y ∧ y < 4294967296) : Ok (stZ c i y) m := by
  have h7 : 0 ≤ Go.bits .and .i64 y 7 ∧ Go.bits .and .i64 y 7 ≤ 7 := and_le y 7 (by decide)
  have h15 : 0 ≤ Go.bits .and .i64 y 15 ∧ Go.bits .and .i64 y 15 ≤ 15 := and_le y 15 (by decide)
  have hn := andNot_le (c 1) y 15 k.cause.1 (by have := k.cause.2; omega) (by decide)
  unfold stZ
  split; exact k.ctl _ ⟨h7.1, by omega⟩
  split; exact k.cau _ ⟨hn.1, by omega⟩
  split; exact ⟨k.mac, k.ctrl, k.cause, ⟨h15.1, by show Go.bits .and .i64 y 15 < 16; omega⟩, k.drops, k.errs, k.tb, k.tn, k.th, k.tt, k.rb, k.rn, k.rh, k.rt⟩
  split; exact ⟨k.mac, k.ctrl, k.cause, k.mask, k.drops, k.errs, by show y / 4294967296 = 0; omega, k.tn, k.th, k.tt, k.rb, k.rn, k.rh, k.rt⟩
  split
  · split
    · rename_i h; exact ⟨k.mac, k.ctrl, k.cause, k.mask, k.drops, k.errs, k.tb, h, ⟨Int.le_refl 0, by show 0 < y; omega⟩, ⟨Int.le_refl 0, by show 0 < y; omega⟩, k.rb, k.rn, k.rh, k.rt⟩
    · exact k
  split
  · split
    · rename_i h; exact ⟨k.mac, k.ctrl, k.cause, k.mask, k.drops, k.errs, k.tb, k.tn, k.th, ⟨hy.1, h⟩, k.rb, k.rn, k.rh, k.rt⟩
    · exact k
  split; exact ⟨k.mac, k.ctrl, k.cause, k.mask, k.drops, k.errs, k.tb, k.tn, k.th, k.tt, by show y / 4294967296 = 0; omega, k.rn, k.rh, k.rt⟩
  split
  · split
    · rename_i h; exact ⟨k.mac, k.ctrl, k.cause, k.mask, k.drops, k.errs, k.tb, k.tn, k.th, k.tt, k.rb, h, ⟨Int.le_refl 0, by show 0 < y; omega⟩, ⟨Int.le_refl 0, by show 0 < y; omega⟩⟩
    · exact k
  split
  · split
    · rename_i h; exact ⟨k.mac, k.ctrl, k.cause, k.mask, k.drops, k.errs, k.tb, k.tn, k.th, k.tt, k.rb, k.rn, k.rh, ⟨hy.1, h⟩⟩
    · exact k
  exact k
end
end Go.Proofs.Ytdblpflepfcnjaa.Q
end
section
/- nic.New, nic.Line. -/
namespace Go.Proofs.Ytdblpflepfcnjaa.Q
open Go.RowKit Go.Proofs.YtdblpflepfcnjaaW.PrintWords Go.Proofs.YtdblpflepfcnjaaW.PrintLast Go.Proofs.YtdblpflepfcnjaaW.PrintMore Go.Proofs.Ytdblpflepfcnjaa.L
attribute [local go_sem] Instr.field part asAgg lt_step max2_int min2_int max_two min_two max_three min_three max_four min_four lt_0_1 lt_0_2 lt_1_2 lt_0_3 lt_1_3 lt_2_3 lt_0_4 lt_1_4 lt_2_4 lt_3_4 lt_0_5 lt_1_5 lt_2_5 lt_3_5 lt_4_5 lt_0_6 lt_1_6 lt_2_6 lt_3_6 lt_4_6 lt_5_6 lt_0_7 lt_1_7 lt_2_7 lt_3_7 lt_4_7 lt_5_7 lt_6_7 lt_0_8 lt_1_8 lt_2_8 lt_3_8 lt_4_8 lt_5_8 lt_6_8 lt_7_8
set_option linter.unusedVariables false
set_option linter.unusedSimpArgs false
def new0 : Nat → Int := fun _ => 0
def new1 : Nat → Int := fun i => if i = 4 ∨ i = 8 then 1 else 0
def lineZ (c : Nat → Int) (m : Nat) : Bool := okC c m && decide (Go.bits .and .i64 (c 1) (c 2) > 0)
set_option maxHeartbeats 1600000 in
set_option maxRecDepth 100000 in
theorem New_yes (A : Option Addr) (cap : Nat) (mac : List Int) (w : World) (okm : Nat → Prop) (hm : Kd.F (Kd.int .u8) w okm A mac.length mac) (hmc : mac.length ≤ cap) (h6 : mac.length = 6) :
    Calls Try.prog 17 #[.slice A mac.length cap] w fun e w' => ∃ A' c', e = .returned (.tuple #[.agg (C14 new1 (.slice A' mac.length c')), .int .i64 0]) ∧ mac.length ≤ c' ∧ Kd.F (Kd.int .u8) w' (fun j => w.heap.size ≤ j) A' mac.length mac ∧ Below w.heap.size w w' := by
  have HB := Aside0.mk (Below.refl w.heap.size w)
  have HM := Aside0.mk (Kd.F_bound hm)
  have HMC := Aside0.mk hmc
  have hu := Try.underlying25
  have hb6 : ((mac.length : Int) != 6) = false := by rw [h6]; rfl
  have hi6 : decide ((mac.length : Int) = 6) = true := by rw [h6]; rfl
  have HCL : Aside0 (slices_Clone_byte_byte.f mac = some mac) := ⟨by unfold slices_Clone_byte_byte.f; rw [if_pos (by omega)]⟩
  clear hm hmc h6
  go_enter Try.func17, Try.ntmps17
  go_wp2_with fail
  (go_at_call 41; (with_reducible refine (slices_Clone_byte_byte.calls A cap mac mac _ (Kd.F_now (fG HM)) HMC.out HCL.out).mono ?_); rintro e_ w1 ⟨v_q, rfl, hr_q, hb_⟩; have HB_ : Aside0 (Below w.heap.size w w1) := Aside0.mk (below_step (bG HB) hb_); have hzw1 := hb_.size; (try simp at hzw1); have oa_ := Aside0.mk (box_below hb_ (by repeat (with_reducible first | exact nb_1 w _ | apply ext_drew | apply ext_drewN | apply ext_alloc | refine blk_far ?_ (by show _ ≠ _; dsimp only; omega) _))); (try clear oa oac oaf oal); have oa := oa_; clear oa_; obtain ⟨oac, oaf, oal⟩ := cells_of oa.out; clear HB hb_; have HB := HB_; clear HB_; obtain ⟨A_q, c_q, ev_, hc_q, hf_q⟩ := R_Fl hr_q; subst ev_; have qc := Aside0.mk hc_q; have q := Aside0.mk (Kd.F_bound hf_q); clear hc_q hf_q hr_q; skip)
  go_wp2
  refine bodyPost_ret (v := .tuple #[.agg (C14 new1 (.slice A_q mac.length c_q)), .int .i64 0]) (by simp [results, Try.results17, go_sem, oac, oaf, C14, new1] <;> first | assumption | omega | (symm; assumption)) rfl ?_
  exact ⟨A_q, c_q, rfl, qc.out, (by refine F_res (ok := ?_) (fG q) ?_; intro j_ hj_; (try simp only [sz_alloc, sz_drew, sz_drewN, sz_set] at hj_); omega), (bG HB)⟩
set_option maxHeartbeats 1600000 in
set_option maxRecDepth 100000 in
theorem New_no (A : Option Addr) (cap : Nat) (mac : List Int) (w : World) (h6 : ((mac.length : Int) != 6) = true) :
    Calls Try.prog 17 #[.slice A mac.length cap] w fun e w' => e = .returned (.tuple #[.agg (C14 new0 (.slice none 0 0)), .int .i64 2]) ∧ Below w.heap.size w w' := by
  have HB := Aside0.mk (Below.refl w.heap.size w)
  have hu := Try.underlying25
  go_enter Try.func17, Try.ntmps17
  go_wp2
  refine bodyPost_ret (v := .tuple #[.agg (C14 new0 (.slice none 0 0)), .int .i64 2]) (by simp [results, Try.results17, go_sem, C14, new0] <;> first | assumption | omega | (symm; assumption)) rfl ?_
  exact ⟨rfl, (bG HB)⟩
set_option maxHeartbeats 1600000 in
set_option maxRecDepth 100000 in
theorem Line_is (c : Nat → Int) (A : Option Addr) (m cap : Nat) (w : World) (k : Bool) (hk : okC c m = k) : Calls Try.prog 21 #[.agg (C14 c (.slice A m cap))] w fun e w' => e = .returned (.bool (lineZ c m)) ∧ Below w.heap.size w w' := by
  have HB := Aside0.mk (Below.refl w.heap.size w)
  have HK := Aside0.mk hk
  have hu := Try.underlying25
  unfold lineZ
  rw [hk]
  clear hk
  go_enter Try.func21, Try.ntmps21
  go_upto_region 1 with fail
  obtain ⟨wa, hwa, on0, hb_, hz0⟩ := letter1 w (.cells (C14 c (.slice A m cap)) 25 (0, 0))
  rw [hwa]
  clear hwa
  have hzwa := Nat.le_of_eq hz0.symm
  clear hz0
  have on := Aside0.mk on0
  clear on0
  obtain ⟨onc, onf, onl⟩ := cells_of on.out
  have HB_ : Aside0 (Below w.heap.size w wa) := ⟨hb_⟩
  clear HB hb_
  have HB := HB_
  clear HB_
  go_wp2_with (first | ((with_reducible refine gate_dst (N := 3) rfl ?_); (try (refine gate_guard (by rfl) ?_; dsimp only)); refine wpList_load_row rfl 25 _ rfl _ (by rfl) _ (C14 c (.slice A m cap)) _ _ (eG on) Try.underlying25 rfl i25 ?_))
  (go_at_call 9; (with_reducible refine (Check_of k c A m cap _ HK.out).mono ?_); rintro e_ w1 ⟨rfl, hb_⟩; have HB_ : Aside0 (Below w.heap.size w w1) := Aside0.mk (below_step (bG HB) hb_); have hzw1 := hb_.size; (try simp at hzw1); have on_ := Aside0.mk (box_below hb_ (eG on)); (try clear on onc onf onl); have on := on_; clear on_; obtain ⟨onc, onf, onl⟩ := cells_of on.out; clear HB hb_; have HB := HB_; clear HB_)
  have hc1 : World.cell? w1 ⟨w.heap.size, 1, none⟩ = some (.int .i64 (c 1)) := (onc 1).trans rfl
  have hc2 : World.cell? w1 ⟨w.heap.size, 2, none⟩ = some (.int .i64 (c 2)) := (onc 2).trans rfl
  clear onc
  have onc := trivial
  cases k
  all_goals go_wp2
  all_goals go_ret
  all_goals exact ⟨by simp [*], HB.out⟩
end Go.Proofs.Ytdblpflepfcnjaa.Q
end
section
/- nic.Send: a frame goes. -/
namespace Go.Proofs.Ytdblpflepfcnjaa.Q
open Go.RowKit Go.Proofs.YtdblpflepfcnjaaW.PrintWords Go.Proofs.YtdblpflepfcnjaaW.PrintLast Go.Proofs.YtdblpflepfcnjaaW.PrintMore Go.Proofs.Ytdblpflepfcnjaa.L
attribute [local go_sem] Instr.field part asAgg lt_step max2_int min2_int max_two min_two max_three min_three max_four min_four lt_0_1 lt_0_2 lt_1_2 lt_0_3 lt_1_3 lt_2_3 lt_0_4 lt_1_4 lt_2_4 lt_3_4 lt_0_5 lt_1_5 lt_2_5 lt_3_5 lt_4_5 lt_0_6 lt_1_6 lt_2_6 lt_3_6 lt_4_6 lt_5_6 lt_0_7 lt_1_7 lt_2_7 lt_3_7 lt_4_7 lt_5_7 lt_6_7 lt_0_8 lt_1_8 lt_2_8 lt_3_8 lt_4_8 lt_5_8 lt_6_8 lt_7_8
set_option linter.unusedVariables false
set_option linter.unusedSimpArgs false
set_option maxHeartbeats 1600000 in
set_option maxRecDepth 100000 in
theorem send_good (A : Option Addr) (m cap : Nat) (R : Option Addr) (rc : Nat) (l : List Int) (c : Nat → Int) (w : World) (ok : Nat → Prop) (hr : Kd.F (Kd.int .u8) w ok R l.length l) (hc : l.length ≤ rc) (at_ : Int) (hk : okC c m = true) (hb0 : (Go.bits .and .i64 (c 0) 1 == 0) = false) (hb5 : (c 5 == c 6) = false) (hat : IntKind.u64.wrap (c 3 + IntKind.u64.wrap (16 * IntKind.u64.wrap (c 5))) = at_) (ha : u64B at_) (hl : (l.length : Int) ≤ 70000) (hby : ∀ z ∈ l, byte z) (hp : (placeZ l.length at_ 16).2 = true) (ho : (Go.bits .and .u8 (flagD (cutL l at_ 16)) 1 == 1) = true) (hne : ¬ c 4 = 0) (hbu : u64B (bufD (cutL l at_ 16))) (fr : List Int) (hfr : cutL l (bufD (cutL l at_ 16)) (sizeD (cutL l at_ 16)) = fr) (hpb : (placeZ l.length (bufD (cutL l at_ 16)) (sizeD (cutL l at_ 16))).2 = true) (hs14 : decide ((sizeD (cutL l at_ 16)) < 14) = false) (hs15 : decide ((sizeD (cutL l at_ 16)) > 1514) = false) (hki : i64B (sizeD (cutL l at_ 16))) (h14 : 14 ≤ (sizeD (cutL l at_ 16))) :
    Calls Try.prog 11 #[.agg (C14 c (.slice A m cap)), .agg #[.slice R l.length rc]] w (SendPost A m cap ok w (upd (upd c 5 (Int.tmod (wrap64 (c 5 + 1)) (c 4))) 1 (Go.bits .or .i64 (c 1) 1)) (fillL l (IntKind.u64.wrap (at_ + 10)) [Go.bits .andNot .u8 (flagD (cutL l at_ 16)) 1, restD (cutL l at_ 16), 1, 0]) fr true) := by
  have HB := Aside0.mk (Below.refl w.heap.size w)
  have HR := Aside0.mk (Kd.F_bound hr)
  have HC := Aside0.mk hc
  have hu := Try.underlying25
  have hu7 := Try.underlying27
  have HK := Aside0.mk hk
  have HA := Aside0.mk ha
  have HL := Aside0.mk hl
  have HP := Aside0.mk hp
  have HY := Aside0.mk hby
  have HO := Aside0.mk ho
  clear hp hby ho
  have HBU := Aside0.mk hbu
  clear hbu
  have hfn := cut_len l (bufD (cutL l at_ 16)) (sizeD (cutL l at_ 16)) hpb
  rw [hfr] at hfn
  have HFN := Aside0.mk hfn
  have HFR := Aside0.mk hfr
  have HPB := Aside0.mk hpb
  have HKI := Aside0.mk hki
  have H14 := Aside0.mk h14
  clear hpb hki hfr hfn h14
  clear hr hc hk ha hl
  go_enter Try.func11, Try.ntmps11
  go_upto_region 1 with fail
  obtain ⟨wa, hwa, on0, or0, pn0, pr0, hb_, hz0⟩ := letter4 w (.cells (C14 c (.slice A m cap)) 25 (0, 0)) (.cells #[.slice R l.length rc] 27 (0, 0)) (.cells #[.int .i64 0, .int .i64 0, .int .i64 0, .int .u64 0, .int .i64 0, .int .i64 0, .int .i64 0, .int .u64 0, .int .i64 0, .int .i64 0, .int .i64 0, .int .i64 0, .int .i64 0, .slice none 0 0] 25 (0, 0)) (.cells #[.slice none 0 0] 27 (0, 0))
  rw [hwa]
  clear hwa
  have hzwa := Nat.le_of_eq hz0.symm
  clear hz0
  have on := Aside0.mk on0
  have orr := Aside0.mk or0
  have pn := Aside0.mk pn0
  have pr := Aside0.mk pr0
  clear on0 or0 pn0 pr0
  obtain ⟨onc, onf, onl⟩ := cells_of on.out
  obtain ⟨orrc, orrf, orrl⟩ := cells_of orr.out
  obtain ⟨pnc, pnf, pnl⟩ := cells_of pn.out
  obtain ⟨prc, prf, prl⟩ := cells_of pr.out
  have HB_ : Aside0 (Below w.heap.size w wa) := ⟨hb_⟩
  have HR_ := Aside0.mk (Kd.F_below HR.out hb_)
  clear HB HR hb_; have HB := HB_; have HR := HR_; clear HB_ HR_
  have hc0 : World.cell? wa ⟨w.heap.size, 0, none⟩ = some (.int .i64 (c 0)) := (onc 0).trans rfl
  have hc5 : World.cell? wa ⟨w.heap.size, 5, none⟩ = some (.int .i64 (c 5)) := (onc 5).trans rfl
  have hc6 : World.cell? wa ⟨w.heap.size, 6, none⟩ = some (.int .i64 (c 6)) := (onc 6).trans rfl
  clear onc
  have onc := trivial
  go_wp2_with (first | ((with_reducible refine gate_dst (N := 11) rfl ?_); (try (refine gate_guard (by rfl) ?_; dsimp only)); refine wpList_load_row rfl 25 _ rfl _ (by rfl) _ (C14 c (.slice A m cap)) _ _ (eG on) Try.underlying25 rfl i25 ?_))
  (go_at_call 9; (with_reducible refine (Check_of true c A m cap _ HK.out).mono ?_); rintro e_ w1 ⟨rfl, hb_⟩; have HB_ : Aside0 (Below w.heap.size w w1) := Aside0.mk (below_step (bG HB) hb_); have hzw1 := hb_.size; (try simp at hzw1); have on_ := Aside0.mk (box_below hb_ (eG on)); have orr_ := Aside0.mk (box_below hb_ (eG orr)); have pn_ := Aside0.mk (box_below hb_ (eG pn)); have pr_ := Aside0.mk (box_below hb_ (eG pr)); have HR_ := Aside0.mk (Kd.F_below (fG HR) hb_); clear HR; have HR := HR_; clear HR_; (try clear on onc onf onl); have on := on_; clear on_; obtain ⟨onc, onf, onl⟩ := cells_of on.out; (try clear orr orrc orrf orrl); have orr := orr_; clear orr_; obtain ⟨orrc, orrf, orrl⟩ := cells_of orr.out; (try clear pn pnc pnf pnl); have pn := pn_; clear pn_; obtain ⟨pnc, pnf, pnl⟩ := cells_of pn.out; (try clear pr prc prf prl); have pr := pr_; clear pr_; obtain ⟨prc, prf, prl⟩ := cells_of pr.out; clear HB hb_; have HB := HB_; clear HB_)
  clear hc0 hc5 hc6
  have hc0 : World.cell? w1 ⟨w.heap.size, 0, none⟩ = some (.int .i64 (c 0)) := (onc 0).trans rfl
  have hc3 : World.cell? w1 ⟨w.heap.size, 3, none⟩ = some (.int .u64 (c 3)) := (onc 3).trans rfl
  have hc5 : World.cell? w1 ⟨w.heap.size, 5, none⟩ = some (.int .i64 (c 5)) := (onc 5).trans rfl
  have hc6 : World.cell? w1 ⟨w.heap.size, 6, none⟩ = some (.int .i64 (c 6)) := (onc 6).trans rfl
  clear onc
  have onc := trivial
  go_wp2_with fail
  (go_at_call 32; (with_reducible refine (fetch_yes R rc l (c 3) (c 5) at_ _ hat (Kd.F_now HR.out) HC.out HA.out HL.out HY.out HP.out).mono ?_); rintro e_ w2 ⟨rfl, hb_⟩; have HB_ : Aside0 (Below w.heap.size w w2) := Aside0.mk (below_step (bG HB) hb_); have hzw2 := hb_.size; (try simp at hzw2); have on_ := Aside0.mk (box_below hb_ (eG on)); have orr_ := Aside0.mk (box_below hb_ (eG orr)); have pn_ := Aside0.mk (box_below hb_ (eG pn)); have pr_ := Aside0.mk (box_below hb_ (eG pr)); have HR_ := Aside0.mk (Kd.F_below (fG HR) hb_); clear HR; have HR := HR_; clear HR_; (try clear on onc onf onl); have on := on_; clear on_; obtain ⟨onc, onf, onl⟩ := cells_of on.out; (try clear orr orrc orrf orrl); have orr := orr_; clear orr_; obtain ⟨orrc, orrf, orrl⟩ := cells_of orr.out; (try clear pn pnc pnf pnl); have pn := pn_; clear pn_; obtain ⟨pnc, pnf, pnl⟩ := cells_of pn.out; (try clear pr prc prf prl); have pr := pr_; clear pr_; obtain ⟨prc, prf, prl⟩ := cells_of pr.out; clear HB hb_; have HB := HB_; clear HB_)
  clear hc0 hc3 hc5 hc6
  go_upto_region 4 with fail
  obtain ⟨w3, hw_, od0, hb_, hz0⟩ := letter1 w2 (.cells #[.int .u64 at_, .int .u64 (bufD (cutL l at_ 16)), .int .i64 (sizeD (cutL l at_ 16)), .int .u8 (flagD (cutL l at_ 16)), .int .u8 (restD (cutL l at_ 16))] 58 (0, 0))
  rw [hw_]
  clear hw_
  have hzw3 := Nat.le_of_eq hz0.symm
  clear hz0
  have on_ := Aside0.mk (box_below hb_ on.out)
  (try clear on onc onf onl)
  have on := on_
  clear on_
  obtain ⟨onc, onf, onl⟩ := cells_of on.out
  have orr_ := Aside0.mk (box_below hb_ orr.out)
  (try clear orr orrc orrf orrl)
  have orr := orr_
  clear orr_
  obtain ⟨orrc, orrf, orrl⟩ := cells_of orr.out
  have pn_ := Aside0.mk (box_below hb_ pn.out)
  (try clear pn pnc pnf pnl)
  have pn := pn_
  clear pn_
  obtain ⟨pnc, pnf, pnl⟩ := cells_of pn.out
  have pr_ := Aside0.mk (box_below hb_ pr.out)
  (try clear pr prc prf prl)
  have pr := pr_
  clear pr_
  obtain ⟨prc, prf, prl⟩ := cells_of pr.out
  have HR_ := Aside0.mk (Kd.F_below HR.out hb_)
  clear HR
  have HR := HR_
  clear HR_
  have od := Aside0.mk od0
  clear od0
  obtain ⟨odc, odf, odl⟩ := cells_of od.out
  have HB_ : Aside0 (Below w.heap.size w w3) := Aside0.mk (below_step HB.out hb_)
  clear HB hb_
  have HB := HB_
  clear HB_
  go_wp2_with fail
  (go_at_call 34; (with_reducible refine (own_of true _ _ _ _ _ _ HO.out).mono ?_); rintro e_ w4 ⟨rfl, hb_⟩; have HB_ : Aside0 (Below w.heap.size w w4) := Aside0.mk (below_step (bG HB) hb_); have hzw4 := hb_.size; (try simp at hzw4); have on_ := Aside0.mk (box_below hb_ (eG on)); have orr_ := Aside0.mk (box_below hb_ (eG orr)); have pn_ := Aside0.mk (box_below hb_ (eG pn)); have pr_ := Aside0.mk (box_below hb_ (eG pr)); have od_ := Aside0.mk (box_below hb_ (eG od)); have HR_ := Aside0.mk (Kd.F_below (fG HR) hb_); clear HR; have HR := HR_; clear HR_; (try clear on onc onf onl); have on := on_; clear on_; obtain ⟨onc, onf, onl⟩ := cells_of on.out; (try clear orr orrc orrf orrl); have orr := orr_; clear orr_; obtain ⟨orrc, orrf, orrl⟩ := cells_of orr.out; (try clear pn pnc pnf pnl); have pn := pn_; clear pn_; obtain ⟨pnc, pnf, pnl⟩ := cells_of pn.out; (try clear pr prc prf prl); have pr := pr_; clear pr_; obtain ⟨prc, prf, prl⟩ := cells_of pr.out; (try clear od odc odf odl); have od := od_; clear od_; obtain ⟨odc, odf, odl⟩ := cells_of od.out; clear HB hb_; have HB := HB_; clear HB_)
  have hc4 : World.cell? w4 ⟨w.heap.size, 4, none⟩ = some (.int .i64 (c 4)) := (onc 4).trans rfl
  have hc5 : World.cell? w4 ⟨w.heap.size, 5, none⟩ = some (.int .i64 (c 5)) := (onc 5).trans rfl
  clear onc
  have onc := trivial
  go_upto_region 10 with fail
  (have HR_ := Aside0.mk (Kd.F_far (p := ⟨w.heap.size, 5, none⟩) HR.out (fun j_ hj_ => by (try dsimp only at hj_); (try dsimp only); (try simp only [sz_alloc, sz_drew, sz_drewN, sz_set] at hj_); omega) (.int .i64 (Int.tmod (wrap64 (c 5 + 1)) (c 4)))); clear HR; have HR := HR_; clear HR_; have orr_ := Aside0.mk (blk_far (p := ⟨w.heap.size, 5, none⟩) orr.out (by show _ ≠ _; dsimp only; omega) (.int .i64 (Int.tmod (wrap64 (c 5 + 1)) (c 4)))); clear orr orrc orrf orrl; have orr := orr_; clear orr_; obtain ⟨orrc, orrf, orrl⟩ := cells_of orr.out; have pn_ := Aside0.mk (blk_far (p := ⟨w.heap.size, 5, none⟩) pn.out (by show _ ≠ _; dsimp only; omega) (.int .i64 (Int.tmod (wrap64 (c 5 + 1)) (c 4)))); clear pn pnc pnf pnl; have pn := pn_; clear pn_; obtain ⟨pnc, pnf, pnl⟩ := cells_of pn.out; have pr_ := Aside0.mk (blk_far (p := ⟨w.heap.size, 5, none⟩) pr.out (by show _ ≠ _; dsimp only; omega) (.int .i64 (Int.tmod (wrap64 (c 5 + 1)) (c 4)))); clear pr prc prf prl; have pr := pr_; clear pr_; obtain ⟨prc, prf, prl⟩ := cells_of pr.out; have od_ := Aside0.mk (blk_far (p := ⟨w.heap.size, 5, none⟩) od.out (by show _ ≠ _; dsimp only; omega) (.int .i64 (Int.tmod (wrap64 (c 5 + 1)) (c 4)))); clear od odc odf odl; have od := od_; clear od_; obtain ⟨odc, odf, odl⟩ := cells_of od.out; have on_ := Aside0.mk (blk_put on.out 5 (.int .i64 (Int.tmod (wrap64 (c 5 + 1)) (c 4))) (cs' := C14 (upd c 5 (Int.tmod (wrap64 (c 5 + 1)) (c 4))) (.slice A m cap)) rfl); clear on onc onf onl; have on := on_; clear on_; obtain ⟨onc, onf, onl⟩ := cells_of on.out)
  clear hc4 hc5
  go_wp2_with fail
  (go_at_call 35; (with_reducible refine (bytes_c R rc l (bufD (cutL l at_ 16)) (sizeD (cutL l at_ 16)) fr.length _ HFN.out (by rw [HFN.out]; have := H14.out; omega) (Kd.F_now (fG HR)) HC.out HBU.out HKI.out HL.out HPB.out).mono ?_); rintro e_ w6 ⟨qb, qo, qc, rfl, hq1, hq2, hq3, hb_⟩; have HB_ : Aside0 (Below w.heap.size w w6) := Aside0.mk (below_step (bG HB) hb_); have hzw6 := hb_.size; (try simp at hzw6); have on_ := Aside0.mk (box_below hb_ (eG on)); have orr_ := Aside0.mk (box_below hb_ (eG orr)); have pn_ := Aside0.mk (box_below hb_ (eG pn)); have pr_ := Aside0.mk (box_below hb_ (eG pr)); have od_ := Aside0.mk (box_below hb_ (eG od)); have HR_ := Aside0.mk (Kd.F_below (fG HR) hb_); clear HR; have HR := HR_; clear HR_; (try clear on onc onf onl); have on := on_; clear on_; obtain ⟨onc, onf, onl⟩ := cells_of on.out; (try clear orr orrc orrf orrl); have orr := orr_; clear orr_; obtain ⟨orrc, orrf, orrl⟩ := cells_of orr.out; (try clear pn pnc pnf pnl); have pn := pn_; clear pn_; obtain ⟨pnc, pnf, pnl⟩ := cells_of pn.out; (try clear pr prc prf prl); have pr := pr_; clear pr_; obtain ⟨prc, prf, prl⟩ := cells_of pr.out; (try clear od odc odf odl); have od := od_; clear od_; obtain ⟨odc, odf, odl⟩ := cells_of od.out; clear HB hb_; have HB := HB_; clear HB_; have hq1_ := Aside0.mk hq1; clear hq1; have hq1 := hq1_; clear hq1_; have hq2_ := Aside0.mk hq2; clear hq2; have hq2 := hq2_; clear hq2_; have hq3_ := Aside0.mk hq3; clear hq3; have hq3 := hq3_; clear hq3_; skip)
  rw [HFR.out] at hq2
  have hq2_ := Aside0.mk (Kd.F_mono hq2.out (ok' := fun j => w.heap.size + 1 + 1 + 1 < j) (fun j hj => by (try simp only [sz_alloc, sz_drew, sz_drewN, sz_set] at hj); omega))
  clear hq2
  have hq2 := hq2_
  clear hq2_
  have hc1 : World.cell? w6 ⟨w.heap.size, 1, none⟩ = some (.int .i64 (c 1)) := (onc 1).trans rfl
  clear onc
  have onc := trivial
  go_upto_region 14 with fail
  (have HR_ := Aside0.mk (Kd.F_far (p := ⟨w.heap.size, 1, none⟩) HR.out (fun j_ hj_ => by (try dsimp only at hj_); (try dsimp only); (try simp only [sz_alloc, sz_drew, sz_drewN, sz_set] at hj_); omega) (.int .i64 (Go.bits .or .i64 (c 1) 1))); clear HR; have HR := HR_; clear HR_; have hq2_ := Aside0.mk (Kd.F_far (p := ⟨w.heap.size, 1, none⟩) hq2.out (fun j_ hj_ => by (try dsimp only at hj_); (try dsimp only); (try simp only [sz_alloc, sz_drew, sz_drewN, sz_set] at hj_); omega) (.int .i64 (Go.bits .or .i64 (c 1) 1))); clear hq2; have hq2 := hq2_; clear hq2_; have orr_ := Aside0.mk (blk_far (p := ⟨w.heap.size, 1, none⟩) orr.out (by show _ ≠ _; dsimp only; omega) (.int .i64 (Go.bits .or .i64 (c 1) 1))); clear orr orrc orrf orrl; have orr := orr_; clear orr_; obtain ⟨orrc, orrf, orrl⟩ := cells_of orr.out; have pn_ := Aside0.mk (blk_far (p := ⟨w.heap.size, 1, none⟩) pn.out (by show _ ≠ _; dsimp only; omega) (.int .i64 (Go.bits .or .i64 (c 1) 1))); clear pn pnc pnf pnl; have pn := pn_; clear pn_; obtain ⟨pnc, pnf, pnl⟩ := cells_of pn.out; have pr_ := Aside0.mk (blk_far (p := ⟨w.heap.size, 1, none⟩) pr.out (by show _ ≠ _; dsimp only; omega) (.int .i64 (Go.bits .or .i64 (c 1) 1))); clear pr prc prf prl; have pr := pr_; clear pr_; obtain ⟨prc, prf, prl⟩ := cells_of pr.out; have od_ := Aside0.mk (blk_far (p := ⟨w.heap.size, 1, none⟩) od.out (by show _ ≠ _; dsimp only; omega) (.int .i64 (Go.bits .or .i64 (c 1) 1))); clear od odc odf odl; have od := od_; clear od_; obtain ⟨odc, odf, odl⟩ := cells_of od.out; have on_ := Aside0.mk (blk_put on.out 1 (.int .i64 (Go.bits .or .i64 (c 1) 1)) (cs' := C14 (upd (upd c 5 (Int.tmod (wrap64 (c 5 + 1)) (c 4))) 1 (Go.bits .or .i64 (c 1) 1)) (.slice A m cap)) rfl); clear on onc onf onl; have on := on_; clear on_; obtain ⟨onc, onf, onl⟩ := cells_of on.out)
  clear hc1
  refine start_ (n := 9) (S := fun w' => w'.heap[w.heap.size]? = some (.cells (C14 (upd (upd c 5 (Int.tmod (wrap64 (c 5 + 1)) (c 4))) 1 (Go.bits .or .i64 (c 1) 1)) (.slice A m cap)) 25 (0, 0)) ∧ w'.heap[w2.heap.size]? = some (.cells (#[.int .u64 at_, .int .u64 (bufD (cutL l at_ 16)), .int .i64 (sizeD (cutL l at_ 16)), .int .u8 (flagD (cutL l at_ 16)), .int .u8 (restD (cutL l at_ 16))]) 58 (0, 0)) ∧ w'.heap[w.heap.size + 1]? = some (.cells (#[.slice R l.length rc]) 27 (0, 0))) (ds := []) #[false, false, false, false, false, false, false, false, false] (by kernel_rfl) rfl rfl ⟨(eG on), (eG od), (eG orr)⟩ (fun hHeld => ?_)
  refine rowL_ (i := 0) (N := some 91) #[true, false, false, false, false, false, false, false, false] rfl rfl (by kernel_rfl) 25 _ rfl (w.heap.size) (C14 (upd (upd c 5 (Int.tmod (wrap64 (c 5 + 1)) (c 4))) 1 (Go.bits .or .i64 (c 1) 1)) (.slice A m cap)) (fun _ _ _ h => h) (by rfl) (by rfl) _ _ _ (fun _ h => h.1) Try.underlying25 rfl i25 hHeld (a' := ?_) ?_ ?_
  rotate_left
  · simp only [Act.put, List.setIfInBounds_toArray, List.set_cons_zero, List.set_cons_succ, i64_w, i32_w]
    rfl
  refine rowL_ (i := 1) (N := some 92) #[true, true, false, false, false, false, false, false, false] rfl rfl (by kernel_rfl) 58 _ rfl (w2.heap.size) (#[.int .u64 at_, .int .u64 (bufD (cutL l at_ 16)), .int .i64 (sizeD (cutL l at_ 16)), .int .u8 (flagD (cutL l at_ 16)), .int .u8 (restD (cutL l at_ 16))]) (fun _ _ _ h => h) (by rfl) (by rfl) _ _ _ (fun _ h => h.2.1) Try.underlying58 rfl i58 hHeld (a' := ?_) ?_ ?_
  rotate_left
  · simp only [Act.put, List.setIfInBounds_toArray, List.set_cons_zero, List.set_cons_succ, i64_w, i32_w]
    rfl
  refine rowL_ (i := 2) (N := some 93) #[true, true, true, false, false, false, false, false, false] rfl rfl (by kernel_rfl) 27 _ rfl (w.heap.size + 1) (#[.slice R l.length rc]) (fun _ _ _ h => h) (by rfl) (by rfl) _ _ _ (fun _ h => h.2.2) Try.underlying27 rfl i27 hHeld (a' := ?_) ?_ ?_
  rotate_left
  · simp only [Act.put, List.setIfInBounds_toArray, List.set_cons_zero, List.set_cons_succ, i64_w, i32_w]
    rfl
  refine pure_ (i := 4) (N := some 95) (v := ?_) (a' := ?_) #[true, true, true, false, true, false, false, false, false] rfl rfl (by kernel_rfl) (fun _ _ _ h => h) (Or.inl ⟨by rfl, ?_⟩) ?_ ?_
  rotate_left
  · intro w'
    go_simp
    with_reducible rfl
  rotate_left
  · simp only [Act.put, List.setIfInBounds_toArray, List.set_cons_zero, List.set_cons_succ, i64_w, i32_w]
    rfl
  refine one_ (i := 3) (N := some 94) #[true, true, true, true, true, false, false, false, false] rfl rfl (by kernel_rfl) (by decide) (fun K hK => ?_)
  (refine goes_ Try.func36 (by kernel_rfl) rfl #[.agg #[.int .u64 at_, .int .u64 (bufD (cutL l at_ 16)), .int .i64 (sizeD (cutL l at_ 16)), .int .u8 (flagD (cutL l at_ 16)), .int .u8 (restD (cutL l at_ 16))], .agg #[.slice R (l).length rc], .int .u8 1] (by rfl) rfl rfl (by (try simp only [List.map_toArray, List.map_cons, List.map_nil]); first | done | rfl) ?_; (with_reducible refine (done_is at_ (bufD (cutL l at_ 16)) (sizeD (cutL l at_ 16)) (flagD (cutL l at_ 16)) (restD (cutL l at_ 16)) 1 R rc l _ _ (fG HR) HC.out HA.out (by have := HL.out; omega)).mono ?_); rintro e_ wq1 ⟨A_s, c_s, rfl, hc_s, hr_s, hb_⟩; refine ⟨_, rfl, ?_⟩; have HB_ : Aside0 (Below w.heap.size w wq1) := Aside0.mk (below_step (bG HB) hb_); have hzwq1 := hb_.size; (try simp at hzwq1); have on_ := Aside0.mk (box_below hb_ (eG on)); have orr_ := Aside0.mk (box_below hb_ (eG orr)); have pn_ := Aside0.mk (box_below hb_ (eG pn)); have pr_ := Aside0.mk (box_below hb_ (eG pr)); have od_ := Aside0.mk (box_below hb_ (eG od)); have HR_ := Aside0.mk (Kd.F_below (fG HR) hb_); clear HR; have HR := HR_; clear HR_; have hq2_ := Aside0.mk (Kd.F_below (fG hq2) hb_); clear hq2; have hq2 := hq2_; clear hq2_; (try clear on onc onf onl); have on := on_; clear on_; obtain ⟨onc, onf, onl⟩ := cells_of on.out; (try clear orr orrc orrf orrl); have orr := orr_; clear orr_; obtain ⟨orrc, orrf, orrl⟩ := cells_of orr.out; (try clear pn pnc pnf pnl); have pn := pn_; clear pn_; obtain ⟨pnc, pnf, pnl⟩ := cells_of pn.out; (try clear pr prc prf prl); have pr := pr_; clear pr_; obtain ⟨prc, prf, prl⟩ := cells_of pr.out; (try clear od odc odf odl); have od := od_; clear od_; obtain ⟨odc, odf, odl⟩ := cells_of od.out; clear HB hb_; have HB := HB_; clear HB_; have sc := Aside0.mk hc_s; have s := Aside0.mk (Kd.F_bound hr_s); clear hc_s hr_s; skip)
  refine hK.out _ _ ⟨(eG on), (eG od), (eG orr)⟩ (fun hHeld => ?_)
  clear hK K
  refine norm_ (a' := ?_) ?_ ?_
  rotate_left
  · simp only [Act.put, List.setIfInBounds_toArray, List.set_cons_zero, List.set_cons_succ, i64_w, i32_w]
    rfl
  refine rowS_ (i := 5) #[true, true, true, true, true, true, false, false, false] rfl rfl (by kernel_rfl) (by decide) 25 _ _ rfl (w.heap.size + 1 + 1) (C14 (upd (upd c 5 (Int.tmod (wrap64 (c 5 + 1)) (c 4))) 1 (Go.bits .or .i64 (c 1) 1)) (.slice A m cap)) (by rfl) (by rfl) (by rfl) (#[.int .i64 0, .int .i64 0, .int .i64 0, .int .u64 0, .int .i64 0, .int .i64 0, .int .i64 0, .int .u64 0, .int .i64 0, .int .i64 0, .int .i64 0, .int .i64 0, .int .i64 0, .slice none 0 0]) 25 (eG pn) rfl i25 (C14_one _ _ _ _) ?_
  (rintro wq2 ⟨hx_, hk_, hb_, hzz_⟩; have HB_ : Aside0 (Below w.heap.size w wq2) := Aside0.mk (Below.trans (bG HB) (Below.mono hb_ (by first | omega | (simp only [sz_alloc, sz_drew, sz_drewN]; omega)))); have hzwq2 := hzz_; (try simp at hzwq2); clear hzz_; have on_ := Aside0.mk (st_put on.out hk_ (fun h_ => (by repeat (with_reducible first | exact h_ | apply ext_drew | apply ext_drewN | apply ext_alloc | refine blk_far ?_ (by show _ ≠ _; dsimp only; omega) _))) (by omega)); clear on onc onf onl; have on := on_; clear on_; obtain ⟨onc, onf, onl⟩ := cells_of on.out; have orr_ := Aside0.mk (st_put orr.out hk_ (fun h_ => (by repeat (with_reducible first | exact h_ | apply ext_drew | apply ext_drewN | apply ext_alloc | refine blk_far ?_ (by show _ ≠ _; dsimp only; omega) _))) (by omega)); clear orr orrc orrf orrl; have orr := orr_; clear orr_; obtain ⟨orrc, orrf, orrl⟩ := cells_of orr.out; have pr_ := Aside0.mk (st_put pr.out hk_ (fun h_ => (by repeat (with_reducible first | exact h_ | apply ext_drew | apply ext_drewN | apply ext_alloc | refine blk_far ?_ (by show _ ≠ _; dsimp only; omega) _))) (by omega)); clear pr prc prf prl; have pr := pr_; clear pr_; obtain ⟨prc, prf, prl⟩ := cells_of pr.out; have od_ := Aside0.mk (st_put od.out hk_ (fun h_ => (by repeat (with_reducible first | exact h_ | apply ext_drew | apply ext_drewN | apply ext_alloc | refine blk_far ?_ (by show _ ≠ _; dsimp only; omega) _))) (by omega)); clear od odc odf odl; have od := od_; clear od_; obtain ⟨odc, odf, odl⟩ := cells_of od.out; have HR_ := Aside0.mk (Kd.F_step (fG HR) (fun j_ hj_ hl_ => hk_ j_ (by (try dsimp only at hj_); (try simp only [sz_alloc, sz_drew, sz_drewN, sz_set] at hj_); omega))); clear HR; have HR := HR_; clear HR_; have hq2_ := Aside0.mk (Kd.F_step (fG hq2) (fun j_ hj_ hl_ => hk_ j_ (by (try dsimp only at hj_); (try simp only [sz_alloc, sz_drew, sz_drewN, sz_set] at hj_); omega))); clear hq2; have hq2 := hq2_; clear hq2_; have s_ := Aside0.mk (Kd.F_step (fG s) (fun j_ hj_ hl_ => hk_ j_ (by (try dsimp only at hj_); (try simp only [sz_alloc, sz_drew, sz_drewN, sz_set] at hj_); omega))); clear s; have s := s_; clear s_; (try clear pn pnc pnf pnl); have pn := Aside0.mk hx_; obtain ⟨pnc, pnf, pnl⟩ := cells_of pn.out; clear HB hb_ hk_ hx_; have HB := HB_; clear HB_)
  refine ⟨⟨(eG on), (eG od), (eG orr)⟩, ?_⟩
  refine rowS_ (i := 6) #[true, true, true, true, true, true, true, false, false] rfl rfl (by kernel_rfl) (by decide) 27 _ _ rfl (w.heap.size + 1 + 1 + 1) (#[.slice A_s (fillL l (IntKind.u64.wrap (at_ + 10)) [Go.bits .andNot .u8 (flagD (cutL l at_ 16)) 1, restD (cutL l at_ 16), 1, 0]).length c_s]) (by rfl) (by rfl) (by rfl) (#[.slice none 0 0]) 27 (eG pr) rfl i27 (one27 _ _ _) ?_
  (rintro wq3 ⟨hx_, hk_, hb_, hzz_⟩; have HB_ : Aside0 (Below w.heap.size w wq3) := Aside0.mk (Below.trans (bG HB) (Below.mono hb_ (by first | omega | (simp only [sz_alloc, sz_drew, sz_drewN]; omega)))); have hzwq3 := hzz_; (try simp at hzwq3); clear hzz_; have on_ := Aside0.mk (st_put on.out hk_ (fun h_ => (by repeat (with_reducible first | exact h_ | apply ext_drew | apply ext_drewN | apply ext_alloc | refine blk_far ?_ (by show _ ≠ _; dsimp only; omega) _))) (by omega)); clear on onc onf onl; have on := on_; clear on_; obtain ⟨onc, onf, onl⟩ := cells_of on.out; have orr_ := Aside0.mk (st_put orr.out hk_ (fun h_ => (by repeat (with_reducible first | exact h_ | apply ext_drew | apply ext_drewN | apply ext_alloc | refine blk_far ?_ (by show _ ≠ _; dsimp only; omega) _))) (by omega)); clear orr orrc orrf orrl; have orr := orr_; clear orr_; obtain ⟨orrc, orrf, orrl⟩ := cells_of orr.out; have pn_ := Aside0.mk (st_put pn.out hk_ (fun h_ => (by repeat (with_reducible first | exact h_ | apply ext_drew | apply ext_drewN | apply ext_alloc | refine blk_far ?_ (by show _ ≠ _; dsimp only; omega) _))) (by omega)); clear pn pnc pnf pnl; have pn := pn_; clear pn_; obtain ⟨pnc, pnf, pnl⟩ := cells_of pn.out; have od_ := Aside0.mk (st_put od.out hk_ (fun h_ => (by repeat (with_reducible first | exact h_ | apply ext_drew | apply ext_drewN | apply ext_alloc | refine blk_far ?_ (by show _ ≠ _; dsimp only; omega) _))) (by omega)); clear od odc odf odl; have od := od_; clear od_; obtain ⟨odc, odf, odl⟩ := cells_of od.out; have HR_ := Aside0.mk (Kd.F_step (fG HR) (fun j_ hj_ hl_ => hk_ j_ (by (try dsimp only at hj_); (try simp only [sz_alloc, sz_drew, sz_drewN, sz_set] at hj_); omega))); clear HR; have HR := HR_; clear HR_; have hq2_ := Aside0.mk (Kd.F_step (fG hq2) (fun j_ hj_ hl_ => hk_ j_ (by (try dsimp only at hj_); (try simp only [sz_alloc, sz_drew, sz_drewN, sz_set] at hj_); omega))); clear hq2; have hq2 := hq2_; clear hq2_; have s_ := Aside0.mk (Kd.F_step (fG s) (fun j_ hj_ hl_ => hk_ j_ (by (try dsimp only at hj_); (try simp only [sz_alloc, sz_drew, sz_drewN, sz_set] at hj_); omega))); clear s; have s := s_; clear s_; (try clear pr prc prf prl); have pr := Aside0.mk hx_; obtain ⟨prc, prf, prl⟩ := cells_of pr.out; clear HB hb_ hk_ hx_; have HB := HB_; clear HB_)
  refine ⟨⟨(eG on), (eG od), (eG orr)⟩, ?_⟩
  refine pure_ (i := 7) (N := some 6) (v := ?_) (a' := ?_) #[true, true, true, true, true, true, true, true, false] rfl rfl (by kernel_rfl) (fun _ _ _ h => h) (Or.inl ⟨by rfl, ?_⟩) ?_ ?_
  rotate_left
  · intro w'
    go_simp
    with_reducible rfl
  rotate_left
  · simp only [Act.put, List.setIfInBounds_toArray, List.set_cons_zero, List.set_cons_succ, i64_w, i32_w]
    rfl
  refine pure_ (i := 8) (N := some 7) (v := ?_) (a' := ?_) #[true, true, true, true, true, true, true, true, true] rfl rfl (by kernel_rfl) (fun _ _ _ h => h) (Or.inl ⟨by rfl, ?_⟩) ?_ ?_
  rotate_left
  · intro w'
    go_simp
    with_reducible rfl
  rotate_left
  · simp only [Act.put, List.setIfInBounds_toArray, List.set_cons_zero, List.set_cons_succ, i64_w, i32_w]
    rfl
  refine done_ (by kernel_rfl) ?_
  go_wp2
  refine bodyPost_ret (results_cctt rfl _ _ (w.heap.size + 1 + 1) (w.heap.size + 1 + 1 + 1) 25 27 (C14 (upd (upd c 5 (Int.tmod (wrap64 (c 5 + 1)) (c 4))) 1 (Go.bits .or .i64 (c 1) 1)) (.slice A m cap)) #[.slice A_s (fillL l (IntKind.u64.wrap (at_ + 10)) [Go.bits .andNot .u8 (flagD (cutL l at_ 16)) 1, restD (cutL l at_ 16), 1, 0]).length c_s] (0, 0) (0, 0) _ _ rfl rfl pn.out pr.out Try.underlying25 rfl i25 Try.underlying27 rfl i27) rfl ?_
  exact ⟨A_s, c_s, some ⟨qb, qo, none⟩, qc, rfl, sc.out, (by refine F_res (ok := ?_) ?_ ?_; rotate_left; (repeat (with_reducible first | exact s.out | apply Kd.F_drew | apply Kd.F_drewN | apply Kd.F_alloc | refine Kd.F_far ?_ ?_ _)); all_goals (intro j_ hj_; (try dsimp only at hj_); (try dsimp only); (try simp only [sz_alloc, sz_drew, sz_drewN, sz_set] at hj_); first | omega | exact .inl hj_.1 | exact .inl hj_ | exact .inr (by omega) | (rcases hj_ with hj_ | hj_; exact .inl hj_.1; exact .inr (by omega)) | (rcases hj_ with hj_ | hj_; exact .inl hj_; exact .inr (by omega)) | (rcases hj_.1 with hk_ | hk_; (first | exact .inl hk_.1 | exact .inl hk_); exact .inr (by omega)))), hq1.out, (by refine F_res (ok := ?_) (fG hq2) ?_; intro j_ hj_; omega), (bG HB)⟩
end Go.Proofs.Ytdblpflepfcnjaa.Q
end
section
/- nic.Receive: its ways that end early. -/
namespace Go.Proofs.Ytdblpflepfcnjaa.Q
open Go.RowKit Go.Proofs.YtdblpflepfcnjaaW.PrintWords Go.Proofs.YtdblpflepfcnjaaW.PrintLast Go.Proofs.YtdblpflepfcnjaaW.PrintMore Go.Proofs.Ytdblpflepfcnjaa.L
attribute [local go_sem] Instr.field part asAgg lt_step max2_int min2_int max_two min_two max_three min_three max_four min_four lt_0_1 lt_0_2 lt_1_2 lt_0_3 lt_1_3 lt_2_3 lt_0_4 lt_1_4 lt_2_4 lt_3_4 lt_0_5 lt_1_5 lt_2_5 lt_3_5 lt_4_5 lt_0_6 lt_1_6 lt_2_6 lt_3_6 lt_4_6 lt_5_6 lt_0_7 lt_1_7 lt_2_7 lt_3_7 lt_4_7 lt_5_7 lt_6_7 lt_0_8 lt_1_8 lt_2_8 lt_3_8 lt_4_8 lt_5_8 lt_6_8 lt_7_8
set_option linter.unusedVariables false
set_option linter.unusedSimpArgs false
def RecvPost (A : Option Addr) (m cap : Nat) (ok : Nat → Prop) (w : World) (c : Nat → Int) (l : List Int) (b : Bool) (e : Ending) (w' : World) : Prop :=
  ∃ A' c', e = .returned (.tuple #[.agg (C14 c (.slice A m cap)), .agg #[.slice A' l.length c'], .bool b]) ∧ l.length ≤ c' ∧ Kd.F (Kd.int .u8) w' (fun j => ok j ∨ w.heap.size ≤ j) A' l.length l ∧ Below w.heap.size w w'
set_option maxHeartbeats 1600000 in
set_option maxRecDepth 100000 in
theorem recv_no (A : Option Addr) (cap : Nat) (mac : List Int) (R : Option Addr) (rc : Nat) (l : List Int) (FA : Option Addr) (fc : Nat) (fr : List Int) (c : Nat → Int) (w : World) (okm ok okf : Nat → Prop) (hm : Kd.F (Kd.int .u8) w okm A mac.length mac) (hmc : mac.length ≤ cap) (hr : Kd.F (Kd.int .u8) w ok R l.length l) (hc : l.length ≤ rc) (hf : Kd.F (Kd.int .u8) w okf FA fr.length fr) (hfc : fr.length ≤ fc) (hk : okC c mac.length = true) (hwt : wantsZ c mac fr = false) :
    Calls Try.prog 27 #[.agg (C14 c (.slice A mac.length cap)), .agg #[.slice R l.length rc], .slice FA fr.length fc] w (RecvPost A mac.length cap ok w (dropC c) l false) := by
  have HB := Aside0.mk (Below.refl w.heap.size w)
  have HR := Aside0.mk (Kd.F_bound hr)
  have HM := Aside0.mk (Kd.F_bound hm)
  have HF := Aside0.mk (Kd.F_bound hf)
  have HC := Aside0.mk hc
  have HMC := Aside0.mk hmc
  have HFC := Aside0.mk hfc
  have HK := Aside0.mk hk
  have hu := Try.underlying25
  have hu7 := Try.underlying27
  have HWT := Aside0.mk hwt
  clear hwt
  clear hm hmc hr hc hf hfc hk
  go_enter Try.func27, Try.ntmps27
  go_upto_region 1 with fail
  obtain ⟨wa, hwa, on0, or0, pn0, pr0, hb_, hz0⟩ := letter4 w (.cells (C14 c (.slice A mac.length cap)) 25 (0, 0)) (.cells #[.slice R l.length rc] 27 (0, 0)) (.cells #[.int .i64 0, .int .i64 0, .int .i64 0, .int .u64 0, .int .i64 0, .int .i64 0, .int .i64 0, .int .u64 0, .int .i64 0, .int .i64 0, .int .i64 0, .int .i64 0, .int .i64 0, .slice none 0 0] 25 (0, 0)) (.cells #[.slice none 0 0] 27 (0, 0))
  rw [hwa]
  clear hwa
  have hzwa := Nat.le_of_eq hz0.symm
  clear hz0
  have on := Aside0.mk on0
  have orr := Aside0.mk or0
  have pn := Aside0.mk pn0
  have pr := Aside0.mk pr0
  clear on0 or0 pn0 pr0
  obtain ⟨onc, onf, onl⟩ := cells_of on.out
  obtain ⟨orrc, orrf, orrl⟩ := cells_of orr.out
  obtain ⟨pnc, pnf, pnl⟩ := cells_of pn.out
  obtain ⟨prc, prf, prl⟩ := cells_of pr.out
  have HB_ : Aside0 (Below w.heap.size w wa) := ⟨hb_⟩
  have HR_ := Aside0.mk (Kd.F_below HR.out hb_)
  have HM_ := Aside0.mk (Kd.F_below HM.out hb_)
  have HF_ := Aside0.mk (Kd.F_below HF.out hb_)
  clear HB HR HM HF hb_; have HB := HB_; have HR := HR_; have HM := HM_; have HF := HF_; clear HB_ HR_ HM_ HF_
  go_wp2_with (first | ((with_reducible refine gate_dst (N := 11) rfl ?_); (try (refine gate_guard (by rfl) ?_; dsimp only)); refine wpList_load_row rfl 25 _ rfl _ (by rfl) _ (C14 c (.slice A mac.length cap)) _ _ (eG on) Try.underlying25 rfl i25 ?_))
  (go_at_call 9; (with_reducible refine (Check_of true c A mac.length cap _ HK.out).mono ?_); rintro e_ w1 ⟨rfl, hb_⟩; have HB_ : Aside0 (Below w.heap.size w w1) := Aside0.mk (below_step (bG HB) hb_); have hzw1 := hb_.size; (try simp at hzw1); have on_ := Aside0.mk (box_below hb_ (eG on)); have orr_ := Aside0.mk (box_below hb_ (eG orr)); have pn_ := Aside0.mk (box_below hb_ (eG pn)); have pr_ := Aside0.mk (box_below hb_ (eG pr)); have HR_ := Aside0.mk (Kd.F_below (fG HR) hb_); clear HR; have HR := HR_; clear HR_; have HM_ := Aside0.mk (Kd.F_below (fG HM) hb_); clear HM; have HM := HM_; clear HM_; have HF_ := Aside0.mk (Kd.F_below (fG HF) hb_); clear HF; have HF := HF_; clear HF_; (try clear on onc onf onl); have on := on_; clear on_; obtain ⟨onc, onf, onl⟩ := cells_of on.out; (try clear orr orrc orrf orrl); have orr := orr_; clear orr_; obtain ⟨orrc, orrf, orrl⟩ := cells_of orr.out; (try clear pn pnc pnf pnl); have pn := pn_; clear pn_; obtain ⟨pnc, pnf, pnl⟩ := cells_of pn.out; (try clear pr prc prf prl); have pr := pr_; clear pr_; obtain ⟨prc, prf, prl⟩ := cells_of pr.out; clear HB hb_; have HB := HB_; clear HB_)
  go_wp2_with (first | ((with_reducible refine gate_dst (N := 16) rfl ?_); (try (refine gate_guard (by rfl) ?_; dsimp only)); refine wpList_load_row rfl 25 _ rfl _ (by rfl) _ (C14 c (.slice A mac.length cap)) _ _ (eG on) Try.underlying25 rfl i25 ?_))
  (go_at_call 45; (with_reducible refine (wants_of false A cap mac FA fc fr c _ _ _ (fG HM) HMC.out (fG HF) HFC.out HWT.out).mono ?_); rintro e_ w2 ⟨rfl, hb_⟩; have HB_ : Aside0 (Below w.heap.size w w2) := Aside0.mk (below_step (bG HB) hb_); have hzw2 := hb_.size; (try simp at hzw2); have on_ := Aside0.mk (box_below hb_ (eG on)); have orr_ := Aside0.mk (box_below hb_ (eG orr)); have pn_ := Aside0.mk (box_below hb_ (eG pn)); have pr_ := Aside0.mk (box_below hb_ (eG pr)); have HR_ := Aside0.mk (Kd.F_below (fG HR) hb_); clear HR; have HR := HR_; clear HR_; have HF_ := Aside0.mk (Kd.F_below (fG HF) hb_); clear HF; have HF := HF_; clear HF_; (try clear on onc onf onl); have on := on_; clear on_; obtain ⟨onc, onf, onl⟩ := cells_of on.out; (try clear orr orrc orrf orrl); have orr := orr_; clear orr_; obtain ⟨orrc, orrf, orrl⟩ := cells_of orr.out; (try clear pn pnc pnf pnl); have pn := pn_; clear pn_; obtain ⟨pnc, pnf, pnl⟩ := cells_of pn.out; (try clear pr prc prf prl); have pr := pr_; clear pr_; obtain ⟨prc, prf, prl⟩ := cells_of pr.out; clear HB hb_; have HB := HB_; clear HB_)
  go_upto_region 4 with fail
  refine start_ (n := 6) (S := fun w' => w'.heap[w.heap.size]? = some (.cells (C14 c (.slice A mac.length cap)) 25 (0, 0)) ∧ w'.heap[w.heap.size + 1]? = some (.cells (#[.slice R l.length rc]) 27 (0, 0))) (ds := []) #[false, false, false, false, false, false] (by kernel_rfl) rfl rfl ⟨(eG on), (eG orr)⟩ (fun hHeld => ?_)
  refine rowL_ (i := 0) (N := some 20) #[true, false, false, false, false, false] rfl rfl (by kernel_rfl) 25 _ rfl (w.heap.size) (C14 c (.slice A mac.length cap)) (fun _ _ _ h => h) (by rfl) (by rfl) _ _ _ (fun _ h => h.1) Try.underlying25 rfl i25 hHeld (a' := ?_) ?_ ?_
  rotate_left
  · simp only [Act.put, List.setIfInBounds_toArray, List.set_cons_zero, List.set_cons_succ, i64_w, i32_w]
    rfl
  refine rowL_ (i := 2) (N := some 22) #[true, false, true, false, false, false] rfl rfl (by kernel_rfl) 27 _ rfl (w.heap.size + 1) (#[.slice R l.length rc]) (fun _ _ _ h => h) (by rfl) (by rfl) _ _ _ (fun _ h => h.2) Try.underlying27 rfl i27 hHeld (a' := ?_) ?_ ?_
  rotate_left
  · simp only [Act.put, List.setIfInBounds_toArray, List.set_cons_zero, List.set_cons_succ, i64_w, i32_w]
    rfl
  refine one_ (i := 1) (N := some 21) #[true, true, true, false, false, false] rfl rfl (by kernel_rfl) (by decide) (fun K hK => ?_)
  (refine goes_ Try.func46 (by kernel_rfl) rfl #[.agg (C14 (c) (.slice A mac.length cap))] (by rfl) rfl rfl (by (try simp only [List.map_toArray, List.map_cons, List.map_nil]); first | done | rfl) ?_; (with_reducible refine (drops_is (c) A mac.length cap _).mono ?_); rintro e_ wq1 ⟨rfl, hb_⟩; refine ⟨_, rfl, ?_⟩; have HB_ : Aside0 (Below w.heap.size w wq1) := Aside0.mk (below_step (bG HB) hb_); have hzwq1 := hb_.size; (try simp at hzwq1); have on_ := Aside0.mk (box_below hb_ (eG on)); have orr_ := Aside0.mk (box_below hb_ (eG orr)); have pn_ := Aside0.mk (box_below hb_ (eG pn)); have pr_ := Aside0.mk (box_below hb_ (eG pr)); have HR_ := Aside0.mk (Kd.F_below (fG HR) hb_); clear HR; have HR := HR_; clear HR_; (try clear on onc onf onl); have on := on_; clear on_; obtain ⟨onc, onf, onl⟩ := cells_of on.out; (try clear orr orrc orrf orrl); have orr := orr_; clear orr_; obtain ⟨orrc, orrf, orrl⟩ := cells_of orr.out; (try clear pn pnc pnf pnl); have pn := pn_; clear pn_; obtain ⟨pnc, pnf, pnl⟩ := cells_of pn.out; (try clear pr prc prf prl); have pr := pr_; clear pr_; obtain ⟨prc, prf, prl⟩ := cells_of pr.out; clear HB hb_; have HB := HB_; clear HB_)
  refine hK.out _ _ ⟨(eG on), (eG orr)⟩ (fun hHeld => ?_)
  clear hK K
  refine norm_ (a' := ?_) ?_ ?_
  rotate_left
  · simp only [Act.put, List.setIfInBounds_toArray, List.set_cons_zero, List.set_cons_succ, i64_w, i32_w]
    rfl
  refine rowS_ (i := 3) #[true, true, true, true, false, false] rfl rfl (by kernel_rfl) (by decide) 25 _ _ rfl (w.heap.size + 1 + 1) (C14 (dropC c) (.slice A mac.length cap)) (by rfl) (by rfl) (by rfl) (#[.int .i64 0, .int .i64 0, .int .i64 0, .int .u64 0, .int .i64 0, .int .i64 0, .int .i64 0, .int .u64 0, .int .i64 0, .int .i64 0, .int .i64 0, .int .i64 0, .int .i64 0, .slice none 0 0]) 25 (eG pn) rfl i25 (C14_one _ _ _ _) ?_
  (rintro wq2 ⟨hx_, hk_, hb_, hzz_⟩; have HB_ : Aside0 (Below w.heap.size w wq2) := Aside0.mk (Below.trans (bG HB) (Below.mono hb_ (by first | omega | (simp only [sz_alloc, sz_drew, sz_drewN]; omega)))); have hzwq2 := hzz_; (try simp at hzwq2); clear hzz_; have on_ := Aside0.mk (st_put on.out hk_ (fun h_ => (by repeat (with_reducible first | exact h_ | apply ext_drew | apply ext_drewN | apply ext_alloc | refine blk_far ?_ (by show _ ≠ _; dsimp only; omega) _))) (by omega)); clear on onc onf onl; have on := on_; clear on_; obtain ⟨onc, onf, onl⟩ := cells_of on.out; have orr_ := Aside0.mk (st_put orr.out hk_ (fun h_ => (by repeat (with_reducible first | exact h_ | apply ext_drew | apply ext_drewN | apply ext_alloc | refine blk_far ?_ (by show _ ≠ _; dsimp only; omega) _))) (by omega)); clear orr orrc orrf orrl; have orr := orr_; clear orr_; obtain ⟨orrc, orrf, orrl⟩ := cells_of orr.out; have pr_ := Aside0.mk (st_put pr.out hk_ (fun h_ => (by repeat (with_reducible first | exact h_ | apply ext_drew | apply ext_drewN | apply ext_alloc | refine blk_far ?_ (by show _ ≠ _; dsimp only; omega) _))) (by omega)); clear pr prc prf prl; have pr := pr_; clear pr_; obtain ⟨prc, prf, prl⟩ := cells_of pr.out; have HR_ := Aside0.mk (Kd.F_step (fG HR) (fun j_ hj_ hl_ => hk_ j_ (by (try dsimp only at hj_); (try simp only [sz_alloc, sz_drew, sz_drewN, sz_set] at hj_); omega))); clear HR; have HR := HR_; clear HR_; (try clear pn pnc pnf pnl); have pn := Aside0.mk hx_; obtain ⟨pnc, pnf, pnl⟩ := cells_of pn.out; clear HB hb_ hk_ hx_; have HB := HB_; clear HB_)
  refine ⟨⟨(eG on), (eG orr)⟩, ?_⟩
  refine rowS_ (i := 4) #[true, true, true, true, true, false] rfl rfl (by kernel_rfl) (by decide) 27 _ _ rfl (w.heap.size + 1 + 1 + 1) (#[.slice R l.length rc]) (by rfl) (by rfl) (by rfl) (#[.slice none 0 0]) 27 (eG pr) rfl i27 (one27 _ _ _) ?_
  (rintro wq3 ⟨hx_, hk_, hb_, hzz_⟩; have HB_ : Aside0 (Below w.heap.size w wq3) := Aside0.mk (Below.trans (bG HB) (Below.mono hb_ (by first | omega | (simp only [sz_alloc, sz_drew, sz_drewN]; omega)))); have hzwq3 := hzz_; (try simp at hzwq3); clear hzz_; have on_ := Aside0.mk (st_put on.out hk_ (fun h_ => (by repeat (with_reducible first | exact h_ | apply ext_drew | apply ext_drewN | apply ext_alloc | refine blk_far ?_ (by show _ ≠ _; dsimp only; omega) _))) (by omega)); clear on onc onf onl; have on := on_; clear on_; obtain ⟨onc, onf, onl⟩ := cells_of on.out; have orr_ := Aside0.mk (st_put orr.out hk_ (fun h_ => (by repeat (with_reducible first | exact h_ | apply ext_drew | apply ext_drewN | apply ext_alloc | refine blk_far ?_ (by show _ ≠ _; dsimp only; omega) _))) (by omega)); clear orr orrc orrf orrl; have orr := orr_; clear orr_; obtain ⟨orrc, orrf, orrl⟩ := cells_of orr.out; have pn_ := Aside0.mk (st_put pn.out hk_ (fun h_ => (by repeat (with_reducible first | exact h_ | apply ext_drew | apply ext_drewN | apply ext_alloc | refine blk_far ?_ (by show _ ≠ _; dsimp only; omega) _))) (by omega)); clear pn pnc pnf pnl; have pn := pn_; clear pn_; obtain ⟨pnc, pnf, pnl⟩ := cells_of pn.out; have HR_ := Aside0.mk (Kd.F_step (fG HR) (fun j_ hj_ hl_ => hk_ j_ (by (try dsimp only at hj_); (try simp only [sz_alloc, sz_drew, sz_drewN, sz_set] at hj_); omega))); clear HR; have HR := HR_; clear HR_; (try clear pr prc prf prl); have pr := Aside0.mk hx_; obtain ⟨prc, prf, prl⟩ := cells_of pr.out; clear HB hb_ hk_ hx_; have HB := HB_; clear HB_)
  refine ⟨⟨(eG on), (eG orr)⟩, ?_⟩
  refine pure_ (i := 5) (N := some 8) (v := ?_) (a' := ?_) #[true, true, true, true, true, true] rfl rfl (by kernel_rfl) (fun _ _ _ h => h) (Or.inl ⟨by rfl, ?_⟩) ?_ ?_
  rotate_left
  · intro w'
    go_simp
    with_reducible rfl
  rotate_left
  · simp only [Act.put, List.setIfInBounds_toArray, List.set_cons_zero, List.set_cons_succ, i64_w, i32_w]
    rfl
  refine done_ (by kernel_rfl) ?_
  go_wp2
  refine bodyPost_ret (results_cct rfl _ _ (w.heap.size + 1 + 1) (w.heap.size + 1 + 1 + 1) 25 27 (C14 (dropC c) (.slice A mac.length cap)) #[.slice R l.length rc] (0, 0) (0, 0) _ _ rfl rfl pn.out pr.out Try.underlying25 rfl i25 Try.underlying27 rfl i27) rfl ?_
  exact ⟨R, rc, rfl, HC.out, (by refine F_res (ok := ?_) ?_ ?_; rotate_left; (repeat (with_reducible first | exact HR.out | apply Kd.F_drew | apply Kd.F_drewN | apply Kd.F_alloc | refine Kd.F_far ?_ ?_ _)); all_goals (intro j_ hj_; (try dsimp only at hj_); (try dsimp only); (try simp only [sz_alloc, sz_drew, sz_drewN, sz_set] at hj_); first | omega | exact .inl hj_.1 | exact .inl hj_ | exact .inr (by omega) | (rcases hj_ with hj_ | hj_; exact .inl hj_.1; exact .inr (by omega)) | (rcases hj_ with hj_ | hj_; exact .inl hj_; exact .inr (by omega)) | (rcases hj_.1 with hk_ | hk_; (first | exact .inl hk_.1 | exact .inl hk_); exact .inr (by omega)))), (bG HB)⟩
end Go.Proofs.Ytdblpflepfcnjaa.Q
end
section
-- Ytdblpflepfcnjaa: written by a program for this claim (several laws of one seat at once)
namespace Go.Proofs.Ytdblpflepfcnjaa.Q
open Go.RowKit Go.Proofs.YtdblpflepfcnjaaW.PrintWords Go.Proofs.YtdblpflepfcnjaaW.PrintLast Go.Proofs.YtdblpflepfcnjaaW.PrintMore
attribute [local go_sem] max2_int min2_int max_two min_two max_three min_three max_four min_four   -- for this text's walks alone
set_option linter.unusedVariables false
set_option linter.unusedSimpArgs false

def drawbridgeref07_Bytes.f (l0_0 : List Int) (a1 : Int) (a2 : Int) : Option (List Int × Bool) := (drawbridgeref07_Inside.f l0_0 a1 a2).bind fun t145 => (if t145 = true then ((some (([] : List Int) : List Int)).bind fun y146 => (if 0 ≤ (wrap64 (IntKind.u64.wrap (a1 - 2147483648))) then (if (wrap64 (IntKind.u64.wrap (a1 - 2147483648))) ≤ (wrap64 ((wrap64 (IntKind.u64.wrap (a1 - 2147483648))) + a2)) then (if (wrap64 ((wrap64 (IntKind.u64.wrap (a1 - 2147483648))) + a2)) ≤ (l0_0.length : Int) then (if y146.length + ((l0_0.take ((wrap64 ((wrap64 (IntKind.u64.wrap (a1 - 2147483648))) + a2)) : Int).toNat).drop ((wrap64 (IntKind.u64.wrap (a1 - 2147483648))) : Int).toNat).length < 140737488355328 then (some ((y146 ++ ((l0_0.take ((wrap64 ((wrap64 (IntKind.u64.wrap (a1 - 2147483648))) + a2)) : Int).toNat).drop ((wrap64 (IntKind.u64.wrap (a1 - 2147483648))) : Int).toNat)), true)) else (none)) else (none)) else (none)) else (none))) else (some (([] : List Int), false)))
set_option maxHeartbeats 8000000 in
set_option maxRecDepth 100000 in
theorem drawbridgeref07_Bytes.calls (A0_0 : Option Addr) (c0_0 : Nat) (l0_0 : List Int) (a1 : Int) (a2 : Int) (r1 : List Int) (r2 : Bool) (w : World) (hr0_0 : Kd.C (Kd.int .u8) w A0_0 l0_0.length l0_0) (hc0_0 : l0_0.length ≤ c0_0) (h : drawbridgeref07_Bytes.f l0_0 a1 a2 = some (r1, r2)) :
    Calls Try.prog 37 #[.agg #[.slice A0_0 l0_0.length c0_0], .int .u64 a1, .int .i64 a2] w fun e w' => ∃ v0_ : Value, e = .returned (.tuple #[v0_, .bool r2]) ∧ Kd.R (Kd.int .u8) 5 w' w.heap.size (fun _ => True) v0_ r1 ∧ Below w.heap.size w w' := by
  have hu27 := Try.underlying27
  have HR0_0 := Aside0.mk hr0_0
  have HC0_0 := Aside0.mk hc0_0
  clear hr0_0 hc0_0
  have HB := Aside0.mk (Below.refl w.heap.size w)
  have H : ((drawbridgeref07_Inside.f l0_0 a1 a2).bind fun t145 => (if t145 = true then ((some (([] : List Int) : List Int)).bind fun y146 => (if 0 ≤ (wrap64 (IntKind.u64.wrap (a1 - 2147483648))) then (if (wrap64 (IntKind.u64.wrap (a1 - 2147483648))) ≤ (wrap64 ((wrap64 (IntKind.u64.wrap (a1 - 2147483648))) + a2)) then (if (wrap64 ((wrap64 (IntKind.u64.wrap (a1 - 2147483648))) + a2)) ≤ (l0_0.length : Int) then (if y146.length + ((l0_0.take ((wrap64 ((wrap64 (IntKind.u64.wrap (a1 - 2147483648))) + a2)) : Int).toNat).drop ((wrap64 (IntKind.u64.wrap (a1 - 2147483648))) : Int).toNat).length < 140737488355328 then (some ((y146 ++ ((l0_0.take ((wrap64 ((wrap64 (IntKind.u64.wrap (a1 - 2147483648))) + a2)) : Int).toNat).drop ((wrap64 (IntKind.u64.wrap (a1 - 2147483648))) : Int).toNat)), true)) else (none)) else (none)) else (none)) else (none))) else (some (([] : List Int), false)))) = some (r1, r2) := h
  clear h
  replace H := Option.bind_eq_some_iff.mp H
  obtain ⟨t145, A40, H⟩ := H
  replace H : (if t145 = true then ((some (([] : List Int) : List Int)).bind fun y146 => (if 0 ≤ (wrap64 (IntKind.u64.wrap (a1 - 2147483648))) then (if (wrap64 (IntKind.u64.wrap (a1 - 2147483648))) ≤ (wrap64 ((wrap64 (IntKind.u64.wrap (a1 - 2147483648))) + a2)) then (if (wrap64 ((wrap64 (IntKind.u64.wrap (a1 - 2147483648))) + a2)) ≤ (l0_0.length : Int) then (if y146.length + ((l0_0.take ((wrap64 ((wrap64 (IntKind.u64.wrap (a1 - 2147483648))) + a2)) : Int).toNat).drop ((wrap64 (IntKind.u64.wrap (a1 - 2147483648))) : Int).toNat).length < 140737488355328 then (some ((y146 ++ ((l0_0.take ((wrap64 ((wrap64 (IntKind.u64.wrap (a1 - 2147483648))) + a2)) : Int).toNat).drop ((wrap64 (IntKind.u64.wrap (a1 - 2147483648))) : Int).toNat)), true)) else (none)) else (none)) else (none)) else (none))) else (some (([] : List Int), false))) = some (r1, r2) := H
  have A4 := Aside0.mk A40
  clear A40
  by_cases c5 : t145 = true
  · subst c5
    have H1 : ((some (([] : List Int) : List Int)).bind fun y146 => (if 0 ≤ (wrap64 (IntKind.u64.wrap (a1 - 2147483648))) then (if (wrap64 (IntKind.u64.wrap (a1 - 2147483648))) ≤ (wrap64 ((wrap64 (IntKind.u64.wrap (a1 - 2147483648))) + a2)) then (if (wrap64 ((wrap64 (IntKind.u64.wrap (a1 - 2147483648))) + a2)) ≤ (l0_0.length : Int) then (if y146.length + ((l0_0.take ((wrap64 ((wrap64 (IntKind.u64.wrap (a1 - 2147483648))) + a2)) : Int).toNat).drop ((wrap64 (IntKind.u64.wrap (a1 - 2147483648))) : Int).toNat).length < 140737488355328 then (some ((y146 ++ ((l0_0.take ((wrap64 ((wrap64 (IntKind.u64.wrap (a1 - 2147483648))) + a2)) : Int).toNat).drop ((wrap64 (IntKind.u64.wrap (a1 - 2147483648))) : Int).toNat)), true)) else (none)) else (none)) else (none)) else (none))) = some (r1, r2) := by rw [if_pos rfl] at H; exact H
    clear H
    have H := H1
    clear H1
    obtain ⟨y146, hy146⟩ : ∃ y_ : List Int, y_ = (([] : List Int)) := ⟨_, rfl⟩
    replace H : (if 0 ≤ (wrap64 (IntKind.u64.wrap (a1 - 2147483648))) then (if (wrap64 (IntKind.u64.wrap (a1 - 2147483648))) ≤ (wrap64 ((wrap64 (IntKind.u64.wrap (a1 - 2147483648))) + a2)) then (if (wrap64 ((wrap64 (IntKind.u64.wrap (a1 - 2147483648))) + a2)) ≤ (l0_0.length : Int) then (if y146.length + ((l0_0.take ((wrap64 ((wrap64 (IntKind.u64.wrap (a1 - 2147483648))) + a2)) : Int).toNat).drop ((wrap64 (IntKind.u64.wrap (a1 - 2147483648))) : Int).toNat).length < 140737488355328 then (some ((y146 ++ ((l0_0.take ((wrap64 ((wrap64 (IntKind.u64.wrap (a1 - 2147483648))) + a2)) : Int).toNat).drop ((wrap64 (IntKind.u64.wrap (a1 - 2147483648))) : Int).toNat)), true)) else (none)) else (none)) else (none)) else (none)) = some (r1, r2) := by first | (rw [hy146]; with_reducible exact H) | (have H2_ := (Option.bind_some _ _).symm.trans H; rw [hy146]; with_reducible exact H2_) | (have H2_ := (Option.bind_some _ _).symm.trans H; with_reducible exact H2_) | with_reducible exact H | (rw [hy146]; exact H) | exact H
    have Ny146 := Aside0.mk hy146
    clear hy146
    obtain ⟨ji6, hji6⟩ : ∃ j_ : Int, (wrap64 (IntKind.u64.wrap (a1 - 2147483648))) = j_ := ⟨_, rfl⟩
    replace H : (if 0 ≤ (ji6) then (if (ji6) ≤ (wrap64 ((ji6) + a2)) then (if (wrap64 ((ji6) + a2)) ≤ (l0_0.length : Int) then (if y146.length + ((l0_0.take ((wrap64 ((ji6) + a2)) : Int).toNat).drop ((ji6) : Int).toNat).length < 140737488355328 then (some ((y146 ++ ((l0_0.take ((wrap64 ((ji6) + a2)) : Int).toNat).drop ((ji6) : Int).toNat)), true)) else (none)) else (none)) else (none)) else (none)) = some (r1, r2) := by first | (rw [hji6] at H; exact H) | (simp only [hji6] at H ⊢; exact H)
    (try rw [hji6] at A4)
    have hji6w : (IntKind.i64.wrap (IntKind.u64.wrap (a1 - 2147483648))) = ji6 := (i64_w _).trans hji6
    by_cases c7 : 0 ≤ (ji6)
    · rw [if_pos c7] at H
      have c7b0 := eq_true c7
      have c7b1 : decide (0 ≤ (ji6)) = true := decide_eq_true c7
      clear c7
      by_cases c8 : (ji6) ≤ (wrap64 ((ji6) + a2))
      · rw [if_pos c8] at H
        have c8b0 := eq_true c8
        have c8b1 : decide ((ji6) ≤ (wrap64 ((ji6) + a2))) = true := decide_eq_true c8
        by_cases c9 : (wrap64 ((ji6) + a2)) ≤ (l0_0.length : Int)
        · rw [if_pos c9] at H
          have c9b0 := eq_true c9
          have c9b1 : decide ((wrap64 ((ji6) + a2)) ≤ (l0_0.length : Int)) = true := decide_eq_true c9
          by_cases c10 : y146.length + ((l0_0.take ((wrap64 ((ji6) + a2)) : Int).toNat).drop ((ji6) : Int).toNat).length < 140737488355328
          · rw [if_pos c10] at H
            have LMc10 := Aside0.mk c10
            clear c10
            obtain ⟨y150, hy150⟩ : ∃ y_ : List Int, y_ = (y146 ++ ((l0_0.take ((wrap64 ((ji6) + a2)) : Int).toNat).drop ((ji6) : Int).toNat)) := ⟨_, rfl⟩
            replace H : (some (y150, true)) = some (r1, r2) := by first | (rw [hy150]; with_reducible exact H) | (have H2_ := (Option.bind_some _ _).symm.trans H; rw [hy150]; with_reducible exact H2_) | (have H2_ := (Option.bind_some _ _).symm.trans H; with_reducible exact H2_) | with_reducible exact H | (rw [hy150]; exact H) | exact H
            have Ny150 := Aside0.mk hy150
            clear hy150
            simp only [Option.some.injEq, Prod.mk.injEq] at H
            obtain ⟨rfl, rfl⟩ := H
            go_enter Try.func37, Try.ntmps37
            go_wp2_with (first | ((with_reducible refine gate_dst (N := 3) rfl ?_); refine box_event ?hg (N := 3) ?hd (cs := #[.slice A0_0 l0_0.length c0_0]) (t := 27) ?hr ?_; (case hd => rfl); (case hg => rfl); (case hr => first | (go_simp; done) | (go_simp; rfl)); intro gb144 hg w11 hbox hb; have n0_ := Aside0.mk (below_step (by repeat (first | (with_reducible first | exact HB.out | apply below_alloc | apply pw_below_drewN | apply below_drew1) | exact HB.out)) hb); have n1_ := Aside0.mk (hbox); have n2_ := Aside0.mk ((by rw [hg]; exact (below_size (by repeat (first | (with_reducible first | exact HB.out | apply below_alloc | apply pw_below_drewN | apply below_drew1) | exact HB.out))) : w.heap.size ≤ gb144)); have n3_ := Aside0.mk ((by rw [hg]; exact (below_size (by repeat (first | (with_reducible first | exact HB.out | apply below_alloc | apply pw_below_drewN | apply below_drew1) | exact HB.out))) : w.heap.size ≤ gb144)); clear HB; have HB := n0_; have BK144 := n1_; have GW144 := n2_; have GE144 := n3_; clear n0_ n1_ n2_ n3_; clear hb hbox hg; have hcz12_0 : w11.cell? ⟨gb144, 0, none⟩ = some (.slice A0_0 l0_0.length c0_0) := (blk_cell BK144.out 0).trans rfl; have hfz12_0 := blk_frozen BK144.out 0) | ((with_reducible refine gate_callee (f := 52) rfl ?_); refine goesL_ (some 12) rfl rfl Try.func52 (by kernel_rfl) rfl #[.agg #[.slice A0_0 l0_0.length c0_0], .int .u64 a1, .int .i64 a2] rfl (by (try simp only [List.map_toArray, List.map_cons, List.map_nil]); first | done | rfl | (simp only [List.length_drop, List.length_take]; rfl)) ?_; (with_reducible refine (drawbridgeref07_Inside.calls _ _ l0_0 a1 a2 true _ ?side1 ?side2 A4.out).mono ?_); (case side1 => repeat (first | exact (Kd.C_below HR0_0.out HB.out) | (with_reducible refine Kd.C_alloc ?_ _) | (with_reducible refine Kd.C_drewN ?_ _) | (with_reducible refine Kd.C_drew ?_))); (case side2 => exact HC0_0.out); rintro e w13 ⟨rfl, hb⟩; refine ⟨_, rfl, ?_⟩; have n0_ := Aside0.mk (blk_below (g := gb144) (o := .cells #[.slice A0_0 l0_0.length c0_0] 27 (0, 0)) (by (with_reducible repeat (first | refine blk_drewN ?_ _ | refine blk_drew ?_ | refine blk_alloc ?_ _)); exact BK144.out) hb); have n1_ := Aside0.mk (below_step (by repeat (first | (with_reducible first | exact HB.out | apply below_alloc | apply pw_below_drewN | apply below_drew1 | refine below_set ?_ GE144.out) | exact HB.out)) hb); clear BK144; clear HB; have BK144 := n0_; have HB := n1_; clear n0_ n1_; (try clear hb); (try clear hb2); (try clear hk); (try clear hi)) | ((with_reducible refine gate_dst (N := 17) rfl ?_); refine Kd.R_lit (Kd.int .u8) _ 5 ?hg (N := 17) ?hd (xs := ([] : List Int)) (inner := []) (ok := fun _ => True) (okp := fun _ => True) ?hr ?hp (fun _ hk => hk) trivial (Below.refl _ _) (Nat.le_refl _) (by simp) ?_; (case hd => rfl); (case hg => rfl); (case hr => first | (go_simp; done) | (go_simp; rfl)); (case hp => exact (Reps.none _ _)); intro v147 w14 ho15 hb hg_ hnew_; clear hg_ hnew_; (first | rw [← Ny146.out] at ho15 | (simp only [Int.reduceToNat] at ho15; rw [← Ny146.out] at ho15)); have n0_ := Aside0.mk (Kd.R_lower ho15 (below_size (by repeat (first | (with_reducible first | exact HB.out | apply below_alloc | apply pw_below_drewN | apply below_drew1 | refine below_set ?_ GE144.out) | exact HB.out)))); have n1_ := Aside0.mk (blk_below (g := gb144) (o := .cells #[.slice A0_0 l0_0.length c0_0] 27 (0, 0)) (by (with_reducible repeat (first | refine blk_drewN ?_ _ | refine blk_drew ?_ | refine blk_alloc ?_ _)); exact BK144.out) hb); have n2_ := Aside0.mk (below_step (by repeat (first | (with_reducible first | exact HB.out | apply below_alloc | apply pw_below_drewN | apply below_drew1 | refine below_set ?_ GE144.out) | exact HB.out)) hb); clear BK144; clear HB; have HO148 := n0_; have BK144 := n1_; have HB := n2_; clear n0_ n1_ n2_; clear hb ho15; have hcz16_0 : w14.cell? ⟨gb144, 0, none⟩ = some (.slice A0_0 l0_0.length c0_0) := (blk_cell BK144.out 0).trans rfl; have hfz16_0 := blk_frozen BK144.out 0; obtain ⟨i017, hi017, _, hsz17, _⟩ := info_parts info5; obtain ⟨A17, hcut17, hA17, hC17⟩ := print_mid_of (P := Try.prog) (Value.int .u8) 0 23 5 .i64 .i64 Try.underlying23 hi017 hsz17 A0_0 c0_0 l0_0 (ji6) (wrap64 ((ji6) + a2)) (of_decide_eq_true (by first | (with_reducible assumption) | assumption)) (by first | omega | exact of_decide_eq_true (by first | (with_reducible assumption) | assumption)) (of_decide_eq_true (by first | (with_reducible assumption) | assumption)) HC0_0.out; have HR149 := Aside0.mk (Kd.C_of_reads (h1 := fun _ => rfl) (hA17 _ (Kd.reads_of_C HR0_0.out))); have HC149 := Aside0.mk hC17; clear hA17 hC17 hi017 hsz17) | ((with_reducible refine gate_builtin (b := .append) (xs := #[.tmp 17, .tmp 24]) rfl ?_); at_builtin; refine Kd.R_append_rows (Kd.int .u8) (w0 := w) w.heap.size rfl (.tmp 17) (.tmp 24) 23 5 (.int .u8 0) 1 rfl Try.underlying23 info5 rfl (by decide) (by omega) v147 y146 ((l0_0.take ((wrap64 ((ji6) + a2)) : Int).toNat).drop ((ji6) : Int).toNat) _ _ _ (fun _ => True) (fun _ => False) rfl rfl ?aO ?aR (fun _ _ h => h) (fun _ h => h.elim) ?aF ?aB ?aS ?aL ?_; (case aR => first | (rw [← show ((l0_0.take ((wrap64 ((ji6) + a2)) : Int).toNat).drop ((ji6) : Int).toNat).length = ((wrap64 ((ji6) + a2)).toNat - (ji6).toNat) from (by rw [List.length_drop, List.length_take]; have h_ : ((wrap64 ((ji6) + a2)) : Int) ≤ (l0_0.length : Int) := of_decide_eq_true (by first | (with_reducible assumption) | assumption); omega)]; (repeat (first | exact (Kd.C_below HR149.out HB.out) | (with_reducible refine Kd.C_alloc ?_ _) | (with_reducible refine Kd.C_drewN ?_ _) | (with_reducible refine Kd.C_drew ?_))); done) | (refine Eq.mp (congrArg (fun n_ => ReadsRow _ _ _ _ n_ _) (show ((l0_0.take ((wrap64 ((ji6) + a2)) : Int).toNat).drop ((ji6) : Int).toNat).length = ((wrap64 ((ji6) + a2)).toNat - (ji6).toNat) from (by rw [List.length_drop, List.length_take]; have h_ : ((wrap64 ((ji6) + a2)) : Int) ≤ (l0_0.length : Int) := of_decide_eq_true (by first | (with_reducible assumption) | assumption); omega))) ?_; (repeat (first | exact (Kd.C_below HR149.out HB.out) | (with_reducible refine Kd.C_alloc ?_ _) | (with_reducible refine Kd.C_drewN ?_ _) | (with_reducible refine Kd.C_drew ?_))); done) | (repeat (first | exact (Kd.C_below HR149.out HB.out) | (with_reducible refine Kd.C_alloc ?_ _) | (with_reducible refine Kd.C_drewN ?_ _) | (with_reducible refine Kd.C_drew ?_)))); (case aB => exact (by repeat (first | (with_reducible first | exact HB.out | apply below_alloc | apply pw_below_drewN | apply below_drew1 | refine below_set ?_ GE144.out) | exact HB.out))); (case aF => exact (fun _ _ => trivial)); (case aO => exact (by (with_reducible repeat (first | apply Kd.R_alloc | apply Kd.R_drewN | apply Kd.R_drew)); exact HO148.out)); (case aS => exact (below_size (by repeat (first | (with_reducible first | exact HB.out | apply below_alloc | apply pw_below_drewN | apply below_drew1 | refine below_set ?_ GE144.out) | exact HB.out)))); (case aL => have := LMc10.out; have hlx_ := (show ((l0_0.take ((wrap64 ((ji6) + a2)) : Int).toNat).drop ((ji6) : Int).toNat).length = ((wrap64 ((ji6) + a2)).toNat - (ji6).toNat) from (by rw [List.length_drop, List.length_take]; have h_ : ((wrap64 ((ji6) + a2)) : Int) ≤ (l0_0.length : Int) := of_decide_eq_true (by first | (with_reducible assumption) | assumption); omega)); omega); intro v151 w18 ho hb hg hat; rw [← Ny150.out] at ho; have n0_ := Aside0.mk (blk_grown (g := gb144) (o := .cells #[.slice A0_0 l0_0.length c0_0] 27 (0, 0)) (by (with_reducible repeat (first | refine blk_drewN ?_ _ | refine blk_drew ?_ | refine blk_alloc ?_ _)); exact BK144.out) hg (Kd.R_ne HO148.out BK144.out (by decide))); have n1_ := Aside0.mk (hb); have n2_ := Aside0.mk (ho); clear BK144; clear HB; clear HO148; have BK144 := n0_; have HB := n1_; have HO152 := n2_; clear n0_ n1_ n2_; clear ho hb hg hat))
            go_ret2
            exact ⟨_, by first | rfl | (simp [errW_none, errW_some] <;> rfl) | (simp only [← hji6]; first | rfl | (simp [errW_none, errW_some] <;> rfl)) | (simp [*, errW_none, errW_some] <;> rfl), by (with_reducible repeat (first | apply Kd.R_alloc | apply Kd.R_drewN | apply Kd.R_drew)); exact HO152.out, by repeat (first | (with_reducible first | exact HB.out | apply below_alloc | apply pw_below_drewN | apply below_drew1 | refine below_set ?_ GE144.out) | exact HB.out)⟩
          · rw [if_neg c10] at H
            exact absurd H (by simp)
        · rw [if_neg c9] at H
          exact absurd H (by simp)
      · rw [if_neg c8] at H
        exact absurd H (by simp)
    · rw [if_neg c7] at H
      exact absurd H (by simp)
  · replace c5 := Bool.eq_false_iff.mpr c5
    subst c5
    have H1 : (some (([] : List Int), false)) = some (r1, r2) := by rw [if_neg (show ¬ (false = true) by decide)] at H; exact H
    clear H
    have H := H1
    clear H1
    simp only [Option.some.injEq, Prod.mk.injEq] at H
    obtain ⟨rfl, rfl⟩ := H
    go_enter Try.func37, Try.ntmps37
    go_wp2_with (first | ((with_reducible refine gate_dst (N := 3) rfl ?_); refine box_event ?hg (N := 3) ?hd (cs := #[.slice A0_0 l0_0.length c0_0]) (t := 27) ?hr ?_; (case hd => rfl); (case hg => rfl); (case hr => first | (go_simp; done) | (go_simp; rfl)); intro gb144 hg w19 hbox hb; have n0_ := Aside0.mk (below_step (by repeat (first | (with_reducible first | exact HB.out | apply below_alloc | apply pw_below_drewN | apply below_drew1) | exact HB.out)) hb); have n1_ := Aside0.mk (hbox); have n2_ := Aside0.mk ((by rw [hg]; exact (below_size (by repeat (first | (with_reducible first | exact HB.out | apply below_alloc | apply pw_below_drewN | apply below_drew1) | exact HB.out))) : w.heap.size ≤ gb144)); have n3_ := Aside0.mk ((by rw [hg]; exact (below_size (by repeat (first | (with_reducible first | exact HB.out | apply below_alloc | apply pw_below_drewN | apply below_drew1) | exact HB.out))) : w.heap.size ≤ gb144)); clear HB; have HB := n0_; have BK144 := n1_; have GW144 := n2_; have GE144 := n3_; clear n0_ n1_ n2_ n3_; clear hb hbox hg; have hcz20_0 : w19.cell? ⟨gb144, 0, none⟩ = some (.slice A0_0 l0_0.length c0_0) := (blk_cell BK144.out 0).trans rfl; have hfz20_0 := blk_frozen BK144.out 0) | ((with_reducible refine gate_callee (f := 52) rfl ?_); refine goesL_ (some 12) rfl rfl Try.func52 (by kernel_rfl) rfl #[.agg #[.slice A0_0 l0_0.length c0_0], .int .u64 a1, .int .i64 a2] rfl (by (try simp only [List.map_toArray, List.map_cons, List.map_nil]); first | done | rfl | (simp only [List.length_drop, List.length_take]; rfl)) ?_; (with_reducible refine (drawbridgeref07_Inside.calls _ _ l0_0 a1 a2 false _ ?side1 ?side2 A4.out).mono ?_); (case side1 => repeat (first | exact (Kd.C_below HR0_0.out HB.out) | (with_reducible refine Kd.C_alloc ?_ _) | (with_reducible refine Kd.C_drewN ?_ _) | (with_reducible refine Kd.C_drew ?_))); (case side2 => exact HC0_0.out); rintro e w21 ⟨rfl, hb⟩; refine ⟨_, rfl, ?_⟩; have n0_ := Aside0.mk (blk_below (g := gb144) (o := .cells #[.slice A0_0 l0_0.length c0_0] 27 (0, 0)) (by (with_reducible repeat (first | refine blk_drewN ?_ _ | refine blk_drew ?_ | refine blk_alloc ?_ _)); exact BK144.out) hb); have n1_ := Aside0.mk (below_step (by repeat (first | (with_reducible first | exact HB.out | apply below_alloc | apply pw_below_drewN | apply below_drew1 | refine below_set ?_ GE144.out) | exact HB.out)) hb); clear BK144; clear HB; have BK144 := n0_; have HB := n1_; clear n0_ n1_; (try clear hb); (try clear hb2); (try clear hk); (try clear hi)))
    go_ret2
    exact ⟨_, by first | rfl | (simp [errW_none, errW_some] <;> rfl) | (simp [*, errW_none, errW_some] <;> rfl), by first | exact Kd.R_nil _ _ _ _ _ | exact Kd.N_nil _ _ _ _ _ | exact Kd.V_nil _ _ _ _ _ | exact Kd.Q_nil _ _ _ _ _ | exact Kd.S_nil _ _ _ _ _, by repeat (first | (with_reducible first | exact HB.out | apply below_alloc | apply pw_below_drewN | apply below_drew1 | refine below_set ?_ GE144.out) | exact HB.out)⟩

def drawbridgeref07_Same.f (l0_0 : List Int) (l1_0 : List Int) : Option (Bool) := some ((strOfNums l0_0).toList == (strOfNums l1_0).toList)
set_option maxHeartbeats 8000000 in
set_option maxRecDepth 100000 in
theorem drawbridgeref07_Same.calls (A0_0 : Option Addr) (c0_0 : Nat) (l0_0 : List Int) (A1_0 : Option Addr) (c1_0 : Nat) (l1_0 : List Int) (r : Bool) (w : World) (hr0_0 : Kd.C (Kd.int .u8) w A0_0 l0_0.length l0_0) (hc0_0 : l0_0.length ≤ c0_0) (hr1_0 : Kd.C (Kd.int .u8) w A1_0 l1_0.length l1_0) (hc1_0 : l1_0.length ≤ c1_0) (h : drawbridgeref07_Same.f l0_0 l1_0 = some r) :
    Calls Try.prog 25 #[.agg #[.slice A0_0 l0_0.length c0_0], .agg #[.slice A1_0 l1_0.length c1_0]] w fun e w' => e = .returned (.bool r) ∧ Below w.heap.size w w' := by
  have hu27 := Try.underlying27
  have HR0_0 := Aside0.mk hr0_0
  have HC0_0 := Aside0.mk hc0_0
  clear hr0_0 hc0_0
  have HR1_0 := Aside0.mk hr1_0
  have HC1_0 := Aside0.mk hc1_0
  clear hr1_0 hc1_0
  have HB := Aside0.mk (Below.refl w.heap.size w)
  have H : (some ((strOfNums l0_0).toList == (strOfNums l1_0).toList)) = some r := h
  clear h
  obtain rfl := Option.some.inj H
  go_enter Try.func25, Try.ntmps25
  go_wp2_with (first | ((with_reducible refine gate_dst (N := 2) rfl ?_); refine box_event ?hg (N := 2) ?hd (cs := #[.slice A0_0 l0_0.length c0_0]) (t := 27) ?hr ?_; (case hd => rfl); (case hg => rfl); (case hr => first | (go_simp; done) | (go_simp; rfl)); intro gb153 hg w3 hbox hb; have n0_ := Aside0.mk (below_step (by repeat (first | (with_reducible first | exact HB.out | apply below_alloc | apply pw_below_drewN | apply below_drew1) | exact HB.out)) hb); have n1_ := Aside0.mk (hbox); have n2_ := Aside0.mk ((by rw [hg]; exact (below_size (by repeat (first | (with_reducible first | exact HB.out | apply below_alloc | apply pw_below_drewN | apply below_drew1) | exact HB.out))) : w.heap.size ≤ gb153)); have n3_ := Aside0.mk ((by rw [hg]; exact (below_size (by repeat (first | (with_reducible first | exact HB.out | apply below_alloc | apply pw_below_drewN | apply below_drew1) | exact HB.out))) : w.heap.size ≤ gb153)); clear HB; have HB := n0_; have BK153 := n1_; have GW153 := n2_; have GE153 := n3_; clear n0_ n1_ n2_ n3_; clear hb hbox hg) | ((with_reducible refine gate_dst (N := 3) rfl ?_); refine box_event ?hg (N := 3) ?hd (cs := #[.slice A1_0 l1_0.length c1_0]) (t := 27) ?hr ?_; (case hd => rfl); (case hg => rfl); (case hr => first | (go_simp; done) | (go_simp; rfl)); intro gb154 hg w4 hbox hb; have n0_ := Aside0.mk (blk_below (g := gb153) (o := .cells #[.slice A0_0 l0_0.length c0_0] 27 (0, 0)) (by (with_reducible repeat (first | refine blk_drewN ?_ _ | refine blk_drew ?_ | refine blk_alloc ?_ _)); exact BK153.out) hb); have n1_ := Aside0.mk (below_step (by repeat (first | (with_reducible first | exact HB.out | apply below_alloc | apply pw_below_drewN | apply below_drew1 | refine below_set ?_ GE153.out) | exact HB.out)) hb); have n2_ := Aside0.mk (hbox); have n3_ := Aside0.mk ((by rw [hg]; exact (below_size (by repeat (first | (with_reducible first | exact HB.out | apply below_alloc | apply pw_below_drewN | apply below_drew1 | refine below_set ?_ GE153.out) | exact HB.out))) : w.heap.size ≤ gb154)); have n4_ := Aside0.mk ((by rw [hg]; exact (below_size (by repeat (first | (with_reducible first | exact HB.out | apply below_alloc | apply pw_below_drewN | apply below_drew1 | refine below_set ?_ GE153.out) | exact HB.out))) : w.heap.size ≤ gb154)); have n5_ := Aside0.mk ((by rw [hg]; exact Nat.ne_of_lt (blk_lt (g := gb153) (o := .cells #[.slice A0_0 l0_0.length c0_0] 27 (0, 0)) (by (with_reducible repeat (first | refine blk_drewN ?_ _ | refine blk_drew ?_ | refine blk_alloc ?_ _)); exact BK153.out)) : gb153 ≠ gb154)); have n6_ := Aside0.mk ((by rw [hg]; exact Nat.ne_of_gt (blk_lt (g := gb153) (o := .cells #[.slice A0_0 l0_0.length c0_0] 27 (0, 0)) (by (with_reducible repeat (first | refine blk_drewN ?_ _ | refine blk_drew ?_ | refine blk_alloc ?_ _)); exact BK153.out)) : gb154 ≠ gb153)); clear BK153; clear HB; have BK153 := n0_; have HB := n1_; have BK154 := n2_; have GW154 := n3_; have GE154 := n4_; have NB153_154 := n5_; have NB154_153 := n6_; clear n0_ n1_ n2_ n3_ n4_ n5_ n6_; clear hb hbox hg; have hnb5 := NB153_154.out; have hnc5 := NB154_153.out; have hcz6_0 : w4.cell? ⟨gb153, 0, none⟩ = some (.slice A0_0 l0_0.length c0_0) := (blk_cell BK153.out 0).trans rfl; have hfz6_0 := blk_frozen BK153.out 0; have hcv7 := Kd.C_string (P := Try.prog) (A := A0_0) (c := c0_0) Try.underlying23 Try.underlying5 Try.underlying9 (Kd.C_below HR0_0.out HB.out); have hcz8_0 : w4.cell? ⟨gb154, 0, none⟩ = some (.slice A1_0 l1_0.length c1_0) := (blk_cell BK154.out 0).trans rfl; have hfz8_0 := blk_frozen BK154.out 0; have hcv9 := Kd.C_string (P := Try.prog) (A := A1_0) (c := c1_0) Try.underlying23 Try.underlying5 Try.underlying9 (Kd.C_below HR1_0.out HB.out)))
  go_ret
  exact ⟨by first | rfl | (simp [errW_none, errW_some] <;> rfl) | (simp [*, errW_none, errW_some] <;> rfl), by repeat (first | (with_reducible first | exact HB.out | apply below_alloc | apply pw_below_drewN | apply below_drew1 | refine below_set ?_ GE153.out | refine below_set ?_ GE154.out) | exact HB.out)⟩

def drawbridgeref01_Same.f (l0 : List Int) (l1 : List Int) : Option (Bool) := some ((strOfNums l0).toList == (strOfNums l1).toList)
set_option maxHeartbeats 8000000 in
set_option maxRecDepth 100000 in
theorem drawbridgeref01_Same.calls (A0 : Option Addr) (c0 : Nat) (l0 : List Int) (A1 : Option Addr) (c1 : Nat) (l1 : List Int) (r : Bool) (w : World) (hr0 : Kd.C (Kd.int .u8) w A0 l0.length l0) (hc0 : l0.length ≤ c0) (hr1 : Kd.C (Kd.int .u8) w A1 l1.length l1) (hc1 : l1.length ≤ c1) (h : drawbridgeref01_Same.f l0 l1 = some r) :
    Calls Try.prog 26 #[.slice A0 l0.length c0, .slice A1 l1.length c1] w fun e w' => e = .returned (.bool r) ∧ Drawn0 w w' := by
  have HR0 := Aside0.mk hr0
  have HC0 := Aside0.mk hc0
  clear hr0 hc0
  have HR1 := Aside0.mk hr1
  have HC1 := Aside0.mk hc1
  clear hr1 hc1
  have H : (some ((strOfNums l0).toList == (strOfNums l1).toList)) = some r := h
  clear h
  obtain rfl := Option.some.inj H
  have hcv3 := Kd.C_string (P := Try.prog) (A := A0) (c := c0) Try.underlying23 Try.underlying5 Try.underlying9 HR0.out
  have hcv4 := Kd.C_string (P := Try.prog) (A := A1) (c := c1) Try.underlying23 Try.underlying5 Try.underlying9 HR1.out
  go_enter Try.func26, Try.ntmps26
  go_wp2
  go_ret
  exact ⟨by first | rfl | (simp; done) | (simp [*]; done), by repeat (first | exact Drawn0.refl _ | apply Drawn0.step)⟩

end Go.Proofs.Ytdblpflepfcnjaa.Q
end
section
-- Ytdblpflepfcnjaa: written by a program for this claim (several laws of one seat at once)
namespace Go.Proofs.Ytdblpflepfcnjaa.Q
open Go.RowKit Go.Proofs.YtdblpflepfcnjaaW.PrintWords Go.Proofs.YtdblpflepfcnjaaW.PrintLast Go.Proofs.YtdblpflepfcnjaaW.PrintMore
attribute [local go_sem] max2_int min2_int max_two min_two max_three min_three max_four min_four   -- for this text's walks alone
set_option linter.unusedVariables false
set_option linter.unusedSimpArgs false

def drawbridgeref07_known.f (a0 : Int) : Option (Bool) := if a0 = 1 then (some true) else (if a0 = 2 then (some true) else (if a0 = 4 then (some true) else (some (a0 == 8))))
set_option maxHeartbeats 8000000 in
set_option maxRecDepth 100000 in
theorem drawbridgeref07_known.calls (a0 : Int) (r : Bool) (w : World) (h : drawbridgeref07_known.f a0 = some r) :
    Calls Try.prog 38 #[.int .i64 a0] w fun e w' => e = .returned (.bool r) ∧ Drawn0 w w' := by
  have H : (if a0 = 1 then (some true) else (if a0 = 2 then (some true) else (if a0 = 4 then (some true) else (some (a0 == 8))))) = some r := h
  clear h
  by_cases c2 : a0 = 1
  · rw [if_pos c2] at H
    have c2b0 : (a0 == 1) = true := beq_iff_eq.mpr c2
    have c2b1 : (a0 != 1) = false := bne_eq_false_iff_eq.mpr c2
    clear c2
    obtain rfl := Option.some.inj H
    go_enter Try.func38, Try.ntmps38
    go_wp2
    go_ret
    exact ⟨by first | rfl | (simp; done) | (simp [*]; done), by repeat (first | exact Drawn0.refl _ | apply Drawn0.step)⟩
  · rw [if_neg c2] at H
    have c2b0 : (a0 == 1) = false := beq_eq_false_iff_ne.mpr c2
    have c2b1 : (a0 != 1) = true := bne_iff_ne.mpr c2
    by_cases c3 : a0 = 2
    · rw [if_pos c3] at H
      have c3b0 : (a0 == 2) = true := beq_iff_eq.mpr c3
      have c3b1 : (a0 != 2) = false := bne_eq_false_iff_eq.mpr c3
      clear c3
      obtain rfl := Option.some.inj H
      go_enter Try.func38, Try.ntmps38
      go_wp2
      go_ret
      exact ⟨by first | rfl | (simp; done) | (simp [*]; done), by repeat (first | exact Drawn0.refl _ | apply Drawn0.step)⟩
    · rw [if_neg c3] at H
      have c3b0 : (a0 == 2) = false := beq_eq_false_iff_ne.mpr c3
      have c3b1 : (a0 != 2) = true := bne_iff_ne.mpr c3
      by_cases c4 : a0 = 4
      · rw [if_pos c4] at H
        have c4b0 : (a0 == 4) = true := beq_iff_eq.mpr c4
        have c4b1 : (a0 != 4) = false := bne_eq_false_iff_eq.mpr c4
        clear c4
        obtain rfl := Option.some.inj H
        go_enter Try.func38, Try.ntmps38
        go_wp2
        go_ret
        exact ⟨by first | rfl | (simp; done) | (simp [*]; done), by repeat (first | exact Drawn0.refl _ | apply Drawn0.step)⟩
      · rw [if_neg c4] at H
        have c4b0 : (a0 == 4) = false := beq_eq_false_iff_ne.mpr c4
        have c4b1 : (a0 != 4) = true := bne_iff_ne.mpr c4
        obtain rfl := Option.some.inj H
        go_enter Try.func38, Try.ntmps38
        go_wp2
        go_ret
        exact ⟨by first | rfl | (simp; done) | (simp [*]; done), by repeat (first | exact Drawn0.refl _ | apply Drawn0.step)⟩

def drawbridgeref07_Read.f (l0_0 : List Int) (a1 : Int) (a2 : Int) : Option (Int × Bool) := (drawbridgeref07_Bytes.f l0_0 a1 a2).bind fun bt165 => (if bt165.2 = true then ((drawbridgeref07_known.f a2).bind fun t169 => (if t169 = true then ((drawbridgeref01_Get.f bt165.1 false).bind fun t170 => (some (t170, true))) else (some (0, false)))) else (some (0, false)))
set_option maxHeartbeats 8000000 in
set_option maxRecDepth 100000 in
theorem drawbridgeref07_Read.calls (A0_0 : Option Addr) (c0_0 : Nat) (l0_0 : List Int) (a1 : Int) (a2 : Int) (r1 : Int) (r2 : Bool) (w : World) (hr0_0 : Kd.C (Kd.int .u8) w A0_0 l0_0.length l0_0) (hc0_0 : l0_0.length ≤ c0_0) (h : drawbridgeref07_Read.f l0_0 a1 a2 = some (r1, r2)) :
    Calls Try.prog 12 #[.agg #[.slice A0_0 l0_0.length c0_0], .int .u64 a1, .int .i64 a2] w fun e w' => e = .returned (.tuple #[.int .u64 r1, .bool r2]) ∧ Below w.heap.size w w' := by
  have hu27 := Try.underlying27
  have HR0_0 := Aside0.mk hr0_0
  have HC0_0 := Aside0.mk hc0_0
  clear hr0_0 hc0_0
  have HB := Aside0.mk (Below.refl w.heap.size w)
  have H : ((drawbridgeref07_Bytes.f l0_0 a1 a2).bind fun bt165 => (if bt165.2 = true then ((drawbridgeref07_known.f a2).bind fun t169 => (if t169 = true then ((drawbridgeref01_Get.f bt165.1 false).bind fun t170 => (some (t170, true))) else (some (0, false)))) else (some (0, false)))) = some (r1, r2) := h
  clear h
  replace H := Option.bind_eq_some_iff.mp H
  obtain ⟨⟨t165, t168⟩, A40, H⟩ := H
  replace H : (if t168 = true then ((drawbridgeref07_known.f a2).bind fun t169 => (if t169 = true then ((drawbridgeref01_Get.f t165 false).bind fun t170 => (some (t170, true))) else (some (0, false)))) else (some (0, false))) = some (r1, r2) := H
  have A4 := Aside0.mk A40
  clear A40
  by_cases c5 : t168 = true
  · subst c5
    have H1 : ((drawbridgeref07_known.f a2).bind fun t169 => (if t169 = true then ((drawbridgeref01_Get.f t165 false).bind fun t170 => (some (t170, true))) else (some (0, false)))) = some (r1, r2) := by rw [if_pos rfl] at H; exact H
    clear H
    have H := H1
    clear H1
    replace H := Option.bind_eq_some_iff.mp H
    obtain ⟨t169, A60, H⟩ := H
    replace H : (if t169 = true then ((drawbridgeref01_Get.f t165 false).bind fun t170 => (some (t170, true))) else (some (0, false))) = some (r1, r2) := H
    have A6 := Aside0.mk A60
    clear A60
    by_cases c7 : t169 = true
    · subst c7
      have H1 : ((drawbridgeref01_Get.f t165 false).bind fun t170 => (some (t170, true))) = some (r1, r2) := by rw [if_pos rfl] at H; exact H
      clear H
      have H := H1
      clear H1
      replace H := Option.bind_eq_some_iff.mp H
      obtain ⟨t170, A80, H⟩ := H
      replace H : (some (t170, true)) = some (r1, r2) := H
      have A8 := Aside0.mk A80
      clear A80
      simp only [Option.some.injEq, Prod.mk.injEq] at H
      obtain ⟨rfl, rfl⟩ := H
      go_enter Try.func12, Try.ntmps12
      go_wp2_with (first | ((with_reducible refine gate_dst (N := 3) rfl ?_); refine box_event ?hg (N := 3) ?hd (cs := #[.slice A0_0 l0_0.length c0_0]) (t := 27) ?hr ?_; (case hd => rfl); (case hg => rfl); (case hr => first | (go_simp; done) | (go_simp; rfl)); intro gb164 hg w9 hbox hb; have n0_ := Aside0.mk (below_step (by repeat (first | (with_reducible first | exact HB.out | apply below_alloc | apply pw_below_drewN | apply below_drew1) | exact HB.out)) hb); have n1_ := Aside0.mk (hbox); have n2_ := Aside0.mk ((by rw [hg]; exact (below_size (by repeat (first | (with_reducible first | exact HB.out | apply below_alloc | apply pw_below_drewN | apply below_drew1) | exact HB.out))) : w.heap.size ≤ gb164)); have n3_ := Aside0.mk ((by rw [hg]; exact (below_size (by repeat (first | (with_reducible first | exact HB.out | apply below_alloc | apply pw_below_drewN | apply below_drew1) | exact HB.out))) : w.heap.size ≤ gb164)); clear HB; have HB := n0_; have BK164 := n1_; have GW164 := n2_; have GE164 := n3_; clear n0_ n1_ n2_ n3_; clear hb hbox hg; have hcz10_0 : w9.cell? ⟨gb164, 0, none⟩ = some (.slice A0_0 l0_0.length c0_0) := (blk_cell BK164.out 0).trans rfl; have hfz10_0 := blk_frozen BK164.out 0) | ((with_reducible refine gate_callee (f := 37) rfl ?_); refine goesL_ (some 14) rfl rfl Try.func37 (by kernel_rfl) rfl #[.agg #[.slice A0_0 l0_0.length c0_0], .int .u64 a1, .int .i64 a2] rfl (by (try simp only [List.map_toArray, List.map_cons, List.map_nil]); first | done | rfl | (simp only [List.length_drop, List.length_take]; rfl)) ?_; (with_reducible refine (drawbridgeref07_Bytes.calls _ _ l0_0 a1 a2 t165 true _ ?side1 ?side2 A4.out).mono ?_); (case side1 => repeat (first | exact (Kd.C_below HR0_0.out HB.out) | (with_reducible refine Kd.C_alloc ?_ _) | (with_reducible refine Kd.C_drewN ?_ _) | (with_reducible refine Kd.C_drew ?_))); (case side2 => exact HC0_0.out); rintro e w11 ⟨v166, rfl, ho0, hb⟩; refine ⟨_, rfl, ?_⟩; have n0_ := Aside0.mk (Kd.R_lower ho0 (below_size (by repeat (first | (with_reducible first | exact HB.out | apply below_alloc | apply pw_below_drewN | apply below_drew1 | refine below_set ?_ GE164.out) | exact HB.out)))); have n1_ := Aside0.mk (blk_below (g := gb164) (o := .cells #[.slice A0_0 l0_0.length c0_0] 27 (0, 0)) (by (with_reducible repeat (first | refine blk_drewN ?_ _ | refine blk_drew ?_ | refine blk_alloc ?_ _)); exact BK164.out) hb); have n2_ := Aside0.mk (below_step (by repeat (first | (with_reducible first | exact HB.out | apply below_alloc | apply pw_below_drewN | apply below_drew1 | refine below_set ?_ GE164.out) | exact HB.out)) hb); clear BK164; clear HB; have HO167 := n0_; have BK164 := n1_; have HB := n2_; clear n0_ n1_ n2_; (try clear hb); (try clear hb2); (try clear hk); (try clear hi); (try clear ho0)) | (go_at_call 38; (with_reducible refine (drawbridgeref07_known.calls a2 true _ A6.out).mono ?_); rintro e w' ⟨rfl, ⟨nd, rfl⟩⟩; obtain ⟨Ao12, co12, eo12⟩ := Kd.R_slice HO167.out; subst eo12) | ((with_reducible refine gate_callee (f := 39) rfl ?_); refine goesL_ (some 25) rfl rfl Try.func39 (by kernel_rfl) rfl #[.slice Ao12 t165.length co12, .bool false] rfl (by (try simp only [List.map_toArray, List.map_cons, List.map_nil]); first | done | rfl | (simp only [List.length_drop, List.length_take]; rfl)) ?_; (with_reducible refine (drawbridgeref01_Get.calls _ _ t165 false t170 _ ?side1 ?side2 A8.out).mono ?_); (case side1 => repeat (first | exact (Kd.R_reads' HO167.out).2.2 | (with_reducible refine Kd.C_alloc ?_ _) | (with_reducible refine Kd.C_drewN ?_ _) | (with_reducible refine Kd.C_drew ?_))); (case side2 => exact (Kd.R_reads' HO167.out).2.1); rintro e w13 ⟨rfl, hb⟩; refine ⟨_, rfl, ?_⟩; have n0_ := Aside0.mk (Kd.R_below (by (with_reducible repeat (first | apply Kd.R_alloc | apply Kd.R_drewN | apply Kd.R_drew)); exact HO167.out) hb); have n1_ := Aside0.mk (blk_below (g := gb164) (o := .cells #[.slice A0_0 l0_0.length c0_0] 27 (0, 0)) (by (with_reducible repeat (first | refine blk_drewN ?_ _ | refine blk_drew ?_ | refine blk_alloc ?_ _)); exact BK164.out) hb); have n2_ := Aside0.mk (below_step (by repeat (first | (with_reducible first | exact HB.out | apply below_alloc | apply pw_below_drewN | apply below_drew1 | refine below_set ?_ GE164.out) | exact HB.out)) hb); clear HO167; clear BK164; clear HB; have HO167 := n0_; have BK164 := n1_; have HB := n2_; clear n0_ n1_ n2_; (try clear hb); (try clear hb2); (try clear hk); (try clear hi)))
      go_ret2
      exact ⟨by first | rfl | (simp [errW_none, errW_some] <;> rfl) | (simp [*, errW_none, errW_some] <;> rfl), by repeat (first | (with_reducible first | exact HB.out | apply below_alloc | apply pw_below_drewN | apply below_drew1 | refine below_set ?_ GE164.out) | exact HB.out)⟩
    · replace c7 := Bool.eq_false_iff.mpr c7
      subst c7
      have H1 : (some (0, false)) = some (r1, r2) := by rw [if_neg (show ¬ (false = true) by decide)] at H; exact H
      clear H
      have H := H1
      clear H1
      simp only [Option.some.injEq, Prod.mk.injEq] at H
      obtain ⟨rfl, rfl⟩ := H
      go_enter Try.func12, Try.ntmps12
      go_wp2_with (first | ((with_reducible refine gate_dst (N := 3) rfl ?_); refine box_event ?hg (N := 3) ?hd (cs := #[.slice A0_0 l0_0.length c0_0]) (t := 27) ?hr ?_; (case hd => rfl); (case hg => rfl); (case hr => first | (go_simp; done) | (go_simp; rfl)); intro gb164 hg w14 hbox hb; have n0_ := Aside0.mk (below_step (by repeat (first | (with_reducible first | exact HB.out | apply below_alloc | apply pw_below_drewN | apply below_drew1) | exact HB.out)) hb); have n1_ := Aside0.mk (hbox); have n2_ := Aside0.mk ((by rw [hg]; exact (below_size (by repeat (first | (with_reducible first | exact HB.out | apply below_alloc | apply pw_below_drewN | apply below_drew1) | exact HB.out))) : w.heap.size ≤ gb164)); have n3_ := Aside0.mk ((by rw [hg]; exact (below_size (by repeat (first | (with_reducible first | exact HB.out | apply below_alloc | apply pw_below_drewN | apply below_drew1) | exact HB.out))) : w.heap.size ≤ gb164)); clear HB; have HB := n0_; have BK164 := n1_; have GW164 := n2_; have GE164 := n3_; clear n0_ n1_ n2_ n3_; clear hb hbox hg; have hcz15_0 : w14.cell? ⟨gb164, 0, none⟩ = some (.slice A0_0 l0_0.length c0_0) := (blk_cell BK164.out 0).trans rfl; have hfz15_0 := blk_frozen BK164.out 0) | ((with_reducible refine gate_callee (f := 37) rfl ?_); refine goesL_ (some 14) rfl rfl Try.func37 (by kernel_rfl) rfl #[.agg #[.slice A0_0 l0_0.length c0_0], .int .u64 a1, .int .i64 a2] rfl (by (try simp only [List.map_toArray, List.map_cons, List.map_nil]); first | done | rfl | (simp only [List.length_drop, List.length_take]; rfl)) ?_; (with_reducible refine (drawbridgeref07_Bytes.calls _ _ l0_0 a1 a2 t165 true _ ?side1 ?side2 A4.out).mono ?_); (case side1 => repeat (first | exact (Kd.C_below HR0_0.out HB.out) | (with_reducible refine Kd.C_alloc ?_ _) | (with_reducible refine Kd.C_drewN ?_ _) | (with_reducible refine Kd.C_drew ?_))); (case side2 => exact HC0_0.out); rintro e w16 ⟨v166, rfl, ho0, hb⟩; refine ⟨_, rfl, ?_⟩; have n0_ := Aside0.mk (Kd.R_lower ho0 (below_size (by repeat (first | (with_reducible first | exact HB.out | apply below_alloc | apply pw_below_drewN | apply below_drew1 | refine below_set ?_ GE164.out) | exact HB.out)))); have n1_ := Aside0.mk (blk_below (g := gb164) (o := .cells #[.slice A0_0 l0_0.length c0_0] 27 (0, 0)) (by (with_reducible repeat (first | refine blk_drewN ?_ _ | refine blk_drew ?_ | refine blk_alloc ?_ _)); exact BK164.out) hb); have n2_ := Aside0.mk (below_step (by repeat (first | (with_reducible first | exact HB.out | apply below_alloc | apply pw_below_drewN | apply below_drew1 | refine below_set ?_ GE164.out) | exact HB.out)) hb); clear BK164; clear HB; have HO167 := n0_; have BK164 := n1_; have HB := n2_; clear n0_ n1_ n2_; (try clear hb); (try clear hb2); (try clear hk); (try clear hi); (try clear ho0)) | (go_at_call 38; (with_reducible refine (drawbridgeref07_known.calls a2 false _ A6.out).mono ?_); rintro e w' ⟨rfl, ⟨nd, rfl⟩⟩))
      go_ret2
      exact ⟨by first | rfl | (simp [errW_none, errW_some] <;> rfl) | (simp [*, errW_none, errW_some] <;> rfl), by repeat (first | (with_reducible first | exact HB.out | apply below_alloc | apply pw_below_drewN | apply below_drew1 | refine below_set ?_ GE164.out) | exact HB.out)⟩
  · replace c5 := Bool.eq_false_iff.mpr c5
    subst c5
    have H1 : (some (0, false)) = some (r1, r2) := by rw [if_neg (show ¬ (false = true) by decide)] at H; exact H
    clear H
    have H := H1
    clear H1
    simp only [Option.some.injEq, Prod.mk.injEq] at H
    obtain ⟨rfl, rfl⟩ := H
    go_enter Try.func12, Try.ntmps12
    go_wp2_with (first | ((with_reducible refine gate_dst (N := 3) rfl ?_); refine box_event ?hg (N := 3) ?hd (cs := #[.slice A0_0 l0_0.length c0_0]) (t := 27) ?hr ?_; (case hd => rfl); (case hg => rfl); (case hr => first | (go_simp; done) | (go_simp; rfl)); intro gb164 hg w17 hbox hb; have n0_ := Aside0.mk (below_step (by repeat (first | (with_reducible first | exact HB.out | apply below_alloc | apply pw_below_drewN | apply below_drew1) | exact HB.out)) hb); have n1_ := Aside0.mk (hbox); have n2_ := Aside0.mk ((by rw [hg]; exact (below_size (by repeat (first | (with_reducible first | exact HB.out | apply below_alloc | apply pw_below_drewN | apply below_drew1) | exact HB.out))) : w.heap.size ≤ gb164)); have n3_ := Aside0.mk ((by rw [hg]; exact (below_size (by repeat (first | (with_reducible first | exact HB.out | apply below_alloc | apply pw_below_drewN | apply below_drew1) | exact HB.out))) : w.heap.size ≤ gb164)); clear HB; have HB := n0_; have BK164 := n1_; have GW164 := n2_; have GE164 := n3_; clear n0_ n1_ n2_ n3_; clear hb hbox hg; have hcz18_0 : w17.cell? ⟨gb164, 0, none⟩ = some (.slice A0_0 l0_0.length c0_0) := (blk_cell BK164.out 0).trans rfl; have hfz18_0 := blk_frozen BK164.out 0) | ((with_reducible refine gate_callee (f := 37) rfl ?_); refine goesL_ (some 14) rfl rfl Try.func37 (by kernel_rfl) rfl #[.agg #[.slice A0_0 l0_0.length c0_0], .int .u64 a1, .int .i64 a2] rfl (by (try simp only [List.map_toArray, List.map_cons, List.map_nil]); first | done | rfl | (simp only [List.length_drop, List.length_take]; rfl)) ?_; (with_reducible refine (drawbridgeref07_Bytes.calls _ _ l0_0 a1 a2 t165 false _ ?side1 ?side2 A4.out).mono ?_); (case side1 => repeat (first | exact (Kd.C_below HR0_0.out HB.out) | (with_reducible refine Kd.C_alloc ?_ _) | (with_reducible refine Kd.C_drewN ?_ _) | (with_reducible refine Kd.C_drew ?_))); (case side2 => exact HC0_0.out); rintro e w19 ⟨v166, rfl, ho0, hb⟩; refine ⟨_, rfl, ?_⟩; have n0_ := Aside0.mk (Kd.R_lower ho0 (below_size (by repeat (first | (with_reducible first | exact HB.out | apply below_alloc | apply pw_below_drewN | apply below_drew1 | refine below_set ?_ GE164.out) | exact HB.out)))); have n1_ := Aside0.mk (blk_below (g := gb164) (o := .cells #[.slice A0_0 l0_0.length c0_0] 27 (0, 0)) (by (with_reducible repeat (first | refine blk_drewN ?_ _ | refine blk_drew ?_ | refine blk_alloc ?_ _)); exact BK164.out) hb); have n2_ := Aside0.mk (below_step (by repeat (first | (with_reducible first | exact HB.out | apply below_alloc | apply pw_below_drewN | apply below_drew1 | refine below_set ?_ GE164.out) | exact HB.out)) hb); clear BK164; clear HB; have HO167 := n0_; have BK164 := n1_; have HB := n2_; clear n0_ n1_ n2_; (try clear hb); (try clear hb2); (try clear hk); (try clear hi); (try clear ho0)))
    go_ret2
    exact ⟨by first | rfl | (simp [errW_none, errW_some] <;> rfl) | (simp [*, errW_none, errW_some] <;> rfl), by repeat (first | (with_reducible first | exact HB.out | apply below_alloc | apply pw_below_drewN | apply below_drew1 | refine below_set ?_ GE164.out) | exact HB.out)⟩

end Go.Proofs.Ytdblpflepfcnjaa.Q
end
section
/- What the reference's memory comes to (layers 12, 13). -/
set_option linter.unusedVariables false
namespace Go.Proofs.Ytdblpflepfcnjaa.Q
open Go.RowKit Go.Proofs.YtdblpflepfcnjaaW.PrintWords Go.Proofs.YtdblpflepfcnjaaW.PrintLast Go.Proofs.YtdblpflepfcnjaaW.PrintMore Go.Proofs.Ytdblpflepfcnjaa.L
section
variable (l : List Int) (a k : Int) (ha : u64B a) (hk : i64B k) (hl : (l.length : Int) ≤ 70000)
include ha hk hl
theorem refInside_is : drawbridgeref07_Inside.f l a k = some (placeZ l.length a k).2 := by
  obtain ⟨a0, a1⟩ := ha
  obtain ⟨k0, k1⟩ := hk
  unfold drawbridgeref07_Inside.f
  rcases placeZ_cases l.length a k with ⟨h1, h2, h3, e⟩ | ⟨h, e⟩
  · have w1 : IntKind.u64.wrap (a - 2147483648) = a - 2147483648 := by rw [IntKind.wrap_u64]; omega
    have w2 : IntKind.u64.wrap (l.length : Int) = l.length := by rw [IntKind.wrap_u64]; omega
    have w3 : IntKind.u64.wrap k = k := by rw [IntKind.wrap_u64]; omega
    have w4 : IntKind.u64.wrap ((l.length : Int) - (a - 2147483648)) = l.length - (a - 2147483648) := by rw [IntKind.wrap_u64]; omega
    rw [e, if_pos (by omega), if_pos (by omega), w1, w2, w3, w4, if_pos (by omega), decide_eq_true (by omega)]
  · rw [e]
    by_cases h2 : k ≥ 0
    · by_cases h1 : a ≥ 2147483648
      · have w1 : IntKind.u64.wrap (a - 2147483648) = a - 2147483648 := by rw [IntKind.wrap_u64]; omega
        have w2 : IntKind.u64.wrap (l.length : Int) = l.length := by rw [IntKind.wrap_u64]; omega
        have w3 : IntKind.u64.wrap k = k := by rw [IntKind.wrap_u64]; omega
        rw [if_pos h2, if_pos h1, w1, w2, w3]
        by_cases h3 : a - 2147483648 ≤ (l.length : Int)
        · have w4 : IntKind.u64.wrap ((l.length : Int) - (a - 2147483648)) = l.length - (a - 2147483648) := by rw [IntKind.wrap_u64]; omega
          rw [if_pos h3, w4, decide_eq_false (by omega)]
        · rw [if_neg h3]
      · rw [if_pos h2, if_neg h1]
    · rw [if_neg h2]
theorem refBytes_is : drawbridgeref07_Bytes.f l a k = some (bytesZ l a k) := by
  unfold drawbridgeref07_Bytes.f bytesZ
  rw [refInside_is l a k ha hk hl, Option.bind_some]
  obtain ⟨a0, a1⟩ := ha
  obtain ⟨k0, k1⟩ := hk
  rcases placeZ_cases l.length a k with ⟨h1, h2, h3, e⟩ | ⟨_, e⟩
  · rw [e]
    have w1 : IntKind.u64.wrap (a - 2147483648) = a - 2147483648 := by rw [IntKind.wrap_u64]; omega
    have w2 : wrap64 (a - 2147483648) = a - 2147483648 := w64 (by omega) (by omega)
    have e1 : wrap64 (a - 2147483648 + k) = a - 2147483648 + k := w64 (by omega) (by omega)
    simp only [if_true, w1, w2, e1, Option.bind_some]
    rw [if_pos (by omega), if_pos (by omega), if_pos (by omega), if_pos (by rw [List.length_drop, List.length_take]; simp; omega)]
    rfl
  · rw [e]; rfl
end
theorem refFill_is (l : List Int) (a : Int) (b : List Int) (ha : u64B a) (hb : (b.length : Int) ≤ 9223372036854775807) (hl : (l.length : Int) ≤ 70000) : drawbridgeref07_Fill.f l a b = some (fillL l a b, (placeZ l.length a b.length).2) := by
  unfold drawbridgeref07_Fill.f fillL
  rw [refInside_is l a b.length ha ⟨by omega, hb⟩ hl, Option.bind_some]
  obtain ⟨a0, a1⟩ := ha
  rcases placeZ_cases l.length a b.length with ⟨h1, h2, h3, e⟩ | ⟨_, e⟩
  · rw [e]
    have w1 : IntKind.u64.wrap (a - 2147483648) = a - 2147483648 := by rw [IntKind.wrap_u64]; omega
    have w2 : wrap64 (a - 2147483648) = a - 2147483648 := w64 (by omega) (by omega)
    have e1 : wrap64 (a - 2147483648 + b.length) = a - 2147483648 + b.length := w64 (by omega) (by omega)
    simp only [if_true, w1, w2, e1, Option.bind_some]
    rw [if_pos (by omega), if_pos (by omega), if_pos (by simp; omega), if_pos (by simp; omega), if_pos (by omega), if_pos (by omega), if_pos (by simp; omega)]
    unfold splice
    rw [List.nil_append, List.append_assoc, show (a - 2147483648 + (b.length : Int)).toNat = (a - 2147483648).toNat + b.length by omega]
  · rw [e]; rfl
end Go.Proofs.Ytdblpflepfcnjaa.Q
end
section
/- What must come at any rate (the law's heads). -/
namespace Go.Proofs.Ytdblpflepfcnjaa.Q
open Go.RowKit Go.Proofs.YtdblpflepfcnjaaW.PrintWords Go.Proofs.YtdblpflepfcnjaaW.PrintLast Go.Proofs.YtdblpflepfcnjaaW.PrintMore Go.Proofs.Ytdblpflepfcnjaa.L
attribute [local go_sem] Instr.field part asAgg lt_step max2_int min2_int max_two min_two max_three min_three max_four min_four lt_0_1 lt_0_2 lt_1_2 lt_0_3 lt_1_3 lt_2_3 lt_0_4 lt_1_4 lt_2_4 lt_3_4 lt_0_5 lt_1_5 lt_2_5 lt_3_5 lt_4_5 lt_0_6 lt_1_6 lt_2_6 lt_3_6 lt_4_6 lt_5_6 lt_0_7 lt_1_7 lt_2_7 lt_3_7 lt_4_7 lt_5_7 lt_6_7 lt_0_8 lt_1_8 lt_2_8 lt_3_8 lt_4_8 lt_5_8 lt_6_8 lt_7_8
set_option linter.unusedVariables false
set_option linter.unusedSimpArgs false
def macH : List Int := [1, 2, 3, 4, 5, 6]
def hd1 : Nat → Int := stZ new1 0 5
def hd2 : Nat → Int := stZ hd1 3 2147483648
def hd3 : Nat → Int := stZ hd2 4 2
def hd4 : Nat → Int := stZ hd3 6 1
def litH : List Int := [32, 0, 0, 128, 0, 0, 0, 0, 14, 0, 1, 0, 0, 0, 0, 0]
def rep64 : List Int := List.replicate 64 0
def r1H : List Int := fillL rep64 2147483648 litH
def dH : List Int := cutL r1H 2147483648 16
def hd5 : Nat → Int := upd (upd hd4 5 (Int.tmod (wrap64 (hd4 5 + 1)) (hd4 4))) 1 (Go.bits .or .i64 (hd4 1) 1)
def r2H : List Int := fillL r1H (IntKind.u64.wrap (2147483648 + 10)) [Go.bits .andNot .u8 (flagD dH) 1, restD dH, 1, 0]
def frH : List Int := cutL r1H (bufD dH) (sizeD dH)
theorem macH_byte : ∀ z ∈ macH, byte z := by decide
theorem r1H_byte : ∀ z ∈ r1H, byte z := by decide +kernel
theorem newH (b : Nat) (w : World) (hb : w.heap[b]? = some (.cells #[.int .u8 1, .int .u8 2, .int .u8 3, .int .u8 4, .int .u8 5, .int .u8 6] 5 (0, 0))) :
    Calls Try.prog 17 #[.slice (some ⟨b, 0, none⟩) 6 6] w fun e w' => ∃ A' c', e = .returned (.tuple #[.agg (C14 new1 (.slice A' macH.length c')), .int .i64 0]) ∧ macH.length ≤ c' ∧ Kd.F (Kd.int .u8) w' (fun j => w.heap.size ≤ j) A' macH.length macH ∧ Below w.heap.size w w' :=
  New_yes (some ⟨b, 0, none⟩) 6 macH w (fun _ => True) (F_of_C (C_blk hb rfl (by decide) rfl) (fun _ _ _ => trivial)) (by decide) rfl
theorem newN (w : World) : Calls Try.prog 17 #[.slice none 0 0] w fun e w' => e = .returned (.tuple #[.agg (C14 new0 (.slice none 0 0)), .int .i64 2]) ∧ Below w.heap.size w w' := New_no none 0 [] w rfl
section
variable (A : Option Addr) (cap : Nat) (w : World) (ok : Nat → Prop) (hm : Kd.F (Kd.int .u8) w ok A macH.length macH) (hmc : macH.length ≤ cap)
include hm hmc
theorem storeH1 : Calls Try.prog 15 #[.agg (C14 new1 (.slice A macH.length cap)), .int .u64 0, .int .i64 4, .int .u64 5] w fun e w' => e = .returned (.tuple #[.agg (C14 hd1 (.slice A macH.length cap)), .bool true]) ∧ Below w.heap.size w w' :=
  store_yes A cap macH new1 0 4 5 w ok hm hmc macH_byte (by decide) (by decide) 5 (by decide +kernel) (by decide +kernel)
theorem storeH2 : Calls Try.prog 15 #[.agg (C14 hd1 (.slice A macH.length cap)), .int .u64 12, .int .i64 4, .int .u64 2147483648] w fun e w' => e = .returned (.tuple #[.agg (C14 hd2 (.slice A macH.length cap)), .bool true]) ∧ Below w.heap.size w w' :=
  store_yes A cap macH hd1 12 4 2147483648 w ok hm hmc macH_byte (by decide) (by decide) 2147483648 (by decide +kernel) (by decide +kernel)
theorem storeH3 : Calls Try.prog 15 #[.agg (C14 hd2 (.slice A macH.length cap)), .int .u64 16, .int .i64 4, .int .u64 2] w fun e w' => e = .returned (.tuple #[.agg (C14 hd3 (.slice A macH.length cap)), .bool true]) ∧ Below w.heap.size w w' :=
  store_yes A cap macH hd2 16 4 2 w ok hm hmc macH_byte (by decide) (by decide) 2 (by decide +kernel) (by decide +kernel)
theorem storeH4 : Calls Try.prog 15 #[.agg (C14 hd3 (.slice A macH.length cap)), .int .u64 24, .int .i64 4, .int .u64 1] w fun e w' => e = .returned (.tuple #[.agg (C14 hd4 (.slice A macH.length cap)), .bool true]) ∧ Below w.heap.size w w' :=
  store_yes A cap macH hd3 24 4 1 w ok hm hmc macH_byte (by decide) (by decide) 1 (by decide +kernel) (by decide +kernel)
theorem loadH : Calls Try.prog 13 #[.agg (C14 hd5 (.slice A macH.length cap)), .int .u64 20, .int .i64 4] w fun e w' => e = .returned (.tuple #[.int .u64 1, .bool true]) ∧ Below w.heap.size w w' := by
  have h := Load_is A cap macH hd5 20 4 w ok hm hmc macH_byte (by decide) (by decide) false true (by decide +kernel) (by decide +kernel)
  rw [show (if (false : Bool) = true then (0 : Int) else loadV hd5 macH 20) = 1 from by decide +kernel] at h
  exact h
end
theorem lineH (A : Option Addr) (cap : Nat) (w : World) : Calls Try.prog 21 #[.agg (C14 (dropC hd5) (.slice A macH.length cap))] w fun e w' => e = .returned (.bool false) ∧ Below w.heap.size w w' := by
  have h := Line_is (dropC hd5) A macH.length cap w true (by decide +kernel)
  rw [show lineZ (dropC hd5) macH.length = false from by decide +kernel] at h
  exact h
theorem fillH (b d : Nat) (w : World) (hb : w.heap[b]? = some (.cells (Array.replicate 64 (.int .u8 0)) 5 (0, 0))) (hd : w.heap[d]? = some (.cells #[.int .u8 32, .int .u8 0, .int .u8 0, .int .u8 128, .int .u8 0, .int .u8 0, .int .u8 0, .int .u8 0, .int .u8 14, .int .u8 0, .int .u8 1, .int .u8 0, .int .u8 0, .int .u8 0, .int .u8 0, .int .u8 0] 5 (0, 0))) :
    Calls Try.prog 31 #[.agg #[.slice (some ⟨b, 0, none⟩) 64 64], .int .u64 2147483648, .slice (some ⟨d, 0, none⟩) 16 16] w fun e w' => ∃ A' c', e = .returned (.tuple #[.agg #[.slice A' r1H.length c'], .bool true]) ∧ r1H.length ≤ c' ∧ Kd.F (Kd.int .u8) w' (fun j => j = b ∨ w.heap.size ≤ j) A' r1H.length r1H ∧ Below w.heap.size w w' := by
  have h := refFill_is rep64 2147483648 litH (by unfold u64B; decide) (by decide) (by decide)
  have hF : Kd.F (Kd.int .u8) w (fun j => j = b) (some ⟨b, 0, none⟩) rep64.length rep64 := F_of_C (C_blk hb rfl (by decide) rfl) (fun ad e _ => by injection e with e; rw [← e])
  have hL : Kd.C (Kd.int .u8) w (some ⟨d, 0, none⟩) litH.length litH := C_blk hd rfl (by decide) rfl
  refine (drawbridgeref07_Fill.calls (fun j => j = b) (some ⟨b, 0, none⟩) 64 rep64 2147483648 (some ⟨d, 0, none⟩) 16 litH r1H true w (Kd.V_mk (by decide) hF) hL (by decide) ?_).mono ?_
  · exact h.trans (congrArg some (Prod.ext rfl (by decide +kernel)))
  · rintro e w' ⟨v, he, hV, hB⟩
    obtain ⟨A', c', ev, hc, hF'⟩ := hV
    subst ev
    exact ⟨A', c', he, hc, hF', hB⟩
section
variable (A : Option Addr) (cap : Nat) (w : World) (ok : Nat → Prop) (hm : Kd.F (Kd.int .u8) w ok A macH.length macH) (hmc : macH.length ≤ cap) (R : Option Addr) (rc : Nat) (okr : Nat → Prop)
theorem sendH1 (hr : Kd.F (Kd.int .u8) w okr R r1H.length r1H) (hc : r1H.length ≤ rc) : Calls Try.prog 11 #[.agg (C14 hd4 (.slice A macH.length cap)), .agg #[.slice R r1H.length rc]] w (SendPost A macH.length cap okr w hd5 r2H frH true) :=
  send_good A macH.length cap R rc r1H hd4 w okr hr hc 2147483648 (by decide +kernel) (by decide +kernel) (by decide +kernel) (by decide +kernel) (by unfold u64B; decide) (by decide +kernel) r1H_byte (by decide +kernel) (by decide +kernel) (by decide +kernel) (by unfold u64B; decide +kernel) frH rfl (by decide +kernel) (by decide +kernel) (by decide +kernel) (by unfold i64B; decide +kernel) (by decide +kernel)
theorem sendH2 (hr : Kd.F (Kd.int .u8) w okr R r2H.length r2H) (hc : r2H.length ≤ rc) : Calls Try.prog 11 #[.agg (C14 hd5 (.slice A macH.length cap)), .agg #[.slice R r2H.length rc]] w (SendPost A macH.length cap okr w hd5 r2H [] false) :=
  send_head A macH.length cap R rc r2H hd5 w okr hr hc (by decide +kernel) (by decide +kernel) (by decide +kernel)
include hm hmc in
theorem recvH (hr : Kd.F (Kd.int .u8) w okr R r2H.length r2H) (hc : r2H.length ≤ rc) (FA : Option Addr) (fc : Nat) (okf : Nat → Prop) (hf : Kd.F (Kd.int .u8) w okf FA frH.length frH) (hfc : frH.length ≤ fc) : Calls Try.prog 27 #[.agg (C14 hd5 (.slice A macH.length cap)), .agg #[.slice R r2H.length rc], .slice FA frH.length fc] w (RecvPost A macH.length cap okr w (dropC hd5) r2H false) :=
  recv_no A cap macH R rc r2H FA fc frH hd5 w ok okr okf hm hmc hr hc hf hfc (by decide +kernel) (by decide +kernel)
end
end Go.Proofs.Ytdblpflepfcnjaa.Q
end
section
/- What must come at any rate: the walk. -/
namespace Go.Proofs.Ytdblpflepfcnjaa.Q
open Go.RowKit Go.Proofs.YtdblpflepfcnjaaW.PrintWords Go.Proofs.YtdblpflepfcnjaaW.PrintLast Go.Proofs.YtdblpflepfcnjaaW.PrintMore Go.Proofs.Ytdblpflepfcnjaa.L
attribute [local go_sem] Instr.field part asAgg lt_step max2_int min2_int max_two min_two max_three min_three max_four min_four lt_0_1 lt_0_2 lt_1_2 lt_0_3 lt_1_3 lt_2_3 lt_0_4 lt_1_4 lt_2_4 lt_3_4 lt_0_5 lt_1_5 lt_2_5 lt_3_5 lt_4_5 lt_0_6 lt_1_6 lt_2_6 lt_3_6 lt_4_6 lt_5_6 lt_0_7 lt_1_7 lt_2_7 lt_3_7 lt_4_7 lt_5_7 lt_6_7 lt_0_8 lt_1_8 lt_2_8 lt_3_8 lt_4_8 lt_5_8 lt_6_8 lt_7_8
set_option linter.unusedVariables false
set_option linter.unusedSimpArgs false
def drawbridgelaw12_heads.f : Option Bool := some true
set_option maxHeartbeats 1600000 in
set_option maxRecDepth 100000 in
theorem heads_is (w : World) : Calls Try.prog 10 #[] w fun e w' => e = .returned (.bool true) ∧ Below w.heap.size w w' := by
  have HB := Aside0.mk (Below.refl w.heap.size w)
  have hu := Try.underlying25
  have hu7 := Try.underlying27
  have hmk : ∀ W : World, (Instr.makeSlice 23 (.int .i64 64) (.int .i64 64)).run Try.prog W = .ok (.slice (some ⟨W.heap.size, 0, none⟩) 64 64) (W.alloc (.cells (Array.replicate 64 (.int .u8 0)) 5 (0, 0))) := fun _ => by kernel_rfl
  go_enter Try.func10, Try.ntmps10
  go_wp2_with fail
  (go_at_call 17; (with_reducible refine (newH _ _ (nb_1 _ _)).mono ?_); rintro e_ w1 ⟨A_m, c_m, rfl, hc_m, hr_m, hb_⟩; have HB_ : Aside0 (Below w.heap.size w w1) := Aside0.mk (below_step (bG HB) hb_); have hzw1 := hb_.size; (try simp at hzw1); clear HB hb_; have HB := HB_; clear HB_; have mc := Aside0.mk hc_m; have m := Aside0.mk (Kd.F_bound hr_m); clear hc_m hr_m; skip)
  go_wp2_with (first | ((with_reducible refine gate_store (t := 25) (p := 1) (v := .tmp 23) rfl ?_); refine wpList_store_all rfl 25 _ _ rfl rfl _ (C14 new1 (.slice A_m macH.length c_m)) (by rfl) (by rfl) _ _ (nb_1 _ _) rfl i25 (C14_one _ _ _ _) ?_; rintro w2 ⟨hx_, hk_, hb_, hzz_⟩; have HB_ : Aside0 (Below w.heap.size w w2) := Aside0.mk (Below.trans (bG HB) (Below.mono hb_ (by first | omega | (simp only [sz_alloc, sz_drew, sz_drewN]; omega)))); have hzw2 := Nat.le_of_eq hzz_.symm; (try simp at hzw2); clear hzz_; have m_ := Aside0.mk (Kd.F_step (fG m) (fun j_ hj_ hl_ => hk_ j_ (by (try dsimp only at hj_); (try simp only [sz_alloc, sz_drew, sz_drewN, sz_set] at hj_); omega))); clear m; have m := m_; clear m_; (try clear on onc onf onl); have on := Aside0.mk hx_; obtain ⟨onc, onf, onl⟩ := cells_of on.out; clear HB hb_ hk_ hx_; have HB := HB_; clear HB_))
  (go_at_call 17; (with_reducible refine (newN _).mono ?_); rintro e_ w3 ⟨rfl, hb_⟩; have HB_ : Aside0 (Below w.heap.size w w3) := Aside0.mk (below_step (bG HB) hb_); have hzw3 := hb_.size; (try simp at hzw3); have on_ := Aside0.mk (box_below hb_ (eG on)); have m_ := Aside0.mk (Kd.F_below (fG m) hb_); clear m; have m := m_; clear m_; (try clear on onc onf onl); have on := on_; clear on_; obtain ⟨onc, onf, onl⟩ := cells_of on.out; clear HB hb_; have HB := HB_; clear HB_)
  go_wp2_with (first | ((with_reducible refine gate_store (t := 25) (p := 3) (v := .tmp 27) rfl ?_); refine wpList_store_all rfl 25 _ _ rfl rfl _ (C14 new0 (.slice none 0 0)) (by rfl) (by rfl) _ _ (nb_1 _ _) rfl i25 (C14_one _ _ _ _) ?_; rintro w4 ⟨hx_, hk_, hb_, hzz_⟩; have HB_ : Aside0 (Below w.heap.size w w4) := Aside0.mk (Below.trans (bG HB) (Below.mono hb_ (by first | omega | (simp only [sz_alloc, sz_drew, sz_drewN]; omega)))); have hzw4 := Nat.le_of_eq hzz_.symm; (try simp at hzw4); clear hzz_; have on_ := Aside0.mk (st_put on.out hk_ (fun h_ => (by repeat (with_reducible first | exact h_ | apply ext_drew | apply ext_drewN | apply ext_alloc | refine blk_far ?_ (by show _ ≠ _; dsimp only; omega) _))) (by omega)); clear on onc onf onl; have on := on_; clear on_; obtain ⟨onc, onf, onl⟩ := cells_of on.out; have m_ := Aside0.mk (Kd.F_step (fG m) (fun j_ hj_ hl_ => hk_ j_ (by (try dsimp only at hj_); (try simp only [sz_alloc, sz_drew, sz_drewN, sz_set] at hj_); omega))); clear m; have m := m_; clear m_; (try clear ox oxc oxf oxl); have ox := Aside0.mk hx_; obtain ⟨oxc, oxf, oxl⟩ := cells_of ox.out; clear HB hb_ hk_ hx_; have HB := HB_; clear HB_) | ((with_reducible refine gate_dst (N := 30) rfl ?_); (try (refine gate_guard (by rfl) ?_; dsimp only)); refine wpList_load_row rfl 25 _ rfl _ (by rfl) _ (C14 new1 (.slice A_m macH.length c_m)) _ _ (eG on) Try.underlying25 rfl i25 ?_))
  (go_at_call 15; (with_reducible refine (storeH1 A_m c_m _ _ (fG m) mc.out).mono ?_); rintro e_ w5 ⟨rfl, hb_⟩; have HB_ : Aside0 (Below w.heap.size w w5) := Aside0.mk (below_step (bG HB) hb_); have hzw5 := hb_.size; (try simp at hzw5); have on_ := Aside0.mk (box_below hb_ (eG on)); have m_ := Aside0.mk (Kd.F_below (fG m) hb_); clear m; have m := m_; clear m_; (try clear on onc onf onl); have on := on_; clear on_; obtain ⟨onc, onf, onl⟩ := cells_of on.out; clear HB hb_; have HB := HB_; clear HB_)
  go_wp2_with (first | ((with_reducible refine gate_store (t := 25) (p := 1) (v := .tmp 32) rfl ?_); refine wpList_store_all rfl 25 _ _ rfl rfl _ (C14 hd1 (.slice A_m macH.length c_m)) (by rfl) (by rfl) _ _ on.out rfl i25 (C14_one _ _ _ _) ?_; rintro w6 ⟨hx_, hk_, hb_, hzz_⟩; have HB_ : Aside0 (Below w.heap.size w w6) := Aside0.mk (Below.trans (bG HB) (Below.mono hb_ (by first | omega | (simp only [sz_alloc, sz_drew, sz_drewN]; omega)))); have hzw6 := Nat.le_of_eq hzz_.symm; (try simp at hzw6); clear hzz_; have m_ := Aside0.mk (Kd.F_step (fG m) (fun j_ hj_ hl_ => hk_ j_ (by (try dsimp only at hj_); (try simp only [sz_alloc, sz_drew, sz_drewN, sz_set] at hj_); omega))); clear m; have m := m_; clear m_; (try clear on onc onf onl); have on := Aside0.mk hx_; obtain ⟨onc, onf, onl⟩ := cells_of on.out; clear HB hb_ hk_ hx_; have HB := HB_; clear HB_) | ((with_reducible refine gate_dst (N := 35) rfl ?_); (try (refine gate_guard (by rfl) ?_; dsimp only)); refine wpList_load_row rfl 25 _ rfl _ (by rfl) _ (C14 hd1 (.slice A_m macH.length c_m)) _ _ (eG on) Try.underlying25 rfl i25 ?_))
  (go_at_call 15; (with_reducible refine (storeH2 A_m c_m _ _ (fG m) mc.out).mono ?_); rintro e_ w7 ⟨rfl, hb_⟩; have HB_ : Aside0 (Below w.heap.size w w7) := Aside0.mk (below_step (bG HB) hb_); have hzw7 := hb_.size; (try simp at hzw7); have on_ := Aside0.mk (box_below hb_ (eG on)); have m_ := Aside0.mk (Kd.F_below (fG m) hb_); clear m; have m := m_; clear m_; (try clear on onc onf onl); have on := on_; clear on_; obtain ⟨onc, onf, onl⟩ := cells_of on.out; clear HB hb_; have HB := HB_; clear HB_)
  go_wp2_with (first | ((with_reducible refine gate_store (t := 25) (p := 1) (v := .tmp 37) rfl ?_); refine wpList_store_all rfl 25 _ _ rfl rfl _ (C14 hd2 (.slice A_m macH.length c_m)) (by rfl) (by rfl) _ _ on.out rfl i25 (C14_one _ _ _ _) ?_; rintro w8 ⟨hx_, hk_, hb_, hzz_⟩; have HB_ : Aside0 (Below w.heap.size w w8) := Aside0.mk (Below.trans (bG HB) (Below.mono hb_ (by first | omega | (simp only [sz_alloc, sz_drew, sz_drewN]; omega)))); have hzw8 := Nat.le_of_eq hzz_.symm; (try simp at hzw8); clear hzz_; have m_ := Aside0.mk (Kd.F_step (fG m) (fun j_ hj_ hl_ => hk_ j_ (by (try dsimp only at hj_); (try simp only [sz_alloc, sz_drew, sz_drewN, sz_set] at hj_); omega))); clear m; have m := m_; clear m_; (try clear on onc onf onl); have on := Aside0.mk hx_; obtain ⟨onc, onf, onl⟩ := cells_of on.out; clear HB hb_ hk_ hx_; have HB := HB_; clear HB_) | ((with_reducible refine gate_dst (N := 40) rfl ?_); (try (refine gate_guard (by rfl) ?_; dsimp only)); refine wpList_load_row rfl 25 _ rfl _ (by rfl) _ (C14 hd2 (.slice A_m macH.length c_m)) _ _ (eG on) Try.underlying25 rfl i25 ?_))
  (go_at_call 15; (with_reducible refine (storeH3 A_m c_m _ _ (fG m) mc.out).mono ?_); rintro e_ w9 ⟨rfl, hb_⟩; have HB_ : Aside0 (Below w.heap.size w w9) := Aside0.mk (below_step (bG HB) hb_); have hzw9 := hb_.size; (try simp at hzw9); have on_ := Aside0.mk (box_below hb_ (eG on)); have m_ := Aside0.mk (Kd.F_below (fG m) hb_); clear m; have m := m_; clear m_; (try clear on onc onf onl); have on := on_; clear on_; obtain ⟨onc, onf, onl⟩ := cells_of on.out; clear HB hb_; have HB := HB_; clear HB_)
  go_wp2_with (first | ((with_reducible refine gate_store (t := 25) (p := 1) (v := .tmp 42) rfl ?_); refine wpList_store_all rfl 25 _ _ rfl rfl _ (C14 hd3 (.slice A_m macH.length c_m)) (by rfl) (by rfl) _ _ on.out rfl i25 (C14_one _ _ _ _) ?_; rintro w10 ⟨hx_, hk_, hb_, hzz_⟩; have HB_ : Aside0 (Below w.heap.size w w10) := Aside0.mk (Below.trans (bG HB) (Below.mono hb_ (by first | omega | (simp only [sz_alloc, sz_drew, sz_drewN]; omega)))); have hzw10 := Nat.le_of_eq hzz_.symm; (try simp at hzw10); clear hzz_; have m_ := Aside0.mk (Kd.F_step (fG m) (fun j_ hj_ hl_ => hk_ j_ (by (try dsimp only at hj_); (try simp only [sz_alloc, sz_drew, sz_drewN, sz_set] at hj_); omega))); clear m; have m := m_; clear m_; (try clear on onc onf onl); have on := Aside0.mk hx_; obtain ⟨onc, onf, onl⟩ := cells_of on.out; clear HB hb_ hk_ hx_; have HB := HB_; clear HB_) | ((with_reducible refine gate_dst (N := 45) rfl ?_); (try (refine gate_guard (by rfl) ?_; dsimp only)); refine wpList_load_row rfl 25 _ rfl _ (by rfl) _ (C14 hd3 (.slice A_m macH.length c_m)) _ _ (eG on) Try.underlying25 rfl i25 ?_))
  (go_at_call 15; (with_reducible refine (storeH4 A_m c_m _ _ (fG m) mc.out).mono ?_); rintro e_ w11 ⟨rfl, hb_⟩; have HB_ : Aside0 (Below w.heap.size w w11) := Aside0.mk (below_step (bG HB) hb_); have hzw11 := hb_.size; (try simp at hzw11); have on_ := Aside0.mk (box_below hb_ (eG on)); have m_ := Aside0.mk (Kd.F_below (fG m) hb_); clear m; have m := m_; clear m_; (try clear on onc onf onl); have on := on_; clear on_; obtain ⟨onc, onf, onl⟩ := cells_of on.out; clear HB hb_; have HB := HB_; clear HB_)
  go_wp2_with (first | ((with_reducible refine gate_store (t := 25) (p := 1) (v := .tmp 47) rfl ?_); refine wpList_store_all rfl 25 _ _ rfl rfl _ (C14 hd4 (.slice A_m macH.length c_m)) (by rfl) (by rfl) _ _ on.out rfl i25 (C14_one _ _ _ _) ?_; rintro w12 ⟨hx_, hk_, hb_, hzz_⟩; have HB_ : Aside0 (Below w.heap.size w w12) := Aside0.mk (Below.trans (bG HB) (Below.mono hb_ (by first | omega | (simp only [sz_alloc, sz_drew, sz_drewN]; omega)))); have hzw12 := Nat.le_of_eq hzz_.symm; (try simp at hzw12); clear hzz_; have m_ := Aside0.mk (Kd.F_step (fG m) (fun j_ hj_ hl_ => hk_ j_ (by (try dsimp only at hj_); (try simp only [sz_alloc, sz_drew, sz_drewN, sz_set] at hj_); omega))); clear m; have m := m_; clear m_; (try clear on onc onf onl); have on := Aside0.mk hx_; obtain ⟨onc, onf, onl⟩ := cells_of on.out; clear HB hb_ hk_ hx_; have HB := HB_; clear HB_))
  (go_at_call 31; (with_reducible refine (fillH _ _ _ (ext_alloc (ext_alloc (nb_1 _ _) _) _) (nb_3 w12 _ _ _)).mono ?_); rintro e_ w13 ⟨A_r, c_r, rfl, hc_r, hr_r, hb_⟩; have HB_ : Aside0 (Below w.heap.size w w13) := Aside0.mk (below_step (bG HB) hb_); have hzw13 := hb_.size; (try simp at hzw13); have on_ := Aside0.mk (box_below hb_ (eG on)); have orr_ := Aside0.mk (box_below hb_ (by repeat (with_reducible first | exact nb_2 w12 _ _ | apply ext_drew | apply ext_drewN | apply ext_alloc | refine blk_far ?_ (by show _ ≠ _; dsimp only; omega) _))); have m_ := Aside0.mk (Kd.F_below (fG m) hb_); clear m; have m := m_; clear m_; (try clear on onc onf onl); have on := on_; clear on_; obtain ⟨onc, onf, onl⟩ := cells_of on.out; (try clear orr orrc orrf orrl); have orr := orr_; clear orr_; obtain ⟨orrc, orrf, orrl⟩ := cells_of orr.out; clear HB hb_; have HB := HB_; clear HB_; have rc := Aside0.mk hc_r; have r := Aside0.mk (Kd.F_bound hr_r); clear hc_r hr_r; skip)
  go_upto_region 9 with fail
  (have m_ := Aside0.mk (Kd.F_far (p := ⟨w12.heap.size + 1, 0, none⟩) m.out (fun j_ hj_ => by (try dsimp only at hj_); (try dsimp only); (try simp only [sz_alloc, sz_drew, sz_drewN, sz_set] at hj_); omega) (.slice A_r r1H.length c_r)); clear m; have m := m_; clear m_; have r_ := Aside0.mk (Kd.F_far (p := ⟨w12.heap.size + 1, 0, none⟩) r.out (fun j_ hj_ => by (try dsimp only at hj_); (try dsimp only); (try simp only [sz_alloc, sz_drew, sz_drewN, sz_set] at hj_); omega) (.slice A_r r1H.length c_r)); clear r; have r := r_; clear r_; have on_ := Aside0.mk (blk_far (p := ⟨w12.heap.size + 1, 0, none⟩) on.out (by show _ ≠ _; dsimp only; omega) (.slice A_r r1H.length c_r)); clear on onc onf onl; have on := on_; clear on_; obtain ⟨onc, onf, onl⟩ := cells_of on.out; have orr_ := Aside0.mk (blk_put orr.out 0 (.slice A_r r1H.length c_r) (cs' := #[.slice A_r r1H.length c_r]) rfl); clear orr orrc orrf orrl; have orr := orr_; clear orr_; obtain ⟨orrc, orrf, orrl⟩ := cells_of orr.out)
  go_wp2_with (first | ((with_reducible refine gate_dst (N := 58) rfl ?_); (try (refine gate_guard (by rfl) ?_; dsimp only)); refine wpList_load_row rfl 25 _ rfl _ (by rfl) _ (C14 hd4 (.slice A_m macH.length c_m)) _ _ (eG on) Try.underlying25 rfl i25 ?_))
  (go_at_call 11; (with_reducible refine (sendH1 A_m c_m _ A_r c_r _ (fG r) rc.out).mono ?_); rintro e_ w14 ⟨A_s, c_s, A_q, c_q, rfl, hc_s, hr_s, hc_q, hr_q, hb_⟩; have HB_ : Aside0 (Below w.heap.size w w14) := Aside0.mk (below_step (bG HB) hb_); have hzw14 := hb_.size; (try simp at hzw14); have on_ := Aside0.mk (box_below hb_ (eG on)); have orr_ := Aside0.mk (box_below hb_ (eG orr)); have m_ := Aside0.mk (Kd.F_below (fG m) hb_); clear m; have m := m_; clear m_; (try clear on onc onf onl); have on := on_; clear on_; obtain ⟨onc, onf, onl⟩ := cells_of on.out; (try clear orr orrc orrf orrl); have orr := orr_; clear orr_; obtain ⟨orrc, orrf, orrl⟩ := cells_of orr.out; clear HB hb_; have HB := HB_; clear HB_; have sc := Aside0.mk hc_s; have s := Aside0.mk (Kd.F_bound hr_s); clear hc_s hr_s; have qc := Aside0.mk hc_q; have q := Aside0.mk (Kd.F_bound hr_q); clear hc_q hr_q; skip)
  have os := Aside0.mk (nb_2 w14 (.cells #[.int .i64 0, .int .i64 0, .int .i64 0, .int .u64 0, .int .i64 0, .int .i64 0, .int .i64 0, .int .u64 0, .int .i64 0, .int .i64 0, .int .i64 0, .int .i64 0, .int .i64 0, .slice none 0 0] 25 (0, 0)) (.cells #[.slice none 0 0] 27 (0, 0)))
  obtain ⟨osc, osf, osl⟩ := cells_of os.out
  go_upto_region 10 with (first | ((with_reducible refine gate_store (t := 25) (p := 7) (v := .tmp 61) rfl ?_); refine wpList_store_all rfl 25 _ _ rfl rfl _ (C14 hd5 (.slice A_m macH.length c_m)) (by rfl) (by rfl) _ _ (ext_alloc (nb_1 _ _) _) rfl i25 (C14_one _ _ _ _) ?_; rintro w15 ⟨hx_, hk_, hb_, hzz_⟩; have HB_ : Aside0 (Below w.heap.size w w15) := Aside0.mk (Below.trans (bG HB) (Below.mono hb_ (by first | omega | (simp only [sz_alloc, sz_drew, sz_drewN]; omega)))); have hzw15 := Nat.le_of_eq hzz_.symm; (try simp at hzw15); clear hzz_; have os_ := Aside0.mk (st_put os.out hk_ (fun h_ => (by repeat (with_reducible first | exact h_ | apply ext_drew | apply ext_drewN | apply ext_alloc | refine blk_far ?_ (by show _ ≠ _; dsimp only; omega) _))) (by omega)); clear os osc osf osl; have os := os_; clear os_; obtain ⟨osc, osf, osl⟩ := cells_of os.out; have m_ := Aside0.mk (Kd.F_step (fG m) (fun j_ hj_ hl_ => hk_ j_ (by (try dsimp only at hj_); (try simp only [sz_alloc, sz_drew, sz_drewN, sz_set] at hj_); omega))); clear m; have m := m_; clear m_; have s_ := Aside0.mk (Kd.F_step (fG s) (fun j_ hj_ hl_ => hk_ j_ (by (try dsimp only at hj_); (try simp only [sz_alloc, sz_drew, sz_drewN, sz_set] at hj_); omega))); clear s; have s := s_; clear s_; have q_ := Aside0.mk (Kd.F_step (fG q) (fun j_ hj_ hl_ => hk_ j_ (by (try dsimp only at hj_); (try simp only [sz_alloc, sz_drew, sz_drewN, sz_set] at hj_); omega))); clear q; have q := q_; clear q_; (try clear om omc omf oml); have om := Aside0.mk hx_; obtain ⟨omc, omf, oml⟩ := cells_of om.out; clear HB hb_ hk_ hx_; have HB := HB_; clear HB_))
  (have m_ := Aside0.mk (Kd.F_far (p := ⟨w14.heap.size + 1, 0, none⟩) m.out (fun j_ hj_ => by (try dsimp only at hj_); (try dsimp only); (try simp only [sz_alloc, sz_drew, sz_drewN, sz_set] at hj_); omega) (.slice A_s r2H.length c_s)); clear m; have m := m_; clear m_; have s_ := Aside0.mk (Kd.F_far (p := ⟨w14.heap.size + 1, 0, none⟩) s.out (fun j_ hj_ => by (try dsimp only at hj_); (try dsimp only); (try simp only [sz_alloc, sz_drew, sz_drewN, sz_set] at hj_); omega) (.slice A_s r2H.length c_s)); clear s; have s := s_; clear s_; have q_ := Aside0.mk (Kd.F_far (p := ⟨w14.heap.size + 1, 0, none⟩) q.out (fun j_ hj_ => by (try dsimp only at hj_); (try dsimp only); (try simp only [sz_alloc, sz_drew, sz_drewN, sz_set] at hj_); omega) (.slice A_s r2H.length c_s)); clear q; have q := q_; clear q_; have om_ := Aside0.mk (blk_far (p := ⟨w14.heap.size + 1, 0, none⟩) om.out (by show _ ≠ _; dsimp only; omega) (.slice A_s r2H.length c_s)); clear om omc omf oml; have om := om_; clear om_; obtain ⟨omc, omf, oml⟩ := cells_of om.out; have os_ := Aside0.mk (blk_put os.out 0 (.slice A_s r2H.length c_s) (cs' := #[.slice A_s r2H.length c_s]) rfl); clear os osc osf osl; have os := os_; clear os_; obtain ⟨osc, osf, osl⟩ := cells_of os.out)
  go_wp2_with (first | ((with_reducible refine gate_dst (N := 66) rfl ?_); (try (refine gate_guard (by rfl) ?_; dsimp only)); refine wpList_load_row rfl 25 _ rfl _ (by rfl) _ (C14 hd5 (.slice A_m macH.length c_m)) _ _ (eG om) Try.underlying25 rfl i25 ?_))
  (go_at_call 11; (with_reducible refine (sendH2 A_m c_m _ A_s c_s _ (fG s) sc.out).mono ?_); rintro e_ w16 ⟨A_s2, c_s2, A_q2, c_q2, rfl, hc_s2, hr_s2, hc_q2, hr_q2, hb_⟩; have HB_ : Aside0 (Below w.heap.size w w16) := Aside0.mk (below_step (bG HB) hb_); have hzw16 := hb_.size; (try simp at hzw16); have om_ := Aside0.mk (box_below hb_ (eG om)); have os_ := Aside0.mk (box_below hb_ (eG os)); have m_ := Aside0.mk (Kd.F_below (fG m) hb_); clear m; have m := m_; clear m_; have s_ := Aside0.mk (Kd.F_below (fG s) hb_); clear s; have s := s_; clear s_; have q_ := Aside0.mk (Kd.F_below (fG q) hb_); clear q; have q := q_; clear q_; (try clear om omc omf oml); have om := om_; clear om_; obtain ⟨omc, omf, oml⟩ := cells_of om.out; (try clear os osc osf osl); have os := os_; clear os_; obtain ⟨osc, osf, osl⟩ := cells_of os.out; clear HB hb_; have HB := HB_; clear HB_; have s2c := Aside0.mk hc_s2; have s2 := Aside0.mk (Kd.F_bound hr_s2); clear hc_s2 hr_s2; have q2c := Aside0.mk hc_q2; have q2 := Aside0.mk (Kd.F_bound hr_q2); clear hc_q2 hr_q2; skip)
  have oz := Aside0.mk (nb_2 w16 (.cells #[.int .i64 0, .int .i64 0, .int .i64 0, .int .u64 0, .int .i64 0, .int .i64 0, .int .i64 0, .int .u64 0, .int .i64 0, .int .i64 0, .int .i64 0, .int .i64 0, .int .i64 0, .slice none 0 0] 25 (0, 0)) (.cells #[.slice none 0 0] 27 (0, 0)))
  obtain ⟨ozc, ozf, ozl⟩ := cells_of oz.out
  go_upto_region 11 with (first | ((with_reducible refine gate_store (t := 25) (p := 11) (v := .tmp 69) rfl ?_); refine wpList_store_all rfl 25 _ _ rfl rfl _ (C14 hd5 (.slice A_m macH.length c_m)) (by rfl) (by rfl) _ _ (ext_alloc (nb_1 _ _) _) rfl i25 (C14_one _ _ _ _) ?_; rintro w17 ⟨hx_, hk_, hb_, hzz_⟩; have HB_ : Aside0 (Below w.heap.size w w17) := Aside0.mk (Below.trans (bG HB) (Below.mono hb_ (by first | omega | (simp only [sz_alloc, sz_drew, sz_drewN]; omega)))); have hzw17 := Nat.le_of_eq hzz_.symm; (try simp at hzw17); clear hzz_; have oz_ := Aside0.mk (st_put oz.out hk_ (fun h_ => (by repeat (with_reducible first | exact h_ | apply ext_drew | apply ext_drewN | apply ext_alloc | refine blk_far ?_ (by show _ ≠ _; dsimp only; omega) _))) (by omega)); clear oz ozc ozf ozl; have oz := oz_; clear oz_; obtain ⟨ozc, ozf, ozl⟩ := cells_of oz.out; have om_ := Aside0.mk (st_put om.out hk_ (fun h_ => (by repeat (with_reducible first | exact h_ | apply ext_drew | apply ext_drewN | apply ext_alloc | refine blk_far ?_ (by show _ ≠ _; dsimp only; omega) _))) (by omega)); clear om omc omf oml; have om := om_; clear om_; obtain ⟨omc, omf, oml⟩ := cells_of om.out; have os_ := Aside0.mk (st_put os.out hk_ (fun h_ => (by repeat (with_reducible first | exact h_ | apply ext_drew | apply ext_drewN | apply ext_alloc | refine blk_far ?_ (by show _ ≠ _; dsimp only; omega) _))) (by omega)); clear os osc osf osl; have os := os_; clear os_; obtain ⟨osc, osf, osl⟩ := cells_of os.out; have m_ := Aside0.mk (Kd.F_step (fG m) (fun j_ hj_ hl_ => hk_ j_ (by (try dsimp only at hj_); (try simp only [sz_alloc, sz_drew, sz_drewN, sz_set] at hj_); omega))); clear m; have m := m_; clear m_; have s_ := Aside0.mk (Kd.F_step (fG s) (fun j_ hj_ hl_ => hk_ j_ (by (try dsimp only at hj_); (try simp only [sz_alloc, sz_drew, sz_drewN, sz_set] at hj_); omega))); clear s; have s := s_; clear s_; have q_ := Aside0.mk (Kd.F_step (fG q) (fun j_ hj_ hl_ => hk_ j_ (by (try dsimp only at hj_); (try simp only [sz_alloc, sz_drew, sz_drewN, sz_set] at hj_); omega))); clear q; have q := q_; clear q_; (try clear oy oyc oyf oyl); have oy := Aside0.mk hx_; obtain ⟨oyc, oyf, oyl⟩ := cells_of oy.out; clear HB hb_ hk_ hx_; have HB := HB_; clear HB_))
  (have m_ := Aside0.mk (Kd.F_far (p := ⟨w16.heap.size + 1, 0, none⟩) m.out (fun j_ hj_ => by (try dsimp only at hj_); (try dsimp only); (try simp only [sz_alloc, sz_drew, sz_drewN, sz_set] at hj_); omega) (.slice A_s2 r2H.length c_s2)); clear m; have m := m_; clear m_; have s_ := Aside0.mk (Kd.F_far (p := ⟨w16.heap.size + 1, 0, none⟩) s.out (fun j_ hj_ => by (try dsimp only at hj_); (try dsimp only); (try simp only [sz_alloc, sz_drew, sz_drewN, sz_set] at hj_); omega) (.slice A_s2 r2H.length c_s2)); clear s; have s := s_; clear s_; have q_ := Aside0.mk (Kd.F_far (p := ⟨w16.heap.size + 1, 0, none⟩) q.out (fun j_ hj_ => by (try dsimp only at hj_); (try dsimp only); (try simp only [sz_alloc, sz_drew, sz_drewN, sz_set] at hj_); omega) (.slice A_s2 r2H.length c_s2)); clear q; have q := q_; clear q_; have om_ := Aside0.mk (blk_far (p := ⟨w16.heap.size + 1, 0, none⟩) om.out (by show _ ≠ _; dsimp only; omega) (.slice A_s2 r2H.length c_s2)); clear om omc omf oml; have om := om_; clear om_; obtain ⟨omc, omf, oml⟩ := cells_of om.out; have os_ := Aside0.mk (blk_far (p := ⟨w16.heap.size + 1, 0, none⟩) os.out (by show _ ≠ _; dsimp only; omega) (.slice A_s2 r2H.length c_s2)); clear os osc osf osl; have os := os_; clear os_; obtain ⟨osc, osf, osl⟩ := cells_of os.out; have oz_ := Aside0.mk (blk_put oz.out 0 (.slice A_s2 r2H.length c_s2) (cs' := #[.slice A_s2 r2H.length c_s2]) rfl); clear oz ozc ozf ozl; have oz := oz_; clear oz_; obtain ⟨ozc, ozf, ozl⟩ := cells_of oz.out)
  go_wp2_with (first | ((with_reducible refine gate_dst (N := 74) rfl ?_); (try (refine gate_guard (by rfl) ?_; dsimp only)); refine wpList_load_row rfl 25 _ rfl _ (by rfl) _ (C14 hd5 (.slice A_m macH.length c_m)) _ _ (eG om) Try.underlying25 rfl i25 ?_))
  (go_at_call 13; (with_reducible refine (loadH A_m c_m _ _ (fG m) mc.out).mono ?_); rintro e_ w18 ⟨rfl, hb_⟩; have HB_ : Aside0 (Below w.heap.size w w18) := Aside0.mk (below_step (bG HB) hb_); have hzw18 := hb_.size; (try simp at hzw18); have om_ := Aside0.mk (box_below hb_ (eG om)); have os_ := Aside0.mk (box_below hb_ (eG os)); have m_ := Aside0.mk (Kd.F_below (fG m) hb_); clear m; have m := m_; clear m_; have s_ := Aside0.mk (Kd.F_below (fG s) hb_); clear s; have s := s_; clear s_; have q_ := Aside0.mk (Kd.F_below (fG q) hb_); clear q; have q := q_; clear q_; (try clear om omc omf oml); have om := om_; clear om_; obtain ⟨omc, omf, oml⟩ := cells_of om.out; (try clear os osc osf osl); have os := os_; clear os_; obtain ⟨osc, osf, osl⟩ := cells_of os.out; clear HB hb_; have HB := HB_; clear HB_)
  go_wp2_with (first | ((with_reducible refine gate_dst (N := 79) rfl ?_); (try (refine gate_guard (by rfl) ?_; dsimp only)); refine wpList_load_row rfl 25 _ rfl _ (by rfl) _ (C14 hd5 (.slice A_m macH.length c_m)) _ _ (eG om) Try.underlying25 rfl i25 ?_))
  (go_at_call 27; (with_reducible refine (recvH A_m c_m _ _ (fG m) mc.out A_s c_s _ (fG s) sc.out A_q c_q _ (fG q) qc.out).mono ?_); rintro e_ w19 ⟨A_s3, c_s3, rfl, hc_s3, hr_s3, hb_⟩; have HB_ : Aside0 (Below w.heap.size w w19) := Aside0.mk (below_step (bG HB) hb_); have hzw19 := hb_.size; (try simp at hzw19); have om_ := Aside0.mk (box_below hb_ (eG om)); have os_ := Aside0.mk (box_below hb_ (eG os)); have m_ := Aside0.mk (Kd.F_below (fG m) hb_); clear m; have m := m_; clear m_; have s_ := Aside0.mk (Kd.F_below (fG s) hb_); clear s; have s := s_; clear s_; (try clear om omc omf oml); have om := om_; clear om_; obtain ⟨omc, omf, oml⟩ := cells_of om.out; (try clear os osc osf osl); have os := os_; clear os_; obtain ⟨osc, osf, osl⟩ := cells_of os.out; clear HB hb_; have HB := HB_; clear HB_; have s3c := Aside0.mk hc_s3; have s3 := Aside0.mk (Kd.F_bound hr_s3); clear hc_s3 hr_s3; skip)
  have of := Aside0.mk (nb_2 w19 (.cells #[.int .i64 0, .int .i64 0, .int .i64 0, .int .u64 0, .int .i64 0, .int .i64 0, .int .i64 0, .int .u64 0, .int .i64 0, .int .i64 0, .int .i64 0, .int .i64 0, .int .i64 0, .slice none 0 0] 25 (0, 0)) (.cells #[.slice none 0 0] 27 (0, 0)))
  obtain ⟨ofc, off, ofl⟩ := cells_of of.out
  go_upto_region 13 with (first | ((with_reducible refine gate_store (t := 25) (p := 17) (v := .tmp 83) rfl ?_); refine wpList_store_all rfl 25 _ _ rfl rfl _ (C14 (dropC hd5) (.slice A_m macH.length c_m)) (by rfl) (by rfl) _ _ (ext_alloc (nb_1 _ _) _) rfl i25 (C14_one _ _ _ _) ?_; rintro w20 ⟨hx_, hk_, hb_, hzz_⟩; have HB_ : Aside0 (Below w.heap.size w w20) := Aside0.mk (Below.trans (bG HB) (Below.mono hb_ (by first | omega | (simp only [sz_alloc, sz_drew, sz_drewN]; omega)))); have hzw20 := Nat.le_of_eq hzz_.symm; (try simp at hzw20); clear hzz_; have of_ := Aside0.mk (st_put of.out hk_ (fun h_ => (by repeat (with_reducible first | exact h_ | apply ext_drew | apply ext_drewN | apply ext_alloc | refine blk_far ?_ (by show _ ≠ _; dsimp only; omega) _))) (by omega)); clear of ofc off ofl; have of := of_; clear of_; obtain ⟨ofc, off, ofl⟩ := cells_of of.out; have om_ := Aside0.mk (st_put om.out hk_ (fun h_ => (by repeat (with_reducible first | exact h_ | apply ext_drew | apply ext_drewN | apply ext_alloc | refine blk_far ?_ (by show _ ≠ _; dsimp only; omega) _))) (by omega)); clear om omc omf oml; have om := om_; clear om_; obtain ⟨omc, omf, oml⟩ := cells_of om.out; have os_ := Aside0.mk (st_put os.out hk_ (fun h_ => (by repeat (with_reducible first | exact h_ | apply ext_drew | apply ext_drewN | apply ext_alloc | refine blk_far ?_ (by show _ ≠ _; dsimp only; omega) _))) (by omega)); clear os osc osf osl; have os := os_; clear os_; obtain ⟨osc, osf, osl⟩ := cells_of os.out; have m_ := Aside0.mk (Kd.F_step (fG m) (fun j_ hj_ hl_ => hk_ j_ (by (try dsimp only at hj_); (try simp only [sz_alloc, sz_drew, sz_drewN, sz_set] at hj_); omega))); clear m; have m := m_; clear m_; have s_ := Aside0.mk (Kd.F_step (fG s) (fun j_ hj_ hl_ => hk_ j_ (by (try dsimp only at hj_); (try simp only [sz_alloc, sz_drew, sz_drewN, sz_set] at hj_); omega))); clear s; have s := s_; clear s_; (try clear oe oec oef oel); have oe := Aside0.mk hx_; obtain ⟨oec, oef, oel⟩ := cells_of oe.out; clear HB hb_ hk_ hx_; have HB := HB_; clear HB_))
  (have m_ := Aside0.mk (Kd.F_far (p := ⟨w19.heap.size + 1, 0, none⟩) m.out (fun j_ hj_ => by (try dsimp only at hj_); (try dsimp only); (try simp only [sz_alloc, sz_drew, sz_drewN, sz_set] at hj_); omega) (.slice A_s3 r2H.length c_s3)); clear m; have m := m_; clear m_; have s_ := Aside0.mk (Kd.F_far (p := ⟨w19.heap.size + 1, 0, none⟩) s.out (fun j_ hj_ => by (try dsimp only at hj_); (try dsimp only); (try simp only [sz_alloc, sz_drew, sz_drewN, sz_set] at hj_); omega) (.slice A_s3 r2H.length c_s3)); clear s; have s := s_; clear s_; have om_ := Aside0.mk (blk_far (p := ⟨w19.heap.size + 1, 0, none⟩) om.out (by show _ ≠ _; dsimp only; omega) (.slice A_s3 r2H.length c_s3)); clear om omc omf oml; have om := om_; clear om_; obtain ⟨omc, omf, oml⟩ := cells_of om.out; have os_ := Aside0.mk (blk_far (p := ⟨w19.heap.size + 1, 0, none⟩) os.out (by show _ ≠ _; dsimp only; omega) (.slice A_s3 r2H.length c_s3)); clear os osc osf osl; have os := os_; clear os_; obtain ⟨osc, osf, osl⟩ := cells_of os.out; have oe_ := Aside0.mk (blk_far (p := ⟨w19.heap.size + 1, 0, none⟩) oe.out (by show _ ≠ _; dsimp only; omega) (.slice A_s3 r2H.length c_s3)); clear oe oec oef oel; have oe := oe_; clear oe_; obtain ⟨oec, oef, oel⟩ := cells_of oe.out; have of_ := Aside0.mk (blk_put of.out 0 (.slice A_s3 r2H.length c_s3) (cs' := #[.slice A_s3 r2H.length c_s3]) rfl); clear of ofc off ofl; have of := of_; clear of_; obtain ⟨ofc, off, ofl⟩ := cells_of of.out)
  obtain ⟨sb, so, esb, hsc⟩ := F_cell' s.out (by decide +kernel)
  subst esb
  have hs10 := hsc 10 (by decide +kernel)
  have hs12 := hsc 12 (by decide +kernel)
  have hb64 : ((r2H.length : Int) == 64) = true := by decide +kernel
  have hb14 : ((frH.length : Int) == 14) = true := by decide +kernel
  have hi64 : (r2H.length : Int) = 64 ↔ True := by decide +kernel
  have hi14 : (frH.length : Int) = 14 ↔ True := by decide +kernel
  have hi10 : (10 : Int) < (r2H.length : Int) := by decide +kernel
  have hi12 : (12 : Int) < (r2H.length : Int) := by decide +kernel
  rw [show r2H.getD 10 0 = 0 from by decide +kernel] at hs10
  rw [show r2H.getD 12 0 = 1 from by decide +kernel] at hs12
  have hm1 := (omc 1).trans (show (C14 hd5 (.slice A_m macH.length c_m))[1]? = some (.int .i64 1) from congrArg (fun x => some (Value.int .i64 x)) (show hd5 1 = 1 from by decide +kernel))
  have he11 := (oec 11).trans (show (C14 (dropC hd5) (.slice A_m macH.length c_m))[11]? = some (.int .i64 1) from congrArg (fun x => some (Value.int .i64 x)) (show dropC hd5 11 = 1 from by decide +kernel))
  clear hsc omc oec
  go_wp2_with (first | ((with_reducible refine gate_dst (N := 146) rfl ?_); (try (refine gate_guard (by rfl) ?_; dsimp only)); refine wpList_load_row rfl 25 _ rfl _ (by rfl) _ (C14 (dropC hd5) (.slice A_m macH.length c_m)) _ _ (eG oe) Try.underlying25 rfl i25 ?_))
  (go_at_call 9; (with_reducible refine (Check_of true (dropC hd5) A_m macH.length c_m _ (by decide +kernel)).mono ?_); rintro e_ w21 ⟨rfl, hb_⟩; have HB_ : Aside0 (Below w.heap.size w w21) := Aside0.mk (below_step (bG HB) hb_); have hzw21 := hb_.size; (try simp at hzw21); have oe_ := Aside0.mk (box_below hb_ (eG oe)); (try clear oe oec oef oel); have oe := oe_; clear oe_; obtain ⟨oec, oef, oel⟩ := cells_of oe.out; clear HB hb_; have HB := HB_; clear HB_)
  go_wp2_with (first | ((with_reducible refine gate_dst (N := 150) rfl ?_); (try (refine gate_guard (by rfl) ?_; dsimp only)); refine wpList_load_row rfl 25 _ rfl _ (by rfl) _ (C14 (dropC hd5) (.slice A_m macH.length c_m)) _ _ (eG oe) Try.underlying25 rfl i25 ?_))
  (go_at_call 21; (with_reducible refine (lineH A_m c_m _).mono ?_); rintro e_ w22 ⟨rfl, hb_⟩; have HB_ : Aside0 (Below w.heap.size w w22) := Aside0.mk (below_step (bG HB) hb_); have hzw22 := hb_.size; (try simp at hzw22); have oe_ := Aside0.mk (box_below hb_ (eG oe)); (try clear oe oec oef oel); have oe := oe_; clear oe_; obtain ⟨oec, oef, oel⟩ := cells_of oe.out; clear HB hb_; have HB := HB_; clear HB_)
  go_wp2
  go_ret
  exact ⟨rfl, HB.out⟩
theorem drawbridgelaw12_heads.calls (r : Bool) (w : World) (h : drawbridgelaw12_heads.f = some r) : Calls Try.prog 10 #[] w fun e w' => e = .returned (.bool r) ∧ Below w.heap.size w w' := by
  obtain rfl := Option.some.inj h
  exact heads_is w
end Go.Proofs.Ytdblpflepfcnjaa.Q
end
section
/- nic.Send, whole. -/
namespace Go.Proofs.Ytdblpflepfcnjaa.Q
open Go.RowKit Go.Proofs.YtdblpflepfcnjaaW.PrintWords Go.Proofs.YtdblpflepfcnjaaW.PrintLast Go.Proofs.YtdblpflepfcnjaaW.PrintMore Go.Proofs.Ytdblpflepfcnjaa.L
set_option linter.unusedVariables false
section
variable (A : Option Addr) (m cap : Nat) (R : Option Addr) (rc : Nat) (l : List Int) (c : Nat → Int) (w : World) (ok : Nat → Prop) (hr : Kd.F (Kd.int .u8) w ok R l.length l) (hc : l.length ≤ rc) (hl : (l.length : Int) ≤ 70000) (hby : ∀ z ∈ l, byte z)
include hr hc hl hby
theorem Send_is : Calls Try.prog 11 #[.agg (C14 c (.slice A m cap)), .agg #[.slice R l.length rc]] w (SendPost A m cap ok w (sendZ c m l).1 (sendZ c m l).2.1 (sendZ c m l).2.2.1 (sendZ c m l).2.2.2) := by
  unfold sendZ
  by_cases hk : okC c m = false
  · rw [if_pos hk]; exact send_x A m cap R rc l c w ok hr hc hk
  rw [if_neg hk]
  have hk := eq_t hk
  by_cases hb0 : (Go.bits .and .i64 (c 0) 1 == 0) = true
  · rw [if_pos hb0]; exact send_ctrl A m cap R rc l c w ok hr hc hk hb0
  rw [if_neg hb0]
  have hb0 := eq_f hb0
  by_cases hb5 : (c 5 == c 6) = true
  · rw [if_pos hb5]; exact send_head A m cap R rc l c w ok hr hc hk hb0 hb5
  rw [if_neg hb5]
  have hb5 := eq_f hb5
  have ha := wrap_u (c 3 + IntKind.u64.wrap (16 * IntKind.u64.wrap (c 5)))
  by_cases hp : (placeZ l.length (atT c) 16).2 = false
  · rw [if_pos hp]; exact send_nodesc A m cap R rc l c w ok hr hc (atT c) hk hb0 hb5 rfl ha hl hp
  rw [if_neg hp]
  have hp := eq_t hp
  by_cases ho : (Go.bits .and .u8 (flagD (cutL l (atT c) 16)) 1 == 1) = false
  · rw [if_pos ho]; exact send_notown A m cap R rc l c w ok hr hc (atT c) hk hb0 hb5 rfl ha hl hby hp ho
  rw [if_neg ho]
  have ho := eq_t ho
  obtain ⟨hbu, hs0, hs1⟩ := desc_bounds l (atT c) hby hp
  have hne : ¬ c 4 = 0 := by have := ((okC_iff c m).1 hk).tn; omega
  have hki : i64B (sizeD (cutL l (atT c) 16)) := ⟨by omega, by omega⟩
  unfold frameZ
  by_cases h1 : (bytesZ l (bufD (cutL l (atT c) 16)) (sizeD (cutL l (atT c) 16))).2 = false
  · rw [if_pos h1]
    exact send_isnot A m cap R rc l c w ok hr hc (atT c) hk hb0 hb5 rfl ha hl hby hp ho hne hbu _ (Prod.ext rfl h1) hki
  rw [if_neg h1]
  have h1 := eq_t h1
  by_cases h2 : sizeD (cutL l (atT c) 16) < 14
  · rw [if_pos h2]
    exact send_short A m cap R rc l c w ok hr hc (atT c) hk hb0 hb5 rfl ha hl hby hp ho hne hbu _ (Prod.ext rfl h1) (decide_eq_true h2) hki
  rw [if_neg h2]
  by_cases h3 : sizeD (cutL l (atT c) 16) > 1514
  · rw [if_pos h3]
    exact send_long A m cap R rc l c w ok hr hc (atT c) hk hb0 hb5 rfl ha hl hby hp ho hne hbu _ (Prod.ext rfl h1) (decide_eq_false h2) (decide_eq_true h3) hki
  rw [if_neg h3]
  rw [bytesZ_2] at h1
  exact send_good A m cap R rc l c w ok hr hc (atT c) hk hb0 hb5 rfl ha hl hby hp ho hne hbu _ rfl h1 (decide_eq_false h2) (decide_eq_false h3) hki (by omega)
end
theorem Send_of (S : SR) (A : Option Addr) (m cap : Nat) (R : Option Addr) (rc : Nat) (l : List Int) (c : Nat → Int) (w : World) (ok : Nat → Prop) (hr : Kd.F (Kd.int .u8) w ok R l.length l) (hc : l.length ≤ rc) (hl : (l.length : Int) ≤ 70000) (hby : ∀ z ∈ l, byte z) (hS : sendZ c m l = S) :
    Calls Try.prog 11 #[.agg (C14 c (.slice A m cap)), .agg #[.slice R l.length rc]] w (SendPost A m cap ok w S.1 S.2.1 S.2.2.1 S.2.2.2) := by
  subst hS
  exact Send_is A m cap R rc l c w ok hr hc hl hby
end Go.Proofs.Ytdblpflepfcnjaa.Q
end
