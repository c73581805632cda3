import Derived.Test.YtdblpflepfcnjaaHZ3
import Derived.Test.YtdblpflepfcnjaaHNst
import Derived.Test.YtdblpflepfcnjaaHZ1
import Derived.Test.YtdblpflepfcnjaaHNi
import Derived.Test.YtdblpflepfcnjaaHNr1
import Derived.Test.YtdblpflepfcnjaaHZ2
import Derived.Test.YtdblpflepfcnjaaHNr2
section
/- The controller's plain laws: what may be stays so; what frames there are. -/
namespace Go.Proofs.Ytdblpflepfcnjaa.Q
open Go.RowKit Go.Proofs.YtdblpflepfcnjaaW.PrintWords Go.Proofs.YtdblpflepfcnjaaW.PrintLast Go.Proofs.YtdblpflepfcnjaaW.PrintMore Go.Proofs.Ytdblpflepfcnjaa.L
set_option linter.unusedVariables false
set_option linter.unusedSimpArgs false
def mk13 (a0_0 : Int) (a0_1 : Int) (a0_2 : Int) (a0_3 : Int) (a0_4 : Int) (a0_5 : Int) (a0_6 : Int) (a0_7 : Int) (a0_8 : Int) (a0_9 : Int) (a0_10 : Int) (a0_11 : Int) (a0_12 : Int) : Nat → Int := fun i => if i = 0 then a0_0 else if i = 1 then a0_1 else if i = 2 then a0_2 else if i = 3 then a0_3 else if i = 4 then a0_4 else if i = 5 then a0_5 else if i = 6 then a0_6 else if i = 7 then a0_7 else if i = 8 then a0_8 else if i = 9 then a0_9 else if i = 10 then a0_10 else if i = 11 then a0_11 else a0_12
theorem mk13_eq (a0_0 : Int) (a0_1 : Int) (a0_2 : Int) (a0_3 : Int) (a0_4 : Int) (a0_5 : Int) (a0_6 : Int) (a0_7 : Int) (a0_8 : Int) (a0_9 : Int) (a0_10 : Int) (a0_11 : Int) (a0_12 : Int) (M : Value) : C14 (mk13 a0_0 a0_1 a0_2 a0_3 a0_4 a0_5 a0_6 a0_7 a0_8 a0_9 a0_10 a0_11 a0_12) M = #[.int .i64 a0_0, .int .i64 a0_1, .int .i64 a0_2, .int .u64 a0_3, .int .i64 a0_4, .int .i64 a0_5, .int .i64 a0_6, .int .u64 a0_7, .int .i64 a0_8, .int .i64 a0_9, .int .i64 a0_10, .int .i64 a0_11, .int .i64 a0_12, M] := rfl
/-! ### bits of small numbers -/
theorem toInt_small {v : BitVec 64} {K : Nat} (h : v.toNat ≤ K) (hK : K < 9223372036854775808) : 0 ≤ v.toInt ∧ v.toInt ≤ K := by
  have e : v.toInt = (v.toNat : Int) := by rw [BitVec.toInt_eq_toNat_cond, if_pos (by omega)]
  rw [e]; omega
theorem and_le (y : Int) (K : Nat) (hK : K < 9223372036854775808) : 0 ≤ Go.bits .and .i64 y K ∧ Go.bits .and .i64 y K ≤ K := by
  rw [i64_and]
  refine toInt_small ?_ hK
  rw [BitVec.toNat_and]
  refine Nat.le_trans Nat.and_le_right ?_
  unfold bv
  rw [BitVec.ofInt_natCast, BitVec.toNat_ofNat]
  exact Nat.mod_le _ _
theorem andNot_le (x y : Int) (K : Nat) (h0 : 0 ≤ x) (h1 : x ≤ K) (hK : K < 9223372036854775808) : 0 ≤ Go.bits .andNot .i64 x y ∧ Go.bits .andNot .i64 x y ≤ K := by
  rw [i64_andNot]
  refine toInt_small ?_ hK
  rw [BitVec.toNat_and]
  refine Nat.le_trans Nat.and_le_left ?_
  unfold bv
  obtain ⟨n, rfl⟩ := Int.eq_ofNat_of_zero_le h0
  rw [BitVec.ofInt_natCast, BitVec.toNat_ofNat]
  exact Nat.le_trans (Nat.mod_le _ _) (by omega)
theorem or16_all : ∀ n ∈ List.range 16, ∀ b ∈ [1, 2, 4, 8], 0 ≤ Go.bits .or .i64 (n : Int) b ∧ Go.bits .or .i64 (n : Int) b < 16 := by decide +kernel
theorem or16 (x b : Int) (h : 0 ≤ x ∧ x < 16) (hb : b ∈ [1, 2, 4, 8]) : 0 ≤ Go.bits .or .i64 x b ∧ Go.bits .or .i64 x b < 16 := by
  obtain ⟨n, rfl⟩ := Int.eq_ofNat_of_zero_le h.1
  exact or16_all n (List.mem_range.2 (by omega)) b hb
theorem most_in (x : Int) (h : 0 ≤ x ∧ x ≤ 2147483648) : 0 ≤ mostZ x ∧ mostZ x ≤ 2147483648 := by
  unfold mostZ
  rw [w64 (by omega) (by omega)]
  split <;> omega
theorem next_in (h n : Int) (hh : 0 ≤ h ∧ h < n) (hn : 1 ≤ n ∧ n ≤ 64) : 0 ≤ Int.tmod (wrap64 (h + 1)) n ∧ Int.tmod (wrap64 (h + 1)) n < n := by
  rw [w64 (by omega) (by omega), Int.tmod_eq_emod_of_nonneg (by omega)]
  exact ⟨Int.emod_nonneg _ (by omega), Int.emod_lt_of_pos _ (by omega)⟩
section
variable {c : Nat → Int} {m : Nat} (k : Ok c m)
include k
theorem Ok.fail : Ok (failC c) m := ⟨k.mac, k.ctrl, or16 _ 4 k.cause (by decide), k.mask, k.drops, most_in _ k.errs, k.tb, k.tn, k.th, k.tt, k.rb, k.rn, k.rh, k.rt⟩
theorem Ok.drop : Ok (dropC c) m := ⟨k.mac, k.ctrl, or16 _ 8 k.cause (by decide), k.mask, most_in _ k.drops, k.errs, k.tb, k.tn, k.th, k.tt, k.rb, k.rn, k.rh, k.rt⟩
theorem Ok.ctl (v : Int) (h : 0 ≤ v ∧ v < 8) : Ok (upd c 0 v) m := ⟨k.mac, h, k.cause, k.mask, k.drops, k.errs, k.tb, k.tn, k.th, k.tt, k.rb, k.rn, k.rh, k.rt⟩
theorem Ok.cau (v : Int) (h : 0 ≤ v ∧ v < 16) : Ok (upd c 1 v) m := ⟨k.mac, k.ctrl, h, k.mask, k.drops, k.errs, k.tb, k.tn, k.th, k.tt, k.rb, k.rn, k.rh, k.rt⟩
theorem Ok.nextT : Ok (nextT c) m := ⟨k.mac, k.ctrl, k.cause, k.mask, k.drops, k.errs, k.tb, k.tn, next_in _ _ k.th k.tn, k.tt, k.rb, k.rn, k.rh, k.rt⟩
theorem Ok.nextR : Ok (nextR c) m := ⟨k.mac, k.ctrl, k.cause, k.mask, k.drops, k.errs, k.tb, k.tn, k.th, k.tt, k.rb, k.rn, next_in _ _ k.rh k.rn, k.rt⟩
theorem Ok.send (l : List Int) : Ok (sendZ c m l).1 m := by
  have h0 := andNot_le (c 0) 1 7 k.ctrl.1 (by have := k.ctrl.2; omega) (by decide)
  unfold sendZ
  split; exact k
  split; exact k
  split; exact k
  split; exact (k.ctl _ ⟨h0.1, by omega⟩).fail
  split; exact k
  unfold frameZ
  split; exact k.nextT.fail
  split; exact k.nextT.fail
  split; exact k.nextT.fail
  exact k.nextT.cau _ (or16 _ 1 k.cause (by decide))
theorem Ok.recv (mac l fr : List Int) : Ok (recvZ c mac l fr).1 m := by
  have h0 := andNot_le (c 0) 2 7 k.ctrl.1 (by have := k.ctrl.2; omega) (by decide)
  unfold recvZ
  split; exact k
  split; exact k.drop
  split; exact (k.ctl _ ⟨h0.1, by omega⟩).fail.drop
  split; exact k.drop
  unfold takeZ
  split; exact k.nextR.fail.drop
  split; exact k.nextR.fail.drop
  exact k.nextR.cau _ (or16 _ 2 k.cause (by decide))
theorem Ok.st (i y : Int) (hy : 0 ≤ y ∧ y < 4294967296) : Ok (stZ c i y) m := by
  have h7 : 0 ≤ Go.bits .and .i64 y 7 ∧ Go.bits .and .i64 y 7 ≤ 7 := and_le y 7 (by decide)
  have h15 : 0 ≤ Go.bits .and .i64 y 15 ∧ Go.bits .and .i64 y 15 ≤ 15 := and_le y 15 (by decide)
  have hn := andNot_le (c 1) y 15 k.cause.1 (by have := k.cause.2; omega) (by decide)
  unfold stZ
  split; exact k.ctl _ ⟨h7.1, by omega⟩
  split; exact k.cau _ ⟨hn.1, by omega⟩
  split; exact ⟨k.mac, k.ctrl, k.cause, ⟨h15.1, by show Go.bits .and .i64 y 15 < 16; omega⟩, k.drops, k.errs, k.tb, k.tn, k.th, k.tt, k.rb, k.rn, k.rh, k.rt⟩
  split; exact ⟨k.mac, k.ctrl, k.cause, k.mask, k.drops, k.errs, by show y / 4294967296 = 0; omega, k.tn, k.th, k.tt, k.rb, k.rn, k.rh, k.rt⟩
  split
  · split
    · rename_i h; exact ⟨k.mac, k.ctrl, k.cause, k.mask, k.drops, k.errs, k.tb, h, ⟨Int.le_refl 0, by show 0 < y; omega⟩, ⟨Int.le_refl 0, by show 0 < y; omega⟩, k.rb, k.rn, k.rh, k.rt⟩
    · exact k
  split
  · split
    · rename_i h; exact ⟨k.mac, k.ctrl, k.cause, k.mask, k.drops, k.errs, k.tb, k.tn, k.th, ⟨hy.1, h⟩, k.rb, k.rn, k.rh, k.rt⟩
    · exact k
  split; exact ⟨k.mac, k.ctrl, k.cause, k.mask, k.drops, k.errs, k.tb, k.tn, k.th, k.tt, by show y / 4294967296 = 0; omega, k.rn, k.rh, k.rt⟩
  split
  · split
    · rename_i h; exact ⟨k.mac, k.ctrl, k.cause, k.mask, k.drops, k.errs, k.tb, k.tn, k.th, k.tt, k.rb, h, ⟨Int.le_refl 0, by show 0 < y; omega⟩, ⟨Int.le_refl 0, by show 0 < y; omega⟩⟩
    · exact k
  split
  · split
    · rename_i h; exact ⟨k.mac, k.ctrl, k.cause, k.mask, k.drops, k.errs, k.tb, k.tn, k.th, k.tt, k.rb, k.rn, k.rh, ⟨hy.1, h⟩⟩
    · exact k
  exact k
end
theorem send_len (c : Nat → Int) (m : Nat) (l : List Int) : (sendZ c m l).2.1.length = l.length := by
  unfold sendZ frameZ
  repeat' split
  all_goals first | rfl | exact doneL_length _ _ _ _
theorem recv_len (c : Nat → Int) (mac l fr : List Int) : (recvZ c mac l fr).2.1.length = l.length := by
  unfold recvZ takeZ
  repeat' split
  all_goals first | rfl | exact doneL_length _ _ _ _ | exact (doneL_length _ _ _ _).trans ((fillL_length _ _ _).trans (writeL_length _ _ _ _))
theorem send_frame (c : Nat → Int) (m : Nat) (l : List Int) : (sendZ c m l).2.2.1.length = 0 ∨ (14 ≤ (sendZ c m l).2.2.1.length ∧ (sendZ c m l).2.2.1.length ≤ 1514) := by
  unfold sendZ
  split; exact .inl rfl
  split; exact .inl rfl
  split; exact .inl rfl
  split; exact .inl rfl
  split; exact .inl rfl
  unfold frameZ
  split; exact .inl rfl
  split; exact .inl rfl
  split; exact .inl rfl
  rename_i h1 h2 h3
  right
  have h4 := eq_t h1
  rw [bytesZ_2] at h4
  have := cut_len l _ _ h4
  show 14 ≤ (cutL l _ _).length ∧ (cutL l _ _).length ≤ 1514
  rw [this]
  omega
end Go.Proofs.Ytdblpflepfcnjaa.Q
end
section
/- What must come at any rate (the law's heads). -/
namespace Go.Proofs.Ytdblpflepfcnjaa.Q
open Go.RowKit Go.Proofs.YtdblpflepfcnjaaW.PrintWords Go.Proofs.YtdblpflepfcnjaaW.PrintLast Go.Proofs.YtdblpflepfcnjaaW.PrintMore Go.Proofs.Ytdblpflepfcnjaa.L
attribute [local go_sem] Instr.field part asAgg lt_step max2_int min2_int max_two min_two max_three min_three max_four min_four lt_0_1 lt_0_2 lt_1_2 lt_0_3 lt_1_3 lt_2_3 lt_0_4 lt_1_4 lt_2_4 lt_3_4 lt_0_5 lt_1_5 lt_2_5 lt_3_5 lt_4_5 lt_0_6 lt_1_6 lt_2_6 lt_3_6 lt_4_6 lt_5_6 lt_0_7 lt_1_7 lt_2_7 lt_3_7 lt_4_7 lt_5_7 lt_6_7 lt_0_8 lt_1_8 lt_2_8 lt_3_8 lt_4_8 lt_5_8 lt_6_8 lt_7_8
set_option linter.unusedVariables false
set_option linter.unusedSimpArgs false
def macH : List Int := [1, 2, 3, 4, 5, 6]
def hd1 : Nat → Int := stZ new1 0 5
def hd2 : Nat → Int := stZ hd1 3 2147483648
def hd3 : Nat → Int := stZ hd2 4 2
def hd4 : Nat → Int := stZ hd3 6 1
def litH : List Int := [32, 0, 0, 128, 0, 0, 0, 0, 14, 0, 1, 0, 0, 0, 0, 0]
def rep64 : List Int := List.replicate 64 0
def r1H : List Int := fillL rep64 2147483648 litH
def dH : List Int := cutL r1H 2147483648 16
def hd5 : Nat → Int := upd (upd hd4 5 (Int.tmod (wrap64 (hd4 5 + 1)) (hd4 4))) 1 (Go.bits .or .i64 (hd4 1) 1)
def r2H : List Int := fillL r1H (IntKind.u64.wrap (2147483648 + 10)) [Go.bits .andNot .u8 (flagD dH) 1, restD dH, 1, 0]
def frH : List Int := cutL r1H (bufD dH) (sizeD dH)
theorem macH_byte : ∀ z ∈ macH, byte z := by decide
theorem r1H_byte : ∀ z ∈ r1H, byte z := by decide +kernel
theorem newH (b : Nat) (w : World) (hb : w.heap[b]? = some (.cells #[.int .u8 1, .int .u8 2, .int .u8 3, .int .u8 4, .int .u8 5, .int .u8 6] 5 (0, 0))) :
    Calls Try.prog 17 #[.slice (some ⟨b, 0, none⟩) 6 6] w fun e w' => ∃ A' c', e = .returned (.tuple #[.agg (C14 new1 (.slice A' macH.length c')), .int .i64 0]) ∧ macH.length ≤ c' ∧ Kd.F (Kd.int .u8) w' (fun j => w.heap.size ≤ j) A' macH.length macH ∧ Below w.heap.size w w' :=
  New_yes (some ⟨b, 0, none⟩) 6 macH w (fun _ => True) (F_of_C (C_blk hb rfl (by decide) rfl) (fun _ _ _ => trivial)) (by decide) rfl
theorem newN (w : World) : Calls Try.prog 17 #[.slice none 0 0] w fun e w' => e = .returned (.tuple #[.agg (C14 new0 (.slice none 0 0)), .int .i64 2]) ∧ Below w.heap.size w w' := New_no none 0 [] w rfl
section
variable (A : Option Addr) (cap : Nat) (w : World) (ok : Nat → Prop) (hm : Kd.F (Kd.int .u8) w ok A macH.length macH) (hmc : macH.length ≤ cap)
include hm hmc
theorem storeH1 : Calls Try.prog 15 #[.agg (C14 new1 (.slice A macH.length cap)), .int .u64 0, .int .i64 4, .int .u64 5] w fun e w' => e = .returned (.tuple #[.agg (C14 hd1 (.slice A macH.length cap)), .bool true]) ∧ Below w.heap.size w w' :=
  store_yes A cap macH new1 0 4 5 w ok hm hmc macH_byte (by decide) (by decide) 5 (by decide +kernel) (by decide +kernel)
theorem storeH2 : Calls Try.prog 15 #[.agg (C14 hd1 (.slice A macH.length cap)), .int .u64 12, .int .i64 4, .int .u64 2147483648] w fun e w' => e = .returned (.tuple #[.agg (C14 hd2 (.slice A macH.length cap)), .bool true]) ∧ Below w.heap.size w w' :=
  store_yes A cap macH hd1 12 4 2147483648 w ok hm hmc macH_byte (by decide) (by decide) 2147483648 (by decide +kernel) (by decide +kernel)
theorem storeH3 : Calls Try.prog 15 #[.agg (C14 hd2 (.slice A macH.length cap)), .int .u64 16, .int .i64 4, .int .u64 2] w fun e w' => e = .returned (.tuple #[.agg (C14 hd3 (.slice A macH.length cap)), .bool true]) ∧ Below w.heap.size w w' :=
  store_yes A cap macH hd2 16 4 2 w ok hm hmc macH_byte (by decide) (by decide) 2 (by decide +kernel) (by decide +kernel)
theorem storeH4 : Calls Try.prog 15 #[.agg (C14 hd3 (.slice A macH.length cap)), .int .u64 24, .int .i64 4, .int .u64 1] w fun e w' => e = .returned (.tuple #[.agg (C14 hd4 (.slice A macH.length cap)), .bool true]) ∧ Below w.heap.size w w' :=
  store_yes A cap macH hd3 24 4 1 w ok hm hmc macH_byte (by decide) (by decide) 1 (by decide +kernel) (by decide +kernel)
theorem loadH : Calls Try.prog 13 #[.agg (C14 hd5 (.slice A macH.length cap)), .int .u64 20, .int .i64 4] w fun e w' => e = .returned (.tuple #[.int .u64 1, .bool true]) ∧ Below w.heap.size w w' := by
  have h := Load_is A cap macH hd5 20 4 w ok hm hmc macH_byte (by decide) (by decide) false true (by decide +kernel) (by decide +kernel)
  rw [show (if (false : Bool) = true then (0 : Int) else loadV hd5 macH 20) = 1 from by decide +kernel] at h
  exact h
end
theorem lineH (A : Option Addr) (cap : Nat) (w : World) : Calls Try.prog 21 #[.agg (C14 (dropC hd5) (.slice A macH.length cap))] w fun e w' => e = .returned (.bool false) ∧ Below w.heap.size w w' := by
  have h := Line_is (dropC hd5) A macH.length cap w true (by decide +kernel)
  rw [show lineZ (dropC hd5) macH.length = false from by decide +kernel] at h
  exact h
theorem fillH (b d : Nat) (w : World) (hb : w.heap[b]? = some (.cells (Array.replicate 64 (.int .u8 0)) 5 (0, 0))) (hd : w.heap[d]? = some (.cells #[.int .u8 32, .int .u8 0, .int .u8 0, .int .u8 128, .int .u8 0, .int .u8 0, .int .u8 0, .int .u8 0, .int .u8 14, .int .u8 0, .int .u8 1, .int .u8 0, .int .u8 0, .int .u8 0, .int .u8 0, .int .u8 0] 5 (0, 0))) :
    Calls Try.prog 31 #[.agg #[.slice (some ⟨b, 0, none⟩) 64 64], .int .u64 2147483648, .slice (some ⟨d, 0, none⟩) 16 16] w fun e w' => ∃ A' c', e = .returned (.tuple #[.agg #[.slice A' r1H.length c'], .bool true]) ∧ r1H.length ≤ c' ∧ Kd.F (Kd.int .u8) w' (fun j => j = b ∨ w.heap.size ≤ j) A' r1H.length r1H ∧ Below w.heap.size w w' := by
  have h := refFill_is rep64 2147483648 litH (by unfold u64B; decide) (by decide) (by decide)
  have hF : Kd.F (Kd.int .u8) w (fun j => j = b) (some ⟨b, 0, none⟩) rep64.length rep64 := F_of_C (C_blk hb rfl (by decide) rfl) (fun ad e _ => by injection e with e; rw [← e])
  have hL : Kd.C (Kd.int .u8) w (some ⟨d, 0, none⟩) litH.length litH := C_blk hd rfl (by decide) rfl
  refine (drawbridgeref07_Fill.calls (fun j => j = b) (some ⟨b, 0, none⟩) 64 rep64 2147483648 (some ⟨d, 0, none⟩) 16 litH r1H true w (Kd.V_mk (by decide) hF) hL (by decide) ?_).mono ?_
  · exact h.trans (congrArg some (Prod.ext rfl (by decide +kernel)))
  · rintro e w' ⟨v, he, hV, hB⟩
    obtain ⟨A', c', ev, hc, hF'⟩ := hV
    subst ev
    exact ⟨A', c', he, hc, hF', hB⟩
section
variable (A : Option Addr) (cap : Nat) (w : World) (ok : Nat → Prop) (hm : Kd.F (Kd.int .u8) w ok A macH.length macH) (hmc : macH.length ≤ cap) (R : Option Addr) (rc : Nat) (okr : Nat → Prop)
theorem sendH1 (hr : Kd.F (Kd.int .u8) w okr R r1H.length r1H) (hc : r1H.length ≤ rc) : Calls Try.prog 11 #[.agg (C14 hd4 (.slice A macH.length cap)), .agg #[.slice R r1H.length rc]] w (SendPost A macH.length cap okr w hd5 r2H frH true) :=
  send_good A macH.length cap R rc r1H hd4 w okr hr hc 2147483648 (by decide +kernel) (by decide +kernel) (by decide +kernel) (by decide +kernel) (by unfold u64B; decide) (by decide +kernel) r1H_byte (by decide +kernel) (by decide +kernel) (by decide +kernel) (by unfold u64B; decide +kernel) frH rfl (by decide +kernel) (by decide +kernel) (by decide +kernel) (by unfold i64B; decide +kernel) (by decide +kernel)
theorem sendH2 (hr : Kd.F (Kd.int .u8) w okr R r2H.length r2H) (hc : r2H.length ≤ rc) : Calls Try.prog 11 #[.agg (C14 hd5 (.slice A macH.length cap)), .agg #[.slice R r2H.length rc]] w (SendPost A macH.length cap okr w hd5 r2H [] false) :=
  send_head A macH.length cap R rc r2H hd5 w okr hr hc (by decide +kernel) (by decide +kernel) (by decide +kernel)
include hm hmc in
theorem recvH (hr : Kd.F (Kd.int .u8) w okr R r2H.length r2H) (hc : r2H.length ≤ rc) (FA : Option Addr) (fc : Nat) (okf : Nat → Prop) (hf : Kd.F (Kd.int .u8) w okf FA frH.length frH) (hfc : frH.length ≤ fc) : Calls Try.prog 27 #[.agg (C14 hd5 (.slice A macH.length cap)), .agg #[.slice R r2H.length rc], .slice FA frH.length fc] w (RecvPost A macH.length cap okr w (dropC hd5) r2H false) :=
  recv_no A cap macH R rc r2H FA fc frH hd5 w ok okr okf hm hmc hr hc hf hfc (by decide +kernel) (by decide +kernel)
end
end Go.Proofs.Ytdblpflepfcnjaa.Q
end
section
/- nic.Receive, whole. -/
namespace Go.Proofs.Ytdblpflepfcnjaa.Q
open Go.RowKit Go.Proofs.YtdblpflepfcnjaaW.PrintWords Go.Proofs.YtdblpflepfcnjaaW.PrintLast Go.Proofs.YtdblpflepfcnjaaW.PrintMore Go.Proofs.Ytdblpflepfcnjaa.L
set_option linter.unusedVariables false
section
variable (A : Option Addr) (cap : Nat) (mac : List Int) (R : Option Addr) (rc : Nat) (l : List Int) (FA : Option Addr) (fc : Nat) (fr : List Int) (c : Nat → Int) (w : World) (okm ok okf : Nat → Prop) (hm : Kd.F (Kd.int .u8) w okm A mac.length mac) (hmc : mac.length ≤ cap) (hr : Kd.F (Kd.int .u8) w ok R l.length l) (hc : l.length ≤ rc) (hf : Kd.F (Kd.int .u8) w okf FA fr.length fr) (hfc : fr.length ≤ fc) (hl : (l.length : Int) ≤ 70000) (hby : ∀ z ∈ l, byte z) (hfl : (fr.length : Int) ≤ 9223372036854775807)
include hm hmc hr hc hf hfc hl hby hfl
theorem Recv_is : Calls Try.prog 27 #[.agg (C14 c (.slice A mac.length cap)), .agg #[.slice R l.length rc], .slice FA fr.length fc] w (RecvPost A mac.length cap ok w (recvZ c mac l fr).1 (recvZ c mac l fr).2.1 (recvZ c mac l fr).2.2) := by
  unfold recvZ
  by_cases hk : okC c mac.length = false
  · rw [if_pos hk]; exact recv_x A cap mac R rc l FA fc fr c w okm ok okf hm hmc hr hc hf hfc hk
  rw [if_neg hk]
  have hk := eq_t hk
  by_cases hw : wantsZ c mac fr = false
  · rw [if_pos hw]; exact recv_no A cap mac R rc l FA fc fr c w okm ok okf hm hmc hr hc hf hfc hk hw
  rw [if_neg hw]
  have hw := eq_t hw
  have ha := wrap_u (c 7 + IntKind.u64.wrap (16 * IntKind.u64.wrap (c 9)))
  by_cases hp : (placeZ l.length (atR c) 16).2 = false
  · rw [if_pos hp]; exact recv_nodesc A cap mac R rc l FA fc fr c w okm ok okf hm hmc hr hc hf hfc (atR c) hk hw rfl ha hl hp
  rw [if_neg hp]
  have hp := eq_t hp
  by_cases ho : (Go.bits .and .u8 (flagD (cutL l (atR c) 16)) 1 == 1) = false
  · rw [if_pos ho]; exact recv_notown A cap mac R rc l FA fc fr c w okm ok okf hm hmc hr hc hf hfc (atR c) hk hw rfl ha hl hby hp ho
  rw [if_neg ho]
  have ho := eq_t ho
  obtain ⟨hbu, hs0, hs1⟩ := desc_bounds l (atR c) hby hp
  have hne : ¬ c 8 = 0 := by have := ((okC_iff c mac.length).1 hk).rn; omega
  unfold takeZ
  by_cases h1 : sizeD (cutL l (atR c) 16) < (fr.length : Int)
  · rw [if_pos h1]
    exact recv_small A cap mac R rc l FA fc fr c w okm ok okf hm hmc hr hc hf hfc (atR c) hk hw rfl ha hl hby hp ho hne hbu hfl (decide_eq_true h1)
  rw [if_neg h1]
  by_cases h2 : (placeZ l.length (bufD (cutL l (atR c) 16)) fr.length).2 = false
  · rw [if_pos h2]
    exact recv_out A cap mac R rc l FA fc fr c w okm ok okf hm hmc hr hc hf hfc (atR c) hk hw rfl ha hl hby hp ho hne hbu hfl (decide_eq_false h1) h2
  rw [if_neg h2]
  exact recv_good A cap mac R rc l FA fc fr c w okm ok okf hm hmc hr hc hf hfc (atR c) hk hw rfl ha hl hby hp ho hne hbu hfl (decide_eq_false h1) (eq_t h2)
end
theorem Recv_of (S : RR) (A : Option Addr) (cap : Nat) (mac : List Int) (R : Option Addr) (rc : Nat) (l : List Int) (FA : Option Addr) (fc : Nat) (fr : List Int) (c : Nat → Int) (w : World) (okm ok okf : Nat → Prop) (hm : Kd.F (Kd.int .u8) w okm A mac.length mac) (hmc : mac.length ≤ cap) (hr : Kd.F (Kd.int .u8) w ok R l.length l) (hc : l.length ≤ rc) (hf : Kd.F (Kd.int .u8) w okf FA fr.length fr) (hfc : fr.length ≤ fc) (hl : (l.length : Int) ≤ 70000) (hby : ∀ z ∈ l, byte z) (hfl : (fr.length : Int) ≤ 9223372036854775807) (hS : recvZ c mac l fr = S) :
    Calls Try.prog 27 #[.agg (C14 c (.slice A mac.length cap)), .agg #[.slice R l.length rc], .slice FA fr.length fc] w (RecvPost A mac.length cap ok w S.1 S.2.1 S.2.2) := by
  subst hS
  exact Recv_is A cap mac R rc l FA fc fr c w okm ok okf hm hmc hr hc hf hfc hl hby hfl
end Go.Proofs.Ytdblpflepfcnjaa.Q
end
section
/- What must come at any rate: the walk. -/
namespace Go.Proofs.Ytdblpflepfcnjaa.Q
open Go.RowKit Go.Proofs.YtdblpflepfcnjaaW.PrintWords Go.Proofs.YtdblpflepfcnjaaW.PrintLast Go.Proofs.YtdblpflepfcnjaaW.PrintMore Go.Proofs.Ytdblpflepfcnjaa.L
attribute [local go_sem] Instr.field part asAgg lt_step max2_int min2_int max_two min_two max_three min_three max_four min_four lt_0_1 lt_0_2 lt_1_2 lt_0_3 lt_1_3 lt_2_3 lt_0_4 lt_1_4 lt_2_4 lt_3_4 lt_0_5 lt_1_5 lt_2_5 lt_3_5 lt_4_5 lt_0_6 lt_1_6 lt_2_6 lt_3_6 lt_4_6 lt_5_6 lt_0_7 lt_1_7 lt_2_7 lt_3_7 lt_4_7 lt_5_7 lt_6_7 lt_0_8 lt_1_8 lt_2_8 lt_3_8 lt_4_8 lt_5_8 lt_6_8 lt_7_8
set_option linter.unusedVariables false
set_option linter.unusedSimpArgs false
def drawbridgelaw12_heads.f : Option Bool := some true
set_option maxHeartbeats 1600000 in
set_option maxRecDepth 100000 in
theorem heads_is (w : World) : Calls Try.prog 10 #[] w fun e w' => e = .returned (.bool true) ∧ Below w.heap.size w w' := by
  have HB := Aside0.mk (Below.refl w.heap.size w)
  have hu := Try.underlying25
  have hu7 := Try.underlying27
  have hmk : ∀ W : World, (Instr.makeSlice 23 (.int .i64 64) (.int .i64 64)).run Try.prog W = .ok (.slice (some ⟨W.heap.size, 0, none⟩) 64 64) (W.alloc (.cells (Array.replicate 64 (.int .u8 0)) 5 (0, 0))) := fun _ => by kernel_rfl
  go_enter Try.func10, Try.ntmps10
  go_wp2_with fail
  (go_at_call 17; (with_reducible refine (newH _ _ (nb_1 _ _)).mono ?_); rintro e_ w1 ⟨A_m, c_m, rfl, hc_m, hr_m, hb_⟩; have HB_ : Aside0 (Below w.heap.size w w1) := Aside0.mk (below_step (bG HB) hb_); have hzw1 := hb_.size; (try simp at hzw1); clear HB hb_; have HB := HB_; clear HB_; have mc := Aside0.mk hc_m; have m := Aside0.mk (Kd.F_bound hr_m); clear hc_m hr_m; skip)
  go_wp2_with (first | ((with_reducible refine gate_store (t := 25) (p := 1) (v := .tmp 23) rfl ?_); refine wpList_store_all rfl 25 _ _ rfl rfl _ (C14 new1 (.slice A_m macH.length c_m)) (by rfl) (by rfl) _ _ (nb_1 _ _) rfl i25 (C14_one _ _ _ _) ?_; rintro w2 ⟨hx_, hk_, hb_, hzz_⟩; have HB_ : Aside0 (Below w.heap.size w w2) := Aside0.mk (Below.trans (bG HB) (Below.mono hb_ (by first | omega | (simp only [sz_alloc, sz_drew, sz_drewN]; omega)))); have hzw2 := Nat.le_of_eq hzz_.symm; (try simp at hzw2); clear hzz_; have m_ := Aside0.mk (Kd.F_step (fG m) (fun j_ hj_ hl_ => hk_ j_ (by (try dsimp only at hj_); (try simp only [sz_alloc, sz_drew, sz_drewN, sz_set] at hj_); omega))); clear m; have m := m_; clear m_; (try clear on onc onf onl); have on := Aside0.mk hx_; obtain ⟨onc, onf, onl⟩ := cells_of on.out; clear HB hb_ hk_ hx_; have HB := HB_; clear HB_))
  (go_at_call 17; (with_reducible refine (newN _).mono ?_); rintro e_ w3 ⟨rfl, hb_⟩; have HB_ : Aside0 (Below w.heap.size w w3) := Aside0.mk (below_step (bG HB) hb_); have hzw3 := hb_.size; (try simp at hzw3); have on_ := Aside0.mk (box_below hb_ (eG on)); have m_ := Aside0.mk (Kd.F_below (fG m) hb_); clear m; have m := m_; clear m_; (try clear on onc onf onl); have on := on_; clear on_; obtain ⟨onc, onf, onl⟩ := cells_of on.out; clear HB hb_; have HB := HB_; clear HB_)
  go_wp2_with (first | ((with_reducible refine gate_store (t := 25) (p := 3) (v := .tmp 27) rfl ?_); refine wpList_store_all rfl 25 _ _ rfl rfl _ (C14 new0 (.slice none 0 0)) (by rfl) (by rfl) _ _ (nb_1 _ _) rfl i25 (C14_one _ _ _ _) ?_; rintro w4 ⟨hx_, hk_, hb_, hzz_⟩; have HB_ : Aside0 (Below w.heap.size w w4) := Aside0.mk (Below.trans (bG HB) (Below.mono hb_ (by first | omega | (simp only [sz_alloc, sz_drew, sz_drewN]; omega)))); have hzw4 := Nat.le_of_eq hzz_.symm; (try simp at hzw4); clear hzz_; have on_ := Aside0.mk (st_put on.out hk_ (fun h_ => (by repeat (with_reducible first | exact h_ | apply ext_drew | apply ext_drewN | apply ext_alloc | refine blk_far ?_ (by show _ ≠ _; dsimp only; omega) _))) (by omega)); clear on onc onf onl; have on := on_; clear on_; obtain ⟨onc, onf, onl⟩ := cells_of on.out; have m_ := Aside0.mk (Kd.F_step (fG m) (fun j_ hj_ hl_ => hk_ j_ (by (try dsimp only at hj_); (try simp only [sz_alloc, sz_drew, sz_drewN, sz_set] at hj_); omega))); clear m; have m := m_; clear m_; (try clear ox oxc oxf oxl); have ox := Aside0.mk hx_; obtain ⟨oxc, oxf, oxl⟩ := cells_of ox.out; clear HB hb_ hk_ hx_; have HB := HB_; clear HB_) | ((with_reducible refine gate_dst (N := 30) rfl ?_); (try (refine gate_guard (by rfl) ?_; dsimp only)); refine wpList_load_row rfl 25 _ rfl _ (by rfl) _ (C14 new1 (.slice A_m macH.length c_m)) _ _ (eG on) Try.underlying25 rfl i25 ?_))
  (go_at_call 15; (with_reducible refine (storeH1 A_m c_m _ _ (fG m) mc.out).mono ?_); rintro e_ w5 ⟨rfl, hb_⟩; have HB_ : Aside0 (Below w.heap.size w w5) := Aside0.mk (below_step (bG HB) hb_); have hzw5 := hb_.size; (try simp at hzw5); have on_ := Aside0.mk (box_below hb_ (eG on)); have m_ := Aside0.mk (Kd.F_below (fG m) hb_); clear m; have m := m_; clear m_; (try clear on onc onf onl); have on := on_; clear on_; obtain ⟨onc, onf, onl⟩ := cells_of on.out; clear HB hb_; have HB := HB_; clear HB_)
  go_wp2_with (first | ((with_reducible refine gate_store (t := 25) (p := 1) (v := .tmp 32) rfl ?_); refine wpList_store_all rfl 25 _ _ rfl rfl _ (C14 hd1 (.slice A_m macH.length c_m)) (by rfl) (by rfl) _ _ on.out rfl i25 (C14_one _ _ _ _) ?_; rintro w6 ⟨hx_, hk_, hb_, hzz_⟩; have HB_ : Aside0 (Below w.heap.size w w6) := Aside0.mk (Below.trans (bG HB) (Below.mono hb_ (by first | omega | (simp only [sz_alloc, sz_drew, sz_drewN]; omega)))); have hzw6 := Nat.le_of_eq hzz_.symm; (try simp at hzw6); clear hzz_; have m_ := Aside0.mk (Kd.F_step (fG m) (fun j_ hj_ hl_ => hk_ j_ (by (try dsimp only at hj_); (try simp only [sz_alloc, sz_drew, sz_drewN, sz_set] at hj_); omega))); clear m; have m := m_; clear m_; (try clear on onc onf onl); have on := Aside0.mk hx_; obtain ⟨onc, onf, onl⟩ := cells_of on.out; clear HB hb_ hk_ hx_; have HB := HB_; clear HB_) | ((with_reducible refine gate_dst (N := 35) rfl ?_); (try (refine gate_guard (by rfl) ?_; dsimp only)); refine wpList_load_row rfl 25 _ rfl _ (by rfl) _ (C14 hd1 (.slice A_m macH.length c_m)) _ _ (eG on) Try.underlying25 rfl i25 ?_))
  (go_at_call 15; (with_reducible refine (storeH2 A_m c_m _ _ (fG m) mc.out).mono ?_); rintro e_ w7 ⟨rfl, hb_⟩; have HB_ : Aside0 (Below w.heap.size w w7) := Aside0.mk (below_step (bG HB) hb_); have hzw7 := hb_.size; (try simp at hzw7); have on_ := Aside0.mk (box_below hb_ (eG on)); have m_ := Aside0.mk (Kd.F_below (fG m) hb_); clear m; have m := m_; clear m_; (try clear on onc onf onl); have on := on_; clear on_; obtain ⟨onc, onf, onl⟩ := cells_of on.out; clear HB hb_; have HB := HB_; clear HB_)
  go_wp2_with (first | ((with_reducible refine gate_store (t := 25) (p := 1) (v := .tmp 37) rfl ?_); refine wpList_store_all rfl 25 _ _ rfl rfl _ (C14 hd2 (.slice A_m macH.length c_m)) (by rfl) (by rfl) _ _ on.out rfl i25 (C14_one _ _ _ _) ?_; rintro w8 ⟨hx_, hk_, hb_, hzz_⟩; have HB_ : Aside0 (Below w.heap.size w w8) := Aside0.mk (Below.trans (bG HB) (Below.mono hb_ (by first | omega | (simp only [sz_alloc, sz_drew, sz_drewN]; omega)))); have hzw8 := Nat.le_of_eq hzz_.symm; (try simp at hzw8); clear hzz_; have m_ := Aside0.mk (Kd.F_step (fG m) (fun j_ hj_ hl_ => hk_ j_ (by (try dsimp only at hj_); (try simp only [sz_alloc, sz_drew, sz_drewN, sz_set] at hj_); omega))); clear m; have m := m_; clear m_; (try clear on onc onf onl); have on := Aside0.mk hx_; obtain ⟨onc, onf, onl⟩ := cells_of on.out; clear HB hb_ hk_ hx_; have HB := HB_; clear HB_) | ((with_reducible refine gate_dst (N := 40) rfl ?_); (try (refine gate_guard (by rfl) ?_; dsimp only)); refine wpList_load_row rfl 25 _ rfl _ (by rfl) _ (C14 hd2 (.slice A_m macH.length c_m)) _ _ (eG on) Try.underlying25 rfl i25 ?_))
  (go_at_call 15; (with_reducible refine (storeH3 A_m c_m _ _ (fG m) mc.out).mono ?_); rintro e_ w9 ⟨rfl, hb_⟩; have HB_ : Aside0 (Below w.heap.size w w9) := Aside0.mk (below_step (bG HB) hb_); have hzw9 := hb_.size; (try simp at hzw9); have on_ := Aside0.mk (box_below hb_ (eG on)); have m_ := Aside0.mk (Kd.F_below (fG m) hb_); clear m; have m := m_; clear m_; (try clear on onc onf onl); have on := on_; clear on_; obtain ⟨onc, onf, onl⟩ := cells_of on.out; clear HB hb_; have HB := HB_; clear HB_)
  go_wp2_with (first | ((with_reducible refine gate_store (t := 25) (p := 1) (v := .tmp 42) rfl ?_); refine wpList_store_all rfl 25 _ _ rfl rfl _ (C14 hd3 (.slice A_m macH.length c_m)) (by rfl) (by rfl) _ _ on.out rfl i25 (C14_one _ _ _ _) ?_; rintro w10 ⟨hx_, hk_, hb_, hzz_⟩; have HB_ : Aside0 (Below w.heap.size w w10) := Aside0.mk (Below.trans (bG HB) (Below.mono hb_ (by first | omega | (simp only [sz_alloc, sz_drew, sz_drewN]; omega)))); have hzw10 := Nat.le_of_eq hzz_.symm; (try simp at hzw10); clear hzz_; have m_ := Aside0.mk (Kd.F_step (fG m) (fun j_ hj_ hl_ => hk_ j_ (by (try dsimp only at hj_); (try simp only [sz_alloc, sz_drew, sz_drewN, sz_set] at hj_); omega))); clear m; have m := m_; clear m_; (try clear on onc onf onl); have on := Aside0.mk hx_; obtain ⟨onc, onf, onl⟩ := cells_of on.out; clear HB hb_ hk_ hx_; have HB := HB_; clear HB_) | ((with_reducible refine gate_dst (N := 45) rfl ?_); (try (refine gate_guard (by rfl) ?_; dsimp only)); refine wpList_load_row rfl 25 _ rfl _ (by rfl) _ (C14 hd3 (.slice A_m macH.length c_m)) _ _ (eG on) Try.underlying25 rfl i25 ?_))
  (go_at_call 15; (with_reducible refine (storeH4 A_m c_m _ _ (fG m) mc.out).mono ?_); rintro e_ w11 ⟨rfl, hb_⟩; have HB_ : Aside0 (Below w.heap.size w w11) := Aside0.mk (below_step (bG HB) hb_); have hzw11 := hb_.size; (try simp at hzw11); have on_ := Aside0.mk (box_below hb_ (eG on)); have m_ := Aside0.mk (Kd.F_below (fG m) hb_); clear m; have m := m_; clear m_; (try clear on onc onf onl); have on := on_; clear on_; obtain ⟨onc, onf, onl⟩ := cells_of on.out; clear HB hb_; have HB := HB_; clear HB_)
  go_wp2_with (first | ((with_reducible refine gate_store (t := 25) (p := 1) (v := .tmp 47) rfl ?_); refine wpList_store_all rfl 25 _ _ rfl rfl _ (C14 hd4 (.slice A_m macH.length c_m)) (by rfl) (by rfl) _ _ on.out rfl i25 (C14_one _ _ _ _) ?_; rintro w12 ⟨hx_, hk_, hb_, hzz_⟩; have HB_ : Aside0 (Below w.heap.size w w12) := Aside0.mk (Below.trans (bG HB) (Below.mono hb_ (by first | omega | (simp only [sz_alloc, sz_drew, sz_drewN]; omega)))); have hzw12 := Nat.le_of_eq hzz_.symm; (try simp at hzw12); clear hzz_; have m_ := Aside0.mk (Kd.F_step (fG m) (fun j_ hj_ hl_ => hk_ j_ (by (try dsimp only at hj_); (try simp only [sz_alloc, sz_drew, sz_drewN, sz_set] at hj_); omega))); clear m; have m := m_; clear m_; (try clear on onc onf onl); have on := Aside0.mk hx_; obtain ⟨onc, onf, onl⟩ := cells_of on.out; clear HB hb_ hk_ hx_; have HB := HB_; clear HB_))
  (go_at_call 31; (with_reducible refine (fillH _ _ _ (ext_alloc (ext_alloc (nb_1 _ _) _) _) (nb_3 w12 _ _ _)).mono ?_); rintro e_ w13 ⟨A_r, c_r, rfl, hc_r, hr_r, hb_⟩; have HB_ : Aside0 (Below w.heap.size w w13) := Aside0.mk (below_step (bG HB) hb_); have hzw13 := hb_.size; (try simp at hzw13); have on_ := Aside0.mk (box_below hb_ (eG on)); have orr_ := Aside0.mk (box_below hb_ (by repeat (with_reducible first | exact nb_2 w12 _ _ | apply ext_drew | apply ext_drewN | apply ext_alloc | refine blk_far ?_ (by show _ ≠ _; dsimp only; omega) _))); have m_ := Aside0.mk (Kd.F_below (fG m) hb_); clear m; have m := m_; clear m_; (try clear on onc onf onl); have on := on_; clear on_; obtain ⟨onc, onf, onl⟩ := cells_of on.out; (try clear orr orrc orrf orrl); have orr := orr_; clear orr_; obtain ⟨orrc, orrf, orrl⟩ := cells_of orr.out; clear HB hb_; have HB := HB_; clear HB_; have rc := Aside0.mk hc_r; have r := Aside0.mk (Kd.F_bound hr_r); clear hc_r hr_r; skip)
  go_upto_region 9 with fail
  (have m_ := Aside0.mk (Kd.F_far (p := ⟨w12.heap.size + 1, 0, none⟩) m.out (fun j_ hj_ => by (try dsimp only at hj_); (try dsimp only); (try simp only [sz_alloc, sz_drew, sz_drewN, sz_set] at hj_); omega) (.slice A_r r1H.length c_r)); clear m; have m := m_; clear m_; have r_ := Aside0.mk (Kd.F_far (p := ⟨w12.heap.size + 1, 0, none⟩) r.out (fun j_ hj_ => by (try dsimp only at hj_); (try dsimp only); (try simp only [sz_alloc, sz_drew, sz_drewN, sz_set] at hj_); omega) (.slice A_r r1H.length c_r)); clear r; have r := r_; clear r_; have on_ := Aside0.mk (blk_far (p := ⟨w12.heap.size + 1, 0, none⟩) on.out (by show _ ≠ _; dsimp only; omega) (.slice A_r r1H.length c_r)); clear on onc onf onl; have on := on_; clear on_; obtain ⟨onc, onf, onl⟩ := cells_of on.out; have orr_ := Aside0.mk (blk_put orr.out 0 (.slice A_r r1H.length c_r) (cs' := #[.slice A_r r1H.length c_r]) rfl); clear orr orrc orrf orrl; have orr := orr_; clear orr_; obtain ⟨orrc, orrf, orrl⟩ := cells_of orr.out)
  go_wp2_with (first | ((with_reducible refine gate_dst (N := 58) rfl ?_); (try (refine gate_guard (by rfl) ?_; dsimp only)); refine wpList_load_row rfl 25 _ rfl _ (by rfl) _ (C14 hd4 (.slice A_m macH.length c_m)) _ _ (eG on) Try.underlying25 rfl i25 ?_))
  (go_at_call 11; (with_reducible refine (sendH1 A_m c_m _ A_r c_r _ (fG r) rc.out).mono ?_); rintro e_ w14 ⟨A_s, c_s, A_q, c_q, rfl, hc_s, hr_s, hc_q, hr_q, hb_⟩; have HB_ : Aside0 (Below w.heap.size w w14) := Aside0.mk (below_step (bG HB) hb_); have hzw14 := hb_.size; (try simp at hzw14); have on_ := Aside0.mk (box_below hb_ (eG on)); have orr_ := Aside0.mk (box_below hb_ (eG orr)); have m_ := Aside0.mk (Kd.F_below (fG m) hb_); clear m; have m := m_; clear m_; (try clear on onc onf onl); have on := on_; clear on_; obtain ⟨onc, onf, onl⟩ := cells_of on.out; (try clear orr orrc orrf orrl); have orr := orr_; clear orr_; obtain ⟨orrc, orrf, orrl⟩ := cells_of orr.out; clear HB hb_; have HB := HB_; clear HB_; have sc := Aside0.mk hc_s; have s := Aside0.mk (Kd.F_bound hr_s); clear hc_s hr_s; have qc := Aside0.mk hc_q; have q := Aside0.mk (Kd.F_bound hr_q); clear hc_q hr_q; skip)
  have os := Aside0.mk (nb_2 w14 (.cells #[.int .i64 0, .int .i64 0, .int .i64 0, .int .u64 0, .int .i64 0, .int .i64 0, .int .i64 0, .int .u64 0, .int .i64 0, .int .i64 0, .int .i64 0, .int .i64 0, .int .i64 0, .slice none 0 0] 25 (0, 0)) (.cells #[.slice none 0 0] 27 (0, 0)))
  obtain ⟨osc, osf, osl⟩ := cells_of os.out
  go_upto_region 10 with (first | ((with_reducible refine gate_store (t := 25) (p := 7) (v := .tmp 61) rfl ?_); refine wpList_store_all rfl 25 _ _ rfl rfl _ (C14 hd5 (.slice A_m macH.length c_m)) (by rfl) (by rfl) _ _ (ext_alloc (nb_1 _ _) _) rfl i25 (C14_one _ _ _ _) ?_; rintro w15 ⟨hx_, hk_, hb_, hzz_⟩; have HB_ : Aside0 (Below w.heap.size w w15) := Aside0.mk (Below.trans (bG HB) (Below.mono hb_ (by first | omega | (simp only [sz_alloc, sz_drew, sz_drewN]; omega)))); have hzw15 := Nat.le_of_eq hzz_.symm; (try simp at hzw15); clear hzz_; have os_ := Aside0.mk (st_put os.out hk_ (fun h_ => (by repeat (with_reducible first | exact h_ | apply ext_drew | apply ext_drewN | apply ext_alloc | refine blk_far ?_ (by show _ ≠ _; dsimp only; omega) _))) (by omega)); clear os osc osf osl; have os := os_; clear os_; obtain ⟨osc, osf, osl⟩ := cells_of os.out; have m_ := Aside0.mk (Kd.F_step (fG m) (fun j_ hj_ hl_ => hk_ j_ (by (try dsimp only at hj_); (try simp only [sz_alloc, sz_drew, sz_drewN, sz_set] at hj_); omega))); clear m; have m := m_; clear m_; have s_ := Aside0.mk (Kd.F_step (fG s) (fun j_ hj_ hl_ => hk_ j_ (by (try dsimp only at hj_); (try simp only [sz_alloc, sz_drew, sz_drewN, sz_set] at hj_); omega))); clear s; have s := s_; clear s_; have q_ := Aside0.mk (Kd.F_step (fG q) (fun j_ hj_ hl_ => hk_ j_ (by (try dsimp only at hj_); (try simp only [sz_alloc, sz_drew, sz_drewN, sz_set] at hj_); omega))); clear q; have q := q_; clear q_; (try clear om omc omf oml); have om := Aside0.mk hx_; obtain ⟨omc, omf, oml⟩ := cells_of om.out; clear HB hb_ hk_ hx_; have HB := HB_; clear HB_))
  (have m_ := Aside0.mk (Kd.F_far (p := ⟨w14.heap.size + 1, 0, none⟩) m.out (fun j_ hj_ => by (try dsimp only at hj_); (try dsimp only); (try simp only [sz_alloc, sz_drew, sz_drewN, sz_set] at hj_); omega) (.slice A_s r2H.length c_s)); clear m; have m := m_; clear m_; have s_ := Aside0.mk (Kd.F_far (p := ⟨w14.heap.size + 1, 0, none⟩) s.out (fun j_ hj_ => by (try dsimp only at hj_); (try dsimp only); (try simp only [sz_alloc, sz_drew, sz_drewN, sz_set] at hj_); omega) (.slice A_s r2H.length c_s)); clear s; have s := s_; clear s_; have q_ := Aside0.mk (Kd.F_far (p := ⟨w14.heap.size + 1, 0, none⟩) q.out (fun j_ hj_ => by (try dsimp only at hj_); (try dsimp only); (try simp only [sz_alloc, sz_drew, sz_drewN, sz_set] at hj_); omega) (.slice A_s r2H.length c_s)); clear q; have q := q_; clear q_; have om_ := Aside0.mk (blk_far (p := ⟨w14.heap.size + 1, 0, none⟩) om.out (by show _ ≠ _; dsimp only; omega) (.slice A_s r2H.length c_s)); clear om omc omf oml; have om := om_; clear om_; obtain ⟨omc, omf, oml⟩ := cells_of om.out; have os_ := Aside0.mk (blk_put os.out 0 (.slice A_s r2H.length c_s) (cs' := #[.slice A_s r2H.length c_s]) rfl); clear os osc osf osl; have os := os_; clear os_; obtain ⟨osc, osf, osl⟩ := cells_of os.out)
  go_wp2_with (first | ((with_reducible refine gate_dst (N := 66) rfl ?_); (try (refine gate_guard (by rfl) ?_; dsimp only)); refine wpList_load_row rfl 25 _ rfl _ (by rfl) _ (C14 hd5 (.slice A_m macH.length c_m)) _ _ (eG om) Try.underlying25 rfl i25 ?_))
  (go_at_call 11; (with_reducible refine (sendH2 A_m c_m _ A_s c_s _ (fG s) sc.out).mono ?_); rintro e_ w16 ⟨A_s2, c_s2, A_q2, c_q2, rfl, hc_s2, hr_s2, hc_q2, hr_q2, hb_⟩; have HB_ : Aside0 (Below w.heap.size w w16) := Aside0.mk (below_step (bG HB) hb_); have hzw16 := hb_.size; (try simp at hzw16); have om_ := Aside0.mk (box_below hb_ (eG om)); have os_ := Aside0.mk (box_below hb_ (eG os)); have m_ := Aside0.mk (Kd.F_below (fG m) hb_); clear m; have m := m_; clear m_; have s_ := Aside0.mk (Kd.F_below (fG s) hb_); clear s; have s := s_; clear s_; have q_ := Aside0.mk (Kd.F_below (fG q) hb_); clear q; have q := q_; clear q_; (try clear om omc omf oml); have om := om_; clear om_; obtain ⟨omc, omf, oml⟩ := cells_of om.out; (try clear os osc osf osl); have os := os_; clear os_; obtain ⟨osc, osf, osl⟩ := cells_of os.out; clear HB hb_; have HB := HB_; clear HB_; have s2c := Aside0.mk hc_s2; have s2 := Aside0.mk (Kd.F_bound hr_s2); clear hc_s2 hr_s2; have q2c := Aside0.mk hc_q2; have q2 := Aside0.mk (Kd.F_bound hr_q2); clear hc_q2 hr_q2; skip)
  have oz := Aside0.mk (nb_2 w16 (.cells #[.int .i64 0, .int .i64 0, .int .i64 0, .int .u64 0, .int .i64 0, .int .i64 0, .int .i64 0, .int .u64 0, .int .i64 0, .int .i64 0, .int .i64 0, .int .i64 0, .int .i64 0, .slice none 0 0] 25 (0, 0)) (.cells #[.slice none 0 0] 27 (0, 0)))
  obtain ⟨ozc, ozf, ozl⟩ := cells_of oz.out
  go_upto_region 11 with (first | ((with_reducible refine gate_store (t := 25) (p := 11) (v := .tmp 69) rfl ?_); refine wpList_store_all rfl 25 _ _ rfl rfl _ (C14 hd5 (.slice A_m macH.length c_m)) (by rfl) (by rfl) _ _ (ext_alloc (nb_1 _ _) _) rfl i25 (C14_one _ _ _ _) ?_; rintro w17 ⟨hx_, hk_, hb_, hzz_⟩; have HB_ : Aside0 (Below w.heap.size w w17) := Aside0.mk (Below.trans (bG HB) (Below.mono hb_ (by first | omega | (simp only [sz_alloc, sz_drew, sz_drewN]; omega)))); have hzw17 := Nat.le_of_eq hzz_.symm; (try simp at hzw17); clear hzz_; have oz_ := Aside0.mk (st_put oz.out hk_ (fun h_ => (by repeat (with_reducible first | exact h_ | apply ext_drew | apply ext_drewN | apply ext_alloc | refine blk_far ?_ (by show _ ≠ _; dsimp only; omega) _))) (by omega)); clear oz ozc ozf ozl; have oz := oz_; clear oz_; obtain ⟨ozc, ozf, ozl⟩ := cells_of oz.out; have om_ := Aside0.mk (st_put om.out hk_ (fun h_ => (by repeat (with_reducible first | exact h_ | apply ext_drew | apply ext_drewN | apply ext_alloc | refine blk_far ?_ (by show _ ≠ _; dsimp only; omega) _))) (by omega)); clear om omc omf oml; have om := om_; clear om_; obtain ⟨omc, omf, oml⟩ := cells_of om.out; have os_ := Aside0.mk (st_put os.out hk_ (fun h_ => (by repeat (with_reducible first | exact h_ | apply ext_drew | apply ext_drewN | apply ext_alloc | refine blk_far ?_ (by show _ ≠ _; dsimp only; omega) _))) (by omega)); clear os osc osf osl; have os := os_; clear os_; obtain ⟨osc, osf, osl⟩ := cells_of os.out; have m_ := Aside0.mk (Kd.F_step (fG m) (fun j_ hj_ hl_ => hk_ j_ (by (try dsimp only at hj_); (try simp only [sz_alloc, sz_drew, sz_drewN, sz_set] at hj_); omega))); clear m; have m := m_; clear m_; have s_ := Aside0.mk (Kd.F_step (fG s) (fun j_ hj_ hl_ => hk_ j_ (by (try dsimp only at hj_); (try simp only [sz_alloc, sz_drew, sz_drewN, sz_set] at hj_); omega))); clear s; have s := s_; clear s_; have q_ := Aside0.mk (Kd.F_step (fG q) (fun j_ hj_ hl_ => hk_ j_ (by (try dsimp only at hj_); (try simp only [sz_alloc, sz_drew, sz_drewN, sz_set] at hj_); omega))); clear q; have q := q_; clear q_; (try clear oy oyc oyf oyl); have oy := Aside0.mk hx_; obtain ⟨oyc, oyf, oyl⟩ := cells_of oy.out; clear HB hb_ hk_ hx_; have HB := HB_; clear HB_))
  (have m_ := Aside0.mk (Kd.F_far (p := ⟨w16.heap.size + 1, 0, none⟩) m.out (fun j_ hj_ => by (try dsimp only at hj_); (try dsimp only); (try simp only [sz_alloc, sz_drew, sz_drewN, sz_set] at hj_); omega) (.slice A_s2 r2H.length c_s2)); clear m; have m := m_; clear m_; have s_ := Aside0.mk (Kd.F_far (p := ⟨w16.heap.size + 1, 0, none⟩) s.out (fun j_ hj_ => by (try dsimp only at hj_); (try dsimp only); (try simp only [sz_alloc, sz_drew, sz_drewN, sz_set] at hj_); omega) (.slice A_s2 r2H.length c_s2)); clear s; have s := s_; clear s_; have q_ := Aside0.mk (Kd.F_far (p := ⟨w16.heap.size + 1, 0, none⟩) q.out (fun j_ hj_ => by (try dsimp only at hj_); (try dsimp only); (try simp only [sz_alloc, sz_drew, sz_drewN, sz_set] at hj_); omega) (.slice A_s2 r2H.length c_s2)); clear q; have q := q_; clear q_; have om_ := Aside0.mk (blk_far (p := ⟨w16.heap.size + 1, 0, none⟩) om.out (by show _ ≠ _; dsimp only; omega) (.slice A_s2 r2H.length c_s2)); clear om omc omf oml; have om := om_; clear om_; obtain ⟨omc, omf, oml⟩ := cells_of om.out; have os_ := Aside0.mk (blk_far (p := ⟨w16.heap.size + 1, 0, none⟩) os.out (by show _ ≠ _; dsimp only; omega) (.slice A_s2 r2H.length c_s2)); clear os osc osf osl; have os := os_; clear os_; obtain ⟨osc, osf, osl⟩ := cells_of os.out; have oz_ := Aside0.mk (blk_put oz.out 0 (.slice A_s2 r2H.length c_s2) (cs' := #[.slice A_s2 r2H.length c_s2]) rfl); clear oz ozc ozf ozl; have oz := oz_; clear oz_; obtain ⟨ozc, ozf, ozl⟩ := cells_of oz.out)
  go_wp2_with (first | ((with_reducible refine gate_dst (N := 74) rfl ?_); (try (refine gate_guard (by rfl) ?_; dsimp only)); refine wpList_load_row rfl 25 _ rfl _ (by rfl) _ (C14 hd5 (.slice A_m macH.length c_m)) _ _ (eG om) Try.underlying25 rfl i25 ?_))
  (go_at_call 13; (with_reducible refine (loadH A_m c_m _ _ (fG m) mc.out).mono ?_); rintro e_ w18 ⟨rfl, hb_⟩; have HB_ : Aside0 (Below w.heap.size w w18) := Aside0.mk (below_step (bG HB) hb_); have hzw18 := hb_.size; (try simp at hzw18); have om_ := Aside0.mk (box_below hb_ (eG om)); have os_ := Aside0.mk (box_below hb_ (eG os)); have m_ := Aside0.mk (Kd.F_below (fG m) hb_); clear m; have m := m_; clear m_; have s_ := Aside0.mk (Kd.F_below (fG s) hb_); clear s; have s := s_; clear s_; have q_ := Aside0.mk (Kd.F_below (fG q) hb_); clear q; have q := q_; clear q_; (try clear om omc omf oml); have om := om_; clear om_; obtain ⟨omc, omf, oml⟩ := cells_of om.out; (try clear os osc osf osl); have os := os_; clear os_; obtain ⟨osc, osf, osl⟩ := cells_of os.out; clear HB hb_; have HB := HB_; clear HB_)
  go_wp2_with (first | ((with_reducible refine gate_dst (N := 79) rfl ?_); (try (refine gate_guard (by rfl) ?_; dsimp only)); refine wpList_load_row rfl 25 _ rfl _ (by rfl) _ (C14 hd5 (.slice A_m macH.length c_m)) _ _ (eG om) Try.underlying25 rfl i25 ?_))
  (go_at_call 27; (with_reducible refine (recvH A_m c_m _ _ (fG m) mc.out A_s c_s _ (fG s) sc.out A_q c_q _ (fG q) qc.out).mono ?_); rintro e_ w19 ⟨A_s3, c_s3, rfl, hc_s3, hr_s3, hb_⟩; have HB_ : Aside0 (Below w.heap.size w w19) := Aside0.mk (below_step (bG HB) hb_); have hzw19 := hb_.size; (try simp at hzw19); have om_ := Aside0.mk (box_below hb_ (eG om)); have os_ := Aside0.mk (box_below hb_ (eG os)); have m_ := Aside0.mk (Kd.F_below (fG m) hb_); clear m; have m := m_; clear m_; have s_ := Aside0.mk (Kd.F_below (fG s) hb_); clear s; have s := s_; clear s_; (try clear om omc omf oml); have om := om_; clear om_; obtain ⟨omc, omf, oml⟩ := cells_of om.out; (try clear os osc osf osl); have os := os_; clear os_; obtain ⟨osc, osf, osl⟩ := cells_of os.out; clear HB hb_; have HB := HB_; clear HB_; have s3c := Aside0.mk hc_s3; have s3 := Aside0.mk (Kd.F_bound hr_s3); clear hc_s3 hr_s3; skip)
  have of := Aside0.mk (nb_2 w19 (.cells #[.int .i64 0, .int .i64 0, .int .i64 0, .int .u64 0, .int .i64 0, .int .i64 0, .int .i64 0, .int .u64 0, .int .i64 0, .int .i64 0, .int .i64 0, .int .i64 0, .int .i64 0, .slice none 0 0] 25 (0, 0)) (.cells #[.slice none 0 0] 27 (0, 0)))
  obtain ⟨ofc, off, ofl⟩ := cells_of of.out
  go_upto_region 13 with (first | ((with_reducible refine gate_store (t := 25) (p := 17) (v := .tmp 83) rfl ?_); refine wpList_store_all rfl 25 _ _ rfl rfl _ (C14 (dropC hd5) (.slice A_m macH.length c_m)) (by rfl) (by rfl) _ _ (ext_alloc (nb_1 _ _) _) rfl i25 (C14_one _ _ _ _) ?_; rintro w20 ⟨hx_, hk_, hb_, hzz_⟩; have HB_ : Aside0 (Below w.heap.size w w20) := Aside0.mk (Below.trans (bG HB) (Below.mono hb_ (by first | omega | (simp only [sz_alloc, sz_drew, sz_drewN]; omega)))); have hzw20 := Nat.le_of_eq hzz_.symm; (try simp at hzw20); clear hzz_; have of_ := Aside0.mk (st_put of.out hk_ (fun h_ => (by repeat (with_reducible first | exact h_ | apply ext_drew | apply ext_drewN | apply ext_alloc | refine blk_far ?_ (by show _ ≠ _; dsimp only; omega) _))) (by omega)); clear of ofc off ofl; have of := of_; clear of_; obtain ⟨ofc, off, ofl⟩ := cells_of of.out; have om_ := Aside0.mk (st_put om.out hk_ (fun h_ => (by repeat (with_reducible first | exact h_ | apply ext_drew | apply ext_drewN | apply ext_alloc | refine blk_far ?_ (by show _ ≠ _; dsimp only; omega) _))) (by omega)); clear om omc omf oml; have om := om_; clear om_; obtain ⟨omc, omf, oml⟩ := cells_of om.out; have os_ := Aside0.mk (st_put os.out hk_ (fun h_ => (by repeat (with_reducible first | exact h_ | apply ext_drew | apply ext_drewN | apply ext_alloc | refine blk_far ?_ (by show _ ≠ _; dsimp only; omega) _))) (by omega)); clear os osc osf osl; have os := os_; clear os_; obtain ⟨osc, osf, osl⟩ := cells_of os.out; have m_ := Aside0.mk (Kd.F_step (fG m) (fun j_ hj_ hl_ => hk_ j_ (by (try dsimp only at hj_); (try simp only [sz_alloc, sz_drew, sz_drewN, sz_set] at hj_); omega))); clear m; have m := m_; clear m_; have s_ := Aside0.mk (Kd.F_step (fG s) (fun j_ hj_ hl_ => hk_ j_ (by (try dsimp only at hj_); (try simp only [sz_alloc, sz_drew, sz_drewN, sz_set] at hj_); omega))); clear s; have s := s_; clear s_; (try clear oe oec oef oel); have oe := Aside0.mk hx_; obtain ⟨oec, oef, oel⟩ := cells_of oe.out; clear HB hb_ hk_ hx_; have HB := HB_; clear HB_))
  (have m_ := Aside0.mk (Kd.F_far (p := ⟨w19.heap.size + 1, 0, none⟩) m.out (fun j_ hj_ => by (try dsimp only at hj_); (try dsimp only); (try simp only [sz_alloc, sz_drew, sz_drewN, sz_set] at hj_); omega) (.slice A_s3 r2H.length c_s3)); clear m; have m := m_; clear m_; have s_ := Aside0.mk (Kd.F_far (p := ⟨w19.heap.size + 1, 0, none⟩) s.out (fun j_ hj_ => by (try dsimp only at hj_); (try dsimp only); (try simp only [sz_alloc, sz_drew, sz_drewN, sz_set] at hj_); omega) (.slice A_s3 r2H.length c_s3)); clear s; have s := s_; clear s_; have om_ := Aside0.mk (blk_far (p := ⟨w19.heap.size + 1, 0, none⟩) om.out (by show _ ≠ _; dsimp only; omega) (.slice A_s3 r2H.length c_s3)); clear om omc omf oml; have om := om_; clear om_; obtain ⟨omc, omf, oml⟩ := cells_of om.out; have os_ := Aside0.mk (blk_far (p := ⟨w19.heap.size + 1, 0, none⟩) os.out (by show _ ≠ _; dsimp only; omega) (.slice A_s3 r2H.length c_s3)); clear os osc osf osl; have os := os_; clear os_; obtain ⟨osc, osf, osl⟩ := cells_of os.out; have oe_ := Aside0.mk (blk_far (p := ⟨w19.heap.size + 1, 0, none⟩) oe.out (by show _ ≠ _; dsimp only; omega) (.slice A_s3 r2H.length c_s3)); clear oe oec oef oel; have oe := oe_; clear oe_; obtain ⟨oec, oef, oel⟩ := cells_of oe.out; have of_ := Aside0.mk (blk_put of.out 0 (.slice A_s3 r2H.length c_s3) (cs' := #[.slice A_s3 r2H.length c_s3]) rfl); clear of ofc off ofl; have of := of_; clear of_; obtain ⟨ofc, off, ofl⟩ := cells_of of.out)
  obtain ⟨sb, so, esb, hsc⟩ := F_cell' s.out (by decide +kernel)
  subst esb
  have hs10 := hsc 10 (by decide +kernel)
  have hs12 := hsc 12 (by decide +kernel)
  have hb64 : ((r2H.length : Int) == 64) = true := by decide +kernel
  have hb14 : ((frH.length : Int) == 14) = true := by decide +kernel
  have hi64 : (r2H.length : Int) = 64 ↔ True := by decide +kernel
  have hi14 : (frH.length : Int) = 14 ↔ True := by decide +kernel
  have hi10 : (10 : Int) < (r2H.length : Int) := by decide +kernel
  have hi12 : (12 : Int) < (r2H.length : Int) := by decide +kernel
  rw [show r2H.getD 10 0 = 0 from by decide +kernel] at hs10
  rw [show r2H.getD 12 0 = 1 from by decide +kernel] at hs12
  have hm1 := (omc 1).trans (show (C14 hd5 (.slice A_m macH.length c_m))[1]? = some (.int .i64 1) from congrArg (fun x => some (Value.int .i64 x)) (show hd5 1 = 1 from by decide +kernel))
  have he11 := (oec 11).trans (show (C14 (dropC hd5) (.slice A_m macH.length c_m))[11]? = some (.int .i64 1) from congrArg (fun x => some (Value.int .i64 x)) (show dropC hd5 11 = 1 from by decide +kernel))
  clear hsc omc oec
  go_wp2_with (first | ((with_reducible refine gate_dst (N := 146) rfl ?_); (try (refine gate_guard (by rfl) ?_; dsimp only)); refine wpList_load_row rfl 25 _ rfl _ (by rfl) _ (C14 (dropC hd5) (.slice A_m macH.length c_m)) _ _ (eG oe) Try.underlying25 rfl i25 ?_))
  (go_at_call 9; (with_reducible refine (Check_of true (dropC hd5) A_m macH.length c_m _ (by decide +kernel)).mono ?_); rintro e_ w21 ⟨rfl, hb_⟩; have HB_ : Aside0 (Below w.heap.size w w21) := Aside0.mk (below_step (bG HB) hb_); have hzw21 := hb_.size; (try simp at hzw21); have oe_ := Aside0.mk (box_below hb_ (eG oe)); (try clear oe oec oef oel); have oe := oe_; clear oe_; obtain ⟨oec, oef, oel⟩ := cells_of oe.out; clear HB hb_; have HB := HB_; clear HB_)
  go_wp2_with (first | ((with_reducible refine gate_dst (N := 150) rfl ?_); (try (refine gate_guard (by rfl) ?_; dsimp only)); refine wpList_load_row rfl 25 _ rfl _ (by rfl) _ (C14 (dropC hd5) (.slice A_m macH.length c_m)) _ _ (eG oe) Try.underlying25 rfl i25 ?_))
  (go_at_call 21; (with_reducible refine (lineH A_m c_m _).mono ?_); rintro e_ w22 ⟨rfl, hb_⟩; have HB_ : Aside0 (Below w.heap.size w w22) := Aside0.mk (below_step (bG HB) hb_); have hzw22 := hb_.size; (try simp at hzw22); have oe_ := Aside0.mk (box_below hb_ (eG oe)); (try clear oe oec oef oel); have oe := oe_; clear oe_; obtain ⟨oec, oef, oel⟩ := cells_of oe.out; clear HB hb_; have HB := HB_; clear HB_)
  go_wp2
  go_ret
  exact ⟨rfl, HB.out⟩
theorem drawbridgelaw12_heads.calls (r : Bool) (w : World) (h : drawbridgelaw12_heads.f = some r) : Calls Try.prog 10 #[] w fun e w' => e = .returned (.bool r) ∧ Below w.heap.size w w' := by
  obtain rfl := Option.some.inj h
  exact heads_is w
end Go.Proofs.Ytdblpflepfcnjaa.Q
end
section
/- The functions of layer 12, as the laws' walks have them: what they answer stands as letters. -/
namespace Go.Proofs.Ytdblpflepfcnjaa.Q
open Go.RowKit Go.Proofs.YtdblpflepfcnjaaW.PrintWords Go.Proofs.YtdblpflepfcnjaaW.PrintLast Go.Proofs.YtdblpflepfcnjaaW.PrintMore Go.Proofs.Ytdblpflepfcnjaa.L
attribute [local go_sem] Instr.field part asAgg lt_step max2_int min2_int max_two min_two max_three min_three max_four min_four lt_0_1 lt_0_2 lt_1_2 lt_0_3 lt_1_3 lt_2_3 lt_0_4 lt_1_4 lt_2_4 lt_3_4 lt_0_5 lt_1_5 lt_2_5 lt_3_5 lt_4_5 lt_0_6 lt_1_6 lt_2_6 lt_3_6 lt_4_6 lt_5_6 lt_0_7 lt_1_7 lt_2_7 lt_3_7 lt_4_7 lt_5_7 lt_6_7 lt_0_8 lt_1_8 lt_2_8 lt_3_8 lt_4_8 lt_5_8 lt_6_8 lt_7_8
set_option linter.unusedVariables false
set_option linter.unusedSimpArgs false
theorem Store_is (A : Option Addr) (cap : Nat) (mac : List Int) (c : Nat → Int) (off size x : Int) (w : World) (okm : Nat → Prop) (hm : Kd.F (Kd.int .u8) w okm A mac.length mac) (hmc : mac.length ≤ cap) (hmb : ∀ z ∈ mac, byte z) (h0 : 0 ≤ off) (h64 : off < 18446744073709551616) :
    Calls Try.prog 15 #[.agg (C14 c (.slice A mac.length cap)), .int .u64 off, .int .i64 size, .int .u64 x] w fun e w' => e = .returned (.tuple #[.agg (C14 (storeZ c mac.length off size x) (.slice A mac.length cap)), .bool (!refuseZ c mac.length off size)]) ∧ Below w.heap.size w w' := by
  unfold storeZ
  cases hb : refuseZ c mac.length off size with
  | true => exact store_no A cap mac c off size x w okm hm hmc hmb h0 h64 hb
  | false => exact store_yes A cap mac c off size x w okm hm hmc hmb h0 h64 _ rfl hb
theorem Store_of (d : Nat → Int) (b : Bool) (A : Option Addr) (cap : Nat) (mac : List Int) (c : Nat → Int) (off size x : Int) (w : World) (okm : Nat → Prop) (hm : Kd.F (Kd.int .u8) w okm A mac.length mac) (hmc : mac.length ≤ cap) (hmb : ∀ z ∈ mac, byte z) (h0 : 0 ≤ off) (h64 : off < 18446744073709551616) (hd : storeZ c mac.length off size x = d) (hb : (!refuseZ c mac.length off size) = b) :
    Calls Try.prog 15 #[.agg (C14 c (.slice A mac.length cap)), .int .u64 off, .int .i64 size, .int .u64 x] w fun e w' => e = .returned (.tuple #[.agg (C14 d (.slice A mac.length cap)), .bool b]) ∧ Below w.heap.size w w' := by
  subst hd hb
  exact Store_is A cap mac c off size x w okm hm hmc hmb h0 h64
end Go.Proofs.Ytdblpflepfcnjaa.Q
end
