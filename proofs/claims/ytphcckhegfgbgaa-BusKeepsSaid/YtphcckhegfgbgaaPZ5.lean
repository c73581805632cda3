import Derived.Test.YtphcckhegfgbgaaPZ4
import Derived.Test.YtphcckhegfgbgaaPZ1
import Derived.Deep.RegionWith
import Derived.Deep.DeepCutAuto
import Derived.Test.YtphcckhegfgbgaaPXWLast
import Derived.Test.YtphcckhegfgbgaaPXWTab
import Derived.Test.YtphcckhegfgbgaaPZ3
section
/- The contract of bits.Put. -/
namespace Go.Proofs.Ytphcckhegfgbgaa.Q
open Go.RowKit Go.Proofs.YtphcckhegfgbgaaW.PrintWords Go.Proofs.YtphcckhegfgbgaaW.PrintLast Go.Proofs.YtphcckhegfgbgaaW.PrintMore Go.Proofs.Ytphcckhegfgbgaa.L
attribute [local go_sem] max2_int min2_int max_two min_two max_three min_three max_four min_four
set_option linter.unusedVariables false
set_option linter.unusedSimpArgs false

theorem reverse_loop (l : List Int) (n : Nat) (hn : l.length = n) (hmax : n ≤ 9223372036854775807) (d : Nat) : ∀ (k : Nat) (x : List Int) (i j : Int), x.length = n → 0 ≤ i → i + j = (n : Int) - 1 → i ≤ j + 2 →
    (∀ p : Nat, p < n → x.getD p 0 = if (p : Int) < i ∨ j < (p : Int) then l.getD (n - 1 - p) 0 else l.getD p 0) → (j - i + 1).toNat ≤ d → d < k → slices_Reverse_byte_byte.l0 k x i j = some l.reverse := by
  induction d with
  | zero =>
    intro k x i j hx h0 hij h2 hp hd hk
    obtain ⟨k, rfl⟩ : ∃ m, k = m + 1 := ⟨k - 1, by omega⟩
    simp only [slices_Reverse_byte_byte.l0]
    rw [if_neg (by omega)]
    refine congrArg some (List.ext_getElem (by simp [hx, hn]) fun p h1 h3 => ?_)
    have e := hp p (by omega)
    rw [if_pos (by omega)] at e
    rw [List.getElem_reverse, get_getD, e, get_getD, hn]
  | succ d ih =>
    intro k x i j hx h0 hij h2 hp hd hk
    obtain ⟨k, rfl⟩ : ∃ m, k = m + 1 := ⟨k - 1, by omega⟩
    simp only [slices_Reverse_byte_byte.l0]
    by_cases hlt : i < j
    · rw [if_pos hlt, if_pos (by omega), if_pos (by omega), if_pos h0, if_pos (by omega)]
      rw [show wrap64 (i + 1) = i + 1 by unfold wrap64; omega, show wrap64 (j - 1) = j - 1 by unfold wrap64; omega]
      refine ih k _ (i + 1) (j - 1) (by simp [hx]) (by omega) (by omega) (by omega) (fun p hpn => ?_) (by omega) (by omega)
      have e := hp p hpn
      have ei := hp i.toNat (by omega)
      have ej := hp j.toNat (by omega)
      rw [if_neg (by omega)] at ei ej
      rw [List.getD_eq_getElem?_getD, List.getElem?_set, List.getElem?_set]
      simp only [List.length_set]
      by_cases e1 : j.toNat = p
      · rw [if_pos e1, if_pos (by omega), if_pos (by omega)]
        unfold rd
        rw [Option.getD_some, ei]
        congr 1
        omega
      · rw [if_neg e1]
        by_cases e2 : i.toNat = p
        · rw [if_pos e2, if_pos (by omega), if_pos (by omega)]
          unfold rd
          rw [Option.getD_some, ej]
          congr 1
          omega
        · rw [if_neg e2, ← List.getD_eq_getElem?_getD, e]
          by_cases hc : (p : Int) < i ∨ j < (p : Int)
          · rw [if_pos hc, if_pos (by omega)]
          · rw [if_neg hc, if_neg (by omega)]
    · rw [if_neg hlt]
      refine congrArg some (List.ext_getElem (by simp [hx, hn]) fun p h1 h3 => ?_)
      have e := hp p (by omega)
      by_cases hc : (p : Int) < i ∨ j < (p : Int)
      · rw [if_pos hc] at e
        rw [List.getElem_reverse, get_getD, e, get_getD, hn]
      · rw [if_neg hc] at e
        rw [List.getElem_reverse, get_getD, e, get_getD, hn]
        congr 1
        omega
theorem reverse_tells (l : List Int) (hmax : l.length ≤ 9223372036854775807) (k : Nat) (hk : l.length + 1 < k) : slices_Reverse_byte_byte.f k l = some l.reverse := by
  unfold slices_Reverse_byte_byte.f
  rw [show wrap64 ((l.length : Int) - 1) = (l.length : Int) - 1 by unfold wrap64; omega]
  exact reverse_loop l l.length rfl hmax l.length k l 0 _ rfl (by omega) (by omega) (by omega) (fun p hp => by rw [if_neg (by omega)]) (by omega) (by omega)

theorem infoByte : (Try.prog.info? 5).map (fun i => (i.zero, i.size, i.bytes)) = some (some (.int .u8 0), 1, 1) := by kernel_rfl
def bits_Put.f (a0 : Int) (a1 : Int) (a2 : Bool) : Option (List Int) := some (putB a0 a1 a2)
set_option maxHeartbeats 8000000 in
set_option maxRecDepth 100000 in
theorem bits_Put.calls (a0 : Int) (a1 : Int) (a2 : Bool) (r : List Int) (w : World) (h : bits_Put.f a0 a1 a2 = some r) :
    Calls Try.prog 51 #[.int .u64 a0, .int .i64 a1, .bool a2] w fun e w' => ∃ v0_ : Value, e = .returned (v0_) ∧ Kd.R (Kd.int .u8) 5 w' w.heap.size (fun _ => True) v0_ r ∧ Below w.heap.size w w' := by
  have HB := Aside0.mk (Below.refl w.heap.size w)
  obtain rfl := Option.some.inj h
  clear h
  obtain ⟨n, hn⟩ : ∃ n : Nat, n = putN a1 := ⟨_, rfl⟩
  have hn8 : n ≤ 8 := by rw [hn]; exact putN_le _
  obtain ⟨ji4, hji4⟩ : ∃ j_ : Int, (mn a1 8) = j_ := ⟨_, rfl⟩
  have hji4_ : (if 8 < a1 then 8 else a1) = ji4 := hji4
  obtain ⟨ji5, hji5⟩ : ∃ j_ : Int, (mx 0 (ji4)) = j_ := ⟨_, rfl⟩
  have hji5_ : (if 0 < (ji4) then (ji4) else 0) = ji5 := hji5
  obtain rfl : (n : Int) = ji5 := by
    rw [← hji5_, ← hji4_, hn]; unfold putN; (repeat' split) <;> omega
  have HP : Aside0 (putB a0 a1 a2 = if a2 then (putL a0 n).reverse else putL a0 n) := ⟨by rw [hn]; rfl⟩
  clear hji4 hji5 hn
  go_enter Try.func51, Try.ntmps51
  go_wp2_with (first | ((with_reducible refine gate_dst (N := 12) rfl ?_); refine Kd.R_make (Kd.int .u8) _ 5 rfl (N := 12) rfl 22 _ _ rfl (n : Int) rfl rfl Try.underlying22 (.int .u8 0) 1 infoByte rfl (by decide) (by omega) 0 (ok := fun _ => True) (okp := fun _ => True) rfl (fun _ hk => hk) trivial (by omega) (by omega) (Below.refl _ _) (Nat.le_refl _) ?_; intro v108 w8 ho9 hb hg_ hnew_; clear hg_ hnew_; rw [Int.toNat_natCast, ← putK_zero a0] at ho9; have HO9 := Aside0.mk ho9; have HB8 := Aside0.mk hb; clear ho9 hb HB; obtain ⟨Ao, co, eo⟩ := Kd.R_slice HO9.out; rw [putK_length] at eo; subst eo))
  go_loopw [15] (fun v15 w' => ∃ k : Nat, k ≤ n ∧ v15 = .int .i64 k ∧ Aside0 (Kd.R (Kd.int .u8) 5 w' w.heap.size (fun _ => True) (.slice Ao n co) (putK a0 n k)) ∧ Aside0 (Below w.heap.size w w')) (fun v15 _ => n - (intOf v15).toNat)
  case atStart => exact ⟨0, Nat.zero_le _, rfl, ⟨by (with_reducible repeat (first | apply Kd.R_alloc | apply Kd.R_drewN | apply Kd.R_drew)); exact HO9.out⟩, ⟨by repeat (first | (with_reducible first | exact HB8.out | apply below_alloc | apply pw_below_drewN | apply below_drew1) | exact HB8.out)⟩⟩
  case round =>
    clear HO9 HB8
    obtain ⟨k, hk, rfl, HO, HB⟩ := hrel
    by_cases hlt : k < n
    · obtain ⟨go17, co17, eo17, gb17, gl17, cl17, HG17⟩ := Kd.R_form HO.out (by rw [putK_length]; omega)
      injection eo17 with ea_ en_ ec_
      subst ea_ ec_
      clear en_
      have GB17 := Aside0.mk gb17
      have GG17 := Aside0.mk HG17
      clear gb17 gl17 HG17
      obtain ⟨hx17_0, hf17_0⟩ := Kd.R_celln 0 HO.out (k : Int) (by omega) (by omega)
      have HP18 := Kd.R_putg HO.out (k : Int) (a0 / 2 ^ (8 * k) % 256)
      rw [Int.toNat_natCast] at hx17_0 hf17_0 HP18
      rw [putK_succ] at HP18
      have HP18' := Aside0.mk HP18
      clear HP18
      go_wp2
      go_roundw
      case rel => exact ⟨k + 1, by omega, by go_num, ⟨HP18'.out.1⟩, ⟨below_set HB.out GB17.out⟩⟩
      case measure => simp [intOf]; omega
    · rw [putK_full a0 n k (by omega)] at HO
      cases a2
      · have HPf : Aside0 (putB a0 a1 false = putL a0 n) := ⟨by rw [HP.out]; rfl⟩
        clear HP
        go_wp2
        go_ret
        exact ⟨_, rfl, by rw [HPf.out]; exact HO.out, HB.out⟩
      · have HPf : Aside0 (putB a0 a1 true = (putL a0 n).reverse) := ⟨by rw [HP.out]; rfl⟩
        clear HP
        have hlen := putL_length a0 n
        have HLEN := Aside0.mk hlen
        clear hlen
        go_wp2_with fail
        with_reducible refine (slices_Reverse_byte_byte.calls (n + 2) (fun k_ => some k_ = (.slice Ao n co : Value).ownBlock) (.slice Ao n co) (putL a0 n) (putL a0 n).reverse w _ HB.out (Kd.R_tight rfl HO.out) (reverse_tells _ (by rw [HLEN.out]; omega) _ (by rw [HLEN.out]; omega))).mono ?_
        rintro e w22 ⟨rfl, hy0, hb, hkp⟩
        have HO_7 := Aside0.mk (Kd.R_reok rfl hy0 (fun k_ e_ => HO.out.1 k_ e_))
        have HB7 := Aside0.mk hb
        clear hb hkp hy0 HO HB
        go_wp2
        go_ret
        exact ⟨_, rfl, by rw [HPf.out]; exact HO_7.out, HB7.out⟩
end Go.Proofs.Ytphcckhegfgbgaa.Q
end
section
-- Ytphcckhegfgbgaa: written by a program for this claim (several laws of one seat at once)
namespace Go.Proofs.Ytphcckhegfgbgaa.Q
open Go.RowKit Go.Proofs.YtphcckhegfgbgaaW.PrintWords Go.Proofs.YtphcckhegfgbgaaW.PrintLast Go.Proofs.YtphcckhegfgbgaaW.PrintMore
attribute [local go_sem] max2_int min2_int max_two min_two max_three min_three max_four min_four   -- for this text's walks alone
set_option linter.unusedVariables false
set_option linter.unusedSimpArgs false

def bits_OnesCount64.f (a0 : Int) : Option (Int) := some (Go.bits .and .i64 (wrap64 (IntKind.u64.wrap ((IntKind.u64.wrap ((IntKind.u64.wrap ((Go.bits .and .u64 (IntKind.u64.wrap (((IntKind.u64.wrap ((Go.bits .and .u64 ((IntKind.u64.wrap ((Go.bits .and .u64 (a0 / 2) 6148914691236517205) + (Go.bits .and .u64 a0 6148914691236517205))) / 4) 3689348814741910323) + (Go.bits .and .u64 (IntKind.u64.wrap ((Go.bits .and .u64 (a0 / 2) 6148914691236517205) + (Go.bits .and .u64 a0 6148914691236517205))) 3689348814741910323))) / 16) + (IntKind.u64.wrap ((Go.bits .and .u64 ((IntKind.u64.wrap ((Go.bits .and .u64 (a0 / 2) 6148914691236517205) + (Go.bits .and .u64 a0 6148914691236517205))) / 4) 3689348814741910323) + (Go.bits .and .u64 (IntKind.u64.wrap ((Go.bits .and .u64 (a0 / 2) 6148914691236517205) + (Go.bits .and .u64 a0 6148914691236517205))) 3689348814741910323))))) 1085102592571150095) + ((Go.bits .and .u64 (IntKind.u64.wrap (((IntKind.u64.wrap ((Go.bits .and .u64 ((IntKind.u64.wrap ((Go.bits .and .u64 (a0 / 2) 6148914691236517205) + (Go.bits .and .u64 a0 6148914691236517205))) / 4) 3689348814741910323) + (Go.bits .and .u64 (IntKind.u64.wrap ((Go.bits .and .u64 (a0 / 2) 6148914691236517205) + (Go.bits .and .u64 a0 6148914691236517205))) 3689348814741910323))) / 16) + (IntKind.u64.wrap ((Go.bits .and .u64 ((IntKind.u64.wrap ((Go.bits .and .u64 (a0 / 2) 6148914691236517205) + (Go.bits .and .u64 a0 6148914691236517205))) / 4) 3689348814741910323) + (Go.bits .and .u64 (IntKind.u64.wrap ((Go.bits .and .u64 (a0 / 2) 6148914691236517205) + (Go.bits .and .u64 a0 6148914691236517205))) 3689348814741910323))))) 1085102592571150095) / 256))) + ((IntKind.u64.wrap ((Go.bits .and .u64 (IntKind.u64.wrap (((IntKind.u64.wrap ((Go.bits .and .u64 ((IntKind.u64.wrap ((Go.bits .and .u64 (a0 / 2) 6148914691236517205) + (Go.bits .and .u64 a0 6148914691236517205))) / 4) 3689348814741910323) + (Go.bits .and .u64 (IntKind.u64.wrap ((Go.bits .and .u64 (a0 / 2) 6148914691236517205) + (Go.bits .and .u64 a0 6148914691236517205))) 3689348814741910323))) / 16) + (IntKind.u64.wrap ((Go.bits .and .u64 ((IntKind.u64.wrap ((Go.bits .and .u64 (a0 / 2) 6148914691236517205) + (Go.bits .and .u64 a0 6148914691236517205))) / 4) 3689348814741910323) + (Go.bits .and .u64 (IntKind.u64.wrap ((Go.bits .and .u64 (a0 / 2) 6148914691236517205) + (Go.bits .and .u64 a0 6148914691236517205))) 3689348814741910323))))) 1085102592571150095) + ((Go.bits .and .u64 (IntKind.u64.wrap (((IntKind.u64.wrap ((Go.bits .and .u64 ((IntKind.u64.wrap ((Go.bits .and .u64 (a0 / 2) 6148914691236517205) + (Go.bits .and .u64 a0 6148914691236517205))) / 4) 3689348814741910323) + (Go.bits .and .u64 (IntKind.u64.wrap ((Go.bits .and .u64 (a0 / 2) 6148914691236517205) + (Go.bits .and .u64 a0 6148914691236517205))) 3689348814741910323))) / 16) + (IntKind.u64.wrap ((Go.bits .and .u64 ((IntKind.u64.wrap ((Go.bits .and .u64 (a0 / 2) 6148914691236517205) + (Go.bits .and .u64 a0 6148914691236517205))) / 4) 3689348814741910323) + (Go.bits .and .u64 (IntKind.u64.wrap ((Go.bits .and .u64 (a0 / 2) 6148914691236517205) + (Go.bits .and .u64 a0 6148914691236517205))) 3689348814741910323))))) 1085102592571150095) / 256))) / 65536))) + ((IntKind.u64.wrap ((IntKind.u64.wrap ((Go.bits .and .u64 (IntKind.u64.wrap (((IntKind.u64.wrap ((Go.bits .and .u64 ((IntKind.u64.wrap ((Go.bits .and .u64 (a0 / 2) 6148914691236517205) + (Go.bits .and .u64 a0 6148914691236517205))) / 4) 3689348814741910323) + (Go.bits .and .u64 (IntKind.u64.wrap ((Go.bits .and .u64 (a0 / 2) 6148914691236517205) + (Go.bits .and .u64 a0 6148914691236517205))) 3689348814741910323))) / 16) + (IntKind.u64.wrap ((Go.bits .and .u64 ((IntKind.u64.wrap ((Go.bits .and .u64 (a0 / 2) 6148914691236517205) + (Go.bits .and .u64 a0 6148914691236517205))) / 4) 3689348814741910323) + (Go.bits .and .u64 (IntKind.u64.wrap ((Go.bits .and .u64 (a0 / 2) 6148914691236517205) + (Go.bits .and .u64 a0 6148914691236517205))) 3689348814741910323))))) 1085102592571150095) + ((Go.bits .and .u64 (IntKind.u64.wrap (((IntKind.u64.wrap ((Go.bits .and .u64 ((IntKind.u64.wrap ((Go.bits .and .u64 (a0 / 2) 6148914691236517205) + (Go.bits .and .u64 a0 6148914691236517205))) / 4) 3689348814741910323) + (Go.bits .and .u64 (IntKind.u64.wrap ((Go.bits .and .u64 (a0 / 2) 6148914691236517205) + (Go.bits .and .u64 a0 6148914691236517205))) 3689348814741910323))) / 16) + (IntKind.u64.wrap ((Go.bits .and .u64 ((IntKind.u64.wrap ((Go.bits .and .u64 (a0 / 2) 6148914691236517205) + (Go.bits .and .u64 a0 6148914691236517205))) / 4) 3689348814741910323) + (Go.bits .and .u64 (IntKind.u64.wrap ((Go.bits .and .u64 (a0 / 2) 6148914691236517205) + (Go.bits .and .u64 a0 6148914691236517205))) 3689348814741910323))))) 1085102592571150095) / 256))) + ((IntKind.u64.wrap ((Go.bits .and .u64 (IntKind.u64.wrap (((IntKind.u64.wrap ((Go.bits .and .u64 ((IntKind.u64.wrap ((Go.bits .and .u64 (a0 / 2) 6148914691236517205) + (Go.bits .and .u64 a0 6148914691236517205))) / 4) 3689348814741910323) + (Go.bits .and .u64 (IntKind.u64.wrap ((Go.bits .and .u64 (a0 / 2) 6148914691236517205) + (Go.bits .and .u64 a0 6148914691236517205))) 3689348814741910323))) / 16) + (IntKind.u64.wrap ((Go.bits .and .u64 ((IntKind.u64.wrap ((Go.bits .and .u64 (a0 / 2) 6148914691236517205) + (Go.bits .and .u64 a0 6148914691236517205))) / 4) 3689348814741910323) + (Go.bits .and .u64 (IntKind.u64.wrap ((Go.bits .and .u64 (a0 / 2) 6148914691236517205) + (Go.bits .and .u64 a0 6148914691236517205))) 3689348814741910323))))) 1085102592571150095) + ((Go.bits .and .u64 (IntKind.u64.wrap (((IntKind.u64.wrap ((Go.bits .and .u64 ((IntKind.u64.wrap ((Go.bits .and .u64 (a0 / 2) 6148914691236517205) + (Go.bits .and .u64 a0 6148914691236517205))) / 4) 3689348814741910323) + (Go.bits .and .u64 (IntKind.u64.wrap ((Go.bits .and .u64 (a0 / 2) 6148914691236517205) + (Go.bits .and .u64 a0 6148914691236517205))) 3689348814741910323))) / 16) + (IntKind.u64.wrap ((Go.bits .and .u64 ((IntKind.u64.wrap ((Go.bits .and .u64 (a0 / 2) 6148914691236517205) + (Go.bits .and .u64 a0 6148914691236517205))) / 4) 3689348814741910323) + (Go.bits .and .u64 (IntKind.u64.wrap ((Go.bits .and .u64 (a0 / 2) 6148914691236517205) + (Go.bits .and .u64 a0 6148914691236517205))) 3689348814741910323))))) 1085102592571150095) / 256))) / 65536))) / 4294967296)))) 127)
set_option maxHeartbeats 8000000 in
set_option maxRecDepth 100000 in
theorem bits_OnesCount64.calls (a0 : Int) (r : Int) (w : World) (h : bits_OnesCount64.f a0 = some r) :
    Calls Try.prog 69 #[.int .u64 a0] w fun e w' => e = .returned (.int .i64 r) ∧ Drawn0 w w' := by
  have H : (some (Go.bits .and .i64 (wrap64 (IntKind.u64.wrap ((IntKind.u64.wrap ((IntKind.u64.wrap ((Go.bits .and .u64 (IntKind.u64.wrap (((IntKind.u64.wrap ((Go.bits .and .u64 ((IntKind.u64.wrap ((Go.bits .and .u64 (a0 / 2) 6148914691236517205) + (Go.bits .and .u64 a0 6148914691236517205))) / 4) 3689348814741910323) + (Go.bits .and .u64 (IntKind.u64.wrap ((Go.bits .and .u64 (a0 / 2) 6148914691236517205) + (Go.bits .and .u64 a0 6148914691236517205))) 3689348814741910323))) / 16) + (IntKind.u64.wrap ((Go.bits .and .u64 ((IntKind.u64.wrap ((Go.bits .and .u64 (a0 / 2) 6148914691236517205) + (Go.bits .and .u64 a0 6148914691236517205))) / 4) 3689348814741910323) + (Go.bits .and .u64 (IntKind.u64.wrap ((Go.bits .and .u64 (a0 / 2) 6148914691236517205) + (Go.bits .and .u64 a0 6148914691236517205))) 3689348814741910323))))) 1085102592571150095) + ((Go.bits .and .u64 (IntKind.u64.wrap (((IntKind.u64.wrap ((Go.bits .and .u64 ((IntKind.u64.wrap ((Go.bits .and .u64 (a0 / 2) 6148914691236517205) + (Go.bits .and .u64 a0 6148914691236517205))) / 4) 3689348814741910323) + (Go.bits .and .u64 (IntKind.u64.wrap ((Go.bits .and .u64 (a0 / 2) 6148914691236517205) + (Go.bits .and .u64 a0 6148914691236517205))) 3689348814741910323))) / 16) + (IntKind.u64.wrap ((Go.bits .and .u64 ((IntKind.u64.wrap ((Go.bits .and .u64 (a0 / 2) 6148914691236517205) + (Go.bits .and .u64 a0 6148914691236517205))) / 4) 3689348814741910323) + (Go.bits .and .u64 (IntKind.u64.wrap ((Go.bits .and .u64 (a0 / 2) 6148914691236517205) + (Go.bits .and .u64 a0 6148914691236517205))) 3689348814741910323))))) 1085102592571150095) / 256))) + ((IntKind.u64.wrap ((Go.bits .and .u64 (IntKind.u64.wrap (((IntKind.u64.wrap ((Go.bits .and .u64 ((IntKind.u64.wrap ((Go.bits .and .u64 (a0 / 2) 6148914691236517205) + (Go.bits .and .u64 a0 6148914691236517205))) / 4) 3689348814741910323) + (Go.bits .and .u64 (IntKind.u64.wrap ((Go.bits .and .u64 (a0 / 2) 6148914691236517205) + (Go.bits .and .u64 a0 6148914691236517205))) 3689348814741910323))) / 16) + (IntKind.u64.wrap ((Go.bits .and .u64 ((IntKind.u64.wrap ((Go.bits .and .u64 (a0 / 2) 6148914691236517205) + (Go.bits .and .u64 a0 6148914691236517205))) / 4) 3689348814741910323) + (Go.bits .and .u64 (IntKind.u64.wrap ((Go.bits .and .u64 (a0 / 2) 6148914691236517205) + (Go.bits .and .u64 a0 6148914691236517205))) 3689348814741910323))))) 1085102592571150095) + ((Go.bits .and .u64 (IntKind.u64.wrap (((IntKind.u64.wrap ((Go.bits .and .u64 ((IntKind.u64.wrap ((Go.bits .and .u64 (a0 / 2) 6148914691236517205) + (Go.bits .and .u64 a0 6148914691236517205))) / 4) 3689348814741910323) + (Go.bits .and .u64 (IntKind.u64.wrap ((Go.bits .and .u64 (a0 / 2) 6148914691236517205) + (Go.bits .and .u64 a0 6148914691236517205))) 3689348814741910323))) / 16) + (IntKind.u64.wrap ((Go.bits .and .u64 ((IntKind.u64.wrap ((Go.bits .and .u64 (a0 / 2) 6148914691236517205) + (Go.bits .and .u64 a0 6148914691236517205))) / 4) 3689348814741910323) + (Go.bits .and .u64 (IntKind.u64.wrap ((Go.bits .and .u64 (a0 / 2) 6148914691236517205) + (Go.bits .and .u64 a0 6148914691236517205))) 3689348814741910323))))) 1085102592571150095) / 256))) / 65536))) + ((IntKind.u64.wrap ((IntKind.u64.wrap ((Go.bits .and .u64 (IntKind.u64.wrap (((IntKind.u64.wrap ((Go.bits .and .u64 ((IntKind.u64.wrap ((Go.bits .and .u64 (a0 / 2) 6148914691236517205) + (Go.bits .and .u64 a0 6148914691236517205))) / 4) 3689348814741910323) + (Go.bits .and .u64 (IntKind.u64.wrap ((Go.bits .and .u64 (a0 / 2) 6148914691236517205) + (Go.bits .and .u64 a0 6148914691236517205))) 3689348814741910323))) / 16) + (IntKind.u64.wrap ((Go.bits .and .u64 ((IntKind.u64.wrap ((Go.bits .and .u64 (a0 / 2) 6148914691236517205) + (Go.bits .and .u64 a0 6148914691236517205))) / 4) 3689348814741910323) + (Go.bits .and .u64 (IntKind.u64.wrap ((Go.bits .and .u64 (a0 / 2) 6148914691236517205) + (Go.bits .and .u64 a0 6148914691236517205))) 3689348814741910323))))) 1085102592571150095) + ((Go.bits .and .u64 (IntKind.u64.wrap (((IntKind.u64.wrap ((Go.bits .and .u64 ((IntKind.u64.wrap ((Go.bits .and .u64 (a0 / 2) 6148914691236517205) + (Go.bits .and .u64 a0 6148914691236517205))) / 4) 3689348814741910323) + (Go.bits .and .u64 (IntKind.u64.wrap ((Go.bits .and .u64 (a0 / 2) 6148914691236517205) + (Go.bits .and .u64 a0 6148914691236517205))) 3689348814741910323))) / 16) + (IntKind.u64.wrap ((Go.bits .and .u64 ((IntKind.u64.wrap ((Go.bits .and .u64 (a0 / 2) 6148914691236517205) + (Go.bits .and .u64 a0 6148914691236517205))) / 4) 3689348814741910323) + (Go.bits .and .u64 (IntKind.u64.wrap ((Go.bits .and .u64 (a0 / 2) 6148914691236517205) + (Go.bits .and .u64 a0 6148914691236517205))) 3689348814741910323))))) 1085102592571150095) / 256))) + ((IntKind.u64.wrap ((Go.bits .and .u64 (IntKind.u64.wrap (((IntKind.u64.wrap ((Go.bits .and .u64 ((IntKind.u64.wrap ((Go.bits .and .u64 (a0 / 2) 6148914691236517205) + (Go.bits .and .u64 a0 6148914691236517205))) / 4) 3689348814741910323) + (Go.bits .and .u64 (IntKind.u64.wrap ((Go.bits .and .u64 (a0 / 2) 6148914691236517205) + (Go.bits .and .u64 a0 6148914691236517205))) 3689348814741910323))) / 16) + (IntKind.u64.wrap ((Go.bits .and .u64 ((IntKind.u64.wrap ((Go.bits .and .u64 (a0 / 2) 6148914691236517205) + (Go.bits .and .u64 a0 6148914691236517205))) / 4) 3689348814741910323) + (Go.bits .and .u64 (IntKind.u64.wrap ((Go.bits .and .u64 (a0 / 2) 6148914691236517205) + (Go.bits .and .u64 a0 6148914691236517205))) 3689348814741910323))))) 1085102592571150095) + ((Go.bits .and .u64 (IntKind.u64.wrap (((IntKind.u64.wrap ((Go.bits .and .u64 ((IntKind.u64.wrap ((Go.bits .and .u64 (a0 / 2) 6148914691236517205) + (Go.bits .and .u64 a0 6148914691236517205))) / 4) 3689348814741910323) + (Go.bits .and .u64 (IntKind.u64.wrap ((Go.bits .and .u64 (a0 / 2) 6148914691236517205) + (Go.bits .and .u64 a0 6148914691236517205))) 3689348814741910323))) / 16) + (IntKind.u64.wrap ((Go.bits .and .u64 ((IntKind.u64.wrap ((Go.bits .and .u64 (a0 / 2) 6148914691236517205) + (Go.bits .and .u64 a0 6148914691236517205))) / 4) 3689348814741910323) + (Go.bits .and .u64 (IntKind.u64.wrap ((Go.bits .and .u64 (a0 / 2) 6148914691236517205) + (Go.bits .and .u64 a0 6148914691236517205))) 3689348814741910323))))) 1085102592571150095) / 256))) / 65536))) / 4294967296)))) 127)) = some r := h
  clear h
  obtain rfl := Option.some.inj H
  go_enter Try.func69, Try.ntmps69
  go_wp2
  go_ret
  exact ⟨by first | rfl | (simp; done) | (simp [*]; done), by repeat (first | exact Drawn0.refl _ | apply Drawn0.step)⟩

def bits_OnesCount.f (a0 : Int) : Option (Int) := (bits_OnesCount64.f a0).bind fun t108 => (some t108)
set_option maxHeartbeats 8000000 in
set_option maxRecDepth 100000 in
theorem bits_OnesCount.calls (a0 : Int) (r : Int) (w : World) (h : bits_OnesCount.f a0 = some r) :
    Calls Try.prog 64 #[.int .u64 a0] w fun e w' => e = .returned (.int .i64 r) ∧ Drawn0 w w' := by
  have H : ((bits_OnesCount64.f a0).bind fun t108 => (some t108)) = some r := h
  clear h
  replace H := Option.bind_eq_some_iff.mp H
  obtain ⟨t108, A20, H⟩ := H
  replace H : (some t108) = some r := H
  have A2 := Aside0.mk A20
  clear A20
  obtain rfl := Option.some.inj H
  go_enter Try.func64, Try.ntmps64
  go_wp2_with (first | ((with_reducible refine gate_callee (f := 69) rfl ?_); refine goesL_ (some 7) rfl rfl Try.func69 (by kernel_rfl) rfl #[.int .u64 a0] rfl (by (try simp only [List.map_toArray, List.map_cons, List.map_nil]); first | done | rfl | (simp only [List.length_drop, List.length_take]; rfl)) ?_; (with_reducible refine (bits_OnesCount64.calls a0 t108 _ A2.out).mono ?_); rintro e w' ⟨rfl, ⟨nd, rfl⟩⟩; refine ⟨_, rfl, ?_⟩))
  go_ret
  exact ⟨by first | rfl | (simp; done) | (simp [*]; done), by repeat (first | exact Drawn0.refl _ | apply Drawn0.step)⟩

def bits_Align.f (a0 : Int) (a1 : Int) : Option (Bool) := if a1 ≥ 1 then (if a1 ≤ 8 then ((bits_OnesCount.f (IntKind.u64.wrap (a1))).bind fun t109 => (if t109 = 1 then (some ((Go.bits .and .u64 a0 (IntKind.u64.wrap (wrap64 (a1 - 1)))) == 0)) else (some false))) else (some false)) else (some false)
set_option maxHeartbeats 8000000 in
set_option maxRecDepth 100000 in
theorem bits_Align.calls (a0 : Int) (a1 : Int) (r : Bool) (w : World) (h : bits_Align.f a0 a1 = some r) :
    Calls Try.prog 49 #[.int .u64 a0, .int .i64 a1] w fun e w' => e = .returned (.bool r) ∧ Drawn0 w w' := by
  have H : (if a1 ≥ 1 then (if a1 ≤ 8 then ((bits_OnesCount.f (IntKind.u64.wrap (a1))).bind fun t109 => (if t109 = 1 then (some ((Go.bits .and .u64 a0 (IntKind.u64.wrap (wrap64 (a1 - 1)))) == 0)) else (some false))) else (some false)) else (some false)) = some r := h
  clear h
  by_cases c3 : a1 ≥ 1
  · rw [if_pos c3] at H
    have c3b0 : decide (1 ≤ a1) = true := decide_eq_true c3
    clear c3
    by_cases c4 : a1 ≤ 8
    · rw [if_pos c4] at H
      have c4b0 : decide (a1 ≤ 8) = true := decide_eq_true c4
      clear c4
      replace H := Option.bind_eq_some_iff.mp H
      obtain ⟨t109, A50, H⟩ := H
      replace H : (if t109 = 1 then (some ((Go.bits .and .u64 a0 (IntKind.u64.wrap (wrap64 (a1 - 1)))) == 0)) else (some false)) = some r := H
      have A5 := Aside0.mk A50
      clear A50
      by_cases c6 : t109 = 1
      · rw [if_pos c6] at H
        have c6b0 : (t109 == 1) = true := beq_iff_eq.mpr c6
        have c6b1 : (t109 != 1) = false := bne_eq_false_iff_eq.mpr c6
        clear c6
        obtain rfl := Option.some.inj H
        go_enter Try.func49, Try.ntmps49
        go_wp2_with (first | (go_at_call 64; (with_reducible refine (bits_OnesCount.calls (IntKind.u64.wrap (a1)) t109 _ A5.out).mono ?_); rintro e w' ⟨rfl, ⟨nd, rfl⟩⟩))
        go_ret
        exact ⟨by first | rfl | (simp; done) | (simp [*]; done), by repeat (first | exact Drawn0.refl _ | apply Drawn0.step)⟩
      · rw [if_neg c6] at H
        have c6b0 : (t109 == 1) = false := beq_eq_false_iff_ne.mpr c6
        have c6b1 : (t109 != 1) = true := bne_iff_ne.mpr c6
        obtain rfl := Option.some.inj H
        go_enter Try.func49, Try.ntmps49
        go_wp2_with (first | (go_at_call 64; (with_reducible refine (bits_OnesCount.calls (IntKind.u64.wrap (a1)) t109 _ A5.out).mono ?_); rintro e w' ⟨rfl, ⟨nd, rfl⟩⟩))
        go_ret
        exact ⟨by first | rfl | (simp; done) | (simp [*]; done), by repeat (first | exact Drawn0.refl _ | apply Drawn0.step)⟩
    · rw [if_neg c4] at H
      have c4b0 : decide (a1 ≤ 8) = false := decide_eq_false c4
      clear c4
      obtain rfl := Option.some.inj H
      go_enter Try.func49, Try.ntmps49
      go_wp2
      go_ret
      exact ⟨by first | rfl | (simp; done) | (simp [*]; done), by repeat (first | exact Drawn0.refl _ | apply Drawn0.step)⟩
  · rw [if_neg c3] at H
    have c3b0 : decide (1 ≤ a1) = false := decide_eq_false c3
    clear c3
    obtain rfl := Option.some.inj H
    go_enter Try.func49, Try.ntmps49
    go_wp2
    go_ret
    exact ⟨by first | rfl | (simp; done) | (simp [*]; done), by repeat (first | exact Drawn0.refl _ | apply Drawn0.step)⟩

end Go.Proofs.Ytphcckhegfgbgaa.Q
end
section
/- The contract of ram.Write, for one who reads what it answers. -/
namespace Go.Proofs.Ytphcckhegfgbgaa.Q
open Go.RowKit Go.Proofs.YtphcckhegfgbgaaW.PrintWords Go.Proofs.YtphcckhegfgbgaaW.PrintLast Go.Proofs.YtphcckhegfgbgaaW.PrintMore Go.Proofs.Ytphcckhegfgbgaa.L
attribute [local go_sem] Instr.field part asAgg lt_step max2_int min2_int max_two min_two max_three min_three max_four min_four lt_0_1 lt_0_2 lt_1_2 lt_0_3 lt_1_3 lt_2_3 lt_0_4 lt_1_4 lt_2_4 lt_3_4 lt_0_5 lt_1_5 lt_2_5 lt_3_5 lt_4_5 lt_0_6 lt_1_6 lt_2_6 lt_3_6 lt_4_6 lt_5_6 lt_0_7 lt_1_7 lt_2_7 lt_3_7 lt_4_7 lt_5_7 lt_6_7 lt_0_8 lt_1_8 lt_2_8 lt_3_8 lt_4_8 lt_5_8 lt_6_8 lt_7_8
set_option linter.unusedVariables false
set_option linter.unusedSimpArgs false
def knownZ (s : Int) : Bool := s == 1 || s == 2 || s == 4 || s == 8
theorem align_is (s : Int) : bits_Align.f 0 s = some (knownZ s) := by
  by_cases h1 : 1 ≤ s ∧ s ≤ 8
  · have : s = 1 ∨ s = 2 ∨ s = 3 ∨ s = 4 ∨ s = 5 ∨ s = 6 ∨ s = 7 ∨ s = 8 := by omega
    rcases this with rfl | rfl | rfl | rfl | rfl | rfl | rfl | rfl <;> decide +kernel
  · have e : knownZ s = false := by
      unfold knownZ
      rw [beq_eq_false_iff_ne.2 (show s ≠ 1 by omega), beq_eq_false_iff_ne.2 (show s ≠ 2 by omega), beq_eq_false_iff_ne.2 (show s ≠ 4 by omega), beq_eq_false_iff_ne.2 (show s ≠ 8 by omega)]; rfl
    rw [e]
    unfold bits_Align.f
    by_cases h2 : s ≥ 1
    · rw [if_pos h2, if_neg (by omega)]
    · rw [if_neg h2]
def writeL (l : List Int) (at_ size x : Int) : List Int := if knownZ size = true then fillL l at_ (putB x size false) else l
def writeK (l : List Int) (at_ size x : Int) : Bool := knownZ size && (placeZ l.length at_ (putB x size false).length).2
theorem writeL_length (l : List Int) (at_ size x : Int) : (writeL l at_ size x).length = l.length := by unfold writeL; split; exact fillL_length _ _ _; rfl
theorem putB_small (x size : Int) (b : Bool) : (putB x size b).length ≤ 9223372036854775807 := by
  have := putN_le size
  unfold putB
  split
  · rw [List.length_reverse, putL_length]; omega
  · rw [putL_length]; omega
set_option maxHeartbeats 1600000 in
set_option maxRecDepth 100000 in
theorem ram_Write.runs (A : Option Addr) (c : Nat) (l : List Int) (at_ size x : Int) (w : World) (ok : Nat → Prop) (hr : Kd.F (Kd.int .u8) w ok A l.length l) (hc : l.length ≤ c) (hat : u64B at_) (hl : l.length < 140737488355328) :
    Calls Try.prog 20 #[.agg #[.slice A l.length c], .int .u64 at_, .int .i64 size, .int .u64 x] w fun e w' => ∃ A' c', e = .returned (.tuple #[.agg #[.slice A' (writeL l at_ size x).length c'], .bool (writeK l at_ size x)]) ∧ (writeL l at_ size x).length ≤ c' ∧ Kd.F (Kd.int .u8) w' (fun j => ok j ∨ w.heap.size ≤ j) A' (writeL l at_ size x).length (writeL l at_ size x) ∧ Below w.heap.size w w' := by
  have ha := align_is size
  have HB := Aside0.mk (Below.refl w.heap.size w)
  have HR := Aside0.mk (Kd.F_bound hr)
  have HC := Aside0.mk hc
  have HT := Aside0.mk hat
  have HL := Aside0.mk hl
  have hu := Try.underlying24
  unfold writeK writeL
  cases hk : knownZ size
  · rw [hk] at ha
    rw [if_neg (by decide), Bool.false_and]
    have HA := Aside0.mk ha
    clear ha hk hr hc hat hl
    go_enter Try.func20, Try.ntmps20
    go_wp2_with fail
    (go_at_call 49; (with_reducible refine (dr (bits_Align.calls 0 size false _ HA.out)).mono ?_); rintro e_ w1 ⟨rfl, hb_⟩; have HB_ : Aside0 (Below w.heap.size w w1) := Aside0.mk (below_step (by repeat (first | (with_reducible first | exact HB.out | exact Below.refl _ _ | apply below_alloc | apply pw_below_drewN | apply below_drew | refine below_set ?_ (by omega)) | exact HB.out)) hb_); have hzw1 := hb_.size; (try simp at hzw1); have oa_ := Aside0.mk (box_below hb_ (by repeat (with_reducible first | exact nb_1 w _ | apply ext_drew | apply ext_drewN | apply ext_alloc | refine blk_far ?_ (by show _ ≠ _; dsimp only; omega) _))); have ob_ := Aside0.mk (box_below hb_ (by repeat (with_reducible first | exact nb_2 w _ _ | apply ext_drew | apply ext_drewN | apply ext_alloc | refine blk_far ?_ (by show _ ≠ _; dsimp only; omega) _))); (try clear oa oac oaf oal); have oa := oa_; clear oa_; obtain ⟨oac, oaf, oal⟩ := cells_of oa.out; (try clear ob obc obf obl); have ob := ob_; clear ob_; obtain ⟨obc, obf, obl⟩ := cells_of ob.out; clear HB hb_; have HB := HB_; clear HB_)
    go_wp2
    refine bodyPost_ret (v := .tuple #[.agg #[.slice A l.length c], .bool false]) (by simp [results, Try.results20, go_sem, oac, obc] <;> first | assumption | omega | (symm; assumption)) rfl ?_
    exact ⟨A, c, rfl, HC.out, F_w HR.out (by repeat (first | (with_reducible first | exact HB.out | exact Below.refl _ _ | apply below_alloc | apply pw_below_drewN | apply below_drew | refine below_set ?_ (by omega)) | exact HB.out)) (fun _ h => .inl h.1), (by repeat (first | (with_reducible first | exact HB.out | exact Below.refl _ _ | apply below_alloc | apply pw_below_drewN | apply below_drew | refine below_set ?_ (by omega)) | exact HB.out))⟩
  · rw [hk] at ha
    rw [if_pos rfl, Bool.true_and]
    have HA := Aside0.mk ha
    clear ha hk hr hc hat hl
    go_enter Try.func20, Try.ntmps20
    go_wp2_with fail
    (go_at_call 49; (with_reducible refine (dr (bits_Align.calls 0 size true _ HA.out)).mono ?_); rintro e_ w1 ⟨rfl, hb_⟩; have HB_ : Aside0 (Below w.heap.size w w1) := Aside0.mk (below_step (by repeat (first | (with_reducible first | exact HB.out | exact Below.refl _ _ | apply below_alloc | apply pw_below_drewN | apply below_drew | refine below_set ?_ (by omega)) | exact HB.out)) hb_); have hzw1 := hb_.size; (try simp at hzw1); have oa_ := Aside0.mk (box_below hb_ (by repeat (with_reducible first | exact nb_1 w _ | apply ext_drew | apply ext_drewN | apply ext_alloc | refine blk_far ?_ (by show _ ≠ _; dsimp only; omega) _))); have ob_ := Aside0.mk (box_below hb_ (by repeat (with_reducible first | exact nb_2 w _ _ | apply ext_drew | apply ext_drewN | apply ext_alloc | refine blk_far ?_ (by show _ ≠ _; dsimp only; omega) _))); (try clear oa oac oaf oal); have oa := oa_; clear oa_; obtain ⟨oac, oaf, oal⟩ := cells_of oa.out; (try clear ob obc obf obl); have ob := ob_; clear ob_; obtain ⟨obc, obf, obl⟩ := cells_of ob.out; clear HB hb_; have HB := HB_; clear HB_)
    have HR_ := Aside0.mk (Kd.F_below HR.out HB.out)
    clear HR; have HR := HR_; clear HR_
    go_wp2_with fail
    go_region_with (first | (go_at_call 51; (with_reducible refine (bits_Put.calls x size false _ _ rfl).mono ?_); rintro e_ w2 ⟨v_q, rfl, hr_q, hb_⟩; have HB_ : Aside0 (Below w.heap.size w w2) := Aside0.mk (below_step (by repeat (first | (with_reducible first | exact HB.out | exact Below.refl _ _ | apply below_alloc | apply pw_below_drewN | apply below_drew | refine below_set ?_ (by omega)) | exact HB.out)) hb_); have hzw2 := hb_.size; (try simp at hzw2); have oa_ := Aside0.mk (box_below hb_ (by repeat (with_reducible first | exact oa.out | apply ext_drew | apply ext_drewN | apply ext_alloc | refine blk_far ?_ (by show _ ≠ _; dsimp only; omega) _))); have ob_ := Aside0.mk (box_below hb_ (by repeat (with_reducible first | exact ob.out | apply ext_drew | apply ext_drewN | apply ext_alloc | refine blk_far ?_ (by show _ ≠ _; dsimp only; omega) _))); have HR_ := Aside0.mk (Kd.F_below (by (repeat (with_reducible first | exact HR.out | apply Kd.F_drew | apply Kd.F_drewN | apply Kd.F_alloc | refine Kd.F_far ?_ ?_ _)); all_goals (intro j_ hj_; (try dsimp only at hj_); (try dsimp only); (try simp only [sz_alloc, sz_drew, sz_drewN, sz_set] at hj_); omega)) hb_); clear HR; have HR := HR_; clear HR_; (try clear oa oac oaf oal); have oa := oa_; clear oa_; obtain ⟨oac, oaf, oal⟩ := cells_of oa.out; (try clear ob obc obf obl); have ob := ob_; clear ob_; obtain ⟨obc, obf, obl⟩ := cells_of ob.out; clear HB hb_; have HB := HB_; clear HB_; obtain ⟨A_q, c_q, ev_, hc_q, hf_q⟩ := R_Fl hr_q; subst ev_; have qc := Aside0.mk hc_q; have q := Aside0.mk (Kd.F_bound hf_q); clear hc_q hf_q hr_q; skip) | (go_at_call 50; (with_reducible refine (ram_Fill.runs A c l at_ A_q c_q (putB x size false) _ _ _ HR.out HC.out (by (repeat (with_reducible first | exact q.out | apply Kd.F_drew | apply Kd.F_drewN | apply Kd.F_alloc | refine Kd.F_far ?_ ?_ _)); all_goals (intro j_ hj_; (try dsimp only at hj_); (try dsimp only); (try simp only [sz_alloc, sz_drew, sz_drewN, sz_set] at hj_); omega)) qc.out HT.out HL.out (putB_small _ _ _)).mono ?_); rintro e_ w3 ⟨A_s, c_s, rfl, hc_s, hr_s, hb_⟩; have HB_ : Aside0 (Below w.heap.size w w3) := Aside0.mk (below_step (by repeat (first | (with_reducible first | exact HB.out | exact Below.refl _ _ | apply below_alloc | apply pw_below_drewN | apply below_drew | refine below_set ?_ (by omega)) | exact HB.out)) hb_); have hzw3 := hb_.size; (try simp at hzw3); have oa_ := Aside0.mk (box_below hb_ (by repeat (with_reducible first | exact oa.out | apply ext_drew | apply ext_drewN | apply ext_alloc | refine blk_far ?_ (by show _ ≠ _; dsimp only; omega) _))); have ob_ := Aside0.mk (box_below hb_ (by repeat (with_reducible first | exact ob.out | apply ext_drew | apply ext_drewN | apply ext_alloc | refine blk_far ?_ (by show _ ≠ _; dsimp only; omega) _))); (try clear oa oac oaf oal); have oa := oa_; clear oa_; obtain ⟨oac, oaf, oal⟩ := cells_of oa.out; (try clear ob obc obf obl); have ob := ob_; clear ob_; obtain ⟨obc, obf, obl⟩ := cells_of ob.out; clear HB hb_; have HB := HB_; clear HB_; have sc := Aside0.mk hc_s; have s := Aside0.mk (Kd.F_bound hr_s); clear hc_s hr_s; skip))
    all_goals go_wp2
    all_goals refine bodyPost_ret (v := .tuple #[.agg #[.slice A_s (fillL l at_ (putB x size false)).length c_s], .bool (placeZ l.length at_ (putB x size false).length).2]) (by simp [results, Try.results20, go_sem, obc, obf] <;> first | assumption | omega | (symm; assumption)) rfl ?_
    all_goals exact ⟨A_s, c_s, rfl, sc.out, (by refine F_res (ok := ?_) ?_ ?_; rotate_left; (repeat (with_reducible first | exact s.out | apply Kd.F_drew | apply Kd.F_drewN | apply Kd.F_alloc | refine Kd.F_far ?_ ?_ _)); all_goals (intro j_ hj_; (try dsimp only at hj_); (try dsimp only); (try simp only [sz_alloc, sz_drew, sz_drewN, sz_set] at hj_); first | omega | exact .inl hj_.1 | exact .inl hj_ | exact .inr (by omega) | (rcases hj_ with hj_ | hj_; exact .inl hj_.1; exact .inr (by omega)) | (rcases hj_ with hj_ | hj_; exact .inl hj_; exact .inr (by omega)) | (rcases hj_.1 with hk_ | hk_; (first | exact .inl hk_.1 | exact .inl hk_); exact .inr (by omega)))), (by repeat (first | (with_reducible first | exact HB.out | exact Below.refl _ _ | apply below_alloc | apply pw_below_drewN | apply below_drew | refine below_set ?_ (by omega)) | exact HB.out))⟩
end Go.Proofs.Ytphcckhegfgbgaa.Q
end
section
/- ram.Fill and ram.Write, as those who call them have it. -/
namespace Go.Proofs.Ytphcckhegfgbgaa.Q
open Go.RowKit Go.Proofs.YtphcckhegfgbgaaW.PrintWords Go.Proofs.YtphcckhegfgbgaaW.PrintLast Go.Proofs.YtphcckhegfgbgaaW.PrintMore Go.Proofs.Ytphcckhegfgbgaa.L
attribute [local go_sem] Instr.field part asAgg lt_step max2_int min2_int max_two min_two max_three min_three max_four min_four lt_0_1 lt_0_2 lt_1_2 lt_0_3 lt_1_3 lt_2_3 lt_0_4 lt_1_4 lt_2_4 lt_3_4 lt_0_5 lt_1_5 lt_2_5 lt_3_5 lt_4_5 lt_0_6 lt_1_6 lt_2_6 lt_3_6 lt_4_6 lt_5_6 lt_0_7 lt_1_7 lt_2_7 lt_3_7 lt_4_7 lt_5_7 lt_6_7 lt_0_8 lt_1_8 lt_2_8 lt_3_8 lt_4_8 lt_5_8 lt_6_8 lt_7_8
set_option linter.unusedVariables false
set_option linter.unusedSimpArgs false
def ram_Fill.f (l : List Int) (a : Int) (b : List Int) : Option (List Int × Bool) := if u64B a ∧ l.length < 140737488355328 ∧ b.length ≤ 9223372036854775807 then some (fillL l a b, (placeZ l.length a b.length).2) else none
theorem ram_Fill.calls (P0_0_ : Nat → Prop) (A0_0 : Option Addr) (c0_0 : Nat) (l0_0 : List Int) (a1 : Int) (A2 : Option Addr) (c2 : Nat) (l2 : List Int) (r1 : List Int) (r2 : Bool) (w : World) (hs0_0 : Kd.V (Kd.int .u8) 5 w w.heap.size (fun k_ => P0_0_ k_) (.slice A0_0 l0_0.length c0_0) l0_0) (hr2 : Kd.C (Kd.int .u8) w A2 l2.length l2) (hc2 : l2.length ≤ c2) (h : ram_Fill.f l0_0 a1 l2 = some (r1, r2)) :
    Calls Try.prog 50 #[.agg #[.slice A0_0 l0_0.length c0_0], .int .u64 a1, .slice A2 l2.length c2] w fun e w' => ∃ v0_ : Value, e = .returned (.tuple #[.agg #[v0_], .bool r2]) ∧ Kd.V (Kd.int .u8) 5 w' w.heap.size (fun k_ => (P0_0_ k_ ∨ w.heap.size ≤ k_)) v0_ r1 ∧ Below w.heap.size w w' := by
  unfold ram_Fill.f at h
  split at h
  case isFalse => cases h
  case isTrue hh =>
  obtain ⟨ha, hl, hb⟩ := hh
  injection h with h
  injection h with e1 e2
  subst e1; subst e2
  obtain ⟨_, hc, hF⟩ := V_F hs0_0
  refine (ram_Fill.runs A0_0 c0_0 l0_0 a1 A2 c2 l2 w P0_0_ _ hF hc (F_in hr2) hc2 ha hl hb).mono ?_
  rintro e w' ⟨A', c', he, hc', hF', hB⟩
  exact ⟨_, he, ⟨A', c', rfl, hc', hF'⟩, hB⟩
def ram_Write.f (l : List Int) (a size x : Int) : Option (List Int × Bool) := if u64B a ∧ l.length < 140737488355328 then some (writeL l a size x, writeK l a size x) else none
theorem ram_Write.calls (P0_0_ : Nat → Prop) (A0_0 : Option Addr) (c0_0 : Nat) (l0_0 : List Int) (a1 : Int) (a2 : Int) (a3 : Int) (r1 : List Int) (r2 : Bool) (w : World) (hs0_0 : Kd.V (Kd.int .u8) 5 w w.heap.size (fun k_ => P0_0_ k_) (.slice A0_0 l0_0.length c0_0) l0_0) (h : ram_Write.f l0_0 a1 a2 a3 = some (r1, r2)) :
    Calls Try.prog 20 #[.agg #[.slice A0_0 l0_0.length c0_0], .int .u64 a1, .int .i64 a2, .int .u64 a3] w fun e w' => ∃ v0_ : Value, e = .returned (.tuple #[.agg #[v0_], .bool r2]) ∧ Kd.V (Kd.int .u8) 5 w' w.heap.size (fun k_ => (P0_0_ k_ ∨ w.heap.size ≤ k_)) v0_ r1 ∧ Below w.heap.size w w' := by
  unfold ram_Write.f at h
  split at h
  case isFalse => cases h
  case isTrue hh =>
  obtain ⟨ha, hl⟩ := hh
  injection h with h
  injection h with e1 e2
  subst e1; subst e2
  obtain ⟨_, hc, hF⟩ := V_F hs0_0
  refine (ram_Write.runs A0_0 c0_0 l0_0 a1 a2 a3 w P0_0_ hF hc ha hl).mono ?_
  rintro e w' ⟨A', c', he, hc', hF', hB⟩
  exact ⟨_, he, ⟨A', c', rfl, hc', hF'⟩, hB⟩
end Go.Proofs.Ytphcckhegfgbgaa.Q
end
section
/- nic.ring and nic.Check, the controller one letter. -/
namespace Go.Proofs.Ytphcckhegfgbgaa.Q
open Go.RowKit Go.Proofs.YtphcckhegfgbgaaW.PrintWords Go.Proofs.YtphcckhegfgbgaaW.PrintLast Go.Proofs.YtphcckhegfgbgaaW.PrintMore Go.Proofs.Ytphcckhegfgbgaa.L
attribute [local go_sem] Instr.field part asAgg lt_step max2_int min2_int max_two min_two max_three min_three max_four min_four lt_0_1 lt_0_2 lt_1_2 lt_0_3 lt_1_3 lt_2_3 lt_0_4 lt_1_4 lt_2_4 lt_3_4 lt_0_5 lt_1_5 lt_2_5 lt_3_5 lt_4_5 lt_0_6 lt_1_6 lt_2_6 lt_3_6 lt_4_6 lt_5_6 lt_0_7 lt_1_7 lt_2_7 lt_3_7 lt_4_7 lt_5_7 lt_6_7 lt_0_8 lt_1_8 lt_2_8 lt_3_8 lt_4_8 lt_5_8 lt_6_8 lt_7_8
set_option linter.unusedVariables false
set_option linter.unusedSimpArgs false
set_option maxHeartbeats 1600000 in
set_option maxRecDepth 100000 in
theorem ring_is (b n h t : Int) (w : World) : Calls Try.prog 66 #[.int .u64 b, .int .i64 n, .int .i64 h, .int .i64 t] w fun e w' => e = .returned (.bool (ringB b n h t)) ∧ w = w' := by
  go_enter Try.func66, Try.ntmps66
  go_wp2
  all_goals go_ret
  all_goals refine ⟨congrArg (fun x => Ending.returned (.bool x)) ?_, rfl⟩
  all_goals (unfold ringB; simp [*] <;> (intros; omega))
set_option maxHeartbeats 1600000 in
set_option maxRecDepth 100000 in
theorem Check_is (c : Nat → Int) (A : Option Addr) (m cap : Nat) (w : World) : Calls Try.prog 54 #[.agg (C14 c (.slice A m cap))] w fun e w' => e = .returned (.bool (okC c m)) ∧ Below w.heap.size w w' := by
  have HB := Aside0.mk (Below.refl w.heap.size w)
  have hu := Try.underlying34
  go_enter Try.func54, Try.ntmps54
  go_upto_region 1 with fail
  obtain ⟨wa, hwa, oc0, hb_, hz0⟩ := letter1 w (.cells (C14 c (.slice A m cap)) 34 (0, 0))
  rw [hwa]
  clear hwa
  obtain ⟨occ, ocf, ocl⟩ := cells_of oc0
  have hc0 := (occ 0).trans (C14_at c (.slice A m cap) 0 (by decide))
  have hc1 := (occ 1).trans (C14_at c (.slice A m cap) 1 (by decide))
  have hc2 := (occ 2).trans (C14_at c (.slice A m cap) 2 (by decide))
  have hc3 := (occ 3).trans (C14_at c (.slice A m cap) 3 (by decide))
  have hc4 := (occ 4).trans (C14_at c (.slice A m cap) 4 (by decide))
  have hc5 := (occ 5).trans (C14_at c (.slice A m cap) 5 (by decide))
  have hc6 := (occ 6).trans (C14_at c (.slice A m cap) 6 (by decide))
  have hc7 := (occ 7).trans (C14_at c (.slice A m cap) 7 (by decide))
  have hc8 := (occ 8).trans (C14_at c (.slice A m cap) 8 (by decide))
  have hc9 := (occ 9).trans (C14_at c (.slice A m cap) 9 (by decide))
  have hc10 := (occ 10).trans (C14_at c (.slice A m cap) 10 (by decide))
  have hc11 := (occ 11).trans (C14_at c (.slice A m cap) 11 (by decide))
  have hc12 := (occ 12).trans (C14_at c (.slice A m cap) 12 (by decide))
  have hc13 := (occ 13).trans (C14_mac c (.slice A m cap))
  simp only [show kd14 3 = .u64 from rfl, show kd14 7 = .u64 from rfl, show kd14 0 = .i64 from rfl, show kd14 1 = .i64 from rfl, show kd14 2 = .i64 from rfl, show kd14 4 = .i64 from rfl, show kd14 5 = .i64 from rfl, show kd14 6 = .i64 from rfl, show kd14 8 = .i64 from rfl, show kd14 9 = .i64 from rfl, show kd14 10 = .i64 from rfl, show kd14 11 = .i64 from rfl, show kd14 12 = .i64 from rfl] at hc0 hc1 hc2 hc3 hc4 hc5 hc6 hc7 hc8 hc9 hc10 hc11 hc12
  clear occ oc0 hz0
  go_cut [3] (fun v wx => v = .bool (smallB c) ∧ wa = wx)
  case first =>
    go_wp2_with fail
    all_goals go_meet
    all_goals refine ⟨congrArg Value.bool ?_, rfl⟩
    all_goals (unfold smallB; simp [*] <;> (intros; omega))
  case rest =>
  obtain ⟨rfl, rfl⟩ := hcut
  go_upto_region 2 with fail
  go_cut [4] (fun v wx => v = .bool (countB c) ∧ wa = wx)
  case first =>
    go_wp2_with fail
    all_goals go_meet
    all_goals refine ⟨congrArg Value.bool ?_, rfl⟩
    all_goals (unfold countB; simp [*] <;> (intros; omega))
  case rest =>
  obtain ⟨rfl, rfl⟩ := hcut
  cases hs : smallB c <;> cases hk : countB c <;> cases h1 : ringB (c 3) (c 4) (c 5) (c 6) <;> cases h2 : ringB (c 7) (c 8) (c 9) (c 10)
  all_goals
    go_wp2_with (first | (go_at_call 66; (with_reducible refine (ring_is (c 3) (c 4) (c 5) (c 6) _).mono ?_); rintro e_ w_ ⟨rfl, rfl⟩) | (go_at_call 66; (with_reducible refine (ring_is (c 7) (c 8) (c 9) (c 10) _).mono ?_); rintro e_ w_ ⟨rfl, rfl⟩))
  all_goals go_ret
  all_goals refine ⟨congrArg (fun x => Ending.returned (.bool x)) ?_, (by repeat (first | (with_reducible first | exact hb_ | exact Below.refl _ _ | apply below_alloc | apply pw_below_drewN | apply below_drew | refine below_set ?_ (by omega)) | exact hb_))⟩
  all_goals (unfold okC; simp [*] <;> omega)
end Go.Proofs.Ytphcckhegfgbgaa.Q
end
section
/- The contract of bits.Get. -/
namespace Go.Proofs.Ytphcckhegfgbgaa.Q
open Go.RowKit Go.Proofs.YtphcckhegfgbgaaW.PrintWords Go.Proofs.YtphcckhegfgbgaaW.PrintLast Go.Proofs.YtphcckhegfgbgaaW.PrintMore Go.Proofs.Ytphcckhegfgbgaa.L
attribute [local go_sem] max2_int min2_int max_two min_two max_three min_three max_four min_four
set_option linter.unusedVariables false
set_option linter.unusedSimpArgs false

def bits_Get.f (l0 : List Int) (a1 : Bool) : Option Int := if ∀ x ∈ l0.take 8, byte x then some (getB l0 a1) else none
set_option maxHeartbeats 8000000 in
set_option maxRecDepth 100000 in
theorem bits_Get.calls (A0 : Option Addr) (c0 : Nat) (l0 : List Int) (a1 : Bool) (r : Int) (w : World) (hr0 : Kd.C (Kd.int .u8) w A0 l0.length l0) (hc0 : l0.length ≤ c0) (h : bits_Get.f l0 a1 = some r) :
    Calls Try.prog 57 #[.slice A0 l0.length c0, .bool a1] w fun e w' => e = .returned (.int .u64 r) ∧ Below w.heap.size w w' := by
  have HR0 := Aside0.mk hr0
  have HC0 := Aside0.mk hc0
  have HB := Aside0.mk (Below.refl w.heap.size w)
  have hm : l0.length ≤ 9223372036854775807 := hr0.2.1
  clear hr0 hc0
  unfold bits_Get.f at h
  by_cases hby : ∀ x ∈ l0.take 8, byte x
  · rw [if_pos hby] at h
    obtain rfl := Option.some.inj h
    clear h
    have HBY := Aside0.mk hby
    clear hby
    have H8 : (l0.length : Int) ≤ 8 ∨ 8 < (l0.length : Int) := by omega
    obtain ⟨N, hN⟩ : ∃ N : Nat, N = (l0.take 8).length := ⟨_, rfl⟩
    have hN8 : N ≤ 8 := by rw [hN]; simp; omega
    have hNl : N ≤ l0.length := by rw [hN]; simp; omega
    have hE : l0.length ≤ N ∨ 8 ≤ N := by rw [hN]; simp; omega
    have HN := Aside0.mk hN
    clear hN
    cases a1
    · have hbs : ∀ k, k < N → (l0.take 8)[k]? = some (rd l0 (k : Int)) := fun k hk => by
        rw [HN.out] at hk; unfold rd; rw [Int.toNat_natCast]; exact take8_at l0 k hk
      have HBS := Aside0.mk hbs
      clear hbs
      rcases H8 with H8 | H8
      all_goals
        go_enter Try.func57, Try.ntmps57
        go_wp2
        go_loop [5, 13] (fun v5 v13 => ∃ k : Nat, k ≤ N ∧ v13 = .int .i64 k ∧ v5 = .int .u64 (getLE ((l0.take 8).take k))) (fun _ v13 => N - (intOf v13).toNat)
        case atStart => exact ⟨0, Nat.zero_le _, rfl, rfl⟩
        case round =>
          obtain ⟨k, hk, rfl, rfl⟩ := hrel
          by_cases hlt : k < N
          · obtain ⟨ad, rfl, hc⟩ := Kd.at_int HR0.out (k : Int) (by omega) (by omega)
            rw [Int.toNat_natCast] at hc
            go_wp2
            all_goals
              go_round
              case rel => exact ⟨k + 1, by omega, by go_num, congrArg _ (get_step _ k _ (by have := HN.out; omega) (by have := HN.out; omega) HBY.out (HBS.out k hlt))⟩
              case measure => simp [intOf]; omega
          · go_wp2
            go_ret
            exact ⟨congrArg (fun z => Ending.returned (.int .u64 z)) (by rw [List.take_of_length_le (by have := HN.out; omega)]; rfl), HB.out⟩
    · have hbs : ∀ k, k < N → (l0.take 8).reverse[k]? = some (rd l0 ((N - 1 - k : Nat) : Int)) := fun k hk => by
        unfold rd; rw [Int.toNat_natCast]; exact rev8_at l0 k _ (by rw [← HN.out]; exact hk) (by rw [← HN.out]; omega)
      have HBS := Aside0.mk hbs
      clear hbs
      have HBR := Aside0.mk (fun x (hx : x ∈ (l0.take 8).reverse) => HBY.out x (List.mem_reverse.1 hx))
      have HNR : Aside0 (N = (l0.take 8).reverse.length) := ⟨by rw [List.length_reverse]; exact HN.out⟩
      rcases H8 with H8 | H8
      all_goals
        go_enter Try.func57, Try.ntmps57
        go_wp2
        go_loop [5, 13] (fun v5 v13 => ∃ k : Nat, k ≤ N ∧ v13 = .int .i64 k ∧ v5 = .int .u64 (getLE ((l0.take 8).reverse.take k))) (fun _ v13 => N - (intOf v13).toNat)
        case atStart => exact ⟨0, Nat.zero_le _, rfl, rfl⟩
        case round =>
          obtain ⟨k, hk, rfl, rfl⟩ := hrel
          by_cases hlt : k < N
          · obtain ⟨ad, rfl, hc⟩ := Kd.at_int HR0.out ((N - 1 - k : Nat) : Int) (by omega) (by omega)
            rw [Int.toNat_natCast] at hc
            have hc1 : l0.length ≤ 8 → w.cell? (ad.add (l0.length - 1 - k)) = some (.int .u8 (rd l0 ((N - 1 - k : Nat) : Int))) := fun h => by rw [show l0.length - 1 - k = N - 1 - k by omega]; exact hc
            have hc2 : 8 < l0.length → w.cell? (ad.add (8 - 1 - k)) = some (.int .u8 (rd l0 ((N - 1 - k : Nat) : Int))) := fun h => by rw [show 8 - 1 - k = N - 1 - k by omega]; exact hc
            first | (replace hc1 := hc1 (by omega)) | (replace hc2 := hc2 (by omega))
            go_wp2
            all_goals
              go_round
              case rel => exact ⟨k + 1, by omega, by go_num, congrArg _ (get_step _ k _ (by have := HNR.out; omega) (by have := HNR.out; omega) HBR.out (HBS.out k hlt))⟩
              case measure => simp [intOf]; omega
          · go_wp2
            go_ret
            exact ⟨congrArg (fun z => Ending.returned (.int .u64 z)) (by rw [List.take_of_length_le (by have := HNR.out; omega)]; rfl), HB.out⟩
  · rw [if_neg hby] at h
    exact absurd h (by simp)

end Go.Proofs.Ytphcckhegfgbgaa.Q
end
section
/- A region that draws its order, walked in one way: whole rows loaded, stored; calls whose world is 'Below'. -/
namespace Go.Proofs.Ytphcckhegfgbgaa.L
open Go.RowKit Go.Proofs.YtphcckhegfgbgaaW.PrintWords Go.Proofs.YtphcckhegfgbgaaW.PrintLast
set_option linter.unusedVariables false
section
variable {P : Program} {ops : Array Oper} {Q : Exit → Act → World → Prop} {md : Region.Mode} {S : World → Prop} {ds : List Nat} {a : Act} {w : World} {i fuel : Nat} {N : Option Tmp} {oi : Oper} {l : Array Bool}
theorem rowL_ (l' : Array Bool) (hi : ops[i]? = some oi) (hN : oi.dst = N) (hc : takeB md ops ds l l' i = true) (ty : TypeId) (x : Operand) (ho : oi.op = .load ty x) (g : Nat) (cs : Array Value)
    (hQ : ∀ c a w, Q (.panic c) (a.put oi.dst (.agg cs)) w → Q (.panic c) a w) (hw : Region.wanted oi (yielded ops a.tmps) = true) (hx : a.eval x = .pointer (some ⟨g, 0, none⟩))
    (t : TypeId) (fr : Nat × Nat) (d : TypeDesc) (hSg : ∀ w, S w → w.heap[g]? = some (.cells cs t fr)) (hu : P.underlying ty = some d) (hd : (match d with | .struct _ | .array _ _ => true | _ => false) = true) (hz : (P.info? ty).map (·.size) = some cs.size)
    (hS : S w) {a' : Act} (ha : a.put N (.agg cs) = a') (h : wpAnyLast P md ops Q S ds fuel l' a' w) : wpAnyLast P md ops Q S ds (fuel + 1) l a w := by
  refine take_ (v := .agg cs) l' hi hN hc hQ (.inl ⟨hw, fun w' hw' => ?_⟩) hS ha h
  unfold execOp
  simp only [ho, hx, Instr.loadAt, Instr.sureAddr, Sem.run_bind, Sem.run_pure, Result.andThen_ok, run_loadVar_row w' g t ty cs fr d (hSg w' hw') hu hd hz]
theorem rowS_ (l' : Array Bool) (hi : ops[i]? = some oi) (hN : oi.dst = none) (hc : readyB md ops l l' i = true) (hd : i ∉ ds) (ty : TypeId) (x y : Operand) (ho : oi.op = .store ty x y) (g : Nat) (cells : Array Value)
    (hw : Region.wanted oi (yielded ops a.tmps) = true) (hx : a.eval x = .pointer (some ⟨g, 0, none⟩)) (hy : a.eval y = .agg cells)
    (cs0 : Array Value) (t : TypeId) (hg : w.heap[g]? = some (.cells cs0 t (0, 0))) (hs : cs0.size = cells.size) (hz : (P.info? ty).map (·.size) = some cells.size) (h1 : cells.all (·.oneCell') = true)
    (h : ∀ w1, Stored g cells t w w1 → S w1 ∧ wpAnyLast P md ops Q S ds fuel l' a w1) : wpAnyLast P md ops Q S ds (fuel + 1) l a w := by
  refine one_ l' hi hN hc hd (fun K hK => ?_)
  rw [if_pos hw]
  refine wp_store_mid ty x y ho g 0 cells hx hy (st_there hg hs) hz h1 ?_
  rw [hN]
  have h2 := h _ (st_done hg hs)
  exact hK.out _ _ h2.1 (fun _ => h2.2)
end
end Go.Proofs.Ytphcckhegfgbgaa.L
end
section
/- What the card's texts share (layer 13). -/
namespace Go.Proofs.Ytphcckhegfgbgaa.Q
open Go.RowKit Go.Proofs.YtphcckhegfgbgaaW.PrintWords Go.Proofs.YtphcckhegfgbgaaW.PrintLast Go.Proofs.YtphcckhegfgbgaaW.PrintMore Go.Proofs.Ytphcckhegfgbgaa.L
attribute [local go_sem] Instr.field part asAgg lt_step max2_int min2_int max_two min_two max_three min_three max_four min_four lt_0_1 lt_0_2 lt_1_2 lt_0_3 lt_1_3 lt_2_3 lt_0_4 lt_1_4 lt_2_4 lt_3_4 lt_0_5 lt_1_5 lt_2_5 lt_3_5 lt_4_5 lt_0_6 lt_1_6 lt_2_6 lt_3_6 lt_4_6 lt_5_6 lt_0_7 lt_1_7 lt_2_7 lt_3_7 lt_4_7 lt_5_7 lt_6_7 lt_0_8 lt_1_8 lt_2_8 lt_3_8 lt_4_8 lt_5_8 lt_6_8 lt_7_8
set_option linter.unusedVariables false
set_option linter.unusedSimpArgs false
theorem F_nil {k : IntKind} {W : World} {ok : Nat → Prop} : Kd.F (Kd.int k) W ok none 0 [] := fun W' _ => ⟨rfl, by decide, fun h => absurd h (by decide)⟩
theorem Check_of (b : Bool) (c : Nat → Int) (A : Option Addr) (m cap : Nat) (w : World) (h : okC c m = b) : Calls Try.prog 54 #[.agg (C14 c (.slice A m cap))] w fun e w' => e = .returned (.bool b) ∧ Below w.heap.size w w' := by
  rw [← h]; exact Check_is c A m cap w
end Go.Proofs.Ytphcckhegfgbgaa.Q
end
section
/- nic.New, nic.Line. -/
namespace Go.Proofs.Ytphcckhegfgbgaa.Q
open Go.RowKit Go.Proofs.YtphcckhegfgbgaaW.PrintWords Go.Proofs.YtphcckhegfgbgaaW.PrintLast Go.Proofs.YtphcckhegfgbgaaW.PrintMore Go.Proofs.Ytphcckhegfgbgaa.L
attribute [local go_sem] Instr.field part asAgg lt_step max2_int min2_int max_two min_two max_three min_three max_four min_four lt_0_1 lt_0_2 lt_1_2 lt_0_3 lt_1_3 lt_2_3 lt_0_4 lt_1_4 lt_2_4 lt_3_4 lt_0_5 lt_1_5 lt_2_5 lt_3_5 lt_4_5 lt_0_6 lt_1_6 lt_2_6 lt_3_6 lt_4_6 lt_5_6 lt_0_7 lt_1_7 lt_2_7 lt_3_7 lt_4_7 lt_5_7 lt_6_7 lt_0_8 lt_1_8 lt_2_8 lt_3_8 lt_4_8 lt_5_8 lt_6_8 lt_7_8
set_option linter.unusedVariables false
set_option linter.unusedSimpArgs false
def new1 : Nat → Int := fun i => if i = 4 ∨ i = 8 then 1 else 0
def lineZ (c : Nat → Int) (m : Nat) : Bool := okC c m && decide (Go.bits .and .i64 (c 1) (c 2) > 0)
set_option maxHeartbeats 1600000 in
set_option maxRecDepth 100000 in
theorem New_yes (A : Option Addr) (cap : Nat) (mac : List Int) (w : World) (okm : Nat → Prop) (hm : Kd.F (Kd.int .u8) w okm A mac.length mac) (hmc : mac.length ≤ cap) (h6 : mac.length = 6) :
    Calls Try.prog 37 #[.slice A mac.length cap] w fun e w' => ∃ A' c', e = .returned (.tuple #[.agg (C14 new1 (.slice A' mac.length c')), .int .i64 0]) ∧ mac.length ≤ c' ∧ Kd.F (Kd.int .u8) w' (fun j => w.heap.size ≤ j) A' mac.length mac ∧ Below w.heap.size w w' := by
  have HB := Aside0.mk (Below.refl w.heap.size w)
  have HM := Aside0.mk (Kd.F_bound hm)
  have HMC := Aside0.mk hmc
  have hu := Try.underlying34
  have hb6 : ((mac.length : Int) != 6) = false := by rw [h6]; rfl
  have hi6 : decide ((mac.length : Int) = 6) = true := by rw [h6]; rfl
  have HCL : Aside0 (slices_Clone_byte_byte.f mac = some mac) := ⟨by unfold slices_Clone_byte_byte.f; rw [if_pos (by omega)]⟩
  clear hm hmc h6
  go_enter Try.func37, Try.ntmps37
  go_wp2_with fail
  (go_at_call 53; (with_reducible refine (slices_Clone_byte_byte.calls A cap mac mac _ (Kd.F_now (fG HM)) HMC.out HCL.out).mono ?_); rintro e_ w1 ⟨v_q, rfl, hr_q, hb_⟩; have HB_ : Aside0 (Below w.heap.size w w1) := Aside0.mk (below_step (bG HB) hb_); have hzw1 := hb_.size; (try simp at hzw1); have oa_ := Aside0.mk (box_below hb_ (by repeat (with_reducible first | exact nb_1 w _ | apply ext_drew | apply ext_drewN | apply ext_alloc | refine blk_far ?_ (by show _ ≠ _; dsimp only; omega) _))); (try clear oa oac oaf oal); have oa := oa_; clear oa_; obtain ⟨oac, oaf, oal⟩ := cells_of oa.out; clear HB hb_; have HB := HB_; clear HB_; obtain ⟨A_q, c_q, ev_, hc_q, hf_q⟩ := R_Fl hr_q; subst ev_; have qc := Aside0.mk hc_q; have q := Aside0.mk (Kd.F_bound hf_q); clear hc_q hf_q hr_q; skip)
  go_wp2
  refine bodyPost_ret (v := .tuple #[.agg (C14 new1 (.slice A_q mac.length c_q)), .int .i64 0]) (by simp [results, Try.results37, go_sem, oac, oaf, C14, new1] <;> first | assumption | omega | (symm; assumption)) rfl ?_
  exact ⟨A_q, c_q, rfl, qc.out, (by refine F_res (ok := ?_) (fG q) ?_; intro j_ hj_; (try simp only [sz_alloc, sz_drew, sz_drewN, sz_set] at hj_); omega), (bG HB)⟩
set_option maxHeartbeats 1600000 in
set_option maxRecDepth 100000 in
theorem Line_is (c : Nat → Int) (A : Option Addr) (m cap : Nat) (w : World) (k : Bool) (hk : okC c m = k) : Calls Try.prog 31 #[.agg (C14 c (.slice A m cap))] w fun e w' => e = .returned (.bool (lineZ c m)) ∧ Below w.heap.size w w' := by
  have HB := Aside0.mk (Below.refl w.heap.size w)
  have HK := Aside0.mk hk
  have hu := Try.underlying34
  unfold lineZ
  rw [hk]
  clear hk
  go_enter Try.func31, Try.ntmps31
  go_upto_region 1 with fail
  obtain ⟨wa, hwa, on0, hb_, hz0⟩ := letter1 w (.cells (C14 c (.slice A m cap)) 34 (0, 0))
  rw [hwa]
  clear hwa
  have hzwa := Nat.le_of_eq hz0.symm
  clear hz0
  have on := Aside0.mk on0
  clear on0
  obtain ⟨onc, onf, onl⟩ := cells_of on.out
  have HB_ : Aside0 (Below w.heap.size w wa) := ⟨hb_⟩
  clear HB hb_
  have HB := HB_
  clear HB_
  go_wp2_with (first | ((with_reducible refine gate_dst (N := 3) rfl ?_); (try (refine gate_guard (by rfl) ?_; dsimp only)); refine wpList_load_row rfl 34 _ rfl _ (by rfl) _ (C14 c (.slice A m cap)) _ _ (eG on) Try.underlying34 rfl i25 ?_))
  (go_at_call 54; (with_reducible refine (Check_of k c A m cap _ HK.out).mono ?_); rintro e_ w1 ⟨rfl, hb_⟩; have HB_ : Aside0 (Below w.heap.size w w1) := Aside0.mk (below_step (bG HB) hb_); have hzw1 := hb_.size; (try simp at hzw1); have on_ := Aside0.mk (box_below hb_ (eG on)); (try clear on onc onf onl); have on := on_; clear on_; obtain ⟨onc, onf, onl⟩ := cells_of on.out; clear HB hb_; have HB := HB_; clear HB_)
  have hc1 : World.cell? w1 ⟨w.heap.size, 1, none⟩ = some (.int .i64 (c 1)) := (onc 1).trans rfl
  have hc2 : World.cell? w1 ⟨w.heap.size, 2, none⟩ = some (.int .i64 (c 2)) := (onc 2).trans rfl
  clear onc
  have onc := trivial
  cases k
  all_goals go_wp2
  all_goals go_ret
  all_goals exact ⟨by simp [*], HB.out⟩
end Go.Proofs.Ytphcckhegfgbgaa.Q
end
