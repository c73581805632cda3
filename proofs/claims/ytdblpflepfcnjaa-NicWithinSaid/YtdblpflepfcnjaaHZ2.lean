import Derived.Test.YtdblpflepfcnjaaHQx2
import Derived.Test.YtdblpflepfcnjaaPm
import Derived.Test.YtdblpflepfcnjaaHZ1
import Derived.Test.YtdblpflepfcnjaaHQx3
import Derived.Test.YtdblpflepfcnjaaHEram
import Derived.Deep.RegionWith
import Derived.Test.YtdblpflepfcnjaaHQx1
section
/- The contract of bits.Put. -/
namespace Go.Proofs.Ytdblpflepfcnjaa.Q
open Go.RowKit Go.Proofs.YtdblpflepfcnjaaW.PrintWords Go.Proofs.YtdblpflepfcnjaaW.PrintLast Go.Proofs.YtdblpflepfcnjaaW.PrintMore Go.Proofs.Ytdblpflepfcnjaa.L
attribute [local go_sem] max2_int min2_int max_two min_two max_three min_three max_four min_four
set_option linter.unusedVariables false
set_option linter.unusedSimpArgs false

/-! ### slices.Reverse: what its loop comes to -/
theorem reverse_loop (l : List Int) (n : Nat) (hn : l.length = n) (hmax : n ≤ 9223372036854775807) (d : Nat) : ∀ (k : Nat) (x : List Int) (i j : Int), x.length = n → 0 ≤ i → i + j = (n : Int) - 1 → i ≤ j + 2 →
    (∀ p : Nat, p < n → x.getD p 0 = if (p : Int) < i ∨ j < (p : Int) then l.getD (n - 1 - p) 0 else l.getD p 0) → (j - i + 1).toNat ≤ d → d < k → slices_Reverse_byte_byte.l0 k x i j = some l.reverse := by
  induction d with
  | zero =>
    intro k x i j hx h0 hij h2 hp hd hk
    obtain ⟨k, rfl⟩ : ∃ m, k = m + 1 := ⟨k - 1, by omega⟩
    simp only [slices_Reverse_byte_byte.l0]
    rw [if_neg (by omega)]
    refine congrArg some (List.ext_getElem (by simp [hx, hn]) fun p h1 h3 => ?_)
    have e := hp p (by omega)
    rw [if_pos (by omega)] at e
    rw [List.getElem_reverse, get_getD, e, get_getD, hn]
  | succ d ih =>
    intro k x i j hx h0 hij h2 hp hd hk
    obtain ⟨k, rfl⟩ : ∃ m, k = m + 1 := ⟨k - 1, by omega⟩
    simp only [slices_Reverse_byte_byte.l0]
    by_cases hlt : i < j
    · rw [if_pos hlt, if_pos (by omega), if_pos (by omega), if_pos h0, if_pos (by omega)]
      rw [show wrap64 (i + 1) = i + 1 by unfold wrap64; omega, show wrap64 (j - 1) = j - 1 by unfold wrap64; omega]
      refine ih k _ (i + 1) (j - 1) (by simp [hx]) (by omega) (by omega) (by omega) (fun p hpn => ?_) (by omega) (by omega)
      have e := hp p hpn
      have ei := hp i.toNat (by omega)
      have ej := hp j.toNat (by omega)
      rw [if_neg (by omega)] at ei ej
      rw [List.getD_eq_getElem?_getD, List.getElem?_set, List.getElem?_set]
      simp only [List.length_set]
      by_cases e1 : j.toNat = p
      · rw [if_pos e1, if_pos (by omega), if_pos (by omega)]
        unfold rd
        rw [Option.getD_some, ei]
        congr 1
        omega
      · rw [if_neg e1]
        by_cases e2 : i.toNat = p
        · rw [if_pos e2, if_pos (by omega), if_pos (by omega)]
          unfold rd
          rw [Option.getD_some, ej]
          congr 1
          omega
        · rw [if_neg e2, ← List.getD_eq_getElem?_getD, e]
          by_cases hc : (p : Int) < i ∨ j < (p : Int)
          · rw [if_pos hc, if_pos (by omega)]
          · rw [if_neg hc, if_neg (by omega)]
    · rw [if_neg hlt]
      refine congrArg some (List.ext_getElem (by simp [hx, hn]) fun p h1 h3 => ?_)
      have e := hp p (by omega)
      by_cases hc : (p : Int) < i ∨ j < (p : Int)
      · rw [if_pos hc] at e
        rw [List.getElem_reverse, get_getD, e, get_getD, hn]
      · rw [if_neg hc] at e
        rw [List.getElem_reverse, get_getD, e, get_getD, hn]
        congr 1
        omega
theorem reverse_tells (l : List Int) (hmax : l.length ≤ 9223372036854775807) (k : Nat) (hk : l.length + 1 < k) : slices_Reverse_byte_byte.f k l = some l.reverse := by
  unfold slices_Reverse_byte_byte.f
  rw [show wrap64 ((l.length : Int) - 1) = (l.length : Int) - 1 by unfold wrap64; omega]
  exact reverse_loop l l.length rfl hmax l.length k l 0 _ rfl (by omega) (by omega) (by omega) (fun p hp => by rw [if_neg (by omega)]) (by omega) (by omega)

/-! ### bits.Put -/
theorem infoByte : (Try.prog.info? 5).map (fun i => (i.zero, i.size, i.bytes)) = some (some (.int .u8 0), 1, 1) := by kernel_rfl
def bits_Put.f (a0 : Int) (a1 : Int) (a2 : Bool) : Option (List Int) := some (putB a0 a1 a2)
set_option maxHeartbeats 8000000 in
set_option maxRecDepth 100000 in
theorem bits_Put.calls (a0 : Int) (a1 : Int) (a2 : Bool) (r : List Int) (w : World) (h : bits_Put.f a0 a1 a2 = some r) :
    Calls Try.prog 60 #[.int .u64 a0, .int .i64 a1, .bool a2] w fun e w' => ∃ v0_ : Value, e = .returned (v0_) ∧ Kd.R (Kd.int .u8) 5 w' w.heap.size (fun _ => True) v0_ r ∧ Below w.heap.size w w' := by
  have HB := Aside0.mk (Below.refl w.heap.size w)
  obtain rfl := Option.some.inj h
  clear h
  obtain ⟨n, hn⟩ : ∃ n : Nat, n = putN a1 := ⟨_, rfl⟩
  have hn8 : n ≤ 8 := by rw [hn]; exact putN_le _
  obtain ⟨ji4, hji4⟩ : ∃ j_ : Int, (mn a1 8) = j_ := ⟨_, rfl⟩
  have hji4_ : (if 8 < a1 then 8 else a1) = ji4 := hji4
  obtain ⟨ji5, hji5⟩ : ∃ j_ : Int, (mx 0 (ji4)) = j_ := ⟨_, rfl⟩
  have hji5_ : (if 0 < (ji4) then (ji4) else 0) = ji5 := hji5
  obtain rfl : (n : Int) = ji5 := by
    rw [← hji5_, ← hji4_, hn]; unfold putN; (repeat' split) <;> omega
  have HP : Aside0 (putB a0 a1 a2 = if a2 then (putL a0 n).reverse else putL a0 n) := ⟨by rw [hn]; rfl⟩
  clear hji4 hji5 hn
  go_enter Try.func60, Try.ntmps60
  go_wp2_with (first | ((with_reducible refine gate_dst (N := 12) rfl ?_); refine Kd.R_make (Kd.int .u8) _ 5 rfl (N := 12) rfl 23 _ _ rfl (n : Int) rfl rfl Try.underlying23 (.int .u8 0) 1 infoByte rfl (by decide) (by omega) 0 (ok := fun _ => True) (okp := fun _ => True) rfl (fun _ hk => hk) trivial (by omega) (by omega) (Below.refl _ _) (Nat.le_refl _) ?_; intro v108 w8 ho9 hb hg_ hnew_; clear hg_ hnew_; rw [Int.toNat_natCast, ← putK_zero a0] at ho9; have HO9 := Aside0.mk ho9; have HB8 := Aside0.mk hb; clear ho9 hb HB; obtain ⟨Ao, co, eo⟩ := Kd.R_slice HO9.out; rw [putK_length] at eo; subst eo))
  go_loopw [15] (fun v15 w' => ∃ k : Nat, k ≤ n ∧ v15 = .int .i64 k ∧ Aside0 (Kd.R (Kd.int .u8) 5 w' w.heap.size (fun _ => True) (.slice Ao n co) (putK a0 n k)) ∧ Aside0 (Below w.heap.size w w')) (fun v15 _ => n - (intOf v15).toNat)
  case atStart => exact ⟨0, Nat.zero_le _, rfl, ⟨by (with_reducible repeat (first | apply Kd.R_alloc | apply Kd.R_drewN | apply Kd.R_drew)); exact HO9.out⟩, ⟨by repeat (first | (with_reducible first | exact HB8.out | apply below_alloc | apply pw_below_drewN | apply below_drew1) | exact HB8.out)⟩⟩
  case round =>
    clear HO9 HB8
    obtain ⟨k, hk, rfl, HO, HB⟩ := hrel
    by_cases hlt : k < n
    · obtain ⟨go17, co17, eo17, gb17, gl17, cl17, HG17⟩ := Kd.R_form HO.out (by rw [putK_length]; omega)
      injection eo17 with ea_ en_ ec_
      subst ea_ ec_
      clear en_
      have GB17 := Aside0.mk gb17
      have GG17 := Aside0.mk HG17
      clear gb17 gl17 HG17
      obtain ⟨hx17_0, hf17_0⟩ := Kd.R_celln 0 HO.out (k : Int) (by omega) (by omega)
      have HP18 := Kd.R_putg HO.out (k : Int) (a0 / 2 ^ (8 * k) % 256)
      rw [Int.toNat_natCast] at hx17_0 hf17_0 HP18
      rw [putK_succ] at HP18
      have HP18' := Aside0.mk HP18
      clear HP18
      go_wp2
      go_roundw
      case rel => exact ⟨k + 1, by omega, by go_num, ⟨HP18'.out.1⟩, ⟨below_set HB.out GB17.out⟩⟩
      case measure => simp [intOf]; omega
    · rw [putK_full a0 n k (by omega)] at HO
      cases a2
      · have HPf : Aside0 (putB a0 a1 false = putL a0 n) := ⟨by rw [HP.out]; rfl⟩
        clear HP
        go_wp2
        go_ret
        exact ⟨_, rfl, by rw [HPf.out]; exact HO.out, HB.out⟩
      · have HPf : Aside0 (putB a0 a1 true = (putL a0 n).reverse) := ⟨by rw [HP.out]; rfl⟩
        clear HP
        have hlen := putL_length a0 n
        have HLEN := Aside0.mk hlen
        clear hlen
        go_wp2_with fail
        with_reducible refine (slices_Reverse_byte_byte.calls (n + 2) (fun k_ => some k_ = (.slice Ao n co : Value).ownBlock) (.slice Ao n co) (putL a0 n) (putL a0 n).reverse w _ HB.out (Kd.R_tight rfl HO.out) (reverse_tells _ (by rw [HLEN.out]; omega) _ (by rw [HLEN.out]; omega))).mono ?_
        rintro e w22 ⟨rfl, hy0, hb, hkp⟩
        have HO_7 := Aside0.mk (Kd.R_reok rfl hy0 (fun k_ e_ => HO.out.1 k_ e_))
        have HB7 := Aside0.mk hb
        clear hb hkp hy0 HO HB
        go_wp2
        go_ret
        exact ⟨_, rfl, by rw [HPf.out]; exact HO_7.out, HB7.out⟩
end Go.Proofs.Ytdblpflepfcnjaa.Q
end
section
-- Ytdblpflepfcnjaa: written by a program for this claim (several laws of one seat at once)
namespace Go.Proofs.Ytdblpflepfcnjaa.Q
open Go.RowKit Go.Proofs.YtdblpflepfcnjaaW.PrintWords Go.Proofs.YtdblpflepfcnjaaW.PrintLast Go.Proofs.YtdblpflepfcnjaaW.PrintMore
attribute [local go_sem] max2_int min2_int max_two min_two max_three min_three max_four min_four   -- for this text's walks alone
set_option linter.unusedVariables false
set_option linter.unusedSimpArgs false

/-! ### drawbridgeref07_Bytes: function 37 -/
def drawbridgeref07_Bytes.f (l0_0 : List Int) (a1 : Int) (a2 : Int) : Option (List Int × Bool) := (drawbridgeref07_Inside.f l0_0 a1 a2).bind fun t145 => (if t145 = true then ((some (([] : List Int) : List Int)).bind fun y146 => (if 0 ≤ (wrap64 (IntKind.u64.wrap (a1 - 2147483648))) then (if (wrap64 (IntKind.u64.wrap (a1 - 2147483648))) ≤ (wrap64 ((wrap64 (IntKind.u64.wrap (a1 - 2147483648))) + a2)) then (if (wrap64 ((wrap64 (IntKind.u64.wrap (a1 - 2147483648))) + a2)) ≤ (l0_0.length : Int) then (if y146.length + ((l0_0.take ((wrap64 ((wrap64 (IntKind.u64.wrap (a1 - 2147483648))) + a2)) : Int).toNat).drop ((wrap64 (IntKind.u64.wrap (a1 - 2147483648))) : Int).toNat).length < 140737488355328 then (some ((y146 ++ ((l0_0.take ((wrap64 ((wrap64 (IntKind.u64.wrap (a1 - 2147483648))) + a2)) : Int).toNat).drop ((wrap64 (IntKind.u64.wrap (a1 - 2147483648))) : Int).toNat)), true)) else (none)) else (none)) else (none)) else (none))) else (some (([] : List Int), false)))
set_option maxHeartbeats 8000000 in
set_option maxRecDepth 100000 in
theorem drawbridgeref07_Bytes.calls (A0_0 : Option Addr) (c0_0 : Nat) (l0_0 : List Int) (a1 : Int) (a2 : Int) (r1 : List Int) (r2 : Bool) (w : World) (hr0_0 : Kd.C (Kd.int .u8) w A0_0 l0_0.length l0_0) (hc0_0 : l0_0.length ≤ c0_0) (h : drawbridgeref07_Bytes.f l0_0 a1 a2 = some (r1, r2)) :
    Calls Try.prog 37 #[.agg #[.slice A0_0 l0_0.length c0_0], .int .u64 a1, .int .i64 a2] w fun e w' => ∃ v0_ : Value, e = .returned (.tuple #[v0_, .bool r2]) ∧ Kd.R (Kd.int .u8) 5 w' w.heap.size (fun _ => True) v0_ r1 ∧ Below w.heap.size w w' := by
  have hu27 := Try.underlying27
  have HR0_0 := Aside0.mk hr0_0
  have HC0_0 := Aside0.mk hc0_0
  clear hr0_0 hc0_0
  have HB := Aside0.mk (Below.refl w.heap.size w)
  have H : ((drawbridgeref07_Inside.f l0_0 a1 a2).bind fun t145 => (if t145 = true then ((some (([] : List Int) : List Int)).bind fun y146 => (if 0 ≤ (wrap64 (IntKind.u64.wrap (a1 - 2147483648))) then (if (wrap64 (IntKind.u64.wrap (a1 - 2147483648))) ≤ (wrap64 ((wrap64 (IntKind.u64.wrap (a1 - 2147483648))) + a2)) then (if (wrap64 ((wrap64 (IntKind.u64.wrap (a1 - 2147483648))) + a2)) ≤ (l0_0.length : Int) then (if y146.length + ((l0_0.take ((wrap64 ((wrap64 (IntKind.u64.wrap (a1 - 2147483648))) + a2)) : Int).toNat).drop ((wrap64 (IntKind.u64.wrap (a1 - 2147483648))) : Int).toNat).length < 140737488355328 then (some ((y146 ++ ((l0_0.take ((wrap64 ((wrap64 (IntKind.u64.wrap (a1 - 2147483648))) + a2)) : Int).toNat).drop ((wrap64 (IntKind.u64.wrap (a1 - 2147483648))) : Int).toNat)), true)) else (none)) else (none)) else (none)) else (none))) else (some (([] : List Int), false)))) = some (r1, r2) := h
  clear h
  replace H := Option.bind_eq_some_iff.mp H
  obtain ⟨t145, A40, H⟩ := H
  replace H : (if t145 = true then ((some (([] : List Int) : List Int)).bind fun y146 => (if 0 ≤ (wrap64 (IntKind.u64.wrap (a1 - 2147483648))) then (if (wrap64 (IntKind.u64.wrap (a1 - 2147483648))) ≤ (wrap64 ((wrap64 (IntKind.u64.wrap (a1 - 2147483648))) + a2)) then (if (wrap64 ((wrap64 (IntKind.u64.wrap (a1 - 2147483648))) + a2)) ≤ (l0_0.length : Int) then (if y146.length + ((l0_0.take ((wrap64 ((wrap64 (IntKind.u64.wrap (a1 - 2147483648))) + a2)) : Int).toNat).drop ((wrap64 (IntKind.u64.wrap (a1 - 2147483648))) : Int).toNat).length < 140737488355328 then (some ((y146 ++ ((l0_0.take ((wrap64 ((wrap64 (IntKind.u64.wrap (a1 - 2147483648))) + a2)) : Int).toNat).drop ((wrap64 (IntKind.u64.wrap (a1 - 2147483648))) : Int).toNat)), true)) else (none)) else (none)) else (none)) else (none))) else (some (([] : List Int), false))) = some (r1, r2) := H
  have A4 := Aside0.mk A40
  clear A40
  by_cases c5 : t145 = true
  · subst c5
    have H1 : ((some (([] : List Int) : List Int)).bind fun y146 => (if 0 ≤ (wrap64 (IntKind.u64.wrap (a1 - 2147483648))) then (if (wrap64 (IntKind.u64.wrap (a1 - 2147483648))) ≤ (wrap64 ((wrap64 (IntKind.u64.wrap (a1 - 2147483648))) + a2)) then (if (wrap64 ((wrap64 (IntKind.u64.wrap (a1 - 2147483648))) + a2)) ≤ (l0_0.length : Int) then (if y146.length + ((l0_0.take ((wrap64 ((wrap64 (IntKind.u64.wrap (a1 - 2147483648))) + a2)) : Int).toNat).drop ((wrap64 (IntKind.u64.wrap (a1 - 2147483648))) : Int).toNat).length < 140737488355328 then (some ((y146 ++ ((l0_0.take ((wrap64 ((wrap64 (IntKind.u64.wrap (a1 - 2147483648))) + a2)) : Int).toNat).drop ((wrap64 (IntKind.u64.wrap (a1 - 2147483648))) : Int).toNat)), true)) else (none)) else (none)) else (none)) else (none))) = some (r1, r2) := by rw [if_pos rfl] at H; exact H
    clear H
    have H := H1
    clear H1
    obtain ⟨y146, hy146⟩ : ∃ y_ : List Int, y_ = (([] : List Int)) := ⟨_, rfl⟩
    replace H : (if 0 ≤ (wrap64 (IntKind.u64.wrap (a1 - 2147483648))) then (if (wrap64 (IntKind.u64.wrap (a1 - 2147483648))) ≤ (wrap64 ((wrap64 (IntKind.u64.wrap (a1 - 2147483648))) + a2)) then (if (wrap64 ((wrap64 (IntKind.u64.wrap (a1 - 2147483648))) + a2)) ≤ (l0_0.length : Int) then (if y146.length + ((l0_0.take ((wrap64 ((wrap64 (IntKind.u64.wrap (a1 - 2147483648))) + a2)) : Int).toNat).drop ((wrap64 (IntKind.u64.wrap (a1 - 2147483648))) : Int).toNat).length < 140737488355328 then (some ((y146 ++ ((l0_0.take ((wrap64 ((wrap64 (IntKind.u64.wrap (a1 - 2147483648))) + a2)) : Int).toNat).drop ((wrap64 (IntKind.u64.wrap (a1 - 2147483648))) : Int).toNat)), true)) else (none)) else (none)) else (none)) else (none)) = some (r1, r2) := by first | (rw [hy146]; with_reducible exact H) | (have H2_ := (Option.bind_some _ _).symm.trans H; rw [hy146]; with_reducible exact H2_) | (have H2_ := (Option.bind_some _ _).symm.trans H; with_reducible exact H2_) | with_reducible exact H | (rw [hy146]; exact H) | exact H
    have Ny146 := Aside0.mk hy146
    clear hy146
    obtain ⟨ji6, hji6⟩ : ∃ j_ : Int, (wrap64 (IntKind.u64.wrap (a1 - 2147483648))) = j_ := ⟨_, rfl⟩
    replace H : (if 0 ≤ (ji6) then (if (ji6) ≤ (wrap64 ((ji6) + a2)) then (if (wrap64 ((ji6) + a2)) ≤ (l0_0.length : Int) then (if y146.length + ((l0_0.take ((wrap64 ((ji6) + a2)) : Int).toNat).drop ((ji6) : Int).toNat).length < 140737488355328 then (some ((y146 ++ ((l0_0.take ((wrap64 ((ji6) + a2)) : Int).toNat).drop ((ji6) : Int).toNat)), true)) else (none)) else (none)) else (none)) else (none)) = some (r1, r2) := by first | (rw [hji6] at H; exact H) | (simp only [hji6] at H ⊢; exact H)
    (try rw [hji6] at A4)
    have hji6w : (IntKind.i64.wrap (IntKind.u64.wrap (a1 - 2147483648))) = ji6 := (i64_w _).trans hji6
    by_cases c7 : 0 ≤ (ji6)
    · rw [if_pos c7] at H
      have c7b0 := eq_true c7
      have c7b1 : decide (0 ≤ (ji6)) = true := decide_eq_true c7
      clear c7
      by_cases c8 : (ji6) ≤ (wrap64 ((ji6) + a2))
      · rw [if_pos c8] at H
        have c8b0 := eq_true c8
        have c8b1 : decide ((ji6) ≤ (wrap64 ((ji6) + a2))) = true := decide_eq_true c8
        by_cases c9 : (wrap64 ((ji6) + a2)) ≤ (l0_0.length : Int)
        · rw [if_pos c9] at H
          have c9b0 := eq_true c9
          have c9b1 : decide ((wrap64 ((ji6) + a2)) ≤ (l0_0.length : Int)) = true := decide_eq_true c9
          by_cases c10 : y146.length + ((l0_0.take ((wrap64 ((ji6) + a2)) : Int).toNat).drop ((ji6) : Int).toNat).length < 140737488355328
          · rw [if_pos c10] at H
            have LMc10 := Aside0.mk c10
            clear c10
            obtain ⟨y150, hy150⟩ : ∃ y_ : List Int, y_ = (y146 ++ ((l0_0.take ((wrap64 ((ji6) + a2)) : Int).toNat).drop ((ji6) : Int).toNat)) := ⟨_, rfl⟩
            replace H : (some (y150, true)) = some (r1, r2) := by first | (rw [hy150]; with_reducible exact H) | (have H2_ := (Option.bind_some _ _).symm.trans H; rw [hy150]; with_reducible exact H2_) | (have H2_ := (Option.bind_some _ _).symm.trans H; with_reducible exact H2_) | with_reducible exact H | (rw [hy150]; exact H) | exact H
            have Ny150 := Aside0.mk hy150
            clear hy150
            simp only [Option.some.injEq, Prod.mk.injEq] at H
            obtain ⟨rfl, rfl⟩ := H
            go_enter Try.func37, Try.ntmps37
            go_wp2_with (first | ((with_reducible refine gate_dst (N := 3) rfl ?_); refine box_event ?hg (N := 3) ?hd (cs := #[.slice A0_0 l0_0.length c0_0]) (t := 27) ?hr ?_; (case hd => rfl); (case hg => rfl); (case hr => first | (go_simp; done) | (go_simp; rfl)); intro gb144 hg w11 hbox hb; have n0_ := Aside0.mk (below_step (by repeat (first | (with_reducible first | exact HB.out | apply below_alloc | apply pw_below_drewN | apply below_drew1) | exact HB.out)) hb); have n1_ := Aside0.mk (hbox); have n2_ := Aside0.mk ((by rw [hg]; exact (below_size (by repeat (first | (with_reducible first | exact HB.out | apply below_alloc | apply pw_below_drewN | apply below_drew1) | exact HB.out))) : w.heap.size ≤ gb144)); have n3_ := Aside0.mk ((by rw [hg]; exact (below_size (by repeat (first | (with_reducible first | exact HB.out | apply below_alloc | apply pw_below_drewN | apply below_drew1) | exact HB.out))) : w.heap.size ≤ gb144)); clear HB; have HB := n0_; have BK144 := n1_; have GW144 := n2_; have GE144 := n3_; clear n0_ n1_ n2_ n3_; clear hb hbox hg; have hcz12_0 : w11.cell? ⟨gb144, 0, none⟩ = some (.slice A0_0 l0_0.length c0_0) := (blk_cell BK144.out 0).trans rfl; have hfz12_0 := blk_frozen BK144.out 0) | ((with_reducible refine gate_callee (f := 52) rfl ?_); refine goesL_ (some 12) rfl rfl Try.func52 (by kernel_rfl) rfl #[.agg #[.slice A0_0 l0_0.length c0_0], .int .u64 a1, .int .i64 a2] rfl (by (try simp only [List.map_toArray, List.map_cons, List.map_nil]); first | done | rfl | (simp only [List.length_drop, List.length_take]; rfl)) ?_; (with_reducible refine (drawbridgeref07_Inside.calls _ _ l0_0 a1 a2 true _ ?side1 ?side2 A4.out).mono ?_); (case side1 => repeat (first | exact (Kd.C_below HR0_0.out HB.out) | (with_reducible refine Kd.C_alloc ?_ _) | (with_reducible refine Kd.C_drewN ?_ _) | (with_reducible refine Kd.C_drew ?_))); (case side2 => exact HC0_0.out); rintro e w13 ⟨rfl, hb⟩; refine ⟨_, rfl, ?_⟩; have n0_ := Aside0.mk (blk_below (g := gb144) (o := .cells #[.slice A0_0 l0_0.length c0_0] 27 (0, 0)) (by (with_reducible repeat (first | refine blk_drewN ?_ _ | refine blk_drew ?_ | refine blk_alloc ?_ _)); exact BK144.out) hb); have n1_ := Aside0.mk (below_step (by repeat (first | (with_reducible first | exact HB.out | apply below_alloc | apply pw_below_drewN | apply below_drew1 | refine below_set ?_ GE144.out) | exact HB.out)) hb); clear BK144; clear HB; have BK144 := n0_; have HB := n1_; clear n0_ n1_; (try clear hb); (try clear hb2); (try clear hk); (try clear hi)) | ((with_reducible refine gate_dst (N := 17) rfl ?_); refine Kd.R_lit (Kd.int .u8) _ 5 ?hg (N := 17) ?hd (xs := ([] : List Int)) (inner := []) (ok := fun _ => True) (okp := fun _ => True) ?hr ?hp (fun _ hk => hk) trivial (Below.refl _ _) (Nat.le_refl _) (by simp) ?_; (case hd => rfl); (case hg => rfl); (case hr => first | (go_simp; done) | (go_simp; rfl)); (case hp => exact (Reps.none _ _)); intro v147 w14 ho15 hb hg_ hnew_; clear hg_ hnew_; (first | rw [← Ny146.out] at ho15 | (simp only [Int.reduceToNat] at ho15; rw [← Ny146.out] at ho15)); have n0_ := Aside0.mk (Kd.R_lower ho15 (below_size (by repeat (first | (with_reducible first | exact HB.out | apply below_alloc | apply pw_below_drewN | apply below_drew1 | refine below_set ?_ GE144.out) | exact HB.out)))); have n1_ := Aside0.mk (blk_below (g := gb144) (o := .cells #[.slice A0_0 l0_0.length c0_0] 27 (0, 0)) (by (with_reducible repeat (first | refine blk_drewN ?_ _ | refine blk_drew ?_ | refine blk_alloc ?_ _)); exact BK144.out) hb); have n2_ := Aside0.mk (below_step (by repeat (first | (with_reducible first | exact HB.out | apply below_alloc | apply pw_below_drewN | apply below_drew1 | refine below_set ?_ GE144.out) | exact HB.out)) hb); clear BK144; clear HB; have HO148 := n0_; have BK144 := n1_; have HB := n2_; clear n0_ n1_ n2_; clear hb ho15; have hcz16_0 : w14.cell? ⟨gb144, 0, none⟩ = some (.slice A0_0 l0_0.length c0_0) := (blk_cell BK144.out 0).trans rfl; have hfz16_0 := blk_frozen BK144.out 0; obtain ⟨i017, hi017, _, hsz17, _⟩ := info_parts info5; obtain ⟨A17, hcut17, hA17, hC17⟩ := print_mid_of (P := Try.prog) (Value.int .u8) 0 23 5 .i64 .i64 Try.underlying23 hi017 hsz17 A0_0 c0_0 l0_0 (ji6) (wrap64 ((ji6) + a2)) (of_decide_eq_true (by first | (with_reducible assumption) | assumption)) (by first | omega | exact of_decide_eq_true (by first | (with_reducible assumption) | assumption)) (of_decide_eq_true (by first | (with_reducible assumption) | assumption)) HC0_0.out; have HR149 := Aside0.mk (Kd.C_of_reads (h1 := fun _ => rfl) (hA17 _ (Kd.reads_of_C HR0_0.out))); have HC149 := Aside0.mk hC17; clear hA17 hC17 hi017 hsz17) | ((with_reducible refine gate_builtin (b := .append) (xs := #[.tmp 17, .tmp 24]) rfl ?_); at_builtin; refine Kd.R_append_rows (Kd.int .u8) (w0 := w) w.heap.size rfl (.tmp 17) (.tmp 24) 23 5 (.int .u8 0) 1 rfl Try.underlying23 info5 rfl (by decide) (by omega) v147 y146 ((l0_0.take ((wrap64 ((ji6) + a2)) : Int).toNat).drop ((ji6) : Int).toNat) _ _ _ (fun _ => True) (fun _ => False) rfl rfl ?aO ?aR (fun _ _ h => h) (fun _ h => h.elim) ?aF ?aB ?aS ?aL ?_; (case aR => first | (rw [← show ((l0_0.take ((wrap64 ((ji6) + a2)) : Int).toNat).drop ((ji6) : Int).toNat).length = ((wrap64 ((ji6) + a2)).toNat - (ji6).toNat) from (by rw [List.length_drop, List.length_take]; have h_ : ((wrap64 ((ji6) + a2)) : Int) ≤ (l0_0.length : Int) := of_decide_eq_true (by first | (with_reducible assumption) | assumption); omega)]; (repeat (first | exact (Kd.C_below HR149.out HB.out) | (with_reducible refine Kd.C_alloc ?_ _) | (with_reducible refine Kd.C_drewN ?_ _) | (with_reducible refine Kd.C_drew ?_))); done) | (refine Eq.mp (congrArg (fun n_ => ReadsRow _ _ _ _ n_ _) (show ((l0_0.take ((wrap64 ((ji6) + a2)) : Int).toNat).drop ((ji6) : Int).toNat).length = ((wrap64 ((ji6) + a2)).toNat - (ji6).toNat) from (by rw [List.length_drop, List.length_take]; have h_ : ((wrap64 ((ji6) + a2)) : Int) ≤ (l0_0.length : Int) := of_decide_eq_true (by first | (with_reducible assumption) | assumption); omega))) ?_; (repeat (first | exact (Kd.C_below HR149.out HB.out) | (with_reducible refine Kd.C_alloc ?_ _) | (with_reducible refine Kd.C_drewN ?_ _) | (with_reducible refine Kd.C_drew ?_))); done) | (repeat (first | exact (Kd.C_below HR149.out HB.out) | (with_reducible refine Kd.C_alloc ?_ _) | (with_reducible refine Kd.C_drewN ?_ _) | (with_reducible refine Kd.C_drew ?_)))); (case aB => exact (by repeat (first | (with_reducible first | exact HB.out | apply below_alloc | apply pw_below_drewN | apply below_drew1 | refine below_set ?_ GE144.out) | exact HB.out))); (case aF => exact (fun _ _ => trivial)); (case aO => exact (by (with_reducible repeat (first | apply Kd.R_alloc | apply Kd.R_drewN | apply Kd.R_drew)); exact HO148.out)); (case aS => exact (below_size (by repeat (first | (with_reducible first | exact HB.out | apply below_alloc | apply pw_below_drewN | apply below_drew1 | refine below_set ?_ GE144.out) | exact HB.out)))); (case aL => have := LMc10.out; have hlx_ := (show ((l0_0.take ((wrap64 ((ji6) + a2)) : Int).toNat).drop ((ji6) : Int).toNat).length = ((wrap64 ((ji6) + a2)).toNat - (ji6).toNat) from (by rw [List.length_drop, List.length_take]; have h_ : ((wrap64 ((ji6) + a2)) : Int) ≤ (l0_0.length : Int) := of_decide_eq_true (by first | (with_reducible assumption) | assumption); omega)); omega); intro v151 w18 ho hb hg hat; rw [← Ny150.out] at ho; have n0_ := Aside0.mk (blk_grown (g := gb144) (o := .cells #[.slice A0_0 l0_0.length c0_0] 27 (0, 0)) (by (with_reducible repeat (first | refine blk_drewN ?_ _ | refine blk_drew ?_ | refine blk_alloc ?_ _)); exact BK144.out) hg (Kd.R_ne HO148.out BK144.out (by decide))); have n1_ := Aside0.mk (hb); have n2_ := Aside0.mk (ho); clear BK144; clear HB; clear HO148; have BK144 := n0_; have HB := n1_; have HO152 := n2_; clear n0_ n1_ n2_; clear ho hb hg hat))
            go_ret2
            exact ⟨_, by first | rfl | (simp [errW_none, errW_some] <;> rfl) | (simp only [← hji6]; first | rfl | (simp [errW_none, errW_some] <;> rfl)) | (simp [*, errW_none, errW_some] <;> rfl), by (with_reducible repeat (first | apply Kd.R_alloc | apply Kd.R_drewN | apply Kd.R_drew)); exact HO152.out, by repeat (first | (with_reducible first | exact HB.out | apply below_alloc | apply pw_below_drewN | apply below_drew1 | refine below_set ?_ GE144.out) | exact HB.out)⟩
          · rw [if_neg c10] at H
            exact absurd H (by simp)
        · rw [if_neg c9] at H
          exact absurd H (by simp)
      · rw [if_neg c8] at H
        exact absurd H (by simp)
    · rw [if_neg c7] at H
      exact absurd H (by simp)
  · replace c5 := Bool.eq_false_iff.mpr c5
    subst c5
    have H1 : (some (([] : List Int), false)) = some (r1, r2) := by rw [if_neg (show ¬ (false = true) by decide)] at H; exact H
    clear H
    have H := H1
    clear H1
    simp only [Option.some.injEq, Prod.mk.injEq] at H
    obtain ⟨rfl, rfl⟩ := H
    go_enter Try.func37, Try.ntmps37
    go_wp2_with (first | ((with_reducible refine gate_dst (N := 3) rfl ?_); refine box_event ?hg (N := 3) ?hd (cs := #[.slice A0_0 l0_0.length c0_0]) (t := 27) ?hr ?_; (case hd => rfl); (case hg => rfl); (case hr => first | (go_simp; done) | (go_simp; rfl)); intro gb144 hg w19 hbox hb; have n0_ := Aside0.mk (below_step (by repeat (first | (with_reducible first | exact HB.out | apply below_alloc | apply pw_below_drewN | apply below_drew1) | exact HB.out)) hb); have n1_ := Aside0.mk (hbox); have n2_ := Aside0.mk ((by rw [hg]; exact (below_size (by repeat (first | (with_reducible first | exact HB.out | apply below_alloc | apply pw_below_drewN | apply below_drew1) | exact HB.out))) : w.heap.size ≤ gb144)); have n3_ := Aside0.mk ((by rw [hg]; exact (below_size (by repeat (first | (with_reducible first | exact HB.out | apply below_alloc | apply pw_below_drewN | apply below_drew1) | exact HB.out))) : w.heap.size ≤ gb144)); clear HB; have HB := n0_; have BK144 := n1_; have GW144 := n2_; have GE144 := n3_; clear n0_ n1_ n2_ n3_; clear hb hbox hg; have hcz20_0 : w19.cell? ⟨gb144, 0, none⟩ = some (.slice A0_0 l0_0.length c0_0) := (blk_cell BK144.out 0).trans rfl; have hfz20_0 := blk_frozen BK144.out 0) | ((with_reducible refine gate_callee (f := 52) rfl ?_); refine goesL_ (some 12) rfl rfl Try.func52 (by kernel_rfl) rfl #[.agg #[.slice A0_0 l0_0.length c0_0], .int .u64 a1, .int .i64 a2] rfl (by (try simp only [List.map_toArray, List.map_cons, List.map_nil]); first | done | rfl | (simp only [List.length_drop, List.length_take]; rfl)) ?_; (with_reducible refine (drawbridgeref07_Inside.calls _ _ l0_0 a1 a2 false _ ?side1 ?side2 A4.out).mono ?_); (case side1 => repeat (first | exact (Kd.C_below HR0_0.out HB.out) | (with_reducible refine Kd.C_alloc ?_ _) | (with_reducible refine Kd.C_drewN ?_ _) | (with_reducible refine Kd.C_drew ?_))); (case side2 => exact HC0_0.out); rintro e w21 ⟨rfl, hb⟩; refine ⟨_, rfl, ?_⟩; have n0_ := Aside0.mk (blk_below (g := gb144) (o := .cells #[.slice A0_0 l0_0.length c0_0] 27 (0, 0)) (by (with_reducible repeat (first | refine blk_drewN ?_ _ | refine blk_drew ?_ | refine blk_alloc ?_ _)); exact BK144.out) hb); have n1_ := Aside0.mk (below_step (by repeat (first | (with_reducible first | exact HB.out | apply below_alloc | apply pw_below_drewN | apply below_drew1 | refine below_set ?_ GE144.out) | exact HB.out)) hb); clear BK144; clear HB; have BK144 := n0_; have HB := n1_; clear n0_ n1_; (try clear hb); (try clear hb2); (try clear hk); (try clear hi)))
    go_ret2
    exact ⟨_, by first | rfl | (simp [errW_none, errW_some] <;> rfl) | (simp [*, errW_none, errW_some] <;> rfl), by first | exact Kd.R_nil _ _ _ _ _ | exact Kd.N_nil _ _ _ _ _ | exact Kd.V_nil _ _ _ _ _ | exact Kd.Q_nil _ _ _ _ _ | exact Kd.S_nil _ _ _ _ _, by repeat (first | (with_reducible first | exact HB.out | apply below_alloc | apply pw_below_drewN | apply below_drew1 | refine below_set ?_ GE144.out) | exact HB.out)⟩

/-! ### drawbridgeref07_Same: function 25 -/
def drawbridgeref07_Same.f (l0_0 : List Int) (l1_0 : List Int) : Option (Bool) := some ((strOfNums l0_0).toList == (strOfNums l1_0).toList)
set_option maxHeartbeats 8000000 in
set_option maxRecDepth 100000 in
theorem drawbridgeref07_Same.calls (A0_0 : Option Addr) (c0_0 : Nat) (l0_0 : List Int) (A1_0 : Option Addr) (c1_0 : Nat) (l1_0 : List Int) (r : Bool) (w : World) (hr0_0 : Kd.C (Kd.int .u8) w A0_0 l0_0.length l0_0) (hc0_0 : l0_0.length ≤ c0_0) (hr1_0 : Kd.C (Kd.int .u8) w A1_0 l1_0.length l1_0) (hc1_0 : l1_0.length ≤ c1_0) (h : drawbridgeref07_Same.f l0_0 l1_0 = some r) :
    Calls Try.prog 25 #[.agg #[.slice A0_0 l0_0.length c0_0], .agg #[.slice A1_0 l1_0.length c1_0]] w fun e w' => e = .returned (.bool r) ∧ Below w.heap.size w w' := by
  have hu27 := Try.underlying27
  have HR0_0 := Aside0.mk hr0_0
  have HC0_0 := Aside0.mk hc0_0
  clear hr0_0 hc0_0
  have HR1_0 := Aside0.mk hr1_0
  have HC1_0 := Aside0.mk hc1_0
  clear hr1_0 hc1_0
  have HB := Aside0.mk (Below.refl w.heap.size w)
  have H : (some ((strOfNums l0_0).toList == (strOfNums l1_0).toList)) = some r := h
  clear h
  obtain rfl := Option.some.inj H
  go_enter Try.func25, Try.ntmps25
  go_wp2_with (first | ((with_reducible refine gate_dst (N := 2) rfl ?_); refine box_event ?hg (N := 2) ?hd (cs := #[.slice A0_0 l0_0.length c0_0]) (t := 27) ?hr ?_; (case hd => rfl); (case hg => rfl); (case hr => first | (go_simp; done) | (go_simp; rfl)); intro gb153 hg w3 hbox hb; have n0_ := Aside0.mk (below_step (by repeat (first | (with_reducible first | exact HB.out | apply below_alloc | apply pw_below_drewN | apply below_drew1) | exact HB.out)) hb); have n1_ := Aside0.mk (hbox); have n2_ := Aside0.mk ((by rw [hg]; exact (below_size (by repeat (first | (with_reducible first | exact HB.out | apply below_alloc | apply pw_below_drewN | apply below_drew1) | exact HB.out))) : w.heap.size ≤ gb153)); have n3_ := Aside0.mk ((by rw [hg]; exact (below_size (by repeat (first | (with_reducible first | exact HB.out | apply below_alloc | apply pw_below_drewN | apply below_drew1) | exact HB.out))) : w.heap.size ≤ gb153)); clear HB; have HB := n0_; have BK153 := n1_; have GW153 := n2_; have GE153 := n3_; clear n0_ n1_ n2_ n3_; clear hb hbox hg) | ((with_reducible refine gate_dst (N := 3) rfl ?_); refine box_event ?hg (N := 3) ?hd (cs := #[.slice A1_0 l1_0.length c1_0]) (t := 27) ?hr ?_; (case hd => rfl); (case hg => rfl); (case hr => first | (go_simp; done) | (go_simp; rfl)); intro gb154 hg w4 hbox hb; have n0_ := Aside0.mk (blk_below (g := gb153) (o := .cells #[.slice A0_0 l0_0.length c0_0] 27 (0, 0)) (by (with_reducible repeat (first | refine blk_drewN ?_ _ | refine blk_drew ?_ | refine blk_alloc ?_ _)); exact BK153.out) hb); have n1_ := Aside0.mk (below_step (by repeat (first | (with_reducible first | exact HB.out | apply below_alloc | apply pw_below_drewN | apply below_drew1 | refine below_set ?_ GE153.out) | exact HB.out)) hb); have n2_ := Aside0.mk (hbox); have n3_ := Aside0.mk ((by rw [hg]; exact (below_size (by repeat (first | (with_reducible first | exact HB.out | apply below_alloc | apply pw_below_drewN | apply below_drew1 | refine below_set ?_ GE153.out) | exact HB.out))) : w.heap.size ≤ gb154)); have n4_ := Aside0.mk ((by rw [hg]; exact (below_size (by repeat (first | (with_reducible first | exact HB.out | apply below_alloc | apply pw_below_drewN | apply below_drew1 | refine below_set ?_ GE153.out) | exact HB.out))) : w.heap.size ≤ gb154)); have n5_ := Aside0.mk ((by rw [hg]; exact Nat.ne_of_lt (blk_lt (g := gb153) (o := .cells #[.slice A0_0 l0_0.length c0_0] 27 (0, 0)) (by (with_reducible repeat (first | refine blk_drewN ?_ _ | refine blk_drew ?_ | refine blk_alloc ?_ _)); exact BK153.out)) : gb153 ≠ gb154)); have n6_ := Aside0.mk ((by rw [hg]; exact Nat.ne_of_gt (blk_lt (g := gb153) (o := .cells #[.slice A0_0 l0_0.length c0_0] 27 (0, 0)) (by (with_reducible repeat (first | refine blk_drewN ?_ _ | refine blk_drew ?_ | refine blk_alloc ?_ _)); exact BK153.out)) : gb154 ≠ gb153)); clear BK153; clear HB; have BK153 := n0_; have HB := n1_; have BK154 := n2_; have GW154 := n3_; have GE154 := n4_; have NB153_154 := n5_; have NB154_153 := n6_; clear n0_ n1_ n2_ n3_ n4_ n5_ n6_; clear hb hbox hg; have hnb5 := NB153_154.out; have hnc5 := NB154_153.out; have hcz6_0 : w4.cell? ⟨gb153, 0, none⟩ = some (.slice A0_0 l0_0.length c0_0) := (blk_cell BK153.out 0).trans rfl; have hfz6_0 := blk_frozen BK153.out 0; have hcv7 := Kd.C_string (P := Try.prog) (A := A0_0) (c := c0_0) Try.underlying23 Try.underlying5 Try.underlying9 (Kd.C_below HR0_0.out HB.out); have hcz8_0 : w4.cell? ⟨gb154, 0, none⟩ = some (.slice A1_0 l1_0.length c1_0) := (blk_cell BK154.out 0).trans rfl; have hfz8_0 := blk_frozen BK154.out 0; have hcv9 := Kd.C_string (P := Try.prog) (A := A1_0) (c := c1_0) Try.underlying23 Try.underlying5 Try.underlying9 (Kd.C_below HR1_0.out HB.out)))
  go_ret
  exact ⟨by first | rfl | (simp [errW_none, errW_some] <;> rfl) | (simp [*, errW_none, errW_some] <;> rfl), by repeat (first | (with_reducible first | exact HB.out | apply below_alloc | apply pw_below_drewN | apply below_drew1 | refine below_set ?_ GE153.out | refine below_set ?_ GE154.out) | exact HB.out)⟩

/-! ### drawbridgeref01_Same: function 26 -/
def drawbridgeref01_Same.f (l0 : List Int) (l1 : List Int) : Option (Bool) := some ((strOfNums l0).toList == (strOfNums l1).toList)
set_option maxHeartbeats 8000000 in
set_option maxRecDepth 100000 in
theorem drawbridgeref01_Same.calls (A0 : Option Addr) (c0 : Nat) (l0 : List Int) (A1 : Option Addr) (c1 : Nat) (l1 : List Int) (r : Bool) (w : World) (hr0 : Kd.C (Kd.int .u8) w A0 l0.length l0) (hc0 : l0.length ≤ c0) (hr1 : Kd.C (Kd.int .u8) w A1 l1.length l1) (hc1 : l1.length ≤ c1) (h : drawbridgeref01_Same.f l0 l1 = some r) :
    Calls Try.prog 26 #[.slice A0 l0.length c0, .slice A1 l1.length c1] w fun e w' => e = .returned (.bool r) ∧ Drawn0 w w' := by
  have HR0 := Aside0.mk hr0
  have HC0 := Aside0.mk hc0
  clear hr0 hc0
  have HR1 := Aside0.mk hr1
  have HC1 := Aside0.mk hc1
  clear hr1 hc1
  have H : (some ((strOfNums l0).toList == (strOfNums l1).toList)) = some r := h
  clear h
  obtain rfl := Option.some.inj H
  have hcv3 := Kd.C_string (P := Try.prog) (A := A0) (c := c0) Try.underlying23 Try.underlying5 Try.underlying9 HR0.out
  have hcv4 := Kd.C_string (P := Try.prog) (A := A1) (c := c1) Try.underlying23 Try.underlying5 Try.underlying9 HR1.out
  go_enter Try.func26, Try.ntmps26
  go_wp2
  go_ret
  exact ⟨by first | rfl | (simp; done) | (simp [*]; done), by repeat (first | exact Drawn0.refl _ | apply Drawn0.step)⟩

end Go.Proofs.Ytdblpflepfcnjaa.Q
end
section
/- The contract of ram.Write, for one who reads what it answers. -/
namespace Go.Proofs.Ytdblpflepfcnjaa.Q
open Go.RowKit Go.Proofs.YtdblpflepfcnjaaW.PrintWords Go.Proofs.YtdblpflepfcnjaaW.PrintLast Go.Proofs.YtdblpflepfcnjaaW.PrintMore Go.Proofs.Ytdblpflepfcnjaa.L
attribute [local go_sem] Instr.field part asAgg lt_step max2_int min2_int max_two min_two max_three min_three max_four min_four lt_0_1 lt_0_2 lt_1_2 lt_0_3 lt_1_3 lt_2_3 lt_0_4 lt_1_4 lt_2_4 lt_3_4 lt_0_5 lt_1_5 lt_2_5 lt_3_5 lt_4_5 lt_0_6 lt_1_6 lt_2_6 lt_3_6 lt_4_6 lt_5_6 lt_0_7 lt_1_7 lt_2_7 lt_3_7 lt_4_7 lt_5_7 lt_6_7 lt_0_8 lt_1_8 lt_2_8 lt_3_8 lt_4_8 lt_5_8 lt_6_8 lt_7_8
set_option linter.unusedVariables false
set_option linter.unusedSimpArgs false
def knownZ (s : Int) : Bool := s == 1 || s == 2 || s == 4 || s == 8
theorem align_is (s : Int) : bits_Align.f 0 s = some (knownZ s) := by
  by_cases h1 : 1 ≤ s ∧ s ≤ 8
  · have : s = 1 ∨ s = 2 ∨ s = 3 ∨ s = 4 ∨ s = 5 ∨ s = 6 ∨ s = 7 ∨ s = 8 := by omega
    rcases this with rfl | rfl | rfl | rfl | rfl | rfl | rfl | rfl <;> decide +kernel
  · have e : knownZ s = false := by
      unfold knownZ
      rw [beq_eq_false_iff_ne.2 (show s ≠ 1 by omega), beq_eq_false_iff_ne.2 (show s ≠ 2 by omega), beq_eq_false_iff_ne.2 (show s ≠ 4 by omega), beq_eq_false_iff_ne.2 (show s ≠ 8 by omega)]; rfl
    rw [e]
    unfold bits_Align.f
    by_cases h2 : s ≥ 1
    · rw [if_pos h2, if_neg (by omega)]
    · rw [if_neg h2]
def writeL (l : List Int) (at_ size x : Int) : List Int := if knownZ size = true then fillL l at_ (putB x size false) else l
def writeK (l : List Int) (at_ size x : Int) : Bool := knownZ size && (placeZ l.length at_ (putB x size false).length).2
theorem writeL_length (l : List Int) (at_ size x : Int) : (writeL l at_ size x).length = l.length := by unfold writeL; split; exact fillL_length _ _ _; rfl
theorem putB_small (x size : Int) (b : Bool) : (putB x size b).length ≤ 9223372036854775807 := by
  have := putN_le size
  unfold putB
  split
  · rw [List.length_reverse, putL_length]; omega
  · rw [putL_length]; omega
set_option maxHeartbeats 1600000 in
set_option maxRecDepth 100000 in
theorem ram_Write.runs (A : Option Addr) (c : Nat) (l : List Int) (at_ size x : Int) (w : World) (ok : Nat → Prop) (hr : Kd.F (Kd.int .u8) w ok A l.length l) (hc : l.length ≤ c) (hat : u64B at_) (hl : l.length < 140737488355328) :
    Calls Try.prog 48 #[.agg #[.slice A l.length c], .int .u64 at_, .int .i64 size, .int .u64 x] w fun e w' => ∃ A' c', e = .returned (.tuple #[.agg #[.slice A' (writeL l at_ size x).length c'], .bool (writeK l at_ size x)]) ∧ (writeL l at_ size x).length ≤ c' ∧ Kd.F (Kd.int .u8) w' (fun j => ok j ∨ w.heap.size ≤ j) A' (writeL l at_ size x).length (writeL l at_ size x) ∧ Below w.heap.size w w' := by
  have ha := align_is size
  have HB := Aside0.mk (Below.refl w.heap.size w)
  have HR := Aside0.mk (Kd.F_bound hr)
  have HC := Aside0.mk hc
  have HT := Aside0.mk hat
  have HL := Aside0.mk hl
  have hu := Try.underlying27
  unfold writeK writeL
  cases hk : knownZ size
  · rw [hk] at ha
    rw [if_neg (by decide), Bool.false_and]
    have HA := Aside0.mk ha
    clear ha hk hr hc hat hl
    go_enter Try.func48, Try.ntmps48
    go_wp2_with fail
    (go_at_call 59; (with_reducible refine (dr (bits_Align.calls 0 size false _ HA.out)).mono ?_); rintro e_ w1 ⟨rfl, hb_⟩; have HB_ : Aside0 (Below w.heap.size w w1) := Aside0.mk (below_step (by repeat (first | (with_reducible first | exact HB.out | exact Below.refl _ _ | apply below_alloc | apply pw_below_drewN | apply below_drew | refine below_set ?_ (by omega)) | exact HB.out)) hb_); have hzw1 := hb_.size; (try simp at hzw1); have oa_ := Aside0.mk (box_below hb_ (by repeat (with_reducible first | exact nb_1 w _ | apply ext_drew | apply ext_drewN | apply ext_alloc | refine blk_far ?_ (by show _ ≠ _; dsimp only; omega) _))); have ob_ := Aside0.mk (box_below hb_ (by repeat (with_reducible first | exact nb_2 w _ _ | apply ext_drew | apply ext_drewN | apply ext_alloc | refine blk_far ?_ (by show _ ≠ _; dsimp only; omega) _))); (try clear oa oac oaf oal); have oa := oa_; clear oa_; obtain ⟨oac, oaf, oal⟩ := cells_of oa.out; (try clear ob obc obf obl); have ob := ob_; clear ob_; obtain ⟨obc, obf, obl⟩ := cells_of ob.out; clear HB hb_; have HB := HB_; clear HB_)
    go_wp2
    refine bodyPost_ret (v := .tuple #[.agg #[.slice A l.length c], .bool false]) (by simp [results, Try.results48, go_sem, oac, obc] <;> first | assumption | omega | (symm; assumption)) rfl ?_
    exact ⟨A, c, rfl, HC.out, F_w HR.out (by repeat (first | (with_reducible first | exact HB.out | exact Below.refl _ _ | apply below_alloc | apply pw_below_drewN | apply below_drew | refine below_set ?_ (by omega)) | exact HB.out)) (fun _ h => .inl h.1), (by repeat (first | (with_reducible first | exact HB.out | exact Below.refl _ _ | apply below_alloc | apply pw_below_drewN | apply below_drew | refine below_set ?_ (by omega)) | exact HB.out))⟩
  · rw [hk] at ha
    rw [if_pos rfl, Bool.true_and]
    have HA := Aside0.mk ha
    clear ha hk hr hc hat hl
    go_enter Try.func48, Try.ntmps48
    go_wp2_with fail
    (go_at_call 59; (with_reducible refine (dr (bits_Align.calls 0 size true _ HA.out)).mono ?_); rintro e_ w1 ⟨rfl, hb_⟩; have HB_ : Aside0 (Below w.heap.size w w1) := Aside0.mk (below_step (by repeat (first | (with_reducible first | exact HB.out | exact Below.refl _ _ | apply below_alloc | apply pw_below_drewN | apply below_drew | refine below_set ?_ (by omega)) | exact HB.out)) hb_); have hzw1 := hb_.size; (try simp at hzw1); have oa_ := Aside0.mk (box_below hb_ (by repeat (with_reducible first | exact nb_1 w _ | apply ext_drew | apply ext_drewN | apply ext_alloc | refine blk_far ?_ (by show _ ≠ _; dsimp only; omega) _))); have ob_ := Aside0.mk (box_below hb_ (by repeat (with_reducible first | exact nb_2 w _ _ | apply ext_drew | apply ext_drewN | apply ext_alloc | refine blk_far ?_ (by show _ ≠ _; dsimp only; omega) _))); (try clear oa oac oaf oal); have oa := oa_; clear oa_; obtain ⟨oac, oaf, oal⟩ := cells_of oa.out; (try clear ob obc obf obl); have ob := ob_; clear ob_; obtain ⟨obc, obf, obl⟩ := cells_of ob.out; clear HB hb_; have HB := HB_; clear HB_)
    have HR_ := Aside0.mk (Kd.F_below HR.out HB.out)
    clear HR; have HR := HR_; clear HR_
    go_wp2_with fail
    go_region_with (first | (go_at_call 60; (with_reducible refine (bits_Put.calls x size false _ _ rfl).mono ?_); rintro e_ w2 ⟨v_q, rfl, hr_q, hb_⟩; have HB_ : Aside0 (Below w.heap.size w w2) := Aside0.mk (below_step (by repeat (first | (with_reducible first | exact HB.out | exact Below.refl _ _ | apply below_alloc | apply pw_below_drewN | apply below_drew | refine below_set ?_ (by omega)) | exact HB.out)) hb_); have hzw2 := hb_.size; (try simp at hzw2); have oa_ := Aside0.mk (box_below hb_ (by repeat (with_reducible first | exact oa.out | apply ext_drew | apply ext_drewN | apply ext_alloc | refine blk_far ?_ (by show _ ≠ _; dsimp only; omega) _))); have ob_ := Aside0.mk (box_below hb_ (by repeat (with_reducible first | exact ob.out | apply ext_drew | apply ext_drewN | apply ext_alloc | refine blk_far ?_ (by show _ ≠ _; dsimp only; omega) _))); have HR_ := Aside0.mk (Kd.F_below (by (repeat (with_reducible first | exact HR.out | apply Kd.F_drew | apply Kd.F_drewN | apply Kd.F_alloc | refine Kd.F_far ?_ ?_ _)); all_goals (intro j_ hj_; (try dsimp only at hj_); (try dsimp only); (try simp only [sz_alloc, sz_drew, sz_drewN, sz_set] at hj_); omega)) hb_); clear HR; have HR := HR_; clear HR_; (try clear oa oac oaf oal); have oa := oa_; clear oa_; obtain ⟨oac, oaf, oal⟩ := cells_of oa.out; (try clear ob obc obf obl); have ob := ob_; clear ob_; obtain ⟨obc, obf, obl⟩ := cells_of ob.out; clear HB hb_; have HB := HB_; clear HB_; obtain ⟨A_q, c_q, ev_, hc_q, hf_q⟩ := R_Fl hr_q; subst ev_; have qc := Aside0.mk hc_q; have q := Aside0.mk (Kd.F_bound hf_q); clear hc_q hf_q hr_q; skip) | (go_at_call 49; (with_reducible refine (ram_Fill.runs A c l at_ A_q c_q (putB x size false) _ _ _ HR.out HC.out (by (repeat (with_reducible first | exact q.out | apply Kd.F_drew | apply Kd.F_drewN | apply Kd.F_alloc | refine Kd.F_far ?_ ?_ _)); all_goals (intro j_ hj_; (try dsimp only at hj_); (try dsimp only); (try simp only [sz_alloc, sz_drew, sz_drewN, sz_set] at hj_); omega)) qc.out HT.out HL.out (putB_small _ _ _)).mono ?_); rintro e_ w3 ⟨A_s, c_s, rfl, hc_s, hr_s, hb_⟩; have HB_ : Aside0 (Below w.heap.size w w3) := Aside0.mk (below_step (by repeat (first | (with_reducible first | exact HB.out | exact Below.refl _ _ | apply below_alloc | apply pw_below_drewN | apply below_drew | refine below_set ?_ (by omega)) | exact HB.out)) hb_); have hzw3 := hb_.size; (try simp at hzw3); have oa_ := Aside0.mk (box_below hb_ (by repeat (with_reducible first | exact oa.out | apply ext_drew | apply ext_drewN | apply ext_alloc | refine blk_far ?_ (by show _ ≠ _; dsimp only; omega) _))); have ob_ := Aside0.mk (box_below hb_ (by repeat (with_reducible first | exact ob.out | apply ext_drew | apply ext_drewN | apply ext_alloc | refine blk_far ?_ (by show _ ≠ _; dsimp only; omega) _))); (try clear oa oac oaf oal); have oa := oa_; clear oa_; obtain ⟨oac, oaf, oal⟩ := cells_of oa.out; (try clear ob obc obf obl); have ob := ob_; clear ob_; obtain ⟨obc, obf, obl⟩ := cells_of ob.out; clear HB hb_; have HB := HB_; clear HB_; have sc := Aside0.mk hc_s; have s := Aside0.mk (Kd.F_bound hr_s); clear hc_s hr_s; skip))
    all_goals go_wp2
    all_goals refine bodyPost_ret (v := .tuple #[.agg #[.slice A_s (fillL l at_ (putB x size false)).length c_s], .bool (placeZ l.length at_ (putB x size false).length).2]) (by simp [results, Try.results48, go_sem, obc, obf] <;> first | assumption | omega | (symm; assumption)) rfl ?_
    all_goals exact ⟨A_s, c_s, rfl, sc.out, (by refine F_res (ok := ?_) ?_ ?_; rotate_left; (repeat (with_reducible first | exact s.out | apply Kd.F_drew | apply Kd.F_drewN | apply Kd.F_alloc | refine Kd.F_far ?_ ?_ _)); all_goals (intro j_ hj_; (try dsimp only at hj_); (try dsimp only); (try simp only [sz_alloc, sz_drew, sz_drewN, sz_set] at hj_); first | omega | exact .inl hj_.1 | exact .inl hj_ | exact .inr (by omega) | (rcases hj_ with hj_ | hj_; exact .inl hj_.1; exact .inr (by omega)) | (rcases hj_ with hj_ | hj_; exact .inl hj_; exact .inr (by omega)) | (rcases hj_.1 with hk_ | hk_; (first | exact .inl hk_.1 | exact .inl hk_); exact .inr (by omega)))), (by repeat (first | (with_reducible first | exact HB.out | exact Below.refl _ _ | apply below_alloc | apply pw_below_drewN | apply below_drew | refine below_set ?_ (by omega)) | exact HB.out))⟩
end Go.Proofs.Ytdblpflepfcnjaa.Q
end
section
-- Ytdblpflepfcnjaa: written by a program for this claim (several laws of one seat at once)
namespace Go.Proofs.Ytdblpflepfcnjaa.Q
open Go.RowKit Go.Proofs.YtdblpflepfcnjaaW.PrintWords Go.Proofs.YtdblpflepfcnjaaW.PrintLast Go.Proofs.YtdblpflepfcnjaaW.PrintMore
attribute [local go_sem] max2_int min2_int max_two min_two max_three min_three max_four min_four   -- for this text's walks alone
set_option linter.unusedVariables false
set_option linter.unusedSimpArgs false

/-! ### drawbridgeref07_known: function 38 -/
def drawbridgeref07_known.f (a0 : Int) : Option (Bool) := if a0 = 1 then (some true) else (if a0 = 2 then (some true) else (if a0 = 4 then (some true) else (some (a0 == 8))))
set_option maxHeartbeats 8000000 in
set_option maxRecDepth 100000 in
theorem drawbridgeref07_known.calls (a0 : Int) (r : Bool) (w : World) (h : drawbridgeref07_known.f a0 = some r) :
    Calls Try.prog 38 #[.int .i64 a0] w fun e w' => e = .returned (.bool r) ∧ Drawn0 w w' := by
  have H : (if a0 = 1 then (some true) else (if a0 = 2 then (some true) else (if a0 = 4 then (some true) else (some (a0 == 8))))) = some r := h
  clear h
  by_cases c2 : a0 = 1
  · rw [if_pos c2] at H
    have c2b0 : (a0 == 1) = true := beq_iff_eq.mpr c2
    have c2b1 : (a0 != 1) = false := bne_eq_false_iff_eq.mpr c2
    clear c2
    obtain rfl := Option.some.inj H
    go_enter Try.func38, Try.ntmps38
    go_wp2
    go_ret
    exact ⟨by first | rfl | (simp; done) | (simp [*]; done), by repeat (first | exact Drawn0.refl _ | apply Drawn0.step)⟩
  · rw [if_neg c2] at H
    have c2b0 : (a0 == 1) = false := beq_eq_false_iff_ne.mpr c2
    have c2b1 : (a0 != 1) = true := bne_iff_ne.mpr c2
    by_cases c3 : a0 = 2
    · rw [if_pos c3] at H
      have c3b0 : (a0 == 2) = true := beq_iff_eq.mpr c3
      have c3b1 : (a0 != 2) = false := bne_eq_false_iff_eq.mpr c3
      clear c3
      obtain rfl := Option.some.inj H
      go_enter Try.func38, Try.ntmps38
      go_wp2
      go_ret
      exact ⟨by first | rfl | (simp; done) | (simp [*]; done), by repeat (first | exact Drawn0.refl _ | apply Drawn0.step)⟩
    · rw [if_neg c3] at H
      have c3b0 : (a0 == 2) = false := beq_eq_false_iff_ne.mpr c3
      have c3b1 : (a0 != 2) = true := bne_iff_ne.mpr c3
      by_cases c4 : a0 = 4
      · rw [if_pos c4] at H
        have c4b0 : (a0 == 4) = true := beq_iff_eq.mpr c4
        have c4b1 : (a0 != 4) = false := bne_eq_false_iff_eq.mpr c4
        clear c4
        obtain rfl := Option.some.inj H
        go_enter Try.func38, Try.ntmps38
        go_wp2
        go_ret
        exact ⟨by first | rfl | (simp; done) | (simp [*]; done), by repeat (first | exact Drawn0.refl _ | apply Drawn0.step)⟩
      · rw [if_neg c4] at H
        have c4b0 : (a0 == 4) = false := beq_eq_false_iff_ne.mpr c4
        have c4b1 : (a0 != 4) = true := bne_iff_ne.mpr c4
        obtain rfl := Option.some.inj H
        go_enter Try.func38, Try.ntmps38
        go_wp2
        go_ret
        exact ⟨by first | rfl | (simp; done) | (simp [*]; done), by repeat (first | exact Drawn0.refl _ | apply Drawn0.step)⟩

/-! ### drawbridgeref07_Read: function 12 -/
def drawbridgeref07_Read.f (l0_0 : List Int) (a1 : Int) (a2 : Int) : Option (Int × Bool) := (drawbridgeref07_Bytes.f l0_0 a1 a2).bind fun bt165 => (if bt165.2 = true then ((drawbridgeref07_known.f a2).bind fun t169 => (if t169 = true then ((drawbridgeref01_Get.f bt165.1 false).bind fun t170 => (some (t170, true))) else (some (0, false)))) else (some (0, false)))
set_option maxHeartbeats 8000000 in
set_option maxRecDepth 100000 in
theorem drawbridgeref07_Read.calls (A0_0 : Option Addr) (c0_0 : Nat) (l0_0 : List Int) (a1 : Int) (a2 : Int) (r1 : Int) (r2 : Bool) (w : World) (hr0_0 : Kd.C (Kd.int .u8) w A0_0 l0_0.length l0_0) (hc0_0 : l0_0.length ≤ c0_0) (h : drawbridgeref07_Read.f l0_0 a1 a2 = some (r1, r2)) :
    Calls Try.prog 12 #[.agg #[.slice A0_0 l0_0.length c0_0], .int .u64 a1, .int .i64 a2] w fun e w' => e = .returned (.tuple #[.int .u64 r1, .bool r2]) ∧ Below w.heap.size w w' := by
  have hu27 := Try.underlying27
  have HR0_0 := Aside0.mk hr0_0
  have HC0_0 := Aside0.mk hc0_0
  clear hr0_0 hc0_0
  have HB := Aside0.mk (Below.refl w.heap.size w)
  have H : ((drawbridgeref07_Bytes.f l0_0 a1 a2).bind fun bt165 => (if bt165.2 = true then ((drawbridgeref07_known.f a2).bind fun t169 => (if t169 = true then ((drawbridgeref01_Get.f bt165.1 false).bind fun t170 => (some (t170, true))) else (some (0, false)))) else (some (0, false)))) = some (r1, r2) := h
  clear h
  replace H := Option.bind_eq_some_iff.mp H
  obtain ⟨⟨t165, t168⟩, A40, H⟩ := H
  replace H : (if t168 = true then ((drawbridgeref07_known.f a2).bind fun t169 => (if t169 = true then ((drawbridgeref01_Get.f t165 false).bind fun t170 => (some (t170, true))) else (some (0, false)))) else (some (0, false))) = some (r1, r2) := H
  have A4 := Aside0.mk A40
  clear A40
  by_cases c5 : t168 = true
  · subst c5
    have H1 : ((drawbridgeref07_known.f a2).bind fun t169 => (if t169 = true then ((drawbridgeref01_Get.f t165 false).bind fun t170 => (some (t170, true))) else (some (0, false)))) = some (r1, r2) := by rw [if_pos rfl] at H; exact H
    clear H
    have H := H1
    clear H1
    replace H := Option.bind_eq_some_iff.mp H
    obtain ⟨t169, A60, H⟩ := H
    replace H : (if t169 = true then ((drawbridgeref01_Get.f t165 false).bind fun t170 => (some (t170, true))) else (some (0, false))) = some (r1, r2) := H
    have A6 := Aside0.mk A60
    clear A60
    by_cases c7 : t169 = true
    · subst c7
      have H1 : ((drawbridgeref01_Get.f t165 false).bind fun t170 => (some (t170, true))) = some (r1, r2) := by rw [if_pos rfl] at H; exact H
      clear H
      have H := H1
      clear H1
      replace H := Option.bind_eq_some_iff.mp H
      obtain ⟨t170, A80, H⟩ := H
      replace H : (some (t170, true)) = some (r1, r2) := H
      have A8 := Aside0.mk A80
      clear A80
      simp only [Option.some.injEq, Prod.mk.injEq] at H
      obtain ⟨rfl, rfl⟩ := H
      go_enter Try.func12, Try.ntmps12
      go_wp2_with (first | ((with_reducible refine gate_dst (N := 3) rfl ?_); refine box_event ?hg (N := 3) ?hd (cs := #[.slice A0_0 l0_0.length c0_0]) (t := 27) ?hr ?_; (case hd => rfl); (case hg => rfl); (case hr => first | (go_simp; done) | (go_simp; rfl)); intro gb164 hg w9 hbox hb; have n0_ := Aside0.mk (below_step (by repeat (first | (with_reducible first | exact HB.out | apply below_alloc | apply pw_below_drewN | apply below_drew1) | exact HB.out)) hb); have n1_ := Aside0.mk (hbox); have n2_ := Aside0.mk ((by rw [hg]; exact (below_size (by repeat (first | (with_reducible first | exact HB.out | apply below_alloc | apply pw_below_drewN | apply below_drew1) | exact HB.out))) : w.heap.size ≤ gb164)); have n3_ := Aside0.mk ((by rw [hg]; exact (below_size (by repeat (first | (with_reducible first | exact HB.out | apply below_alloc | apply pw_below_drewN | apply below_drew1) | exact HB.out))) : w.heap.size ≤ gb164)); clear HB; have HB := n0_; have BK164 := n1_; have GW164 := n2_; have GE164 := n3_; clear n0_ n1_ n2_ n3_; clear hb hbox hg; have hcz10_0 : w9.cell? ⟨gb164, 0, none⟩ = some (.slice A0_0 l0_0.length c0_0) := (blk_cell BK164.out 0).trans rfl; have hfz10_0 := blk_frozen BK164.out 0) | ((with_reducible refine gate_callee (f := 37) rfl ?_); refine goesL_ (some 14) rfl rfl Try.func37 (by kernel_rfl) rfl #[.agg #[.slice A0_0 l0_0.length c0_0], .int .u64 a1, .int .i64 a2] rfl (by (try simp only [List.map_toArray, List.map_cons, List.map_nil]); first | done | rfl | (simp only [List.length_drop, List.length_take]; rfl)) ?_; (with_reducible refine (drawbridgeref07_Bytes.calls _ _ l0_0 a1 a2 t165 true _ ?side1 ?side2 A4.out).mono ?_); (case side1 => repeat (first | exact (Kd.C_below HR0_0.out HB.out) | (with_reducible refine Kd.C_alloc ?_ _) | (with_reducible refine Kd.C_drewN ?_ _) | (with_reducible refine Kd.C_drew ?_))); (case side2 => exact HC0_0.out); rintro e w11 ⟨v166, rfl, ho0, hb⟩; refine ⟨_, rfl, ?_⟩; have n0_ := Aside0.mk (Kd.R_lower ho0 (below_size (by repeat (first | (with_reducible first | exact HB.out | apply below_alloc | apply pw_below_drewN | apply below_drew1 | refine below_set ?_ GE164.out) | exact HB.out)))); have n1_ := Aside0.mk (blk_below (g := gb164) (o := .cells #[.slice A0_0 l0_0.length c0_0] 27 (0, 0)) (by (with_reducible repeat (first | refine blk_drewN ?_ _ | refine blk_drew ?_ | refine blk_alloc ?_ _)); exact BK164.out) hb); have n2_ := Aside0.mk (below_step (by repeat (first | (with_reducible first | exact HB.out | apply below_alloc | apply pw_below_drewN | apply below_drew1 | refine below_set ?_ GE164.out) | exact HB.out)) hb); clear BK164; clear HB; have HO167 := n0_; have BK164 := n1_; have HB := n2_; clear n0_ n1_ n2_; (try clear hb); (try clear hb2); (try clear hk); (try clear hi); (try clear ho0)) | (go_at_call 38; (with_reducible refine (drawbridgeref07_known.calls a2 true _ A6.out).mono ?_); rintro e w' ⟨rfl, ⟨nd, rfl⟩⟩; obtain ⟨Ao12, co12, eo12⟩ := Kd.R_slice HO167.out; subst eo12) | ((with_reducible refine gate_callee (f := 39) rfl ?_); refine goesL_ (some 25) rfl rfl Try.func39 (by kernel_rfl) rfl #[.slice Ao12 t165.length co12, .bool false] rfl (by (try simp only [List.map_toArray, List.map_cons, List.map_nil]); first | done | rfl | (simp only [List.length_drop, List.length_take]; rfl)) ?_; (with_reducible refine (drawbridgeref01_Get.calls _ _ t165 false t170 _ ?side1 ?side2 A8.out).mono ?_); (case side1 => repeat (first | exact (Kd.R_reads' HO167.out).2.2 | (with_reducible refine Kd.C_alloc ?_ _) | (with_reducible refine Kd.C_drewN ?_ _) | (with_reducible refine Kd.C_drew ?_))); (case side2 => exact (Kd.R_reads' HO167.out).2.1); rintro e w13 ⟨rfl, hb⟩; refine ⟨_, rfl, ?_⟩; have n0_ := Aside0.mk (Kd.R_below (by (with_reducible repeat (first | apply Kd.R_alloc | apply Kd.R_drewN | apply Kd.R_drew)); exact HO167.out) hb); have n1_ := Aside0.mk (blk_below (g := gb164) (o := .cells #[.slice A0_0 l0_0.length c0_0] 27 (0, 0)) (by (with_reducible repeat (first | refine blk_drewN ?_ _ | refine blk_drew ?_ | refine blk_alloc ?_ _)); exact BK164.out) hb); have n2_ := Aside0.mk (below_step (by repeat (first | (with_reducible first | exact HB.out | apply below_alloc | apply pw_below_drewN | apply below_drew1 | refine below_set ?_ GE164.out) | exact HB.out)) hb); clear HO167; clear BK164; clear HB; have HO167 := n0_; have BK164 := n1_; have HB := n2_; clear n0_ n1_ n2_; (try clear hb); (try clear hb2); (try clear hk); (try clear hi)))
      go_ret2
      exact ⟨by first | rfl | (simp [errW_none, errW_some] <;> rfl) | (simp [*, errW_none, errW_some] <;> rfl), by repeat (first | (with_reducible first | exact HB.out | apply below_alloc | apply pw_below_drewN | apply below_drew1 | refine below_set ?_ GE164.out) | exact HB.out)⟩
    · replace c7 := Bool.eq_false_iff.mpr c7
      subst c7
      have H1 : (some (0, false)) = some (r1, r2) := by rw [if_neg (show ¬ (false = true) by decide)] at H; exact H
      clear H
      have H := H1
      clear H1
      simp only [Option.some.injEq, Prod.mk.injEq] at H
      obtain ⟨rfl, rfl⟩ := H
      go_enter Try.func12, Try.ntmps12
      go_wp2_with (first | ((with_reducible refine gate_dst (N := 3) rfl ?_); refine box_event ?hg (N := 3) ?hd (cs := #[.slice A0_0 l0_0.length c0_0]) (t := 27) ?hr ?_; (case hd => rfl); (case hg => rfl); (case hr => first | (go_simp; done) | (go_simp; rfl)); intro gb164 hg w14 hbox hb; have n0_ := Aside0.mk (below_step (by repeat (first | (with_reducible first | exact HB.out | apply below_alloc | apply pw_below_drewN | apply below_drew1) | exact HB.out)) hb); have n1_ := Aside0.mk (hbox); have n2_ := Aside0.mk ((by rw [hg]; exact (below_size (by repeat (first | (with_reducible first | exact HB.out | apply below_alloc | apply pw_below_drewN | apply below_drew1) | exact HB.out))) : w.heap.size ≤ gb164)); have n3_ := Aside0.mk ((by rw [hg]; exact (below_size (by repeat (first | (with_reducible first | exact HB.out | apply below_alloc | apply pw_below_drewN | apply below_drew1) | exact HB.out))) : w.heap.size ≤ gb164)); clear HB; have HB := n0_; have BK164 := n1_; have GW164 := n2_; have GE164 := n3_; clear n0_ n1_ n2_ n3_; clear hb hbox hg; have hcz15_0 : w14.cell? ⟨gb164, 0, none⟩ = some (.slice A0_0 l0_0.length c0_0) := (blk_cell BK164.out 0).trans rfl; have hfz15_0 := blk_frozen BK164.out 0) | ((with_reducible refine gate_callee (f := 37) rfl ?_); refine goesL_ (some 14) rfl rfl Try.func37 (by kernel_rfl) rfl #[.agg #[.slice A0_0 l0_0.length c0_0], .int .u64 a1, .int .i64 a2] rfl (by (try simp only [List.map_toArray, List.map_cons, List.map_nil]); first | done | rfl | (simp only [List.length_drop, List.length_take]; rfl)) ?_; (with_reducible refine (drawbridgeref07_Bytes.calls _ _ l0_0 a1 a2 t165 true _ ?side1 ?side2 A4.out).mono ?_); (case side1 => repeat (first | exact (Kd.C_below HR0_0.out HB.out) | (with_reducible refine Kd.C_alloc ?_ _) | (with_reducible refine Kd.C_drewN ?_ _) | (with_reducible refine Kd.C_drew ?_))); (case side2 => exact HC0_0.out); rintro e w16 ⟨v166, rfl, ho0, hb⟩; refine ⟨_, rfl, ?_⟩; have n0_ := Aside0.mk (Kd.R_lower ho0 (below_size (by repeat (first | (with_reducible first | exact HB.out | apply below_alloc | apply pw_below_drewN | apply below_drew1 | refine below_set ?_ GE164.out) | exact HB.out)))); have n1_ := Aside0.mk (blk_below (g := gb164) (o := .cells #[.slice A0_0 l0_0.length c0_0] 27 (0, 0)) (by (with_reducible repeat (first | refine blk_drewN ?_ _ | refine blk_drew ?_ | refine blk_alloc ?_ _)); exact BK164.out) hb); have n2_ := Aside0.mk (below_step (by repeat (first | (with_reducible first | exact HB.out | apply below_alloc | apply pw_below_drewN | apply below_drew1 | refine below_set ?_ GE164.out) | exact HB.out)) hb); clear BK164; clear HB; have HO167 := n0_; have BK164 := n1_; have HB := n2_; clear n0_ n1_ n2_; (try clear hb); (try clear hb2); (try clear hk); (try clear hi); (try clear ho0)) | (go_at_call 38; (with_reducible refine (drawbridgeref07_known.calls a2 false _ A6.out).mono ?_); rintro e w' ⟨rfl, ⟨nd, rfl⟩⟩))
      go_ret2
      exact ⟨by first | rfl | (simp [errW_none, errW_some] <;> rfl) | (simp [*, errW_none, errW_some] <;> rfl), by repeat (first | (with_reducible first | exact HB.out | apply below_alloc | apply pw_below_drewN | apply below_drew1 | refine below_set ?_ GE164.out) | exact HB.out)⟩
  · replace c5 := Bool.eq_false_iff.mpr c5
    subst c5
    have H1 : (some (0, false)) = some (r1, r2) := by rw [if_neg (show ¬ (false = true) by decide)] at H; exact H
    clear H
    have H := H1
    clear H1
    simp only [Option.some.injEq, Prod.mk.injEq] at H
    obtain ⟨rfl, rfl⟩ := H
    go_enter Try.func12, Try.ntmps12
    go_wp2_with (first | ((with_reducible refine gate_dst (N := 3) rfl ?_); refine box_event ?hg (N := 3) ?hd (cs := #[.slice A0_0 l0_0.length c0_0]) (t := 27) ?hr ?_; (case hd => rfl); (case hg => rfl); (case hr => first | (go_simp; done) | (go_simp; rfl)); intro gb164 hg w17 hbox hb; have n0_ := Aside0.mk (below_step (by repeat (first | (with_reducible first | exact HB.out | apply below_alloc | apply pw_below_drewN | apply below_drew1) | exact HB.out)) hb); have n1_ := Aside0.mk (hbox); have n2_ := Aside0.mk ((by rw [hg]; exact (below_size (by repeat (first | (with_reducible first | exact HB.out | apply below_alloc | apply pw_below_drewN | apply below_drew1) | exact HB.out))) : w.heap.size ≤ gb164)); have n3_ := Aside0.mk ((by rw [hg]; exact (below_size (by repeat (first | (with_reducible first | exact HB.out | apply below_alloc | apply pw_below_drewN | apply below_drew1) | exact HB.out))) : w.heap.size ≤ gb164)); clear HB; have HB := n0_; have BK164 := n1_; have GW164 := n2_; have GE164 := n3_; clear n0_ n1_ n2_ n3_; clear hb hbox hg; have hcz18_0 : w17.cell? ⟨gb164, 0, none⟩ = some (.slice A0_0 l0_0.length c0_0) := (blk_cell BK164.out 0).trans rfl; have hfz18_0 := blk_frozen BK164.out 0) | ((with_reducible refine gate_callee (f := 37) rfl ?_); refine goesL_ (some 14) rfl rfl Try.func37 (by kernel_rfl) rfl #[.agg #[.slice A0_0 l0_0.length c0_0], .int .u64 a1, .int .i64 a2] rfl (by (try simp only [List.map_toArray, List.map_cons, List.map_nil]); first | done | rfl | (simp only [List.length_drop, List.length_take]; rfl)) ?_; (with_reducible refine (drawbridgeref07_Bytes.calls _ _ l0_0 a1 a2 t165 false _ ?side1 ?side2 A4.out).mono ?_); (case side1 => repeat (first | exact (Kd.C_below HR0_0.out HB.out) | (with_reducible refine Kd.C_alloc ?_ _) | (with_reducible refine Kd.C_drewN ?_ _) | (with_reducible refine Kd.C_drew ?_))); (case side2 => exact HC0_0.out); rintro e w19 ⟨v166, rfl, ho0, hb⟩; refine ⟨_, rfl, ?_⟩; have n0_ := Aside0.mk (Kd.R_lower ho0 (below_size (by repeat (first | (with_reducible first | exact HB.out | apply below_alloc | apply pw_below_drewN | apply below_drew1 | refine below_set ?_ GE164.out) | exact HB.out)))); have n1_ := Aside0.mk (blk_below (g := gb164) (o := .cells #[.slice A0_0 l0_0.length c0_0] 27 (0, 0)) (by (with_reducible repeat (first | refine blk_drewN ?_ _ | refine blk_drew ?_ | refine blk_alloc ?_ _)); exact BK164.out) hb); have n2_ := Aside0.mk (below_step (by repeat (first | (with_reducible first | exact HB.out | apply below_alloc | apply pw_below_drewN | apply below_drew1 | refine below_set ?_ GE164.out) | exact HB.out)) hb); clear BK164; clear HB; have HO167 := n0_; have BK164 := n1_; have HB := n2_; clear n0_ n1_ n2_; (try clear hb); (try clear hb2); (try clear hk); (try clear hi); (try clear ho0)))
    go_ret2
    exact ⟨by first | rfl | (simp [errW_none, errW_some] <;> rfl) | (simp [*, errW_none, errW_some] <;> rfl), by repeat (first | (with_reducible first | exact HB.out | apply below_alloc | apply pw_below_drewN | apply below_drew1 | refine below_set ?_ GE164.out) | exact HB.out)⟩

end Go.Proofs.Ytdblpflepfcnjaa.Q
end
section
/- ram.Fill and ram.Write, as those who call them have it. -/
namespace Go.Proofs.Ytdblpflepfcnjaa.Q
open Go.RowKit Go.Proofs.YtdblpflepfcnjaaW.PrintWords Go.Proofs.YtdblpflepfcnjaaW.PrintLast Go.Proofs.YtdblpflepfcnjaaW.PrintMore Go.Proofs.Ytdblpflepfcnjaa.L
attribute [local go_sem] Instr.field part asAgg lt_step max2_int min2_int max_two min_two max_three min_three max_four min_four lt_0_1 lt_0_2 lt_1_2 lt_0_3 lt_1_3 lt_2_3 lt_0_4 lt_1_4 lt_2_4 lt_3_4 lt_0_5 lt_1_5 lt_2_5 lt_3_5 lt_4_5 lt_0_6 lt_1_6 lt_2_6 lt_3_6 lt_4_6 lt_5_6 lt_0_7 lt_1_7 lt_2_7 lt_3_7 lt_4_7 lt_5_7 lt_6_7 lt_0_8 lt_1_8 lt_2_8 lt_3_8 lt_4_8 lt_5_8 lt_6_8 lt_7_8
set_option linter.unusedVariables false
set_option linter.unusedSimpArgs false
def ram_Fill.f (l : List Int) (a : Int) (b : List Int) : Option (List Int × Bool) := if u64B a ∧ l.length < 140737488355328 ∧ b.length ≤ 9223372036854775807 then some (fillL l a b, (placeZ l.length a b.length).2) else none
theorem ram_Fill.calls (P0_0_ : Nat → Prop) (A0_0 : Option Addr) (c0_0 : Nat) (l0_0 : List Int) (a1 : Int) (A2 : Option Addr) (c2 : Nat) (l2 : List Int) (r1 : List Int) (r2 : Bool) (w : World) (hs0_0 : Kd.V (Kd.int .u8) 5 w w.heap.size (fun k_ => P0_0_ k_) (.slice A0_0 l0_0.length c0_0) l0_0) (hr2 : Kd.C (Kd.int .u8) w A2 l2.length l2) (hc2 : l2.length ≤ c2) (h : ram_Fill.f l0_0 a1 l2 = some (r1, r2)) :
    Calls Try.prog 49 #[.agg #[.slice A0_0 l0_0.length c0_0], .int .u64 a1, .slice A2 l2.length c2] w fun e w' => ∃ v0_ : Value, e = .returned (.tuple #[.agg #[v0_], .bool r2]) ∧ Kd.V (Kd.int .u8) 5 w' w.heap.size (fun k_ => (P0_0_ k_ ∨ w.heap.size ≤ k_)) v0_ r1 ∧ Below w.heap.size w w' := by
  unfold ram_Fill.f at h
  split at h
  case isFalse => cases h
  case isTrue hh =>
  obtain ⟨ha, hl, hb⟩ := hh
  injection h with h
  injection h with e1 e2
  subst e1; subst e2
  obtain ⟨_, hc, hF⟩ := V_F hs0_0
  refine (ram_Fill.runs A0_0 c0_0 l0_0 a1 A2 c2 l2 w P0_0_ _ hF hc (F_in hr2) hc2 ha hl hb).mono ?_
  rintro e w' ⟨A', c', he, hc', hF', hB⟩
  exact ⟨_, he, ⟨A', c', rfl, hc', hF'⟩, hB⟩
def ram_Write.f (l : List Int) (a size x : Int) : Option (List Int × Bool) := if u64B a ∧ l.length < 140737488355328 then some (writeL l a size x, writeK l a size x) else none
theorem ram_Write.calls (P0_0_ : Nat → Prop) (A0_0 : Option Addr) (c0_0 : Nat) (l0_0 : List Int) (a1 : Int) (a2 : Int) (a3 : Int) (r1 : List Int) (r2 : Bool) (w : World) (hs0_0 : Kd.V (Kd.int .u8) 5 w w.heap.size (fun k_ => P0_0_ k_) (.slice A0_0 l0_0.length c0_0) l0_0) (h : ram_Write.f l0_0 a1 a2 a3 = some (r1, r2)) :
    Calls Try.prog 48 #[.agg #[.slice A0_0 l0_0.length c0_0], .int .u64 a1, .int .i64 a2, .int .u64 a3] w fun e w' => ∃ v0_ : Value, e = .returned (.tuple #[.agg #[v0_], .bool r2]) ∧ Kd.V (Kd.int .u8) 5 w' w.heap.size (fun k_ => (P0_0_ k_ ∨ w.heap.size ≤ k_)) v0_ r1 ∧ Below w.heap.size w w' := by
  unfold ram_Write.f at h
  split at h
  case isFalse => cases h
  case isTrue hh =>
  obtain ⟨ha, hl⟩ := hh
  injection h with h
  injection h with e1 e2
  subst e1; subst e2
  obtain ⟨_, hc, hF⟩ := V_F hs0_0
  refine (ram_Write.runs A0_0 c0_0 l0_0 a1 a2 a3 w P0_0_ hF hc ha hl).mono ?_
  rintro e w' ⟨A', c', he, hc', hF', hB⟩
  exact ⟨_, he, ⟨A', c', rfl, hc', hF'⟩, hB⟩
end Go.Proofs.Ytdblpflepfcnjaa.Q
end
section
/- What is told of memory: cuts, numbers (layer 7). -/
set_option linter.unusedVariables false
namespace Go.Proofs.Ytdblpflepfcnjaa.Q
open Go.RowKit Go.Proofs.YtdblpflepfcnjaaW.PrintWords Go.Proofs.YtdblpflepfcnjaaW.PrintLast Go.Proofs.YtdblpflepfcnjaaW.PrintMore Go.Proofs.Ytdblpflepfcnjaa.L
def i64B (x : Int) : Prop := -9223372036854775808 ≤ x ∧ x ≤ 9223372036854775807
def cutL (l : List Int) (a k : Int) : List Int := (l.take (a - 2147483648 + k).toNat).drop (a - 2147483648).toNat
def bytesZ (l : List Int) (a k : Int) : List Int × Bool := if (placeZ l.length a k).2 = true then (cutL l a k, true) else ([], false)
def readZ (l : List Int) (a s : Int) : Int × Bool := if (placeZ l.length a s).2 = true ∧ knownZ s = true then (getB (cutL l a s) false, true) else (0, false)
theorem placeZ_cases (n a k : Int) : (2147483648 ≤ a ∧ 0 ≤ k ∧ a - 2147483648 + k ≤ n ∧ placeZ n a k = (a - 2147483648, true)) ∨ (¬ (2147483648 ≤ a ∧ 0 ≤ k ∧ a - 2147483648 + k ≤ n) ∧ placeZ n a k = (0, false)) := by
  unfold placeZ
  by_cases h : 2147483648 ≤ a ∧ 0 ≤ k ∧ a - 2147483648 + k ≤ n
  · exact .inl ⟨h.1, h.2.1, h.2.2, if_pos h⟩
  · exact .inr ⟨h, if_neg h⟩
theorem cutL_byte (l : List Int) (a k : Int) (hb : ∀ z ∈ l, byte z) : ∀ z ∈ (cutL l a k).take 8, byte z := fun z hz => hb z (List.mem_of_mem_take (List.mem_of_mem_drop (List.mem_of_mem_take hz)))
theorem byte_wf {z : Int} (h : (Lit.int .u8 z).wf = true) : byte z := by
  simp only [Lit.wf, Bool.and_eq_true, decide_eq_true_eq] at h
  have h1 : IntKind.u8.min = 0 := rfl
  have h2 : IntKind.u8.max = 255 := rfl
  exact ⟨by omega, by omega⟩
theorem i64_wf {z : Int} (h : (Lit.int .i64 z).wf = true) : i64B z := by
  simp only [Lit.wf, Bool.and_eq_true, decide_eq_true_eq] at h
  have h1 : IntKind.i64.min = -9223372036854775808 := rfl
  have h2 : IntKind.i64.max = 9223372036854775807 := rfl
  exact ⟨by omega, by omega⟩
theorem u64_wf {z : Int} (h : (Lit.int .u64 z).wf = true) : u64B z := by
  simp only [Lit.wf, Bool.and_eq_true, decide_eq_true_eq] at h
  have h1 : IntKind.u64.min = 0 := rfl
  have h2 : IntKind.u64.max = 18446744073709551615 := rfl
  exact ⟨by omega, by omega⟩
theorem putB_byte (x s : Int) (b : Bool) : ∀ z ∈ putB x s b, byte z := by
  intro z hz
  unfold putB at hz
  split at hz
  · exact putL_byte _ _ z (List.mem_reverse.1 hz)
  · exact putL_byte _ _ z hz
theorem splice_byte (l b : List Int) (i : Nat) (hl : ∀ z ∈ l, byte z) (hb : ∀ z ∈ b, byte z) : ∀ z ∈ splice l i b, byte z := by
  intro z hz
  unfold splice at hz
  rcases List.mem_append.1 hz with h | h
  · exact hl z (List.mem_of_mem_take h)
  · rcases List.mem_append.1 h with h | h
    · exact hb z h
    · exact hl z (List.mem_of_mem_drop h)
theorem fillL_byte (l : List Int) (a : Int) (b : List Int) (hl : ∀ z ∈ l, byte z) (hb : ∀ z ∈ b, byte z) : ∀ z ∈ fillL l a b, byte z := by
  unfold fillL; split
  · exact splice_byte l b _ hl hb
  · exact hl
theorem writeL_byte (l : List Int) (a s x : Int) (hl : ∀ z ∈ l, byte z) : ∀ z ∈ writeL l a s x, byte z := by
  unfold writeL; split
  · exact fillL_byte l a _ hl (putB_byte x s false)
  · exact hl
end Go.Proofs.Ytdblpflepfcnjaa.Q
end
section
/- nic's descriptors: own, done. -/
namespace Go.Proofs.Ytdblpflepfcnjaa.Q
open Go.RowKit Go.Proofs.YtdblpflepfcnjaaW.PrintWords Go.Proofs.YtdblpflepfcnjaaW.PrintLast Go.Proofs.YtdblpflepfcnjaaW.PrintMore Go.Proofs.Ytdblpflepfcnjaa.L
attribute [local go_sem] Instr.field part asAgg lt_step max2_int min2_int max_two min_two max_three min_three max_four min_four lt_0_1 lt_0_2 lt_1_2 lt_0_3 lt_1_3 lt_2_3 lt_0_4 lt_1_4 lt_2_4 lt_3_4 lt_0_5 lt_1_5 lt_2_5 lt_3_5 lt_4_5 lt_0_6 lt_1_6 lt_2_6 lt_3_6 lt_4_6 lt_5_6 lt_0_7 lt_1_7 lt_2_7 lt_3_7 lt_4_7 lt_5_7 lt_6_7 lt_0_8 lt_1_8 lt_2_8 lt_3_8 lt_4_8 lt_5_8 lt_6_8 lt_7_8
set_option linter.unusedVariables false
set_option linter.unusedSimpArgs false
abbrev D5 (a b s f g : Int) : Array Value := #[.int .u64 a, .int .u64 b, .int .i64 s, .int .u8 f, .int .u8 g]
set_option maxHeartbeats 1600000 in
set_option maxRecDepth 100000 in
theorem own_is (a b s f g : Int) (w : World) : Calls Try.prog 34 #[.agg #[.int .u64 a, .int .u64 b, .int .i64 s, .int .u8 f, .int .u8 g]] w fun e w' => e = .returned (.bool (Go.bits .and .u8 f 1 == 1)) ∧ Below w.heap.size w w' := by
  have HB := Aside0.mk (Below.refl w.heap.size w)
  have hu := Try.underlying58
  have hv := Try.underlying56
  go_enter Try.func34, Try.ntmps34
  go_wp2
  go_ret
  exact ⟨rfl, (bG HB)⟩
theorem Fill_n (n : Nat) (A : Option Addr) (c : Nat) (l : List Int) (at_ : Int) (A2 : Option Addr) (c2 : Nat) (b : List Int) (w : World) (ok ok2 : Nat → Prop) (hn : b.length = n) (hrF : Kd.F (Kd.int .u8) w ok A l.length l) (hc : l.length ≤ c) (hrF2 : Kd.F (Kd.int .u8) w ok2 A2 n b) (hc2 : n ≤ c2) (hat : u64B at_) (hl : l.length < 140737488355328) (hb : n ≤ 9223372036854775807) :
    Calls Try.prog 49 #[.agg #[.slice A l.length c], .int .u64 at_, .slice A2 n c2] w fun e w' => ∃ A' c', e = .returned (.tuple #[.agg #[.slice A' (fillL l at_ b).length c'], .bool (placeZ l.length at_ n).2]) ∧ (fillL l at_ b).length ≤ c' ∧ Kd.F (Kd.int .u8) w' (fun j => ok j ∨ w.heap.size ≤ j) A' (fillL l at_ b).length (fillL l at_ b) ∧ Below w.heap.size w w' := by
  subst hn
  exact ram_Fill.runs A c l at_ A2 c2 b w ok ok2 hrF hc hrF2 hc2 hat hl hb
set_option maxHeartbeats 1600000 in
set_option maxRecDepth 100000 in
theorem done_is (a b s f g st : Int) (A : Option Addr) (cap : Nat) (l : List Int) (w : World) (ok : Nat → Prop) (hr : Kd.F (Kd.int .u8) w ok A l.length l) (hc : l.length ≤ cap) (ha : u64B a) (hl : l.length < 140737488355328) : Calls Try.prog 36 #[.agg #[.int .u64 a, .int .u64 b, .int .i64 s, .int .u8 f, .int .u8 g], .agg #[.slice A l.length cap], .int .u8 st] w fun e w' => ∃ A' c', e = .returned (.agg #[.slice A' (fillL l (IntKind.u64.wrap (a + 10)) [Go.bits .andNot .u8 f 1, g, st, 0]).length c']) ∧ (fillL l (IntKind.u64.wrap (a + 10)) [Go.bits .andNot .u8 f 1, g, st, 0]).length ≤ c' ∧ Kd.F (Kd.int .u8) w' (fun j => ok j ∨ w.heap.size ≤ j) A' (fillL l (IntKind.u64.wrap (a + 10)) [Go.bits .andNot .u8 f 1, g, st, 0]).length (fillL l (IntKind.u64.wrap (a + 10)) [Go.bits .andNot .u8 f 1, g, st, 0]) ∧ Below w.heap.size w w' := by
  have HB := Aside0.mk (Below.refl w.heap.size w)
  have hu := Try.underlying58
  have hv := Try.underlying56
  have hw := Try.underlying27
  go_enter Try.func36, Try.ntmps36
  have hmk : ∀ W : World, (Instr.makeSlice 23 (.int .i64 4) (.int .i64 4)).run Try.prog W = .ok (.slice (some ⟨W.heap.size, 0, none⟩) 4 4) (W.alloc (.cells #[.int .u8 0, .int .u8 0, .int .u8 0, .int .u8 0] 5 (0, 0))) := fun _ => by kernel_rfl
  go_upto_region 2 with fail
  obtain ⟨wa, hwa, oa0, ob0, oz0, oq0, hb_, hz0⟩ := letter4 w (.cells #[.int .u64 a, .int .u64 b, .int .i64 s, .int .u8 f, .int .u8 g] 58 (0, 0)) (.cells #[.slice A l.length cap] 27 (0, 0)) (.cells #[.slice none 0 0] 27 (0, 0)) (.cells #[.int .u8 0, .int .u8 0, .int .u8 0, .int .u8 0] 5 (0, 0))
  rw [hwa]
  clear hwa
  obtain ⟨oac0, oaf0, oal0⟩ := cells_of oa0
  have hcp := run_copy_row (P := Try.prog) wa 23 23 3 5 (w.heap.size + 1 + 1 + 1) 0 4 4 ⟨w.heap.size, 3, none⟩ 2 2 #[.int .u8 0, .int .u8 0, .int .u8 0, .int .u8 0] 5 [.int .u8 f, .int .u8 g] Try.underlying23 infoS oq0 rfl
    (by intro j v hv
        match j, hv with
        | 0, hv => rw [add_eq]; exact (oac0 3).trans hv
        | 1, hv => rw [add_eq]; exact (oac0 4).trans hv
        | n + 2, hv => cases hv)
    (by simp) (by intro v hv; rcases List.mem_cons.1 hv with rfl | hv; rfl; rcases List.mem_cons.1 hv with rfl | hv; rfl; cases hv)
  obtain ⟨wb, hwb⟩ : ∃ wb, wb = wa.setRow (w.heap.size + 1 + 1 + 1) #[.int .u8 f, .int .u8 g, .int .u8 0, .int .u8 0] := ⟨_, rfl⟩
  replace hcp : (Builtin.copy_ #[23, 23] 3 #[.slice (some ⟨w.heap.size + 1 + 1 + 1, 0, none⟩) 4 4, .slice (some ⟨w.heap.size, 3, none⟩) 2 2]).run Try.prog wa = .ok (goInt 2) wb := by rw [hwb]; exact hcp
  have oq := Aside0.mk (show wb.heap[w.heap.size + 1 + 1 + 1]? = some (.cells #[.int .u8 f, .int .u8 g, .int .u8 0, .int .u8 0] 5 (0, 0)) from by rw [hwb]; exact setRow_heap wa _ _ _ _ _ oq0)
  have oa := Aside0.mk (show wb.heap[w.heap.size]? = some (.cells #[.int .u64 a, .int .u64 b, .int .i64 s, .int .u8 f, .int .u8 g] 58 (0, 0)) from by rw [hwb, setRow_other wa _ _ _ (by omega)]; exact oa0)
  have ob := Aside0.mk (show wb.heap[w.heap.size + 1]? = some (.cells #[.slice A l.length cap] 27 (0, 0)) from by rw [hwb, setRow_other wa _ _ _ (by omega)]; exact ob0)
  have oz := Aside0.mk (show wb.heap[w.heap.size + 1 + 1]? = some (.cells #[.slice none 0 0] 27 (0, 0)) from by rw [hwb, setRow_other wa _ _ _ (by omega)]; exact oz0)
  have HB_ : Aside0 (Below w.heap.size w wb) := ⟨by rw [hwb]; exact below_setRow hb_ (by omega) _⟩
  clear oac0 oaf0 oal0 hwb oa0 ob0 oz0 oq0 hb_
  clear HB; have HB := HB_; clear HB_
  obtain ⟨oac, oaf, oal⟩ := cells_of oa.out
  obtain ⟨obc, obf, obl⟩ := cells_of ob.out
  obtain ⟨ozc, ozf, ozl⟩ := cells_of oz.out
  obtain ⟨oqc, oqf, oql⟩ := cells_of oq.out
  have HR := Aside0.mk (Kd.F_below (Kd.F_bound hr) HB.out)
  have HC := Aside0.mk hc
  have HT := Aside0.mk ha
  have HL := Aside0.mk hl
  clear hr hc ha hl hmk hz0
  have hzb : w.heap.size + 1 + 1 + 1 < wb.heap.size := oql
  go_wp2_with fail
  (have HR_ := Aside0.mk (Kd.F_far (p := ⟨w.heap.size + 1 + 1 + 1, 0, none⟩) HR.out (fun j_ hj_ => by (try dsimp only at hj_); (try dsimp only); (try simp only [sz_alloc, sz_drew, sz_drewN, sz_set] at hj_); omega) (.int .u8 (Go.bits .andNot .u8 f 1))); clear HR; have HR := HR_; clear HR_; have oa_ := Aside0.mk (blk_far (p := ⟨w.heap.size + 1 + 1 + 1, 0, none⟩) oa.out (by show _ ≠ _; dsimp only; omega) (.int .u8 (Go.bits .andNot .u8 f 1))); clear oa oac oaf oal; have oa := oa_; clear oa_; obtain ⟨oac, oaf, oal⟩ := cells_of oa.out; have ob_ := Aside0.mk (blk_far (p := ⟨w.heap.size + 1 + 1 + 1, 0, none⟩) ob.out (by show _ ≠ _; dsimp only; omega) (.int .u8 (Go.bits .andNot .u8 f 1))); clear ob obc obf obl; have ob := ob_; clear ob_; obtain ⟨obc, obf, obl⟩ := cells_of ob.out; have oz_ := Aside0.mk (blk_far (p := ⟨w.heap.size + 1 + 1 + 1, 0, none⟩) oz.out (by show _ ≠ _; dsimp only; omega) (.int .u8 (Go.bits .andNot .u8 f 1))); clear oz ozc ozf ozl; have oz := oz_; clear oz_; obtain ⟨ozc, ozf, ozl⟩ := cells_of oz.out; have oq_ := Aside0.mk (blk_put oq.out 0 (.int .u8 (Go.bits .andNot .u8 f 1)) (cs' := #[.int .u8 (Go.bits .andNot .u8 f 1), .int .u8 g, .int .u8 0, .int .u8 0]) rfl); clear oq oqc oqf oql; have oq := oq_; clear oq_; obtain ⟨oqc, oqf, oql⟩ := cells_of oq.out)
  (have HR_ := Aside0.mk (Kd.F_far (p := ⟨w.heap.size + 1 + 1 + 1, 2, none⟩) HR.out (fun j_ hj_ => by (try dsimp only at hj_); (try dsimp only); (try simp only [sz_alloc, sz_drew, sz_drewN, sz_set] at hj_); omega) (.int .u8 st)); clear HR; have HR := HR_; clear HR_; have oa_ := Aside0.mk (blk_far (p := ⟨w.heap.size + 1 + 1 + 1, 2, none⟩) oa.out (by show _ ≠ _; dsimp only; omega) (.int .u8 st)); clear oa oac oaf oal; have oa := oa_; clear oa_; obtain ⟨oac, oaf, oal⟩ := cells_of oa.out; have ob_ := Aside0.mk (blk_far (p := ⟨w.heap.size + 1 + 1 + 1, 2, none⟩) ob.out (by show _ ≠ _; dsimp only; omega) (.int .u8 st)); clear ob obc obf obl; have ob := ob_; clear ob_; obtain ⟨obc, obf, obl⟩ := cells_of ob.out; have oz_ := Aside0.mk (blk_far (p := ⟨w.heap.size + 1 + 1 + 1, 2, none⟩) oz.out (by show _ ≠ _; dsimp only; omega) (.int .u8 st)); clear oz ozc ozf ozl; have oz := oz_; clear oz_; obtain ⟨ozc, ozf, ozl⟩ := cells_of oz.out; have oq_ := Aside0.mk (blk_put oq.out 2 (.int .u8 st) (cs' := #[.int .u8 (Go.bits .andNot .u8 f 1), .int .u8 g, .int .u8 st, .int .u8 0]) rfl); clear oq oqc oqf oql; have oq := oq_; clear oq_; obtain ⟨oqc, oqf, oql⟩ := cells_of oq.out)
  (go_at_call 49; (with_reducible refine (Fill_n 4 A cap l (IntKind.u64.wrap (a + 10)) (some ⟨w.heap.size + 1 + 1 + 1, 0, none⟩) 4 [Go.bits .andNot .u8 f 1, g, st, 0] _ _ (fun _ => True) rfl HR.out HC.out (F_of_C (C_blk oq.out rfl (by simp) rfl) (fun _ _ _ => trivial)) (by simp) (by unfold u64B; rw [IntKind.wrap_u64]; omega) HL.out (by simp)).mono ?_); rintro e_ w5 ⟨A_s, c_s, rfl, hc_s, hr_s, hb_⟩; have HB_ : Aside0 (Below w.heap.size w w5) := Aside0.mk (below_step (bG HB) hb_); have hzw5 := hb_.size; (try simp at hzw5); have oa_ := Aside0.mk (box_below hb_ (eG oa)); have ob_ := Aside0.mk (box_below hb_ (eG ob)); have oz_ := Aside0.mk (box_below hb_ (eG oz)); (try clear oa oac oaf oal); have oa := oa_; clear oa_; obtain ⟨oac, oaf, oal⟩ := cells_of oa.out; (try clear ob obc obf obl); have ob := ob_; clear ob_; obtain ⟨obc, obf, obl⟩ := cells_of ob.out; (try clear oz ozc ozf ozl); have oz := oz_; clear oz_; obtain ⟨ozc, ozf, ozl⟩ := cells_of oz.out; clear HB hb_; have HB := HB_; clear HB_; have sc := Aside0.mk hc_s; have s := Aside0.mk (Kd.F_bound hr_s); clear hc_s hr_s; skip)
  go_wp2
  refine bodyPost_ret (v := .agg #[.slice A_s (fillL l (IntKind.u64.wrap (a + 10)) [Go.bits .andNot .u8 f 1, g, st, 0]).length c_s]) (by simp [results, Try.results36, go_sem, ozc, ozf] <;> first | assumption | omega | (symm; assumption)) rfl ?_
  exact ⟨A_s, c_s, rfl, sc.out, (by refine F_res (ok := ?_) ?_ ?_; rotate_left; (repeat (with_reducible first | exact s.out | apply Kd.F_drew | apply Kd.F_drewN | apply Kd.F_alloc | refine Kd.F_far ?_ ?_ _)); all_goals (intro j_ hj_; (try dsimp only at hj_); (try dsimp only); (try simp only [sz_alloc, sz_drew, sz_drewN, sz_set] at hj_); first | omega | exact .inl hj_.1 | exact .inl hj_ | exact .inr (by omega) | (rcases hj_ with hj_ | hj_; exact .inl hj_.1; exact .inr (by omega)) | (rcases hj_ with hj_ | hj_; exact .inl hj_; exact .inr (by omega)) | (rcases hj_.1 with hk_ | hk_; (first | exact .inl hk_.1 | exact .inl hk_); exact .inr (by omega)))), (bG HB)⟩
end Go.Proofs.Ytdblpflepfcnjaa.Q
end
section
/- Inside (layer 7). -/
set_option linter.unusedVariables false
namespace Go.Proofs.Ytdblpflepfcnjaa.Q
open Go.RowKit Go.Proofs.YtdblpflepfcnjaaW.PrintWords Go.Proofs.YtdblpflepfcnjaaW.PrintLast Go.Proofs.YtdblpflepfcnjaaW.PrintMore Go.Proofs.Ytdblpflepfcnjaa.L
section
variable (l : List Int) (a k : Int) (ha : u64B a) (hk : i64B k) (hl : (l.length : Int) ≤ 70000)
include ha hk hl
theorem inside_is (m : Nat) : ram_Inside.f (m + 3) l a k = some (placeZ l.length a k).2 := by
  unfold ram_Inside.f
  rw [place_is l a k ha hk (by omega) m]; rfl
end
end Go.Proofs.Ytdblpflepfcnjaa.Q
end
section
/- Bytes (layer 7). -/
set_option linter.unusedVariables false
namespace Go.Proofs.Ytdblpflepfcnjaa.Q
open Go.RowKit Go.Proofs.YtdblpflepfcnjaaW.PrintWords Go.Proofs.YtdblpflepfcnjaaW.PrintLast Go.Proofs.YtdblpflepfcnjaaW.PrintMore Go.Proofs.Ytdblpflepfcnjaa.L
section
variable (l : List Int) (a k : Int) (ha : u64B a) (hk : i64B k) (hl : (l.length : Int) ≤ 70000)
include ha hk hl
theorem bytes_is (m : Nat) : ram_Bytes.f (m + 3) l a k = some (bytesZ l a k) := by
  unfold ram_Bytes.f bytesZ
  rw [place_is l a k ha hk (by omega) m, Option.bind_some]
  obtain ⟨k0, k1⟩ := hk
  rcases placeZ_cases l.length a k with ⟨h1, h2, h3, e⟩ | ⟨_, e⟩
  · rw [e]
    have e1 : wrap64 (a - 2147483648 + k) = a - 2147483648 + k := w64 (by omega) (by omega)
    simp only [if_true, e1]
    rw [if_pos (by omega), if_pos (by omega), if_pos (by omega)]
    unfold slices_Clone_byte_byte.f
    rw [if_pos (by rw [List.length_drop, List.length_take]; omega)]
    rfl
  · rw [e]; rfl
end
end Go.Proofs.Ytdblpflepfcnjaa.Q
end
section
/- What the reference's memory comes to (layers 12, 13). -/
set_option linter.unusedVariables false
namespace Go.Proofs.Ytdblpflepfcnjaa.Q
open Go.RowKit Go.Proofs.YtdblpflepfcnjaaW.PrintWords Go.Proofs.YtdblpflepfcnjaaW.PrintLast Go.Proofs.YtdblpflepfcnjaaW.PrintMore Go.Proofs.Ytdblpflepfcnjaa.L
theorem known_is (s : Int) : drawbridgeref07_known.f s = some (knownZ s) := by
  unfold drawbridgeref07_known.f knownZ
  by_cases h1 : s = 1
  · subst h1; rfl
  by_cases h2 : s = 2
  · subst h2; rfl
  by_cases h4 : s = 4
  · subst h4; rfl
  rw [if_neg h1, if_neg h2, if_neg h4, beq_eq_false_iff_ne.2 h1, beq_eq_false_iff_ne.2 h2, beq_eq_false_iff_ne.2 h4]
  rfl
theorem same07_self (l : List Int) : drawbridgeref07_Same.f l l = some true := by unfold drawbridgeref07_Same.f; rw [beq_self_eq_true]
section
variable (l : List Int) (a k : Int) (ha : u64B a) (hk : i64B k) (hl : (l.length : Int) ≤ 70000)
include ha hk hl
theorem refInside_is : drawbridgeref07_Inside.f l a k = some (placeZ l.length a k).2 := by
  obtain ⟨a0, a1⟩ := ha
  obtain ⟨k0, k1⟩ := hk
  unfold drawbridgeref07_Inside.f
  rcases placeZ_cases l.length a k with ⟨h1, h2, h3, e⟩ | ⟨h, e⟩
  · have w1 : IntKind.u64.wrap (a - 2147483648) = a - 2147483648 := by rw [IntKind.wrap_u64]; omega
    have w2 : IntKind.u64.wrap (l.length : Int) = l.length := by rw [IntKind.wrap_u64]; omega
    have w3 : IntKind.u64.wrap k = k := by rw [IntKind.wrap_u64]; omega
    have w4 : IntKind.u64.wrap ((l.length : Int) - (a - 2147483648)) = l.length - (a - 2147483648) := by rw [IntKind.wrap_u64]; omega
    rw [e, if_pos (by omega), if_pos (by omega), w1, w2, w3, w4, if_pos (by omega), decide_eq_true (by omega)]
  · rw [e]
    by_cases h2 : k ≥ 0
    · by_cases h1 : a ≥ 2147483648
      · have w1 : IntKind.u64.wrap (a - 2147483648) = a - 2147483648 := by rw [IntKind.wrap_u64]; omega
        have w2 : IntKind.u64.wrap (l.length : Int) = l.length := by rw [IntKind.wrap_u64]; omega
        have w3 : IntKind.u64.wrap k = k := by rw [IntKind.wrap_u64]; omega
        rw [if_pos h2, if_pos h1, w1, w2, w3]
        by_cases h3 : a - 2147483648 ≤ (l.length : Int)
        · have w4 : IntKind.u64.wrap ((l.length : Int) - (a - 2147483648)) = l.length - (a - 2147483648) := by rw [IntKind.wrap_u64]; omega
          rw [if_pos h3, w4, decide_eq_false (by omega)]
        · rw [if_neg h3]
      · rw [if_pos h2, if_neg h1]
    · rw [if_neg h2]
theorem refBytes_is : drawbridgeref07_Bytes.f l a k = some (bytesZ l a k) := by
  unfold drawbridgeref07_Bytes.f bytesZ
  rw [refInside_is l a k ha hk hl, Option.bind_some]
  obtain ⟨a0, a1⟩ := ha
  obtain ⟨k0, k1⟩ := hk
  rcases placeZ_cases l.length a k with ⟨h1, h2, h3, e⟩ | ⟨_, e⟩
  · rw [e]
    have w1 : IntKind.u64.wrap (a - 2147483648) = a - 2147483648 := by rw [IntKind.wrap_u64]; omega
    have w2 : wrap64 (a - 2147483648) = a - 2147483648 := w64 (by omega) (by omega)
    have e1 : wrap64 (a - 2147483648 + k) = a - 2147483648 + k := w64 (by omega) (by omega)
    simp only [if_true, w1, w2, e1, Option.bind_some]
    rw [if_pos (by omega), if_pos (by omega), if_pos (by omega), if_pos (by rw [List.length_drop, List.length_take]; simp; omega)]
    rfl
  · rw [e]; rfl
theorem refRead_is (hb : ∀ z ∈ l, byte z) : drawbridgeref07_Read.f l a k = some (readZ l a k) := by
  have hby := cutL_byte l a k hb
  unfold drawbridgeref07_Read.f readZ
  rw [refBytes_is l a k ha hk hl, Option.bind_some, known_is, Option.bind_some]
  unfold bytesZ
  cases h : (placeZ l.length a k).2
  · simp
  · cases hk : knownZ k
    · simp
    · simp only [if_true, and_self]
      unfold drawbridgeref01_Get.f; rw [if_pos hby]; rfl
end
theorem refFill_is (l : List Int) (a : Int) (b : List Int) (ha : u64B a) (hb : (b.length : Int) ≤ 9223372036854775807) (hl : (l.length : Int) ≤ 70000) : drawbridgeref07_Fill.f l a b = some (fillL l a b, (placeZ l.length a b.length).2) := by
  unfold drawbridgeref07_Fill.f fillL
  rw [refInside_is l a b.length ha ⟨by omega, hb⟩ hl, Option.bind_some]
  obtain ⟨a0, a1⟩ := ha
  rcases placeZ_cases l.length a b.length with ⟨h1, h2, h3, e⟩ | ⟨_, e⟩
  · rw [e]
    have w1 : IntKind.u64.wrap (a - 2147483648) = a - 2147483648 := by rw [IntKind.wrap_u64]; omega
    have w2 : wrap64 (a - 2147483648) = a - 2147483648 := w64 (by omega) (by omega)
    have e1 : wrap64 (a - 2147483648 + b.length) = a - 2147483648 + b.length := w64 (by omega) (by omega)
    simp only [if_true, w1, w2, e1, Option.bind_some]
    rw [if_pos (by omega), if_pos (by omega), if_pos (by simp; omega), if_pos (by simp; omega), if_pos (by omega), if_pos (by omega), if_pos (by simp; omega)]
    unfold splice
    rw [List.nil_append, List.append_assoc, show (a - 2147483648 + (b.length : Int)).toNat = (a - 2147483648).toNat + b.length by omega]
  · rw [e]; rfl
theorem fill_is (l : List Int) (a : Int) (b : List Int) (ha : u64B a) (hb : (b.length : Int) ≤ 9223372036854775807) (hl : (l.length : Int) ≤ 70000) : ram_Fill.f l a b = some (fillL l a b, (placeZ l.length a b.length).2) := by
  unfold ram_Fill.f; rw [if_pos ⟨ha, by omega, by omega⟩]
theorem write_is (l : List Int) (a s x : Int) (ha : u64B a) (hl : (l.length : Int) ≤ 70000) : ram_Write.f l a s x = some (writeL l a s x, writeK l a s x) := by
  unfold ram_Write.f; rw [if_pos ⟨ha, by omega⟩]
end Go.Proofs.Ytdblpflepfcnjaa.Q
end
section
/- What the program's memory comes to (layers 12, 13). -/
end
