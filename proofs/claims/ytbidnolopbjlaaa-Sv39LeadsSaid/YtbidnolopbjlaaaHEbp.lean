import Derived.Test.YtbidnolopbjlaaaHQx9
import Derived.Test.YtbidnolopbjlaaaPm
/- The contract of bits.Put. -/
namespace Go.Proofs.Ytbidnolopbjlaaa.Q
open Go.RowKit Go.Proofs.YtbidnolopbjlaaaW.PrintWords Go.Proofs.YtbidnolopbjlaaaW.PrintLast Go.Proofs.YtbidnolopbjlaaaW.PrintMore Go.Proofs.Ytbidnolopbjlaaa.L
attribute [local go_sem] max2_int min2_int max_two min_two max_three min_three max_four min_four
set_option linter.unusedVariables false
set_option linter.unusedSimpArgs false

/-! ### slices.Reverse: what its loop comes to -/
theorem reverse_loop (l : List Int) (n : Nat) (hn : l.length = n) (hmax : n ≤ 9223372036854775807) (d : Nat) : ∀ (k : Nat) (x : List Int) (i j : Int), x.length = n → 0 ≤ i → i + j = (n : Int) - 1 → i ≤ j + 2 →
    (∀ p : Nat, p < n → x.getD p 0 = if (p : Int) < i ∨ j < (p : Int) then l.getD (n - 1 - p) 0 else l.getD p 0) → (j - i + 1).toNat ≤ d → d < k → slices_Reverse_byte_byte.l0 k x i j = some l.reverse := by
  induction d with
  | zero =>
    intro k x i j hx h0 hij h2 hp hd hk
    obtain ⟨k, rfl⟩ : ∃ m, k = m + 1 := ⟨k - 1, by omega⟩
    simp only [slices_Reverse_byte_byte.l0]
    rw [if_neg (by omega)]
    refine congrArg some (List.ext_getElem (by simp [hx, hn]) fun p h1 h3 => ?_)
    have e := hp p (by omega)
    rw [if_pos (by omega)] at e
    rw [List.getElem_reverse, get_getD, e, get_getD, hn]
  | succ d ih =>
    intro k x i j hx h0 hij h2 hp hd hk
    obtain ⟨k, rfl⟩ : ∃ m, k = m + 1 := ⟨k - 1, by omega⟩
    simp only [slices_Reverse_byte_byte.l0]
    by_cases hlt : i < j
    · rw [if_pos hlt, if_pos (by omega), if_pos (by omega), if_pos h0, if_pos (by omega)]
      rw [show wrap64 (i + 1) = i + 1 by unfold wrap64; omega, show wrap64 (j - 1) = j - 1 by unfold wrap64; omega]
      refine ih k _ (i + 1) (j - 1) (by simp [hx]) (by omega) (by omega) (by omega) (fun p hpn => ?_) (by omega) (by omega)
      have e := hp p hpn
      have ei := hp i.toNat (by omega)
      have ej := hp j.toNat (by omega)
      rw [if_neg (by omega)] at ei ej
      rw [List.getD_eq_getElem?_getD, List.getElem?_set, List.getElem?_set]
      simp only [List.length_set]
      by_cases e1 : j.toNat = p
      · rw [if_pos e1, if_pos (by omega), if_pos (by omega)]
        unfold rd
        rw [Option.getD_some, ei]
        congr 1
        omega
      · rw [if_neg e1]
        by_cases e2 : i.toNat = p
        · rw [if_pos e2, if_pos (by omega), if_pos (by omega)]
          unfold rd
          rw [Option.getD_some, ej]
          congr 1
          omega
        · rw [if_neg e2, ← List.getD_eq_getElem?_getD, e]
          by_cases hc : (p : Int) < i ∨ j < (p : Int)
          · rw [if_pos hc, if_pos (by omega)]
          · rw [if_neg hc, if_neg (by omega)]
    · rw [if_neg hlt]
      refine congrArg some (List.ext_getElem (by simp [hx, hn]) fun p h1 h3 => ?_)
      have e := hp p (by omega)
      by_cases hc : (p : Int) < i ∨ j < (p : Int)
      · rw [if_pos hc] at e
        rw [List.getElem_reverse, get_getD, e, get_getD, hn]
      · rw [if_neg hc] at e
        rw [List.getElem_reverse, get_getD, e, get_getD, hn]
        congr 1
        omega
theorem reverse_tells (l : List Int) (hmax : l.length ≤ 9223372036854775807) (k : Nat) (hk : l.length + 1 < k) : slices_Reverse_byte_byte.f k l = some l.reverse := by
  unfold slices_Reverse_byte_byte.f
  rw [show wrap64 ((l.length : Int) - 1) = (l.length : Int) - 1 by unfold wrap64; omega]
  exact reverse_loop l l.length rfl hmax l.length k l 0 _ rfl (by omega) (by omega) (by omega) (fun p hp => by rw [if_neg (by omega)]) (by omega) (by omega)

/-! ### bits.Put -/
theorem infoByte : (Try.prog.info? 5).map (fun i => (i.zero, i.size, i.bytes)) = some (some (.int .u8 0), 1, 1) := by kernel_rfl
def bits_Put.f (a0 : Int) (a1 : Int) (a2 : Bool) : Option (List Int) := some (putB a0 a1 a2)
set_option maxHeartbeats 8000000 in
set_option maxRecDepth 100000 in
theorem bits_Put.calls (a0 : Int) (a1 : Int) (a2 : Bool) (r : List Int) (w : World) (h : bits_Put.f a0 a1 a2 = some r) :
    Calls Try.prog 35 #[.int .u64 a0, .int .i64 a1, .bool a2] w fun e w' => ∃ v0_ : Value, e = .returned (v0_) ∧ Kd.R (Kd.int .u8) 5 w' w.heap.size (fun _ => True) v0_ r ∧ Below w.heap.size w w' := by
  have HB := Aside0.mk (Below.refl w.heap.size w)
  obtain rfl := Option.some.inj h
  clear h
  obtain ⟨n, hn⟩ : ∃ n : Nat, n = putN a1 := ⟨_, rfl⟩
  have hn8 : n ≤ 8 := by rw [hn]; exact putN_le _
  obtain ⟨ji4, hji4⟩ : ∃ j_ : Int, (mn a1 8) = j_ := ⟨_, rfl⟩
  have hji4_ : (if 8 < a1 then 8 else a1) = ji4 := hji4
  obtain ⟨ji5, hji5⟩ : ∃ j_ : Int, (mx 0 (ji4)) = j_ := ⟨_, rfl⟩
  have hji5_ : (if 0 < (ji4) then (ji4) else 0) = ji5 := hji5
  obtain rfl : (n : Int) = ji5 := by
    rw [← hji5_, ← hji4_, hn]; unfold putN; (repeat' split) <;> omega
  have HP : Aside0 (putB a0 a1 a2 = if a2 then (putL a0 n).reverse else putL a0 n) := ⟨by rw [hn]; rfl⟩
  clear hji4 hji5 hn
  go_enter Try.func35, Try.ntmps35
  go_wp2_with (first | ((with_reducible refine gate_dst (N := 12) rfl ?_); refine Kd.R_make (Kd.int .u8) _ 5 rfl (N := 12) rfl 22 _ _ rfl (n : Int) rfl rfl Try.underlying22 (.int .u8 0) 1 infoByte rfl (by decide) (by omega) 0 (ok := fun _ => True) (okp := fun _ => True) rfl (fun _ hk => hk) trivial (by omega) (by omega) (Below.refl _ _) (Nat.le_refl _) ?_; intro v108 w8 ho9 hb hg_ hnew_; clear hg_ hnew_; rw [Int.toNat_natCast, ← putK_zero a0] at ho9; have HO9 := Aside0.mk ho9; have HB8 := Aside0.mk hb; clear ho9 hb HB; obtain ⟨Ao, co, eo⟩ := Kd.R_slice HO9.out; rw [putK_length] at eo; subst eo))
  go_loopw [15] (fun v15 w' => ∃ k : Nat, k ≤ n ∧ v15 = .int .i64 k ∧ Aside0 (Kd.R (Kd.int .u8) 5 w' w.heap.size (fun _ => True) (.slice Ao n co) (putK a0 n k)) ∧ Aside0 (Below w.heap.size w w')) (fun v15 _ => n - (intOf v15).toNat)
  case atStart => exact ⟨0, Nat.zero_le _, rfl, ⟨by (with_reducible repeat (first | apply Kd.R_alloc | apply Kd.R_drewN | apply Kd.R_drew)); exact HO9.out⟩, ⟨by repeat (first | (with_reducible first | exact HB8.out | apply below_alloc | apply pw_below_drewN | apply below_drew1) | exact HB8.out)⟩⟩
  case round =>
    clear HO9 HB8
    obtain ⟨k, hk, rfl, HO, HB⟩ := hrel
    by_cases hlt : k < n
    · obtain ⟨go17, co17, eo17, gb17, gl17, cl17, HG17⟩ := Kd.R_form HO.out (by rw [putK_length]; omega)
      injection eo17 with ea_ en_ ec_
      subst ea_ ec_
      clear en_
      have GB17 := Aside0.mk gb17
      have GG17 := Aside0.mk HG17
      clear gb17 gl17 HG17
      obtain ⟨hx17_0, hf17_0⟩ := Kd.R_celln 0 HO.out (k : Int) (by omega) (by omega)
      have HP18 := Kd.R_putg HO.out (k : Int) (a0 / 2 ^ (8 * k) % 256)
      rw [Int.toNat_natCast] at hx17_0 hf17_0 HP18
      rw [putK_succ] at HP18
      have HP18' := Aside0.mk HP18
      clear HP18
      go_wp2
      go_roundw
      case rel => exact ⟨k + 1, by omega, by go_num, ⟨HP18'.out.1⟩, ⟨below_set HB.out GB17.out⟩⟩
      case measure => simp [intOf]; omega
    · rw [putK_full a0 n k (by omega)] at HO
      cases a2
      · have HPf : Aside0 (putB a0 a1 false = putL a0 n) := ⟨by rw [HP.out]; rfl⟩
        clear HP
        go_wp2
        go_ret
        exact ⟨_, rfl, by rw [HPf.out]; exact HO.out, HB.out⟩
      · have HPf : Aside0 (putB a0 a1 true = (putL a0 n).reverse) := ⟨by rw [HP.out]; rfl⟩
        clear HP
        have hlen := putL_length a0 n
        have HLEN := Aside0.mk hlen
        clear hlen
        go_wp2_with fail
        with_reducible refine (slices_Reverse_byte_byte.calls (n + 2) (fun k_ => some k_ = (.slice Ao n co : Value).ownBlock) (.slice Ao n co) (putL a0 n) (putL a0 n).reverse w _ HB.out (Kd.R_tight rfl HO.out) (reverse_tells _ (by rw [HLEN.out]; omega) _ (by rw [HLEN.out]; omega))).mono ?_
        rintro e w22 ⟨rfl, hy0, hb, hkp⟩
        have HO_7 := Aside0.mk (Kd.R_reok rfl hy0 (fun k_ e_ => HO.out.1 k_ e_))
        have HB7 := Aside0.mk hb
        clear hb hkp hy0 HO HB
        go_wp2
        go_ret
        exact ⟨_, rfl, by rw [HPf.out]; exact HO_7.out, HB7.out⟩
end Go.Proofs.Ytbidnolopbjlaaa.Q
