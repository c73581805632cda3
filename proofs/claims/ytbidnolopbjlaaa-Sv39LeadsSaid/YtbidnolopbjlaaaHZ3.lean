import Derived.Test.YtbidnolopbjlaaaHQx4
import Derived.Test.YtbidnolopbjlaaaPm
import Derived.Test.YtbidnolopbjlaaaHZ1
import Derived.Test.YtbidnolopbjlaaaHEtrc
import Derived.Test.YtbidnolopbjlaaaHQx1
import Derived.Test.YtbidnolopbjlaaaHZ2
import Derived.Test.YtbidnolopbjlaaaHQx6
section
/- The reference's Field (layer 1). -/
set_option linter.unusedVariables false
namespace Go.Proofs.Ytbidnolopbjlaaa.Q
open Go.RowKit Go.Proofs.YtbidnolopbjlaaaW.PrintWords Go.Proofs.YtbidnolopbjlaaaW.PrintLast Go.Proofs.YtbidnolopbjlaaaW.PrintMore Go.Proofs.Ytbidnolopbjlaaa.L
theorem reffield_tells (k : Nat) (x h l : Int) (hx : u64B x) (hh : -9223372036854775808 ≤ h ∧ h ≤ 9223372036854775807) (hl : -9223372036854775808 ≤ l ∧ l ≤ 9223372036854775807) : drawbridgeref01_Field.f (k + 1) x h l = some (fieldZ x h l) := by
  unfold drawbridgeref01_Field.f fieldZ
  simp only [drawbridgeref01_Field.j0]
  by_cases h1 : l < 0
  · rw [if_pos h1, if_pos trivial, if_pos (.inl h1)]
  · by_cases h2 : l > h
    · rw [if_neg h1, if_pos h2, if_pos trivial, if_pos (.inr (.inl h2))]
    · by_cases h3 : h > 63
      · rw [if_neg h1, if_neg h2, decide_eq_true h3, if_pos rfl, if_pos (.inr (.inr (by omega)))]
      · obtain ⟨L, rfl⟩ := Int.eq_ofNat_of_zero_le (show 0 ≤ l by omega)
        obtain ⟨H, rfl⟩ := Int.eq_ofNat_of_zero_le (show 0 ≤ h by omega)
        have hx0 := hx.1
        have hx1 := hx.2
        have e2 : ((H : Int) - L + 1) = ((H - L + 1 : Nat) : Int) := by omega
        rw [if_neg (show ¬ ((L : Int) < 0 ∨ (H : Int) < L ∨ 63 < (H : Int)) by omega), if_neg h1, if_neg h2, decide_eq_false h3, if_neg (by decide), u64_i64 (x := (L : Int)) (by omega) (by omega), w64 (x := (H : Int) - L) (by omega) (by omega), w64 (x := (H : Int) - L + 1) (by omega) (by omega), if_pos (show (0 : Int) ≤ (L : Int) by omega), u64_i64 (x := (H : Int) - L + 1) (by omega) (by omega), e2, shr_u64 _ _ (by omega), Int.toNat_natCast, Int.toNat_natCast]
        have hq := two_pow_pos L
        have hd0 : 0 ≤ x / 2 ^ L := Int.ediv_nonneg hx0 (Int.le_of_lt hq)
        by_cases h4 : ((H - L + 1 : Nat) : Int) = 64
        · rw [if_pos h4]
          have h5 : H - L + 1 = 64 := by omega
          have h6 : L = 0 := by omega
          subst h6
          rw [h5]
          congr 1
          have : x / 2 ^ 0 = x := by simp
          rw [this]
          have e64 : (2 : Int) ^ 64 = 18446744073709551616 := by decide
          rw [e64]
          omega
        · rw [if_neg h4, if_pos (show (0 : Int) ≤ ((H - L + 1 : Nat) : Int) by omega), shl_u64 _ _ (by omega), Int.one_mul]
          have h7 := two_pow_lt64 (n := H - L + 1) (by omega)
          have h8 := two_pow_pos (H - L + 1)
          rw [Int.emod_eq_of_lt (a := (2 : Int) ^ (H - L + 1)) (by omega) (by omega), if_neg (by omega), Int.tmod_eq_emod_of_nonneg hd0]
end Go.Proofs.Ytbidnolopbjlaaa.Q
end
section
/- sv39.Translate, as those who call it have it. -/
namespace Go.Proofs.Ytbidnolopbjlaaa.Q
open Go.RowKit Go.Proofs.YtbidnolopbjlaaaW.PrintWords Go.Proofs.YtbidnolopbjlaaaW.PrintLast Go.Proofs.YtbidnolopbjlaaaW.PrintMore Go.Proofs.Ytbidnolopbjlaaa.L
attribute [local go_sem] Instr.field part asAgg lt_step max2_int min2_int max_two min_two max_three min_three max_four min_four lt_0_1 lt_0_2 lt_1_2 lt_0_3 lt_1_3 lt_2_3 lt_0_4 lt_1_4 lt_2_4 lt_3_4 lt_0_5 lt_1_5 lt_2_5 lt_3_5 lt_4_5 lt_0_6 lt_1_6 lt_2_6 lt_3_6 lt_4_6 lt_5_6 lt_0_7 lt_1_7 lt_2_7 lt_3_7 lt_4_7 lt_5_7 lt_6_7 lt_0_8 lt_1_8 lt_2_8 lt_3_8 lt_4_8 lt_5_8 lt_6_8 lt_7_8
set_option linter.unusedVariables false
set_option linter.unusedSimpArgs false
def transZ (l : List Int) (satp status priv at_ kind : Int) : Int × List Int × Int × Bool :=
  if 3 ≤ priv ∨ satp / 1152921504606846976 ≠ 8 then (at_, l, 0, true) else walkZ l status priv at_ kind 3 (IntKind.u64.wrap (fieldZ satp 43 0 * 4096))
theorem walkZ_mem (l : List Int) (status priv at_ kind : Int) : ∀ (n : Nat) (T : Int), (walkZ l status priv at_ kind n T).2.1 = l ∨ ∃ p e, (walkZ l status priv at_ kind n T).2.1 = writeL l p 8 e := by
  intro n
  induction n with
  | zero => intro T; exact .inl rfl
  | succ n ih =>
    intro T
    rw [walkZ]
    split
    · split
      · split
        · exact .inl rfl
        · split
          · split
            · exact .inl rfl
            · exact ih _
          · split
            · split
              · exact .inl rfl
              · exact .inr ⟨_, _, rfl⟩
            · exact .inl rfl
      · exact .inl rfl
    · exact .inl rfl
theorem transZ_mem (l : List Int) (satp status priv at_ kind : Int) : (transZ l satp status priv at_ kind).2.1 = l ∨ ∃ p e, (transZ l satp status priv at_ kind).2.1 = writeL l p 8 e := by
  unfold transZ; split
  · exact .inl rfl
  · exact walkZ_mem l status priv at_ kind 3 _
theorem transZ_byte (l : List Int) (satp status priv at_ kind : Int) (hl : ∀ z ∈ l, byte z) : ∀ z ∈ (transZ l satp status priv at_ kind).2.1, byte z := by
  rcases transZ_mem l satp status priv at_ kind with h | ⟨p, e, h⟩
  · rw [h]; exact hl
  · rw [h]; exact writeL_byte l p 8 e hl
theorem transZ_length (l : List Int) (satp status priv at_ kind : Int) : (transZ l satp status priv at_ kind).2.1.length = l.length := by
  rcases transZ_mem l satp status priv at_ kind with h | ⟨p, e, h⟩
  · rw [h]
  · rw [h]; exact writeL_length l p 8 e
section
variable (A : Option Addr) (c : Nat) (l : List Int) (satp status priv at_ kind : Int) (w : World) (P : Nat → Prop)
set_option maxHeartbeats 1600000 in
set_option maxRecDepth 100000 in
theorem trans_priv (hF : Kd.F (Kd.int .u8) w P A l.length l) (hc : l.length ≤ c) (hp : decide ((3 : Int) ≤ priv) = true) :
    Calls Try.prog 9 #[.agg #[.slice A l.length c], .int .u64 satp, .int .u64 status, .int .i64 priv, .int .u64 at_, .int .i64 kind] w (TransPost P w (at_, l, 0, true)) := by
  have HB := Aside0.mk (Below.refl w.heap.size w)
  have r := Aside0.mk (Kd.F_bound hF)
  have rc := Aside0.mk hc
  have hu := Try.underlying24
  clear hF hc
  go_enter Try.func9, Try.ntmps9
  go_wp2
  go_step3
  (go_wp2; (first | go_region | skip); (all_goals go_wp2))
  all_goals refine bodyPost_ret (v := .tuple #[.int .u64 at_, .agg #[.slice A l.length c], .int .i64 0, .bool true]) (by simp [results, Try.results9, go_sem] <;> first | assumption | omega | (symm; assumption)) rfl ?_
  all_goals exact ⟨A, c, rfl, rc.out, (by refine F_res (ok := ?_) ?_ ?_; rotate_left; (repeat (with_reducible first | exact r.out | apply Kd.F_drew | apply Kd.F_drewN | apply Kd.F_alloc | refine Kd.F_far ?_ ?_ _)); all_goals (intro j_ hj_; (try dsimp only at hj_); (try dsimp only); (try simp only [sz_alloc, sz_drew, sz_drewN, sz_set] at hj_); first | omega | exact .inl hj_.1 | exact .inl hj_ | exact .inr (by omega) | (rcases hj_ with hj_ | hj_; exact .inl hj_.1; exact .inr (by omega)) | (rcases hj_ with hj_ | hj_; exact .inl hj_; exact .inr (by omega)) | (rcases hj_.1 with hk_ | hk_; (first | exact .inl hk_.1 | exact .inl hk_); exact .inr (by omega)))), (by repeat (first | (with_reducible first | exact HB.out | exact Below.refl _ _ | apply below_alloc | apply pw_below_drewN | apply below_drew | refine below_set ?_ (by omega)) | exact HB.out))⟩
set_option maxHeartbeats 1600000 in
set_option maxRecDepth 100000 in
theorem trans_mode (hF : Kd.F (Kd.int .u8) w P A l.length l) (hc : l.length ≤ c) (hp : decide ((3 : Int) ≤ priv) = false) (hm : (satp / 1152921504606846976 != 8) = true) :
    Calls Try.prog 9 #[.agg #[.slice A l.length c], .int .u64 satp, .int .u64 status, .int .i64 priv, .int .u64 at_, .int .i64 kind] w (TransPost P w (at_, l, 0, true)) := by
  have HB := Aside0.mk (Below.refl w.heap.size w)
  have r := Aside0.mk (Kd.F_bound hF)
  have rc := Aside0.mk hc
  have hu := Try.underlying24
  clear hF hc
  go_enter Try.func9, Try.ntmps9
  go_wp2
  go_step3
  (go_wp2; (first | go_region | skip); (all_goals go_wp2))
  all_goals refine bodyPost_ret (v := .tuple #[.int .u64 at_, .agg #[.slice A l.length c], .int .i64 0, .bool true]) (by simp [results, Try.results9, go_sem] <;> first | assumption | omega | (symm; assumption)) rfl ?_
  all_goals exact ⟨A, c, rfl, rc.out, (by refine F_res (ok := ?_) ?_ ?_; rotate_left; (repeat (with_reducible first | exact r.out | apply Kd.F_drew | apply Kd.F_drewN | apply Kd.F_alloc | refine Kd.F_far ?_ ?_ _)); all_goals (intro j_ hj_; (try dsimp only at hj_); (try dsimp only); (try simp only [sz_alloc, sz_drew, sz_drewN, sz_set] at hj_); first | omega | exact .inl hj_.1 | exact .inl hj_ | exact .inr (by omega) | (rcases hj_ with hj_ | hj_; exact .inl hj_.1; exact .inr (by omega)) | (rcases hj_ with hj_ | hj_; exact .inl hj_; exact .inr (by omega)) | (rcases hj_.1 with hk_ | hk_; (first | exact .inl hk_.1 | exact .inl hk_); exact .inr (by omega)))), (by repeat (first | (with_reducible first | exact HB.out | exact Below.refl _ _ | apply below_alloc | apply pw_below_drewN | apply below_drew | refine below_set ?_ (by omega)) | exact HB.out))⟩
theorem trans_runs (hF : Kd.F (Kd.int .u8) w P A l.length l) (hc : l.length ≤ c) (hs : u64B satp) (hst : u64B status) (hat : u64B at_) (hL : (l.length : Int) ≤ 70000) (hb : ∀ z ∈ l, byte z) :
    Calls Try.prog 9 #[.agg #[.slice A l.length c], .int .u64 satp, .int .u64 status, .int .i64 priv, .int .u64 at_, .int .i64 kind] w (TransPost P w (transZ l satp status priv at_ kind)) := by
  unfold transZ
  by_cases hp : 3 ≤ priv
  · rw [if_pos (.inl hp)]
    exact trans_priv A c l satp status priv at_ kind w P hF hc (decide_eq_true hp)
  · by_cases hm : satp / 1152921504606846976 ≠ 8
    · rw [if_pos (.inr hm)]
      exact trans_mode A c l satp status priv at_ kind w P hF hc (decide_eq_false hp) (bne_iff_ne.2 hm)
    · rw [if_neg (fun h => Or.elim h hp hm)]
      exact trans_core A c l satp status priv at_ kind w P _ rfl hF hc hs hst hat hL hb (decide_eq_false hp) (bne_eq_false_iff_eq.2 (Classical.not_not.1 hm))
end
def sv39_Translate.f (l : List Int) (satp status priv at_ kind : Int) : Option (Int × List Int × Int × Bool) := if u64B satp ∧ u64B status ∧ u64B at_ ∧ (l.length : Int) ≤ 70000 ∧ (∀ z ∈ l, byte z) then some (transZ l satp status priv at_ kind) else none
theorem sv39_Translate.calls (P0_0_ : Nat → Prop) (A0_0 : Option Addr) (c0_0 : Nat) (l0_0 : List Int) (a1 : Int) (a2 : Int) (a3 : Int) (a4 : Int) (a5 : Int) (r1 : Int) (r2 : List Int) (r3 : Int) (r4 : Bool) (w : World) (hs0_0 : Kd.V (Kd.int .u8) 5 w w.heap.size (fun k_ => P0_0_ k_) (.slice A0_0 l0_0.length c0_0) l0_0) (h : sv39_Translate.f l0_0 a1 a2 a3 a4 a5 = some (r1, r2, r3, r4)) :
    Calls Try.prog 9 #[.agg #[.slice A0_0 l0_0.length c0_0], .int .u64 a1, .int .u64 a2, .int .i64 a3, .int .u64 a4, .int .i64 a5] w fun e w' => ∃ v1_ : Value, e = .returned (.tuple #[.int .u64 r1, .agg #[v1_], .int .i64 r3, .bool r4]) ∧ Kd.V (Kd.int .u8) 5 w' w.heap.size (fun k_ => (P0_0_ k_ ∨ w.heap.size ≤ k_)) v1_ r2 ∧ Below w.heap.size w w' := by
  obtain ⟨_, hc, hF⟩ := V_F hs0_0
  unfold sv39_Translate.f at h
  split at h
  case isFalse => cases h
  case isTrue hh =>
  obtain ⟨h1, h2, h3, h4, h5⟩ := hh
  injection h with h
  have := trans_runs A0_0 c0_0 l0_0 a1 a2 a3 a4 a5 w P0_0_ hF hc h1 h2 h3 h4 h5
  rw [h] at this
  refine this.mono ?_
  rintro e w' ⟨A, c, he, hc', hF', hB⟩
  exact ⟨_, he, ⟨A, c, rfl, hc', hF'⟩, hB⟩
end Go.Proofs.Ytbidnolopbjlaaa.Q
end
section
/- What the reference's memory comes to (layer 7). -/
set_option linter.unusedVariables false
namespace Go.Proofs.Ytbidnolopbjlaaa.Q
open Go.RowKit Go.Proofs.YtbidnolopbjlaaaW.PrintWords Go.Proofs.YtbidnolopbjlaaaW.PrintLast Go.Proofs.YtbidnolopbjlaaaW.PrintMore Go.Proofs.Ytbidnolopbjlaaa.L
theorem same07_self (l : List Int) : drawbridgeref07_Same.f l l = some true := by unfold drawbridgeref07_Same.f; rw [beq_self_eq_true]
section
variable (l : List Int) (a k : Int) (ha : u64B a) (hk : i64B k) (hl : (l.length : Int) ≤ 70000)
include ha hk hl
theorem refInside_is : drawbridgeref07_Inside.f l a k = some (placeZ l.length a k).2 := by
  obtain ⟨a0, a1⟩ := ha
  obtain ⟨k0, k1⟩ := hk
  unfold drawbridgeref07_Inside.f
  rcases placeZ_cases l.length a k with ⟨h1, h2, h3, e⟩ | ⟨h, e⟩
  · have w1 : IntKind.u64.wrap (a - 2147483648) = a - 2147483648 := by rw [IntKind.wrap_u64]; omega
    have w2 : IntKind.u64.wrap (l.length : Int) = l.length := by rw [IntKind.wrap_u64]; omega
    have w3 : IntKind.u64.wrap k = k := by rw [IntKind.wrap_u64]; omega
    have w4 : IntKind.u64.wrap ((l.length : Int) - (a - 2147483648)) = l.length - (a - 2147483648) := by rw [IntKind.wrap_u64]; omega
    rw [e, if_pos (by omega), if_pos (by omega), w1, w2, w3, w4, if_pos (by omega), decide_eq_true (by omega)]
  · rw [e]
    by_cases h2 : k ≥ 0
    · by_cases h1 : a ≥ 2147483648
      · have w1 : IntKind.u64.wrap (a - 2147483648) = a - 2147483648 := by rw [IntKind.wrap_u64]; omega
        have w2 : IntKind.u64.wrap (l.length : Int) = l.length := by rw [IntKind.wrap_u64]; omega
        have w3 : IntKind.u64.wrap k = k := by rw [IntKind.wrap_u64]; omega
        rw [if_pos h2, if_pos h1, w1, w2, w3]
        by_cases h3 : a - 2147483648 ≤ (l.length : Int)
        · have w4 : IntKind.u64.wrap ((l.length : Int) - (a - 2147483648)) = l.length - (a - 2147483648) := by rw [IntKind.wrap_u64]; omega
          rw [if_pos h3, w4, decide_eq_false (by omega)]
        · rw [if_neg h3]
      · rw [if_pos h2, if_neg h1]
    · rw [if_neg h2]
theorem refBytes_is : drawbridgeref07_Bytes.f l a k = some (bytesZ l a k) := by
  unfold drawbridgeref07_Bytes.f bytesZ
  rw [refInside_is l a k ha hk hl, Option.bind_some]
  obtain ⟨a0, a1⟩ := ha
  obtain ⟨k0, k1⟩ := hk
  rcases placeZ_cases l.length a k with ⟨h1, h2, h3, e⟩ | ⟨_, e⟩
  · rw [e]
    have w1 : IntKind.u64.wrap (a - 2147483648) = a - 2147483648 := by rw [IntKind.wrap_u64]; omega
    have w2 : wrap64 (a - 2147483648) = a - 2147483648 := w64 (by omega) (by omega)
    have e1 : wrap64 (a - 2147483648 + k) = a - 2147483648 + k := w64 (by omega) (by omega)
    simp only [if_true, w1, w2, e1, Option.bind_some]
    rw [if_pos (by omega), if_pos (by omega), if_pos (by omega), if_pos (by rw [List.length_drop, List.length_take]; simp; omega)]
    rfl
  · rw [e]; rfl
theorem refRead_is (hb : ∀ z ∈ l, byte z) : drawbridgeref07_Read.f l a k = some (readZ l a k) := by
  have hby := cutL_byte l a k hb
  unfold drawbridgeref07_Read.f readZ
  rw [refBytes_is l a k ha hk hl, Option.bind_some, known_is, Option.bind_some]
  unfold bytesZ
  cases h : (placeZ l.length a k).2
  · simp
  · cases hk : knownZ k
    · simp
    · simp only [if_true, and_self]
      unfold drawbridgeref01_Get.f; rw [if_pos hby]; rfl
end
theorem refFill_is (l : List Int) (a : Int) (b : List Int) (ha : u64B a) (hb : (b.length : Int) ≤ 9223372036854775807) (hl : (l.length : Int) ≤ 70000) : drawbridgeref07_Fill.f l a b = some (fillL l a b, (placeZ l.length a b.length).2) := by
  unfold drawbridgeref07_Fill.f fillL
  rw [refInside_is l a b.length ha ⟨by omega, hb⟩ hl, Option.bind_some]
  obtain ⟨a0, a1⟩ := ha
  rcases placeZ_cases l.length a b.length with ⟨h1, h2, h3, e⟩ | ⟨_, e⟩
  · rw [e]
    have w1 : IntKind.u64.wrap (a - 2147483648) = a - 2147483648 := by rw [IntKind.wrap_u64]; omega
    have w2 : wrap64 (a - 2147483648) = a - 2147483648 := w64 (by omega) (by omega)
    have e1 : wrap64 (a - 2147483648 + b.length) = a - 2147483648 + b.length := w64 (by omega) (by omega)
    simp only [if_true, w1, w2, e1, Option.bind_some]
    rw [if_pos (by omega), if_pos (by omega), if_pos (by simp; omega), if_pos (by simp; omega), if_pos (by omega), if_pos (by omega), if_pos (by simp; omega)]
    unfold splice
    rw [List.nil_append, List.append_assoc, show (a - 2147483648 + (b.length : Int)).toNat = (a - 2147483648).toNat + b.length by omega]
  · rw [e]; rfl
theorem refWrite_is (l : List Int) (a s x : Int) (ha : u64B a) (hs : i64B s) (hl : (l.length : Int) ≤ 70000) : drawbridgeref07_Write.f l a s x = some (writeL l a s x, writeK l a s x) := by
  unfold drawbridgeref07_Write.f writeL writeK
  have hp := putB_small x s false
  rw [if_pos (show -9223372036854775808 ≤ s ∧ s ≤ 9223372036854775807 from hs)]
  cases knownZ s
  · simp
  · simp only [if_true, Bool.true_and]
    exact refFill_is l a _ ha (by omega) hl
theorem fill_is (l : List Int) (a : Int) (b : List Int) (ha : u64B a) (hb : (b.length : Int) ≤ 9223372036854775807) (hl : (l.length : Int) ≤ 70000) : ram_Fill.f l a b = some (fillL l a b, (placeZ l.length a b.length).2) := by
  unfold ram_Fill.f; rw [if_pos ⟨ha, by omega, by omega⟩]
theorem write_is (l : List Int) (a s x : Int) (ha : u64B a) (hl : (l.length : Int) ≤ 70000) : ram_Write.f l a s x = some (writeL l a s x, writeK l a s x) := by
  unfold ram_Write.f; rw [if_pos ⟨ha, by omega⟩]
end Go.Proofs.Ytbidnolopbjlaaa.Q
end
section
/- What must come at any rate, layer 8. -/
namespace Go.Proofs.Ytbidnolopbjlaaa.Q
open Go.RowKit Go.Proofs.YtbidnolopbjlaaaW.PrintWords Go.Proofs.YtbidnolopbjlaaaW.PrintLast Go.Proofs.YtbidnolopbjlaaaW.PrintMore Go.Proofs.Ytbidnolopbjlaaa.L
attribute [local go_sem] Instr.field part asAgg lt_step max2_int min2_int max_two min_two max_three min_three max_four min_four lt_0_1 lt_0_2 lt_1_2 lt_0_3 lt_1_3 lt_2_3 lt_0_4 lt_1_4 lt_2_4 lt_3_4 lt_0_5 lt_1_5 lt_2_5 lt_3_5 lt_4_5 lt_0_6 lt_1_6 lt_2_6 lt_3_6 lt_4_6 lt_5_6 lt_0_7 lt_1_7 lt_2_7 lt_3_7 lt_4_7 lt_5_7 lt_6_7 lt_0_8 lt_1_8 lt_2_8 lt_3_8 lt_4_8 lt_5_8 lt_6_8 lt_7_8
set_option linter.unusedVariables false
set_option linter.unusedSimpArgs false
def drawbridgelaw08_heads.f : Option Bool := some true
def h8l1 : List Int := writeL (List.replicate 4096 0) 2147483648 8 536870927
def h8l2 : List Int := (transZ h8l1 9223372036855300096 0 1 291 2).2.1
theorem quad (r : Int × List Int × Int × Bool) (a c : Int) (d : Bool) (h1 : r.1 = a) (h2 : r.2.2 = (c, d)) : r = (a, r.2.1, c, d) := by
  obtain ⟨x, y, z, u⟩ := r
  injection h2 with h2 h3
  dsimp only at h1 h2 h3 ⊢
  rw [h1, h2, h3]
theorem h8a : transZ h8l1 9223372036855300096 0 1 291 2 = (2147483939, (transZ h8l1 9223372036855300096 0 1 291 2).2.1, 0, true) := quad _ _ _ _ (by decide +kernel) (by decide +kernel)
theorem h8b : ∃ x y, transZ h8l1 9223372036855300096 0 0 291 1 = (x, y, 13, false) := by
  have e2 : (transZ h8l1 9223372036855300096 0 0 291 1).2.2 = (13, false) := by decide +kernel
  exact ⟨_, _, quad _ _ _ _ rfl e2⟩
theorem h8c : transZ h8l1 9223372036855300096 0 3 291 0 = (291, h8l1, 0, true) := by unfold transZ; rw [if_pos (.inl (by decide))]
theorem h8bytes : ∀ z ∈ h8l1, byte z := writeL_byte _ _ _ _ (fun z hz => by rw [List.eq_of_mem_replicate hz]; decide)
theorem h8bytes2 : ∀ z ∈ h8l2, byte z := transZ_byte _ _ _ _ _ _ h8bytes
theorem h8len : h8l1.length = 4096 := by unfold h8l1; rw [writeL_length, List.length_replicate]
theorem h8len2 : (h8l2.length : Int) ≤ 70000 := by unfold h8l2; rw [transZ_length, h8len]; decide
theorem h8d : readZ h8l2 2147483648 8 = (536871119, true) := by decide +kernel
theorem u64_0 : u64B 0 := by decide
theorem u64_s : u64B 9223372036855300096 := by decide
theorem u64_b : u64B 2147483648 := by decide
theorem u64_a : u64B 291 := by decide
set_option maxHeartbeats 1600000 in
set_option maxRecDepth 100000 in
theorem heads_runs (w : World) : Calls Try.prog 8 #[] w fun e w' => e = .returned (.bool true) ∧ Below w.heap.size w w' := by
  have HB := Aside0.mk (Below.refl w.heap.size w)
  have hu := Try.underlying24
  obtain ⟨l0, hl0⟩ : ∃ l, List.replicate (4096 : Int).toNat (0 : Int) = l := ⟨_, rfl⟩
  have HL0 := Aside0.mk hl0
  obtain ⟨l1, hl1⟩ : ∃ l, h8l1 = l := ⟨_, rfl⟩
  obtain ⟨l2, hl2⟩ : ∃ l, h8l2 = l := ⟨_, rfl⟩
  obtain ⟨xb, yb, hb⟩ := h8b
  have hW : drawbridgeref07_Write.f l0 2147483648 8 536870927 = some (l1, true) := by
    have hz : l0 = List.replicate 4096 0 := hl0.symm
    have hlen : (l0.length : Int) ≤ 70000 := by rw [hz, List.length_replicate]; decide
    rw [refWrite_is l0 2147483648 8 536870927 u64_b ⟨by decide, by decide⟩ hlen, ← hl1, hz]
    have : writeK (List.replicate 4096 0) 2147483648 8 536870927 = true := by decide +kernel
    rw [this]; rfl
  have B1 : ∀ z ∈ l1, byte z := by rw [← hl1]; exact h8bytes
  have N1 : (l1.length : Int) ≤ 70000 := by rw [← hl1, h8len]; decide
  have hA : transZ l1 9223372036855300096 0 1 291 2 = (2147483939, l2, 0, true) := by rw [← hl1, ← hl2]; unfold h8l2; exact h8a
  have hB : transZ l1 9223372036855300096 0 0 291 1 = (xb, yb, 13, false) := by rw [← hl1]; exact hb
  have hC : transZ l1 9223372036855300096 0 3 291 0 = (291, l1, 0, true) := by rw [← hl1]; exact h8c
  have hD : drawbridgeref07_Read.f l2 2147483648 8 = some (536871119, true) := by
    rw [← hl2, refRead_is h8l2 2147483648 8 u64_b ⟨by decide, by decide⟩ h8len2 h8bytes2, h8d]
  have TA : ∀ A c W P, Kd.F (Kd.int .u8) W P A l1.length l1 → l1.length ≤ c → Calls Try.prog 9 #[.agg #[.slice A l1.length c], .int .u64 9223372036855300096, .int .u64 0, .int .i64 1, .int .u64 291, .int .i64 2] W fun e w' => ∃ A c, e = .returned (.tuple #[.int .u64 2147483939, .agg #[.slice A l2.length c], .int .i64 0, .bool true]) ∧ l2.length ≤ c ∧ Kd.F (Kd.int .u8) w' (fun j => P j ∨ W.heap.size ≤ j) A l2.length l2 ∧ Below W.heap.size W w' := by
    intro A c W P h1 h2; have h3 := trans_runs A c l1 9223372036855300096 0 1 291 2 W P h1 h2 u64_s u64_0 u64_a N1 B1; rw [hA] at h3; exact h3
  have TB : ∀ A c W P, Kd.F (Kd.int .u8) W P A l1.length l1 → l1.length ≤ c → Calls Try.prog 9 #[.agg #[.slice A l1.length c], .int .u64 9223372036855300096, .int .u64 0, .int .i64 0, .int .u64 291, .int .i64 1] W fun e w' => ∃ A c, e = .returned (.tuple #[.int .u64 xb, .agg #[.slice A yb.length c], .int .i64 13, .bool false]) ∧ yb.length ≤ c ∧ Kd.F (Kd.int .u8) w' (fun j => P j ∨ W.heap.size ≤ j) A yb.length yb ∧ Below W.heap.size W w' := by
    intro A c W P h1 h2; have h3 := trans_runs A c l1 9223372036855300096 0 0 291 1 W P h1 h2 u64_s u64_0 u64_a N1 B1; rw [hB] at h3; exact h3
  have TC : ∀ A c W P, Kd.F (Kd.int .u8) W P A l1.length l1 → l1.length ≤ c → Calls Try.prog 9 #[.agg #[.slice A l1.length c], .int .u64 9223372036855300096, .int .u64 0, .int .i64 3, .int .u64 291, .int .i64 0] W fun e w' => ∃ A c, e = .returned (.tuple #[.int .u64 291, .agg #[.slice A l1.length c], .int .i64 0, .bool true]) ∧ l1.length ≤ c ∧ Kd.F (Kd.int .u8) w' (fun j => P j ∨ W.heap.size ≤ j) A l1.length l1 ∧ Below W.heap.size W w' := by
    intro A c W P h1 h2; have h3 := trans_runs A c l1 9223372036855300096 0 3 291 0 W P h1 h2 u64_s u64_0 u64_a N1 B1; rw [hC] at h3; exact h3
  have TA' := Aside0.mk TA
  have TB' := Aside0.mk TB
  have TC' := Aside0.mk TC
  have HW := Aside0.mk hW
  have HD := Aside0.mk hD
  clear TA TB TC hA hB hC hD hW B1 N1 hl1 hl2 hl0 hb
  go_enter Try.func8, Try.ntmps8
  go_wp2_with (first | ((with_reducible refine gate_dst (N := 17) rfl ?_); refine Kd.R_make (Kd.int .u8) _ 5 rfl (N := 17) rfl 22 _ _ rfl (4096 : Int) rfl rfl Try.underlying22 (.int .u8 0) 1 infoB rfl (by decide) (by omega) 0 (ok := fun _ => True) (okp := fun _ => True) rfl (fun _ hk => hk) trivial (by omega) (by omega) (Below.refl _ _) (Nat.le_refl _) ?_; intro v_ w1 ho_ hb_ hg_ hnew_; clear hg_ hnew_; rw [HL0.out] at ho_; have HB_ : Aside0 (Below w.heap.size w w1) := Aside0.mk (below_step (by repeat (first | (with_reducible first | exact HB.out | exact Below.refl _ _ | apply below_alloc | apply pw_below_drewN | apply below_drew | refine below_set ?_ (by omega)) | exact HB.out)) hb_); have hzw1 := hb_.size; (try simp at hzw1); clear HB hb_; have HB := HB_; clear HB_; obtain ⟨A_r, c_r, ev_, hc_r, hf_r⟩ := R_Fl ho_; subst ev_; have rc := Aside0.mk hc_r; have r := Aside0.mk (Kd.F_bound hf_r); clear hc_r hf_r ho_))
  (go_at_call 15; (with_reducible refine (drawbridgeref07_Write.calls _ _ _ _ _ _ _ _ _ _ (Kd.V_mk rc.out (by (repeat (with_reducible first | exact r.out | apply Kd.F_drew | apply Kd.F_drewN | apply Kd.F_alloc | refine Kd.F_far ?_ ?_ _)); all_goals (intro j_ hj_; (try dsimp only at hj_); (try dsimp only); (try simp only [sz_alloc, sz_drew, sz_drewN, sz_set] at hj_); omega))) HW.out).mono ?_); rintro e_ w2 ⟨v_s, rfl, ⟨A_s, c_s, rfl, hc_s, hr_s⟩, hb_⟩; have HB_ : Aside0 (Below w.heap.size w w2) := Aside0.mk (below_step (by repeat (first | (with_reducible first | exact HB.out | exact Below.refl _ _ | apply below_alloc | apply pw_below_drewN | apply below_drew | refine below_set ?_ (by omega)) | exact HB.out)) hb_); have hzw2 := hb_.size; (try simp at hzw2); clear r rc; have or_ := Aside0.mk (box_below hb_ (by repeat (with_reducible first | exact nb_1 w1 _ | apply ext_drew | apply ext_drewN | apply ext_alloc | refine blk_far ?_ (by show _ ≠ _; dsimp only; omega) _))); (try clear or orc orf orl); have or := or_; clear or_; obtain ⟨orc, orf, orl⟩ := cells_of or.out; clear HB hb_; have HB := HB_; clear HB_; have sc := Aside0.mk hc_s; have s := Aside0.mk (Kd.F_bound hr_s); clear hc_s hr_s; skip)
  go_wp2_with fail
  (have s_ := Aside0.mk (Kd.F_far (p := ⟨w1.heap.size, 0, none⟩) s.out (fun j_ hj_ => by (try dsimp only at hj_); (try dsimp only); (try simp only [sz_alloc, sz_drew, sz_drewN, sz_set] at hj_); omega) (.slice A_s l1.length c_s)); clear s; have s := s_; clear s_; have or_ := Aside0.mk (blk_put or.out 0 (.slice A_s l1.length c_s) (cs' := #[.slice A_s l1.length c_s]) rfl); clear or orc orf orl; have or := or_; clear or_; obtain ⟨orc, orf, orl⟩ := cells_of or.out)
  (go_at_call 9; (with_reducible refine (TA'.out _ _ _ _ (by (repeat (with_reducible first | exact s.out | apply Kd.F_drew | apply Kd.F_drewN | apply Kd.F_alloc | refine Kd.F_far ?_ ?_ _)); all_goals (intro j_ hj_; (try dsimp only at hj_); (try dsimp only); (try simp only [sz_alloc, sz_drew, sz_drewN, sz_set] at hj_); omega)) sc.out).mono ?_); rintro e_ w3 ⟨A_p, c_p, rfl, hc_p, hr_p, hb_⟩; have HB_ : Aside0 (Below w.heap.size w w3) := Aside0.mk (below_step (by repeat (first | (with_reducible first | exact HB.out | exact Below.refl _ _ | apply below_alloc | apply pw_below_drewN | apply below_drew | refine below_set ?_ (by omega)) | exact HB.out)) hb_); have hzw3 := hb_.size; (try simp at hzw3); have or_ := Aside0.mk (box_below hb_ (by repeat (with_reducible first | exact or.out | apply ext_drew | apply ext_drewN | apply ext_alloc | refine blk_far ?_ (by show _ ≠ _; dsimp only; omega) _))); have s_ := Aside0.mk (Kd.F_below (by (repeat (with_reducible first | exact s.out | apply Kd.F_drew | apply Kd.F_drewN | apply Kd.F_alloc | refine Kd.F_far ?_ ?_ _)); all_goals (intro j_ hj_; (try dsimp only at hj_); (try dsimp only); (try simp only [sz_alloc, sz_drew, sz_drewN, sz_set] at hj_); omega)) hb_); clear s; have s := s_; clear s_; (try clear or orc orf orl); have or := or_; clear or_; obtain ⟨orc, orf, orl⟩ := cells_of or.out; clear HB hb_; have HB := HB_; clear HB_; have pc := Aside0.mk hc_p; have p := Aside0.mk (Kd.F_bound hr_p); clear hc_p hr_p; skip)
  go_wp2_with fail
  (go_at_call 9; (with_reducible refine (TB'.out _ _ _ _ (by (repeat (with_reducible first | exact s.out | apply Kd.F_drew | apply Kd.F_drewN | apply Kd.F_alloc | refine Kd.F_far ?_ ?_ _)); all_goals (intro j_ hj_; (try dsimp only at hj_); (try dsimp only); (try simp only [sz_alloc, sz_drew, sz_drewN, sz_set] at hj_); omega)) sc.out).mono ?_); rintro e_ w4 ⟨A_q, c_q, rfl, hc_q, hr_q, hb_⟩; have HB_ : Aside0 (Below w.heap.size w w4) := Aside0.mk (below_step (by repeat (first | (with_reducible first | exact HB.out | exact Below.refl _ _ | apply below_alloc | apply pw_below_drewN | apply below_drew | refine below_set ?_ (by omega)) | exact HB.out)) hb_); have hzw4 := hb_.size; (try simp at hzw4); have or_ := Aside0.mk (box_below hb_ (by repeat (with_reducible first | exact or.out | apply ext_drew | apply ext_drewN | apply ext_alloc | refine blk_far ?_ (by show _ ≠ _; dsimp only; omega) _))); have op_ := Aside0.mk (box_below hb_ (by repeat (with_reducible first | exact nb_1 w3 _ | apply ext_drew | apply ext_drewN | apply ext_alloc | refine blk_far ?_ (by show _ ≠ _; dsimp only; omega) _))); have s_ := Aside0.mk (Kd.F_below (by (repeat (with_reducible first | exact s.out | apply Kd.F_drew | apply Kd.F_drewN | apply Kd.F_alloc | refine Kd.F_far ?_ ?_ _)); all_goals (intro j_ hj_; (try dsimp only at hj_); (try dsimp only); (try simp only [sz_alloc, sz_drew, sz_drewN, sz_set] at hj_); omega)) hb_); clear s; have s := s_; clear s_; have p_ := Aside0.mk (Kd.F_below (by (repeat (with_reducible first | exact p.out | apply Kd.F_drew | apply Kd.F_drewN | apply Kd.F_alloc | refine Kd.F_far ?_ ?_ _)); all_goals (intro j_ hj_; (try dsimp only at hj_); (try dsimp only); (try simp only [sz_alloc, sz_drew, sz_drewN, sz_set] at hj_); omega)) hb_); clear p; have p := p_; clear p_; (try clear or orc orf orl); have or := or_; clear or_; obtain ⟨orc, orf, orl⟩ := cells_of or.out; (try clear op opc opf opl); have op := op_; clear op_; obtain ⟨opc, opf, opl⟩ := cells_of op.out; clear HB hb_; have HB := HB_; clear HB_; have qc := Aside0.mk hc_q; have q := Aside0.mk (Kd.F_bound hr_q); clear hc_q hr_q; skip)
  go_wp2_with fail
  (go_at_call 9; (with_reducible refine (TC'.out _ _ _ _ (by (repeat (with_reducible first | exact s.out | apply Kd.F_drew | apply Kd.F_drewN | apply Kd.F_alloc | refine Kd.F_far ?_ ?_ _)); all_goals (intro j_ hj_; (try dsimp only at hj_); (try dsimp only); (try simp only [sz_alloc, sz_drew, sz_drewN, sz_set] at hj_); omega)) sc.out).mono ?_); rintro e_ w5 ⟨A_t, c_t, rfl, hc_t, hr_t, hb_⟩; have HB_ : Aside0 (Below w.heap.size w w5) := Aside0.mk (below_step (by repeat (first | (with_reducible first | exact HB.out | exact Below.refl _ _ | apply below_alloc | apply pw_below_drewN | apply below_drew | refine below_set ?_ (by omega)) | exact HB.out)) hb_); have hzw5 := hb_.size; (try simp at hzw5); clear q qc; have or_ := Aside0.mk (box_below hb_ (by repeat (with_reducible first | exact or.out | apply ext_drew | apply ext_drewN | apply ext_alloc | refine blk_far ?_ (by show _ ≠ _; dsimp only; omega) _))); have op_ := Aside0.mk (box_below hb_ (by repeat (with_reducible first | exact op.out | apply ext_drew | apply ext_drewN | apply ext_alloc | refine blk_far ?_ (by show _ ≠ _; dsimp only; omega) _))); have oq_ := Aside0.mk (box_below hb_ (by repeat (with_reducible first | exact nb_1 w4 _ | apply ext_drew | apply ext_drewN | apply ext_alloc | refine blk_far ?_ (by show _ ≠ _; dsimp only; omega) _))); have s_ := Aside0.mk (Kd.F_below (by (repeat (with_reducible first | exact s.out | apply Kd.F_drew | apply Kd.F_drewN | apply Kd.F_alloc | refine Kd.F_far ?_ ?_ _)); all_goals (intro j_ hj_; (try dsimp only at hj_); (try dsimp only); (try simp only [sz_alloc, sz_drew, sz_drewN, sz_set] at hj_); omega)) hb_); clear s; have s := s_; clear s_; have p_ := Aside0.mk (Kd.F_below (by (repeat (with_reducible first | exact p.out | apply Kd.F_drew | apply Kd.F_drewN | apply Kd.F_alloc | refine Kd.F_far ?_ ?_ _)); all_goals (intro j_ hj_; (try dsimp only at hj_); (try dsimp only); (try simp only [sz_alloc, sz_drew, sz_drewN, sz_set] at hj_); omega)) hb_); clear p; have p := p_; clear p_; (try clear or orc orf orl); have or := or_; clear or_; obtain ⟨orc, orf, orl⟩ := cells_of or.out; (try clear op opc opf opl); have op := op_; clear op_; obtain ⟨opc, opf, opl⟩ := cells_of op.out; (try clear oq oqc oqf oql); have oq := oq_; clear oq_; obtain ⟨oqc, oqf, oql⟩ := cells_of oq.out; clear HB hb_; have HB := HB_; clear HB_; have tc := Aside0.mk hc_t; have t := Aside0.mk (Kd.F_bound hr_t); clear hc_t hr_t; skip)
  go_wp2_with fail
  (go_at_call 16; (with_reducible refine (drawbridgeref07_Read.calls _ _ _ _ _ _ _ _ (Kd.F_now (by (repeat (with_reducible first | exact p.out | apply Kd.F_drew | apply Kd.F_drewN | apply Kd.F_alloc | refine Kd.F_far ?_ ?_ _)); all_goals (intro j_ hj_; (try dsimp only at hj_); (try dsimp only); (try simp only [sz_alloc, sz_drew, sz_drewN, sz_set] at hj_); omega))) pc.out HD.out).mono ?_); rintro e_ w6 ⟨rfl, hb_⟩; have HB_ : Aside0 (Below w.heap.size w w6) := Aside0.mk (below_step (by repeat (first | (with_reducible first | exact HB.out | exact Below.refl _ _ | apply below_alloc | apply pw_below_drewN | apply below_drew | refine below_set ?_ (by omega)) | exact HB.out)) hb_); have hzw6 := hb_.size; (try simp at hzw6); have or_ := Aside0.mk (box_below hb_ (by repeat (with_reducible first | exact or.out | apply ext_drew | apply ext_drewN | apply ext_alloc | refine blk_far ?_ (by show _ ≠ _; dsimp only; omega) _))); have op_ := Aside0.mk (box_below hb_ (by repeat (with_reducible first | exact op.out | apply ext_drew | apply ext_drewN | apply ext_alloc | refine blk_far ?_ (by show _ ≠ _; dsimp only; omega) _))); have ot_ := Aside0.mk (box_below hb_ (by repeat (with_reducible first | exact nb_1 w5 _ | apply ext_drew | apply ext_drewN | apply ext_alloc | refine blk_far ?_ (by show _ ≠ _; dsimp only; omega) _))); have s_ := Aside0.mk (Kd.F_below (by (repeat (with_reducible first | exact s.out | apply Kd.F_drew | apply Kd.F_drewN | apply Kd.F_alloc | refine Kd.F_far ?_ ?_ _)); all_goals (intro j_ hj_; (try dsimp only at hj_); (try dsimp only); (try simp only [sz_alloc, sz_drew, sz_drewN, sz_set] at hj_); omega)) hb_); clear s; have s := s_; clear s_; have p_ := Aside0.mk (Kd.F_below (by (repeat (with_reducible first | exact p.out | apply Kd.F_drew | apply Kd.F_drewN | apply Kd.F_alloc | refine Kd.F_far ?_ ?_ _)); all_goals (intro j_ hj_; (try dsimp only at hj_); (try dsimp only); (try simp only [sz_alloc, sz_drew, sz_drewN, sz_set] at hj_); omega)) hb_); clear p; have p := p_; clear p_; (try clear or orc orf orl); have or := or_; clear or_; obtain ⟨orc, orf, orl⟩ := cells_of or.out; (try clear op opc opf opl); have op := op_; clear op_; obtain ⟨opc, opf, opl⟩ := cells_of op.out; (try clear ot otc otf otl); have ot := ot_; clear ot_; obtain ⟨otc, otf, otl⟩ := cells_of ot.out; clear HB hb_; have HB := HB_; clear HB_)
  go_wp2_with fail
  (go_at_call 12; (with_reducible refine (fault_s0_false _).mono ?_); rintro e_ w7 ⟨rfl, hb_⟩; have HB_ : Aside0 (Below w.heap.size w w7) := Aside0.mk (below_step (by repeat (first | (with_reducible first | exact HB.out | exact Below.refl _ _ | apply below_alloc | apply pw_below_drewN | apply below_drew | refine below_set ?_ (by omega)) | exact HB.out)) hb_); have hzw7 := hb_.size; (try simp at hzw7); clear HB hb_; have HB := HB_; clear HB_)
  go_wp2
  refine bodyPost_ret (v := .bool true) (by simp [results, Try.results8, go_sem] <;> first | assumption | omega | (symm; assumption)) rfl ?_
  exact ⟨rfl, (by repeat (first | (with_reducible first | exact HB.out | exact Below.refl _ _ | apply below_alloc | apply pw_below_drewN | apply below_drew | refine below_set ?_ (by omega)) | exact HB.out))⟩
theorem drawbridgelaw08_heads.calls (r : Bool) (w : World) (h : drawbridgelaw08_heads.f = some r) : Calls Try.prog 8 #[] w fun e w' => e = .returned (.bool r) ∧ Below w.heap.size w w' := by
  injection h with h; subst h; exact heads_runs w
end Go.Proofs.Ytbidnolopbjlaaa.Q
end
