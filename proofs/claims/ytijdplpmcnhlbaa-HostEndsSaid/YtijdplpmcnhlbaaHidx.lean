/- slices.IndexFunc over sockets, with place's test; place. -/
import Derived.Test.YtijdplpmcnhlbaaQx0
import Derived.Test.YtijdplpmcnhlbaaKt
import Derived.Test.YtijdplpmcnhlbaaHck0
import Derived.RegionTactic
import Derived.BigRegion
namespace Go.Proofs.Ytijdplpmcnhlbaa.Q
open Go.RowKit Go.Proofs.YtijdplpmcnhlbaaW.PrintWords Go.Proofs.YtijdplpmcnhlbaaW.PrintLast Go.Proofs.YtijdplpmcnhlbaaW.PrintMore Go.Proofs.Ytijdplpmcnhlbaa.L
attribute [local go_sem] Instr.field part asAgg lt_step max2_int min2_int max_two min_two max_three min_three max_four min_four lt_0_1 lt_0_2 lt_1_2 lt_0_3 lt_1_3 lt_2_3 lt_0_4 lt_1_4 lt_2_4 lt_3_4 lt_0_5 lt_1_5 lt_2_5 lt_3_5 lt_4_5 lt_0_6 lt_1_6 lt_2_6 lt_3_6 lt_4_6 lt_5_6 lt_0_7 lt_1_7 lt_2_7 lt_3_7 lt_4_7 lt_5_7 lt_6_7 lt_0_8 lt_1_8 lt_2_8 lt_3_8 lt_4_8 lt_5_8 lt_6_8 lt_7_8
set_option linter.unusedVariables false
set_option linter.unusedSimpArgs false
/-- The place of the first that has a number; -1. -/
def idxS (n : Int) : List S34 → Int → Int
  | [], _ => -1
  | x :: l, i => if (x.f0 == n) = true then i else idxS n l (i + 1)
theorem idxS_step {n : Int} {l : List S34} {k : Nat} (hk : k < l.length) : idxS n (l.drop k) k = if ((rd_T34 l (k : Int)).f0 == n) = true then (k : Int) else idxS n (l.drop (k + 1)) ((k + 1 : Nat) : Int) := by
  rw [List.drop_eq_getElem_cons hk, idxS]
  have : rd_T34 l (k : Int) = l[k] := by unfold rd_T34; rw [Int.toNat_natCast, List.getD_eq_getElem?_getD, List.getElem?_eq_getElem hk]; rfl
  rw [this, Int.natCast_succ]
theorem same_runs (g : Nat) (n : Int) (x0 x1 x2 x3 : Int) (x4 x5 : Bool) (w : World) (hg : w.heap[g]? = some (.cells #[.int .i64 n] 3 (0, 0))) :
    Calls Try.prog 34 #[.agg #[.int .i64 x0, .int .i64 x1, .int .u32 x2, .int .i64 x3, .bool x4, .bool x5], .pointer (some ⟨g, 0, none⟩)] w fun e w' => e = .returned (.bool (x0 == n)) ∧ Below w.heap.size w w' := by
  have HB := Aside0.mk (Below.refl w.heap.size w)
  obtain ⟨hc, hf, hl⟩ := cells_of hg
  have HG := Aside0.mk hg
  clear hg
  go_enter Try.func34, Try.ntmps34
  go_wp2
  go_ret
  exact ⟨rfl, (by repeat (first | (with_reducible first | exact HB.out | exact Below.refl _ _ | apply below_alloc | apply pw_below_drewN | apply below_drew | refine below_set ?_ (by omega)) | exact HB.out))⟩
set_option maxHeartbeats 1600000 in
set_option maxRecDepth 100000 in
theorem index_runs (g : Nat) (n : Int) (A0 : Option Addr) (c0 : Nat) (l0 : List S34) (w : World) (hr0 : Kd.C k34 w A0 l0.length l0) (hg : w.heap[g]? = some (.cells #[.int .i64 n] 3 (0, 0))) :
    Calls Try.prog 33 #[.slice A0 l0.length c0, .func (.func 34) #[] #[.pointer (some ⟨g, 0, none⟩)]] w fun e w' => e = .returned (.int .i64 (idxS n l0 0)) ∧ Below w.heap.size w w' := by
  have HB := Aside0.mk (Below.refl w.heap.size w)
  have HR0 := Aside0.mk hr0
  have hm : l0.length ≤ 9223372036854775807 := hr0.2.1
  have oa := Aside0.mk hg
  clear hg
  obtain ⟨R, hR⟩ : ∃ R, idxS n l0 0 = R := ⟨_, rfl⟩
  have HI : Aside0 (idxS n (l0.drop 0) ((0 : Nat) : Int) = R) := ⟨hR⟩
  rw [hR]
  clear hr0 hR
  go_enter Try.func33, Try.ntmps33
  go_wp2
  go_loopw [8] (fun i wx => ∃ k : Nat, k ≤ l0.length ∧ i = .int .i64 k ∧ Aside0 (idxS n (l0.drop k) (k : Int) = R) ∧ Aside0 (wx.heap[g]? = some (.cells #[.int .i64 n] 3 (0, 0))) ∧ Aside0 (Below w.heap.size w wx)) (fun i _ => l0.length - (intOf i).toNat)
  case atStart => exact ⟨0, Nat.zero_le _, rfl, HI, oa, HB⟩
  case round =>
    clear HI oa HB
    obtain ⟨k, hk, rfl, HK, oa, HB⟩ := hrel
    have hz := HB.out.size
    by_cases hlt : k < l0.length
    · obtain ⟨ad, rfl, hc0, hc1, hc2, hc3, hc4, hc5⟩ := at_T34 (Kd.C_below HR0.out HB.out) (k : Int) (by omega) (by omega)
      rw [Int.toNat_natCast] at hc0 hc1 hc2 hc3 hc4 hc5
      have hK := HK.out
      rw [idxS_step hlt] at hK
      clear HK
      cases hp : ((rd_T34 l0 (k : Int)).f0 == n)
      · rw [hp, if_neg (by decide)] at hK
        have HK := Aside0.mk hK
        clear hK
        go_wp2_with fail
        (go_at_call 34; (with_reducible refine (same_runs g n _ _ _ _ _ _ _ (by repeat (with_reducible first | exact oa.out | apply ext_drew | apply ext_drewN | apply ext_alloc | refine blk_far ?_ (by show _ ≠ _; dsimp only; omega) _))).mono ?_); rintro e_ w1 ⟨rfl, hb_⟩; have HB_ : Aside0 (Below w.heap.size w w1) := Aside0.mk (below_step (by repeat (first | (with_reducible first | exact HB.out | exact Below.refl _ _ | apply below_alloc | apply pw_below_drewN | apply below_drew | refine below_set ?_ (by omega)) | exact HB.out)) hb_); have hzw1 := hb_.size; (try simp at hzw1); have oa_ := Aside0.mk (box_below hb_ (by repeat (with_reducible first | exact oa.out | apply ext_drew | apply ext_drewN | apply ext_alloc | refine blk_far ?_ (by show _ ≠ _; dsimp only; omega) _))); (try clear oa oac oaf oal); have oa := oa_; clear oa_; obtain ⟨oac, oaf, oal⟩ := cells_of oa.out; clear HB hb_; have HB := HB_; clear HB_)
        rw [hp]
        go_wp2
        go_roundw
        case rel => exact ⟨k + 1, by omega, by go_num, HK, oa, HB⟩
        case measure => simp [intOf]; omega
      · rw [hp, if_pos rfl] at hK
        have HK := Aside0.mk hK
        clear hK
        go_wp2_with fail
        (go_at_call 34; (with_reducible refine (same_runs g n _ _ _ _ _ _ _ (by repeat (with_reducible first | exact oa.out | apply ext_drew | apply ext_drewN | apply ext_alloc | refine blk_far ?_ (by show _ ≠ _; dsimp only; omega) _))).mono ?_); rintro e_ w1 ⟨rfl, hb_⟩; have HB_ : Aside0 (Below w.heap.size w w1) := Aside0.mk (below_step (by repeat (first | (with_reducible first | exact HB.out | exact Below.refl _ _ | apply below_alloc | apply pw_below_drewN | apply below_drew | refine below_set ?_ (by omega)) | exact HB.out)) hb_); have hzw1 := hb_.size; (try simp at hzw1); have oa_ := Aside0.mk (box_below hb_ (by repeat (with_reducible first | exact oa.out | apply ext_drew | apply ext_drewN | apply ext_alloc | refine blk_far ?_ (by show _ ≠ _; dsimp only; omega) _))); (try clear oa oac oaf oal); have oa := oa_; clear oa_; obtain ⟨oac, oaf, oal⟩ := cells_of oa.out; clear HB hb_; have HB := HB_; clear HB_)
        rw [hp]
        go_wp2
        go_ret
        exact ⟨by rw [← HK.out]; rfl, HB.out⟩
    · have hK := HK.out
      rw [List.drop_of_length_le (by omega)] at hK
      have HK2 : Aside0 ((-1 : Int) = R) := ⟨hK⟩
      clear HK hK
      go_wp2
      go_ret
      exact ⟨by rw [← HK2.out]; rfl, HB.out⟩
def okS (l : List S34) : Option Bool := host_Chkp.f (l.length + 2) l
def plS (l : List S34) (n : Int) : Int := idxS n l 0
def host_place.f (l0 : List S34) (a1 : Int) : Option Int := (okS l0).map fun c => if c then plS l0 a1 else -1
set_option maxHeartbeats 1600000 in
set_option maxRecDepth 100000 in
theorem place_bad (A0 : Option Addr) (c0 : Nat) (l0 : List S34) (a1 : Int) (w : World) (hr0 : Kd.C k34 w A0 l0.length l0) (hc0 : l0.length ≤ c0) (h : okS l0 = some false) :
    Calls Try.prog 22 #[.slice A0 l0.length c0, .int .i64 a1] w fun e w' => e = .returned (.int .i64 (-1)) ∧ Below w.heap.size w w' := by
  have HB := Aside0.mk (Below.refl w.heap.size w)
  have HR := Aside0.mk hr0
  have HC := Aside0.mk hc0
  have HK : Aside0 (host_Chkp.f (l0.length + 2) l0 = some false) := ⟨h⟩
  clear hr0 hc0 h
  go_enter Try.func22, Try.ntmps22
  go_wp2_with fail
  (go_at_call 18; (with_reducible refine (host_Chkp.calls (l0.length + 2) _ _ l0 _ _ (Kd.C_alloc HR.out _) HC.out HK.out).mono ?_); rintro e_ w1 ⟨rfl, hb_⟩; have HB_ : Aside0 (Below w.heap.size w w1) := Aside0.mk (below_step (by repeat (first | (with_reducible first | exact HB.out | exact Below.refl _ _ | apply below_alloc | apply pw_below_drewN | apply below_drew | refine below_set ?_ (by omega)) | exact HB.out)) hb_); have hzw1 := hb_.size; (try simp at hzw1); clear HB hb_; have HB := HB_; clear HB_)
  go_wp2
  go_ret
  exact ⟨rfl, (by repeat (first | (with_reducible first | exact HB.out | exact Below.refl _ _ | apply below_alloc | apply pw_below_drewN | apply below_drew | refine below_set ?_ (by omega)) | exact HB.out))⟩
set_option maxHeartbeats 1600000 in
set_option maxRecDepth 100000 in
theorem place_ok (A0 : Option Addr) (c0 : Nat) (l0 : List S34) (a1 : Int) (w : World) (hr0 : Kd.C k34 w A0 l0.length l0) (hc0 : l0.length ≤ c0) (h : okS l0 = some true) :
    Calls Try.prog 22 #[.slice A0 l0.length c0, .int .i64 a1] w fun e w' => e = .returned (.int .i64 (plS l0 a1)) ∧ Below w.heap.size w w' := by
  have HB := Aside0.mk (Below.refl w.heap.size w)
  have HR := Aside0.mk hr0
  have HC := Aside0.mk hc0
  have HK : Aside0 (host_Chkp.f (l0.length + 2) l0 = some true) := ⟨h⟩
  clear hr0 hc0 h
  go_enter Try.func22, Try.ntmps22
  go_wp2_with fail
  (go_at_call 18; (with_reducible refine (host_Chkp.calls (l0.length + 2) _ _ l0 _ _ (Kd.C_alloc HR.out _) HC.out HK.out).mono ?_); rintro e_ w1 ⟨rfl, hb_⟩; have HB_ : Aside0 (Below w.heap.size w w1) := Aside0.mk (below_step (by repeat (first | (with_reducible first | exact HB.out | exact Below.refl _ _ | apply below_alloc | apply pw_below_drewN | apply below_drew | refine below_set ?_ (by omega)) | exact HB.out)) hb_); have hzw1 := hb_.size; (try simp at hzw1); have oa_ := Aside0.mk (box_below hb_ (by repeat (with_reducible first | exact nb_1 w _ | apply ext_drew | apply ext_drewN | apply ext_alloc | refine blk_far ?_ (by show _ ≠ _; dsimp only; omega) _))); (try clear oa oac oaf oal); have oa := oa_; clear oa_; obtain ⟨oac, oaf, oal⟩ := cells_of oa.out; clear HB hb_; have HB := HB_; clear HB_)
  go_wp2_with fail
  (go_at_call 33; (with_reducible refine (index_runs _ a1 _ _ l0 _ (Kd.C_below HR.out HB.out) (by repeat (with_reducible first | exact oa.out | apply ext_drew | apply ext_drewN | apply ext_alloc | refine blk_far ?_ (by show _ ≠ _; dsimp only; omega) _))).mono ?_); rintro e_ w2 ⟨rfl, hb_⟩; have HB_ : Aside0 (Below w.heap.size w w2) := Aside0.mk (below_step (by repeat (first | (with_reducible first | exact HB.out | exact Below.refl _ _ | apply below_alloc | apply pw_below_drewN | apply below_drew | refine below_set ?_ (by omega)) | exact HB.out)) hb_); have hzw2 := hb_.size; (try simp at hzw2); have oa_ := Aside0.mk (box_below hb_ (by repeat (with_reducible first | exact oa.out | apply ext_drew | apply ext_drewN | apply ext_alloc | refine blk_far ?_ (by show _ ≠ _; dsimp only; omega) _))); (try clear oa oac oaf oal); have oa := oa_; clear oa_; obtain ⟨oac, oaf, oal⟩ := cells_of oa.out; clear HB hb_; have HB := HB_; clear HB_)
  go_wp2
  go_ret
  exact ⟨rfl, (by repeat (first | (with_reducible first | exact HB.out | exact Below.refl _ _ | apply below_alloc | apply pw_below_drewN | apply below_drew | refine below_set ?_ (by omega)) | exact HB.out))⟩
theorem host_place.calls (A0 : Option Addr) (c0 : Nat) (l0 : List S34) (a1 : Int) (r : Int) (w : World) (hr0 : Kd.C k34 w A0 l0.length l0) (hc0 : l0.length ≤ c0) (h : host_place.f l0 a1 = some r) :
    Calls Try.prog 22 #[.slice A0 l0.length c0, .int .i64 a1] w fun e w' => e = .returned (.int .i64 r) ∧ Below w.heap.size w w' := by
  unfold host_place.f at h
  cases hk : okS l0 with
  | none => rw [hk] at h; cases h
  | some b =>
    rw [hk] at h
    cases b with
    | false => obtain rfl := Option.some.inj h; exact place_bad A0 c0 l0 a1 w hr0 hc0 hk
    | true => obtain rfl := Option.some.inj h; exact place_ok A0 c0 l0 a1 w hr0 hc0 hk
end Go.Proofs.Ytijdplpmcnhlbaa.Q
