/- host.Shut. -/
import Derived.Test.YtijdplpmcnhlbaaHfind
namespace Go.Proofs.Ytijdplpmcnhlbaa.Q
open Go.RowKit Go.Proofs.YtijdplpmcnhlbaaW.PrintWords Go.Proofs.YtijdplpmcnhlbaaW.PrintLast Go.Proofs.YtijdplpmcnhlbaaW.PrintMore Go.Proofs.Ytijdplpmcnhlbaa.L
attribute [local go_sem] Instr.field part asAgg lt_step max2_int min2_int max_two min_two max_three min_three max_four min_four lt_0_1 lt_0_2 lt_1_2 lt_0_3 lt_1_3 lt_2_3 lt_0_4 lt_1_4 lt_2_4 lt_3_4 lt_0_5 lt_1_5 lt_2_5 lt_3_5 lt_4_5 lt_0_6 lt_1_6 lt_2_6 lt_3_6 lt_4_6 lt_5_6 lt_0_7 lt_1_7 lt_2_7 lt_3_7 lt_4_7 lt_5_7 lt_6_7 lt_0_8 lt_1_8 lt_2_8 lt_3_8 lt_4_8 lt_5_8 lt_6_8 lt_7_8
set_option linter.unusedVariables false
set_option linter.unusedSimpArgs false
theorem V_C {w : World} {b : Nat} {P0_ : Nat → Prop} {A : Option Addr} {c : Nat} {l : List S34} (h : Kd.V k34 34 w b P0_ (.slice A l.length c) l) : l.length ≤ c ∧ Kd.C k34 w A l.length l := ⟨(Kd.V_at h).2.1, Kd.F_now (Kd.V_at h).2.2⟩
theorem V_stay {w w' : World} {b : Nat} {P0_ : Nat → Prop} {v : Value} {l : List S34} (h : Kd.V k34 34 w w.heap.size P0_ v l) (hb : Below w.heap.size w w') : Kd.V k34 34 w' b (fun k_ => P0_ k_ ∨ w.heap.size ≤ k_) v l := Kd.V_below (Kd.V_mono h fun _ hk => .inl hk) hb
theorem V_new {w w' : World} {P0_ : Nat → Prop} {v : Value} {l : List S34} (h : Kd.R k34 34 w' w.heap.size (fun _ => True) v l) : Kd.V k34 34 w' w.heap.size (fun k_ => P0_ k_ ∨ w.heap.size ≤ k_) v l :=
  Kd.V_mono (Kd.R_V (Kd.R_bound h)) fun _ hk => .inr hk.2.1
def shutZ (l : List S34) (i : Int) : List S34 × Bool := if i < 0 then (l, false) else if (rd_T34 l i).f1 != 2 then (l, false) else if (rd_T34 l i).f5 then (l, false) else (setS l i 5, true)
def host_Shut.f (l0 : List S34) (a1 : Int) : Option (List S34 × Bool) := if l0.length * 40 < 140737488355328 then (host_place.f l0 a1).map (shutZ l0) else none
section
variable (P0_ : Nat → Prop) (A0 : Option Addr) (c0 : Nat) (l0 : List S34) (a1 i : Int) (w : World)
set_option maxHeartbeats 1600000 in
set_option maxRecDepth 100000 in
theorem shut_no (hs0 : Kd.V k34 34 w w.heap.size P0_ (.slice A0 l0.length c0) l0) (h : host_place.f l0 a1 = some i) (hi : i < 0) :
    Calls Try.prog 11 #[.slice A0 l0.length c0, .int .i64 a1] w fun e w' => e = .returned (.tuple #[.slice A0 l0.length c0, .bool false]) ∧ Below w.heap.size w w' := by
  have HB := Aside0.mk (Below.refl w.heap.size w)
  have HR := Aside0.mk (V_C hs0).2
  have HC := Aside0.mk (V_C hs0).1
  have HK := Aside0.mk h
  have hb : decide (i < 0) = true := decide_eq_true hi
  clear hs0 h hi
  go_enter Try.func11, Try.ntmps11
  go_wp2_with fail
  (go_at_call 22; (with_reducible refine (host_place.calls _ _ l0 a1 i _ HR.out HC.out HK.out).mono ?_); rintro e_ w1 ⟨rfl, hb_⟩; have HB_ : Aside0 (Below w.heap.size w w1) := Aside0.mk (below_step (by repeat (first | (with_reducible first | exact HB.out | exact Below.refl _ _ | apply below_alloc | apply pw_below_drewN | apply below_drew | refine below_set ?_ (by omega)) | exact HB.out)) hb_); have hzw1 := hb_.size; (try simp at hzw1); clear HB hb_; have HB := HB_; clear HB_)
  go_wp2
  go_ret2
  exact ⟨rfl, (by repeat (first | (with_reducible first | exact HB.out | exact Below.refl _ _ | apply below_alloc | apply pw_below_drewN | apply below_drew | refine below_set ?_ (by omega)) | exact HB.out))⟩
set_option maxHeartbeats 1600000 in
set_option maxRecDepth 100000 in
theorem shut_stay (hs0 : Kd.V k34 34 w w.heap.size P0_ (.slice A0 l0.length c0) l0) (h : host_place.f l0 a1 = some i) (h0 : 0 ≤ i) (h1 : i < l0.length) (q : Bool) (hq : ((rd_T34 l0 i).f1 != 2) = q) (hx : q = false → (rd_T34 l0 i).f5 = true) :
    Calls Try.prog 11 #[.slice A0 l0.length c0, .int .i64 a1] w fun e w' => e = .returned (.tuple #[.slice A0 l0.length c0, .bool false]) ∧ Below w.heap.size w w' := by
  have HB := Aside0.mk (Below.refl w.heap.size w)
  have HR := Aside0.mk (V_C hs0).2
  have HC := Aside0.mk (V_C hs0).1
  have HK := Aside0.mk h
  have hb : decide (i < 0) = false := decide_eq_false (by omega)
  clear hs0 h
  cases q
  · have hx := hx rfl
    go_enter Try.func11, Try.ntmps11
    go_wp2_with fail
    (go_at_call 22; (with_reducible refine (host_place.calls _ _ l0 a1 i _ HR.out HC.out HK.out).mono ?_); rintro e_ w1 ⟨rfl, hb_⟩; have HB_ : Aside0 (Below w.heap.size w w1) := Aside0.mk (below_step (by repeat (first | (with_reducible first | exact HB.out | exact Below.refl _ _ | apply below_alloc | apply pw_below_drewN | apply below_drew | refine below_set ?_ (by omega)) | exact HB.out)) hb_); have hzw1 := hb_.size; (try simp at hzw1); clear HB hb_; have HB := HB_; clear HB_)
    obtain ⟨ad, rfl, hc0, hc1, hc2, hc3, hc4, hc5⟩ := at_T34 (Kd.C_below HR.out HB.out) i h0 h1
    go_wp2
    go_ret2
    exact ⟨rfl, (by repeat (first | (with_reducible first | exact HB.out | exact Below.refl _ _ | apply below_alloc | apply pw_below_drewN | apply below_drew | refine below_set ?_ (by omega)) | exact HB.out))⟩
  · clear hx
    go_enter Try.func11, Try.ntmps11
    go_wp2_with fail
    (go_at_call 22; (with_reducible refine (host_place.calls _ _ l0 a1 i _ HR.out HC.out HK.out).mono ?_); rintro e_ w1 ⟨rfl, hb_⟩; have HB_ : Aside0 (Below w.heap.size w w1) := Aside0.mk (below_step (by repeat (first | (with_reducible first | exact HB.out | exact Below.refl _ _ | apply below_alloc | apply pw_below_drewN | apply below_drew | refine below_set ?_ (by omega)) | exact HB.out)) hb_); have hzw1 := hb_.size; (try simp at hzw1); clear HB hb_; have HB := HB_; clear HB_)
    obtain ⟨ad, rfl, hc0, hc1, hc2, hc3, hc4, hc5⟩ := at_T34 (Kd.C_below HR.out HB.out) i h0 h1
    go_wp2
    go_ret2
    exact ⟨rfl, (by repeat (first | (with_reducible first | exact HB.out | exact Below.refl _ _ | apply below_alloc | apply pw_below_drewN | apply below_drew | refine below_set ?_ (by omega)) | exact HB.out))⟩
set_option maxHeartbeats 1600000 in
set_option maxRecDepth 100000 in
theorem shut_do (hl : l0.length * 40 < 140737488355328) (hs0 : Kd.V k34 34 w w.heap.size P0_ (.slice A0 l0.length c0) l0) (h : host_place.f l0 a1 = some i) (h0 : 0 ≤ i) (h1 : i < l0.length) (hq : ((rd_T34 l0 i).f1 != 2) = false) (hx : (rd_T34 l0 i).f5 = false) :
    Calls Try.prog 11 #[.slice A0 l0.length c0, .int .i64 a1] w fun e w' => ∃ v, e = .returned (.tuple #[v, .bool true]) ∧ Kd.R k34 34 w' w.heap.size (fun _ => True) v (setS l0 i 5) ∧ Below w.heap.size w w' := by
  have HB := Aside0.mk (Below.refl w.heap.size w)
  have HR := Aside0.mk (V_C hs0).2
  have HC := Aside0.mk (V_C hs0).1
  have HK := Aside0.mk h
  have hb : decide (i < 0) = false := decide_eq_false (by omega)
  clear hs0 h
  go_enter Try.func11, Try.ntmps11
  go_wp2_with fail
  (go_at_call 22; (with_reducible refine (host_place.calls _ _ l0 a1 i _ HR.out HC.out HK.out).mono ?_); rintro e_ w1 ⟨rfl, hb_⟩; have HB_ : Aside0 (Below w.heap.size w w1) := Aside0.mk (below_step (by repeat (first | (with_reducible first | exact HB.out | exact Below.refl _ _ | apply below_alloc | apply pw_below_drewN | apply below_drew | refine below_set ?_ (by omega)) | exact HB.out)) hb_); have hzw1 := hb_.size; (try simp at hzw1); clear HB hb_; have HB := HB_; clear HB_)
  obtain ⟨ad, rfl, hc0, hc1, hc2, hc3, hc4, hc5⟩ := at_T34 (Kd.C_below HR.out HB.out) i h0 h1
  go_wp2_with fail
  go_at_call 23; refine (change_5 _ _ l0 i _ (Kd.C_below HR.out HB.out) HC.out hl h0 h1).mono ?_; rintro e w2 ⟨v0, rfl, hR, hb2⟩
  have HR2 := Aside0.mk (Kd.R_lower hR (below_size HB.out))
  have HB2 := Aside0.mk (below_step HB.out hb2)
  clear hR hb2
  go_wp2
  go_ret2
  exact ⟨_, rfl, HR2.out, HB2.out⟩
theorem host_Shut_c (r1 : List S34) (r2 : Bool) (hs0 : Kd.V k34 34 w w.heap.size (fun k_ => P0_ k_) (.slice A0 l0.length c0) l0) (h : host_Shut.f l0 a1 = some (r1, r2)) :
    Calls Try.prog 11 #[.slice A0 l0.length c0, .int .i64 a1] w fun e w' => ∃ v0_ : Value, e = .returned (.tuple #[v0_, .bool r2]) ∧ Kd.V k34 34 w' w.heap.size (fun k_ => (P0_ k_ ∨ w.heap.size ≤ k_)) v0_ r1 ∧ Below w.heap.size w w' := by
  unfold host_Shut.f at h
  split at h
  case isFalse => cases h
  case isTrue hl =>
  obtain ⟨i, hi, h⟩ := Option.map_eq_some_iff.1 h
  unfold shutZ at h
  have hst : ∀ {e : Ending} {w' : World}, (e = .returned (.tuple #[.slice A0 l0.length c0, .bool false]) ∧ Below w.heap.size w w') → ∃ v0_ : Value, e = .returned (.tuple #[v0_, .bool false]) ∧ Kd.V k34 34 w' w.heap.size (fun k_ => (P0_ k_ ∨ w.heap.size ≤ k_)) v0_ l0 ∧ Below w.heap.size w w' := fun h => ⟨_, h.1, V_stay hs0 h.2, h.2⟩
  rcases place_range hi with h1 | ⟨h0, h1⟩
  · rw [if_pos h1] at h
    simp only [Prod.mk.injEq] at h
    obtain ⟨rfl, rfl⟩ := h
    exact (shut_no P0_ A0 c0 l0 a1 i w hs0 hi h1).mono fun _ _ h => hst h
  · rw [if_neg (by omega)] at h
    cases hq : ((rd_T34 l0 i).f1 != 2) with
    | true =>
      rw [hq, if_pos rfl] at h
      simp only [Prod.mk.injEq] at h
      obtain ⟨rfl, rfl⟩ := h
      exact (shut_stay P0_ A0 c0 l0 a1 i w hs0 hi h0 h1 true hq (fun h => by cases h)).mono fun _ _ h => hst h
    | false =>
      rw [hq, if_neg Bool.false_ne_true] at h
      cases hx : (rd_T34 l0 i).f5 with
      | true =>
        rw [hx, if_pos rfl] at h
        simp only [Prod.mk.injEq] at h
        obtain ⟨rfl, rfl⟩ := h
        exact (shut_stay P0_ A0 c0 l0 a1 i w hs0 hi h0 h1 false hq (fun _ => hx)).mono fun _ _ h => hst h
      | false =>
        rw [hx, if_neg Bool.false_ne_true] at h
        simp only [Prod.mk.injEq] at h
        obtain ⟨rfl, rfl⟩ := h
        exact (shut_do P0_ A0 c0 l0 a1 i w hl hs0 hi h0 h1 hq hx).mono fun _ _ ⟨v, he, hR, hb⟩ => ⟨v, he, V_new hR, hb⟩
end
theorem host_Shut.calls (P0_ : Nat → Prop) (A0 : Option Addr) (c0 : Nat) (l0 : List (S34)) (a1 : Int) (r1 : List (S34)) (r2 : Bool) (w : World) (hs0 : Kd.V k34 34 w w.heap.size (fun k_ => P0_ k_) (.slice A0 l0.length c0) l0) (h : host_Shut.f l0 a1 = some (r1, r2)) :
    Calls Try.prog 11 #[.slice A0 l0.length c0, .int .i64 a1] w fun e w' => ∃ v0_ : Value, e = .returned (.tuple #[v0_, .bool r2]) ∧ Kd.V k34 34 w' w.heap.size (fun k_ => (P0_ k_ ∨ w.heap.size ≤ k_)) v0_ r1 ∧ Below w.heap.size w w' := host_Shut_c P0_ A0 c0 l0 a1 w r1 r2 hs0 h
end Go.Proofs.Ytijdplpmcnhlbaa.Q
