import Derived.Test.YtijdplpmcnhlbaaHTsoc3
import Derived.Test.YtijdplpmcnhlbaaHHcon
import Derived.Test.YtijdplpmcnhlbaaHZ2
import Derived.Test.YtijdplpmcnhlbaaHQx2
import Derived.Test.YtijdplpmcnhlbaaHHrw
import Derived.Test.YtijdplpmcnhlbaaHZ1
section
/- Sockets, plain facts: a new one. -/
set_option linter.unusedVariables false
set_option linter.unusedSimpArgs false
namespace Go.Proofs.Ytijdplpmcnhlbaa.Q
open Go.RowKit Go.Proofs.YtijdplpmcnhlbaaW.PrintWords Go.Proofs.YtijdplpmcnhlbaaW.PrintLast Go.Proofs.YtijdplpmcnhlbaaW.PrintMore
theorem atS_spec : ∀ (l : List S34) (k : Int), ∃ n : Nat, n ≤ l.length ∧ atS l k = k + n ∧ lastF k (l.take n) = k + n ∧ (∀ y, l[n]? = some y → y.f0 ≠ k + n + 1)
  | [], k => ⟨0, Nat.le_refl _, by simp [atS], by simp [lastF], fun y h => by simp at h⟩
  | x :: l, k => by
    by_cases hx : x.f0 = k + 1
    · obtain ⟨n, h1, h2, h3, h4⟩ := atS_spec l (k + 1)
      refine ⟨n + 1, by rw [List.length_cons]; omega, ?_, ?_, fun y hy => ?_⟩
      · rw [atS, if_pos (by simpa using hx), h2]; omega
      · rw [List.take_succ_cons, lastF, hx, h3]; omega
      · rw [List.getElem?_cons_succ] at hy
        have := h4 y hy
        intro hh; exact this (by omega)
    · refine ⟨0, Nat.zero_le _, ?_, by simp [lastF], fun y hy => ?_⟩
      · rw [atS, if_neg (by simpa using hx)]; omega
      · have : x = y := by simpa using hy
        rw [← this]; intro hh; exact hx (by omega)
def fvO : Option S34 → Int × Int × Int × Int × Bool × Bool × Bool
  | none => (0, 0, 0, 0, false, false, false)
  | some x => (x.f0, x.f1, x.f2, x.f3, x.f4, x.f5, true)
theorem place_at5 {l : List S34} (h : okL l = true) (n : Int) : host_place.f l n = some (idxS n l 0) := by
  unfold host_place.f
  rw [okS_is (by have := okL_len h; omega), h]; rfl
theorem find_at {l : List S34} (h : okL l = true) (n : Int) : host_Find.f l n = some (fvO (l.find? fun y => y.f0 == n)) := by
  unfold host_Find.f
  rw [place_at5 h]
  rcases idxS_cases n l with ⟨hi, hn⟩ | ⟨a, x, b, rfl, hx, ha, hi⟩
  · have e : l.find? (fun y => y.f0 == n) = none := List.find?_eq_none.2 fun y hy => by simpa using hn y hy
    rw [hi, e]; rfl
  · have e1 : a.find? (fun y => y.f0 == n) = none := List.find?_eq_none.2 fun y hy => by simpa using ha y hy
    have e : (a ++ x :: b).find? (fun y => y.f0 == n) = some x := by
      rw [List.find?_append, e1, List.find?_cons_of_pos (by simpa using hx)]; rfl
    rw [hi, e]
    show some (if ((a.length : Nat) : Int) < 0 then _ else _) = _
    rw [if_neg (by omega), rd_mid]; rfl
/-- What a new socket makes of a row. -/
theorem con_facts {l : List S34} (h : okL l = true) (h8 : ¬ (l.length : Int) = 8) {r p : Int} (hp : p / 65536 = 0) :
    ∃ (n : Nat) (a b : List S34), l = a ++ b ∧ n = a.length ∧ conZ l r p = (a ++ newS (n : Int) r p :: b, (n : Int) + 1, true) ∧ okL (a ++ newS (n : Int) r p :: b) = true ∧ (∀ y ∈ a ++ b, y.f0 ≠ (n : Int) + 1) := by
  obtain ⟨n, h1, h2, h3, h4⟩ := atS_spec l 0
  have h2 : atS l 0 = (n : Int) := by omega
  have h3 : lastF 0 (l.take n) = (n : Int) := by omega
  have hl := okL_len h
  have hr := okL_R h
  have hn8 : n < 8 := by omega
  have hab : l = l.take n ++ l.drop n := (List.take_append_drop n l).symm
  rw [hab, okR_append, h3] at hr
  simp only [Bool.and_eq_true] at hr
  have hb : okR ((n : Int) + 1) (l.drop n) = true := by
    rcases hd : l.drop n with _ | ⟨y, b'⟩
    · rfl
    · have hy : l[n]? = some y := by
        have := congrArg (fun q => q[0]?) hd
        simpa [List.getElem?_drop] using this
      have hne := h4 y hy
      have hr2 := hr.2
      rw [hd] at hr2
      unfold okR at hr2 ⊢
      simp only [Bool.and_eq_true, decide_eq_true_eq] at hr2 ⊢
      exact ⟨hr2.1, by omega, hr2.2.2⟩
  have hnew : okI (newS (n : Int) r p) = true := by
    unfold okI newS
    dsimp only
    have q1 : decide (1 ≤ (n : Int) + 1) = true := decide_eq_true (by omega)
    have q2 : decide ((n : Int) + 1 ≤ 8) = true := decide_eq_true (by omega)
    rw [q1, q2, hp]; rfl
  refine ⟨n, l.take n, l.drop n, hab, by rw [List.length_take]; omega, ?_, ?_, ?_⟩
  · unfold conZ
    rw [h2, Int.toNat_natCast]
  · refine okL_mk ?_ (by rw [List.length_append, List.length_take, List.length_cons, List.length_drop]; omega)
    rw [okR_append, hr.1, h3, okR, hnew]
    have q : decide ((n : Int) < (newS (n : Int) r p).f0) = true := decide_eq_true (by show (n : Int) < (n : Int) + 1; omega)
    rw [q]
    exact hb
  · intro y hy
    rcases List.mem_append.1 hy with hy | hy
    · have := okR_lastF hr.1 y hy
      rw [h3] at this; omega
    · have := okR_gt hb y hy; omega
theorem same_l0 (l : List S34) (hl : l.length ≤ 100) : ∀ (k i : Nat), l.length - i < k → i ≤ l.length → drawbridgeref27_Same.l0 k l l (i : Int) = some true
  | 0, i, hk, hi => absurd hk (by omega)
  | k + 1, i, hk, hi => by
    unfold drawbridgeref27_Same.l0
    by_cases h : i < l.length
    · rw [if_pos (by omega), if_pos (by omega), if_pos (by omega), if_neg (by simp), w64 (by omega)]
      exact same_l0 l hl k (i + 1) (by omega) (by omega)
    · rw [if_neg (by omega)]
theorem same_refl {l : List S34} (hl : l.length ≤ 100) {k : Nat} (hk : l.length < k) : drawbridgeref27_Same.f k l l = some true := by
  unfold drawbridgeref27_Same.f
  rw [if_pos rfl]
  exact same_l0 l hl k 0 (by omega) (by omega)
end Go.Proofs.Ytijdplpmcnhlbaa.Q
end
section
/- ref27.Hear, as its callers have it. -/
namespace Go.Proofs.Ytijdplpmcnhlbaa.Q
open Go.RowKit Go.Proofs.YtijdplpmcnhlbaaW.PrintWords Go.Proofs.YtijdplpmcnhlbaaW.PrintLast Go.Proofs.YtijdplpmcnhlbaaW.PrintMore Go.Proofs.Ytijdplpmcnhlbaa.L
attribute [local go_sem] Instr.field part asAgg lt_step max2_int min2_int max_two min_two max_three min_three max_four min_four lt_0_1 lt_0_2 lt_1_2 lt_0_3 lt_1_3 lt_2_3 lt_0_4 lt_1_4 lt_2_4 lt_3_4 lt_0_5 lt_1_5 lt_2_5 lt_3_5 lt_4_5 lt_0_6 lt_1_6 lt_2_6 lt_3_6 lt_4_6 lt_5_6 lt_0_7 lt_1_7 lt_2_7 lt_3_7 lt_4_7 lt_5_7 lt_6_7 lt_0_8 lt_1_8 lt_2_8 lt_3_8 lt_4_8 lt_5_8 lt_6_8 lt_7_8
set_option linter.unusedVariables false
set_option linter.unusedSimpArgs false
def rhK (l : List S34) : Nat := 4 * l.length + 12
def rhZ (l : List S34) (kind id dl n : Int) (x : Int × Int × Int × Int × Bool × Bool × Bool) : Option (List S34 × Bool) :=
  if kind = 1 then (if (x.2.1 == 2) = true then some (l, false) else (drawbridgeref27_put.f l x.1 2 x.2.2.1 x.2.2.2.1 x.2.2.2.2.1 x.2.2.2.2.2.1).map fun y => (y, true))
  else if kind = 2 then drawbridgeref27_Close.f l id
  else if kind = 3 then some (l, (x.2.1 == 2) && (!x.2.2.2.2.1 && decide (dl > 0)))
  else if kind = 4 then (if (x.2.1 == 2) = true ∧ x.2.2.2.2.1 = false then (drawbridgeref27_put.f l x.1 x.2.1 x.2.2.1 x.2.2.2.1 true x.2.2.2.2.2.1).map fun y => (y, true) else some (l, false))
  else if kind = 5 then some (l, (x.2.1 == 2) && (!x.2.2.2.2.2.1 && decide (n ≥ 1)))
  else some (l, false)
def drawbridgeref27_Hear.f (l0 : List S34) (a1_0 : Int) (a1_1 : Int) (l1_2 : List Int) (a1_3 : Int) : Option (List S34 × Bool) :=
  (drawbridgeref27_Find.f l0 a1_1).bind fun x => if x.2.2.2.2.2.2 = true then rhZ l0 a1_0 a1_1 l1_2.length a1_3 x else some (l0, false)
theorem drawbridgeref27_Hear.calls (P0_ : Nat → Prop) (A0 : Option Addr) (c0 : Nat) (l0 : List (S34)) (a1_0 : Int) (a1_1 : Int) (A1_2 : Option Addr) (c1_2 : Nat) (l1_2 : List Int) (a1_3 : Int) (r1 : List (S34)) (r2 : Bool) (w : World) (hs0 : Kd.V k34 34 w w.heap.size (fun k_ => P0_ k_) (.slice A0 l0.length c0) l0) (hr1_2 : Kd.C (Kd.int .u8) w A1_2 l1_2.length l1_2) (hc1_2 : l1_2.length ≤ c1_2) (h : drawbridgeref27_Hear.f l0 a1_0 a1_1 l1_2 a1_3 = some (r1, r2)) :
    Calls Try.prog 10 #[.slice A0 l0.length c0, .agg #[.int .i64 a1_0, .int .i64 a1_1, .slice A1_2 l1_2.length c1_2, .int .i64 a1_3]] w fun e w' => ∃ v0_ : Value, e = .returned (.tuple #[v0_, .bool r2]) ∧ Kd.V k34 34 w' w.heap.size (fun k_ => (P0_ k_ ∨ w.heap.size ≤ k_)) v0_ r1 ∧ Below w.heap.size w w' := by
  unfold drawbridgeref27_Hear.f at h
  obtain ⟨⟨x0, x1, x2, x3, x4, x5, ok⟩, hf, h⟩ := Option.bind_eq_some_iff.1 h
  have hst : ∀ {b : Bool} {e : Ending} {w' : World}, (e = .returned (.tuple #[.slice A0 l0.length c0, .bool b]) ∧ Below w.heap.size w w') → ∃ v0_ : Value, e = .returned (.tuple #[v0_, .bool b]) ∧ Kd.V k34 34 w' w.heap.size (fun k_ => (P0_ k_ ∨ w.heap.size ≤ k_)) v0_ l0 ∧ Below w.heap.size w w' := fun h => ⟨_, h.1, V_stay hs0 h.2, h.2⟩
  cases ok with
  | false =>
    have h2 : some (l0, false) = some (r1, r2) := h
    obtain ⟨rfl, rfl⟩ : l0 = r1 ∧ false = r2 := by simpa using h2
    exact (rh_no P0_ A0 c0 l0 a1_1 x0 x1 x2 x3 x4 x5 l1_2.length a1_3 w A1_2 c1_2 a1_0 hs0 hf).mono fun _ _ h => hst h
  | true =>
    have h : rhZ l0 a1_0 a1_1 l1_2.length a1_3 (x0, x1, x2, x3, x4, x5, true) = some (r1, r2) := h
    unfold rhZ at h
    by_cases k1 : a1_0 = 1
    · subst k1
      rw [if_pos rfl] at h
      by_cases ho : (x1 == 2) = true
      · rw [if_pos ho] at h
        obtain ⟨rfl, rfl⟩ : l0 = r1 ∧ false = r2 := by simpa using h
        exact (rh_openx P0_ A0 c0 l0 a1_1 x0 x1 x2 x3 x4 x5 l1_2.length a1_3 w A1_2 c1_2 true hs0 hf rfl ho).mono fun _ _ h => hst h
      · rw [if_neg ho] at h
        obtain ⟨lr, hp, h⟩ := Option.map_eq_some_iff.1 h
        obtain ⟨rfl, rfl⟩ := Prod.mk.inj h
        exact (rh_open P0_ A0 c0 l0 a1_1 x0 x1 x2 x3 x4 x5 l1_2.length a1_3 w A1_2 c1_2 hs0 hf (by simpa using ho) lr hp).mono fun _ _ ⟨v, he, hR, hb⟩ => ⟨v, he, V_new hR, hb⟩
    rw [if_neg k1] at h
    by_cases k2 : a1_0 = 2
    · subst k2
      rw [if_pos rfl] at h
      exact rh_reset P0_ A0 c0 l0 a1_1 x0 x1 x2 x3 x4 x5 l1_2.length a1_3 w A1_2 c1_2 hs0 hf r1 r2 h
    rw [if_neg k2] at h
    by_cases k3 : a1_0 = 3
    · subst k3
      rw [if_pos rfl] at h
      obtain ⟨rfl, rfl⟩ := Prod.mk.inj (Option.some.inj h)
      exact (rh_data P0_ A0 c0 l0 a1_1 x0 x1 x2 x3 x4 x5 l1_2.length a1_3 w A1_2 c1_2 _ _ _ hs0 hf rfl rfl rfl).mono fun _ _ h => hst h
    rw [if_neg k3] at h
    by_cases k4 : a1_0 = 4
    · subst k4
      rw [if_pos rfl] at h
      by_cases ho : (x1 == 2) = true ∧ x4 = false
      · rw [if_pos ho] at h
        obtain ⟨lr, hp, h⟩ := Option.map_eq_some_iff.1 h
        obtain ⟨rfl, rfl⟩ := Prod.mk.inj h
        exact (rh_eof P0_ A0 c0 l0 a1_1 x0 x1 x2 x3 x4 x5 l1_2.length a1_3 w A1_2 c1_2 hs0 hf ho.1 ho.2 lr hp).mono fun _ _ ⟨v, he, hR, hb⟩ => ⟨v, he, V_new hR, hb⟩
      · rw [if_neg ho] at h
        obtain ⟨rfl, rfl⟩ := Prod.mk.inj (Option.some.inj h)
        exact (rh_eofx P0_ A0 c0 l0 a1_1 x0 x1 x2 x3 x4 x5 l1_2.length a1_3 w A1_2 c1_2 _ _ hs0 hf (fun h => by cases he : x4; exact absurd ⟨h, he⟩ ho; rfl) rfl rfl).mono fun _ _ h => hst h
    rw [if_neg k4] at h
    by_cases k5 : a1_0 = 5
    · subst k5
      rw [if_pos rfl] at h
      obtain ⟨rfl, rfl⟩ := Prod.mk.inj (Option.some.inj h)
      exact (rh_took P0_ A0 c0 l0 a1_1 x0 x1 x2 x3 x4 x5 l1_2.length a1_3 w A1_2 c1_2 _ _ _ hs0 hf rfl rfl rfl).mono fun _ _ h => hst h
    rw [if_neg k5] at h
    obtain ⟨rfl, rfl⟩ := Prod.mk.inj (Option.some.inj h)
    exact (rh_other P0_ A0 c0 l0 a1_1 x0 x1 x2 x3 x4 x5 l1_2.length a1_3 w A1_2 c1_2 a1_0 _ hs0 hf (beq_eq_false_iff_ne.2 k1) (beq_eq_false_iff_ne.2 k2) (beq_eq_false_iff_ne.2 k3) (beq_eq_false_iff_ne.2 k4) (beq_eq_false_iff_ne.2 k5) rfl).mono fun _ _ h => hst h
end Go.Proofs.Ytijdplpmcnhlbaa.Q
end
section
/- ref27.Shut. -/
namespace Go.Proofs.Ytijdplpmcnhlbaa.Q
open Go.RowKit Go.Proofs.YtijdplpmcnhlbaaW.PrintWords Go.Proofs.YtijdplpmcnhlbaaW.PrintLast Go.Proofs.YtijdplpmcnhlbaaW.PrintMore Go.Proofs.Ytijdplpmcnhlbaa.L
attribute [local go_sem] Instr.field part asAgg lt_step max2_int min2_int max_two min_two max_three min_three max_four min_four lt_0_1 lt_0_2 lt_1_2 lt_0_3 lt_1_3 lt_2_3 lt_0_4 lt_1_4 lt_2_4 lt_3_4 lt_0_5 lt_1_5 lt_2_5 lt_3_5 lt_4_5 lt_0_6 lt_1_6 lt_2_6 lt_3_6 lt_4_6 lt_5_6 lt_0_7 lt_1_7 lt_2_7 lt_3_7 lt_4_7 lt_5_7 lt_6_7 lt_0_8 lt_1_8 lt_2_8 lt_3_8 lt_4_8 lt_5_8 lt_6_8 lt_7_8
set_option linter.unusedVariables false
set_option linter.unusedSimpArgs false
section
variable (P0_ : Nat → Prop) (A0 : Option Addr) (c0 : Nat) (l0 : List S34) (id : Int) (x0 x1 x2 x3 : Int) (x4 x5 : Bool) (w : World)
set_option maxHeartbeats 1600000 in
set_option maxRecDepth 100000 in
theorem rs_no (hs0 : Kd.V k34 34 w w.heap.size P0_ (.slice A0 l0.length c0) l0) (h : drawbridgeref27_Find.f l0 id = some (x0, x1, x2, x3, x4, x5, false)) :
    Calls Try.prog 12 #[.slice A0 l0.length c0, .int .i64 id] w fun e w' => e = .returned (.tuple #[.slice A0 l0.length c0, .bool false]) ∧ Below w.heap.size w w' := by
  have HB := Aside0.mk (Below.refl w.heap.size w)
  have HS := Aside0.mk hs0
  have HR := Aside0.mk (V_C hs0).2
  have HC := Aside0.mk (V_C hs0).1
  have HK := Aside0.mk h
  clear hs0 h
  go_enter Try.func12, Try.ntmps12
  go_wp2_with fail
  (go_at_call 16; (with_reducible refine (drawbridgeref27_Find.calls _ _ l0 id _ _ _ _ _ _ _ _ (by first | exact HR.out | exact Kd.C_alloc HR.out _) HC.out HK.out).mono ?_); rintro e_ w1 ⟨rfl, hb_⟩; have HB_ : Aside0 (Below w.heap.size w w1) := Aside0.mk (below_step (bG HB) hb_); have hzw1 := hb_.size; (try simp at hzw1); clear HB hb_; have HB := HB_; clear HB_)
  (go_wp2; (first | go_region | skip); (all_goals go_wp2))
  all_goals go_ret2
  all_goals exact ⟨rfl, (bG HB)⟩
set_option maxHeartbeats 1600000 in
set_option maxRecDepth 100000 in
theorem rs_notopen (hs0 : Kd.V k34 34 w w.heap.size P0_ (.slice A0 l0.length c0) l0) (h : drawbridgeref27_Find.f l0 id = some (x0, x1, x2, x3, x4, x5, true)) (ho : (x1 == 2) = false) :
    Calls Try.prog 12 #[.slice A0 l0.length c0, .int .i64 id] w fun e w' => e = .returned (.tuple #[.slice A0 l0.length c0, .bool false]) ∧ Below w.heap.size w w' := by
  have HB := Aside0.mk (Below.refl w.heap.size w)
  have HS := Aside0.mk hs0
  have HR := Aside0.mk (V_C hs0).2
  have HC := Aside0.mk (V_C hs0).1
  have HK := Aside0.mk h
  clear hs0 h
  have ho2 : (x1 != 2) = true := by rw [bne, ho]; rfl
  go_enter Try.func12, Try.ntmps12
  go_wp2_with fail
  (go_at_call 16; (with_reducible refine (drawbridgeref27_Find.calls _ _ l0 id _ _ _ _ _ _ _ _ (by first | exact HR.out | exact Kd.C_alloc HR.out _) HC.out HK.out).mono ?_); rintro e_ w1 ⟨rfl, hb_⟩; have HB_ : Aside0 (Below w.heap.size w w1) := Aside0.mk (below_step (bG HB) hb_); have hzw1 := hb_.size; (try simp at hzw1); clear HB hb_; have HB := HB_; clear HB_)
  (go_wp2; (first | go_region | skip); (all_goals go_wp2))
  all_goals go_ret2
  all_goals exact ⟨rfl, (bG HB)⟩
set_option maxHeartbeats 1600000 in
set_option maxRecDepth 100000 in
theorem rs_already (hs0 : Kd.V k34 34 w w.heap.size P0_ (.slice A0 l0.length c0) l0) (h : drawbridgeref27_Find.f l0 id = some (x0, x1, x2, x3, x4, x5, true)) (ho : (x1 == 2) = true) (hx : x5 = true) :
    Calls Try.prog 12 #[.slice A0 l0.length c0, .int .i64 id] w fun e w' => e = .returned (.tuple #[.slice A0 l0.length c0, .bool false]) ∧ Below w.heap.size w w' := by
  have HB := Aside0.mk (Below.refl w.heap.size w)
  have HS := Aside0.mk hs0
  have HR := Aside0.mk (V_C hs0).2
  have HC := Aside0.mk (V_C hs0).1
  have HK := Aside0.mk h
  clear hs0 h
  subst hx
  have ho2 : (x1 != 2) = false := by rw [bne, ho]; rfl
  go_enter Try.func12, Try.ntmps12
  go_wp2_with fail
  (go_at_call 16; (with_reducible refine (drawbridgeref27_Find.calls _ _ l0 id _ _ _ _ _ _ _ _ (by first | exact HR.out | exact Kd.C_alloc HR.out _) HC.out HK.out).mono ?_); rintro e_ w1 ⟨rfl, hb_⟩; have HB_ : Aside0 (Below w.heap.size w w1) := Aside0.mk (below_step (bG HB) hb_); have hzw1 := hb_.size; (try simp at hzw1); clear HB hb_; have HB := HB_; clear HB_)
  (go_wp2; (first | go_region | skip); (all_goals go_wp2))
  all_goals go_ret2
  all_goals exact ⟨rfl, (bG HB)⟩
set_option maxHeartbeats 1600000 in
set_option maxRecDepth 100000 in
theorem rs_go (hs0 : Kd.V k34 34 w w.heap.size P0_ (.slice A0 l0.length c0) l0) (h : drawbridgeref27_Find.f l0 id = some (x0, x1, x2, x3, x4, x5, true)) (ho : (x1 == 2) = true) (hx : x5 = false) (lr : List S34) (hp : drawbridgeref27_put.f l0 x0 x1 x2 x3 x4 true = some lr) :
    Calls Try.prog 12 #[.slice A0 l0.length c0, .int .i64 id] w fun e w' => ∃ v, e = .returned (.tuple #[v, .bool true]) ∧ Kd.R k34 34 w' w.heap.size (fun _ => True) v lr ∧ Below w.heap.size w w' := by
  have HB := Aside0.mk (Below.refl w.heap.size w)
  have HS := Aside0.mk hs0
  have HR := Aside0.mk (V_C hs0).2
  have HC := Aside0.mk (V_C hs0).1
  have HK := Aside0.mk h
  clear hs0 h
  subst hx
  have ho2 : (x1 != 2) = false := by rw [bne, ho]; rfl
  have HP := Aside0.mk hp
  clear hp
  go_enter Try.func12, Try.ntmps12
  go_wp2_with fail
  (go_at_call 16; (with_reducible refine (drawbridgeref27_Find.calls _ _ l0 id _ _ _ _ _ _ _ _ (by first | exact HR.out | exact Kd.C_alloc HR.out _) HC.out HK.out).mono ?_); rintro e_ w1 ⟨rfl, hb_⟩; have HB_ : Aside0 (Below w.heap.size w w1) := Aside0.mk (below_step (bG HB) hb_); have hzw1 := hb_.size; (try simp at hzw1); clear HB hb_; have HB := HB_; clear HB_)
  go_wp2_with fail
  go_at_call 26; refine Calls.mono (drawbridgeref27_put.calls _ c0 l0 _ _ _ _ _ _ lr _ (Kd.C_below HR.out (bG HB)) HC.out HP.out) ?_; rintro e w2 ⟨v0, rfl, hR, hb2⟩
  have HR2 := Aside0.mk (Kd.R_lower hR (show w.heap.size ≤ _ by (try simp only [sz_alloc, sz_drew, sz_drewN, sz_set]); omega))
  have HB2 : Aside0 (Below w.heap.size w w2) := Aside0.mk (below_step (bG HB) hb2)
  clear hR hb2
  go_wp2
  go_ret2
  exact ⟨_, rfl, HR2.out, HB2.out⟩
end
def drawbridgeref27_Shut.f (l0 : List S34) (a1 : Int) : Option (List S34 × Bool) := (drawbridgeref27_Find.f l0 a1).bind fun b => (if b.2.2.2.2.2.2 = true then (if b.2.1 = 2 then (if b.2.2.2.2.2.1 = true then (some (l0, false)) else ((drawbridgeref27_put.f l0 b.1 b.2.1 b.2.2.1 b.2.2.2.1 b.2.2.2.2.1 true).bind fun t => (some (t, true)))) else (some (l0, false))) else (some (l0, false)))
theorem drawbridgeref27_Shut.calls (P0_ : Nat → Prop) (A0 : Option Addr) (c0 : Nat) (l0 : List (S34)) (a1 : Int) (r1 : List (S34)) (r2 : Bool) (w : World) (hs0 : Kd.V k34 34 w w.heap.size (fun k_ => P0_ k_) (.slice A0 l0.length c0) l0) (h : drawbridgeref27_Shut.f l0 a1 = some (r1, r2)) :
    Calls Try.prog 12 #[.slice A0 l0.length c0, .int .i64 a1] w fun e w' => ∃ v0_ : Value, e = .returned (.tuple #[v0_, .bool r2]) ∧ Kd.V k34 34 w' w.heap.size (fun k_ => (P0_ k_ ∨ w.heap.size ≤ k_)) v0_ r1 ∧ Below w.heap.size w w' := by
  unfold drawbridgeref27_Shut.f at h
  obtain ⟨⟨x0, x1, x2, x3, x4, x5, ok⟩, hf, h⟩ := Option.bind_eq_some_iff.1 h
  have hst : ∀ {b : Bool} {e : Ending} {w' : World}, (e = .returned (.tuple #[.slice A0 l0.length c0, .bool b]) ∧ Below w.heap.size w w') → ∃ v0_ : Value, e = .returned (.tuple #[v0_, .bool b]) ∧ Kd.V k34 34 w' w.heap.size (fun k_ => (P0_ k_ ∨ w.heap.size ≤ k_)) v0_ l0 ∧ Below w.heap.size w w' := fun h => ⟨_, h.1, V_stay hs0 h.2, h.2⟩
  dsimp only at h
  cases ok with
  | false =>
    obtain ⟨rfl, rfl⟩ : l0 = r1 ∧ false = r2 := by simpa using h
    exact (rs_no P0_ A0 c0 l0 a1 x0 x1 x2 x3 x4 x5 w hs0 hf).mono fun _ _ h => hst h
  | true =>
    rw [if_pos rfl] at h
    by_cases ho : x1 = 2
    · rw [if_pos ho] at h
      cases x5 with
      | true =>
        obtain ⟨rfl, rfl⟩ : l0 = r1 ∧ false = r2 := by simpa using h
        exact (rs_already P0_ A0 c0 l0 a1 x0 x1 x2 x3 x4 true w hs0 hf (beq_iff_eq.2 ho) rfl).mono fun _ _ h => hst h
      | false =>
        rw [if_neg (by decide)] at h
        obtain ⟨lr, hp, h⟩ := Option.bind_eq_some_iff.1 h
        obtain ⟨rfl, rfl⟩ : lr = r1 ∧ true = r2 := by simpa using h
        exact (rs_go P0_ A0 c0 l0 a1 x0 x1 x2 x3 x4 false w hs0 hf (beq_iff_eq.2 ho) rfl lr hp).mono fun _ _ ⟨v, he, hR, hb⟩ => ⟨v, he, V_new hR, hb⟩
    · rw [if_neg ho] at h
      obtain ⟨rfl, rfl⟩ : l0 = r1 ∧ false = r2 := by simpa using h
      exact (rs_notopen P0_ A0 c0 l0 a1 x0 x1 x2 x3 x4 x5 w hs0 hf (beq_eq_false_iff_ne.2 ho)).mono fun _ _ h => hst h
end Go.Proofs.Ytijdplpmcnhlbaa.Q
end
