/- The contract of alu.Do (its sums are chosen as values of functions). -/
import Derived.Test.YtielecanhammbaaQx1
import Derived.Test.YtielecanhammbaaKt
import Derived.RegionTactic
import Derived.BigRegion
import Derived.Deep.RegionWith
namespace Go.Proofs.Ytielecanhammbaa.Q
open Go.RowKit Go.Proofs.YtielecanhammbaaW.PrintWords Go.Proofs.YtielecanhammbaaW.PrintLast Go.Proofs.YtielecanhammbaaW.PrintMore Go.Proofs.Ytielecanhammbaa.L
attribute [local go_sem] Instr.field part asAgg lt_step max2_int min2_int max_two min_two max_three min_three max_four min_four lt_0_1 lt_0_2 lt_1_2 lt_0_3 lt_1_3 lt_2_3 lt_0_4 lt_1_4 lt_2_4 lt_3_4 lt_0_5 lt_1_5 lt_2_5 lt_3_5 lt_4_5 lt_0_6 lt_1_6 lt_2_6 lt_3_6 lt_4_6 lt_5_6 lt_0_7 lt_1_7 lt_2_7 lt_3_7 lt_4_7 lt_5_7 lt_6_7 lt_0_8 lt_1_8 lt_2_8 lt_3_8 lt_4_8 lt_5_8 lt_6_8 lt_7_8
set_option linter.unusedVariables false
set_option linter.unusedSimpArgs false
def sumId (f : Int) : Nat :=
  if f = 0 then 25 else
  if f = 8 then 26 else
  if f = 2 then 27 else
  if f = 3 then 28 else
  if f = 4 then 29 else
  if f = 6 then 30 else
  if f = 7 then 31 else
  if f = 16 then 32 else
  if f = 17 then 33 else
  if f = 18 then 34 else
  if f = 19 then 35 else
  if f = 20 then 36 else
  if f = 21 then 37 else
  if f = 22 then 38 else
  if f = 23 then 39 else
  40
def alu_sum.f (f a b : Int) : Option Int :=
  if f = 0 then alu_number_add.f a b else
  if f = 8 then alu_number_sub.f a b else
  if f = 2 then alu_number_slt.f a b else
  if f = 3 then alu_number_sltu.f a b else
  if f = 4 then alu_number_xor.f a b else
  if f = 6 then alu_number_or.f a b else
  if f = 7 then alu_number_and.f a b else
  if f = 16 then alu_number_mul.f a b else
  if f = 17 then alu_number_mulh.f a b else
  if f = 18 then alu_number_mulhsu.f a b else
  if f = 19 then alu_number_mulhu.f a b else
  if f = 20 then alu_number_div.f a b else
  if f = 21 then alu_number_divu.f a b else
  if f = 22 then alu_number_rem.f a b else
  if f = 23 then alu_number_remu.f a b else
  alu_number_zero.f a b
set_option maxHeartbeats 1600000 in
set_option maxRecDepth 100000 in
theorem sum_runs (f : Int) (w : World) : Calls Try.prog 19 #[.int .i64 f] w fun e w' => e = .returned (.func (Fn.func (sumId f)) #[] #[]) ∧ w = w' := by
  by_cases e0 : f = 0
  · subst e0
    have hs : sumId 0 = 25 := rfl
    rw [hs]
    clear hs
    go_enter Try.func19, Try.ntmps19
    go_wp2
    refine bodyPost_ret (v := .func (Fn.func 25) #[] #[]) (by simp [results, Try.results19, go_sem]) rfl ?_
    exact ⟨rfl, rfl⟩
  by_cases e8 : f = 8
  · subst e8
    have hs : sumId 8 = 26 := rfl
    rw [hs]
    clear hs
    go_enter Try.func19, Try.ntmps19
    go_wp2
    refine bodyPost_ret (v := .func (Fn.func 26) #[] #[]) (by simp [results, Try.results19, go_sem]) rfl ?_
    exact ⟨rfl, rfl⟩
  by_cases e2 : f = 2
  · subst e2
    have hs : sumId 2 = 27 := rfl
    rw [hs]
    clear hs
    go_enter Try.func19, Try.ntmps19
    go_wp2
    refine bodyPost_ret (v := .func (Fn.func 27) #[] #[]) (by simp [results, Try.results19, go_sem]) rfl ?_
    exact ⟨rfl, rfl⟩
  by_cases e3 : f = 3
  · subst e3
    have hs : sumId 3 = 28 := rfl
    rw [hs]
    clear hs
    go_enter Try.func19, Try.ntmps19
    go_wp2
    refine bodyPost_ret (v := .func (Fn.func 28) #[] #[]) (by simp [results, Try.results19, go_sem]) rfl ?_
    exact ⟨rfl, rfl⟩
  by_cases e4 : f = 4
  · subst e4
    have hs : sumId 4 = 29 := rfl
    rw [hs]
    clear hs
    go_enter Try.func19, Try.ntmps19
    go_wp2
    refine bodyPost_ret (v := .func (Fn.func 29) #[] #[]) (by simp [results, Try.results19, go_sem]) rfl ?_
    exact ⟨rfl, rfl⟩
  by_cases e6 : f = 6
  · subst e6
    have hs : sumId 6 = 30 := rfl
    rw [hs]
    clear hs
    go_enter Try.func19, Try.ntmps19
    go_wp2
    refine bodyPost_ret (v := .func (Fn.func 30) #[] #[]) (by simp [results, Try.results19, go_sem]) rfl ?_
    exact ⟨rfl, rfl⟩
  by_cases e7 : f = 7
  · subst e7
    have hs : sumId 7 = 31 := rfl
    rw [hs]
    clear hs
    go_enter Try.func19, Try.ntmps19
    go_wp2
    refine bodyPost_ret (v := .func (Fn.func 31) #[] #[]) (by simp [results, Try.results19, go_sem]) rfl ?_
    exact ⟨rfl, rfl⟩
  by_cases e16 : f = 16
  · subst e16
    have hs : sumId 16 = 32 := rfl
    rw [hs]
    clear hs
    go_enter Try.func19, Try.ntmps19
    go_wp2
    refine bodyPost_ret (v := .func (Fn.func 32) #[] #[]) (by simp [results, Try.results19, go_sem]) rfl ?_
    exact ⟨rfl, rfl⟩
  by_cases e17 : f = 17
  · subst e17
    have hs : sumId 17 = 33 := rfl
    rw [hs]
    clear hs
    go_enter Try.func19, Try.ntmps19
    go_wp2
    refine bodyPost_ret (v := .func (Fn.func 33) #[] #[]) (by simp [results, Try.results19, go_sem]) rfl ?_
    exact ⟨rfl, rfl⟩
  by_cases e18 : f = 18
  · subst e18
    have hs : sumId 18 = 34 := rfl
    rw [hs]
    clear hs
    go_enter Try.func19, Try.ntmps19
    go_wp2
    refine bodyPost_ret (v := .func (Fn.func 34) #[] #[]) (by simp [results, Try.results19, go_sem]) rfl ?_
    exact ⟨rfl, rfl⟩
  by_cases e19 : f = 19
  · subst e19
    have hs : sumId 19 = 35 := rfl
    rw [hs]
    clear hs
    go_enter Try.func19, Try.ntmps19
    go_wp2
    refine bodyPost_ret (v := .func (Fn.func 35) #[] #[]) (by simp [results, Try.results19, go_sem]) rfl ?_
    exact ⟨rfl, rfl⟩
  by_cases e20 : f = 20
  · subst e20
    have hs : sumId 20 = 36 := rfl
    rw [hs]
    clear hs
    go_enter Try.func19, Try.ntmps19
    go_wp2
    refine bodyPost_ret (v := .func (Fn.func 36) #[] #[]) (by simp [results, Try.results19, go_sem]) rfl ?_
    exact ⟨rfl, rfl⟩
  by_cases e21 : f = 21
  · subst e21
    have hs : sumId 21 = 37 := rfl
    rw [hs]
    clear hs
    go_enter Try.func19, Try.ntmps19
    go_wp2
    refine bodyPost_ret (v := .func (Fn.func 37) #[] #[]) (by simp [results, Try.results19, go_sem]) rfl ?_
    exact ⟨rfl, rfl⟩
  by_cases e22 : f = 22
  · subst e22
    have hs : sumId 22 = 38 := rfl
    rw [hs]
    clear hs
    go_enter Try.func19, Try.ntmps19
    go_wp2
    refine bodyPost_ret (v := .func (Fn.func 38) #[] #[]) (by simp [results, Try.results19, go_sem]) rfl ?_
    exact ⟨rfl, rfl⟩
  by_cases e23 : f = 23
  · subst e23
    have hs : sumId 23 = 39 := rfl
    rw [hs]
    clear hs
    go_enter Try.func19, Try.ntmps19
    go_wp2
    refine bodyPost_ret (v := .func (Fn.func 39) #[] #[]) (by simp [results, Try.results19, go_sem]) rfl ?_
    exact ⟨rfl, rfl⟩
  have hs : sumId f = 40 := by unfold sumId; simp [e0, e8, e2, e3, e4, e6, e7, e16, e17, e18, e19, e20, e21, e22, e23]
  rw [hs]
  clear hs
  go_enter Try.func19, Try.ntmps19
  go_wp2
  refine bodyPost_ret (v := .func (Fn.func 40) #[] #[]) (by simp [results, Try.results19, go_sem]) rfl ?_
  exact ⟨rfl, rfl⟩
theorem sum_drawn (f : Int) (w : World) : Calls Try.prog 19 #[.int .i64 f] w fun e w' => e = .returned (.func (Fn.func (sumId f)) #[] #[]) ∧ Drawn0 w w' :=
  (sum_runs f w).mono fun e w' ⟨a, b⟩ => ⟨a, b ▸ Drawn0.refl w⟩
theorem sum_call (f a b r : Int) (w : World) (h : alu_sum.f f a b = some r) : Calls Try.prog (sumId f) #[.int .u64 a, .int .u64 b] w fun e w' => e = .returned (.int .u64 r) ∧ Drawn0 w w' := by
  unfold alu_sum.f at h
  unfold sumId
  by_cases e0 : f = 0
  · rw [if_pos e0] at h ⊢; exact alu_number_add.calls a b r w h
  rw [if_neg e0] at h ⊢
  by_cases e8 : f = 8
  · rw [if_pos e8] at h ⊢; exact alu_number_sub.calls a b r w h
  rw [if_neg e8] at h ⊢
  by_cases e2 : f = 2
  · rw [if_pos e2] at h ⊢; exact alu_number_slt.calls a b r w h
  rw [if_neg e2] at h ⊢
  by_cases e3 : f = 3
  · rw [if_pos e3] at h ⊢; exact alu_number_sltu.calls a b r w h
  rw [if_neg e3] at h ⊢
  by_cases e4 : f = 4
  · rw [if_pos e4] at h ⊢; exact alu_number_xor.calls a b r w h
  rw [if_neg e4] at h ⊢
  by_cases e6 : f = 6
  · rw [if_pos e6] at h ⊢; exact alu_number_or.calls a b r w h
  rw [if_neg e6] at h ⊢
  by_cases e7 : f = 7
  · rw [if_pos e7] at h ⊢; exact alu_number_and.calls a b r w h
  rw [if_neg e7] at h ⊢
  by_cases e16 : f = 16
  · rw [if_pos e16] at h ⊢; exact alu_number_mul.calls a b r w h
  rw [if_neg e16] at h ⊢
  by_cases e17 : f = 17
  · rw [if_pos e17] at h ⊢; exact alu_number_mulh.calls a b r w h
  rw [if_neg e17] at h ⊢
  by_cases e18 : f = 18
  · rw [if_pos e18] at h ⊢; exact alu_number_mulhsu.calls a b r w h
  rw [if_neg e18] at h ⊢
  by_cases e19 : f = 19
  · rw [if_pos e19] at h ⊢; exact alu_number_mulhu.calls a b r w h
  rw [if_neg e19] at h ⊢
  by_cases e20 : f = 20
  · rw [if_pos e20] at h ⊢; exact alu_number_div.calls a b r w h
  rw [if_neg e20] at h ⊢
  by_cases e21 : f = 21
  · rw [if_pos e21] at h ⊢; exact alu_number_divu.calls a b r w h
  rw [if_neg e21] at h ⊢
  by_cases e22 : f = 22
  · rw [if_pos e22] at h ⊢; exact alu_number_rem.calls a b r w h
  rw [if_neg e22] at h ⊢
  by_cases e23 : f = 23
  · rw [if_pos e23] at h ⊢; exact alu_number_remu.calls a b r w h
  rw [if_neg e23] at h ⊢
  exact alu_number_zero.calls a b r w h
theorem sum_enter (f : Int) (args : Array Value) (w : World) : (callFunc (sumId f) args).run Try.prog w = .ok (.enter (sumId f) args) w := by
  unfold sumId
  by_cases e0 : f = 0
  · rw [if_pos e0]; exact Try.call25 args w
  rw [if_neg e0]
  by_cases e8 : f = 8
  · rw [if_pos e8]; exact Try.call26 args w
  rw [if_neg e8]
  by_cases e2 : f = 2
  · rw [if_pos e2]; exact Try.call27 args w
  rw [if_neg e2]
  by_cases e3 : f = 3
  · rw [if_pos e3]; exact Try.call28 args w
  rw [if_neg e3]
  by_cases e4 : f = 4
  · rw [if_pos e4]; exact Try.call29 args w
  rw [if_neg e4]
  by_cases e6 : f = 6
  · rw [if_pos e6]; exact Try.call30 args w
  rw [if_neg e6]
  by_cases e7 : f = 7
  · rw [if_pos e7]; exact Try.call31 args w
  rw [if_neg e7]
  by_cases e16 : f = 16
  · rw [if_pos e16]; exact Try.call32 args w
  rw [if_neg e16]
  by_cases e17 : f = 17
  · rw [if_pos e17]; exact Try.call33 args w
  rw [if_neg e17]
  by_cases e18 : f = 18
  · rw [if_pos e18]; exact Try.call34 args w
  rw [if_neg e18]
  by_cases e19 : f = 19
  · rw [if_pos e19]; exact Try.call35 args w
  rw [if_neg e19]
  by_cases e20 : f = 20
  · rw [if_pos e20]; exact Try.call36 args w
  rw [if_neg e20]
  by_cases e21 : f = 21
  · rw [if_pos e21]; exact Try.call37 args w
  rw [if_neg e21]
  by_cases e22 : f = 22
  · rw [if_pos e22]; exact Try.call38 args w
  rw [if_neg e22]
  by_cases e23 : f = 23
  · rw [if_pos e23]; exact Try.call39 args w
  rw [if_neg e23]
  exact Try.call40 args w
def alu_Do.f (f : Int) (word : Bool) (a b : Int) : Option Int :=
  if word = false then (if f = 1 ∨ f = 5 ∨ f = 13 then alu_shift.f f a (Go.bits .and .u64 b 63) else alu_sum.f f a b)
  else if f = 5 then (alu_shift.f 5 (a % 4294967296) (Go.bits .and .u64 b 31)).bind fun x => alu_extend.f x
  else if f = 1 ∨ f = 13 then (alu_extend.f a).bind fun x => (alu_shift.f f x (Go.bits .and .u64 b 31)).bind fun y => alu_extend.f y
  else if f = 21 ∨ f = 23 then (alu_sum.f f (a % 4294967296) (b % 4294967296)).bind fun x => alu_extend.f x
  else if f = 0 ∨ f = 8 ∨ f = 16 ∨ f = 20 ∨ f = 22 then (alu_extend.f a).bind fun x => (alu_extend.f b).bind fun y => (alu_sum.f f x y).bind fun z => alu_extend.f z
  else some 0
theorem drawn_drew {w w' : World} (h : Drawn0 w w') : Drawn0 w w'.drew := h.step 1
theorem drawn_trans {w w' w'' : World} (h : Drawn0 w w') (k : Drawn0 w' w'') : Drawn0 w w'' := by obtain ⟨n, rfl⟩ := k; exact h.step n
theorem shifts_is (f : Int) : alu_shifts.f f = some (decide (f = 1 ∨ f = 5 ∨ f = 13)) := by
  unfold alu_shifts.f
  by_cases h1 : f = 1
  · simp [h1]
  · by_cases h5 : f = 5
    · simp [h5]
    · rw [if_neg h1, if_neg h5]; by_cases h : f = 13 <;> simp [h, h1, h5]
set_option maxHeartbeats 1600000 in
set_option maxRecDepth 100000 in
theorem alu_Do.calls (f : Int) (word : Bool) (a b r : Int) (w : World) (h : alu_Do.f f word a b = some r) :
    Calls Try.prog 10 #[.int .i64 f, .bool word, .int .u64 a, .int .u64 b] w fun e w' => e = .returned (.int .u64 r) ∧ Drawn0 w w' := by
  unfold alu_Do.f at h
  have HD := Aside0.mk (Drawn0.refl w)
  have hse := sum_enter f
  by_cases hw : word = false
  · subst hw
    rw [if_pos rfl] at h
    by_cases hs : f = 1 ∨ f = 5 ∨ f = 13
    · rw [if_pos hs] at h
      have HH := Aside0.mk h
      have HS : Aside0 (alu_shifts.f f = some true) := ⟨by rw [shifts_is, decide_eq_true hs]⟩
      clear h hs
      go_enter Try.func10, Try.ntmps10
      go_wp2_with (first | (go_at_call 17; (with_reducible refine (alu_shifts.calls f true _ HS.out).mono ?_); rintro e_ w_ ⟨rfl, hd_⟩; have HD_ := Aside0.mk (drawn_trans (by repeat (first | exact HD.out | apply Drawn0.step | apply drawn_drew)) hd_); clear HD hd_; have HD := HD_; clear HD_) | (go_at_call 18; (with_reducible refine (alu_shift.calls f a _ r _ HH.out).mono ?_); rintro e_ w_ ⟨rfl, hd_⟩; have HD_ := Aside0.mk (drawn_trans (by repeat (first | exact HD.out | apply Drawn0.step | apply drawn_drew)) hd_); clear HD hd_; have HD := HD_; clear HD_))
      refine bodyPost_ret (v := .int .u64 r) (by simp [results, Try.results10, go_sem]) rfl ?_
      exact ⟨rfl, (by repeat (first | exact HD.out | apply Drawn0.step | apply drawn_drew))⟩
    · rw [if_neg hs] at h
      have HH := Aside0.mk h
      have HS : Aside0 (alu_shifts.f f = some false) := ⟨by rw [shifts_is, decide_eq_false hs]⟩
      clear h hs
      go_enter Try.func10, Try.ntmps10
      go_wp2_with (first | (go_at_call 17; (with_reducible refine (alu_shifts.calls f false _ HS.out).mono ?_); rintro e_ w_ ⟨rfl, hd_⟩; have HD_ := Aside0.mk (drawn_trans (by repeat (first | exact HD.out | apply Drawn0.step | apply drawn_drew)) hd_); clear HD hd_; have HD := HD_; clear HD_) | (go_at_call 19; (with_reducible refine (sum_drawn f _).mono ?_); rintro e_ w_ ⟨rfl, hd_⟩; have HD_ := Aside0.mk (drawn_trans (by repeat (first | exact HD.out | apply Drawn0.step | apply drawn_drew)) hd_); clear HD hd_; have HD := HD_; clear HD_) | (with_reducible refine (sum_call f a b r _ HH.out).mono ?_; rintro e_ w_ ⟨rfl, hd_⟩; have HD_ := Aside0.mk (drawn_trans (by repeat (first | exact HD.out | apply Drawn0.step | apply drawn_drew)) hd_); clear HD hd_; have HD := HD_; clear HD_))
      refine bodyPost_ret (v := .int .u64 r) (by simp [results, Try.results10, go_sem]) rfl ?_
      exact ⟨rfl, (by repeat (first | exact HD.out | apply Drawn0.step | apply drawn_drew))⟩
  obtain rfl : word = true := by cases word <;> simp_all
  rw [if_neg (by decide)] at h
  clear hw
  by_cases h5 : f = 5
  · subst h5
    rw [if_pos rfl] at h
    obtain ⟨x, hx, hr⟩ := Option.bind_eq_some_iff.1 h
    have HX := Aside0.mk hx
    have HR := Aside0.mk hr
    have HS : Aside0 (alu_shifts.f 5 = some true) := ⟨rfl⟩
    clear h hx hr
    go_enter Try.func10, Try.ntmps10
    go_wp2_with (first | (go_at_call 17; (with_reducible refine (alu_shifts.calls 5 true _ HS.out).mono ?_); rintro e_ w_ ⟨rfl, hd_⟩; have HD_ := Aside0.mk (drawn_trans (by repeat (first | exact HD.out | apply Drawn0.step | apply drawn_drew)) hd_); clear HD hd_; have HD := HD_; clear HD_) | (go_at_call 18; (with_reducible refine (alu_shift.calls 5 _ _ x _ HX.out).mono ?_); rintro e_ w_ ⟨rfl, hd_⟩; have HD_ := Aside0.mk (drawn_trans (by repeat (first | exact HD.out | apply Drawn0.step | apply drawn_drew)) hd_); clear HD hd_; have HD := HD_; clear HD_) | (go_at_call 20; (with_reducible refine (alu_extend.calls x r _ HR.out).mono ?_); rintro e_ w_ ⟨rfl, hd_⟩; have HD_ := Aside0.mk (drawn_trans (by repeat (first | exact HD.out | apply Drawn0.step | apply drawn_drew)) hd_); clear HD hd_; have HD := HD_; clear HD_))
    refine bodyPost_ret (v := .int .u64 r) (by simp [results, Try.results10, go_sem]) rfl ?_
    exact ⟨rfl, (by repeat (first | exact HD.out | apply Drawn0.step | apply drawn_drew))⟩
  rw [if_neg h5] at h
  by_cases hs : f = 1 ∨ f = 13
  · rw [if_pos hs] at h
    obtain ⟨x, hx, h2⟩ := Option.bind_eq_some_iff.1 h
    obtain ⟨y, hy, hr⟩ := Option.bind_eq_some_iff.1 h2
    have HX := Aside0.mk hx
    have HY := Aside0.mk hy
    have HR := Aside0.mk hr
    have HS : Aside0 (alu_shifts.f f = some true) := ⟨by rw [shifts_is, decide_eq_true (by omega)]⟩
    clear h hx hy h2 hr hs
    go_enter Try.func10, Try.ntmps10
    go_wp2_with (first | (go_at_call 17; (with_reducible refine (alu_shifts.calls f true _ HS.out).mono ?_); rintro e_ w_ ⟨rfl, hd_⟩; have HD_ := Aside0.mk (drawn_trans (by repeat (first | exact HD.out | apply Drawn0.step | apply drawn_drew)) hd_); clear HD hd_; have HD := HD_; clear HD_) | (go_at_call 18; (with_reducible refine (alu_shift.calls f x _ y _ HY.out).mono ?_); rintro e_ w_ ⟨rfl, hd_⟩; have HD_ := Aside0.mk (drawn_trans (by repeat (first | exact HD.out | apply Drawn0.step | apply drawn_drew)) hd_); clear HD hd_; have HD := HD_; clear HD_) | (go_at_call 20; (with_reducible refine (alu_extend.calls a x _ HX.out).mono ?_); rintro e_ w_ ⟨rfl, hd_⟩; have HD_ := Aside0.mk (drawn_trans (by repeat (first | exact HD.out | apply Drawn0.step | apply drawn_drew)) hd_); clear HD hd_; have HD := HD_; clear HD_) | (go_at_call 20; (with_reducible refine (alu_extend.calls y r _ HR.out).mono ?_); rintro e_ w_ ⟨rfl, hd_⟩; have HD_ := Aside0.mk (drawn_trans (by repeat (first | exact HD.out | apply Drawn0.step | apply drawn_drew)) hd_); clear HD hd_; have HD := HD_; clear HD_))
    refine bodyPost_ret (v := .int .u64 r) (by simp [results, Try.results10, go_sem]) rfl ?_
    exact ⟨rfl, (by repeat (first | exact HD.out | apply Drawn0.step | apply drawn_drew))⟩
  rw [if_neg hs] at h
  have HS : Aside0 (alu_shifts.f f = some false) := ⟨by rw [shifts_is, decide_eq_false (by omega)]⟩
  clear hs
  by_cases hu : f = 21 ∨ f = 23
  · rw [if_pos hu] at h
    obtain ⟨x, hx, hr⟩ := Option.bind_eq_some_iff.1 h
    have HX := Aside0.mk hx
    have HR := Aside0.mk hr
    clear h hx hr
    rcases hu with rfl | rfl
    all_goals
      go_enter Try.func10, Try.ntmps10
      go_wp2_with (first | (go_at_call 17; (with_reducible refine (alu_shifts.calls _ false _ HS.out).mono ?_); rintro e_ w_ ⟨rfl, hd_⟩; have HD_ := Aside0.mk (drawn_trans (by repeat (first | exact HD.out | apply Drawn0.step | apply drawn_drew)) hd_); clear HD hd_; have HD := HD_; clear HD_) | (go_at_call 19; (with_reducible refine (sum_drawn _ _).mono ?_); rintro e_ w_ ⟨rfl, hd_⟩; have HD_ := Aside0.mk (drawn_trans (by repeat (first | exact HD.out | apply Drawn0.step | apply drawn_drew)) hd_); clear HD hd_; have HD := HD_; clear HD_) | (with_reducible refine (sum_call _ _ _ x _ HX.out).mono ?_; rintro e_ w_ ⟨rfl, hd_⟩; have HD_ := Aside0.mk (drawn_trans (by repeat (first | exact HD.out | apply Drawn0.step | apply drawn_drew)) hd_); clear HD hd_; have HD := HD_; clear HD_) | (go_at_call 20; (with_reducible refine (alu_extend.calls x r _ HR.out).mono ?_); rintro e_ w_ ⟨rfl, hd_⟩; have HD_ := Aside0.mk (drawn_trans (by repeat (first | exact HD.out | apply Drawn0.step | apply drawn_drew)) hd_); clear HD hd_; have HD := HD_; clear HD_))
      refine bodyPost_ret (v := .int .u64 r) (by simp [results, Try.results10, go_sem]) rfl ?_
      exact ⟨rfl, (by repeat (first | exact HD.out | apply Drawn0.step | apply drawn_drew))⟩
  rw [if_neg hu] at h
  by_cases hv : f = 0 ∨ f = 8 ∨ f = 16 ∨ f = 20 ∨ f = 22
  · rw [if_pos hv] at h
    obtain ⟨x, hx, h2⟩ := Option.bind_eq_some_iff.1 h
    obtain ⟨y, hy, h3⟩ := Option.bind_eq_some_iff.1 h2
    obtain ⟨z, hz, hr⟩ := Option.bind_eq_some_iff.1 h3
    have HX := Aside0.mk hx
    have HY := Aside0.mk hy
    have HZ := Aside0.mk hz
    have HR := Aside0.mk hr
    clear h hx hr hy hz h2 h3
    rcases hv with rfl | rfl | rfl | rfl | rfl
    all_goals
      go_enter Try.func10, Try.ntmps10
      go_wp2_with (first | (go_at_call 17; (with_reducible refine (alu_shifts.calls _ false _ HS.out).mono ?_); rintro e_ w_ ⟨rfl, hd_⟩; have HD_ := Aside0.mk (drawn_trans (by repeat (first | exact HD.out | apply Drawn0.step | apply drawn_drew)) hd_); clear HD hd_; have HD := HD_; clear HD_) | (go_at_call 19; (with_reducible refine (sum_drawn _ _).mono ?_); rintro e_ w_ ⟨rfl, hd_⟩; have HD_ := Aside0.mk (drawn_trans (by repeat (first | exact HD.out | apply Drawn0.step | apply drawn_drew)) hd_); clear HD hd_; have HD := HD_; clear HD_) | (with_reducible refine (sum_call _ x y z _ HZ.out).mono ?_; rintro e_ w_ ⟨rfl, hd_⟩; have HD_ := Aside0.mk (drawn_trans (by repeat (first | exact HD.out | apply Drawn0.step | apply drawn_drew)) hd_); clear HD hd_; have HD := HD_; clear HD_) | (go_at_call 20; (with_reducible refine (alu_extend.calls a x _ HX.out).mono ?_); rintro e_ w_ ⟨rfl, hd_⟩; have HD_ := Aside0.mk (drawn_trans (by repeat (first | exact HD.out | apply Drawn0.step | apply drawn_drew)) hd_); clear HD hd_; have HD := HD_; clear HD_) | (go_at_call 20; (with_reducible refine (alu_extend.calls b y _ HY.out).mono ?_); rintro e_ w_ ⟨rfl, hd_⟩; have HD_ := Aside0.mk (drawn_trans (by repeat (first | exact HD.out | apply Drawn0.step | apply drawn_drew)) hd_); clear HD hd_; have HD := HD_; clear HD_) | (go_at_call 20; (with_reducible refine (alu_extend.calls z r _ HR.out).mono ?_); rintro e_ w_ ⟨rfl, hd_⟩; have HD_ := Aside0.mk (drawn_trans (by repeat (first | exact HD.out | apply Drawn0.step | apply drawn_drew)) hd_); clear HD hd_; have HD := HD_; clear HD_))
      refine bodyPost_ret (v := .int .u64 r) (by simp [results, Try.results10, go_sem]) rfl ?_
      exact ⟨rfl, (by repeat (first | exact HD.out | apply Drawn0.step | apply drawn_drew))⟩
  · rw [if_neg hv] at h
    injection h with h
    subst h
    have b0 : (f == 0) = false := beq_eq_false_iff_ne.2 (by omega)
    have b8 : (f == 8) = false := beq_eq_false_iff_ne.2 (by omega)
    have b16 : (f == 16) = false := beq_eq_false_iff_ne.2 (by omega)
    have b20 : (f == 20) = false := beq_eq_false_iff_ne.2 (by omega)
    have b22 : (f == 22) = false := beq_eq_false_iff_ne.2 (by omega)
    have b5 : (f == 5) = false := beq_eq_false_iff_ne.2 (by omega)
    have b21 : (f == 21) = false := beq_eq_false_iff_ne.2 (by omega)
    have b23 : (f == 23) = false := beq_eq_false_iff_ne.2 (by omega)
    clear hu hv h5
    go_enter Try.func10, Try.ntmps10
    go_wp2_with (first | (go_at_call 17; (with_reducible refine (alu_shifts.calls _ false _ HS.out).mono ?_); rintro e_ w_ ⟨rfl, hd_⟩; have HD_ := Aside0.mk (drawn_trans (by repeat (first | exact HD.out | apply Drawn0.step | apply drawn_drew)) hd_); clear HD hd_; have HD := HD_; clear HD_))
    refine bodyPost_ret (v := .int .u64 0) (by simp [results, Try.results10, go_sem]) rfl ?_
    exact ⟨rfl, (by repeat (first | exact HD.out | apply Drawn0.step | apply drawn_drew))⟩
end Go.Proofs.Ytielecanhammbaa.Q
