import Derived.Test.YtbidnolopbjlaaaHZ3
import Derived.Test.YtbidnolopbjlaaaHZ1
import Derived.Test.YtbidnolopbjlaaaHQx4
/- The reference's 'allowed' (layer 8). -/
namespace Go.Proofs.Ytbidnolopbjlaaa.Q
open Go.RowKit Go.Proofs.YtbidnolopbjlaaaW.PrintWords Go.Proofs.YtbidnolopbjlaaaW.PrintLast Go.Proofs.YtbidnolopbjlaaaW.PrintMore Go.Proofs.Ytbidnolopbjlaaa.L
attribute [local go_sem] Instr.field part asAgg lt_step max2_int min2_int max_two min_two max_three min_three max_four min_four lt_0_1 lt_0_2 lt_1_2 lt_0_3 lt_1_3 lt_2_3 lt_0_4 lt_1_4 lt_2_4 lt_3_4 lt_0_5 lt_1_5 lt_2_5 lt_3_5 lt_4_5 lt_0_6 lt_1_6 lt_2_6 lt_3_6 lt_4_6 lt_5_6 lt_0_7 lt_1_7 lt_2_7 lt_3_7 lt_4_7 lt_5_7 lt_6_7 lt_0_8 lt_1_8 lt_2_8 lt_3_8 lt_4_8 lt_5_8 lt_6_8 lt_7_8
set_option linter.unusedVariables false
set_option linter.unusedSimpArgs false
def allowedB (priv : Int) (bu : Bool) (kind : Int) (bs br bw bx bm : Bool) (level : Int) (bl : Bool) : Bool :=
  if priv < 1 ∧ bu = false then false
  else if 1 ≤ priv ∧ bu = true ∧ (kind = 0 ∨ bs = true) then false
  else if (if kind = 0 then bx else if kind = 2 then bw else br || (bx && bm)) = false then false
  else level == 0 || bl
def allowedZ (e status priv kind level : Int) : Bool :=
  allowedB priv (fieldZ e 4 4 == 1) kind (fieldZ status 18 18 == 0) (fieldZ e 1 1 == 1) (fieldZ e 2 2 == 1) (fieldZ e 3 3 == 1) (fieldZ status 19 19 == 1) level (fieldZ e (10 + 9 * level - 1) 10 == 0)
theorem rf_c (x h l : Int) (W : World) (hx : u64B x) (hh : -9223372036854775808 ≤ h ∧ h ≤ 9223372036854775807) (hl : -9223372036854775808 ≤ l ∧ l ≤ 9223372036854775807) :
    Calls Try.prog 23 #[.int .u64 x, .int .i64 h, .int .i64 l] W fun e w' => e = .returned (.int .u64 (fieldZ x h l)) ∧ Drawn0 W w' :=
  drawbridgeref08_f.calls 3 x h l _ W (by unfold drawbridgeref08_f.f; rw [reffield_tells 2 x h l hx hh hl]; rfl)
section
variable (e status priv kind level : Int) (w : World) (u4 s18 r1 w2 x3 m19 lo : Int) (bu bs br bw bx bm bl : Bool)
set_option maxHeartbeats 1600000 in
set_option maxRecDepth 100000 in
theorem allowed_uf0 (he : u64B e) (hs : u64B status) (hl0 : 0 ≤ level) (hl2 : level ≤ 2)
    (f4 : fieldZ e 4 4 = u4) (f18 : fieldZ status 18 18 = s18) (f1 : fieldZ e 1 1 = r1) (f2 : fieldZ e 2 2 = w2) (f3 : fieldZ e 3 3 = x3) (f19 : fieldZ status 19 19 = m19) (fl : fieldZ e (10 + 9 * level - 1) 10 = lo)
    (g4 : (u4 == 1) = bu) (g18 : (s18 == 0) = bs) (g1 : (r1 == 1) = br) (g2 : (w2 == 1) = bw) (g3 : (x3 == 1) = bx) (g19 : (m19 == 1) = bm) (gl : (lo == 0) = bl)
    (hp : decide (priv < 1) = true ∧ decide (1 ≤ priv) = false) (hP : priv < 1) (hk : (kind == 0) = true) (hK : kind = 0) (hv : (level == 0) = true) :
    Calls Try.prog 25 #[.int .u64 e, .int .u64 status, .int .i64 priv, .int .i64 kind, .int .i64 level] w fun e' w' => e' = .returned (.bool (allowedB priv bu kind bs br bw bx bm level bl)) ∧ Drawn0 w w' := by
  have c4 : Aside0 (∀ W, Calls Try.prog 23 #[.int .u64 e, .int .i64 4, .int .i64 4] W fun e w' => e = .returned (.int .u64 u4) ∧ Drawn0 W w') := ⟨fun W => by rw [← f4]; exact rf_c e 4 4 W he (by decide) (by decide)⟩
  have c18 : Aside0 (∀ W, Calls Try.prog 23 #[.int .u64 status, .int .i64 18, .int .i64 18] W fun e w' => e = .returned (.int .u64 s18) ∧ Drawn0 W w') := ⟨fun W => by rw [← f18]; exact rf_c status 18 18 W hs (by decide) (by decide)⟩
  have c1 : Aside0 (∀ W, Calls Try.prog 23 #[.int .u64 e, .int .i64 1, .int .i64 1] W fun e w' => e = .returned (.int .u64 r1) ∧ Drawn0 W w') := ⟨fun W => by rw [← f1]; exact rf_c e 1 1 W he (by decide) (by decide)⟩
  have c2 : Aside0 (∀ W, Calls Try.prog 23 #[.int .u64 e, .int .i64 2, .int .i64 2] W fun e w' => e = .returned (.int .u64 w2) ∧ Drawn0 W w') := ⟨fun W => by rw [← f2]; exact rf_c e 2 2 W he (by decide) (by decide)⟩
  have c3 : Aside0 (∀ W, Calls Try.prog 23 #[.int .u64 e, .int .i64 3, .int .i64 3] W fun e w' => e = .returned (.int .u64 x3) ∧ Drawn0 W w') := ⟨fun W => by rw [← f3]; exact rf_c e 3 3 W he (by decide) (by decide)⟩
  have c19 : Aside0 (∀ W, Calls Try.prog 23 #[.int .u64 status, .int .i64 19, .int .i64 19] W fun e w' => e = .returned (.int .u64 m19) ∧ Drawn0 W w') := ⟨fun W => by rw [← f19]; exact rf_c status 19 19 W hs (by decide) (by decide)⟩
  have cl : Aside0 (∀ W, Calls Try.prog 23 #[.int .u64 e, .int .i64 (10 + 9 * level - 1), .int .i64 10] W fun e w' => e = .returned (.int .u64 lo) ∧ Drawn0 W w') := ⟨fun W => by rw [← fl]; exact rf_c e (10 + 9 * level - 1) 10 W he (by omega) (by decide)⟩
  obtain ⟨hp1, hp2⟩ := hp
  have HP := Aside0.mk hP
  have HK := Aside0.mk hK
  have HD := Aside0.mk (Drawn0.refl w)
  clear hP hK
  clear f4 f18 f1 f2 f3 f19 fl he hs
  go_enter Try.func25, Try.ntmps25
  go_wp2_with (first | (go_at_call 23; (with_reducible refine (c4.out _).mono ?_); rintro e_ w_ ⟨rfl, hd_⟩; obtain ⟨n_, rfl⟩ := hd_.out; clear hd_) | (go_at_call 23; (with_reducible refine (c18.out _).mono ?_); rintro e_ w_ ⟨rfl, hd_⟩; obtain ⟨n_, rfl⟩ := hd_.out; clear hd_) | (go_at_call 23; (with_reducible refine (c1.out _).mono ?_); rintro e_ w_ ⟨rfl, hd_⟩; obtain ⟨n_, rfl⟩ := hd_.out; clear hd_) | (go_at_call 23; (with_reducible refine (c2.out _).mono ?_); rintro e_ w_ ⟨rfl, hd_⟩; obtain ⟨n_, rfl⟩ := hd_.out; clear hd_) | (go_at_call 23; (with_reducible refine (c3.out _).mono ?_); rintro e_ w_ ⟨rfl, hd_⟩; obtain ⟨n_, rfl⟩ := hd_.out; clear hd_) | (go_at_call 23; (with_reducible refine (c19.out _).mono ?_); rintro e_ w_ ⟨rfl, hd_⟩; obtain ⟨n_, rfl⟩ := hd_.out; clear hd_) | (go_at_call 23; (with_reducible refine (cl.out _).mono ?_); rintro e_ w_ ⟨rfl, hd_⟩; obtain ⟨n_, rfl⟩ := hd_.out; clear hd_))
  all_goals (go_ret; refine ⟨congrArg (fun b => Ending.returned (.bool b)) ?_, by repeat (first | exact Drawn0.refl _ | apply Drawn0.step | apply drawn_drew)⟩)
  all_goals (have hP := HP.out; have hK := HK.out; clear HP HK HD c4 c18 c1 c2 c3 c19 cl; clear g4 g18 g1 g2 g3 g19 gl hp1 hp2 hl0 hl2 hk; unfold allowedB)
  all_goals (have hq : ¬ 1 ≤ priv := by omega)
  all_goals (simp only [hP, hq, hK, if_true, if_false, true_and, false_and, and_true, and_false, true_or, or_true, false_or, or_false, hv, Bool.true_or, Bool.false_or])
  all_goals (cases bu <;> cases bs <;> cases br <;> cases bw <;> cases bx <;> cases bm <;> first | rfl | (simp at *; done) | (exfalso; simp_all; done) | (simp_all; done))
set_option maxHeartbeats 1600000 in
set_option maxRecDepth 100000 in
theorem allowed_ufn (he : u64B e) (hs : u64B status) (hl0 : 0 ≤ level) (hl2 : level ≤ 2)
    (f4 : fieldZ e 4 4 = u4) (f18 : fieldZ status 18 18 = s18) (f1 : fieldZ e 1 1 = r1) (f2 : fieldZ e 2 2 = w2) (f3 : fieldZ e 3 3 = x3) (f19 : fieldZ status 19 19 = m19) (fl : fieldZ e (10 + 9 * level - 1) 10 = lo)
    (g4 : (u4 == 1) = bu) (g18 : (s18 == 0) = bs) (g1 : (r1 == 1) = br) (g2 : (w2 == 1) = bw) (g3 : (x3 == 1) = bx) (g19 : (m19 == 1) = bm) (gl : (lo == 0) = bl)
    (hp : decide (priv < 1) = true ∧ decide (1 ≤ priv) = false) (hP : priv < 1) (hk : (kind == 0) = true) (hK : kind = 0) (hv : (level == 0) = false) :
    Calls Try.prog 25 #[.int .u64 e, .int .u64 status, .int .i64 priv, .int .i64 kind, .int .i64 level] w fun e' w' => e' = .returned (.bool (allowedB priv bu kind bs br bw bx bm level bl)) ∧ Drawn0 w w' := by
  have c4 : Aside0 (∀ W, Calls Try.prog 23 #[.int .u64 e, .int .i64 4, .int .i64 4] W fun e w' => e = .returned (.int .u64 u4) ∧ Drawn0 W w') := ⟨fun W => by rw [← f4]; exact rf_c e 4 4 W he (by decide) (by decide)⟩
  have c18 : Aside0 (∀ W, Calls Try.prog 23 #[.int .u64 status, .int .i64 18, .int .i64 18] W fun e w' => e = .returned (.int .u64 s18) ∧ Drawn0 W w') := ⟨fun W => by rw [← f18]; exact rf_c status 18 18 W hs (by decide) (by decide)⟩
  have c1 : Aside0 (∀ W, Calls Try.prog 23 #[.int .u64 e, .int .i64 1, .int .i64 1] W fun e w' => e = .returned (.int .u64 r1) ∧ Drawn0 W w') := ⟨fun W => by rw [← f1]; exact rf_c e 1 1 W he (by decide) (by decide)⟩
  have c2 : Aside0 (∀ W, Calls Try.prog 23 #[.int .u64 e, .int .i64 2, .int .i64 2] W fun e w' => e = .returned (.int .u64 w2) ∧ Drawn0 W w') := ⟨fun W => by rw [← f2]; exact rf_c e 2 2 W he (by decide) (by decide)⟩
  have c3 : Aside0 (∀ W, Calls Try.prog 23 #[.int .u64 e, .int .i64 3, .int .i64 3] W fun e w' => e = .returned (.int .u64 x3) ∧ Drawn0 W w') := ⟨fun W => by rw [← f3]; exact rf_c e 3 3 W he (by decide) (by decide)⟩
  have c19 : Aside0 (∀ W, Calls Try.prog 23 #[.int .u64 status, .int .i64 19, .int .i64 19] W fun e w' => e = .returned (.int .u64 m19) ∧ Drawn0 W w') := ⟨fun W => by rw [← f19]; exact rf_c status 19 19 W hs (by decide) (by decide)⟩
  have cl : Aside0 (∀ W, Calls Try.prog 23 #[.int .u64 e, .int .i64 (10 + 9 * level - 1), .int .i64 10] W fun e w' => e = .returned (.int .u64 lo) ∧ Drawn0 W w') := ⟨fun W => by rw [← fl]; exact rf_c e (10 + 9 * level - 1) 10 W he (by omega) (by decide)⟩
  obtain ⟨hp1, hp2⟩ := hp
  have HP := Aside0.mk hP
  have HK := Aside0.mk hK
  have HD := Aside0.mk (Drawn0.refl w)
  clear hP hK
  clear f4 f18 f1 f2 f3 f19 fl he hs
  go_enter Try.func25, Try.ntmps25
  go_wp2_with (first | (go_at_call 23; (with_reducible refine (c4.out _).mono ?_); rintro e_ w_ ⟨rfl, hd_⟩; obtain ⟨n_, rfl⟩ := hd_.out; clear hd_) | (go_at_call 23; (with_reducible refine (c18.out _).mono ?_); rintro e_ w_ ⟨rfl, hd_⟩; obtain ⟨n_, rfl⟩ := hd_.out; clear hd_) | (go_at_call 23; (with_reducible refine (c1.out _).mono ?_); rintro e_ w_ ⟨rfl, hd_⟩; obtain ⟨n_, rfl⟩ := hd_.out; clear hd_) | (go_at_call 23; (with_reducible refine (c2.out _).mono ?_); rintro e_ w_ ⟨rfl, hd_⟩; obtain ⟨n_, rfl⟩ := hd_.out; clear hd_) | (go_at_call 23; (with_reducible refine (c3.out _).mono ?_); rintro e_ w_ ⟨rfl, hd_⟩; obtain ⟨n_, rfl⟩ := hd_.out; clear hd_) | (go_at_call 23; (with_reducible refine (c19.out _).mono ?_); rintro e_ w_ ⟨rfl, hd_⟩; obtain ⟨n_, rfl⟩ := hd_.out; clear hd_) | (go_at_call 23; (with_reducible refine (cl.out _).mono ?_); rintro e_ w_ ⟨rfl, hd_⟩; obtain ⟨n_, rfl⟩ := hd_.out; clear hd_))
  all_goals (go_ret; refine ⟨congrArg (fun b => Ending.returned (.bool b)) ?_, by repeat (first | exact Drawn0.refl _ | apply Drawn0.step | apply drawn_drew)⟩)
  all_goals (have hP := HP.out; have hK := HK.out; clear HP HK HD c4 c18 c1 c2 c3 c19 cl; clear g4 g18 g1 g2 g3 g19 gl hp1 hp2 hl0 hl2 hk; unfold allowedB)
  all_goals (have hq : ¬ 1 ≤ priv := by omega)
  all_goals (simp only [hP, hq, hK, if_true, if_false, true_and, false_and, and_true, and_false, true_or, or_true, false_or, or_false, hv, Bool.true_or, Bool.false_or])
  all_goals (cases bu <;> cases bs <;> cases br <;> cases bw <;> cases bx <;> cases bm <;> first | rfl | (simp at *; done) | (exfalso; simp_all; done) | (simp_all; done))
set_option maxHeartbeats 1600000 in
set_option maxRecDepth 100000 in
theorem allowed_uw0 (he : u64B e) (hs : u64B status) (hl0 : 0 ≤ level) (hl2 : level ≤ 2)
    (f4 : fieldZ e 4 4 = u4) (f18 : fieldZ status 18 18 = s18) (f1 : fieldZ e 1 1 = r1) (f2 : fieldZ e 2 2 = w2) (f3 : fieldZ e 3 3 = x3) (f19 : fieldZ status 19 19 = m19) (fl : fieldZ e (10 + 9 * level - 1) 10 = lo)
    (g4 : (u4 == 1) = bu) (g18 : (s18 == 0) = bs) (g1 : (r1 == 1) = br) (g2 : (w2 == 1) = bw) (g3 : (x3 == 1) = bx) (g19 : (m19 == 1) = bm) (gl : (lo == 0) = bl)
    (hp : decide (priv < 1) = true ∧ decide (1 ≤ priv) = false) (hP : priv < 1) (hk : (kind == 0) = false) (hk2 : (kind == 2) = true) (hK : kind = 2) (hv : (level == 0) = true) :
    Calls Try.prog 25 #[.int .u64 e, .int .u64 status, .int .i64 priv, .int .i64 kind, .int .i64 level] w fun e' w' => e' = .returned (.bool (allowedB priv bu kind bs br bw bx bm level bl)) ∧ Drawn0 w w' := by
  have c4 : Aside0 (∀ W, Calls Try.prog 23 #[.int .u64 e, .int .i64 4, .int .i64 4] W fun e w' => e = .returned (.int .u64 u4) ∧ Drawn0 W w') := ⟨fun W => by rw [← f4]; exact rf_c e 4 4 W he (by decide) (by decide)⟩
  have c18 : Aside0 (∀ W, Calls Try.prog 23 #[.int .u64 status, .int .i64 18, .int .i64 18] W fun e w' => e = .returned (.int .u64 s18) ∧ Drawn0 W w') := ⟨fun W => by rw [← f18]; exact rf_c status 18 18 W hs (by decide) (by decide)⟩
  have c1 : Aside0 (∀ W, Calls Try.prog 23 #[.int .u64 e, .int .i64 1, .int .i64 1] W fun e w' => e = .returned (.int .u64 r1) ∧ Drawn0 W w') := ⟨fun W => by rw [← f1]; exact rf_c e 1 1 W he (by decide) (by decide)⟩
  have c2 : Aside0 (∀ W, Calls Try.prog 23 #[.int .u64 e, .int .i64 2, .int .i64 2] W fun e w' => e = .returned (.int .u64 w2) ∧ Drawn0 W w') := ⟨fun W => by rw [← f2]; exact rf_c e 2 2 W he (by decide) (by decide)⟩
  have c3 : Aside0 (∀ W, Calls Try.prog 23 #[.int .u64 e, .int .i64 3, .int .i64 3] W fun e w' => e = .returned (.int .u64 x3) ∧ Drawn0 W w') := ⟨fun W => by rw [← f3]; exact rf_c e 3 3 W he (by decide) (by decide)⟩
  have c19 : Aside0 (∀ W, Calls Try.prog 23 #[.int .u64 status, .int .i64 19, .int .i64 19] W fun e w' => e = .returned (.int .u64 m19) ∧ Drawn0 W w') := ⟨fun W => by rw [← f19]; exact rf_c status 19 19 W hs (by decide) (by decide)⟩
  have cl : Aside0 (∀ W, Calls Try.prog 23 #[.int .u64 e, .int .i64 (10 + 9 * level - 1), .int .i64 10] W fun e w' => e = .returned (.int .u64 lo) ∧ Drawn0 W w') := ⟨fun W => by rw [← fl]; exact rf_c e (10 + 9 * level - 1) 10 W he (by omega) (by decide)⟩
  obtain ⟨hp1, hp2⟩ := hp
  have HP := Aside0.mk hP
  have HK := Aside0.mk hK
  have HD := Aside0.mk (Drawn0.refl w)
  clear hP hK
  clear f4 f18 f1 f2 f3 f19 fl he hs
  go_enter Try.func25, Try.ntmps25
  go_wp2_with (first | (go_at_call 23; (with_reducible refine (c4.out _).mono ?_); rintro e_ w_ ⟨rfl, hd_⟩; obtain ⟨n_, rfl⟩ := hd_.out; clear hd_) | (go_at_call 23; (with_reducible refine (c18.out _).mono ?_); rintro e_ w_ ⟨rfl, hd_⟩; obtain ⟨n_, rfl⟩ := hd_.out; clear hd_) | (go_at_call 23; (with_reducible refine (c1.out _).mono ?_); rintro e_ w_ ⟨rfl, hd_⟩; obtain ⟨n_, rfl⟩ := hd_.out; clear hd_) | (go_at_call 23; (with_reducible refine (c2.out _).mono ?_); rintro e_ w_ ⟨rfl, hd_⟩; obtain ⟨n_, rfl⟩ := hd_.out; clear hd_) | (go_at_call 23; (with_reducible refine (c3.out _).mono ?_); rintro e_ w_ ⟨rfl, hd_⟩; obtain ⟨n_, rfl⟩ := hd_.out; clear hd_) | (go_at_call 23; (with_reducible refine (c19.out _).mono ?_); rintro e_ w_ ⟨rfl, hd_⟩; obtain ⟨n_, rfl⟩ := hd_.out; clear hd_) | (go_at_call 23; (with_reducible refine (cl.out _).mono ?_); rintro e_ w_ ⟨rfl, hd_⟩; obtain ⟨n_, rfl⟩ := hd_.out; clear hd_))
  all_goals (go_ret; refine ⟨congrArg (fun b => Ending.returned (.bool b)) ?_, by repeat (first | exact Drawn0.refl _ | apply Drawn0.step | apply drawn_drew)⟩)
  all_goals (have hP := HP.out; have hK := HK.out; clear HP HK HD c4 c18 c1 c2 c3 c19 cl; clear g4 g18 g1 g2 g3 g19 gl hp1 hp2 hl0 hl2 hk hk2; unfold allowedB)
  all_goals (have hq : ¬ 1 ≤ priv := by omega)
  all_goals (simp only [hP, hq, hK, show ¬ ((2 : Int) = 0) by decide, if_true, if_false, true_and, false_and, and_true, and_false, true_or, or_true, false_or, or_false, hv, Bool.true_or, Bool.false_or])
  all_goals (cases bu <;> cases bs <;> cases br <;> cases bw <;> cases bx <;> cases bm <;> first | rfl | (simp at *; done) | (exfalso; simp_all; done) | (simp_all; done))
set_option maxHeartbeats 1600000 in
set_option maxRecDepth 100000 in
theorem allowed_uwn (he : u64B e) (hs : u64B status) (hl0 : 0 ≤ level) (hl2 : level ≤ 2)
    (f4 : fieldZ e 4 4 = u4) (f18 : fieldZ status 18 18 = s18) (f1 : fieldZ e 1 1 = r1) (f2 : fieldZ e 2 2 = w2) (f3 : fieldZ e 3 3 = x3) (f19 : fieldZ status 19 19 = m19) (fl : fieldZ e (10 + 9 * level - 1) 10 = lo)
    (g4 : (u4 == 1) = bu) (g18 : (s18 == 0) = bs) (g1 : (r1 == 1) = br) (g2 : (w2 == 1) = bw) (g3 : (x3 == 1) = bx) (g19 : (m19 == 1) = bm) (gl : (lo == 0) = bl)
    (hp : decide (priv < 1) = true ∧ decide (1 ≤ priv) = false) (hP : priv < 1) (hk : (kind == 0) = false) (hk2 : (kind == 2) = true) (hK : kind = 2) (hv : (level == 0) = false) :
    Calls Try.prog 25 #[.int .u64 e, .int .u64 status, .int .i64 priv, .int .i64 kind, .int .i64 level] w fun e' w' => e' = .returned (.bool (allowedB priv bu kind bs br bw bx bm level bl)) ∧ Drawn0 w w' := by
  have c4 : Aside0 (∀ W, Calls Try.prog 23 #[.int .u64 e, .int .i64 4, .int .i64 4] W fun e w' => e = .returned (.int .u64 u4) ∧ Drawn0 W w') := ⟨fun W => by rw [← f4]; exact rf_c e 4 4 W he (by decide) (by decide)⟩
  have c18 : Aside0 (∀ W, Calls Try.prog 23 #[.int .u64 status, .int .i64 18, .int .i64 18] W fun e w' => e = .returned (.int .u64 s18) ∧ Drawn0 W w') := ⟨fun W => by rw [← f18]; exact rf_c status 18 18 W hs (by decide) (by decide)⟩
  have c1 : Aside0 (∀ W, Calls Try.prog 23 #[.int .u64 e, .int .i64 1, .int .i64 1] W fun e w' => e = .returned (.int .u64 r1) ∧ Drawn0 W w') := ⟨fun W => by rw [← f1]; exact rf_c e 1 1 W he (by decide) (by decide)⟩
  have c2 : Aside0 (∀ W, Calls Try.prog 23 #[.int .u64 e, .int .i64 2, .int .i64 2] W fun e w' => e = .returned (.int .u64 w2) ∧ Drawn0 W w') := ⟨fun W => by rw [← f2]; exact rf_c e 2 2 W he (by decide) (by decide)⟩
  have c3 : Aside0 (∀ W, Calls Try.prog 23 #[.int .u64 e, .int .i64 3, .int .i64 3] W fun e w' => e = .returned (.int .u64 x3) ∧ Drawn0 W w') := ⟨fun W => by rw [← f3]; exact rf_c e 3 3 W he (by decide) (by decide)⟩
  have c19 : Aside0 (∀ W, Calls Try.prog 23 #[.int .u64 status, .int .i64 19, .int .i64 19] W fun e w' => e = .returned (.int .u64 m19) ∧ Drawn0 W w') := ⟨fun W => by rw [← f19]; exact rf_c status 19 19 W hs (by decide) (by decide)⟩
  have cl : Aside0 (∀ W, Calls Try.prog 23 #[.int .u64 e, .int .i64 (10 + 9 * level - 1), .int .i64 10] W fun e w' => e = .returned (.int .u64 lo) ∧ Drawn0 W w') := ⟨fun W => by rw [← fl]; exact rf_c e (10 + 9 * level - 1) 10 W he (by omega) (by decide)⟩
  obtain ⟨hp1, hp2⟩ := hp
  have HP := Aside0.mk hP
  have HK := Aside0.mk hK
  have HD := Aside0.mk (Drawn0.refl w)
  clear hP hK
  clear f4 f18 f1 f2 f3 f19 fl he hs
  go_enter Try.func25, Try.ntmps25
  go_wp2_with (first | (go_at_call 23; (with_reducible refine (c4.out _).mono ?_); rintro e_ w_ ⟨rfl, hd_⟩; obtain ⟨n_, rfl⟩ := hd_.out; clear hd_) | (go_at_call 23; (with_reducible refine (c18.out _).mono ?_); rintro e_ w_ ⟨rfl, hd_⟩; obtain ⟨n_, rfl⟩ := hd_.out; clear hd_) | (go_at_call 23; (with_reducible refine (c1.out _).mono ?_); rintro e_ w_ ⟨rfl, hd_⟩; obtain ⟨n_, rfl⟩ := hd_.out; clear hd_) | (go_at_call 23; (with_reducible refine (c2.out _).mono ?_); rintro e_ w_ ⟨rfl, hd_⟩; obtain ⟨n_, rfl⟩ := hd_.out; clear hd_) | (go_at_call 23; (with_reducible refine (c3.out _).mono ?_); rintro e_ w_ ⟨rfl, hd_⟩; obtain ⟨n_, rfl⟩ := hd_.out; clear hd_) | (go_at_call 23; (with_reducible refine (c19.out _).mono ?_); rintro e_ w_ ⟨rfl, hd_⟩; obtain ⟨n_, rfl⟩ := hd_.out; clear hd_) | (go_at_call 23; (with_reducible refine (cl.out _).mono ?_); rintro e_ w_ ⟨rfl, hd_⟩; obtain ⟨n_, rfl⟩ := hd_.out; clear hd_))
  all_goals (go_ret; refine ⟨congrArg (fun b => Ending.returned (.bool b)) ?_, by repeat (first | exact Drawn0.refl _ | apply Drawn0.step | apply drawn_drew)⟩)
  all_goals (have hP := HP.out; have hK := HK.out; clear HP HK HD c4 c18 c1 c2 c3 c19 cl; clear g4 g18 g1 g2 g3 g19 gl hp1 hp2 hl0 hl2 hk hk2; unfold allowedB)
  all_goals (have hq : ¬ 1 ≤ priv := by omega)
  all_goals (simp only [hP, hq, hK, show ¬ ((2 : Int) = 0) by decide, if_true, if_false, true_and, false_and, and_true, and_false, true_or, or_true, false_or, or_false, hv, Bool.true_or, Bool.false_or])
  all_goals (cases bu <;> cases bs <;> cases br <;> cases bw <;> cases bx <;> cases bm <;> first | rfl | (simp at *; done) | (exfalso; simp_all; done) | (simp_all; done))
set_option maxHeartbeats 1600000 in
set_option maxRecDepth 100000 in
theorem allowed_ur0 (he : u64B e) (hs : u64B status) (hl0 : 0 ≤ level) (hl2 : level ≤ 2)
    (f4 : fieldZ e 4 4 = u4) (f18 : fieldZ status 18 18 = s18) (f1 : fieldZ e 1 1 = r1) (f2 : fieldZ e 2 2 = w2) (f3 : fieldZ e 3 3 = x3) (f19 : fieldZ status 19 19 = m19) (fl : fieldZ e (10 + 9 * level - 1) 10 = lo)
    (g4 : (u4 == 1) = bu) (g18 : (s18 == 0) = bs) (g1 : (r1 == 1) = br) (g2 : (w2 == 1) = bw) (g3 : (x3 == 1) = bx) (g19 : (m19 == 1) = bm) (gl : (lo == 0) = bl)
    (hp : decide (priv < 1) = true ∧ decide (1 ≤ priv) = false) (hP : priv < 1) (hk : (kind == 0) = false) (hk2 : (kind == 2) = false) (hK : kind ≠ 0 ∧ kind ≠ 2) (hv : (level == 0) = true) :
    Calls Try.prog 25 #[.int .u64 e, .int .u64 status, .int .i64 priv, .int .i64 kind, .int .i64 level] w fun e' w' => e' = .returned (.bool (allowedB priv bu kind bs br bw bx bm level bl)) ∧ Drawn0 w w' := by
  have c4 : Aside0 (∀ W, Calls Try.prog 23 #[.int .u64 e, .int .i64 4, .int .i64 4] W fun e w' => e = .returned (.int .u64 u4) ∧ Drawn0 W w') := ⟨fun W => by rw [← f4]; exact rf_c e 4 4 W he (by decide) (by decide)⟩
  have c18 : Aside0 (∀ W, Calls Try.prog 23 #[.int .u64 status, .int .i64 18, .int .i64 18] W fun e w' => e = .returned (.int .u64 s18) ∧ Drawn0 W w') := ⟨fun W => by rw [← f18]; exact rf_c status 18 18 W hs (by decide) (by decide)⟩
  have c1 : Aside0 (∀ W, Calls Try.prog 23 #[.int .u64 e, .int .i64 1, .int .i64 1] W fun e w' => e = .returned (.int .u64 r1) ∧ Drawn0 W w') := ⟨fun W => by rw [← f1]; exact rf_c e 1 1 W he (by decide) (by decide)⟩
  have c2 : Aside0 (∀ W, Calls Try.prog 23 #[.int .u64 e, .int .i64 2, .int .i64 2] W fun e w' => e = .returned (.int .u64 w2) ∧ Drawn0 W w') := ⟨fun W => by rw [← f2]; exact rf_c e 2 2 W he (by decide) (by decide)⟩
  have c3 : Aside0 (∀ W, Calls Try.prog 23 #[.int .u64 e, .int .i64 3, .int .i64 3] W fun e w' => e = .returned (.int .u64 x3) ∧ Drawn0 W w') := ⟨fun W => by rw [← f3]; exact rf_c e 3 3 W he (by decide) (by decide)⟩
  have c19 : Aside0 (∀ W, Calls Try.prog 23 #[.int .u64 status, .int .i64 19, .int .i64 19] W fun e w' => e = .returned (.int .u64 m19) ∧ Drawn0 W w') := ⟨fun W => by rw [← f19]; exact rf_c status 19 19 W hs (by decide) (by decide)⟩
  have cl : Aside0 (∀ W, Calls Try.prog 23 #[.int .u64 e, .int .i64 (10 + 9 * level - 1), .int .i64 10] W fun e w' => e = .returned (.int .u64 lo) ∧ Drawn0 W w') := ⟨fun W => by rw [← fl]; exact rf_c e (10 + 9 * level - 1) 10 W he (by omega) (by decide)⟩
  obtain ⟨hp1, hp2⟩ := hp
  have HP := Aside0.mk hP
  have HK := Aside0.mk hK
  have HD := Aside0.mk (Drawn0.refl w)
  clear hP hK
  clear f4 f18 f1 f2 f3 f19 fl he hs
  go_enter Try.func25, Try.ntmps25
  go_wp2_with (first | (go_at_call 23; (with_reducible refine (c4.out _).mono ?_); rintro e_ w_ ⟨rfl, hd_⟩; obtain ⟨n_, rfl⟩ := hd_.out; clear hd_) | (go_at_call 23; (with_reducible refine (c18.out _).mono ?_); rintro e_ w_ ⟨rfl, hd_⟩; obtain ⟨n_, rfl⟩ := hd_.out; clear hd_) | (go_at_call 23; (with_reducible refine (c1.out _).mono ?_); rintro e_ w_ ⟨rfl, hd_⟩; obtain ⟨n_, rfl⟩ := hd_.out; clear hd_) | (go_at_call 23; (with_reducible refine (c2.out _).mono ?_); rintro e_ w_ ⟨rfl, hd_⟩; obtain ⟨n_, rfl⟩ := hd_.out; clear hd_) | (go_at_call 23; (with_reducible refine (c3.out _).mono ?_); rintro e_ w_ ⟨rfl, hd_⟩; obtain ⟨n_, rfl⟩ := hd_.out; clear hd_) | (go_at_call 23; (with_reducible refine (c19.out _).mono ?_); rintro e_ w_ ⟨rfl, hd_⟩; obtain ⟨n_, rfl⟩ := hd_.out; clear hd_) | (go_at_call 23; (with_reducible refine (cl.out _).mono ?_); rintro e_ w_ ⟨rfl, hd_⟩; obtain ⟨n_, rfl⟩ := hd_.out; clear hd_))
  all_goals (go_ret; refine ⟨congrArg (fun b => Ending.returned (.bool b)) ?_, by repeat (first | exact Drawn0.refl _ | apply Drawn0.step | apply drawn_drew)⟩)
  all_goals (have hP := HP.out; have hK := HK.out; clear HP HK HD c4 c18 c1 c2 c3 c19 cl; clear g4 g18 g1 g2 g3 g19 gl hp1 hp2 hl0 hl2 hk hk2; unfold allowedB)
  all_goals (have hq : ¬ 1 ≤ priv := by omega)
  all_goals (simp only [hP, hq, hK.1, hK.2, if_true, if_false, true_and, false_and, and_true, and_false, true_or, or_true, false_or, or_false, hv, Bool.true_or, Bool.false_or])
  all_goals (cases bu <;> cases bs <;> cases br <;> cases bw <;> cases bx <;> cases bm <;> first | rfl | (simp at *; done) | (exfalso; simp_all; done) | (simp_all; done))
set_option maxHeartbeats 1600000 in
set_option maxRecDepth 100000 in
theorem allowed_urn (he : u64B e) (hs : u64B status) (hl0 : 0 ≤ level) (hl2 : level ≤ 2)
    (f4 : fieldZ e 4 4 = u4) (f18 : fieldZ status 18 18 = s18) (f1 : fieldZ e 1 1 = r1) (f2 : fieldZ e 2 2 = w2) (f3 : fieldZ e 3 3 = x3) (f19 : fieldZ status 19 19 = m19) (fl : fieldZ e (10 + 9 * level - 1) 10 = lo)
    (g4 : (u4 == 1) = bu) (g18 : (s18 == 0) = bs) (g1 : (r1 == 1) = br) (g2 : (w2 == 1) = bw) (g3 : (x3 == 1) = bx) (g19 : (m19 == 1) = bm) (gl : (lo == 0) = bl)
    (hp : decide (priv < 1) = true ∧ decide (1 ≤ priv) = false) (hP : priv < 1) (hk : (kind == 0) = false) (hk2 : (kind == 2) = false) (hK : kind ≠ 0 ∧ kind ≠ 2) (hv : (level == 0) = false) :
    Calls Try.prog 25 #[.int .u64 e, .int .u64 status, .int .i64 priv, .int .i64 kind, .int .i64 level] w fun e' w' => e' = .returned (.bool (allowedB priv bu kind bs br bw bx bm level bl)) ∧ Drawn0 w w' := by
  have c4 : Aside0 (∀ W, Calls Try.prog 23 #[.int .u64 e, .int .i64 4, .int .i64 4] W fun e w' => e = .returned (.int .u64 u4) ∧ Drawn0 W w') := ⟨fun W => by rw [← f4]; exact rf_c e 4 4 W he (by decide) (by decide)⟩
  have c18 : Aside0 (∀ W, Calls Try.prog 23 #[.int .u64 status, .int .i64 18, .int .i64 18] W fun e w' => e = .returned (.int .u64 s18) ∧ Drawn0 W w') := ⟨fun W => by rw [← f18]; exact rf_c status 18 18 W hs (by decide) (by decide)⟩
  have c1 : Aside0 (∀ W, Calls Try.prog 23 #[.int .u64 e, .int .i64 1, .int .i64 1] W fun e w' => e = .returned (.int .u64 r1) ∧ Drawn0 W w') := ⟨fun W => by rw [← f1]; exact rf_c e 1 1 W he (by decide) (by decide)⟩
  have c2 : Aside0 (∀ W, Calls Try.prog 23 #[.int .u64 e, .int .i64 2, .int .i64 2] W fun e w' => e = .returned (.int .u64 w2) ∧ Drawn0 W w') := ⟨fun W => by rw [← f2]; exact rf_c e 2 2 W he (by decide) (by decide)⟩
  have c3 : Aside0 (∀ W, Calls Try.prog 23 #[.int .u64 e, .int .i64 3, .int .i64 3] W fun e w' => e = .returned (.int .u64 x3) ∧ Drawn0 W w') := ⟨fun W => by rw [← f3]; exact rf_c e 3 3 W he (by decide) (by decide)⟩
  have c19 : Aside0 (∀ W, Calls Try.prog 23 #[.int .u64 status, .int .i64 19, .int .i64 19] W fun e w' => e = .returned (.int .u64 m19) ∧ Drawn0 W w') := ⟨fun W => by rw [← f19]; exact rf_c status 19 19 W hs (by decide) (by decide)⟩
  have cl : Aside0 (∀ W, Calls Try.prog 23 #[.int .u64 e, .int .i64 (10 + 9 * level - 1), .int .i64 10] W fun e w' => e = .returned (.int .u64 lo) ∧ Drawn0 W w') := ⟨fun W => by rw [← fl]; exact rf_c e (10 + 9 * level - 1) 10 W he (by omega) (by decide)⟩
  obtain ⟨hp1, hp2⟩ := hp
  have HP := Aside0.mk hP
  have HK := Aside0.mk hK
  have HD := Aside0.mk (Drawn0.refl w)
  clear hP hK
  clear f4 f18 f1 f2 f3 f19 fl he hs
  go_enter Try.func25, Try.ntmps25
  go_wp2_with (first | (go_at_call 23; (with_reducible refine (c4.out _).mono ?_); rintro e_ w_ ⟨rfl, hd_⟩; obtain ⟨n_, rfl⟩ := hd_.out; clear hd_) | (go_at_call 23; (with_reducible refine (c18.out _).mono ?_); rintro e_ w_ ⟨rfl, hd_⟩; obtain ⟨n_, rfl⟩ := hd_.out; clear hd_) | (go_at_call 23; (with_reducible refine (c1.out _).mono ?_); rintro e_ w_ ⟨rfl, hd_⟩; obtain ⟨n_, rfl⟩ := hd_.out; clear hd_) | (go_at_call 23; (with_reducible refine (c2.out _).mono ?_); rintro e_ w_ ⟨rfl, hd_⟩; obtain ⟨n_, rfl⟩ := hd_.out; clear hd_) | (go_at_call 23; (with_reducible refine (c3.out _).mono ?_); rintro e_ w_ ⟨rfl, hd_⟩; obtain ⟨n_, rfl⟩ := hd_.out; clear hd_) | (go_at_call 23; (with_reducible refine (c19.out _).mono ?_); rintro e_ w_ ⟨rfl, hd_⟩; obtain ⟨n_, rfl⟩ := hd_.out; clear hd_) | (go_at_call 23; (with_reducible refine (cl.out _).mono ?_); rintro e_ w_ ⟨rfl, hd_⟩; obtain ⟨n_, rfl⟩ := hd_.out; clear hd_))
  all_goals (go_ret; refine ⟨congrArg (fun b => Ending.returned (.bool b)) ?_, by repeat (first | exact Drawn0.refl _ | apply Drawn0.step | apply drawn_drew)⟩)
  all_goals (have hP := HP.out; have hK := HK.out; clear HP HK HD c4 c18 c1 c2 c3 c19 cl; clear g4 g18 g1 g2 g3 g19 gl hp1 hp2 hl0 hl2 hk hk2; unfold allowedB)
  all_goals (have hq : ¬ 1 ≤ priv := by omega)
  all_goals (simp only [hP, hq, hK.1, hK.2, if_true, if_false, true_and, false_and, and_true, and_false, true_or, or_true, false_or, or_false, hv, Bool.true_or, Bool.false_or])
  all_goals (cases bu <;> cases bs <;> cases br <;> cases bw <;> cases bx <;> cases bm <;> first | rfl | (simp at *; done) | (exfalso; simp_all; done) | (simp_all; done))
set_option maxHeartbeats 1600000 in
set_option maxRecDepth 100000 in
theorem allowed_sf0 (he : u64B e) (hs : u64B status) (hl0 : 0 ≤ level) (hl2 : level ≤ 2)
    (f4 : fieldZ e 4 4 = u4) (f18 : fieldZ status 18 18 = s18) (f1 : fieldZ e 1 1 = r1) (f2 : fieldZ e 2 2 = w2) (f3 : fieldZ e 3 3 = x3) (f19 : fieldZ status 19 19 = m19) (fl : fieldZ e (10 + 9 * level - 1) 10 = lo)
    (g4 : (u4 == 1) = bu) (g18 : (s18 == 0) = bs) (g1 : (r1 == 1) = br) (g2 : (w2 == 1) = bw) (g3 : (x3 == 1) = bx) (g19 : (m19 == 1) = bm) (gl : (lo == 0) = bl)
    (hp : decide (priv < 1) = false ∧ decide (1 ≤ priv) = true) (hP : ¬ priv < 1) (hk : (kind == 0) = true) (hK : kind = 0) (hv : (level == 0) = true) :
    Calls Try.prog 25 #[.int .u64 e, .int .u64 status, .int .i64 priv, .int .i64 kind, .int .i64 level] w fun e' w' => e' = .returned (.bool (allowedB priv bu kind bs br bw bx bm level bl)) ∧ Drawn0 w w' := by
  have c4 : Aside0 (∀ W, Calls Try.prog 23 #[.int .u64 e, .int .i64 4, .int .i64 4] W fun e w' => e = .returned (.int .u64 u4) ∧ Drawn0 W w') := ⟨fun W => by rw [← f4]; exact rf_c e 4 4 W he (by decide) (by decide)⟩
  have c18 : Aside0 (∀ W, Calls Try.prog 23 #[.int .u64 status, .int .i64 18, .int .i64 18] W fun e w' => e = .returned (.int .u64 s18) ∧ Drawn0 W w') := ⟨fun W => by rw [← f18]; exact rf_c status 18 18 W hs (by decide) (by decide)⟩
  have c1 : Aside0 (∀ W, Calls Try.prog 23 #[.int .u64 e, .int .i64 1, .int .i64 1] W fun e w' => e = .returned (.int .u64 r1) ∧ Drawn0 W w') := ⟨fun W => by rw [← f1]; exact rf_c e 1 1 W he (by decide) (by decide)⟩
  have c2 : Aside0 (∀ W, Calls Try.prog 23 #[.int .u64 e, .int .i64 2, .int .i64 2] W fun e w' => e = .returned (.int .u64 w2) ∧ Drawn0 W w') := ⟨fun W => by rw [← f2]; exact rf_c e 2 2 W he (by decide) (by decide)⟩
  have c3 : Aside0 (∀ W, Calls Try.prog 23 #[.int .u64 e, .int .i64 3, .int .i64 3] W fun e w' => e = .returned (.int .u64 x3) ∧ Drawn0 W w') := ⟨fun W => by rw [← f3]; exact rf_c e 3 3 W he (by decide) (by decide)⟩
  have c19 : Aside0 (∀ W, Calls Try.prog 23 #[.int .u64 status, .int .i64 19, .int .i64 19] W fun e w' => e = .returned (.int .u64 m19) ∧ Drawn0 W w') := ⟨fun W => by rw [← f19]; exact rf_c status 19 19 W hs (by decide) (by decide)⟩
  have cl : Aside0 (∀ W, Calls Try.prog 23 #[.int .u64 e, .int .i64 (10 + 9 * level - 1), .int .i64 10] W fun e w' => e = .returned (.int .u64 lo) ∧ Drawn0 W w') := ⟨fun W => by rw [← fl]; exact rf_c e (10 + 9 * level - 1) 10 W he (by omega) (by decide)⟩
  obtain ⟨hp1, hp2⟩ := hp
  have HP := Aside0.mk hP
  have HK := Aside0.mk hK
  have HD := Aside0.mk (Drawn0.refl w)
  clear hP hK
  clear f4 f18 f1 f2 f3 f19 fl he hs
  go_enter Try.func25, Try.ntmps25
  go_wp2_with (first | (go_at_call 23; (with_reducible refine (c4.out _).mono ?_); rintro e_ w_ ⟨rfl, hd_⟩; obtain ⟨n_, rfl⟩ := hd_.out; clear hd_) | (go_at_call 23; (with_reducible refine (c18.out _).mono ?_); rintro e_ w_ ⟨rfl, hd_⟩; obtain ⟨n_, rfl⟩ := hd_.out; clear hd_) | (go_at_call 23; (with_reducible refine (c1.out _).mono ?_); rintro e_ w_ ⟨rfl, hd_⟩; obtain ⟨n_, rfl⟩ := hd_.out; clear hd_) | (go_at_call 23; (with_reducible refine (c2.out _).mono ?_); rintro e_ w_ ⟨rfl, hd_⟩; obtain ⟨n_, rfl⟩ := hd_.out; clear hd_) | (go_at_call 23; (with_reducible refine (c3.out _).mono ?_); rintro e_ w_ ⟨rfl, hd_⟩; obtain ⟨n_, rfl⟩ := hd_.out; clear hd_) | (go_at_call 23; (with_reducible refine (c19.out _).mono ?_); rintro e_ w_ ⟨rfl, hd_⟩; obtain ⟨n_, rfl⟩ := hd_.out; clear hd_) | (go_at_call 23; (with_reducible refine (cl.out _).mono ?_); rintro e_ w_ ⟨rfl, hd_⟩; obtain ⟨n_, rfl⟩ := hd_.out; clear hd_))
  all_goals (go_ret; refine ⟨congrArg (fun b => Ending.returned (.bool b)) ?_, by repeat (first | exact Drawn0.refl _ | apply Drawn0.step | apply drawn_drew)⟩)
  all_goals (have hP := HP.out; have hK := HK.out; clear HP HK HD c4 c18 c1 c2 c3 c19 cl; clear g4 g18 g1 g2 g3 g19 gl hp1 hp2 hl0 hl2 hk; unfold allowedB)
  all_goals (have hq : 1 ≤ priv := by omega)
  all_goals (simp only [hP, hq, hK, if_true, if_false, true_and, false_and, and_true, and_false, true_or, or_true, false_or, or_false, hv, Bool.true_or, Bool.false_or])
  all_goals (cases bu <;> cases bs <;> cases br <;> cases bw <;> cases bx <;> cases bm <;> first | rfl | (simp at *; done) | (exfalso; simp_all; done) | (simp_all; done))
set_option maxHeartbeats 1600000 in
set_option maxRecDepth 100000 in
theorem allowed_sfn (he : u64B e) (hs : u64B status) (hl0 : 0 ≤ level) (hl2 : level ≤ 2)
    (f4 : fieldZ e 4 4 = u4) (f18 : fieldZ status 18 18 = s18) (f1 : fieldZ e 1 1 = r1) (f2 : fieldZ e 2 2 = w2) (f3 : fieldZ e 3 3 = x3) (f19 : fieldZ status 19 19 = m19) (fl : fieldZ e (10 + 9 * level - 1) 10 = lo)
    (g4 : (u4 == 1) = bu) (g18 : (s18 == 0) = bs) (g1 : (r1 == 1) = br) (g2 : (w2 == 1) = bw) (g3 : (x3 == 1) = bx) (g19 : (m19 == 1) = bm) (gl : (lo == 0) = bl)
    (hp : decide (priv < 1) = false ∧ decide (1 ≤ priv) = true) (hP : ¬ priv < 1) (hk : (kind == 0) = true) (hK : kind = 0) (hv : (level == 0) = false) :
    Calls Try.prog 25 #[.int .u64 e, .int .u64 status, .int .i64 priv, .int .i64 kind, .int .i64 level] w fun e' w' => e' = .returned (.bool (allowedB priv bu kind bs br bw bx bm level bl)) ∧ Drawn0 w w' := by
  have c4 : Aside0 (∀ W, Calls Try.prog 23 #[.int .u64 e, .int .i64 4, .int .i64 4] W fun e w' => e = .returned (.int .u64 u4) ∧ Drawn0 W w') := ⟨fun W => by rw [← f4]; exact rf_c e 4 4 W he (by decide) (by decide)⟩
  have c18 : Aside0 (∀ W, Calls Try.prog 23 #[.int .u64 status, .int .i64 18, .int .i64 18] W fun e w' => e = .returned (.int .u64 s18) ∧ Drawn0 W w') := ⟨fun W => by rw [← f18]; exact rf_c status 18 18 W hs (by decide) (by decide)⟩
  have c1 : Aside0 (∀ W, Calls Try.prog 23 #[.int .u64 e, .int .i64 1, .int .i64 1] W fun e w' => e = .returned (.int .u64 r1) ∧ Drawn0 W w') := ⟨fun W => by rw [← f1]; exact rf_c e 1 1 W he (by decide) (by decide)⟩
  have c2 : Aside0 (∀ W, Calls Try.prog 23 #[.int .u64 e, .int .i64 2, .int .i64 2] W fun e w' => e = .returned (.int .u64 w2) ∧ Drawn0 W w') := ⟨fun W => by rw [← f2]; exact rf_c e 2 2 W he (by decide) (by decide)⟩
  have c3 : Aside0 (∀ W, Calls Try.prog 23 #[.int .u64 e, .int .i64 3, .int .i64 3] W fun e w' => e = .returned (.int .u64 x3) ∧ Drawn0 W w') := ⟨fun W => by rw [← f3]; exact rf_c e 3 3 W he (by decide) (by decide)⟩
  have c19 : Aside0 (∀ W, Calls Try.prog 23 #[.int .u64 status, .int .i64 19, .int .i64 19] W fun e w' => e = .returned (.int .u64 m19) ∧ Drawn0 W w') := ⟨fun W => by rw [← f19]; exact rf_c status 19 19 W hs (by decide) (by decide)⟩
  have cl : Aside0 (∀ W, Calls Try.prog 23 #[.int .u64 e, .int .i64 (10 + 9 * level - 1), .int .i64 10] W fun e w' => e = .returned (.int .u64 lo) ∧ Drawn0 W w') := ⟨fun W => by rw [← fl]; exact rf_c e (10 + 9 * level - 1) 10 W he (by omega) (by decide)⟩
  obtain ⟨hp1, hp2⟩ := hp
  have HP := Aside0.mk hP
  have HK := Aside0.mk hK
  have HD := Aside0.mk (Drawn0.refl w)
  clear hP hK
  clear f4 f18 f1 f2 f3 f19 fl he hs
  go_enter Try.func25, Try.ntmps25
  go_wp2_with (first | (go_at_call 23; (with_reducible refine (c4.out _).mono ?_); rintro e_ w_ ⟨rfl, hd_⟩; obtain ⟨n_, rfl⟩ := hd_.out; clear hd_) | (go_at_call 23; (with_reducible refine (c18.out _).mono ?_); rintro e_ w_ ⟨rfl, hd_⟩; obtain ⟨n_, rfl⟩ := hd_.out; clear hd_) | (go_at_call 23; (with_reducible refine (c1.out _).mono ?_); rintro e_ w_ ⟨rfl, hd_⟩; obtain ⟨n_, rfl⟩ := hd_.out; clear hd_) | (go_at_call 23; (with_reducible refine (c2.out _).mono ?_); rintro e_ w_ ⟨rfl, hd_⟩; obtain ⟨n_, rfl⟩ := hd_.out; clear hd_) | (go_at_call 23; (with_reducible refine (c3.out _).mono ?_); rintro e_ w_ ⟨rfl, hd_⟩; obtain ⟨n_, rfl⟩ := hd_.out; clear hd_) | (go_at_call 23; (with_reducible refine (c19.out _).mono ?_); rintro e_ w_ ⟨rfl, hd_⟩; obtain ⟨n_, rfl⟩ := hd_.out; clear hd_) | (go_at_call 23; (with_reducible refine (cl.out _).mono ?_); rintro e_ w_ ⟨rfl, hd_⟩; obtain ⟨n_, rfl⟩ := hd_.out; clear hd_))
  all_goals (go_ret; refine ⟨congrArg (fun b => Ending.returned (.bool b)) ?_, by repeat (first | exact Drawn0.refl _ | apply Drawn0.step | apply drawn_drew)⟩)
  all_goals (have hP := HP.out; have hK := HK.out; clear HP HK HD c4 c18 c1 c2 c3 c19 cl; clear g4 g18 g1 g2 g3 g19 gl hp1 hp2 hl0 hl2 hk; unfold allowedB)
  all_goals (have hq : 1 ≤ priv := by omega)
  all_goals (simp only [hP, hq, hK, if_true, if_false, true_and, false_and, and_true, and_false, true_or, or_true, false_or, or_false, hv, Bool.true_or, Bool.false_or])
  all_goals (cases bu <;> cases bs <;> cases br <;> cases bw <;> cases bx <;> cases bm <;> first | rfl | (simp at *; done) | (exfalso; simp_all; done) | (simp_all; done))
set_option maxHeartbeats 1600000 in
set_option maxRecDepth 100000 in
theorem allowed_sw0 (he : u64B e) (hs : u64B status) (hl0 : 0 ≤ level) (hl2 : level ≤ 2)
    (f4 : fieldZ e 4 4 = u4) (f18 : fieldZ status 18 18 = s18) (f1 : fieldZ e 1 1 = r1) (f2 : fieldZ e 2 2 = w2) (f3 : fieldZ e 3 3 = x3) (f19 : fieldZ status 19 19 = m19) (fl : fieldZ e (10 + 9 * level - 1) 10 = lo)
    (g4 : (u4 == 1) = bu) (g18 : (s18 == 0) = bs) (g1 : (r1 == 1) = br) (g2 : (w2 == 1) = bw) (g3 : (x3 == 1) = bx) (g19 : (m19 == 1) = bm) (gl : (lo == 0) = bl)
    (hp : decide (priv < 1) = false ∧ decide (1 ≤ priv) = true) (hP : ¬ priv < 1) (hk : (kind == 0) = false) (hk2 : (kind == 2) = true) (hK : kind = 2) (hv : (level == 0) = true) :
    Calls Try.prog 25 #[.int .u64 e, .int .u64 status, .int .i64 priv, .int .i64 kind, .int .i64 level] w fun e' w' => e' = .returned (.bool (allowedB priv bu kind bs br bw bx bm level bl)) ∧ Drawn0 w w' := by
  have c4 : Aside0 (∀ W, Calls Try.prog 23 #[.int .u64 e, .int .i64 4, .int .i64 4] W fun e w' => e = .returned (.int .u64 u4) ∧ Drawn0 W w') := ⟨fun W => by rw [← f4]; exact rf_c e 4 4 W he (by decide) (by decide)⟩
  have c18 : Aside0 (∀ W, Calls Try.prog 23 #[.int .u64 status, .int .i64 18, .int .i64 18] W fun e w' => e = .returned (.int .u64 s18) ∧ Drawn0 W w') := ⟨fun W => by rw [← f18]; exact rf_c status 18 18 W hs (by decide) (by decide)⟩
  have c1 : Aside0 (∀ W, Calls Try.prog 23 #[.int .u64 e, .int .i64 1, .int .i64 1] W fun e w' => e = .returned (.int .u64 r1) ∧ Drawn0 W w') := ⟨fun W => by rw [← f1]; exact rf_c e 1 1 W he (by decide) (by decide)⟩
  have c2 : Aside0 (∀ W, Calls Try.prog 23 #[.int .u64 e, .int .i64 2, .int .i64 2] W fun e w' => e = .returned (.int .u64 w2) ∧ Drawn0 W w') := ⟨fun W => by rw [← f2]; exact rf_c e 2 2 W he (by decide) (by decide)⟩
  have c3 : Aside0 (∀ W, Calls Try.prog 23 #[.int .u64 e, .int .i64 3, .int .i64 3] W fun e w' => e = .returned (.int .u64 x3) ∧ Drawn0 W w') := ⟨fun W => by rw [← f3]; exact rf_c e 3 3 W he (by decide) (by decide)⟩
  have c19 : Aside0 (∀ W, Calls Try.prog 23 #[.int .u64 status, .int .i64 19, .int .i64 19] W fun e w' => e = .returned (.int .u64 m19) ∧ Drawn0 W w') := ⟨fun W => by rw [← f19]; exact rf_c status 19 19 W hs (by decide) (by decide)⟩
  have cl : Aside0 (∀ W, Calls Try.prog 23 #[.int .u64 e, .int .i64 (10 + 9 * level - 1), .int .i64 10] W fun e w' => e = .returned (.int .u64 lo) ∧ Drawn0 W w') := ⟨fun W => by rw [← fl]; exact rf_c e (10 + 9 * level - 1) 10 W he (by omega) (by decide)⟩
  obtain ⟨hp1, hp2⟩ := hp
  have HP := Aside0.mk hP
  have HK := Aside0.mk hK
  have HD := Aside0.mk (Drawn0.refl w)
  clear hP hK
  clear f4 f18 f1 f2 f3 f19 fl he hs
  go_enter Try.func25, Try.ntmps25
  go_wp2_with (first | (go_at_call 23; (with_reducible refine (c4.out _).mono ?_); rintro e_ w_ ⟨rfl, hd_⟩; obtain ⟨n_, rfl⟩ := hd_.out; clear hd_) | (go_at_call 23; (with_reducible refine (c18.out _).mono ?_); rintro e_ w_ ⟨rfl, hd_⟩; obtain ⟨n_, rfl⟩ := hd_.out; clear hd_) | (go_at_call 23; (with_reducible refine (c1.out _).mono ?_); rintro e_ w_ ⟨rfl, hd_⟩; obtain ⟨n_, rfl⟩ := hd_.out; clear hd_) | (go_at_call 23; (with_reducible refine (c2.out _).mono ?_); rintro e_ w_ ⟨rfl, hd_⟩; obtain ⟨n_, rfl⟩ := hd_.out; clear hd_) | (go_at_call 23; (with_reducible refine (c3.out _).mono ?_); rintro e_ w_ ⟨rfl, hd_⟩; obtain ⟨n_, rfl⟩ := hd_.out; clear hd_) | (go_at_call 23; (with_reducible refine (c19.out _).mono ?_); rintro e_ w_ ⟨rfl, hd_⟩; obtain ⟨n_, rfl⟩ := hd_.out; clear hd_) | (go_at_call 23; (with_reducible refine (cl.out _).mono ?_); rintro e_ w_ ⟨rfl, hd_⟩; obtain ⟨n_, rfl⟩ := hd_.out; clear hd_))
  all_goals (go_ret; refine ⟨congrArg (fun b => Ending.returned (.bool b)) ?_, by repeat (first | exact Drawn0.refl _ | apply Drawn0.step | apply drawn_drew)⟩)
  all_goals (have hP := HP.out; have hK := HK.out; clear HP HK HD c4 c18 c1 c2 c3 c19 cl; clear g4 g18 g1 g2 g3 g19 gl hp1 hp2 hl0 hl2 hk hk2; unfold allowedB)
  all_goals (have hq : 1 ≤ priv := by omega)
  all_goals (simp only [hP, hq, hK, show ¬ ((2 : Int) = 0) by decide, if_true, if_false, true_and, false_and, and_true, and_false, true_or, or_true, false_or, or_false, hv, Bool.true_or, Bool.false_or])
  all_goals (cases bu <;> cases bs <;> cases br <;> cases bw <;> cases bx <;> cases bm <;> first | rfl | (simp at *; done) | (exfalso; simp_all; done) | (simp_all; done))
set_option maxHeartbeats 1600000 in
set_option maxRecDepth 100000 in
theorem allowed_swn (he : u64B e) (hs : u64B status) (hl0 : 0 ≤ level) (hl2 : level ≤ 2)
    (f4 : fieldZ e 4 4 = u4) (f18 : fieldZ status 18 18 = s18) (f1 : fieldZ e 1 1 = r1) (f2 : fieldZ e 2 2 = w2) (f3 : fieldZ e 3 3 = x3) (f19 : fieldZ status 19 19 = m19) (fl : fieldZ e (10 + 9 * level - 1) 10 = lo)
    (g4 : (u4 == 1) = bu) (g18 : (s18 == 0) = bs) (g1 : (r1 == 1) = br) (g2 : (w2 == 1) = bw) (g3 : (x3 == 1) = bx) (g19 : (m19 == 1) = bm) (gl : (lo == 0) = bl)
    (hp : decide (priv < 1) = false ∧ decide (1 ≤ priv) = true) (hP : ¬ priv < 1) (hk : (kind == 0) = false) (hk2 : (kind == 2) = true) (hK : kind = 2) (hv : (level == 0) = false) :
    Calls Try.prog 25 #[.int .u64 e, .int .u64 status, .int .i64 priv, .int .i64 kind, .int .i64 level] w fun e' w' => e' = .returned (.bool (allowedB priv bu kind bs br bw bx bm level bl)) ∧ Drawn0 w w' := by
  have c4 : Aside0 (∀ W, Calls Try.prog 23 #[.int .u64 e, .int .i64 4, .int .i64 4] W fun e w' => e = .returned (.int .u64 u4) ∧ Drawn0 W w') := ⟨fun W => by rw [← f4]; exact rf_c e 4 4 W he (by decide) (by decide)⟩
  have c18 : Aside0 (∀ W, Calls Try.prog 23 #[.int .u64 status, .int .i64 18, .int .i64 18] W fun e w' => e = .returned (.int .u64 s18) ∧ Drawn0 W w') := ⟨fun W => by rw [← f18]; exact rf_c status 18 18 W hs (by decide) (by decide)⟩
  have c1 : Aside0 (∀ W, Calls Try.prog 23 #[.int .u64 e, .int .i64 1, .int .i64 1] W fun e w' => e = .returned (.int .u64 r1) ∧ Drawn0 W w') := ⟨fun W => by rw [← f1]; exact rf_c e 1 1 W he (by decide) (by decide)⟩
  have c2 : Aside0 (∀ W, Calls Try.prog 23 #[.int .u64 e, .int .i64 2, .int .i64 2] W fun e w' => e = .returned (.int .u64 w2) ∧ Drawn0 W w') := ⟨fun W => by rw [← f2]; exact rf_c e 2 2 W he (by decide) (by decide)⟩
  have c3 : Aside0 (∀ W, Calls Try.prog 23 #[.int .u64 e, .int .i64 3, .int .i64 3] W fun e w' => e = .returned (.int .u64 x3) ∧ Drawn0 W w') := ⟨fun W => by rw [← f3]; exact rf_c e 3 3 W he (by decide) (by decide)⟩
  have c19 : Aside0 (∀ W, Calls Try.prog 23 #[.int .u64 status, .int .i64 19, .int .i64 19] W fun e w' => e = .returned (.int .u64 m19) ∧ Drawn0 W w') := ⟨fun W => by rw [← f19]; exact rf_c status 19 19 W hs (by decide) (by decide)⟩
  have cl : Aside0 (∀ W, Calls Try.prog 23 #[.int .u64 e, .int .i64 (10 + 9 * level - 1), .int .i64 10] W fun e w' => e = .returned (.int .u64 lo) ∧ Drawn0 W w') := ⟨fun W => by rw [← fl]; exact rf_c e (10 + 9 * level - 1) 10 W he (by omega) (by decide)⟩
  obtain ⟨hp1, hp2⟩ := hp
  have HP := Aside0.mk hP
  have HK := Aside0.mk hK
  have HD := Aside0.mk (Drawn0.refl w)
  clear hP hK
  clear f4 f18 f1 f2 f3 f19 fl he hs
  go_enter Try.func25, Try.ntmps25
  go_wp2_with (first | (go_at_call 23; (with_reducible refine (c4.out _).mono ?_); rintro e_ w_ ⟨rfl, hd_⟩; obtain ⟨n_, rfl⟩ := hd_.out; clear hd_) | (go_at_call 23; (with_reducible refine (c18.out _).mono ?_); rintro e_ w_ ⟨rfl, hd_⟩; obtain ⟨n_, rfl⟩ := hd_.out; clear hd_) | (go_at_call 23; (with_reducible refine (c1.out _).mono ?_); rintro e_ w_ ⟨rfl, hd_⟩; obtain ⟨n_, rfl⟩ := hd_.out; clear hd_) | (go_at_call 23; (with_reducible refine (c2.out _).mono ?_); rintro e_ w_ ⟨rfl, hd_⟩; obtain ⟨n_, rfl⟩ := hd_.out; clear hd_) | (go_at_call 23; (with_reducible refine (c3.out _).mono ?_); rintro e_ w_ ⟨rfl, hd_⟩; obtain ⟨n_, rfl⟩ := hd_.out; clear hd_) | (go_at_call 23; (with_reducible refine (c19.out _).mono ?_); rintro e_ w_ ⟨rfl, hd_⟩; obtain ⟨n_, rfl⟩ := hd_.out; clear hd_) | (go_at_call 23; (with_reducible refine (cl.out _).mono ?_); rintro e_ w_ ⟨rfl, hd_⟩; obtain ⟨n_, rfl⟩ := hd_.out; clear hd_))
  all_goals (go_ret; refine ⟨congrArg (fun b => Ending.returned (.bool b)) ?_, by repeat (first | exact Drawn0.refl _ | apply Drawn0.step | apply drawn_drew)⟩)
  all_goals (have hP := HP.out; have hK := HK.out; clear HP HK HD c4 c18 c1 c2 c3 c19 cl; clear g4 g18 g1 g2 g3 g19 gl hp1 hp2 hl0 hl2 hk hk2; unfold allowedB)
  all_goals (have hq : 1 ≤ priv := by omega)
  all_goals (simp only [hP, hq, hK, show ¬ ((2 : Int) = 0) by decide, if_true, if_false, true_and, false_and, and_true, and_false, true_or, or_true, false_or, or_false, hv, Bool.true_or, Bool.false_or])
  all_goals (cases bu <;> cases bs <;> cases br <;> cases bw <;> cases bx <;> cases bm <;> first | rfl | (simp at *; done) | (exfalso; simp_all; done) | (simp_all; done))
set_option maxHeartbeats 1600000 in
set_option maxRecDepth 100000 in
theorem allowed_sr0 (he : u64B e) (hs : u64B status) (hl0 : 0 ≤ level) (hl2 : level ≤ 2)
    (f4 : fieldZ e 4 4 = u4) (f18 : fieldZ status 18 18 = s18) (f1 : fieldZ e 1 1 = r1) (f2 : fieldZ e 2 2 = w2) (f3 : fieldZ e 3 3 = x3) (f19 : fieldZ status 19 19 = m19) (fl : fieldZ e (10 + 9 * level - 1) 10 = lo)
    (g4 : (u4 == 1) = bu) (g18 : (s18 == 0) = bs) (g1 : (r1 == 1) = br) (g2 : (w2 == 1) = bw) (g3 : (x3 == 1) = bx) (g19 : (m19 == 1) = bm) (gl : (lo == 0) = bl)
    (hp : decide (priv < 1) = false ∧ decide (1 ≤ priv) = true) (hP : ¬ priv < 1) (hk : (kind == 0) = false) (hk2 : (kind == 2) = false) (hK : kind ≠ 0 ∧ kind ≠ 2) (hv : (level == 0) = true) :
    Calls Try.prog 25 #[.int .u64 e, .int .u64 status, .int .i64 priv, .int .i64 kind, .int .i64 level] w fun e' w' => e' = .returned (.bool (allowedB priv bu kind bs br bw bx bm level bl)) ∧ Drawn0 w w' := by
  have c4 : Aside0 (∀ W, Calls Try.prog 23 #[.int .u64 e, .int .i64 4, .int .i64 4] W fun e w' => e = .returned (.int .u64 u4) ∧ Drawn0 W w') := ⟨fun W => by rw [← f4]; exact rf_c e 4 4 W he (by decide) (by decide)⟩
  have c18 : Aside0 (∀ W, Calls Try.prog 23 #[.int .u64 status, .int .i64 18, .int .i64 18] W fun e w' => e = .returned (.int .u64 s18) ∧ Drawn0 W w') := ⟨fun W => by rw [← f18]; exact rf_c status 18 18 W hs (by decide) (by decide)⟩
  have c1 : Aside0 (∀ W, Calls Try.prog 23 #[.int .u64 e, .int .i64 1, .int .i64 1] W fun e w' => e = .returned (.int .u64 r1) ∧ Drawn0 W w') := ⟨fun W => by rw [← f1]; exact rf_c e 1 1 W he (by decide) (by decide)⟩
  have c2 : Aside0 (∀ W, Calls Try.prog 23 #[.int .u64 e, .int .i64 2, .int .i64 2] W fun e w' => e = .returned (.int .u64 w2) ∧ Drawn0 W w') := ⟨fun W => by rw [← f2]; exact rf_c e 2 2 W he (by decide) (by decide)⟩
  have c3 : Aside0 (∀ W, Calls Try.prog 23 #[.int .u64 e, .int .i64 3, .int .i64 3] W fun e w' => e = .returned (.int .u64 x3) ∧ Drawn0 W w') := ⟨fun W => by rw [← f3]; exact rf_c e 3 3 W he (by decide) (by decide)⟩
  have c19 : Aside0 (∀ W, Calls Try.prog 23 #[.int .u64 status, .int .i64 19, .int .i64 19] W fun e w' => e = .returned (.int .u64 m19) ∧ Drawn0 W w') := ⟨fun W => by rw [← f19]; exact rf_c status 19 19 W hs (by decide) (by decide)⟩
  have cl : Aside0 (∀ W, Calls Try.prog 23 #[.int .u64 e, .int .i64 (10 + 9 * level - 1), .int .i64 10] W fun e w' => e = .returned (.int .u64 lo) ∧ Drawn0 W w') := ⟨fun W => by rw [← fl]; exact rf_c e (10 + 9 * level - 1) 10 W he (by omega) (by decide)⟩
  obtain ⟨hp1, hp2⟩ := hp
  have HP := Aside0.mk hP
  have HK := Aside0.mk hK
  have HD := Aside0.mk (Drawn0.refl w)
  clear hP hK
  clear f4 f18 f1 f2 f3 f19 fl he hs
  go_enter Try.func25, Try.ntmps25
  go_wp2_with (first | (go_at_call 23; (with_reducible refine (c4.out _).mono ?_); rintro e_ w_ ⟨rfl, hd_⟩; obtain ⟨n_, rfl⟩ := hd_.out; clear hd_) | (go_at_call 23; (with_reducible refine (c18.out _).mono ?_); rintro e_ w_ ⟨rfl, hd_⟩; obtain ⟨n_, rfl⟩ := hd_.out; clear hd_) | (go_at_call 23; (with_reducible refine (c1.out _).mono ?_); rintro e_ w_ ⟨rfl, hd_⟩; obtain ⟨n_, rfl⟩ := hd_.out; clear hd_) | (go_at_call 23; (with_reducible refine (c2.out _).mono ?_); rintro e_ w_ ⟨rfl, hd_⟩; obtain ⟨n_, rfl⟩ := hd_.out; clear hd_) | (go_at_call 23; (with_reducible refine (c3.out _).mono ?_); rintro e_ w_ ⟨rfl, hd_⟩; obtain ⟨n_, rfl⟩ := hd_.out; clear hd_) | (go_at_call 23; (with_reducible refine (c19.out _).mono ?_); rintro e_ w_ ⟨rfl, hd_⟩; obtain ⟨n_, rfl⟩ := hd_.out; clear hd_) | (go_at_call 23; (with_reducible refine (cl.out _).mono ?_); rintro e_ w_ ⟨rfl, hd_⟩; obtain ⟨n_, rfl⟩ := hd_.out; clear hd_))
  all_goals (go_ret; refine ⟨congrArg (fun b => Ending.returned (.bool b)) ?_, by repeat (first | exact Drawn0.refl _ | apply Drawn0.step | apply drawn_drew)⟩)
  all_goals (have hP := HP.out; have hK := HK.out; clear HP HK HD c4 c18 c1 c2 c3 c19 cl; clear g4 g18 g1 g2 g3 g19 gl hp1 hp2 hl0 hl2 hk hk2; unfold allowedB)
  all_goals (have hq : 1 ≤ priv := by omega)
  all_goals (simp only [hP, hq, hK.1, hK.2, if_true, if_false, true_and, false_and, and_true, and_false, true_or, or_true, false_or, or_false, hv, Bool.true_or, Bool.false_or])
  all_goals (cases bu <;> cases bs <;> cases br <;> cases bw <;> cases bx <;> cases bm <;> first | rfl | (simp at *; done) | (exfalso; simp_all; done) | (simp_all; done))
set_option maxHeartbeats 1600000 in
set_option maxRecDepth 100000 in
theorem allowed_srn (he : u64B e) (hs : u64B status) (hl0 : 0 ≤ level) (hl2 : level ≤ 2)
    (f4 : fieldZ e 4 4 = u4) (f18 : fieldZ status 18 18 = s18) (f1 : fieldZ e 1 1 = r1) (f2 : fieldZ e 2 2 = w2) (f3 : fieldZ e 3 3 = x3) (f19 : fieldZ status 19 19 = m19) (fl : fieldZ e (10 + 9 * level - 1) 10 = lo)
    (g4 : (u4 == 1) = bu) (g18 : (s18 == 0) = bs) (g1 : (r1 == 1) = br) (g2 : (w2 == 1) = bw) (g3 : (x3 == 1) = bx) (g19 : (m19 == 1) = bm) (gl : (lo == 0) = bl)
    (hp : decide (priv < 1) = false ∧ decide (1 ≤ priv) = true) (hP : ¬ priv < 1) (hk : (kind == 0) = false) (hk2 : (kind == 2) = false) (hK : kind ≠ 0 ∧ kind ≠ 2) (hv : (level == 0) = false) :
    Calls Try.prog 25 #[.int .u64 e, .int .u64 status, .int .i64 priv, .int .i64 kind, .int .i64 level] w fun e' w' => e' = .returned (.bool (allowedB priv bu kind bs br bw bx bm level bl)) ∧ Drawn0 w w' := by
  have c4 : Aside0 (∀ W, Calls Try.prog 23 #[.int .u64 e, .int .i64 4, .int .i64 4] W fun e w' => e = .returned (.int .u64 u4) ∧ Drawn0 W w') := ⟨fun W => by rw [← f4]; exact rf_c e 4 4 W he (by decide) (by decide)⟩
  have c18 : Aside0 (∀ W, Calls Try.prog 23 #[.int .u64 status, .int .i64 18, .int .i64 18] W fun e w' => e = .returned (.int .u64 s18) ∧ Drawn0 W w') := ⟨fun W => by rw [← f18]; exact rf_c status 18 18 W hs (by decide) (by decide)⟩
  have c1 : Aside0 (∀ W, Calls Try.prog 23 #[.int .u64 e, .int .i64 1, .int .i64 1] W fun e w' => e = .returned (.int .u64 r1) ∧ Drawn0 W w') := ⟨fun W => by rw [← f1]; exact rf_c e 1 1 W he (by decide) (by decide)⟩
  have c2 : Aside0 (∀ W, Calls Try.prog 23 #[.int .u64 e, .int .i64 2, .int .i64 2] W fun e w' => e = .returned (.int .u64 w2) ∧ Drawn0 W w') := ⟨fun W => by rw [← f2]; exact rf_c e 2 2 W he (by decide) (by decide)⟩
  have c3 : Aside0 (∀ W, Calls Try.prog 23 #[.int .u64 e, .int .i64 3, .int .i64 3] W fun e w' => e = .returned (.int .u64 x3) ∧ Drawn0 W w') := ⟨fun W => by rw [← f3]; exact rf_c e 3 3 W he (by decide) (by decide)⟩
  have c19 : Aside0 (∀ W, Calls Try.prog 23 #[.int .u64 status, .int .i64 19, .int .i64 19] W fun e w' => e = .returned (.int .u64 m19) ∧ Drawn0 W w') := ⟨fun W => by rw [← f19]; exact rf_c status 19 19 W hs (by decide) (by decide)⟩
  have cl : Aside0 (∀ W, Calls Try.prog 23 #[.int .u64 e, .int .i64 (10 + 9 * level - 1), .int .i64 10] W fun e w' => e = .returned (.int .u64 lo) ∧ Drawn0 W w') := ⟨fun W => by rw [← fl]; exact rf_c e (10 + 9 * level - 1) 10 W he (by omega) (by decide)⟩
  obtain ⟨hp1, hp2⟩ := hp
  have HP := Aside0.mk hP
  have HK := Aside0.mk hK
  have HD := Aside0.mk (Drawn0.refl w)
  clear hP hK
  clear f4 f18 f1 f2 f3 f19 fl he hs
  go_enter Try.func25, Try.ntmps25
  go_wp2_with (first | (go_at_call 23; (with_reducible refine (c4.out _).mono ?_); rintro e_ w_ ⟨rfl, hd_⟩; obtain ⟨n_, rfl⟩ := hd_.out; clear hd_) | (go_at_call 23; (with_reducible refine (c18.out _).mono ?_); rintro e_ w_ ⟨rfl, hd_⟩; obtain ⟨n_, rfl⟩ := hd_.out; clear hd_) | (go_at_call 23; (with_reducible refine (c1.out _).mono ?_); rintro e_ w_ ⟨rfl, hd_⟩; obtain ⟨n_, rfl⟩ := hd_.out; clear hd_) | (go_at_call 23; (with_reducible refine (c2.out _).mono ?_); rintro e_ w_ ⟨rfl, hd_⟩; obtain ⟨n_, rfl⟩ := hd_.out; clear hd_) | (go_at_call 23; (with_reducible refine (c3.out _).mono ?_); rintro e_ w_ ⟨rfl, hd_⟩; obtain ⟨n_, rfl⟩ := hd_.out; clear hd_) | (go_at_call 23; (with_reducible refine (c19.out _).mono ?_); rintro e_ w_ ⟨rfl, hd_⟩; obtain ⟨n_, rfl⟩ := hd_.out; clear hd_) | (go_at_call 23; (with_reducible refine (cl.out _).mono ?_); rintro e_ w_ ⟨rfl, hd_⟩; obtain ⟨n_, rfl⟩ := hd_.out; clear hd_))
  all_goals (go_ret; refine ⟨congrArg (fun b => Ending.returned (.bool b)) ?_, by repeat (first | exact Drawn0.refl _ | apply Drawn0.step | apply drawn_drew)⟩)
  all_goals (have hP := HP.out; have hK := HK.out; clear HP HK HD c4 c18 c1 c2 c3 c19 cl; clear g4 g18 g1 g2 g3 g19 gl hp1 hp2 hl0 hl2 hk hk2; unfold allowedB)
  all_goals (have hq : 1 ≤ priv := by omega)
  all_goals (simp only [hP, hq, hK.1, hK.2, if_true, if_false, true_and, false_and, and_true, and_false, true_or, or_true, false_or, or_false, hv, Bool.true_or, Bool.false_or])
  all_goals (cases bu <;> cases bs <;> cases br <;> cases bw <;> cases bx <;> cases bm <;> first | rfl | (simp at *; done) | (exfalso; simp_all; done) | (simp_all; done))
end
def drawbridgeref08_allowed.f (e status priv kind level : Int) : Option Bool := if u64B e ∧ u64B status ∧ 0 ≤ level ∧ level ≤ 2 then some (allowedZ e status priv kind level) else none
theorem drawbridgeref08_allowed.calls (a0 a1 a2 a3 a4 : Int) (r : Bool) (w : World) (h : drawbridgeref08_allowed.f a0 a1 a2 a3 a4 = some r) :
    Calls Try.prog 25 #[.int .u64 a0, .int .u64 a1, .int .i64 a2, .int .i64 a3, .int .i64 a4] w fun e w' => e = .returned (.bool r) ∧ Drawn0 w w' := by
  unfold drawbridgeref08_allowed.f at h
  split at h
  case isFalse => cases h
  case isTrue hh =>
  obtain ⟨he, hs, hl0, hl2⟩ := hh
  injection h with h; subst h
  unfold allowedZ
  by_cases hp : a2 < 1
  · by_cases k0 : a3 = 0
    · by_cases hv : a4 = 0
      · exact allowed_uf0 a0 a1 a2 a3 a4 w _ _ _ _ _ _ _ _ _ _ _ _ _ _ he hs hl0 hl2 rfl rfl rfl rfl rfl rfl rfl rfl rfl rfl rfl rfl rfl rfl ⟨decide_eq_true hp, decide_eq_false (by omega)⟩ hp (beq_iff_eq.2 k0) k0 (beq_iff_eq.2 hv)
      · exact allowed_ufn a0 a1 a2 a3 a4 w _ _ _ _ _ _ _ _ _ _ _ _ _ _ he hs hl0 hl2 rfl rfl rfl rfl rfl rfl rfl rfl rfl rfl rfl rfl rfl rfl ⟨decide_eq_true hp, decide_eq_false (by omega)⟩ hp (beq_iff_eq.2 k0) k0 (beq_eq_false_iff_ne.2 hv)
    · by_cases k2 : a3 = 2
      · by_cases hv : a4 = 0
        · exact allowed_uw0 a0 a1 a2 a3 a4 w _ _ _ _ _ _ _ _ _ _ _ _ _ _ he hs hl0 hl2 rfl rfl rfl rfl rfl rfl rfl rfl rfl rfl rfl rfl rfl rfl ⟨decide_eq_true hp, decide_eq_false (by omega)⟩ hp (beq_eq_false_iff_ne.2 k0) (beq_iff_eq.2 k2) k2 (beq_iff_eq.2 hv)
        · exact allowed_uwn a0 a1 a2 a3 a4 w _ _ _ _ _ _ _ _ _ _ _ _ _ _ he hs hl0 hl2 rfl rfl rfl rfl rfl rfl rfl rfl rfl rfl rfl rfl rfl rfl ⟨decide_eq_true hp, decide_eq_false (by omega)⟩ hp (beq_eq_false_iff_ne.2 k0) (beq_iff_eq.2 k2) k2 (beq_eq_false_iff_ne.2 hv)
      · by_cases hv : a4 = 0
        · exact allowed_ur0 a0 a1 a2 a3 a4 w _ _ _ _ _ _ _ _ _ _ _ _ _ _ he hs hl0 hl2 rfl rfl rfl rfl rfl rfl rfl rfl rfl rfl rfl rfl rfl rfl ⟨decide_eq_true hp, decide_eq_false (by omega)⟩ hp (beq_eq_false_iff_ne.2 k0) (beq_eq_false_iff_ne.2 k2) ⟨k0, k2⟩ (beq_iff_eq.2 hv)
        · exact allowed_urn a0 a1 a2 a3 a4 w _ _ _ _ _ _ _ _ _ _ _ _ _ _ he hs hl0 hl2 rfl rfl rfl rfl rfl rfl rfl rfl rfl rfl rfl rfl rfl rfl ⟨decide_eq_true hp, decide_eq_false (by omega)⟩ hp (beq_eq_false_iff_ne.2 k0) (beq_eq_false_iff_ne.2 k2) ⟨k0, k2⟩ (beq_eq_false_iff_ne.2 hv)
  · by_cases k0 : a3 = 0
    · by_cases hv : a4 = 0
      · exact allowed_sf0 a0 a1 a2 a3 a4 w _ _ _ _ _ _ _ _ _ _ _ _ _ _ he hs hl0 hl2 rfl rfl rfl rfl rfl rfl rfl rfl rfl rfl rfl rfl rfl rfl ⟨decide_eq_false hp, decide_eq_true (by omega)⟩ hp (beq_iff_eq.2 k0) k0 (beq_iff_eq.2 hv)
      · exact allowed_sfn a0 a1 a2 a3 a4 w _ _ _ _ _ _ _ _ _ _ _ _ _ _ he hs hl0 hl2 rfl rfl rfl rfl rfl rfl rfl rfl rfl rfl rfl rfl rfl rfl ⟨decide_eq_false hp, decide_eq_true (by omega)⟩ hp (beq_iff_eq.2 k0) k0 (beq_eq_false_iff_ne.2 hv)
    · by_cases k2 : a3 = 2
      · by_cases hv : a4 = 0
        · exact allowed_sw0 a0 a1 a2 a3 a4 w _ _ _ _ _ _ _ _ _ _ _ _ _ _ he hs hl0 hl2 rfl rfl rfl rfl rfl rfl rfl rfl rfl rfl rfl rfl rfl rfl ⟨decide_eq_false hp, decide_eq_true (by omega)⟩ hp (beq_eq_false_iff_ne.2 k0) (beq_iff_eq.2 k2) k2 (beq_iff_eq.2 hv)
        · exact allowed_swn a0 a1 a2 a3 a4 w _ _ _ _ _ _ _ _ _ _ _ _ _ _ he hs hl0 hl2 rfl rfl rfl rfl rfl rfl rfl rfl rfl rfl rfl rfl rfl rfl ⟨decide_eq_false hp, decide_eq_true (by omega)⟩ hp (beq_eq_false_iff_ne.2 k0) (beq_iff_eq.2 k2) k2 (beq_eq_false_iff_ne.2 hv)
      · by_cases hv : a4 = 0
        · exact allowed_sr0 a0 a1 a2 a3 a4 w _ _ _ _ _ _ _ _ _ _ _ _ _ _ he hs hl0 hl2 rfl rfl rfl rfl rfl rfl rfl rfl rfl rfl rfl rfl rfl rfl ⟨decide_eq_false hp, decide_eq_true (by omega)⟩ hp (beq_eq_false_iff_ne.2 k0) (beq_eq_false_iff_ne.2 k2) ⟨k0, k2⟩ (beq_iff_eq.2 hv)
        · exact allowed_srn a0 a1 a2 a3 a4 w _ _ _ _ _ _ _ _ _ _ _ _ _ _ he hs hl0 hl2 rfl rfl rfl rfl rfl rfl rfl rfl rfl rfl rfl rfl rfl rfl ⟨decide_eq_false hp, decide_eq_true (by omega)⟩ hp (beq_eq_false_iff_ne.2 k0) (beq_eq_false_iff_ne.2 k2) ⟨k0, k2⟩ (beq_eq_false_iff_ne.2 hv)
end Go.Proofs.Ytbidnolopbjlaaa.Q
