/- The contracts of clint.Load and clint.Store, at every timer, place, size and number. -/
import Derived.Test.YtfnealbmackjaaaEbf
import Derived.Test.YtfnealbmackjaaaKt
import Derived.RegionTactic
import Derived.BigRegion
namespace Go.Proofs.Ytfnealbmackjaaa.Q
open Go.RowKit Go.Proofs.YtfnealbmackjaaaW.PrintWords Go.Proofs.YtfnealbmackjaaaW.PrintLast Go.Proofs.YtfnealbmackjaaaW.PrintMore Go.Proofs.Ytfnealbmackjaaa.L
set_option linter.unusedVariables false
set_option linter.unusedSimpArgs false
def clLo (r x : Int) : Int := r / 4294967296 * 4294967296 + x % 4294967296
def clHi (r x : Int) : Int := x % 4294967296 * 4294967296 + r % 4294967296
def clPart (off size : Int) : Int × Int × Int :=
  if off = 16384 ∧ size = 8 then (16384, 63, 0)
  else if off = 16384 ∧ size = 4 then (16384, 31, 0)
  else if off = 16388 ∧ size = 4 then (16384, 63, 32)
  else if off = 49144 ∧ size = 8 then (49144, 63, 0)
  else if off = 49144 ∧ size = 4 then (49144, 31, 0)
  else if off = 49148 ∧ size = 4 then (49144, 63, 32)
  else (0, -1, 0)
def clLoad (t c : Int) (s : Bool) (off size : Int) : Int × Bool :=
  if off = 0 ∧ size = 4 then (if s then 1 else 0, true)
  else if off = 16384 ∧ size = 8 then (c, true)
  else if off = 16384 ∧ size = 4 then (c % 4294967296, true)
  else if off = 16388 ∧ size = 4 then (c / 4294967296, true)
  else if off = 49144 ∧ size = 8 then (t, true)
  else if off = 49144 ∧ size = 4 then (t % 4294967296, true)
  else if off = 49148 ∧ size = 4 then (t / 4294967296, true)
  else (0, false)
def clStore (t c : Int) (s : Bool) (off size x : Int) : Int × Int × Bool × Bool :=
  if off = 0 ∧ size = 4 then (t, c, x % 2 == 1, true)
  else if off = 16384 ∧ size = 8 then (t, x, s, true)
  else if off = 16384 ∧ size = 4 then (t, clLo c x, s, true)
  else if off = 16388 ∧ size = 4 then (t, clHi c x, s, true)
  else if off = 49144 ∧ size = 8 then (x, c, s, true)
  else if off = 49144 ∧ size = 4 then (clLo t x, c, s, true)
  else if off = 49148 ∧ size = 4 then (clHi t x, c, s, true)
  else (t, c, s, false)
set_option maxHeartbeats 8000000 in
set_option maxRecDepth 100000 in
theorem clint_part.calls (off size : Int) (b hi lo : Int) (w : World) (h : clPart off size = (b, hi, lo)) :
    Calls Try.prog 15 #[.int .u64 off, .int .i64 size] w fun e w' => e = .returned (.tuple #[.int .u64 b, .int .i64 hi, .int .i64 lo]) ∧ w = w' := by
  by_cases e1 : off = 16384
  · subst e1
    by_cases e2 : size = 8
    · subst e2
      obtain ⟨rfl, rfl, rfl⟩ : 16384 = b ∧ 63 = hi ∧ 0 = lo := by simpa [clPart] using h
      clear h
      go_enter Try.func15, Try.ntmps15
      go_wp2
      exact bodyPost_ret (ret3 rfl _ _) rfl ⟨rfl, rfl⟩
    · by_cases e3 : size = 4
      · subst e3
        obtain ⟨rfl, rfl, rfl⟩ : 16384 = b ∧ 31 = hi ∧ 0 = lo := by simpa [clPart] using h
        clear h
        go_enter Try.func15, Try.ntmps15
        go_wp2
        exact bodyPost_ret (ret3 rfl _ _) rfl ⟨rfl, rfl⟩
      · obtain ⟨rfl, rfl, rfl⟩ : 0 = b ∧ -1 = hi ∧ 0 = lo := by simpa [clPart, e2, e3] using h
        clear h
        go_enter Try.func15, Try.ntmps15
        go_wp2
        exact bodyPost_ret (ret3 rfl _ _) rfl ⟨rfl, rfl⟩
  · by_cases e2 : off = 16388
    · subst e2
      by_cases e3 : size = 4
      · subst e3
        obtain ⟨rfl, rfl, rfl⟩ : 16384 = b ∧ 63 = hi ∧ 32 = lo := by simpa [clPart] using h
        clear h
        go_enter Try.func15, Try.ntmps15
        go_wp2
        exact bodyPost_ret (ret3 rfl _ _) rfl ⟨rfl, rfl⟩
      · obtain ⟨rfl, rfl, rfl⟩ : 0 = b ∧ -1 = hi ∧ 0 = lo := by simpa [clPart, e3] using h
        clear h
        go_enter Try.func15, Try.ntmps15
        go_wp2
        all_goals exact bodyPost_ret (ret3 rfl _ _) rfl ⟨rfl, rfl⟩
    · by_cases e3 : off = 49144
      · subst e3
        by_cases e4 : size = 8
        · subst e4
          obtain ⟨rfl, rfl, rfl⟩ : 49144 = b ∧ 63 = hi ∧ 0 = lo := by simpa [clPart] using h
          clear h
          go_enter Try.func15, Try.ntmps15
          go_wp2
          exact bodyPost_ret (ret3 rfl _ _) rfl ⟨rfl, rfl⟩
        · by_cases e5 : size = 4
          · subst e5
            obtain ⟨rfl, rfl, rfl⟩ : 49144 = b ∧ 31 = hi ∧ 0 = lo := by simpa [clPart] using h
            clear h
            go_enter Try.func15, Try.ntmps15
            go_wp2
            exact bodyPost_ret (ret3 rfl _ _) rfl ⟨rfl, rfl⟩
          · obtain ⟨rfl, rfl, rfl⟩ : 0 = b ∧ -1 = hi ∧ 0 = lo := by simpa [clPart, e4, e5] using h
            clear h
            go_enter Try.func15, Try.ntmps15
            go_wp2
            all_goals exact bodyPost_ret (ret3 rfl _ _) rfl ⟨rfl, rfl⟩
      · by_cases e4 : off = 49148
        · subst e4
          by_cases e5 : size = 4
          · subst e5
            obtain ⟨rfl, rfl, rfl⟩ : 49144 = b ∧ 63 = hi ∧ 32 = lo := by simpa [clPart] using h
            clear h
            go_enter Try.func15, Try.ntmps15
            go_wp2
            exact bodyPost_ret (ret3 rfl _ _) rfl ⟨rfl, rfl⟩
          · obtain ⟨rfl, rfl, rfl⟩ : 0 = b ∧ -1 = hi ∧ 0 = lo := by simpa [clPart, e5] using h
            clear h
            go_enter Try.func15, Try.ntmps15
            go_wp2
            all_goals exact bodyPost_ret (ret3 rfl _ _) rfl ⟨rfl, rfl⟩
        · obtain ⟨rfl, rfl, rfl⟩ : 0 = b ∧ -1 = hi ∧ 0 = lo := by simpa [clPart, e1, e2, e3, e4] using h
          clear h
          go_enter Try.func15, Try.ntmps15
          go_wp2
          all_goals exact bodyPost_ret (ret3 rfl _ _) rfl ⟨rfl, rfl⟩

/-! ### put -/
def putZ (r hi lo x : Int) : Int := if lo = 32 then clHi r x else if hi = 31 then clLo r x else x
theorem put_full (r x : Int) (hr : u64B r) (hx : u64B x) : Go.bits .or .u64 (Go.bits .andNot .u64 r 18446744073709551615) (Go.bits .and .u64 x 18446744073709551615) = x := by
  obtain ⟨R, rfl⟩ := Int.eq_ofNat_of_zero_le hr.1
  obtain ⟨X, rfl⟩ := Int.eq_ofNat_of_zero_le hx.1
  have h1 := hr.2
  have h2 := hx.2
  rw [u64_andNot _ _ (by omega) h1 (by decide) (by decide), u64_and _ _ (by omega) h2 (by decide) (by decide)]
  have e1 : ((R : Int).toNat &&& (18446744073709551615 - (18446744073709551615 : Int).toNat)) = 0 := by
    rw [show (18446744073709551615 - (18446744073709551615 : Int).toNat) = 0 by decide]; simp
  have e2 : ((X : Int).toNat &&& (18446744073709551615 : Int).toNat) = X := by
    rw [Int.toNat_natCast, show (18446744073709551615 : Int).toNat = 2 ^ 64 - 1 by decide, Nat.and_two_pow_sub_one_eq_mod]; omega
  rw [e1, e2, u64_or _ _ (by decide) (by decide) (by omega) h2]
  simp
theorem put_lo (r x : Int) (hr : u64B r) (hx : u64B x) : Go.bits .or .u64 (Go.bits .andNot .u64 r 4294967295) (Go.bits .and .u64 x 4294967295) = clLo r x := by
  obtain ⟨R, rfl⟩ := Int.eq_ofNat_of_zero_le hr.1
  obtain ⟨X, rfl⟩ := Int.eq_ofNat_of_zero_le hx.1
  have h1 := hr.2
  have h2 := hx.2
  rw [u64_andNot _ _ (by omega) h1 (by decide) (by decide), u64_and _ _ (by omega) h2 (by decide) (by decide), Int.toNat_natCast, Int.toNat_natCast,
    show (18446744073709551615 - (4294967295 : Int).toNat) = 18446744069414584320 by decide, show (4294967295 : Int).toNat = 4294967295 by decide, nat_hi64_32, nat_mask32]
  rw [u64_or_nat _ _ (by omega) (by omega), nat_join32 _ _ (by omega) (by omega)]
  unfold clLo
  omega
theorem put_hi (r x : Int) (hr : u64B r) (hx : u64B x) : Go.bits .or .u64 (Go.bits .andNot .u64 r 18446744069414584320) (Go.bits .and .u64 (IntKind.u64.wrap (x * 4294967296)) 18446744069414584320) = clHi r x := by
  obtain ⟨R, rfl⟩ := Int.eq_ofNat_of_zero_le hr.1
  obtain ⟨X, rfl⟩ := Int.eq_ofNat_of_zero_le hx.1
  have h1 := hr.2
  have h2 := hx.2
  have e : IntKind.u64.wrap ((X : Int) * 4294967296) = ((X * 4294967296 % 18446744073709551616 : Nat) : Int) := by rw [IntKind.wrap_u64]; omega
  rw [e, u64_andNot _ _ (by omega) h1 (by decide) (by decide), u64_and _ _ (by omega) (by omega) (by decide) (by decide), Int.toNat_natCast, Int.toNat_natCast,
    show (18446744073709551615 - (18446744069414584320 : Int).toNat) = 4294967295 by decide, show (18446744069414584320 : Int).toNat = 18446744069414584320 by decide, nat_hi64_32, nat_mask32]
  rw [u64_or_nat _ _ (by omega) (by omega), nat_join32' _ _ (by omega) (by omega)]
  unfold clHi
  omega
set_option maxHeartbeats 8000000 in
set_option maxRecDepth 100000 in
theorem clint_put.calls (a : Addr) (r hi lo x : Int) (w : World) (hr : u64B r) (hx : u64B x) (hc : w.cell? a = some (.int .u64 r)) (hz : w.frozen? a = false) (hp : (hi = 63 ∧ lo = 0) ∨ (hi = 31 ∧ lo = 0) ∨ (hi = 63 ∧ lo = 32)) :
    Calls Try.prog 17 #[.pointer (some a), .int .i64 hi, .int .i64 lo, .int .u64 x] w fun e w' => e = .returned (.tuple #[]) ∧ w' = (w.setCell a (.int .u64 (putZ r hi lo x))).drew := by
  have HR := Aside0.mk hr
  have HX := Aside0.mk hx
  have hff : u64B 18446744073709551615 := ⟨by decide, by decide⟩
  have HFF := Aside0.mk hff
  have HW := Aside0.mk (show IntKind.u64.wrap x = x by rw [IntKind.wrap_u64]; obtain ⟨h0, h1⟩ := hx; omega)
  clear hr hx hff
  rcases hp with ⟨rfl, rfl⟩ | ⟨rfl, rfl⟩ | ⟨rfl, rfl⟩
  · have HZ := Aside0.mk (put_full r x HR.out HX.out)
    have HF : fieldZ 18446744073709551615 63 0 = 18446744073709551615 := by decide +kernel
    go_enter Try.func17, Try.ntmps17
    go_wp2_with (go_at_call 16; (with_reducible refine (bits_Field.runs 18446744073709551615 63 0 _ HFF.out).mono ?_); rintro e w' ⟨rfl, rfl⟩)
    go_region
    go_end0
    exact ⟨rfl, congrArg (fun z => (w.setCell a (.int .u64 z)).drew) (by rw [HW.out]; exact HZ.out)⟩
  · have HZ := Aside0.mk (put_lo r x HR.out HX.out)
    have HF : fieldZ 18446744073709551615 31 0 = 4294967295 := by decide +kernel
    go_enter Try.func17, Try.ntmps17
    go_wp2_with (go_at_call 16; (with_reducible refine (bits_Field.runs 18446744073709551615 31 0 _ HFF.out).mono ?_); rintro e w' ⟨rfl, rfl⟩)
    go_region
    go_end0
    exact ⟨rfl, congrArg (fun z => (w.setCell a (.int .u64 z)).drew) (by rw [HW.out]; exact HZ.out)⟩
  · have HZ := Aside0.mk (put_hi r x HR.out HX.out)
    have HF : fieldZ 18446744073709551615 63 32 = 4294967295 := by decide +kernel
    go_enter Try.func17, Try.ntmps17
    go_wp2_with (go_at_call 16; (with_reducible refine (bits_Field.runs 18446744073709551615 63 32 _ HFF.out).mono ?_); rintro e w' ⟨rfl, rfl⟩)
    go_region
    go_end0
    exact ⟨rfl, congrArg (fun z => (w.setCell a (.int .u64 z)).drew) HZ.out⟩
/-! ### Load -/
theorem part_cases (t c : Int) (s : Bool) (off size x : Int) (ht : u64B t) (hc : u64B c) (h0 : ¬ (off = 0 ∧ size = 4)) :
    (clPart off size = (0, -1, 0) ∧ clLoad t c s off size = (0, false) ∧ clStore t c s off size x = (t, c, s, false)) ∨
    ∃ hi lo, ((hi = 63 ∧ lo = 0) ∨ (hi = 31 ∧ lo = 0) ∨ (hi = 63 ∧ lo = 32)) ∧
      ((clPart off size = (49144, hi, lo) ∧ clLoad t c s off size = (fieldZ t hi lo, true) ∧ clStore t c s off size x = (putZ t hi lo x, c, s, true)) ∨
       (clPart off size = (16384, hi, lo) ∧ clLoad t c s off size = (fieldZ c hi lo, true) ∧ clStore t c s off size x = (t, putZ c hi lo x, s, true))) := by
  have f1 : ∀ z, u64B z → fieldZ z 63 0 = z := fun z hz => by
    rw [fieldZ_in _ _ _ (by omega) (by omega) (by omega), show ((63 : Int) - 0 + 1).toNat = 64 from rfl, show (2 : Int) ^ (0 : Int).toNat = 1 from rfl, show (2 : Int) ^ 64 = 18446744073709551616 by decide]
    obtain ⟨h1, h2⟩ := hz
    omega
  have f2 : ∀ z, fieldZ z 31 0 = z % 4294967296 := fun z => by
    rw [fieldZ_in _ _ _ (by omega) (by omega) (by omega), show ((31 : Int) - 0 + 1).toNat = 32 from rfl, show (2 : Int) ^ (0 : Int).toNat = 1 from rfl, show (2 : Int) ^ 32 = 4294967296 by decide]
    omega
  have f3 : ∀ z, u64B z → fieldZ z 63 32 = z / 4294967296 := fun z hz => by
    rw [fieldZ_in _ _ _ (by omega) (by omega) (by omega), show ((63 : Int) - 32 + 1).toNat = 32 from rfl, show (2 : Int) ^ (32 : Int).toNat = 4294967296 by decide, show (2 : Int) ^ 32 = 4294967296 by decide]
    obtain ⟨h1, h2⟩ := hz
    omega
  have q1 : ∀ r, putZ r 63 0 x = x := fun r => rfl
  have q2 : ∀ r, putZ r 31 0 x = clLo r x := fun r => rfl
  have q3 : ∀ r, putZ r 63 32 x = clHi r x := fun r => rfl
  by_cases e1 : off = 16384 ∧ size = 8
  · obtain ⟨rfl, rfl⟩ := e1
    exact .inr ⟨63, 0, .inl ⟨rfl, rfl⟩, .inr ⟨by simp [clPart], by simp [clLoad, f1 c hc], by simp [clStore, q1]⟩⟩
  by_cases e2 : off = 16384 ∧ size = 4
  · obtain ⟨rfl, rfl⟩ := e2
    exact .inr ⟨31, 0, .inr (.inl ⟨rfl, rfl⟩), .inr ⟨by simp [clPart], by simp [clLoad, f2 c], by simp [clStore, q2]⟩⟩
  by_cases e3 : off = 16388 ∧ size = 4
  · obtain ⟨rfl, rfl⟩ := e3
    exact .inr ⟨63, 32, .inr (.inr ⟨rfl, rfl⟩), .inr ⟨by simp [clPart], by simp [clLoad, f3 c hc], by simp [clStore, q3]⟩⟩
  by_cases e4 : off = 49144 ∧ size = 8
  · obtain ⟨rfl, rfl⟩ := e4
    exact .inr ⟨63, 0, .inl ⟨rfl, rfl⟩, .inl ⟨by simp [clPart], by simp [clLoad, f1 t ht], by simp [clStore, q1]⟩⟩
  by_cases e5 : off = 49144 ∧ size = 4
  · obtain ⟨rfl, rfl⟩ := e5
    exact .inr ⟨31, 0, .inr (.inl ⟨rfl, rfl⟩), .inl ⟨by simp [clPart], by simp [clLoad, f2 t], by simp [clStore, q2]⟩⟩
  by_cases e6 : off = 49148 ∧ size = 4
  · obtain ⟨rfl, rfl⟩ := e6
    exact .inr ⟨63, 32, .inr (.inr ⟨rfl, rfl⟩), .inl ⟨by simp [clPart], by simp [clLoad, f3 t ht], by simp [clStore, q3]⟩⟩
  · exact .inl ⟨by unfold clPart; simp [e1, e2, e3, e4, e5, e6], by unfold clLoad; simp [h0, e1, e2, e3, e4, e5, e6], by unfold clStore; simp [h0, e1, e2, e3, e4, e5, e6]⟩
def clint_Load.f (t c : Int) (s : Bool) (off size : Int) : Option (Int × Bool) := if u64B t ∧ u64B c then some (clLoad t c s off size) else none
set_option maxHeartbeats 8000000 in
set_option maxRecDepth 100000 in
theorem clint_Load.calls (t c : Int) (s : Bool) (off size : Int) (r1 : Int) (r2 : Bool) (w : World) (h : clint_Load.f t c s off size = some (r1, r2)) :
    Calls Try.prog 6 #[.agg #[.int .u64 t, .int .u64 c, .bool s], .int .u64 off, .int .i64 size] w fun e w' => e = .returned (.tuple #[.int .u64 r1, .bool r2]) ∧ Below w.heap.size w w' := by
  unfold clint_Load.f at h
  by_cases hx : u64B t ∧ u64B c
  · rw [if_pos hx] at h
    have h := Option.some.inj h
    obtain ⟨ht, hc⟩ := hx
    by_cases e1 : off = 0 ∧ size = 4
    · obtain ⟨rfl, rfl⟩ := e1
      unfold clLoad at h
      rw [if_pos ⟨rfl, rfl⟩] at h
      cases s
      · obtain ⟨rfl, rfl⟩ : 0 = r1 ∧ true = r2 := by simpa using h
        clear h ht hc
        go_enter Try.func6, Try.ntmps6
        go_wp2
        go_ret2
        exact ⟨rfl, below_alloc (Below.refl _ _) _⟩
      · obtain ⟨rfl, rfl⟩ : 1 = r1 ∧ true = r2 := by simpa using h
        clear h ht hc
        go_enter Try.func6, Try.ntmps6
        go_wp2
        go_ret2
        exact ⟨rfl, below_alloc (Below.refl _ _) _⟩
    · have hg : ((off == 0) = false) ∨ (off = 0 ∧ (size == 4) = false) := by
        by_cases e0 : off = 0
        · exact .inr ⟨e0, beq_eq_false_iff_ne.2 (fun e' => e1 ⟨e0, e'⟩)⟩
        · exact .inl (beq_eq_false_iff_ne.2 e0)
      have HT := Aside0.mk ht
      have HC := Aside0.mk hc
      rcases part_cases t c s off size 0 ht hc e1 with ⟨hp, hl, _⟩ | ⟨hi, lo, hq, ⟨hp, hl, _⟩ | ⟨hp, hl, _⟩⟩
      · rw [hl] at h
        obtain ⟨rfl, rfl⟩ : 0 = r1 ∧ false = r2 := by simpa using h
        have HP := Aside0.mk hp
        clear h ht hc hp hl e1
        rcases hg with hg | ⟨rfl, hg⟩
        all_goals
          go_enter Try.func6, Try.ntmps6
          go_wp2_with (go_at_call 15; (with_reducible refine (clint_part.calls _ size 0 (-1) 0 _ HP.out).mono ?_); rintro e w' ⟨rfl, rfl⟩)
          go_ret2
          exact ⟨rfl, below_alloc (Below.refl _ _) _⟩
      · rw [hl] at h
        obtain ⟨rfl, rfl⟩ : fieldZ t hi lo = r1 ∧ true = r2 := by simpa using h
        have HP := Aside0.mk hp
        have hi0 : 0 ≤ hi := by omega
        clear h ht hc hp hl hq e1
        rcases hg with hg | ⟨rfl, hg⟩
        all_goals
          go_enter Try.func6, Try.ntmps6
          go_wp2_with (first | (go_at_call 15; (with_reducible refine (clint_part.calls _ size 49144 hi lo _ HP.out).mono ?_); rintro e w' ⟨rfl, rfl⟩) | (go_at_call 16; (with_reducible refine (bits_Field.runs t hi lo _ HT.out).mono ?_); rintro e w' ⟨rfl, rfl⟩))
          go_ret2
          exact ⟨rfl, below_alloc (Below.refl _ _) _⟩
      · rw [hl] at h
        obtain ⟨rfl, rfl⟩ : fieldZ c hi lo = r1 ∧ true = r2 := by simpa using h
        have HP := Aside0.mk hp
        have hi0 : 0 ≤ hi := by omega
        clear h ht hc hp hl hq e1
        rcases hg with hg | ⟨rfl, hg⟩
        all_goals
          go_enter Try.func6, Try.ntmps6
          go_wp2_with (first | (go_at_call 15; (with_reducible refine (clint_part.calls _ size 16384 hi lo _ HP.out).mono ?_); rintro e w' ⟨rfl, rfl⟩) | (go_at_call 16; (with_reducible refine (bits_Field.runs c hi lo _ HC.out).mono ?_); rintro e w' ⟨rfl, rfl⟩))
          go_ret2
          exact ⟨rfl, below_alloc (Below.refl _ _) _⟩
  · rw [if_neg hx] at h
    exact absurd h (by simp)
/-! ### Store -/
def clint_Store.f (t c : Int) (s : Bool) (off size x : Int) : Option (Int × Int × Bool × Bool) := if u64B t ∧ u64B c ∧ u64B x then some (clStore t c s off size x) else none
theorem and_one (x : Int) (hx : u64B x) : Go.bits .and .u64 x 1 = x % 2 := by
  obtain ⟨X, rfl⟩ := Int.eq_ofNat_of_zero_le hx.1
  rw [u64_and _ _ hx.1 hx.2 (by decide) (by decide), Int.toNat_natCast, show (1 : Int).toNat = 1 from rfl, Nat.and_one_is_mod]
  omega
set_option maxHeartbeats 8000000 in
set_option maxRecDepth 100000 in
theorem clint_Store.calls (t c : Int) (s : Bool) (off size x : Int) (r1 r2 : Int) (r3 r4 : Bool) (w : World) (h : clint_Store.f t c s off size x = some (r1, r2, r3, r4)) :
    Calls Try.prog 8 #[.agg #[.int .u64 t, .int .u64 c, .bool s], .int .u64 off, .int .i64 size, .int .u64 x] w fun e w' => e = .returned (.tuple #[.agg #[.int .u64 r1, .int .u64 r2, .bool r3], .bool r4]) ∧ Below w.heap.size w w' := by
  unfold clint_Store.f at h
  by_cases hx : u64B t ∧ u64B c ∧ u64B x
  · rw [if_pos hx] at h
    have h := Option.some.inj h
    obtain ⟨ht, hc, hx⟩ := hx
    by_cases e1 : off = 0 ∧ size = 4
    · obtain ⟨rfl, rfl⟩ := e1
      unfold clStore at h
      rw [if_pos ⟨rfl, rfl⟩] at h
      obtain ⟨rfl, rfl, rfl, rfl⟩ : t = r1 ∧ c = r2 ∧ (x % 2 == 1) = r3 ∧ true = r4 := by simpa using h
      have HA := Aside0.mk (and_one x hx)
      clear h ht hc hx
      go_enter Try.func8, Try.ntmps8
      go_wp2
      rw [HA.out]
      exact bodyPost_ret (v := .tuple #[.agg #[.int .u64 t, .int .u64 c, .bool (x % 2 == 1)], .bool true]) (by simp [results, Try.results8, go_sem]) rfl ⟨rfl, below_alloc (below_alloc (Below.refl _ _) _) _⟩
    · have hg : ((off == 0) = false) ∨ (off = 0 ∧ (size == 4) = false) := by
        by_cases e0 : off = 0
        · exact .inr ⟨e0, beq_eq_false_iff_ne.2 (fun e' => e1 ⟨e0, e'⟩)⟩
        · exact .inl (beq_eq_false_iff_ne.2 e0)
      have HT := Aside0.mk ht
      have HC := Aside0.mk hc
      have HX := Aside0.mk hx
      rcases part_cases t c s off size x ht hc e1 with ⟨hp, _, hl⟩ | ⟨hi, lo, hq, ⟨hp, _, hl⟩ | ⟨hp, _, hl⟩⟩
      · rw [hl] at h
        obtain ⟨rfl, rfl, rfl, rfl⟩ : t = r1 ∧ c = r2 ∧ s = r3 ∧ false = r4 := by simpa using h
        have HP := Aside0.mk hp
        clear h ht hc hx hp hl e1
        rcases hg with hg | ⟨rfl, hg⟩
        all_goals
          go_enter Try.func8, Try.ntmps8
          go_wp2_with (go_at_call 15; (with_reducible refine (clint_part.calls _ size 0 (-1) 0 _ HP.out).mono ?_); rintro e w' ⟨rfl, rfl⟩)
          exact bodyPost_ret (v := .tuple #[.agg #[.int .u64 t, .int .u64 c, .bool s], .bool false]) (by simp [results, Try.results8, go_sem]) rfl ⟨rfl, below_alloc (below_alloc (Below.refl _ _) _) _⟩
      · rw [hl] at h
        obtain ⟨rfl, rfl, rfl, rfl⟩ : putZ t hi lo x = r1 ∧ c = r2 ∧ s = r3 ∧ true = r4 := by simpa using h
        have HP := Aside0.mk hp
        have HQ := Aside0.mk hq
        have hi0 : 0 ≤ hi := by omega
        clear h ht hc hx hp hl hq e1
        rcases hg with hg | ⟨rfl, hg⟩
        all_goals
          go_enter Try.func8, Try.ntmps8
          go_wp2_with (first | (go_at_call 15; (with_reducible refine (clint_part.calls _ size 49144 hi lo _ HP.out).mono ?_); rintro e w' ⟨rfl, rfl⟩) | (go_at_call 17; (with_reducible refine (clint_put.calls _ t hi lo x _ HT.out HX.out (by simp [go_sem]) (by simp [go_sem]) HQ.out).mono ?_); rintro e w' ⟨rfl, rfl⟩))
          exact bodyPost_ret (v := .tuple #[.agg #[.int .u64 (putZ t hi lo x), .int .u64 c, .bool s], .bool true]) (by simp [results, Try.results8, go_sem]) rfl ⟨rfl, below_drew (below_alloc (below_alloc (Below.refl _ _) _) _)⟩
      · rw [hl] at h
        obtain ⟨rfl, rfl, rfl, rfl⟩ : t = r1 ∧ putZ c hi lo x = r2 ∧ s = r3 ∧ true = r4 := by simpa using h
        have HP := Aside0.mk hp
        have HQ := Aside0.mk hq
        have hi0 : 0 ≤ hi := by omega
        clear h ht hc hx hp hl hq e1
        rcases hg with hg | ⟨rfl, hg⟩
        all_goals
          go_enter Try.func8, Try.ntmps8
          go_wp2_with (first | (go_at_call 15; (with_reducible refine (clint_part.calls _ size 16384 hi lo _ HP.out).mono ?_); rintro e w' ⟨rfl, rfl⟩) | (go_at_call 17; (with_reducible refine (clint_put.calls _ c hi lo x _ HC.out HX.out (by simp [go_sem]) (by simp [go_sem]) HQ.out).mono ?_); rintro e w' ⟨rfl, rfl⟩))
          exact bodyPost_ret (v := .tuple #[.agg #[.int .u64 t, .int .u64 (putZ c hi lo x), .bool s], .bool true]) (by simp [results, Try.results8, go_sem]) rfl ⟨rfl, below_drew (below_alloc (below_alloc (Below.refl _ _) _) _)⟩
  · rw [if_neg hx] at h
    exact absurd h (by simp)
end Go.Proofs.Ytfnealbmackjaaa.Q
