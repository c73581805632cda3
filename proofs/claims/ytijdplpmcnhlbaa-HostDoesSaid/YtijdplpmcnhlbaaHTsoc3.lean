import Derived.Test.YtijdplpmcnhlbaaHZ2
/- Sockets, plain facts: rows that may be. -/
set_option linter.unusedVariables false
set_option linter.unusedSimpArgs false
namespace Go.Proofs.Ytijdplpmcnhlbaa.Q
open Go.RowKit Go.Proofs.YtijdplpmcnhlbaaW.PrintWords Go.Proofs.YtijdplpmcnhlbaaW.PrintLast Go.Proofs.YtijdplpmcnhlbaaW.PrintMore
def lastF : Int → List S34 → Int
  | a, [] => a
  | _, x :: l => lastF x.f0 l
theorem okR_append : ∀ (a : List S34) (last : Int) (b : List S34), okR last (a ++ b) = (okR last a && okR (lastF last a) b)
  | [], last, b => by simp [okR, lastF]
  | x :: a, last, b => by
    rw [List.cons_append, okR, okR, lastF, okR_append a x.f0 b, Bool.and_assoc, Bool.and_assoc]
theorem okR_mono {p q : Int} (h : p ≤ q) : ∀ {l : List S34}, okR q l = true → okR p l = true
  | [], _ => rfl
  | x :: l, hk => by
    unfold okR at hk ⊢
    simp only [Bool.and_eq_true, decide_eq_true_eq] at hk ⊢
    exact ⟨hk.1, by omega, hk.2.2⟩
theorem okR_le : ∀ {l : List S34} {p : Int}, okR p l = true → p ≤ lastF p l
  | [], p, _ => Int.le_refl _
  | x :: l, p, hk => by
    unfold okR at hk
    simp only [Bool.and_eq_true, decide_eq_true_eq] at hk
    have := okR_le hk.2.2
    unfold lastF
    omega
theorem okR_gt : ∀ {l : List S34} {p : Int}, okR p l = true → ∀ y ∈ l, p < y.f0
  | [], p, _, y, hy => by cases hy
  | x :: l, p, hk, y, hy => by
    unfold okR at hk
    simp only [Bool.and_eq_true, decide_eq_true_eq] at hk
    rcases List.mem_cons.1 hy with rfl | hy
    · exact hk.2.1
    · have := okR_gt hk.2.2 y hy; omega
theorem okR_lastF : ∀ {l : List S34} {p : Int}, okR p l = true → ∀ y ∈ l, y.f0 ≤ lastF p l
  | [], p, _, y, hy => by cases hy
  | x :: l, p, hk, y, hy => by
    unfold okR at hk
    simp only [Bool.and_eq_true, decide_eq_true_eq] at hk
    unfold lastF
    rcases List.mem_cons.1 hy with rfl | hy
    · exact okR_le hk.2.2
    · exact okR_lastF hk.2.2 y hy
theorem okR_okI : ∀ {l : List S34} {p : Int}, okR p l = true → ∀ y ∈ l, okI y = true
  | [], p, _, y, hy => by cases hy
  | x :: l, p, hk, y, hy => by
    unfold okR at hk
    simp only [Bool.and_eq_true, decide_eq_true_eq] at hk
    rcases List.mem_cons.1 hy with rfl | hy
    · exact hk.1
    · exact okR_okI hk.2.2 y hy
theorem okL_len {l : List S34} (h : okL l = true) : l.length ≤ 8 := by
  unfold okL at h
  simp only [Bool.and_eq_true, decide_eq_true_eq] at h
  omega
theorem okL_R {l : List S34} (h : okL l = true) : okR 0 l = true := by
  unfold okL at h
  simp only [Bool.and_eq_true] at h
  exact h.1
theorem okL_mk {l : List S34} (h : okR 0 l = true) (hl : l.length ≤ 8) : okL l = true := by
  unfold okL
  rw [h, decide_eq_true (by omega)]; rfl
/-- What is found. -/
theorem idxS_skip (n : Int) : ∀ (a : List S34) (b : List S34) (k : Int), (∀ y ∈ a, y.f0 ≠ n) → idxS n (a ++ b) k = idxS n b (k + a.length)
  | [], b, k, _ => by simp
  | x :: a, b, k, h => by
    rw [List.cons_append, idxS, if_neg (by simpa using h x (List.mem_cons_self ..)), idxS_skip n a b (k + 1) (fun y hy => h y (List.mem_cons_of_mem _ hy))]
    congr 1
    rw [List.length_cons]; omega
theorem idxS_none {n : Int} : ∀ {l : List S34} {k : Int}, (∀ y ∈ l, y.f0 ≠ n) → idxS n l k = -1
  | [], k, _ => rfl
  | x :: l, k, h => by
    rw [idxS, if_neg (by simpa using h x (List.mem_cons_self ..))]
    exact idxS_none (fun y hy => h y (List.mem_cons_of_mem _ hy))
theorem idxS_cases (n : Int) (l : List S34) : (idxS n l 0 = -1 ∧ ∀ y ∈ l, y.f0 ≠ n) ∨ ∃ a x b, l = a ++ x :: b ∧ x.f0 = n ∧ (∀ y ∈ a, y.f0 ≠ n) ∧ idxS n l 0 = (a.length : Int) := by
  by_cases h : ∀ y ∈ l, y.f0 ≠ n
  · exact .inl ⟨idxS_none h, h⟩
  · right
    have : ∃ a x b, l = a ++ x :: b ∧ x.f0 = n ∧ ∀ y ∈ a, y.f0 ≠ n := by
      revert h
      induction l with
      | nil => intro h; exact absurd (fun y hy => by cases hy) h
      | cons z l ih =>
        intro h
        by_cases hz : z.f0 = n
        · exact ⟨[], z, l, rfl, hz, fun y hy => by cases hy⟩
        · obtain ⟨a, x, b, e, hx, ha⟩ := ih (fun hh => h (fun y hy => by rcases List.mem_cons.1 hy with rfl | hy; exact hz; exact hh y hy))
          exact ⟨z :: a, x, b, by rw [e]; rfl, hx, fun y hy => by rcases List.mem_cons.1 hy with rfl | hy; exact hz; exact ha y hy⟩
    obtain ⟨a, x, b, e, hx, ha⟩ := this
    refine ⟨a, x, b, e, hx, ha, ?_⟩
    rw [e, idxS_skip n a _ 0 ha, idxS, if_pos (by simpa using hx)]
    omega
theorem rd_mid (a : List S34) (x : S34) (b : List S34) : rd_T34 (a ++ x :: b) (a.length : Int) = x := by
  unfold rd_T34
  rw [Int.toNat_natCast, List.getD_eq_getElem?_getD, List.getElem?_append_right (Nat.le_refl _), Nat.sub_self]; rfl
theorem set_mid (a : List S34) (x y : S34) (b : List S34) : (a ++ x :: b).set a.length y = a ++ y :: b := by
  rw [List.set_append_right _ _ (Nat.le_refl _), Nat.sub_self]; rfl
theorem setS_mid (a : List S34) (x : S34) (b : List S34) (m : Nat) : setS (a ++ x :: b) (a.length : Int) m = a ++ mapS m x :: b := by
  unfold setS
  rw [rd_mid, Int.toNat_natCast, set_mid]
theorem cut_mid (a : List S34) (x : S34) (b : List S34) : (a ++ x :: b).take a.length ++ (a ++ x :: b).drop (a.length + 1) = a ++ b := by
  rw [List.take_left', show a.length + 1 = (a ++ [x]).length by simp, show a ++ x :: b = (a ++ [x]) ++ b by simp, List.drop_left']
  · rfl
  · rfl
theorem ok_mid {a : List S34} {x y : S34} {b : List S34} (h : okL (a ++ x :: b) = true) (hy : okI y = true) (hf : y.f0 = x.f0) : okL (a ++ y :: b) = true := by
  have hl := okL_len h
  have hr := okL_R h
  rw [okR_append] at hr
  refine okL_mk ?_ (by simpa using hl)
  rw [okR_append]
  simp only [Bool.and_eq_true] at hr ⊢
  refine ⟨hr.1, ?_⟩
  have h2 := hr.2
  unfold okR at h2 ⊢
  rw [hy, hf]
  simp only [Bool.and_eq_true, decide_eq_true_eq] at h2 ⊢
  exact ⟨trivial, h2.2⟩
theorem ok_cut {a : List S34} {x : S34} {b : List S34} (h : okL (a ++ x :: b) = true) : okL (a ++ b) = true ∧ ∀ y ∈ a ++ b, y.f0 ≠ x.f0 := by
  have hl := okL_len h
  have hr := okL_R h
  rw [okR_append] at hr
  simp only [Bool.and_eq_true] at hr
  have h2 := hr.2
  unfold okR at h2
  simp only [Bool.and_eq_true, decide_eq_true_eq] at h2
  have hlt : lastF 0 a < x.f0 := h2.2.1
  constructor
  · refine okL_mk ?_ (by simp at hl ⊢; omega)
    rw [okR_append, hr.1, okR_mono (by omega) h2.2.2]; rfl
  · intro y hy
    rcases List.mem_append.1 hy with hy | hy
    · have := okR_lastF hr.1 y hy; omega
    · have := okR_gt h2.2.2 y hy; omega
theorem map_ok (m : Nat) {x : S34} (h : okI x = true) (hm : m = 1 ∨ x.f1 = 2) : okI (mapS m x) = true ∧ (mapS m x).f0 = x.f0 := by
  obtain ⟨h0, h8, h12, h3, h45⟩ := okI_yes h
  obtain ⟨a, b, c, d, e, f⟩ := x
  have h0 : 1 ≤ a := h0
  have h8 : a ≤ 8 := h8
  have h3a : 0 ≤ d := h3.1
  have h3b : d ≤ 65535 := h3.2
  have hd : d / 65536 = 0 := by omega
  unfold mapS okI
  by_cases h1 : m = 1
  · rw [if_pos h1]
    exact ⟨by simp [h0, h8, hd], rfl⟩
  · rw [if_neg h1]
    have hb : b = 2 := by rcases hm with h | h; exact absurd h h1; exact h
    subst hb
    by_cases h4 : m = 4
    · rw [if_pos h4]; exact ⟨by simp [h0, h8, hd], rfl⟩
    · rw [if_neg h4]; exact ⟨by simp [h0, h8, hd], rfl⟩
end Go.Proofs.Ytijdplpmcnhlbaa.Q
