/- A row of sockets of one's own, as a block's cells; copy and clear over them. -/
import Derived.Test.YtijdplpmcnhlbaaHshut
import Derived.Lib.SliceRun
import Derived.Lib.AppendZerosOnto
import Derived.Lib.Overlaps
import Derived.Deep.RegionLaw
import Derived.Deep.AppendSrc
namespace Go.Proofs.Ytijdplpmcnhlbaa.Q
open Go.RowKit Go.Proofs.YtijdplpmcnhlbaaW.PrintWords Go.Proofs.YtijdplpmcnhlbaaW.PrintLast Go.Proofs.YtijdplpmcnhlbaaW.PrintMore Go.Proofs.Ytijdplpmcnhlbaa.L
attribute [local go_sem] Instr.field part asAgg lt_step max2_int min2_int max_two min_two max_three min_three max_four min_four lt_0_1 lt_0_2 lt_1_2 lt_0_3 lt_1_3 lt_2_3 lt_0_4 lt_1_4 lt_2_4 lt_3_4 lt_0_5 lt_1_5 lt_2_5 lt_3_5 lt_4_5 lt_0_6 lt_1_6 lt_2_6 lt_3_6 lt_4_6 lt_5_6 lt_0_7 lt_1_7 lt_2_7 lt_3_7 lt_4_7 lt_5_7 lt_6_7 lt_0_8 lt_1_8 lt_2_8 lt_3_8 lt_4_8 lt_5_8 lt_6_8 lt_7_8
set_option linter.unusedVariables false
set_option linter.unusedSimpArgs false
def cells1 (x : S34) : List Value := [.int .i64 x.f0, .int .i64 x.f1, .int .u32 x.f2, .int .i64 x.f3, .bool x.f4, .bool x.f5]
def cellsL : List S34 → List Value
  | [] => []
  | x :: l => cells1 x ++ cellsL l
theorem cellsL_len : ∀ l : List S34, (cellsL l).length = l.length * 6
  | [] => rfl
  | x :: l => by rw [cellsL, List.length_append, cellsL_len l, List.length_cons]; show 6 + l.length * 6 = _; omega
theorem cellsL_append : ∀ a b : List S34, cellsL (a ++ b) = cellsL a ++ cellsL b
  | [], b => rfl
  | x :: a, b => by rw [List.cons_append, cellsL, cellsL, cellsL_append a b, List.append_assoc]
theorem cellsL_drop : ∀ (l : List S34) (k : Nat), (cellsL l).drop (k * 6) = cellsL (l.drop k)
  | l, 0 => by simp
  | [], k + 1 => by simp [cellsL]
  | x :: l, k + 1 => by
    rw [cellsL, List.drop_succ_cons, ← cellsL_drop l k]
    rw [show (k + 1) * 6 = (cells1 x).length + k * 6 by show _ = 6 + k * 6; omega, List.drop_length_add_append]
theorem cellsL_take : ∀ (l : List S34) (k : Nat), (cellsL l).take (k * 6) = cellsL (l.take k)
  | l, 0 => by simp [cellsL]
  | [], k + 1 => by simp [cellsL]
  | x :: l, k + 1 => by
    rw [cellsL, List.take_succ_cons, cellsL, ← cellsL_take l k]
    rw [show (k + 1) * 6 = (cells1 x).length + k * 6 by show _ = 6 + k * 6; omega, List.take_length_add_append]
theorem cellsL_one : ∀ (l : List S34) (v : Value), v ∈ cellsL l → v.oneCell' = true
  | [], v, h => by cases h
  | x :: l, v, h => by
    rw [cellsL, List.mem_append] at h
    rcases h with h | h
    · unfold cells1 at h
      simp only [List.mem_cons, List.not_mem_nil, or_false] at h
      rcases h with rfl | rfl | rfl | rfl | rfl | rfl <;> rfl
    · exact cellsL_one l v h
theorem reps_cells {w : World} {base : Nat} {ok : Nat → Prop} : ∀ (l : List S34) (inner : List Value), Reps (k34.M w base ok) 6 l inner → inner = cellsL l
  | [], inner, h => by
    have := h.1
    rw [List.length_nil, Nat.zero_mul] at this
    rw [List.length_eq_zero_iff.1 this]; rfl
  | x :: l, inner, h => by
    have hl : inner.length = (l.length + 1) * 6 := h.1
    have h0 := k34_openM (h.2 0 x rfl)
    rw [Nat.zero_mul, List.drop_zero] at h0
    have ht : Reps (k34.M w base ok) 6 l (inner.drop 6) := ⟨by rw [List.length_drop, hl]; omega, fun j p hp => by
      have := h.2 (j + 1) p (by simpa using hp)
      rw [List.drop_drop]
      rwa [show 6 + j * 6 = (j + 1) * 6 by omega]⟩
    rw [← List.take_append_drop 6 inner, reps_cells l _ ht, h0]; rfl
theorem cells_reps {w : World} {base : Nat} {ok : Nat → Prop} (l : List S34) : Reps (k34.M w base ok) 6 l (cellsL l) := by
  refine ⟨cellsL_len l, fun j p hp => ?_⟩
  have hj : j < l.length := (List.getElem?_eq_some_iff.1 hp).1
  have hpe := (List.getElem?_eq_some_iff.1 hp).2
  rw [cellsL_drop, List.drop_eq_getElem_cons hj, hpe, cellsL]
  have : ((cells1 p ++ cellsL (l.drop (j + 1))).take 6) = cells1 p := by
    rw [List.take_append_of_le_length (by show 6 ≤ 6; omega)]; rfl
  rw [this]
  exact k34_mkM _ _ _ p
theorem R_cells {w : World} {base g n cap : Nat} {ok : Nat → Prop} {l : List S34} (h : Kd.R k34 34 w base ok (.slice (some ⟨g, 0, none⟩) n cap) l) :
    ∃ cur, w.heap[g]? = some (.cells cur 34 (0, 0)) ∧ base ≤ g ∧ ok g ∧ n = l.length ∧ n ≤ cap ∧ cap ≤ maxLen ∧ cur.size = cap * 6 ∧ cur.toList.take (n * 6) = cellsL l := by
  obtain ⟨hok, inner, ⟨hl, ho⟩, hr⟩ := h
  have e := reps_cells l inner hr
  subst e
  rcases ho with ⟨hv, _⟩ | ⟨g', cap', cur, hv, hb, hh, hnc, hcm, hcs, ht⟩
  · cases hv
  injection hv with ha hn hc
  injection ha with ha
  injection ha with hg
  subst hg hc hn
  refine ⟨cur, hh, hb, hok g rfl, ?_, hnc, hcm, hcs, ht⟩
  rfl
theorem R_mk {w : World} {base g cap : Nat} {ok : Nat → Prop} {l : List S34} {cur : Array Value} (hh : w.heap[g]? = some (.cells cur 34 (0, 0))) (hb : base ≤ g) (hk : ok g) (hnc : l.length ≤ cap) (hcm : cap ≤ maxLen) (hcs : cur.size = cap * 6) (ht : cur.toList.take (l.length * 6) = cellsL l) :
    Kd.R k34 34 w base ok (.slice (some ⟨g, 0, none⟩) l.length cap) l := by
  refine ⟨fun k hk' => ?_, cellsL l, ⟨cellsL_len l, .inr ⟨g, cap, cur, rfl, hb, hh, hnc, hcm, hcs, ht⟩⟩, cells_reps l⟩
  have : g = k := by simpa [Value.ownBlock] using hk'
  rw [← this]; exact hk
/-- A block behind a run of stores. -/
theorem blk_cells {b t : Nat} : ∀ (vs : List Value) (o : Nat) (w : World) (cur : Array Value), w.heap[b]? = some (.cells cur t (0, 0)) → ∃ cur', (w.setCells b o vs).heap[b]? = some (.cells cur' t (0, 0)) ∧ cur'.size = cur.size ∧ ∀ j, j < cur.size → cur'[j]? = if o ≤ j ∧ j < o + vs.length then vs[j - o]? else cur[j]?
  | [], o, w, cur, h => ⟨cur, h, rfl, fun j hj => by rw [if_neg (by rintro ⟨a, b⟩; rw [List.length_nil] at b; omega)]⟩
  | v :: vs, o, w, cur, h => by
    obtain ⟨cur', h1, h2, h3⟩ := blk_cells vs (o + 1) (w.setCell ⟨b, o, none⟩ v) (cur.setIfInBounds o v) (blk_put h o v rfl)
    refine ⟨cur', h1, by rw [h2, Array.size_setIfInBounds], fun j hj => ?_⟩
    rw [h3 j (by simpa using hj), List.length_cons]
    by_cases hjo : j = o
    · subst hjo
      rw [if_neg (by omega), if_pos (by omega), Nat.sub_self, List.getElem?_cons_zero, Array.getElem?_setIfInBounds_self, if_pos hj]
    · by_cases hin : o + 1 ≤ j ∧ j < o + 1 + vs.length
      · rw [if_pos hin, if_pos (by omega), show j - o = (j - (o + 1)) + 1 by omega, List.getElem?_cons_succ]
      · rw [if_neg hin, if_neg (by omega), Array.getElem?_setIfInBounds_ne (by omega)]
theorem run_copy6 (w : World) (ty : TypeId) (b o dLen dCap : Nat) (a : Addr) (sLen sCap : Nat) (cs : List Value) (hn : cs.length = Nat.min sLen dLen * 6)
    (hsrc : ∀ j v, cs[j]? = some v → w.cell? (a.add j) = some v) (hc : ∀ j, j < cs.length → (w.cell? ⟨b, o + j, none⟩).isSome = true) (hf : ∀ j, j < cs.length → w.frozen? ⟨b, o + j, none⟩ = false) (h1 : ∀ v ∈ cs, v.oneCell' = true) :
    (Builtin.copy_ #[22, 22] ty #[.slice (some ⟨b, o, none⟩) dLen dCap, .slice (some a) sLen sCap]).run Try.prog w = .ok (goInt (Nat.min sLen dLen)) (w.setCells b o cs) := by
  have hl := run_loadCells_list (P := Try.prog) w a cs hsrc
  have hst := run_storeCells_cells (P := Try.prog) b o cs 0 w (by simpa using hc) (by simpa using hf) h1
  obtain ⟨i, hq, hi⟩ := Option.map_eq_some_iff.1 info34
  simp only [Prod.mk.injEq] at hi
  have hi6 : i.size = 6 := hi.2.1
  simp [Builtin.copy_, run_underlying Try.underlying22, Builtin.lenOf, Builtin.firstCells, sizeOf, typeInfo, hq, hi6, ← hn, hl, hst]
theorem zero34 (w : World) : (zeroValue 34).run Try.prog w = .ok (.agg #[(.int .i64 0), (.int .i64 0), (.int .u32 0), (.int .i64 0), (.bool false), (.bool false)]) w := by
  obtain ⟨i, hq, hi⟩ := Option.map_eq_some_iff.1 info34
  simp only [Prod.mk.injEq] at hi
  simp [zeroValue, typeInfo, hq, hi.1]
theorem run_clear6 (w : World) (ty : TypeId) (b o c : Nat)
    (hc : ∀ j, j < 6 → (w.cell? ⟨b, o + j, none⟩).isSome = true) (hf : ∀ j, j < 6 → w.frozen? ⟨b, o + j, none⟩ = false) :
    (Builtin.clear_ #[22] ty #[.slice (some ⟨b, o, none⟩) 1 c]).run Try.prog w = .ok (.tuple #[]) (w.setCells b o [(.int .i64 0), (.int .i64 0), (.int .u32 0), (.int .i64 0), (.bool false), (.bool false)]) := by
  have hst := run_storeCells_cells (P := Try.prog) b o [(.int .i64 0), (.int .i64 0), (.int .u32 0), (.int .i64 0), (.bool false), (.bool false)] 0 w (by simpa using hc) (by simpa using hf) (by intro v hv; simp only [List.mem_cons, List.not_mem_nil, or_false] at hv; rcases hv with rfl | rfl | rfl | rfl | rfl | rfl <;> rfl)
  simp only [Nat.add_zero] at hst
  have hz : (Builtin.zeroCells (Value.agg #[(.int .i64 0), (.int .i64 0), (.int .u32 0), (.int .i64 0), (.bool false), (.bool false)]).cells 1).toList = [(.int .i64 0), (.int .i64 0), (.int .u32 0), (.int .i64 0), (.bool false), (.bool false)] := by first | kernel_rfl | (simp [Builtin.zeroCells, Value.cells]; done) | decide
  simp [Builtin.clear_, run_underlying Try.underlying22, zero34, hz, hst]
end Go.Proofs.Ytijdplpmcnhlbaa.Q
