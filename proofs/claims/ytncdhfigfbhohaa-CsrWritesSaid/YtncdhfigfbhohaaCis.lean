/- errors.Is, at nil and at a refusal of csr's, against none{}. -/
import Derived.Test.YtncdhfigfbhohaaQx0
import Derived.Test.YtncdhfigfbhohaaKt
import Derived.WalkKit
import Derived.LaidEql
import Derived.Stop.Asserts
import Derived.RowKitTokens
namespace Go.Proofs.Ytncdhfigfbhohaa.Q
open Go.RowKit Go.Extern.Stop Go.Stop Go.Extern Go.Proofs.Ytncdhfigfbhohaa.L
set_option linter.unusedVariables false
set_option linter.unusedSimpArgs false
theorem is_typeOf (v : Value) (w : World) : (Extern.ReflectliteType.typeOf #[.iface 43 v]).run Try.prog w = .ok (.iface 61 (.agg #[.pointer (some ⟨0, 43, none⟩)])) w := by kernel_rfl
theorem is_comparable (w : World) : ((Extern.ReflectliteType.method fun t => do Extern.Rtype.noPackHeld "Comparable" t; (fun a => Value.bool a.comparable) <$> typeInfo t) #[.agg #[.pointer (some ⟨0, 43, none⟩)]]).run Try.prog w = .ok (.bool true) w := by kernel_rfl
theorem is_method (v : Value) (w : World) : (Go.method 205 61 v "Comparable").run Try.prog w = .ok (49, v) w := by kernel_rfl
theorem is_noIs (v : Value) (xT : TypeId) (w : World) : (Instr.typeAssert (.iface 46 v) xT 63 true).run Try.prog w = .ok (.tuple #[.nilIface, .bool false]) w := run_typeAssert_lacksB Try.underlying63 (by kernel_rfl) (by kernel_rfl) v xT w
theorem is_hasUnwrap (v : Value) (xT : TypeId) (w : World) : (Instr.typeAssert (.iface 46 v) xT 66 true).run Try.prog w = .ok (.tuple #[.iface 46 v, .bool true]) w := run_typeAssert_hasB Try.underlying66 (by kernel_rfl) v xT w
theorem is_methodUnwrap (v : Value) (w : World) : (Go.method 205 46 v "Unwrap").run Try.prog w = .ok (45, v) w := by kernel_rfl
theorem is_eq_none (w : World) : (binOp .eql 37 (.iface 43 (.agg #[])) (.iface 43 (.agg #[]))).run Try.prog w = .ok (.bool true) w := by kernel_rfl
theorem is_nil (w : World) :
    Calls Try.prog 16 #[.nilIface, .iface 43 (.agg #[])] w fun e w' => e = .returned (.bool false) ∧ w = w' := by
  have hn := run_eql_iface_nil_left (P := Try.prog) w 43 (.agg #[]) Try.underlying37
  go_enter Try.func16, Try.ntmps16
  go_wp2
  go_ret
  exact ⟨rfl, rfl⟩
theorem is_cellsOf : Try.prog.cellsOf 48 = 1 := by kernel_rfl
theorem is_bytesOf : Try.prog.bytesOf 48 = 16 := by kernel_rfl
theorem is_byteOfCell : byteOfCell Try.prog Try.prog.depth 48 0 = some 0 := by kernel_rfl
theorem is_partAt (g : Nat) (n : Int) (w : World) (hg : w.heap[g]? = some (.cells #[.int .i64 n] 48 (0, 0))) :
    (partAt ⟨g, 0, none⟩ 1 8).run Try.prog w = .ok ⟨g, 1, some 8⟩ w := by
  have h1 := is_cellsOf
  have h2 := is_bytesOf
  have h3 := is_byteOfCell
  simp [partAt, byteOf, noView, viewAt, World.shape?, hg, mayBeOne, stringish, h1, h2, h3]
theorem is_refusal (g : Nat) (n : Int) (w : World) (hg : w.heap[g]? = some (.cells #[.int .i64 n] 48 (0, 0))) :
    Calls Try.prog 16 #[.iface 46 (.pointer (some ⟨g, 0, none⟩)), .iface 43 (.agg #[])] w fun e w' => e = .returned (.bool true) ∧ w = w' := by
  have h8 := @run_callFunc_extern Try.prog 23 _ Extern.ReflectliteType.typeOf Try.func23 (by kernel_rfl) (by kernel_rfl) (by kernel_rfl) (by kernel_rfl)
  have h32 := @run_callFunc_extern Try.prog 49 _ (Extern.ReflectliteType.method fun t => do Extern.Rtype.noPackHeld "Comparable" t; pure (.bool (← typeInfo t).comparable)) Try.func49 (by kernel_rfl) (by kernel_rfl) (by kernel_rfl) (by kernel_rfl)
  have tT := is_typeOf
  have cT := is_comparable
  have mR := is_method
  have nE := is_noIs
  have uE := is_hasUnwrap
  have mU := is_methodUnwrap
  obtain ⟨hc, hf, hl⟩ := cells_of hg
  have heq := is_eq_none
  have hty := run_eql_iface_types (P := Try.prog) 46 43 (.pointer (some ⟨g, 0, none⟩)) (.agg #[]) Try.underlying37 (by decide) w
  have hu48 := Try.underlying48
  have hp := is_partAt g n w hg
  go_enter Try.func16, Try.ntmps16
  go_wp2
  refine wp_loop_rounds 2 ?_
  rw [rounds_succ]
  go_wp2
  rw [rounds_succ]
  go_wp2
  go_ret
  exact ⟨rfl, rfl⟩
end Go.Proofs.Ytncdhfigfbhohaa.Q
