/- Layer 3: pairs, counters compared. -/
import Derived.Test.YtfcfgbejpcmmkaaDoorA8
import Derived.Test.YtfcfgbejpcmmkaaDoorEqs
namespace Go.Proofs.YtfcfgbejpcmmkaaDoor
open Go.Dbr
set_option maxRecDepth 100000
set_option maxHeartbeats 2000000
set_option linter.unusedVariables false
set_option linter.unusedSimpArgs false

theorem u64_beq (a b : UInt64) : (((UInt64.toNat a : Nat) : Int) == ((UInt64.toNat b : Nat) : Int)) = (a == b) := by
  rw [Bool.eq_iff_iff]
  simp only [beq_iff_eq]
  exact ⟨fun h => UInt64.toNat_inj.1 (by omega), fun h => by rw [h]⟩

theorem pair_in {x0 y0 : List UInt8} {x1 y1 : Bool} {x2 y2 : UInt64} {x3 y3 : List UInt8} (w : World) (d : Nat) : (Op.equalIn (d + 1 + 1) 35 (.agg #[.string (bstr x0), .bool x1, uv64 x2, .string (bstr x3)]) (.agg #[.string (bstr y0), .bool y1, uv64 y2, .string (bstr y3)])).run Tryd.prog w = .ok ((x0 == y0) && ((x1 == y1) && ((x2 == y2) && ((x3 == y3) && (true))))) w := by
  rw [run_equalIn_struct w _ 35 _ _ (by kernel_rfl) (by kernel_rfl), show (Tryd.prog.fieldsOf 35).toList = [fl Tryd.prog 35 0, fl Tryd.prog 35 1, fl Tryd.prog 35 2, fl Tryd.prog 35 3] from by kernel_rfl]
  refine eqF_cons (by kernel_rfl) (a := .string (bstr x0)) (b := .string (bstr y0)) (r := x0 == y0) (part_one (cs := [.string (bstr x0), .bool x1, uv64 x2, .string (bstr x3)]) (by kernel_rfl) rfl) (part_one (cs := [.string (bstr y0), .bool y1, uv64 y2, .string (bstr y3)]) (by kernel_rfl) rfl) (by rw [run_equalIn_string _ _ _ _ _ (by kernel_rfl)]; exact congrArg (fun z => Result.ok z w) (Go.Dbr.bstr_eq x0 y0)) ?_
  refine eqF_cons (by kernel_rfl) (a := .bool x1) (b := .bool y1) (r := x1 == y1) (part_one (cs := [.string (bstr x0), .bool x1, uv64 x2, .string (bstr x3)]) (by kernel_rfl) rfl) (part_one (cs := [.string (bstr y0), .bool y1, uv64 y2, .string (bstr y3)]) (by kernel_rfl) rfl) (run_equalIn_bool' _ _ _ _ _ (by kernel_rfl)) ?_
  refine eqF_cons (by kernel_rfl) (a := uv64 x2) (b := uv64 y2) (r := x2 == y2) (part_one (cs := [.string (bstr x0), .bool x1, uv64 x2, .string (bstr x3)]) (by kernel_rfl) rfl) (part_one (cs := [.string (bstr y0), .bool y1, uv64 y2, .string (bstr y3)]) (by kernel_rfl) rfl) ((run_equalIn_int _ _ _ _ .u64 _ _ (by kernel_rfl)).trans (congrArg (fun z => Result.ok z w) (u64_beq x2 y2))) ?_
  refine eqF_cons (by kernel_rfl) (a := .string (bstr x3)) (b := .string (bstr y3)) (r := x3 == y3) (part_one (cs := [.string (bstr x0), .bool x1, uv64 x2, .string (bstr x3)]) (by kernel_rfl) rfl) (part_one (cs := [.string (bstr y0), .bool y1, uv64 y2, .string (bstr y3)]) (by kernel_rfl) rfl) (by rw [run_equalIn_string _ _ _ _ _ (by kernel_rfl)]; exact congrArg (fun z => Result.ok z w) (Go.Dbr.bstr_eq x3 y3)) ?_
  unfold Op.eqFields; rfl
theorem pair_eql {a b : Operand} {x0 y0 : List UInt8} {x1 y1 : Bool} {x2 y2 : UInt64} {x3 y3 : List UInt8} (w : World) : (eqOp .eql 35 a b (.agg #[.string (bstr x0), .bool x1, uv64 x2, .string (bstr x3)]) (.agg #[.string (bstr y0), .bool y1, uv64 y2, .string (bstr y3)])).run Tryd.prog w = .ok (.bool (((x0 == y0) && ((x1 == y1) && ((x2 == y2) && (x3 == y3)))))) w := by
  have h := pair_in (x0 := x0) (x1 := x1) (x2 := x2) (x3 := x3) (y0 := y0) (y1 := y1) (y2 := y2) (y3 := y3) w 9998
  rw [Bool.and_true] at h
  simp only [eqOp, Sem.run_bind, run_eqGuard_agg w _ _ _ _ _ _ (show Tryd.prog.eqGuardType Tryd.prog.depth 35 = false by kernel_rfl), Result.andThen_ok, run_eql_struct]
  rw [h]
  rfl
theorem pair_neq {a b : Operand} {x0 y0 : List UInt8} {x1 y1 : Bool} {x2 y2 : UInt64} {x3 y3 : List UInt8} (w : World) : (eqOp .neq 35 a b (.agg #[.string (bstr x0), .bool x1, uv64 x2, .string (bstr x3)]) (.agg #[.string (bstr y0), .bool y1, uv64 y2, .string (bstr y3)])).run Tryd.prog w = .ok (.bool (!((x0 == y0) && ((x1 == y1) && ((x2 == y2) && (x3 == y3)))))) w := by
  have h := pair_in (x0 := x0) (x1 := x1) (x2 := x2) (x3 := x3) (y0 := y0) (y1 := y1) (y2 := y2) (y3 := y3) w 9998
  rw [Bool.and_true] at h
  simp only [eqOp, Sem.run_bind, run_eqGuard_agg w _ _ _ _ _ _ (show Tryd.prog.eqGuardType Tryd.prog.depth 35 = false by kernel_rfl), Result.andThen_ok, run_neq_struct]
  rw [h]
  rfl

theorem cntr_in {x0 y0 : List UInt8} {x1 y1 : UInt64} (w : World) (d : Nat) : (Op.equalIn (d + 1 + 1) 54 (.agg #[.string (bstr x0), uv64 x1]) (.agg #[.string (bstr y0), uv64 y1])).run Tryd.prog w = .ok ((x0 == y0) && ((x1 == y1) && (true))) w := by
  rw [run_equalIn_struct w _ 54 _ _ (by kernel_rfl) (by kernel_rfl), show (Tryd.prog.fieldsOf 54).toList = [fl Tryd.prog 54 0, fl Tryd.prog 54 1] from by kernel_rfl]
  refine eqF_cons (by kernel_rfl) (a := .string (bstr x0)) (b := .string (bstr y0)) (r := x0 == y0) (part_one (cs := [.string (bstr x0), uv64 x1]) (by kernel_rfl) rfl) (part_one (cs := [.string (bstr y0), uv64 y1]) (by kernel_rfl) rfl) (by rw [run_equalIn_string _ _ _ _ _ (by kernel_rfl)]; exact congrArg (fun z => Result.ok z w) (Go.Dbr.bstr_eq x0 y0)) ?_
  refine eqF_cons (by kernel_rfl) (a := uv64 x1) (b := uv64 y1) (r := x1 == y1) (part_one (cs := [.string (bstr x0), uv64 x1]) (by kernel_rfl) rfl) (part_one (cs := [.string (bstr y0), uv64 y1]) (by kernel_rfl) rfl) ((run_equalIn_int _ _ _ _ .u64 _ _ (by kernel_rfl)).trans (congrArg (fun z => Result.ok z w) (u64_beq x1 y1))) ?_
  unfold Op.eqFields; rfl
theorem cntr_eql {a b : Operand} {x0 y0 : List UInt8} {x1 y1 : UInt64} (w : World) : (eqOp .eql 54 a b (.agg #[.string (bstr x0), uv64 x1]) (.agg #[.string (bstr y0), uv64 y1])).run Tryd.prog w = .ok (.bool (((x0 == y0) && (x1 == y1)))) w := by
  have h := cntr_in (x0 := x0) (x1 := x1) (y0 := y0) (y1 := y1) w 9998
  rw [Bool.and_true] at h
  simp only [eqOp, Sem.run_bind, run_eqGuard_agg w _ _ _ _ _ _ (show Tryd.prog.eqGuardType Tryd.prog.depth 54 = false by kernel_rfl), Result.andThen_ok, run_eql_struct]
  rw [h]
  rfl
theorem cntr_neq {a b : Operand} {x0 y0 : List UInt8} {x1 y1 : UInt64} (w : World) : (eqOp .neq 54 a b (.agg #[.string (bstr x0), uv64 x1]) (.agg #[.string (bstr y0), uv64 y1])).run Tryd.prog w = .ok (.bool (!((x0 == y0) && (x1 == y1)))) w := by
  have h := cntr_in (x0 := x0) (x1 := x1) (y0 := y0) (y1 := y1) w 9998
  rw [Bool.and_true] at h
  simp only [eqOp, Sem.run_bind, run_eqGuard_agg w _ _ _ _ _ _ (show Tryd.prog.eqGuardType Tryd.prog.depth 54 = false by kernel_rfl), Result.andThen_ok, run_neq_struct]
  rw [h]
  rfl

end Go.Proofs.YtfcfgbejpcmmkaaDoor
