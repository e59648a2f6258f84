/- Structs of a Boolean and two arrays of words, compared. -/
import Derived.Test.YtfcfgbejpcmmkaaDoorStab
import Derived.Laws.StructEq
namespace Go.Dbr
open Go Go.RowKit
set_option linter.unusedSimpArgs false
set_option linter.unusedVariables false
section
variable {P : Program} {w : World}
theorem eqF_cons {d : Nat} {f : Field} {fs : List Field} {xs ys : Array Value} {a b : Value} {r r' : Bool} (hn : (f.name == "_") = false) (pa : (part f.type xs f.offset).run P w = .ok a w) (pb : (part f.type ys f.offset).run P w = .ok b w)
    (he : (Op.equalIn d f.type a b).run P w = .ok r w) (hr : (Op.eqFields d xs ys fs).run P w = .ok r' w) : (Op.eqFields d xs ys (f :: fs)).run P w = .ok (r && r') w := by
  have hne : f.name ≠ "_" := by simpa using hn
  unfold Op.eqFields
  rw [if_pos hne]
  simp only [Sem.run_bind, pa, pb, he, Result.andThen_ok]
  cases r with
  | true => simpa using hr
  | false => simp
theorem part_seg {t : TypeId} {cs xs : List Value} {off m : Nat} (ha : (fun w => (isAgg t).run P w) = fun w => .ok true w) (hs : (fun w => (sizeOf t).run P w) = fun w => .ok m w) (hx : (cs.drop off).take m = xs) : (part t cs.toArray off).run P w = .ok (.agg xs.toArray) w := by
  unfold part
  simp only [Sem.run_bind, congrFun ha w, Result.andThen_ok, if_true, congrFun hs w, Sem.run_pure, List.extract_toArray]
  rw [← hx, List.extract_eq_take_drop, Nat.add_sub_cancel_left]
theorem part_one {t : TypeId} {cs : List Value} {off : Nat} {v : Value} (ha : (fun w => (isAgg t).run P w) = fun w => .ok false w) (hx : cs[off]? = some v) : (part t cs.toArray off).run P w = .ok v w := by
  unfold part
  have h2 : cs.toArray[off]? = some v := by simpa using hx
  simp only [Sem.run_bind, congrFun ha w, Result.andThen_ok, Bool.false_eq_true, if_false, h2, Sem.run_pure]
def fl (P : Program) (t : TypeId) (i : Nat) : Field := ((P.fieldsOf t).toList)[i]?.getD default
def pnt (z : Bool) (x y : List UInt64) : List Value := .bool z :: (u64s x ++ u64s y)
theorem equal_u64 {t e : TypeId} {m dd : Nat} (hu : P.underlying t = some (.array m e)) (he : P.underlying e = some (.int .u64)) (ha : (fun w => (isAgg e).run P w) = fun w => .ok false w) (hc : P.cellsOf e = 1) {x y : List UInt64} (hx : x.length = m) (hy : y.length = m) :
    (Op.equalIn (dd + 1 + 1) t (.agg (u64s x).toArray) (.agg (u64s y).toArray)).run P w = .ok (x == y) w := by
  obtain ⟨ti, hi⟩ : ∃ ti, P.info? e = some ti := by
    cases hi : P.info? e with
    | none => simp [Program.cellsOf, hi] at hc
    | some ti => exact ⟨ti, rfl⟩
  rw [u64s_ints, u64s_ints, run_equalIn_array _ _ _ _ hu hi, hc, run_eqItems_int he ha dd _ _ _ (fun j hj => by have := List.mem_range.1 hj; simp; omega), all_get (by simpa using hx) (by simpa using hy), u64s_inj]
/-- what is to be known of such a type -/
structure IsPnt (P : Program) (t e : TypeId) : Prop where
  un : P.underlying t = some (.struct (P.fieldsOf t))
  held : P.stoodInHeld t = false
  fs : (P.fieldsOf t).toList = [fl P t 0, fl P t 1, fl P t 2]
  n : [(fl P t 0).name == "_", (fl P t 1).name == "_", (fl P t 2).name == "_"] = [false, false, false]
  o : [(fl P t 0).offset, (fl P t 1).offset, (fl P t 2).offset] = [0, 1, 5]
  b : P.underlying (fl P t 0).type = some .bool
  x : P.underlying (fl P t 1).type = some (.array 4 e)
  y : P.underlying (fl P t 2).type = some (.array 4 e)
  eu : P.underlying e = some (.int .u64)
  c : P.cellsOf e = 1
  ae : (fun w => (isAgg e).run P w) = fun w => .ok false w
  ab : (fun w => (isAgg (fl P t 0).type).run P w) = fun w => .ok false w
  ax : (fun w => (isAgg (fl P t 1).type).run P w) = fun w => .ok true w
  ay : (fun w => (isAgg (fl P t 2).type).run P w) = fun w => .ok true w
  sx : (fun w => (sizeOf (fl P t 1).type).run P w) = fun w => .ok 4 w
  sy : (fun w => (sizeOf (fl P t 2).type).run P w) = fun w => .ok 4 w
  g : P.eqGuardType P.depth t = false
theorem IsPnt.eq {t e : TypeId} (h : IsPnt P t e) {z z' : Bool} {x y x' y' : List UInt64} (hx : x.length = 4) (hy : y.length = 4) (hx' : x'.length = 4) (hy' : y'.length = 4) (d : Nat) :
    (Op.equalIn (d + 1 + 1 + 1) t (.agg (pnt z x y).toArray) (.agg (pnt z' x' y').toArray)).run P w = .ok ((z == z') && ((x == x') && (y == y'))) w := by
  have ho := h.o
  have hn := h.n
  simp only [List.cons.injEq, and_true] at ho hn
  obtain ⟨o0, o1, o2⟩ := ho
  obtain ⟨n0, n1, n2⟩ := hn
  rw [run_equalIn_struct w _ t _ _ h.un h.held, h.fs]
  have lx := u64s_length x
  have lx' := u64s_length x'
  have ly := u64s_length y
  have ly' := u64s_length y'
  rw [hx] at lx
  rw [hx'] at lx'
  rw [hy] at ly
  rw [hy'] at ly'
  refine eqF_cons n0 (a := .bool z) (b := .bool z') (r := z == z') (by rw [o0]; exact part_one h.ab rfl) (by rw [o0]; exact part_one h.ab rfl) (run_equalIn_bool' w _ _ _ _ h.b) ?_
  refine eqF_cons n1 (a := .agg (u64s x).toArray) (b := .agg (u64s x').toArray) (r := x == x') (by rw [o1]; exact part_seg h.ax h.sx (by simp only [pnt, List.drop_succ_cons, List.drop_zero]; rw [← lx, List.take_left])) (by rw [o1]; exact part_seg h.ax h.sx (by simp only [pnt, List.drop_succ_cons, List.drop_zero]; rw [← lx', List.take_left])) (equal_u64 h.x h.eu h.ae h.c hx hx') ?_
  have hr : (Op.eqFields (d + 1 + 1) (pnt z x y).toArray (pnt z' x' y').toArray [fl P t 2]).run P w = .ok ((y == y') && true) w := by
    refine eqF_cons n2 (a := .agg (u64s y).toArray) (b := .agg (u64s y').toArray) (r := y == y') ?_ ?_ (equal_u64 h.y h.eu h.ae h.c hy hy') (by unfold Op.eqFields; rfl)
    · rw [o2]
      refine part_seg h.ay h.sy ?_
      simp only [pnt, List.drop_succ_cons]
      rw [← lx, List.drop_left, List.take_of_length_le (by omega)]
    · rw [o2]
      refine part_seg h.ay h.sy ?_
      simp only [pnt, List.drop_succ_cons]
      rw [← lx', List.drop_left, List.take_of_length_le (by omega)]
  rw [Bool.and_true] at hr
  exact hr
theorem pnt_eqop {t e : TypeId} {a b : Operand} (h : IsPnt P t e) {z z' : Bool} {x y x' y' : List UInt64} (hx : x.length = 4) (hy : y.length = 4) (hx' : x'.length = 4) (hy' : y'.length = 4) (w : World) :
    (eqOp .eql t a b (.agg (pnt z x y).toArray) (.agg (pnt z' x' y').toArray)).run P w = .ok (.bool ((z == z') && ((x == x') && (y == y')))) w := by
  simp only [eqOp, Sem.run_bind, run_eqGuard_agg w _ _ _ _ _ _ h.g, Result.andThen_ok, run_eql_struct, h.eq hx hy hx' hy']
theorem pnt_neop {t e : TypeId} {a b : Operand} (h : IsPnt P t e) {z z' : Bool} {x y x' y' : List UInt64} (hx : x.length = 4) (hy : y.length = 4) (hx' : x'.length = 4) (hy' : y'.length = 4) (w : World) :
    (eqOp .neq t a b (.agg (pnt z x y).toArray) (.agg (pnt z' x' y').toArray)).run P w = .ok (.bool (!((z == z') && ((x == x') && (y == y'))))) w := by
  simp only [eqOp, Sem.run_bind, run_eqGuard_agg w _ _ _ _ _ _ h.g, Result.andThen_ok, run_neq_struct, h.eq hx hy hx' hy']
end
end Go.Dbr
