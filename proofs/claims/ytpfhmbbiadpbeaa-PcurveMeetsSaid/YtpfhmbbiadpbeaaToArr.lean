/- A slice's bytes as an array: over any program. -/
import Derived.Test.YtpfhmbbiadpbeaaBuild
namespace Go.Dbr
open Go Go.RowKit
section
variable {P : Program}
variable {w : World}
theorem fs_at {t e : TypeId} (h : IsPnt P t e) (i : Nat) {f : Field} (hf : [fl P t 0, fl P t 1, fl P t 2][i]? = some f) : (P.fieldsOf t)[i]? = some f := by
  rw [← h.fs] at hf
  simpa using hf
theorem pnt_field1 {t e : TypeId} (h : IsPnt P t e) {z : Bool} {x y : List UInt64} (hx : x.length = 4) (_hy : y.length = 4) (w : World) : (Instr.field t (.agg (pnt z x y).toArray) 1).run P w = .ok (.agg (u64s x).toArray) w := by
  have ho := h.o
  simp only [List.cons.injEq, and_true] at ho
  have lx := u64s_length x
  rw [hx] at lx
  have hp : (part (fl P t 1).type (pnt z x y).toArray (fl P t 1).offset).run P w = .ok (.agg (u64s x).toArray) w := by
    rw [ho.2.1]
    exact part_seg h.ax h.sx (by simp only [pnt, List.drop_succ_cons, List.drop_zero]; rw [← lx, List.take_left])
  unfold Instr.field
  simp only [Sem.run_bind, run_underlying h.un, Result.andThen_ok, fs_at h 1 rfl]
  exact hp
end
end Go.Dbr
