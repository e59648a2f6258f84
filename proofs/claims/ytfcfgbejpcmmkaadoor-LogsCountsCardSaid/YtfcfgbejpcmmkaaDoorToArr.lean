/- A slice's bytes as an array: over any program. -/
import Derived.Test.YtfcfgbejpcmmkaaDoorBuild
namespace Go.Dbr
open Go Go.RowKit
section
variable {P : Program}
theorem run_toarr2 {t e : TypeId} {m : Nat} {ao : Option Addr} {ad : Addr} {p c : Nat} (hu : P.underlying t = some (.array m e)) (ha : ao = some ad) (h : m ≤ p) (w : World) : (Instr.arrayAt t (.slice ao p c)).run P w = .ok (.pointer (some ad)) w := by
  subst ha
  exact run_toarr hu h w
theorem add0 (ad : Addr) : ad = ad.add 0 := by
  unfold Addr.add
  rw [if_pos rfl]
theorem bys_pre {l : List UInt8} {m : Nat} : ∀ j, j < m → (bys l)[0 + j]? = (bys (List.take m l))[j]? := fun j hj => by
  rw [bys_take, List.getElem?_take, if_pos hj, Nat.zero_add]
theorem bys_prel {l : List UInt8} {m : Nat} (h : m ≤ l.length) : (bys (List.take m l)).length = m := by
  rw [bys_length, List.length_take]
  omega
variable {w : World}
theorem fs_at {t e : TypeId} (h : IsPnt P t e) (i : Nat) {f : Field} (hf : [fl P t 0, fl P t 1, fl P t 2][i]? = some f) : (P.fieldsOf t)[i]? = some f := by
  rw [← h.fs] at hf
  simpa using hf
theorem pnt_field1 {t e : TypeId} (h : IsPnt P t e) {z : Bool} {x y : List UInt64} (hx : x.length = 4) (_hy : y.length = 4) (w : World) : (Instr.field t (.agg (pnt z x y).toArray) 1).run P w = .ok (.agg (u64s x).toArray) w := by
  have ho := h.o
  simp only [List.cons.injEq, and_true] at ho
  have lx := u64s_length x
  rw [hx] at lx
  have hp : (part (fl P t 1).type (pnt z x y).toArray (fl P t 1).offset).run P w = .ok (.agg (u64s x).toArray) w := by
    rw [ho.2.1]
    exact part_seg h.ax h.sx (by simp only [pnt, List.drop_succ_cons, List.drop_zero]; rw [← lx, List.take_left])
  unfold Instr.field
  simp only [Sem.run_bind, run_underlying h.un, Result.andThen_ok, fs_at h 1 rfl]
  exact hp
theorem pnt_field2 {t e : TypeId} (h : IsPnt P t e) {z : Bool} {x y : List UInt64} (hx : x.length = 4) (hy : y.length = 4) (w : World) : (Instr.field t (.agg (pnt z x y).toArray) 2).run P w = .ok (.agg (u64s y).toArray) w := by
  have ho := h.o
  simp only [List.cons.injEq, and_true] at ho
  have lx := u64s_length x
  rw [hx] at lx
  have ly := u64s_length y
  rw [hy] at ly
  have hp : (part (fl P t 2).type (pnt z x y).toArray (fl P t 2).offset).run P w = .ok (.agg (u64s y).toArray) w := by
    rw [ho.2.2]
    refine part_seg h.ay h.sy ?_
    simp only [pnt, List.drop_succ_cons]
    rw [← lx, List.drop_left, List.take_of_length_le (by omega)]
  unfold Instr.field
  simp only [Sem.run_bind, run_underlying h.un, Result.andThen_ok, fs_at h 2 rfl]
  exact hp
end
end Go.Dbr
