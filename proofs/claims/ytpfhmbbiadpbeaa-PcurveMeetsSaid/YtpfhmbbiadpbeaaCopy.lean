/- copy, make, arrays that are compared, slices of arrays. -/
import Derived.Test.YtpfhmbbiadpbeaaMulti
import Derived.Laws.CopyRow
import Derived.Laws.MakeOwn
import Derived.ChangeKeysEq
import Derived.Laws.StructEq
namespace Go.Dbr
open Go Go.RowKit

def eqOp (op : BinOp) (t : TypeId) (a b : Operand) (x y : Value) : Sem Value := do eqGuard op t a b x y; binOp op t x y
theorem bys_getD {l : List UInt8} {j : Nat} (h : j < l.length) : (bys l)[j]? = some (bv (l.getD j 0)) := by rw [bys_get h]; simp [List.getD, h]
theorem u64s_getD {l : List UInt64} {j : Nat} (h : j < l.length) : (u64s l)[j]? = some (uv64 (l.getD j 0)) := by rw [u64s_get h]; simp [List.getD, h]
section
variable {P : Program} {ops : Array Oper} {Q : Exit → Act → World → Prop} {n i : Nat} {l : List (Nat × Value)} {a : Act} {w w0 : World} {d : Option Tmp} {L L0 : List Ent} {K : Act → World → Prop}

theorem run_is {x : Sem Value} {b c : Bool} (h : ∀ w, x.run P w = .ok (.bool b) w) (e : b = c) (w : World) : x.run P w = .ok (.bool c) w := by rw [h, e]
theorem some_of {ao : Option Addr} {m j : Nat} (hz : ao = none → m = 0) (h : j < m) : ∃ ad, ao = some ad := by
  cases ao with
  | none => have := hz rfl; omega
  | some ad => exact ⟨ad, rfl⟩
theorem run_indexsl {t e : TypeId} {sz len cap j jo : Nat} {k : IntKind} {ix : Int} {ao : Option Addr} {ad : Addr} (had : ao = some ad) (hu : P.underlying t = some (.slice e)) (hs : (fun w => (sizeOf e).run P w) = fun w => .ok sz w) (hj : ix = (j : Int)) (h1 : j < len) (hjo : j * sz = jo) (w : World) :
    (Instr.indexAt t (.slice ao len cap) (.int k ix)).run P w = .ok (.pointer (some (ad.add jo))) w := by
  subst had hjo hj
  have := run_indexAt (w := w) (k := k) hu hs ad len cap ((j : Nat) : Int) (by omega) (by omega)
  simpa using this
theorem run_indexarr {t e : TypeId} {sz m j b off o : Nat} {k : IntKind} {ix : Int} (hu : P.underlying t = some (.array m e)) (hs : (fun w => (sizeOf e).run P w) = fun w => .ok sz w) (hj : ix = (j : Int)) (h1 : j < m) (ho : off + j * sz = o) (w : World) :
    (Instr.indexAt t (.pointer (some ⟨b, off, none⟩)) (.int k ix)).run P w = .ok (.pointer (some ⟨b, o, none⟩)) w := by
  have hs' : (sizeOf e).run P w = .ok sz w := congrFun hs w
  subst ho hj
  have h2 : ((j : Int)) < (m : Int) := by omega
  have h3 : (0 : Int) ≤ (j : Int) := by omega
  simp [Instr.indexAt, asIntOf, run_underlying hu, Instr.sureAddr, h1, hs', add_off]

/-! ### arrays that are compared -/
theorem run_eqItems_int {e : TypeId} {k : IntKind} (he : P.underlying e = some (.int k)) (ha : (fun w => (isAgg e).run P w) = fun w => .ok false w) (dd : Nat) (xs ys : List Int) :
    ∀ (is : List Nat), (∀ j ∈ is, j < xs.length ∧ j < ys.length) → (Op.eqItems (dd + 1) e 1 (xs.map (Value.int k)).toArray (ys.map (Value.int k)).toArray is).run P w = .ok (is.all fun j => xs[j]? == ys[j]?) w
  | [], _ => by simp [Op.eqItems]
  | j :: is, h => by
    have ha' : (isAgg e).run P w = .ok false w := congrFun ha w
    obtain ⟨h1, h2⟩ := h j (by simp)
    have ih := run_eqItems_int he ha dd xs ys is (fun q hq => h q (by simp [hq]))
    have p1 : (part e (xs.map (Value.int k)).toArray (j * 1)).run P w = .ok (.int k xs[j]) w := by
      simp [part, ha', h1]
    have p2 : (part e (ys.map (Value.int k)).toArray (j * 1)).run P w = .ok (.int k ys[j]) w := by
      simp [part, ha', h2]
    have p3 : (Op.equalIn (dd + 1) e (.int k xs[j]) (.int k ys[j])).run P w = .ok (xs[j] == ys[j]) w := by
      unfold Op.equalIn
      simp only [Sem.run_bind, run_underlying he, Result.andThen]
      simp
    simp only [Op.eqItems, Sem.run_bind, p1, p2, p3, Result.andThen_ok]
    have e1 : (xs[j]? == ys[j]?) = (xs[j] == ys[j]) := by rw [List.getElem?_eq_getElem h1, List.getElem?_eq_getElem h2]; rfl
    rw [List.all_cons, e1]
    cases (xs[j] == ys[j])
    · simp
    · simpa using ih
theorem all_get {xs ys : List Int} {n : Nat} (hx : xs.length = n) (hy : ys.length = n) : ((List.range n).all fun j => xs[j]? == ys[j]?) = (xs == ys) := by
  rw [Bool.eq_iff_iff, List.all_eq_true, beq_iff_eq]
  constructor
  · intro h
    apply List.ext_getElem?
    intro j
    by_cases hj : j < n
    · simpa using h j (by simpa using hj)
    · rw [List.getElem?_eq_none (by omega), List.getElem?_eq_none (by omega)]
  · rintro rfl j _
    simp
theorem run_equalarr {t e : TypeId} {k : IntKind} {m : Nat} (hu : P.underlying t = some (.array m e)) (he : P.underlying e = some (.int k)) (ha : (fun w => (isAgg e).run P w) = fun w => .ok false w) (hc : P.cellsOf e = 1) (xs ys : List Int) (hx : xs.length = m) (hy : ys.length = m) (w : World) :
    (Op.equal t (.agg (xs.map (Value.int k)).toArray) (.agg (ys.map (Value.int k)).toArray)).run P w = .ok (xs == ys) w := by
  obtain ⟨ti, hi⟩ : ∃ ti, P.info? e = some ti := by
    cases hi : P.info? e with
    | none => simp [Program.cellsOf, hi] at hc
    | some ti => exact ⟨ti, rfl⟩
  show (Op.equalIn (9998 + 1 + 1) t _ _).run P w = _
  rw [run_equalIn_array _ _ _ _ hu hi, hc, run_eqItems_int he ha 9998 xs ys _ (fun j hj => by have := List.mem_range.1 hj; omega), all_get hx hy]

theorem bys_ints (l : List UInt8) : bys l = (l.map fun x => ((UInt8.toNat x : Nat) : Int)).map (Value.int .u8) := by simp [bys, bv]
theorem bys_inj (l m : List UInt8) : ((l.map fun x => ((UInt8.toNat x : Nat) : Int)) == (m.map fun x => ((UInt8.toNat x : Nat) : Int))) = (l == m) := by
  rw [Bool.eq_iff_iff, beq_iff_eq, beq_iff_eq]
  constructor
  · intro h
    exact List.map_inj_right (fun x y e => UInt8.toNat_inj.1 (by omega)) |>.1 h
  · rintro rfl; rfl
theorem bys_eqarr {t e : TypeId} {m : Nat} (hu : P.underlying t = some (.array m e)) (he : P.underlying e = some (.int .u8)) (ha : (fun w => (isAgg e).run P w) = fun w => .ok false w) (hc : P.cellsOf e = 1) {x y : List UInt8} (hx : x.length = m) (hy : y.length = m) (w : World) :
    (binOp .eql t (.agg (bys x).toArray) (.agg (bys y).toArray)).run P w = .ok (.bool (x == y)) w := by
  show ((do pure (Value.bool (← Op.equal t (.agg (bys x).toArray) (.agg (bys y).toArray)))) : Sem Value).run P w = _
  rw [bys_ints, bys_ints]
  simp only [Sem.run_bind, run_equalarr hu he ha hc (x.map fun q => ((UInt8.toNat q : Nat) : Int)) (y.map fun q => ((UInt8.toNat q : Nat) : Int)) (by simpa using hx) (by simpa using hy), Result.andThen, Sem.run_pure, bys_inj]
theorem u64s_ints (l : List UInt64) : u64s l = (l.map fun x => ((UInt64.toNat x : Nat) : Int)).map (Value.int .u64) := by simp [u64s, uv64]
theorem u64s_inj (l m : List UInt64) : ((l.map fun x => ((UInt64.toNat x : Nat) : Int)) == (m.map fun x => ((UInt64.toNat x : Nat) : Int))) = (l == m) := by
  rw [Bool.eq_iff_iff, beq_iff_eq, beq_iff_eq]
  constructor
  · intro h
    exact List.map_inj_right (fun x y e => UInt64.toNat_inj.1 (by omega)) |>.1 h
  · rintro rfl; rfl
theorem u64s_eqarr {t e : TypeId} {m : Nat} (hu : P.underlying t = some (.array m e)) (he : P.underlying e = some (.int .u64)) (ha : (fun w => (isAgg e).run P w) = fun w => .ok false w) (hc : P.cellsOf e = 1) {x y : List UInt64} (hx : x.length = m) (hy : y.length = m) (w : World) :
    (binOp .eql t (.agg (u64s x).toArray) (.agg (u64s y).toArray)).run P w = .ok (.bool (x == y)) w := by
  show ((do pure (Value.bool (← Op.equal t (.agg (u64s x).toArray) (.agg (u64s y).toArray)))) : Sem Value).run P w = _
  rw [u64s_ints, u64s_ints]
  simp only [Sem.run_bind, run_equalarr hu he ha hc (x.map fun q => ((UInt64.toNat q : Nat) : Int)) (y.map fun q => ((UInt64.toNat q : Nat) : Int)) (by simpa using hx) (by simpa using hy), Result.andThen, Sem.run_pure, u64s_inj]
theorem u64s_nearr {t e : TypeId} {m : Nat} (hu : P.underlying t = some (.array m e)) (he : P.underlying e = some (.int .u64)) (ha : (fun w => (isAgg e).run P w) = fun w => .ok false w) (hc : P.cellsOf e = 1) {x y : List UInt64} (hx : x.length = m) (hy : y.length = m) (w : World) :
    (binOp .neq t (.agg (u64s x).toArray) (.agg (u64s y).toArray)).run P w = .ok (.bool (!(x == y))) w := by
  show ((do pure (Value.bool (!(← Op.equal t (.agg (u64s x).toArray) (.agg (u64s y).toArray))))) : Sem Value).run P w = _
  rw [u64s_ints, u64s_ints]
  simp only [Sem.run_bind, run_equalarr hu he ha hc (x.map fun q => ((UInt64.toNat q : Nat) : Int)) (y.map fun q => ((UInt64.toNat q : Nat) : Int)) (by simpa using hx) (by simpa using hy), Result.andThen, Sem.run_pure, u64s_inj]
theorem bys_eqop {t e : TypeId} {m : Nat} {a b : Operand} (hg : P.eqGuardType P.depth t = false) (hu : P.underlying t = some (.array m e)) (he : P.underlying e = some (.int .u8)) (ha : (fun w => (isAgg e).run P w) = fun w => .ok false w) (hc : P.cellsOf e = 1) {x y : List UInt8} (hx : x.length = m) (hy : y.length = m) (w : World) :
    (eqOp .eql t a b (.agg (bys x).toArray) (.agg (bys y).toArray)).run P w = .ok (.bool ((x == y))) w := by
  simp only [eqOp, Sem.run_bind, run_eqGuard_agg w _ _ _ _ _ _ hg, Result.andThen_ok, bys_eqarr hu he ha hc hx hy]
theorem u64s_eqop {t e : TypeId} {m : Nat} {a b : Operand} (hg : P.eqGuardType P.depth t = false) (hu : P.underlying t = some (.array m e)) (he : P.underlying e = some (.int .u64)) (ha : (fun w => (isAgg e).run P w) = fun w => .ok false w) (hc : P.cellsOf e = 1) {x y : List UInt64} (hx : x.length = m) (hy : y.length = m) (w : World) :
    (eqOp .eql t a b (.agg (u64s x).toArray) (.agg (u64s y).toArray)).run P w = .ok (.bool ((x == y))) w := by
  simp only [eqOp, Sem.run_bind, run_eqGuard_agg w _ _ _ _ _ _ hg, Result.andThen_ok, u64s_eqarr hu he ha hc hx hy]
theorem u64s_neop {t e : TypeId} {m : Nat} {a b : Operand} (hg : P.eqGuardType P.depth t = false) (hu : P.underlying t = some (.array m e)) (he : P.underlying e = some (.int .u64)) (ha : (fun w => (isAgg e).run P w) = fun w => .ok false w) (hc : P.cellsOf e = 1) {x y : List UInt64} (hx : x.length = m) (hy : y.length = m) (w : World) :
    (eqOp .neq t a b (.agg (u64s x).toArray) (.agg (u64s y).toArray)).run P w = .ok (.bool (!(x == y))) w := by
  simp only [eqOp, Sem.run_bind, run_eqGuard_agg w _ _ _ _ _ _ hg, Result.andThen_ok, u64s_nearr hu he ha hc hx hy]
end
end Go.Dbr
