/- strings.Builder: texts are appended; the bytes become a text. Over any program. -/
import Derived.Test.YtfcfgbejpcmmkaaDoorSv
import Derived.Test.YtfcfgbejpcmmkaaDoorStr
import Derived.Lib.UnsafeStr
import Derived.Lib.Builder
import Derived.Deep.AppendSrc
namespace Go.Dbr
open Go Go.RowKit
section
variable {P : Program} {ops : Array Oper} {Q : Exit → Act → World → Prop} {n i : Nat} {l : List (Nat × Value)} {a : Act} {w w0 : World} {L L0 : List Ent} {d : Option Tmp} {K : Act → World → Prop}
theorem src_str {tx : TypeId} (hk : P.underlying tx = some .string) (s : List UInt8) : Src P 1 tx (.string (bstr s)) s.length (bys s) w := by
  have h := Src.ofString (w := w) hk (bstr s)
  rw [bstr_size, show byteCells (bstr s) = bys s from by simp only [byteCells, bstr, bys]; rfl] at h
  exact h
theorem run_sdata (ts : Array TypeId) (ty : TypeId) (ao : Option Addr) (m c : Nat) (hc : c ≠ 0) : (Builtin.unsafeSliceData_ ts ty #[.slice ao m c]).run P w = .ok (.pointer ao) w := by
  cases ao with
  | none => exact Lib.run_unsafeSliceData_nil (P := P) w ts ty m c
  | some ad => exact Lib.run_unsafeSliceData_row (P := P) w ts ty ad m c hc
theorem lies_at {e : TypeId} (hc : P.cellsOf e = 1) (count off n : Nat) (hn : off + n ≤ count) : liesAt P P.depth e count off e n = true := by
  have hd : P.depth = (2 * (P.types.size + Made.depth) + 1) + 1 := rfl
  rw [hd]
  simp only [liesAt, Bool.or_eq_true]
  left
  rw [hd]
  simp [rowAt, hc, hn, sameLayout, Nat.mod_one]
theorem run_ustr (pt it ty e : TypeId) (hp : P.underlying pt = some (.pointer e)) (hc : P.cellsOf e = 1) {k : Nat} {ao : Option Addr} {cap : Nat} {s : List UInt8} (h : Heap w L) (hk : L[k]? = some (.vec ao cap 1 (bys s) e)) (h0 : s ≠ []) (hs : s.length ≤ 140737488355328) :
    ∃ w', (Builtin.unsafeString_ #[pt, it] ty #[.pointer ao, .int .i64 ((s.length : Nat) : Int)]).run P w = .ok (.string (bstr s)) w' ∧ Ev w L w' (L.set k (.vec none 0 1 [] e)) := by
  have hh := h.holds k _ hk
  cases ao with
  | none => exact absurd (List.eq_nil_of_length_eq_zero (by have := congrArg List.length hh.2; rw [bys_length] at this; exact this)) h0
  | some ad =>
    obtain ⟨h3, h4, h5, cur, fz, h6, hfz, h7, h8⟩ := hh
    obtain ⟨b, o, sp⟩ := ad
    simp only at h3 h6 h7 h8
    subst h3
    have hl : s.length ≠ 0 := fun e => h0 (List.eq_nil_of_length_eq_zero e)
    rw [bys_length] at h5 h8
    have hsh : w.shape? b = some (e, cur.size) := by simp [World.shape?, h6]
    have hlb := Lib.run_loadBytes (P := P) w s ⟨b, o, none⟩ .empty (fun j x hj => by
      have hj2 : j < s.length := (List.getElem?_eq_some_iff.1 hj).1
      have := h8 j hj2
      rw [add_off, cell_of_row w b _ cur e fz h6, this]
      simp [bys, hj]
      rfl)
    have hlies := lies_at (P := P) hc (cur.size / P.cellsOf e) o s.length (by rw [hc, Nat.div_one]; omega)
    have h63' : ¬ (9223372036854775807 : Int) < (s.length : Int) := by omega
    have hmax : IntKind.i64.max = 9223372036854775807 := rfl
    have hneg : ¬ (s.length : Int) < 0 := by omega
    refine ⟨w.freeze ⟨b, o, none⟩ s.length, ?_, ?_⟩
    · refine (congrArg (fun z : Sem Value => z.run P w) (show Builtin.unsafeString_ #[pt, it] ty #[.pointer (some ⟨b, o, none⟩), .int .i64 ((s.length : Nat) : Int)] = asInt (.int .i64 ((s.length : Nat) : Int)) >>= _ from rfl)).trans ?_
      simp [asInt, asIntOf, hmax, h63', hneg, hl, variablesAt, hsh, elemOf, run_underlying hp, hlies, hlb]
      rfl
    · refine Ev.change h hk ?_ ⟨rfl, rfl⟩ (fun c hc => by cases hc)
      unfold World.freeze
      rw [if_neg hl]
      refine ⟨rfl, rfl, rfl, by simp, fun j hj hn => ?_⟩
      simp only [Array.getElem?_modify]
      rw [if_neg (fun e => hn (by subst e; rfl))]
theorem op_ustr (E : Env a n l) {pt it ty e : TypeId} {k : Nat} {ao : Option Addr} {cap : Nat} {s : List UInt8} (h : opAt ops n i l = some (.run d (nv (Builtin.unsafeString_ #[pt, it] ty #[.pointer ao, .int .i64 ((s.length : Nat) : Int)]))))
    (hp : P.underlying pt = some (.pointer e)) (hc : P.cellsOf e = 1) (H : Ev w0 L0 w L) (hk : L[k]? = some (.vec ao cap 1 (bys s) e)) (h0 : s ≠ []) (hs : s.length ≤ 140737488355328)
    (next : ∀ a' w', Env a' n (putl d (.string (bstr s)) l) → Ev w0 L0 w' (L.set k (.vec none 0 1 [] e)) → K a' w') : wpOp P ops Q i K a w := by
  obtain ⟨w', hr, he⟩ := run_ustr (P := P) pt it ty e hp hc H.heap hk h0 hs
  exact any_run E h (run_nv hr) fun a' E' => next a' w' E' (H.trans he)
end
end Go.Dbr
