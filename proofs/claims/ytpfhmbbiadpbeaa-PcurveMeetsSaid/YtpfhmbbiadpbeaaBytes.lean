/- Bytes in strings; elements of slices. -/
import Derived.Test.YtpfhmbbiadpbeaaSeq
namespace Go.Dbr
open Go Go.RowKit

section
variable {P : Program} {ops : Array Oper} {Q : Exit → Act → World → Prop} {n i : Nat} {l : List (Nat × Value)} {a : Act} {w w0 : World} {d : Option Tmp} {L L0 : List Ent} {K : Act → World → Prop}

/-- the address of an element -/
theorem run_indexAt {t e : TypeId} {sz : Nat} {k : IntKind} (hu : P.underlying t = some (.slice e)) (hs : (fun w => (sizeOf e).run P w) = fun w => .ok sz w) (ad : Addr) (len cap : Nat) (ix : Int) (h0 : 0 ≤ ix) (h1 : ix < len) :
    (Instr.indexAt t (.slice (some ad) len cap) (.int k ix)).run P w = .ok (.pointer (some (ad.add (ix.toNat * sz)))) w := by
  have hs' : (sizeOf e).run P w = .ok sz w := congrFun hs w
  simp [Instr.indexAt, asIntOf, run_underlying hu, h0, h1, hs']

/-- an element of a slice is loaded -/
theorem op_loadel (E : Env a n l) {t : TypeId} {ad : Addr} {ao : Option Addr} {xs : List Value} {j : Nat} {v : Value} (h : opAt ops n i l = some (.run d (nv (Instr.loadAt t (.pointer (some (ad.add j)))))))
    (hr : Reads w ao xs) (ha : ao = some ad) (hv : xs[j]? = some v) (ht : (fun w => (isAgg t).run P w) = fun w => .ok false w) (next : ∀ a', Env a' n (putl d v l) → K a' w) : wpOp P ops Q i K a w := by
  subst ha
  exact op_load E h (hr j v hv) ht next

theorem run_shr_u64 (x : UInt64) (k : IntKind) (n : Nat) (hn : n < 64) (w : World) : (Op.shift .shr .u64 ((UInt64.toNat x : Nat) : Int) k ((n : Nat) : Int)).run P w = .ok (.int .u64 ((UInt64.toNat (x >>> UInt64.ofNat n) : Nat) : Int)) w := by
  unfold Op.shift
  have h1 : ¬ (((n : Nat) : Int) < 0) := by omega
  have h2 : min (((n : Nat) : Int)).toNat (IntKind.bits .u64) = n := by simp [IntKind.bits]; omega
  rw [if_neg h1]
  simp only [h2, Sem.run_pure]
  rw [u64_shr (x := x) rfl hn]
end
end Go.Dbr
