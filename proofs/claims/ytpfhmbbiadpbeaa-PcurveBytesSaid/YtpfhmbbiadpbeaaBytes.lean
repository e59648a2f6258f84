/- Bytes in strings; elements of slices. -/
import Derived.Test.YtpfhmbbiadpbeaaSeq
namespace Go.Dbr
open Go Go.RowKit

def bstr (l : List UInt8) : ByteArray := ⟨l.toArray⟩
theorem bstr_toList (l : List UInt8) : ByteArray.toList (bstr l) = l := by
  have h : ∀ (b : ByteArray), b.toList = b.data.toList := fun b => by
    simp [ByteArray.toList]
    have key : ∀ (n i : Nat) (r : List UInt8), b.data.size - i = n → ByteArray.toList.loop b i r = r.reverse ++ b.data.toList.drop i := by
      intro n
      induction n with
      | zero =>
        intro i r hn
        rw [ByteArray.toList.loop]
        have : ¬ i < b.size := by show ¬ i < b.data.size; omega
        rw [if_neg this, List.drop_eq_nil_of_le (by simp; omega), List.append_nil]
      | succ n ih =>
        intro i r hn
        rw [ByteArray.toList.loop]
        have hi : i < b.data.size := by omega
        have hi' : i < b.size := hi
        rw [if_pos hi', ih (i + 1) _ (by omega), List.reverse_cons, List.append_assoc]
        congr 1
        have h2 := List.drop_eq_getElem_cons (l := b.data.toList) (i := i) (by simpa using hi)
        rw [h2]
        simp only [ByteArray.get!, Array.getElem_toList, getElem!_pos b.data i hi]
        rfl
    have := key (b.data.size) 0 [] (by omega)
    simpa using this
  rw [h]
  rfl
theorem bstr_eq (l m : List UInt8) : (ByteArray.toList (bstr l) == ByteArray.toList (bstr m)) = (l == m) := by rw [bstr_toList, bstr_toList]
section
variable {P : Program} {ops : Array Oper} {Q : Exit → Act → World → Prop} {n i : Nat} {l : List (Nat × Value)} {a : Act} {w w0 : World} {d : Option Tmp} {L L0 : List Ent} {K : Act → World → Prop}

theorem run_str {src dst e : TypeId} {ao : Option Addr} {cap : Nat} {bs : List UInt8} (hs : P.underlying src = some (.slice e)) (he : P.underlying e = some (.int .u8)) (hd : P.underlying dst = some .string)
    (hr : Reads w ao (bys bs)) (hz : ao = none → bs.length = 0) : (convert src dst (.slice ao bs.length cap)).run P w = .ok (.string (bstr bs)) w := by
  cases ao with
  | none =>
    have : bs = [] := List.eq_nil_of_length_eq_zero (hz rfl)
    subst this
    exact run_convert_bytes_nil w src e hs he _ _ dst hd
  | some ad =>
    have := run_convert_bytes_back (P := P) w src dst e ad cap bs hs he hd (fun j hj => hr j _ (bys_get hj))
    exact this

/-- string(b) -/
theorem op_str (E : Env a n l) {src dst e : TypeId} {ao : Option Addr} {cap p : Nat} {bs : List UInt8} (h : opAt ops n i l = some (.run d (nv (convert src dst (.slice ao p cap))))) (hp : p = bs.length)
    (hs : P.underlying src = some (.slice e)) (he : P.underlying e = some (.int .u8)) (hd : P.underlying dst = some .string) (hr : Reads w ao (bys bs)) (hz : ao = none → p = 0)
    (next : ∀ a', Env a' n (putl d (.string (bstr bs)) l) → K a' w) : wpOp P ops Q i K a w := by
  subst hp
  exact op_val E h (run_str hs he hd hr hz) next

/-- the address of an element -/
theorem run_indexAt {t e : TypeId} {sz : Nat} {k : IntKind} (hu : P.underlying t = some (.slice e)) (hs : (fun w => (sizeOf e).run P w) = fun w => .ok sz w) (ad : Addr) (len cap : Nat) (ix : Int) (h0 : 0 ≤ ix) (h1 : ix < len) :
    (Instr.indexAt t (.slice (some ad) len cap) (.int k ix)).run P w = .ok (.pointer (some (ad.add (ix.toNat * sz)))) w := by
  have hs' : (sizeOf e).run P w = .ok sz w := congrFun hs w
  simp [Instr.indexAt, asIntOf, run_underlying hu, h0, h1, hs']

/-- an element of a slice is loaded -/
theorem op_loadel (E : Env a n l) {t : TypeId} {ad : Addr} {ao : Option Addr} {xs : List Value} {j : Nat} {v : Value} (h : opAt ops n i l = some (.run d (nv (Instr.loadAt t (.pointer (some (ad.add j)))))))
    (hr : Reads w ao xs) (ha : ao = some ad) (hv : xs[j]? = some v) (ht : (fun w => (isAgg t).run P w) = fun w => .ok false w) (next : ∀ a', Env a' n (putl d v l) → K a' w) : wpOp P ops Q i K a w := by
  subst ha
  exact op_load E h (hr j v hv) ht next

/-- x[lo:hi] -/
theorem op_slice (E : Env a n l) {t e : TypeId} {sz len cap lo hi : Nat} {ao : Option Addr} {lov hiv : Option Value} (h : opAt ops n i l = some (.run d (nv (Instr.sliceAt t (.slice ao len cap) lov hiv none))))
    (hu : P.underlying t = some (.slice e)) (hs : (fun w => (sizeOf e).run P w) = fun w => .ok sz w) (h1 : lo ≤ hi) (h2 : hi ≤ cap)
    (hlo : lov = none ∧ lo = 0 ∨ ∃ k, lov = some (.int k lo)) (hhi : hiv = none ∧ hi = len ∨ ∃ k, hiv = some (.int k hi))
    (next : ∀ a', Env a' n (putl d (.slice (cutAt ao cap lo sz) (hi - lo) (cap - lo)) l) → K a' w) : wpOp P ops Q i K a w :=
  op_val E h (run_sliceAt hu hs ao len cap lo hi h1 h2 lov hiv hlo hhi) next

theorem run_shr_u64 (x : UInt64) (k : IntKind) (n : Nat) (hn : n < 64) (w : World) : (Op.shift .shr .u64 ((UInt64.toNat x : Nat) : Int) k ((n : Nat) : Int)).run P w = .ok (.int .u64 ((UInt64.toNat (x >>> UInt64.ofNat n) : Nat) : Int)) w := by
  unfold Op.shift
  have h1 : ¬ (((n : Nat) : Int) < 0) := by omega
  have h2 : min (((n : Nat) : Int)).toNat (IntKind.bits .u64) = n := by simp [IntKind.bits]; omega
  rw [if_neg h1]
  simp only [h2, Sem.run_pure]
  rw [u64_shr (x := x) rfl hn]
theorem run_shl_u64 (x : UInt64) (k : IntKind) (n : Nat) (hn : n < 64) (w : World) : (Op.shift .shl .u64 ((UInt64.toNat x : Nat) : Int) k ((n : Nat) : Int)).run P w = .ok (.int .u64 ((UInt64.toNat (x <<< UInt64.ofNat n) : Nat) : Int)) w := by
  unfold Op.shift
  have h1 : ¬ (((n : Nat) : Int) < 0) := by omega
  have h2 : min (((n : Nat) : Int)).toNat (IntKind.bits .u64) = n := by simp [IntKind.bits]; omega
  rw [if_neg h1]
  simp only [h2, Sem.run_pure]
  rw [u64_shl (x := x) rfl hn]
end
end Go.Dbr
