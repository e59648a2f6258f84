/- Whole numbers shifted; bits of both; a slice cut short: over any program. -/
import Derived.Test.YtfcfgbejpcmmkaaDoorGrp
import Derived.Test.YtfcfgbejpcmmkaaDoorToArr
namespace Go.Dbr
open Go Go.RowKit
section
variable {P : Program} {ops : Array Oper} {Q : Exit → Act → World → Prop} {n i : Nat} {l : List (Nat × Value)} {a : Act} {w w0 : World} {L L0 : List Ent} {d : Option Tmp} {K : Act → World → Prop}
theorem run_shr_i64 (x : Nat) (k : IntKind) (m : Nat) (hm : m < 64) (w : World) : (Op.shift .shr .i64 ((x : Nat) : Int) k ((m : Nat) : Int)).run P w = .ok (.int .i64 ((x / 2 ^ m : Nat) : Int)) w := by
  unfold Op.shift
  have h1 : ¬ (((m : Nat) : Int) < 0) := by omega
  have h2 : min (((m : Nat) : Int)).toNat (IntKind.bits .i64) = m := by simp [IntKind.bits]; omega
  rw [if_neg h1]
  simp only [h2, Sem.run_pure]
  rw [Int.fdiv_eq_ediv_of_nonneg _ (Int.pow_nonneg (by decide)), Int.natCast_ediv, Int.natCast_pow]
  rfl
theorem run_shl_i64 (x : Nat) (k : IntKind) (m : Nat) (hm : m < 64) (hx : x * 2 ^ m < 9223372036854775808) (w : World) : (Op.shift .shl .i64 ((x : Nat) : Int) k ((m : Nat) : Int)).run P w = .ok (.int .i64 ((x * 2 ^ m : Nat) : Int)) w := by
  unfold Op.shift
  have h1 : ¬ (((m : Nat) : Int) < 0) := by omega
  have h2 : min (((m : Nat) : Int)).toNat (IntKind.bits .i64) = m := by simp [IntKind.bits]; omega
  rw [if_neg h1]
  simp only [h2, Sem.run_pure]
  have e : ((x : Nat) : Int) * 2 ^ m = ((x * 2 ^ m : Nat) : Int) := by rw [Int.natCast_mul, Int.natCast_pow]; rfl
  rw [e, wr64 (x := ((x * 2 ^ m : Nat) : Int)) rfl (by omega) (by omega)]
theorem i64_or_nat {x y : Nat} (hx : x < 9223372036854775808) (hy : y < 9223372036854775808) : IntKind.wrap .i64 ((BitVec.ofInt (IntKind.bits .i64) ((x : Nat) : Int) ||| BitVec.ofInt (IntKind.bits .i64) ((y : Nat) : Int)).toNat : Int) = ((x ||| y : Nat) : Int) := by
  have h : x ||| y < 2 ^ 63 := Nat.or_lt_two_pow (by simpa using hx) (by simpa using hy)
  have e1 : (BitVec.ofInt (IntKind.bits .i64) ((x : Nat) : Int)).toNat = x := by
    show (BitVec.ofInt 64 ((x : Nat) : Int)).toNat = x
    rw [BitVec.ofInt_natCast, BitVec.toNat_ofNat, Nat.mod_eq_of_lt (by omega)]
  have e2 : (BitVec.ofInt (IntKind.bits .i64) ((y : Nat) : Int)).toNat = y := by
    show (BitVec.ofInt 64 ((y : Nat) : Int)).toNat = y
    rw [BitVec.ofInt_natCast, BitVec.toNat_ofNat, Nat.mod_eq_of_lt (by omega)]
  rw [BitVec.toNat_or, e1, e2]
  exact wr64 rfl (by omega) (by omega)
theorem or_low {x y : Nat} (k : Nat) (h : y < 2 ^ k) : x * 2 ^ k ||| y = x * 2 ^ k + y := by
  rw [← Nat.shiftLeft_eq, ← Nat.shiftLeft_add_eq_or_of_lt h]
/-- a byte put behind -/
theorem i64_or_low {x y : Nat} (k : Nat) (h : y < 2 ^ k) (hx : x * 2 ^ k + y < 9223372036854775808) : IntKind.wrap .i64 ((BitVec.ofInt (IntKind.bits .i64) ((x * 2 ^ k : Nat) : Int) ||| BitVec.ofInt (IntKind.bits .i64) ((y : Nat) : Int)).toNat : Int) = ((x * 2 ^ k + y : Nat) : Int) := by
  rw [i64_or_nat (by omega) (by omega), or_low k h]
theorem nat_to_u8 {a : Int} {n : Nat} (ha : a = ((n : Nat) : Int)) : IntKind.wrap .u8 a = ((UInt8.toNat (UInt8.ofNat n) : Nat) : Int) := by
  subst ha; rw [wrap_u8, UInt8.toNat_ofNat']; omega
theorem nat_to_u16 {a : Int} {n : Nat} (ha : a = ((n : Nat) : Int)) : IntKind.wrap .u16 a = ((UInt16.toNat (UInt16.ofNat n) : Nat) : Int) := by
  subst ha; rw [wrap_u16, UInt16.toNat_ofNat']; omega
theorem nat_to_u32 {a : Int} {n : Nat} (ha : a = ((n : Nat) : Int)) : IntKind.wrap .u32 a = ((UInt32.toNat (UInt32.ofNat n) : Nat) : Int) := by
  subst ha; rw [wrap_u32, UInt32.toNat_ofNat']; omega
/-- x[:m:m] -/
theorem run_slicemx {t e : TypeId} {sz : Nat} (hu : P.underlying t = some (.slice e)) (hs : (fun w => (sizeOf e).run P w) = fun w => .ok sz w) (ao : Option Addr) (len cap m : Nat) (h2 : m ≤ cap) (k k' : IntKind) (w : World) :
    (Instr.sliceAt t (.slice ao len cap) none (some (.int k ((m : Nat) : Int))) (some (.int k' ((m : Nat) : Int)))).run P w = .ok (.slice ao m m) w := by
  have hs' : (sizeOf e).run P w = .ok sz w := congrFun hs w
  have hc := cutAt_zero ao m sz
  unfold cutAt at hc
  rw [Nat.zero_mul] at hc
  simp [Instr.sliceAt, Instr.slice, Instr.sliceBounds, Instr.sliceBound, run_underlying hu, asIntOf, hs', h2, hc]
theorem sub_mx {a : Option Addr} {c : Nat} {l : List UInt8} (m : Nat) (h : m ≤ l.length) : Sub a c l a m (List.take m l) := fun _ _ i => by
  have j := i.take m
  refine ⟨j.ro, j.nz, by rw [List.length_take]; omega, j.small⟩
theorem sub_drop {a : Option Addr} {c : Nat} {l : List UInt8} (m : Nat) (h : m ≤ l.length) : Sub a c l (cutAt a c m 1) (c - m) (List.drop m l) := fun _ _ i => i.drop m h
end
end Go.Dbr
