/- Integers of a machine's width, as Lean's own. -/
import Derived.Test.YtfcfgbejpcmmkaaDoorOps
namespace Go.Dbr
open Go

theorem wr64 {e x : Int} (h : e = x) (h1 : -9223372036854775808 ≤ x) (h2 : x ≤ 9223372036854775807) : IntKind.wrap .i64 e = x := by
  subst h
  have e1 : ((2 : Int) ^ IntKind.bits .i64) = 18446744073709551616 := by decide
  have e2 : ((2 : Int) ^ (IntKind.bits .i64 - 1)) = 9223372036854775808 := by decide
  unfold IntKind.wrap
  rw [e1, e2]
  simp only [IntKind.signed, Bool.true_and, decide_eq_true_eq]
  split <;> omega

/-! ### UInt8 -/
theorem wrap_u8 (n : Int) : IntKind.wrap .u8 n = n % 256 := by
  have e1 : ((2 : Int) ^ IntKind.bits .u8) = 256 := by decide
  unfold IntKind.wrap
  rw [e1]
  simp [IntKind.signed]
theorem u8_lt (x : UInt8) : ((x.toNat : Nat) : Int) < 256 := by have := x.toNat_lt; omega
theorem u8_add {a b : Int} {x y : UInt8} (ha : a = ((x.toNat : Nat) : Int)) (hb : b = ((y.toNat : Nat) : Int)) : IntKind.wrap .u8 (a + b) = ((UInt8.toNat (x + y) : Nat) : Int) := by
  subst ha hb; rw [wrap_u8, UInt8.toNat_add]; omega
theorem u8_sub {a b : Int} {x y : UInt8} (ha : a = ((x.toNat : Nat) : Int)) (hb : b = ((y.toNat : Nat) : Int)) : IntKind.wrap .u8 (a - b) = ((UInt8.toNat (x - y) : Nat) : Int) := by
  subst ha hb; rw [wrap_u8, UInt8.toNat_sub]; have := x.toNat_lt; have := y.toNat_lt; omega
theorem u8_mul {a b : Int} {x y : UInt8} (ha : a = ((x.toNat : Nat) : Int)) (hb : b = ((y.toNat : Nat) : Int)) : IntKind.wrap .u8 (a * b) = ((UInt8.toNat (x * y) : Nat) : Int) := by
  subst ha hb; rw [wrap_u8, UInt8.toNat_mul, ← Int.natCast_mul]; omega
theorem u8_shr {a : Int} {x : UInt8} {n : Nat} (ha : a = ((x.toNat : Nat) : Int)) (hn : n < 8) : Int.fdiv a (2 ^ n) = ((UInt8.toNat (x >>> UInt8.ofNat n) : Nat) : Int) := by
  subst ha
  have h1 : (UInt8.ofNat n).toNat = n := by rw [UInt8.toNat_ofNat']; omega
  rw [UInt8.toNat_shiftRight, h1, Nat.mod_eq_of_lt hn, Nat.shiftRight_eq_div_pow]
  rw [Int.fdiv_eq_ediv_of_nonneg _ (Int.pow_nonneg (by decide)), Int.natCast_ediv, Int.natCast_pow]
  rfl
theorem u8_shl {a : Int} {x : UInt8} {n : Nat} (ha : a = ((x.toNat : Nat) : Int)) (hn : n < 8) : IntKind.wrap .u8 (a * 2 ^ n) = ((UInt8.toNat (x <<< UInt8.ofNat n) : Nat) : Int) := by
  subst ha
  have h1 : (UInt8.ofNat n).toNat = n := by rw [UInt8.toNat_ofNat']; omega
  have h2 : ((x.toNat : Nat) : Int) * 2 ^ n = ((x.toNat * 2 ^ n : Nat) : Int) := by rw [Int.natCast_mul, Int.natCast_pow]; rfl
  rw [UInt8.toNat_shiftLeft, h1, Nat.mod_eq_of_lt hn, Nat.shiftLeft_eq, wrap_u8, h2]
  omega
theorem u8_and {a b : Int} {x y : UInt8} (ha : a = ((x.toNat : Nat) : Int)) (hb : b = ((y.toNat : Nat) : Int)) : IntKind.wrap .u8 (((BitVec.ofInt (IntKind.bits .u8) a &&& BitVec.ofInt (IntKind.bits .u8) b).toNat : Nat) : Int) = ((UInt8.toNat (x &&& y) : Nat) : Int) := by
  subst ha hb
  have ex : BitVec.ofInt (IntKind.bits .u8) ((x.toNat : Nat) : Int) = x.toBitVec := by apply BitVec.eq_of_toNat_eq; simp [IntKind.bits]
  have ey : BitVec.ofInt (IntKind.bits .u8) ((y.toNat : Nat) : Int) = y.toBitVec := by apply BitVec.eq_of_toNat_eq; simp [IntKind.bits]
  rw [ex, ey, wrap_u8]
  have h : (x.toBitVec &&& y.toBitVec).toNat = (UInt8.toNat (x &&& y)) := rfl
  have h2 : (((UInt8.toNat (x &&& y)) : Nat) : Int) % 256 = (((UInt8.toNat (x &&& y)) : Nat) : Int) := by have := (x &&& y).toNat_lt; omega
  exact (congrArg (fun n : Nat => (n : Int) % 256) h).trans h2
theorem u8_or {a b : Int} {x y : UInt8} (ha : a = ((x.toNat : Nat) : Int)) (hb : b = ((y.toNat : Nat) : Int)) : IntKind.wrap .u8 (((BitVec.ofInt (IntKind.bits .u8) a ||| BitVec.ofInt (IntKind.bits .u8) b).toNat : Nat) : Int) = ((UInt8.toNat (x ||| y) : Nat) : Int) := by
  subst ha hb
  have ex : BitVec.ofInt (IntKind.bits .u8) ((x.toNat : Nat) : Int) = x.toBitVec := by apply BitVec.eq_of_toNat_eq; simp [IntKind.bits]
  have ey : BitVec.ofInt (IntKind.bits .u8) ((y.toNat : Nat) : Int) = y.toBitVec := by apply BitVec.eq_of_toNat_eq; simp [IntKind.bits]
  rw [ex, ey, wrap_u8]
  have h : (x.toBitVec ||| y.toBitVec).toNat = (UInt8.toNat (x ||| y)) := rfl
  have h2 : (((UInt8.toNat (x ||| y)) : Nat) : Int) % 256 = (((UInt8.toNat (x ||| y)) : Nat) : Int) := by have := (x ||| y).toNat_lt; omega
  exact (congrArg (fun n : Nat => (n : Int) % 256) h).trans h2
theorem u8_xor {a b : Int} {x y : UInt8} (ha : a = ((x.toNat : Nat) : Int)) (hb : b = ((y.toNat : Nat) : Int)) : IntKind.wrap .u8 (((BitVec.ofInt (IntKind.bits .u8) a ^^^ BitVec.ofInt (IntKind.bits .u8) b).toNat : Nat) : Int) = ((UInt8.toNat (x ^^^ y) : Nat) : Int) := by
  subst ha hb
  have ex : BitVec.ofInt (IntKind.bits .u8) ((x.toNat : Nat) : Int) = x.toBitVec := by apply BitVec.eq_of_toNat_eq; simp [IntKind.bits]
  have ey : BitVec.ofInt (IntKind.bits .u8) ((y.toNat : Nat) : Int) = y.toBitVec := by apply BitVec.eq_of_toNat_eq; simp [IntKind.bits]
  rw [ex, ey, wrap_u8]
  have h : (x.toBitVec ^^^ y.toBitVec).toNat = (UInt8.toNat (x ^^^ y)) := rfl
  have h2 : (((UInt8.toNat (x ^^^ y)) : Nat) : Int) % 256 = (((UInt8.toNat (x ^^^ y)) : Nat) : Int) := by have := (x ^^^ y).toNat_lt; omega
  exact (congrArg (fun n : Nat => (n : Int) % 256) h).trans h2
theorem u8_to_i64 {a : Int} {x : UInt8} (ha : a = ((x.toNat : Nat) : Int)) : IntKind.wrap .i64 a = (((UInt8.toNat x) : Nat) : Int) := by
  subst ha; exact wr64 rfl (by omega) (by have := x.toNat_lt; omega)

/-! ### UInt16 -/
theorem wrap_u16 (n : Int) : IntKind.wrap .u16 n = n % 65536 := by
  have e1 : ((2 : Int) ^ IntKind.bits .u16) = 65536 := by decide
  unfold IntKind.wrap
  rw [e1]
  simp [IntKind.signed]
theorem u16_lt (x : UInt16) : ((x.toNat : Nat) : Int) < 65536 := by have := x.toNat_lt; omega
theorem u16_add {a b : Int} {x y : UInt16} (ha : a = ((x.toNat : Nat) : Int)) (hb : b = ((y.toNat : Nat) : Int)) : IntKind.wrap .u16 (a + b) = ((UInt16.toNat (x + y) : Nat) : Int) := by
  subst ha hb; rw [wrap_u16, UInt16.toNat_add]; omega
theorem u16_sub {a b : Int} {x y : UInt16} (ha : a = ((x.toNat : Nat) : Int)) (hb : b = ((y.toNat : Nat) : Int)) : IntKind.wrap .u16 (a - b) = ((UInt16.toNat (x - y) : Nat) : Int) := by
  subst ha hb; rw [wrap_u16, UInt16.toNat_sub]; have := x.toNat_lt; have := y.toNat_lt; omega
theorem u16_mul {a b : Int} {x y : UInt16} (ha : a = ((x.toNat : Nat) : Int)) (hb : b = ((y.toNat : Nat) : Int)) : IntKind.wrap .u16 (a * b) = ((UInt16.toNat (x * y) : Nat) : Int) := by
  subst ha hb; rw [wrap_u16, UInt16.toNat_mul, ← Int.natCast_mul]; omega
theorem u16_shr {a : Int} {x : UInt16} {n : Nat} (ha : a = ((x.toNat : Nat) : Int)) (hn : n < 16) : Int.fdiv a (2 ^ n) = ((UInt16.toNat (x >>> UInt16.ofNat n) : Nat) : Int) := by
  subst ha
  have h1 : (UInt16.ofNat n).toNat = n := by rw [UInt16.toNat_ofNat']; omega
  rw [UInt16.toNat_shiftRight, h1, Nat.mod_eq_of_lt hn, Nat.shiftRight_eq_div_pow]
  rw [Int.fdiv_eq_ediv_of_nonneg _ (Int.pow_nonneg (by decide)), Int.natCast_ediv, Int.natCast_pow]
  rfl
theorem u16_shl {a : Int} {x : UInt16} {n : Nat} (ha : a = ((x.toNat : Nat) : Int)) (hn : n < 16) : IntKind.wrap .u16 (a * 2 ^ n) = ((UInt16.toNat (x <<< UInt16.ofNat n) : Nat) : Int) := by
  subst ha
  have h1 : (UInt16.ofNat n).toNat = n := by rw [UInt16.toNat_ofNat']; omega
  have h2 : ((x.toNat : Nat) : Int) * 2 ^ n = ((x.toNat * 2 ^ n : Nat) : Int) := by rw [Int.natCast_mul, Int.natCast_pow]; rfl
  rw [UInt16.toNat_shiftLeft, h1, Nat.mod_eq_of_lt hn, Nat.shiftLeft_eq, wrap_u16, h2]
  omega
theorem u16_and {a b : Int} {x y : UInt16} (ha : a = ((x.toNat : Nat) : Int)) (hb : b = ((y.toNat : Nat) : Int)) : IntKind.wrap .u16 (((BitVec.ofInt (IntKind.bits .u16) a &&& BitVec.ofInt (IntKind.bits .u16) b).toNat : Nat) : Int) = ((UInt16.toNat (x &&& y) : Nat) : Int) := by
  subst ha hb
  have ex : BitVec.ofInt (IntKind.bits .u16) ((x.toNat : Nat) : Int) = x.toBitVec := by apply BitVec.eq_of_toNat_eq; simp [IntKind.bits]
  have ey : BitVec.ofInt (IntKind.bits .u16) ((y.toNat : Nat) : Int) = y.toBitVec := by apply BitVec.eq_of_toNat_eq; simp [IntKind.bits]
  rw [ex, ey, wrap_u16]
  have h : (x.toBitVec &&& y.toBitVec).toNat = (UInt16.toNat (x &&& y)) := rfl
  have h2 : (((UInt16.toNat (x &&& y)) : Nat) : Int) % 65536 = (((UInt16.toNat (x &&& y)) : Nat) : Int) := by have := (x &&& y).toNat_lt; omega
  exact (congrArg (fun n : Nat => (n : Int) % 65536) h).trans h2
theorem u16_or {a b : Int} {x y : UInt16} (ha : a = ((x.toNat : Nat) : Int)) (hb : b = ((y.toNat : Nat) : Int)) : IntKind.wrap .u16 (((BitVec.ofInt (IntKind.bits .u16) a ||| BitVec.ofInt (IntKind.bits .u16) b).toNat : Nat) : Int) = ((UInt16.toNat (x ||| y) : Nat) : Int) := by
  subst ha hb
  have ex : BitVec.ofInt (IntKind.bits .u16) ((x.toNat : Nat) : Int) = x.toBitVec := by apply BitVec.eq_of_toNat_eq; simp [IntKind.bits]
  have ey : BitVec.ofInt (IntKind.bits .u16) ((y.toNat : Nat) : Int) = y.toBitVec := by apply BitVec.eq_of_toNat_eq; simp [IntKind.bits]
  rw [ex, ey, wrap_u16]
  have h : (x.toBitVec ||| y.toBitVec).toNat = (UInt16.toNat (x ||| y)) := rfl
  have h2 : (((UInt16.toNat (x ||| y)) : Nat) : Int) % 65536 = (((UInt16.toNat (x ||| y)) : Nat) : Int) := by have := (x ||| y).toNat_lt; omega
  exact (congrArg (fun n : Nat => (n : Int) % 65536) h).trans h2
theorem u16_xor {a b : Int} {x y : UInt16} (ha : a = ((x.toNat : Nat) : Int)) (hb : b = ((y.toNat : Nat) : Int)) : IntKind.wrap .u16 (((BitVec.ofInt (IntKind.bits .u16) a ^^^ BitVec.ofInt (IntKind.bits .u16) b).toNat : Nat) : Int) = ((UInt16.toNat (x ^^^ y) : Nat) : Int) := by
  subst ha hb
  have ex : BitVec.ofInt (IntKind.bits .u16) ((x.toNat : Nat) : Int) = x.toBitVec := by apply BitVec.eq_of_toNat_eq; simp [IntKind.bits]
  have ey : BitVec.ofInt (IntKind.bits .u16) ((y.toNat : Nat) : Int) = y.toBitVec := by apply BitVec.eq_of_toNat_eq; simp [IntKind.bits]
  rw [ex, ey, wrap_u16]
  have h : (x.toBitVec ^^^ y.toBitVec).toNat = (UInt16.toNat (x ^^^ y)) := rfl
  have h2 : (((UInt16.toNat (x ^^^ y)) : Nat) : Int) % 65536 = (((UInt16.toNat (x ^^^ y)) : Nat) : Int) := by have := (x ^^^ y).toNat_lt; omega
  exact (congrArg (fun n : Nat => (n : Int) % 65536) h).trans h2
theorem u16_to_i64 {a : Int} {x : UInt16} (ha : a = ((x.toNat : Nat) : Int)) : IntKind.wrap .i64 a = (((UInt16.toNat x) : Nat) : Int) := by
  subst ha; exact wr64 rfl (by omega) (by have := x.toNat_lt; omega)

/-! ### UInt32 -/
theorem wrap_u32 (n : Int) : IntKind.wrap .u32 n = n % 4294967296 := by
  have e1 : ((2 : Int) ^ IntKind.bits .u32) = 4294967296 := by decide
  unfold IntKind.wrap
  rw [e1]
  simp [IntKind.signed]
theorem u32_lt (x : UInt32) : ((x.toNat : Nat) : Int) < 4294967296 := by have := x.toNat_lt; omega
theorem u32_add {a b : Int} {x y : UInt32} (ha : a = ((x.toNat : Nat) : Int)) (hb : b = ((y.toNat : Nat) : Int)) : IntKind.wrap .u32 (a + b) = ((UInt32.toNat (x + y) : Nat) : Int) := by
  subst ha hb; rw [wrap_u32, UInt32.toNat_add]; omega
theorem u32_sub {a b : Int} {x y : UInt32} (ha : a = ((x.toNat : Nat) : Int)) (hb : b = ((y.toNat : Nat) : Int)) : IntKind.wrap .u32 (a - b) = ((UInt32.toNat (x - y) : Nat) : Int) := by
  subst ha hb; rw [wrap_u32, UInt32.toNat_sub]; have := x.toNat_lt; have := y.toNat_lt; omega
theorem u32_mul {a b : Int} {x y : UInt32} (ha : a = ((x.toNat : Nat) : Int)) (hb : b = ((y.toNat : Nat) : Int)) : IntKind.wrap .u32 (a * b) = ((UInt32.toNat (x * y) : Nat) : Int) := by
  subst ha hb; rw [wrap_u32, UInt32.toNat_mul, ← Int.natCast_mul]; omega
theorem u32_shr {a : Int} {x : UInt32} {n : Nat} (ha : a = ((x.toNat : Nat) : Int)) (hn : n < 32) : Int.fdiv a (2 ^ n) = ((UInt32.toNat (x >>> UInt32.ofNat n) : Nat) : Int) := by
  subst ha
  have h1 : (UInt32.ofNat n).toNat = n := by rw [UInt32.toNat_ofNat']; omega
  rw [UInt32.toNat_shiftRight, h1, Nat.mod_eq_of_lt hn, Nat.shiftRight_eq_div_pow]
  rw [Int.fdiv_eq_ediv_of_nonneg _ (Int.pow_nonneg (by decide)), Int.natCast_ediv, Int.natCast_pow]
  rfl
theorem u32_shl {a : Int} {x : UInt32} {n : Nat} (ha : a = ((x.toNat : Nat) : Int)) (hn : n < 32) : IntKind.wrap .u32 (a * 2 ^ n) = ((UInt32.toNat (x <<< UInt32.ofNat n) : Nat) : Int) := by
  subst ha
  have h1 : (UInt32.ofNat n).toNat = n := by rw [UInt32.toNat_ofNat']; omega
  have h2 : ((x.toNat : Nat) : Int) * 2 ^ n = ((x.toNat * 2 ^ n : Nat) : Int) := by rw [Int.natCast_mul, Int.natCast_pow]; rfl
  rw [UInt32.toNat_shiftLeft, h1, Nat.mod_eq_of_lt hn, Nat.shiftLeft_eq, wrap_u32, h2]
  omega
theorem u32_and {a b : Int} {x y : UInt32} (ha : a = ((x.toNat : Nat) : Int)) (hb : b = ((y.toNat : Nat) : Int)) : IntKind.wrap .u32 (((BitVec.ofInt (IntKind.bits .u32) a &&& BitVec.ofInt (IntKind.bits .u32) b).toNat : Nat) : Int) = ((UInt32.toNat (x &&& y) : Nat) : Int) := by
  subst ha hb
  have ex : BitVec.ofInt (IntKind.bits .u32) ((x.toNat : Nat) : Int) = x.toBitVec := by apply BitVec.eq_of_toNat_eq; simp [IntKind.bits]
  have ey : BitVec.ofInt (IntKind.bits .u32) ((y.toNat : Nat) : Int) = y.toBitVec := by apply BitVec.eq_of_toNat_eq; simp [IntKind.bits]
  rw [ex, ey, wrap_u32]
  have h : (x.toBitVec &&& y.toBitVec).toNat = (UInt32.toNat (x &&& y)) := rfl
  have h2 : (((UInt32.toNat (x &&& y)) : Nat) : Int) % 4294967296 = (((UInt32.toNat (x &&& y)) : Nat) : Int) := by have := (x &&& y).toNat_lt; omega
  exact (congrArg (fun n : Nat => (n : Int) % 4294967296) h).trans h2
theorem u32_or {a b : Int} {x y : UInt32} (ha : a = ((x.toNat : Nat) : Int)) (hb : b = ((y.toNat : Nat) : Int)) : IntKind.wrap .u32 (((BitVec.ofInt (IntKind.bits .u32) a ||| BitVec.ofInt (IntKind.bits .u32) b).toNat : Nat) : Int) = ((UInt32.toNat (x ||| y) : Nat) : Int) := by
  subst ha hb
  have ex : BitVec.ofInt (IntKind.bits .u32) ((x.toNat : Nat) : Int) = x.toBitVec := by apply BitVec.eq_of_toNat_eq; simp [IntKind.bits]
  have ey : BitVec.ofInt (IntKind.bits .u32) ((y.toNat : Nat) : Int) = y.toBitVec := by apply BitVec.eq_of_toNat_eq; simp [IntKind.bits]
  rw [ex, ey, wrap_u32]
  have h : (x.toBitVec ||| y.toBitVec).toNat = (UInt32.toNat (x ||| y)) := rfl
  have h2 : (((UInt32.toNat (x ||| y)) : Nat) : Int) % 4294967296 = (((UInt32.toNat (x ||| y)) : Nat) : Int) := by have := (x ||| y).toNat_lt; omega
  exact (congrArg (fun n : Nat => (n : Int) % 4294967296) h).trans h2
theorem u32_xor {a b : Int} {x y : UInt32} (ha : a = ((x.toNat : Nat) : Int)) (hb : b = ((y.toNat : Nat) : Int)) : IntKind.wrap .u32 (((BitVec.ofInt (IntKind.bits .u32) a ^^^ BitVec.ofInt (IntKind.bits .u32) b).toNat : Nat) : Int) = ((UInt32.toNat (x ^^^ y) : Nat) : Int) := by
  subst ha hb
  have ex : BitVec.ofInt (IntKind.bits .u32) ((x.toNat : Nat) : Int) = x.toBitVec := by apply BitVec.eq_of_toNat_eq; simp [IntKind.bits]
  have ey : BitVec.ofInt (IntKind.bits .u32) ((y.toNat : Nat) : Int) = y.toBitVec := by apply BitVec.eq_of_toNat_eq; simp [IntKind.bits]
  rw [ex, ey, wrap_u32]
  have h : (x.toBitVec ^^^ y.toBitVec).toNat = (UInt32.toNat (x ^^^ y)) := rfl
  have h2 : (((UInt32.toNat (x ^^^ y)) : Nat) : Int) % 4294967296 = (((UInt32.toNat (x ^^^ y)) : Nat) : Int) := by have := (x ^^^ y).toNat_lt; omega
  exact (congrArg (fun n : Nat => (n : Int) % 4294967296) h).trans h2
theorem u32_to_i64 {a : Int} {x : UInt32} (ha : a = ((x.toNat : Nat) : Int)) : IntKind.wrap .i64 a = (((UInt32.toNat x) : Nat) : Int) := by
  subst ha; exact wr64 rfl (by omega) (by have := x.toNat_lt; omega)

/-! ### UInt64 -/
theorem wrap_u64 (n : Int) : IntKind.wrap .u64 n = n % 18446744073709551616 := by
  have e1 : ((2 : Int) ^ IntKind.bits .u64) = 18446744073709551616 := by decide
  unfold IntKind.wrap
  rw [e1]
  simp [IntKind.signed]
theorem u64_lt (x : UInt64) : ((x.toNat : Nat) : Int) < 18446744073709551616 := by have := x.toNat_lt; omega
theorem u64_add {a b : Int} {x y : UInt64} (ha : a = ((x.toNat : Nat) : Int)) (hb : b = ((y.toNat : Nat) : Int)) : IntKind.wrap .u64 (a + b) = ((UInt64.toNat (x + y) : Nat) : Int) := by
  subst ha hb; rw [wrap_u64, UInt64.toNat_add]; omega
theorem u64_sub {a b : Int} {x y : UInt64} (ha : a = ((x.toNat : Nat) : Int)) (hb : b = ((y.toNat : Nat) : Int)) : IntKind.wrap .u64 (a - b) = ((UInt64.toNat (x - y) : Nat) : Int) := by
  subst ha hb; rw [wrap_u64, UInt64.toNat_sub]; have := x.toNat_lt; have := y.toNat_lt; omega
theorem u64_mul {a b : Int} {x y : UInt64} (ha : a = ((x.toNat : Nat) : Int)) (hb : b = ((y.toNat : Nat) : Int)) : IntKind.wrap .u64 (a * b) = ((UInt64.toNat (x * y) : Nat) : Int) := by
  subst ha hb; rw [wrap_u64, UInt64.toNat_mul, ← Int.natCast_mul]; omega
theorem u64_shr {a : Int} {x : UInt64} {n : Nat} (ha : a = ((x.toNat : Nat) : Int)) (hn : n < 64) : Int.fdiv a (2 ^ n) = ((UInt64.toNat (x >>> UInt64.ofNat n) : Nat) : Int) := by
  subst ha
  have h1 : (UInt64.ofNat n).toNat = n := by rw [UInt64.toNat_ofNat']; omega
  rw [UInt64.toNat_shiftRight, h1, Nat.mod_eq_of_lt hn, Nat.shiftRight_eq_div_pow]
  rw [Int.fdiv_eq_ediv_of_nonneg _ (Int.pow_nonneg (by decide)), Int.natCast_ediv, Int.natCast_pow]
  rfl
theorem u64_shl {a : Int} {x : UInt64} {n : Nat} (ha : a = ((x.toNat : Nat) : Int)) (hn : n < 64) : IntKind.wrap .u64 (a * 2 ^ n) = ((UInt64.toNat (x <<< UInt64.ofNat n) : Nat) : Int) := by
  subst ha
  have h1 : (UInt64.ofNat n).toNat = n := by rw [UInt64.toNat_ofNat']; omega
  have h2 : ((x.toNat : Nat) : Int) * 2 ^ n = ((x.toNat * 2 ^ n : Nat) : Int) := by rw [Int.natCast_mul, Int.natCast_pow]; rfl
  rw [UInt64.toNat_shiftLeft, h1, Nat.mod_eq_of_lt hn, Nat.shiftLeft_eq, wrap_u64, h2]
  omega
theorem u64_and {a b : Int} {x y : UInt64} (ha : a = ((x.toNat : Nat) : Int)) (hb : b = ((y.toNat : Nat) : Int)) : IntKind.wrap .u64 (((BitVec.ofInt (IntKind.bits .u64) a &&& BitVec.ofInt (IntKind.bits .u64) b).toNat : Nat) : Int) = ((UInt64.toNat (x &&& y) : Nat) : Int) := by
  subst ha hb
  have ex : BitVec.ofInt (IntKind.bits .u64) ((x.toNat : Nat) : Int) = x.toBitVec := by apply BitVec.eq_of_toNat_eq; simp [IntKind.bits]
  have ey : BitVec.ofInt (IntKind.bits .u64) ((y.toNat : Nat) : Int) = y.toBitVec := by apply BitVec.eq_of_toNat_eq; simp [IntKind.bits]
  rw [ex, ey, wrap_u64]
  have h : (x.toBitVec &&& y.toBitVec).toNat = (UInt64.toNat (x &&& y)) := rfl
  have h2 : (((UInt64.toNat (x &&& y)) : Nat) : Int) % 18446744073709551616 = (((UInt64.toNat (x &&& y)) : Nat) : Int) := by have := (x &&& y).toNat_lt; omega
  exact (congrArg (fun n : Nat => (n : Int) % 18446744073709551616) h).trans h2
theorem u64_or {a b : Int} {x y : UInt64} (ha : a = ((x.toNat : Nat) : Int)) (hb : b = ((y.toNat : Nat) : Int)) : IntKind.wrap .u64 (((BitVec.ofInt (IntKind.bits .u64) a ||| BitVec.ofInt (IntKind.bits .u64) b).toNat : Nat) : Int) = ((UInt64.toNat (x ||| y) : Nat) : Int) := by
  subst ha hb
  have ex : BitVec.ofInt (IntKind.bits .u64) ((x.toNat : Nat) : Int) = x.toBitVec := by apply BitVec.eq_of_toNat_eq; simp [IntKind.bits]
  have ey : BitVec.ofInt (IntKind.bits .u64) ((y.toNat : Nat) : Int) = y.toBitVec := by apply BitVec.eq_of_toNat_eq; simp [IntKind.bits]
  rw [ex, ey, wrap_u64]
  have h : (x.toBitVec ||| y.toBitVec).toNat = (UInt64.toNat (x ||| y)) := rfl
  have h2 : (((UInt64.toNat (x ||| y)) : Nat) : Int) % 18446744073709551616 = (((UInt64.toNat (x ||| y)) : Nat) : Int) := by have := (x ||| y).toNat_lt; omega
  exact (congrArg (fun n : Nat => (n : Int) % 18446744073709551616) h).trans h2
theorem u64_xor {a b : Int} {x y : UInt64} (ha : a = ((x.toNat : Nat) : Int)) (hb : b = ((y.toNat : Nat) : Int)) : IntKind.wrap .u64 (((BitVec.ofInt (IntKind.bits .u64) a ^^^ BitVec.ofInt (IntKind.bits .u64) b).toNat : Nat) : Int) = ((UInt64.toNat (x ^^^ y) : Nat) : Int) := by
  subst ha hb
  have ex : BitVec.ofInt (IntKind.bits .u64) ((x.toNat : Nat) : Int) = x.toBitVec := by apply BitVec.eq_of_toNat_eq; simp [IntKind.bits]
  have ey : BitVec.ofInt (IntKind.bits .u64) ((y.toNat : Nat) : Int) = y.toBitVec := by apply BitVec.eq_of_toNat_eq; simp [IntKind.bits]
  rw [ex, ey, wrap_u64]
  have h : (x.toBitVec ^^^ y.toBitVec).toNat = (UInt64.toNat (x ^^^ y)) := rfl
  have h2 : (((UInt64.toNat (x ^^^ y)) : Nat) : Int) % 18446744073709551616 = (((UInt64.toNat (x ^^^ y)) : Nat) : Int) := by have := (x ^^^ y).toNat_lt; omega
  exact (congrArg (fun n : Nat => (n : Int) % 18446744073709551616) h).trans h2

theorem u8_to_u8 {a : Int} {x : UInt8} (ha : a = ((x.toNat : Nat) : Int)) : IntKind.wrap .u8 a = ((UInt8.toNat x : Nat) : Int) := by
  subst ha; rw [wrap_u8]; have := x.toNat_lt; omega
theorem u8_to_u16 {a : Int} {x : UInt8} (ha : a = ((x.toNat : Nat) : Int)) : IntKind.wrap .u16 a = ((UInt16.toNat (UInt8.toUInt16 x) : Nat) : Int) := by
  subst ha; rw [wrap_u16, UInt8.toNat_toUInt16]; have := x.toNat_lt; omega
theorem u8_to_u32 {a : Int} {x : UInt8} (ha : a = ((x.toNat : Nat) : Int)) : IntKind.wrap .u32 a = ((UInt32.toNat (UInt8.toUInt32 x) : Nat) : Int) := by
  subst ha; rw [wrap_u32, UInt8.toNat_toUInt32]; have := x.toNat_lt; omega
theorem u8_to_u64 {a : Int} {x : UInt8} (ha : a = ((x.toNat : Nat) : Int)) : IntKind.wrap .u64 a = ((UInt64.toNat (UInt8.toUInt64 x) : Nat) : Int) := by
  subst ha; rw [wrap_u64, UInt8.toNat_toUInt64]; have := x.toNat_lt; omega
theorem u16_to_u8 {a : Int} {x : UInt16} (ha : a = ((x.toNat : Nat) : Int)) : IntKind.wrap .u8 a = ((UInt8.toNat (UInt16.toUInt8 x) : Nat) : Int) := by
  subst ha; rw [wrap_u8, UInt16.toNat_toUInt8]; omega
theorem u16_to_u16 {a : Int} {x : UInt16} (ha : a = ((x.toNat : Nat) : Int)) : IntKind.wrap .u16 a = ((UInt16.toNat x : Nat) : Int) := by
  subst ha; rw [wrap_u16]; have := x.toNat_lt; omega
theorem u16_to_u32 {a : Int} {x : UInt16} (ha : a = ((x.toNat : Nat) : Int)) : IntKind.wrap .u32 a = ((UInt32.toNat (UInt16.toUInt32 x) : Nat) : Int) := by
  subst ha; rw [wrap_u32, UInt16.toNat_toUInt32]; have := x.toNat_lt; omega
theorem u16_to_u64 {a : Int} {x : UInt16} (ha : a = ((x.toNat : Nat) : Int)) : IntKind.wrap .u64 a = ((UInt64.toNat (UInt16.toUInt64 x) : Nat) : Int) := by
  subst ha; rw [wrap_u64, UInt16.toNat_toUInt64]; have := x.toNat_lt; omega
theorem u32_to_u8 {a : Int} {x : UInt32} (ha : a = ((x.toNat : Nat) : Int)) : IntKind.wrap .u8 a = ((UInt8.toNat (UInt32.toUInt8 x) : Nat) : Int) := by
  subst ha; rw [wrap_u8, UInt32.toNat_toUInt8]; omega
theorem u32_to_u16 {a : Int} {x : UInt32} (ha : a = ((x.toNat : Nat) : Int)) : IntKind.wrap .u16 a = ((UInt16.toNat (UInt32.toUInt16 x) : Nat) : Int) := by
  subst ha; rw [wrap_u16, UInt32.toNat_toUInt16]; omega
theorem u32_to_u32 {a : Int} {x : UInt32} (ha : a = ((x.toNat : Nat) : Int)) : IntKind.wrap .u32 a = ((UInt32.toNat x : Nat) : Int) := by
  subst ha; rw [wrap_u32]; have := x.toNat_lt; omega
theorem u32_to_u64 {a : Int} {x : UInt32} (ha : a = ((x.toNat : Nat) : Int)) : IntKind.wrap .u64 a = ((UInt64.toNat (UInt32.toUInt64 x) : Nat) : Int) := by
  subst ha; rw [wrap_u64, UInt32.toNat_toUInt64]; have := x.toNat_lt; omega
theorem u64_to_u8 {a : Int} {x : UInt64} (ha : a = ((x.toNat : Nat) : Int)) : IntKind.wrap .u8 a = ((UInt8.toNat (UInt64.toUInt8 x) : Nat) : Int) := by
  subst ha; rw [wrap_u8, UInt64.toNat_toUInt8]; omega
theorem u64_to_u16 {a : Int} {x : UInt64} (ha : a = ((x.toNat : Nat) : Int)) : IntKind.wrap .u16 a = ((UInt16.toNat (UInt64.toUInt16 x) : Nat) : Int) := by
  subst ha; rw [wrap_u16, UInt64.toNat_toUInt16]; omega
theorem u64_to_u32 {a : Int} {x : UInt64} (ha : a = ((x.toNat : Nat) : Int)) : IntKind.wrap .u32 a = ((UInt32.toNat (UInt64.toUInt32 x) : Nat) : Int) := by
  subst ha; rw [wrap_u32, UInt64.toNat_toUInt32]; omega
theorem u64_to_u64 {a : Int} {x : UInt64} (ha : a = ((x.toNat : Nat) : Int)) : IntKind.wrap .u64 a = ((UInt64.toNat x : Nat) : Int) := by
  subst ha; rw [wrap_u64]; have := x.toNat_lt; omega

theorem i64_rem_nat {a : Int} {n m : Nat} (ha : a = ((n : Nat) : Int)) (_hn : n ≤ 9223372036854775807) : Int.tmod a (m : Int) = ((n % m : Nat) : Int) := by
  subst ha; exact (Int.ofNat_tmod n m).symm
theorem i64_quo_nat {a : Int} {n m : Nat} (ha : a = ((n : Nat) : Int)) (hn : n ≤ 9223372036854775807) : IntKind.wrap .i64 (Int.tdiv a (m : Int)) = ((n / m : Nat) : Int) := by
  subst ha
  have h1 : Int.tdiv ((n : Nat) : Int) (m : Int) = ((n / m : Nat) : Int) := (Int.ofNat_tdiv n m).symm
  have h2 := Nat.div_le_self n m
  rw [h1]
  generalize n / m = q at h2
  exact wr64 rfl (by omega) (by omega)
theorem u8_rem {a b : Int} {x y : UInt8} (ha : a = ((x.toNat : Nat) : Int)) (hb : b = ((y.toNat : Nat) : Int)) : Int.tmod a b = ((UInt8.toNat (x % y) : Nat) : Int) := by
  subst ha hb; rw [UInt8.toNat_mod]; exact (Int.ofNat_tmod _ _).symm
theorem u8_quo {a b : Int} {x y : UInt8} (ha : a = ((x.toNat : Nat) : Int)) (hb : b = ((y.toNat : Nat) : Int)) : IntKind.wrap .u8 (Int.tdiv a b) = ((UInt8.toNat (x / y) : Nat) : Int) := by
  subst ha hb
  have h1 : Int.tdiv ((x.toNat : Nat) : Int) ((y.toNat : Nat) : Int) = ((x.toNat / y.toNat : Nat) : Int) := (Int.ofNat_tdiv _ _).symm
  have h2 := (x / y).toNat_lt
  rw [h1, wrap_u8, ← UInt8.toNat_div]
  omega
theorem u16_rem {a b : Int} {x y : UInt16} (ha : a = ((x.toNat : Nat) : Int)) (hb : b = ((y.toNat : Nat) : Int)) : Int.tmod a b = ((UInt16.toNat (x % y) : Nat) : Int) := by
  subst ha hb; rw [UInt16.toNat_mod]; exact (Int.ofNat_tmod _ _).symm
theorem u16_quo {a b : Int} {x y : UInt16} (ha : a = ((x.toNat : Nat) : Int)) (hb : b = ((y.toNat : Nat) : Int)) : IntKind.wrap .u16 (Int.tdiv a b) = ((UInt16.toNat (x / y) : Nat) : Int) := by
  subst ha hb
  have h1 : Int.tdiv ((x.toNat : Nat) : Int) ((y.toNat : Nat) : Int) = ((x.toNat / y.toNat : Nat) : Int) := (Int.ofNat_tdiv _ _).symm
  have h2 := (x / y).toNat_lt
  rw [h1, wrap_u16, ← UInt16.toNat_div]
  omega
theorem u32_rem {a b : Int} {x y : UInt32} (ha : a = ((x.toNat : Nat) : Int)) (hb : b = ((y.toNat : Nat) : Int)) : Int.tmod a b = ((UInt32.toNat (x % y) : Nat) : Int) := by
  subst ha hb; rw [UInt32.toNat_mod]; exact (Int.ofNat_tmod _ _).symm
theorem u32_quo {a b : Int} {x y : UInt32} (ha : a = ((x.toNat : Nat) : Int)) (hb : b = ((y.toNat : Nat) : Int)) : IntKind.wrap .u32 (Int.tdiv a b) = ((UInt32.toNat (x / y) : Nat) : Int) := by
  subst ha hb
  have h1 : Int.tdiv ((x.toNat : Nat) : Int) ((y.toNat : Nat) : Int) = ((x.toNat / y.toNat : Nat) : Int) := (Int.ofNat_tdiv _ _).symm
  have h2 := (x / y).toNat_lt
  rw [h1, wrap_u32, ← UInt32.toNat_div]
  omega
theorem u64_rem {a b : Int} {x y : UInt64} (ha : a = ((x.toNat : Nat) : Int)) (hb : b = ((y.toNat : Nat) : Int)) : Int.tmod a b = ((UInt64.toNat (x % y) : Nat) : Int) := by
  subst ha hb; rw [UInt64.toNat_mod]; exact (Int.ofNat_tmod _ _).symm
theorem u64_quo {a b : Int} {x y : UInt64} (ha : a = ((x.toNat : Nat) : Int)) (hb : b = ((y.toNat : Nat) : Int)) : IntKind.wrap .u64 (Int.tdiv a b) = ((UInt64.toNat (x / y) : Nat) : Int) := by
  subst ha hb
  have h1 : Int.tdiv ((x.toNat : Nat) : Int) ((y.toNat : Nat) : Int) = ((x.toNat / y.toNat : Nat) : Int) := (Int.ofNat_tdiv _ _).symm
  have h2 := (x / y).toNat_lt
  rw [h1, wrap_u64, ← UInt64.toNat_div]
  omega
theorem nat_to_u64 {a : Int} {n : Nat} (ha : a = ((n : Nat) : Int)) : IntKind.wrap .u64 a = ((UInt64.toNat (UInt64.ofNat n) : Nat) : Int) := by
  subst ha; rw [wrap_u64, UInt64.toNat_ofNat']; omega
theorem i64_mask (a : Int) (k m : Nat) {mi : Int} (hmi : mi = (m : Int)) (hk : k < 63) (hm : m = 2 ^ k - 1) : IntKind.wrap .i64 ((BitVec.ofInt (IntKind.bits .i64) a &&& BitVec.ofInt (IntKind.bits .i64) mi).toNat : Int) = a % (2 ^ k : Int) := by
  subst hmi
  subst hm
  have hp : 2 ^ k ≤ 2 ^ 62 := Nat.pow_le_pow_right (by decide) (by omega)
  have hp0 : 0 < 2 ^ k := Nat.two_pow_pos k
  have h1 : (BitVec.ofInt (IntKind.bits .i64) ((2 ^ k - 1 : Nat) : Int)).toNat = 2 ^ k - 1 := by
    show (BitVec.ofInt 64 ((2 ^ k - 1 : Nat) : Int)).toNat = 2 ^ k - 1
    rw [BitVec.toNat_ofInt]
    omega
  have h2 : (BitVec.ofInt (IntKind.bits .i64) a).toNat = (a % 18446744073709551616).toNat := by
    show (BitVec.ofInt 64 a).toNat = _
    rw [BitVec.toNat_ofInt]
    rfl
  rw [BitVec.toNat_and, h1, h2, Nat.and_two_pow_sub_one_eq_mod]
  have h3 : (((a % 18446744073709551616).toNat % 2 ^ k : Nat) : Int) = a % (2 ^ k : Int) := by
    rw [Int.natCast_emod, Int.toNat_of_nonneg (by omega)]
    have hd : ((2 ^ k : Nat) : Int) ∣ 18446744073709551616 := by
      refine ⟨((2 ^ (64 - k) : Nat) : Int), ?_⟩
      rw [← Int.natCast_mul, ← Nat.pow_add, show k + (64 - k) = 64 by omega]
      rfl
    rw [Int.emod_emod_of_dvd a hd]
    simp
  rw [h3]
  have h4 : a % (2 ^ k : Int) < 2 ^ k := Int.emod_lt_of_pos a (by have : ((2 ^ k : Nat) : Int) = (2 ^ k : Int) := by simp
                                                                  omega)
  have h5 : 0 ≤ a % (2 ^ k : Int) := Int.emod_nonneg a (by have : ((2 ^ k : Nat) : Int) = (2 ^ k : Int) := by simp
                                                           omega)
  have h6 : (2 ^ k : Int) ≤ 4611686018427387904 := by
    have : ((2 ^ k : Nat) : Int) = (2 ^ k : Int) := by simp
    omega
  exact wr64 rfl (by omega) (by omega)
theorem i64_mask_nat {n : Nat} (k m : Nat) {mi : Int} (hmi : mi = (m : Int)) (hk : k < 63) (hm : m = 2 ^ k - 1) : IntKind.wrap .i64 ((BitVec.ofInt (IntKind.bits .i64) ((n : Nat) : Int) &&& BitVec.ofInt (IntKind.bits .i64) mi).toNat : Int) = ((n % (m + 1) : Nat) : Int) := by
  rw [i64_mask _ k m hmi hk hm]
  have hp0 : 0 < 2 ^ k := Nat.two_pow_pos k
  rw [show m + 1 = 2 ^ k by omega]
  simp
end Go.Dbr
