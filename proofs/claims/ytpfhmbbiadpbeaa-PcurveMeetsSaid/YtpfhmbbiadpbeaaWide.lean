/- Numbers of several digits; sums and products of 64 bits with what is carried. -/
import Derived.Test.YtpfhmbbiadpbeaaCopy
import Derived.Laws.Externs
namespace Go.Dbr
open Go Go.RowKit

/-- the number of so many digits, the lowest first -/
def dv (B : Nat) : List UInt64 → Nat
  | [] => 0
  | x :: r => x.toNat + B * dv B r
theorem dv_cons (B : Nat) (x : UInt64) (r : List UInt64) : dv B (x :: r) = x.toNat + B * dv B r := rfl
theorem dv_replicate (B n : Nat) : dv B (List.replicate n 0) = 0 := by
  induction n with
  | zero => rfl
  | succ n ih => rw [List.replicate_succ, dv_cons, ih]; rfl
theorem dv_set (B : Nat) (x : UInt64) : ∀ (l : List UInt64) (j : Nat), j < l.length → dv B (l.set j x) + (l.getD j 0).toNat * B ^ j = dv B l + x.toNat * B ^ j
  | [], j, h => by simp at h
  | y :: r, 0, h => by simp [dv_cons, List.getD]; omega
  | y :: r, j + 1, h => by
    have ih := dv_set B x r j (by simpa using h)
    rw [List.set_cons_succ, dv_cons, dv_cons, List.getD_cons_succ, Nat.pow_succ]
    have e1 : (r.getD j 0).toNat * (B ^ j * B) = B * ((r.getD j 0).toNat * B ^ j) := by rw [← Nat.mul_assoc, Nat.mul_comm]
    have e2 : x.toNat * (B ^ j * B) = B * (x.toNat * B ^ j) := by rw [← Nat.mul_assoc, Nat.mul_comm]
    rw [e1, e2, Nat.add_assoc, ← Nat.mul_add, ih, Nat.mul_add, Nat.add_assoc]

def addLo (x y c : UInt64) : UInt64 := x + y + c
def addHi (x y c : UInt64) : UInt64 := UInt64.ofNat ((x.toNat + y.toNat + c.toNat) / 18446744073709551616)
theorem lt64 (x : UInt64) : x.toNat < 18446744073709551616 := x.toNat_lt
theorem ofNat_toNat {n : Nat} (h : n < 18446744073709551616) : (UInt64.ofNat n).toNat = n := by
  show (BitVec.ofNat 64 n).toNat = n
  rw [BitVec.toNat_ofNat]
  exact Nat.mod_eq_of_lt h
theorem addHi_val {x y c : UInt64} : (addHi x y c).toNat = (x.toNat + y.toNat + c.toNat) / 18446744073709551616 := by
  have := lt64 x; have := lt64 y; have := lt64 c
  exact ofNat_toNat (by omega)
theorem addLo_val {x y c : UInt64} : (addLo x y c).toNat = (x.toNat + y.toNat + c.toNat) % 18446744073709551616 := by
  unfold addLo
  rw [UInt64.toNat_add, UInt64.toNat_add]
  omega
theorem addHi_le {x y c : UInt64} (h : c.toNat ≤ 1) : (addHi x y c).toNat ≤ 1 := by
  have := lt64 x; have := lt64 y
  rw [addHi_val]
  omega
theorem add_val {x y c : UInt64} : (addLo x y c).toNat + 18446744073709551616 * (addHi x y c).toNat = x.toNat + y.toNat + c.toNat := by
  rw [addHi_val, addLo_val]
  omega
theorem run_add64u {P : Program} (x y c : UInt64) (h : c.toNat ≤ 1) (w : World) : (add64Entry #[uv64 x, uv64 y, uv64 c]).run P w = .ok (.tuple #[uv64 (addLo x y c), uv64 (addHi x y c)]) w := by
  rw [show (#[uv64 x, uv64 y, uv64 c] : Array Value) = #[.int .u64 ((x.toNat : Nat) : Int), .int .u64 ((y.toNat : Nat) : Int), .int .u64 ((c.toNat : Nat) : Int)] from rfl, run_add64 _ _ _ (by omega) (by omega) (by omega) (by omega)]
  simp only [uv64]
  rw [addHi_val, addLo_val]
  congr 4

theorem ext_add64 {P : Program} {f : FuncId} {fn : Func} (hf : P.funcs[f]? = some fn) (hname : (fn.name == "runtime.NumGoroutine") = false) (hb : fn.body.isNone = true) (hn : Extern.findNext fn = none) (he : Extern.find fn = some add64Entry)
    (x y c : UInt64) (h : c.toNat ≤ 1) (w : World) : (callFunc f #[uv64 x, uv64 y, uv64 c]).run P w = .ok (.value (.tuple #[uv64 (addLo x y c), uv64 (addHi x y c)])) w := by
  rw [run_callFunc_extern hf hname hb hn he, run_add64u x y c h]
  rfl
section
variable {P : Program} {ops : Array Oper} {Q : Exit → Act → World → Prop} {n i : Nat} {l : List (Nat × Value)} {a : Act} {w : World} {d : Option Tmp} {K : Act → World → Prop}
/-- a call that the model answers itself -/
theorem op_ext (E : Env a n l) {f : FuncId} {args : Array Value} {v : Value} (h : opRuns P ops n i l = some (d, fun w => (callFunc f args).run P w)) (hr : ∀ w, (callFunc f args).run P w = .ok (.value v) w)
    (next : ∀ a', Env a' n (putl d v l) → K a' w) : wpOp P ops Q i K a w := by
  obtain ⟨s, hs, h2⟩ := opRuns_spec h
  exact any_run E hs ((h2 w).trans (hr w)) next
end

/-- the upper half of a product -/
def mulHi (x y : UInt64) : UInt64 := UInt64.ofNat (x.toNat * y.toNat / 18446744073709551616)
theorem mul_lt (x y : UInt64) : x.toNat * y.toNat ≤ 18446744073709551615 * 18446744073709551615 :=
  Nat.mul_le_mul (by have := lt64 x; omega) (by have := lt64 y; omega)
theorem mulHi_val {x y : UInt64} : (mulHi x y).toNat = x.toNat * y.toNat / 18446744073709551616 := by
  have := mul_lt x y
  exact ofNat_toNat (by omega)
theorem mul_val {x y : UInt64} : (x * y).toNat + 18446744073709551616 * (mulHi x y).toNat = x.toNat * y.toNat := by
  rw [mulHi_val, UInt64.toNat_mul]
  exact Nat.mod_add_div _ _
theorem and_low {x : UInt64} : (x &&& 4294967295).toNat = x.toNat % 4294967296 := by
  rw [UInt64.toNat_and]
  show x.toNat &&& 4294967295 = _
  rw [show (4294967295 : Nat) = 2 ^ 32 - 1 from rfl, Nat.and_two_pow_sub_one_eq_mod]
theorem shr_high {x : UInt64} : (x >>> UInt64.ofNat 32).toNat = x.toNat / 4294967296 := by
  rw [UInt64.toNat_shiftRight]
  show x.toNat >>> (32 % 64) = _
  rw [Nat.shiftRight_eq_div_pow]
theorem mul_high (x y : UInt64) :
    (x >>> UInt64.ofNat 32) * (y >>> UInt64.ofNat 32) + (((x >>> UInt64.ofNat 32) * (y &&& 4294967295) + ((x &&& 4294967295) * (y &&& 4294967295)) >>> UInt64.ofNat 32) >>> UInt64.ofNat 32) + ((((x >>> UInt64.ofNat 32) * (y &&& 4294967295) + ((x &&& 4294967295) * (y &&& 4294967295)) >>> UInt64.ofNat 32) &&& 4294967295) + (x &&& 4294967295) * (y >>> UInt64.ofNat 32)) >>> UInt64.ofNat 32 = mulHi x y := by
  apply UInt64.toNat_inj.1
  have hx := lt64 x
  have hy := lt64 y
  rw [mulHi_val]
  simp only [UInt64.toNat_add, UInt64.toNat_mul, and_low, shr_high]
  generalize hx0 : x.toNat % 4294967296 = x0
  generalize hx1 : x.toNat / 4294967296 = x1
  generalize hy0 : y.toNat % 4294967296 = y0
  generalize hy1 : y.toNat / 4294967296 = y1
  have ex : x.toNat = x0 + 4294967296 * x1 := by omega
  have ey : y.toNat = y0 + 4294967296 * y1 := by omega
  have b1 : x0 * y0 ≤ 4294967295 * 4294967295 := Nat.mul_le_mul (by omega) (by omega)
  have b2 : x1 * y0 ≤ 4294967295 * 4294967295 := Nat.mul_le_mul (by omega) (by omega)
  have b3 : x0 * y1 ≤ 4294967295 * 4294967295 := Nat.mul_le_mul (by omega) (by omega)
  have b4 : x1 * y1 ≤ 4294967295 * 4294967295 := Nat.mul_le_mul (by omega) (by omega)
  have e : x.toNat * y.toNat = x0 * y0 + 4294967296 * (x1 * y0) + 4294967296 * (x0 * y1) + 18446744073709551616 * (x1 * y1) := by
    rw [ex, ey, Nat.add_mul, Nat.mul_add, Nat.mul_add]
    have q1 : x0 * (4294967296 * y1) = 4294967296 * (x0 * y1) := Nat.mul_left_comm _ _ _
    have q2 : 4294967296 * x1 * y0 = 4294967296 * (x1 * y0) := Nat.mul_assoc _ _ _
    have q3 : 4294967296 * x1 * (4294967296 * y1) = 18446744073709551616 * (x1 * y1) := by rw [Nat.mul_assoc, Nat.mul_left_comm x1, ← Nat.mul_assoc]
    rw [q1, q2, q3]
    omega
  rw [e]
  generalize x0 * y0 = a at *
  generalize x1 * y0 = b at *
  generalize x0 * y1 = c at *
  generalize x1 * y1 = d at *
  omega
/-! ## differences -/
def sub64Entry : Array Value → Sem Value := fun args => do
  let (x, y, b) ← Extern.MathBitsCarry.three "Sub64" args
  pure (Extern.MathBitsCarry.pair ((x + Extern.MathBitsCarry.m64 - y - b) % Extern.MathBitsCarry.m64) (if x < y + b then 1 else 0))
def subLo (x y c : UInt64) : UInt64 := x - y - c
def subHi (x y c : UInt64) : UInt64 := if x.toNat < y.toNat + c.toNat then 1 else 0
theorem subHi_le {x y c : UInt64} : (subHi x y c).toNat ≤ 1 := by unfold subHi; split <;> decide
theorem subHi_val {x y c : UInt64} : (subHi x y c).toNat = if x.toNat < y.toNat + c.toNat then 1 else 0 := by unfold subHi; split <;> rfl
theorem subLo_val {x y c : UInt64} (h : c.toNat ≤ 1) : (subLo x y c).toNat = (x.toNat + 18446744073709551616 - y.toNat - c.toNat) % 18446744073709551616 := by
  have := lt64 x; have := lt64 y
  unfold subLo
  rw [UInt64.toNat_sub, UInt64.toNat_sub]
  omega
theorem sub_val {x y c : UInt64} (h : c.toNat ≤ 1) : (subLo x y c).toNat + y.toNat + c.toNat = x.toNat + 18446744073709551616 * (subHi x y c).toNat := by
  have := lt64 x; have := lt64 y
  rw [subLo_val h, subHi_val]
  split <;> omega
theorem run_sub64 {P : Program} (x y c : Nat) (hc : c ≤ 1) (w : World) : (sub64Entry #[.int .u64 (x : Int), .int .u64 (y : Int), .int .u64 (c : Int)]).run P w = .ok (.tuple #[.int .u64 (((x + 18446744073709551616 - y - c) % 18446744073709551616 : Nat) : Int), .int .u64 ((if x < y + c then 1 else 0 : Nat) : Int)]) w := by
  have : c = 0 ∨ c = 1 := by omega
  rcases this with rfl | rfl <;> rfl
theorem run_sub64u {P : Program} (x y c : UInt64) (h : c.toNat ≤ 1) (w : World) : (sub64Entry #[uv64 x, uv64 y, uv64 c]).run P w = .ok (.tuple #[uv64 (subLo x y c), uv64 (subHi x y c)]) w := by
  rw [show (#[uv64 x, uv64 y, uv64 c] : Array Value) = #[.int .u64 ((x.toNat : Nat) : Int), .int .u64 ((y.toNat : Nat) : Int), .int .u64 ((c.toNat : Nat) : Int)] from rfl, run_sub64 _ _ _ h]
  simp only [uv64]
  rw [subHi_val, subLo_val h]
theorem ext_sub64 {P : Program} {f : FuncId} {fn : Func} (hf : P.funcs[f]? = some fn) (hname : (fn.name == "runtime.NumGoroutine") = false) (hb : fn.body.isNone = true) (hn : Extern.findNext fn = none) (he : Extern.find fn = some sub64Entry)
    (x y c : UInt64) (h : c.toNat ≤ 1) (w : World) : (callFunc f #[uv64 x, uv64 y, uv64 c]).run P w = .ok (.value (.tuple #[uv64 (subLo x y c), uv64 (subHi x y c)])) w := by
  rw [run_callFunc_extern hf hname hb hn he, run_sub64u x y c h]
  rfl
end Go.Dbr
