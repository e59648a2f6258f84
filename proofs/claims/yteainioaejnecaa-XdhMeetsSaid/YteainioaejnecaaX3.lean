/- Layer 11: the plain law. -/
import Derived.Test.YteainioaejnecaaX2
namespace Go.Proofs.Yteainioaejnecaa
open Go.Dbr
set_option maxRecDepth 100000
set_option maxHeartbeats 2000000
set_option linter.unusedVariables false
set_option linter.unusedSimpArgs false

/-! in numbers -/
def P25 : Nat := 57896044618658097711785492504343953926634992332820282019728792003956564819949
theorem mF_1 : mF 1 = P25 := rfl
def aN (x y : Nat) : Nat := (x + y) % P25
def sN (x y : Nat) : Nat := (x % P25 + P25 - y % P25) % P25
def mN (x y : Nat) : Nat := (x * y) % P25
theorem p_lt : P25 < W256 := by decide
theorem p_pos : 0 < P25 := by decide
theorem aL_val (a b : List UInt64) : nv (aL a b) = aN (nv a) (nv b) := nv_nd (Nat.lt_trans (Nat.mod_lt _ p_pos) p_lt)
theorem sL_val (a b : List UInt64) : nv (sL a b) = sN (nv a) (nv b) := nv_nd (Nat.lt_trans (Nat.mod_lt _ p_pos) p_lt)
theorem mL_val (a b : List UInt64) : nv (mL a b) = mN (nv a) (nv b) := nv_nd (Nat.lt_trans (Nat.mod_lt _ p_pos) p_lt)
def nA (a b : Nat) : Nat := mN (mN (aN a b) (aN a b)) (mN (sN a b) (sN a b))
def nB (a b : Nat) : Nat := mN (sN (mN (aN a b) (aN a b)) (mN (sN a b) (sN a b))) (aN (mN (aN a b) (aN a b)) (mN 121665 (sN (mN (aN a b) (aN a b)) (mN (sN a b) (sN a b)))))
def nC (a b c d : Nat) : Nat := mN (aN (mN (sN c d) (aN a b)) (mN (aN c d) (sN a b))) (aN (mN (sN c d) (aN a b)) (mN (aN c d) (sN a b)))
def nD (x a b c d : Nat) : Nat := mN x (mN (sN (mN (sN c d) (aN a b)) (mN (aN c d) (sN a b))) (sN (mN (sN c d) (aN a b)) (mN (aN c d) (sN a b))))
theorem sA_val (a b) : nv (sA a b) = nA (nv a) (nv b) := by simp only [sA, nA, mL_val, aL_val, sL_val]
theorem sB_val (a b) : nv (sB a b) = nB (nv a) (nv b) := by
  simp only [sB, nB, mL_val, aL_val, sL_val]
  rfl
theorem sC_val (a b c d) : nv (sC a b c d) = nC (nv a) (nv b) (nv c) (nv d) := by simp only [sC, nC, mL_val, aL_val, sL_val]
theorem sD_val (x a b c d) : nv (sD x a b c d) = nD (nv x) (nv a) (nv b) (nv c) (nv d) := by simp only [sD, nD, mL_val, aL_val, sL_val]
abbrev N4 := Nat × Nat × Nat × Nat
def nstep (x : Nat) (t : Bool) : N4 → N4
  | (a, b, c, d) => bif t then (nC c d a b, nD x c d a b, nA c d, nB c d) else (nA a b, nB a b, nC a b c d, nD x a b c d)
def ladN (x n : Nat) : Nat → N4
  | 0 => (1, 0, x, 1)
  | j + 1 => nstep x (n / 2 ^ (254 - j) % 2 == 1) (ladN x n j)
def nvL : L4 → N4
  | (a, b, c, d) => (nv a, nv b, nv c, nv d)
theorem step_val (x : List UInt64) (t : Bool) (s : L4) : nvL (lstep x t s) = nstep (nv x) t (nvL s) := by
  obtain ⟨a, b, c, d⟩ := s
  cases t <;> simp only [lstep, nstep, nvL, _root_.cond_true, _root_.cond_false, sA_val, sB_val, sC_val, sD_val]
theorem lad_val (x : List UInt64) (n : Nat) : ∀ j, nvL (ladL x n j) = ladN (nv x) n j
  | 0 => rfl
  | j + 1 => by rw [ladL, ladN, step_val, lad_val x n j]
/-- a power, bit by bit -/
def pwN (x n : Nat) : Nat → Nat → Nat
  | 0, o => o
  | j + 1, o => pwN x n j (if n / 2 ^ j % 2 = 0 then mN o o else mN (mN o o) x)
theorem pow_cong {a b : Nat} (h : a % P25 = b % P25) (k : Nat) : a ^ k % P25 = b ^ k % P25 := by rw [Nat.pow_mod, h, ← Nat.pow_mod]
theorem pwN_val (x n : Nat) : ∀ (j o : Nat), pwN x n j o % P25 = (o ^ 2 ^ j * x ^ (n % 2 ^ j)) % P25
  | 0, o => by rw [pwN, Nat.pow_zero, Nat.pow_one, Nat.mod_one, Nat.pow_zero, Nat.mul_one]
  | j + 1, o => by
    have e2 : o ^ 2 ^ (j + 1) = (o * o) ^ 2 ^ j := by rw [Nat.pow_succ, Nat.mul_comm (2 ^ j), Nat.pow_mul, Nat.pow_two]
    have e3 : x ^ (n % 2 ^ (j + 1)) = x ^ (n % 2 ^ j) * x ^ (2 ^ j * (n / 2 ^ j % 2)) := by rw [Nat.mod_pow_succ, Nat.pow_add]
    rw [pwN, pwN_val x n j, e3, e2]
    by_cases h : n / 2 ^ j % 2 = 0
    · rw [if_pos h, h, Nat.mul_zero, Nat.pow_zero, Nat.mul_one, Nat.mul_mod, pow_cong (show mN o o % P25 = (o * o) % P25 from Nat.mod_mod _ _), ← Nat.mul_mod]
    · have h1 : n / 2 ^ j % 2 = 1 := by omega
      rw [if_neg h, h1, Nat.mul_one, Nat.mul_mod, pow_cong (show mN (mN o o) x % P25 = (o * o * x) % P25 by rw [mN, mN, Nat.mod_mod, Nat.mod_mul_mod]), ← Nat.mul_mod, Nat.mul_pow]
      congr 1
      ac_rfl
theorem pw1 (x : Nat) {n j : Nat} (h : n < 2 ^ j) : pwN x n j 1 % P25 = x ^ n % P25 := by rw [pwN_val, Nat.one_pow, Nat.one_mul, Nat.mod_eq_of_lt h]
theorem pw2 {f : Int} (hf : mF f = P25) (x : Nat) {n : Nat} (h : n < 2 ^ 255) : powM f x n = pwN x n 255 1 % P25 := by rw [powM, hf, pw1 x h]
theorem inv_val (x : Nat) : powM 1 x (mF 1 - 2) = pwN x (mF 1 - 2) 255 1 % P25 := pw2 mF_1 x (by decide)
def endN : N4 → List UInt8
  | (a, b, _, _) => lb 32 (mN a (pwN b (mF 1 - 2) 255 1 % P25))
theorem multL_num (x : List UInt64) (n : Nat) : multL x n = endN (ladN (nv x) n 255) := by
  rw [multL, ← lad_val]
  obtain ⟨a, b, c, d⟩ := ladL x n 255
  show lb 32 (nv (mL a (iL b))) = lb 32 (mN (nv a) _)
  rw [mL_val, iL, nv_pow (.inl rfl), inv_val]
theorem head_eq : multL (xP ([230, 219, 104, 103, 88, 48, 48, 219, 53, 148, 193, 164, 36, 177, 95, 124, 114, 102, 36, 236, 38, 179, 53, 59, 16, 169, 3, 166, 208, 171, 28, 76] : List UInt8)) (lv (clP ([165, 70, 227, 107, 240, 82, 124, 157, 59, 22, 21, 75, 130, 70, 94, 221, 98, 20, 76, 10, 193, 252, 90, 24, 80, 106, 34, 68, 186, 68, 154, 196] : List UInt8))) = ([195, 218, 85, 55, 157, 233, 198, 144, 142, 148, 234, 77, 242, 141, 8, 79, 50, 236, 207, 3, 73, 28, 113, 247, 84, 180, 7, 85, 119, 162, 133, 82] : List UInt8) := by
  rw [multL_num]
  decide +kernel
/-! the bits that are not named -/
theorem u8_free (x y m n : UInt8) (h : m &&& n = 0) : (x ^^^ (y &&& m)) &&& n = x &&& n := by
  apply UInt8.toBitVec_inj.1
  have h2 := congrArg UInt8.toBitVec h
  simp only [UInt8.toBitVec_and, UInt8.toBitVec_xor] at *
  ext i hi
  have h3 := congrArg (fun v : BitVec 8 => v[i]) h2
  simp only [BitVec.getElem_and, BitVec.getElem_xor] at *
  generalize m.toBitVec[i] = a at *
  generalize n.toBitVec[i] = b at *
  generalize x.toBitVec[i] = c at *
  generalize y.toBitVec[i] = d at *
  have h4 : (a && b) = false := by simpa using h3
  revert h4
  cases a <;> cases b <;> cases c <;> cases d <;> decide
theorem u8_swap (x m m' n : UInt8) (h : m ||| n = m' ||| n) : x &&& m ||| n = x &&& m' ||| n := by
  apply UInt8.toBitVec_inj.1
  have h2 := congrArg UInt8.toBitVec h
  simp only [UInt8.toBitVec_and, UInt8.toBitVec_or] at *
  ext i hi
  have h3 := congrArg (fun v : BitVec 8 => v[i]) h2
  simp only [BitVec.getElem_and, BitVec.getElem_or] at *
  generalize m.toBitVec[i] = a at *
  generalize n.toBitVec[i] = b at *
  generalize x.toBitVec[i] = c at *
  generalize m'.toBitVec[i] = d at *
  revert h3
  cases a <;> cases b <;> cases c <;> cases d <;> decide
theorem clD_eq (k : List UInt8) : clD k = clP k := by rw [clD, clP, u8_swap _ 127 63 64 (by decide)]
theorem xD_eq {u : List UInt8} (hu : u.length = 32) : xD u = xP u := by
  rw [xD, xP, mL, mulM, nv_lv (clU_len hu), show nv [1, 0, 0, 0] = 1 from rfl, Nat.mul_one]
theorem getD_set_self {l : List UInt8} {i : Nat} (h : i < l.length) (x : UInt8) : List.getD (List.set l i x) i 0 = x := by rw [List.getD_eq_getElem?_getD, List.getElem?_set_self h]; rfl
theorem getD8_ne (l : List UInt8) {i j : Nat} (x : UInt8) (h : i ≠ j) : List.getD (List.set l i x) j 0 = List.getD l j 0 := by rw [List.getD_eq_getElem?_getD, List.getElem?_set_ne h, ← List.getD_eq_getElem?_getD]
theorem clU_free {u : List UInt8} (hu : u.length = 32) (y : UInt8) : clU (List.set u 31 (List.getD u 31 0 ^^^ (y &&& 128))) = clU u := by
  rw [clU, clU, List.set_set, getD_set_self (by omega), u8_free _ _ _ _ (by decide)]
theorem clP_free {k : List UInt8} (hk : k.length = 32) (y z : UInt8) : clP (List.set (List.set k 0 (List.getD k 0 0 ^^^ (y &&& 7))) 31 (List.getD (List.set k 0 (List.getD k 0 0 ^^^ (y &&& 7))) 31 0 ^^^ (z &&& 192))) = clP k := by
  rw [getD8_ne k _ (by decide)]
  generalize hb : List.getD k 31 0 ^^^ (z &&& 192) = b
  rw [clP, clP, getD8_ne _ b (by decide), getD_set_self (by omega), u8_free _ _ _ _ (by decide), getD8_ne _ _ (by decide), getD_set_self (by simp; omega), getD8_ne k _ (by decide), ← hb, u8_free _ _ _ _ (by decide)]
  rw [List.set_comm _ _ (by decide), List.set_set, List.set_comm _ _ (by decide), List.set_set]
/-! points of low order -/
theorem mN_lt (x y : Nat) : mN x y < P25 := Nat.mod_lt _ p_pos
theorem sN_self (x : Nat) : sN x x = 0 := by
  have h := Nat.mod_lt x p_pos
  rw [sN, show x % P25 + P25 - x % P25 = P25 by omega, Nat.mod_self]
theorem mN_0 (x : Nat) : mN x 0 = 0 := by rw [mN, Nat.mul_zero, Nat.zero_mod]
theorem mN_0' (x : Nat) : mN 0 x = 0 := by rw [mN, Nat.zero_mul, Nat.zero_mod]
theorem aN_0 (x : Nat) : aN x 0 = x % P25 := rfl
theorem aN_0' (x : Nat) : aN 0 x = x % P25 := by rw [aN, Nat.zero_add]
theorem sN_0 (x : Nat) : sN x 0 = x % P25 := by rw [sN, Nat.zero_mod, Nat.sub_zero, Nat.add_mod_right, Nat.mod_mod]
theorem neg_sq (x : Nat) : mN (sN 0 x) (sN 0 x) = mN (x % P25) (x % P25) := by
  have h := Nat.mod_lt x p_pos
  by_cases h0 : x % P25 = 0
  · rw [sN, h0, Nat.zero_mod, Nat.zero_add, Nat.sub_zero, Nat.mod_self]
  · rw [sN, Nat.zero_mod, Nat.zero_add, Nat.mod_eq_of_lt (show P25 - x % P25 < P25 by omega)]
    generalize x % P25 = y at *
    obtain ⟨z, hz⟩ := Nat.exists_eq_add_of_le (Nat.le_of_lt h)
    rw [show P25 - y = z by omega, mN, mN]
    have e1 : (z * z + z * y) % P25 = 0 := by rw [← Nat.mul_add, show z + y = P25 by omega, Nat.mul_mod_left]
    have e2 : (y * y + z * y) % P25 = 0 := by rw [← Nat.add_mul, ← hz, Nat.mul_mod_right]
    have e3 : (z * z + z * y) % P25 = (y * y + z * y) % P25 := by rw [e1, e2]
    clear e1 e2 hz h0 h
    generalize z * z = A at *
    generalize y * y = B at *
    generalize z * y = C at *
    simp only [P25] at *
    omega

end Go.Proofs.Yteainioaejnecaa
