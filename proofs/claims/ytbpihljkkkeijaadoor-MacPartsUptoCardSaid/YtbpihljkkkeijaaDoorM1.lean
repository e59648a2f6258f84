/- Layer 6: codes, keys: plain. -/
import Derived.Test.YtbpihljkkkeijaaDoorS10
namespace Go.Proofs.YtbpihljkkkeijaaDoor
open Go.Dbr
set_option maxRecDepth 100000
set_option maxHeartbeats 2000000
set_option linter.unusedVariables false
set_option linter.unusedSimpArgs false

/-- a key that is longer than a block counts by its sum -/
def keyOf (h : Int) (key : List UInt8) : List UInt8 := if blockOf h < key.length then sumF h key else key
def xk (key : List UInt8) (c : UInt8) (n : Nat) : List UInt8 := (List.range n).map fun i => List.getD key i 0 ^^^ c
theorem xk_len (key : List UInt8) (c : UInt8) (n : Nat) : (xk key c n).length = n := by simp [xk]
theorem xk_succ (key : List UInt8) (c : UInt8) (n : Nat) : xk key c (n + 1) = xk key c n ++ [List.getD key n 0 ^^^ c] := by simp [xk, List.range_succ]
theorem xk_same {key l2 : List UInt8} (c : UInt8) (n : Nat) (h : ∀ i, i < n → List.getD key i 0 = List.getD l2 i 0) : xk key c n = xk l2 c n := by
  unfold xk
  exact List.map_congr_left fun i hi => by rw [h i (List.mem_range.1 hi)]
def inK (h : Int) (key : List UInt8) : List UInt8 := xk (keyOf h key) 54 (blockOf h)
def outK (h : Int) (key : List UInt8) : List UInt8 := xk (keyOf h key) 92 (blockOf h)
/-- the code of bytes under a key -/
def macF (h : Int) (key b : List UInt8) : List UInt8 := sumF h (outK h key ++ sumF h (inK h key ++ b))
theorem macF_len {h : Int} (hh : h = 1 ∨ h = 2 ∨ h = 3) (key b : List UInt8) : (macF h key b).length = sizeOfH h := sumF_len hh _
theorem key_long {h : Int} {key : List UInt8} (hl : blockOf h < key.length) : keyOf h key = sumF h key := if_pos hl
theorem key_short {h : Int} {key : List UInt8} (hl : ¬ blockOf h < key.length) : keyOf h key = key := if_neg hl
theorem block_ge {h : Int} (hh : h = 1 ∨ h = 2 ∨ h = 3) : sizeOfH h ≤ blockOf h ∧ 64 ≤ blockOf h ∧ blockOf h ≤ 128 ∧ 32 ≤ sizeOfH h := by rcases hh with rfl | rfl | rfl <;> decide
theorem set_fill {key : List UInt8} {c : UInt8} {n i : Nat} (h : i < n) : List.set (xk key c i ++ List.replicate (n - i) 0) i (List.getD key i 0 ^^^ c) = xk key c (i + 1) ++ List.replicate (n - (i + 1)) 0 := by
  rw [List.set_append_right _ _ (by rw [xk_len]; exact Nat.le_refl _), xk_len, Nat.sub_self, show n - i = (n - (i + 1)) + 1 by omega, List.replicate_succ, List.set_cons_zero, xk_succ, List.append_assoc]
  rfl
theorem getD_over {l : List UInt8} {i : Nat} (h : ¬ i < l.length) : List.getD l i 0 = 0 := by
  rw [List.getD_eq_getElem?_getD, List.getElem?_eq_none (by omega)]
  rfl
/-- keys that are made of secrets -/
def tF (h : Int) (key info : List UInt8) : Nat → List UInt8
  | 0 => []
  | i + 1 => macF h key (tF h key info i ++ info ++ [UInt8.ofNat (i + 1)])
def outF (h : Int) (key info : List UInt8) : Nat → List UInt8
  | 0 => []
  | i + 1 => outF h key info i ++ tF h key info (i + 1)
theorem tF_len {h : Int} (hh : h = 1 ∨ h = 2 ∨ h = 3) (key info : List UInt8) (i : Nat) : (tF h key info (i + 1)).length = sizeOfH h := macF_len hh _ _
theorem tF_le {h : Int} (hh : h = 1 ∨ h = 2 ∨ h = 3) (key info : List UInt8) (i : Nat) : (tF h key info i).length ≤ 64 := by
  cases i with
  | zero => exact Nat.zero_le _
  | succ i => rw [tF_len hh]; exact size_le h
theorem outF_len {h : Int} (hh : h = 1 ∨ h = 2 ∨ h = 3) (key info : List UInt8) : ∀ i, (outF h key info i).length = sizeOfH h * i
  | 0 => rfl
  | i + 1 => by rw [outF, List.length_append, outF_len hh key info i, tF_len hh, Nat.mul_succ]
theorem outF_pre (h : Int) (key info : List UInt8) (i : Nat) : ∀ j, ∃ r, outF h key info (i + j) = outF h key info i ++ r
  | 0 => ⟨[], by simp⟩
  | j + 1 => by
    obtain ⟨r, hr⟩ := outF_pre h key info i j
    exact ⟨r ++ tF h key info (i + j + 1), by rw [← Nat.add_assoc, outF, hr, List.append_assoc]⟩
theorem outF_take {h : Int} (hh : h = 1 ∨ h = 2 ∨ h = 3) (key info : List UInt8) {i j k : Nat} (h1 : k ≤ sizeOfH h * i) (h2 : k ≤ sizeOfH h * j) : List.take k (outF h key info i) = List.take k (outF h key info j) := by
  rcases Nat.le_total i j with q | q
  · obtain ⟨r, hr⟩ := outF_pre h key info i (j - i)
    rw [show i + (j - i) = j by omega] at hr
    rw [hr, List.take_append_of_le_length (by rw [outF_len hh]; exact h1)]
  · obtain ⟨r, hr⟩ := outF_pre h key info j (i - j)
    rw [show j + (i - j) = i by omega] at hr
    rw [hr, List.take_append_of_le_length (by rw [outF_len hh]; exact h2)]
/-- n bytes of a key -/
def expF (h : Int) (key info : List UInt8) (n : Nat) : List UInt8 := List.take n (outF h key info n)
theorem expF_of {h : Int} (hh : h = 1 ∨ h = 2 ∨ h = 3) (key info : List UInt8) {n i : Nat} (hi : n ≤ sizeOfH h * i) : List.take n (outF h key info i) = expF h key info n := outF_take hh key info hi (by have := (block_ge hh).2.2.2; exact Nat.le_mul_of_pos_left n (by omega))
theorem expF_len {h : Int} (hh : h = 1 ∨ h = 2 ∨ h = 3) (key info : List UInt8) (n : Nat) : (expF h key info n).length = n := by
  unfold expF
  rw [List.length_take, outF_len hh]
  have := (block_ge hh).2.2.2
  exact Nat.min_eq_left (Nat.le_mul_of_pos_left n (by omega))
theorem expF_take {h : Int} (hh : h = 1 ∨ h = 2 ∨ h = 3) (key info : List UInt8) {n k : Nat} (hk : k ≤ n) : List.take k (expF h key info n) = expF h key info k := by
  unfold expF
  rw [List.take_take, Nat.min_eq_left hk]
  exact expF_of hh key info (Nat.le_trans hk (by have := (block_ge hh).2.2.2; exact Nat.le_mul_of_pos_left n (by omega)))
/-- noughts behind a key that is not longer than a block change nothing -/
theorem mac_zeros {h : Int} {key b : List UInt8} {m : Nat} (hl : key.length + m ≤ blockOf h) : macF h (key ++ List.replicate m 0) b = macF h key b := by
  unfold macF outK inK
  have e : ∀ i, List.getD (key ++ List.replicate m 0) i 0 = List.getD key i 0 := fun i => by
    by_cases q : i < key.length
    · simp only [List.getD_eq_getElem?_getD]
      rw [List.getElem?_append_left q]
    · rw [getD_over q, List.getD_eq_getElem?_getD, List.getElem?_append_right (by omega), List.getElem?_replicate]
      split <;> rfl
  rw [key_short (by rw [List.length_append, List.length_replicate]; omega), key_short (by omega), xk_same 92 _ fun i _ => e i, xk_same 54 _ fun i _ => e i]
/-- a longer key counts by its sum -/
theorem mac_long {h : Int} (hh : h = 1 ∨ h = 2 ∨ h = 3) {key b : List UInt8} (hl : blockOf h < key.length) : macF h key b = macF h (sumF h key) b := by
  unfold macF outK inK
  rw [key_long hl, key_short (key := sumF h key) (by rw [sumF_len hh]; have := (block_ge hh).1; omega)]

end Go.Proofs.YtbpihljkkkeijaaDoor
