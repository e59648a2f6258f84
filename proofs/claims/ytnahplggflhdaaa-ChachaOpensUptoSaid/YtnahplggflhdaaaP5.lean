/- Layer 9: numbers by digits of 16 bits: the plain law of the document's product. -/
import Derived.Test.YtnahplggflhdaaaP4
namespace Go.Proofs.Ytnahplggflhdaaa
open Go.Dbr
set_option maxRecDepth 100000
set_option maxHeartbeats 2000000
set_option linter.unusedVariables false
set_option linter.unusedSimpArgs false

abbrev B16 : Nat := 65536
theorem shrN (x : UInt64) {k : Nat} (hk : k < 64) : (x >>> UInt64.ofNat k).toNat = x.toNat / 2 ^ k := by
  rw [UInt64.toNat_shiftRight, UInt64.toNat_ofNat']
  rw [show (k % 2 ^ 64 % 64) = k by omega, Nat.shiftRight_eq_div_pow]
theorem and16 (x : UInt64) : (x &&& 65535).toNat = x.toNat % 65536 := by
  rw [UInt64.toNat_and]
  show x.toNat &&& 65535 = _
  rw [show (65535 : Nat) = 2 ^ 16 - 1 from rfl, Nat.and_two_pow_sub_one_eq_mod]
theorem and255 (x : UInt64) : (x &&& 255).toNat = x.toNat % 256 := by
  rw [UInt64.toNat_and]
  show x.toNat &&& 255 = _
  rw [show (255 : Nat) = 2 ^ 8 - 1 from rfl, Nat.and_two_pow_sub_one_eq_mod]
theorem dv_take {B : Nat} : ∀ {r : List UInt64} {k : Nat}, k < r.length → dv B (List.take (k + 1) r) = dv B (List.take k r) + (List.getD r k 0).toNat * B ^ k
  | [], k, h => by simp at h
  | x :: r, 0, h => by simp [dv, List.getD]
  | x :: r, k + 1, h => by
    have ih := dv_take (B := B) (r := r) (k := k) (by simpa using h)
    rw [List.take_succ_cons, dv_cons, ih, List.take_succ_cons, dv_cons, List.getD_cons_succ, Nat.pow_succ, Nat.mul_add, Nat.add_assoc]
    congr 2
    ac_rfl
theorem dv_append {B : Nat} (a b : List UInt64) : dv B (a ++ b) = dv B a + B ^ a.length * dv B b := by
  induction a with
  | nil => simp [dv]
  | cons x r ih => rw [List.cons_append, dv_cons, ih, dv_cons, List.length_cons, Nat.pow_succ, Nat.mul_add, Nat.add_assoc]; congr 2; rw [← Nat.mul_assoc, Nat.mul_comm B]
theorem digit_le {B : Nat} : ∀ (l : List UInt64) (j : Nat), (List.getD l j 0).toNat * B ^ j ≤ dv B l
  | [], j => by simp [List.getD, dv]
  | x :: r, 0 => by simp [dv, List.getD]
  | x :: r, j + 1 => by
    have ih := digit_le (B := B) r j
    rw [List.getD_cons_succ, dv_cons, Nat.pow_succ, ← Nat.mul_assoc, Nat.mul_comm _ B]
    have := Nat.mul_le_mul_left B ih
    omega
theorem dv_digit {B : Nat} (hB : 0 < B) : ∀ (l : List UInt64) (j : Nat), (∀ k, (List.getD l k 0).toNat < B) → dv B l / B ^ j % B = (List.getD l j 0).toNat
  | [], j, h => by simp [dv, List.getD]
  | x :: r, 0, h => by
    have := h 0
    simp [dv, List.getD] at this ⊢
    exact Nat.mod_eq_of_lt this
  | x :: r, j + 1, h => by
    have ih := dv_digit hB r j (fun k => by have := h (k + 1); rwa [List.getD_cons_succ] at this)
    have h0 := h 0
    rw [List.getD_cons_succ, ← ih, dv_cons, Nat.pow_succ, Nat.mul_comm _ B, ← Nat.div_div_eq_div_mul, Nat.add_mul_div_left _ _ hB]
    rw [Nat.div_eq_of_lt (show x.toNat < B from h0), Nat.zero_add]
-- carried
def carry1 (v : List UInt64) (i : Nat) : List UInt64 :=
  List.set (List.set v (i + 1) (List.getD v (i + 1) 0 + (List.getD v i 0 >>> UInt64.ofNat 16))) i ((List.getD (List.set v (i + 1) (List.getD v (i + 1) 0 + (List.getD v i 0 >>> UInt64.ofNat 16))) i 0) &&& 65535)
def carryF (l : List UInt64) : Nat → List UInt64
  | 0 => l
  | i + 1 => carry1 (carryF l i) i
theorem carry1_len {v : List UInt64} {m : Nat} (h : v.length = m) (i : Nat) : (carry1 v i).length = m := by simp [carry1, h]
theorem carryF_len {l : List UInt64} {m : Nat} (h : l.length = m) (i : Nat) : (carryF l i).length = m := by
  induction i with
  | zero => exact h
  | succ i ih => exact carry1_len ih i
theorem carry1_val {v : List UInt64} {i : Nat} (hi : i + 1 < v.length) (hb : (List.getD v (i + 1) 0).toNat + (List.getD v i 0).toNat / 65536 < 18446744073709551616) :
    dv B16 (carry1 v i) = dv B16 v ∧ (List.getD (carry1 v i) i 0).toNat < 65536 ∧ (List.getD (carry1 v i) (i + 1) 0).toNat = (List.getD v (i + 1) 0).toNat + (List.getD v i 0).toNat / 65536 ∧ ∀ j, j ≠ i → j ≠ i + 1 → List.getD (carry1 v i) j 0 = List.getD v j 0 := by
  have hy : (List.getD v (i + 1) 0 + (List.getD v i 0 >>> UInt64.ofNat 16)).toNat = (List.getD v (i + 1) 0).toNat + (List.getD v i 0).toNat / 65536 := by
    rw [UInt64.toNat_add, shrN _ (by decide)]
    exact Nat.mod_eq_of_lt hb
  have d1 := dv_set B16 (List.getD v (i + 1) 0 + (List.getD v i 0 >>> UInt64.ofNat 16)) v (i + 1) hi
  have g1 : List.getD (List.set v (i + 1) (List.getD v (i + 1) 0 + (List.getD v i 0 >>> UInt64.ofNat 16))) i 0 = List.getD v i 0 := by rw [getD_set, if_neg (by omega)]
  have d2 := dv_set B16 (List.getD v i 0 &&& 65535) (List.set v (i + 1) (List.getD v (i + 1) 0 + (List.getD v i 0 >>> UInt64.ofNat 16))) i (by rw [List.length_set]; omega)
  unfold carry1
  rw [g1] at d2 ⊢
  rw [hy] at d1
  rw [and16] at d2
  refine ⟨?_, ?_, ?_, fun j h1 h2 => ?_⟩
  · rw [Nat.pow_succ] at d1
    generalize (List.getD v i 0).toNat = x at *
    generalize (List.getD v (i + 1) 0).toNat = y at *
    generalize B16 ^ i = Q at *
    have e1 : (y + x / 65536) * (Q * B16) = y * (Q * B16) + B16 * (x / 65536) * Q := by rw [Nat.add_mul]; congr 1; rw [← Nat.mul_assoc, Nat.mul_comm _ B16, ← Nat.mul_assoc]
    have e2 : x * Q = B16 * (x / 65536) * Q + x % 65536 * Q := by rw [← Nat.add_mul]; congr 1; exact (Nat.div_add_mod x 65536).symm
    omega
  · rw [getD_set, if_pos ⟨rfl, by rw [List.length_set]; omega⟩, and16]
    omega
  · rw [getD_set, if_neg (by omega), getD_set, if_pos ⟨rfl, hi⟩, hy]
  · rw [getD_set, if_neg (by omega), getD_set, if_neg (by omega)]
theorem carryF_val {l : List UInt64} (hl : l.length = 18) (hd : ∀ j, (List.getD l j 0).toNat < 4611686018427387904) : ∀ i, i ≤ 17 →
    dv B16 (carryF l i) = dv B16 l ∧ (∀ j, j < i → (List.getD (carryF l i) j 0).toNat < 65536) ∧ (∀ j, i < j → List.getD (carryF l i) j 0 = List.getD l j 0) ∧ (List.getD (carryF l i) i 0).toNat < 9223372036854775808
  | 0, _ => ⟨rfl, fun j h => absurd h (Nat.not_lt_zero j), fun _ _ => rfl, by have := hd 0; show (List.getD l 0 0).toNat < _; omega⟩
  | i + 1, h => by
    obtain ⟨h1, h2, h3, h4⟩ := carryF_val hl hd i (by omega)
    have h5 := hd (i + 1)
    rw [← h3 (i + 1) (by omega)] at h5
    obtain ⟨c1, c2, c3, c4⟩ := carry1_val (v := carryF l i) (i := i) (by rw [carryF_len hl]; omega) (by omega)
    refine ⟨c1.trans h1, fun j hj => ?_, fun j hj => ?_, ?_⟩
    · by_cases e : j = i
      · subst e; exact c2
      · show (List.getD (carry1 (carryF l i) i) j 0).toNat < _
        rw [c4 j e (by omega)]; exact h2 j (by omega)
    · exact (c4 j (by omega) (by omega)).trans (h3 j (by omega))
    · show (List.getD (carry1 (carryF l i) i) (i + 1) 0).toNat < _
      rw [c3]; omega
/-- a number that is carried: its digits -/
theorem carried_val {l : List UInt64} (hl : l.length = 18) (hd : ∀ j, (List.getD l j 0).toNat < 4611686018427387904) (hv : dv B16 l < 7588550360256754183279148073529370729071901715047420004889892225542594864082845696) :
    dv B16 (carryF l 17) = dv B16 l ∧ ∀ j, (List.getD (carryF l 17) j 0).toNat < 65536 := by
  obtain ⟨h1, h2, _, _⟩ := carryF_val hl hd 17 (by omega)
  refine ⟨h1, fun j => ?_⟩
  by_cases hj : j < 17
  · exact h2 j hj
  · by_cases hj2 : j = 17
    · subst hj2
      have h3 := digit_le (B := B16) (carryF l 17) 17
      rw [h1] at h3
      rw [show B16 ^ 17 = 7588550360256754183279148073529370729071901715047420004889892225542594864082845696 from rfl] at h3
      omega
    · have : List.getD (carryF l 17) j 0 = 0 := by rw [List.getD_eq_getElem?_getD, List.getElem?_eq_none (by rw [carryF_len hl]; omega)]; rfl
      rw [this]; decide
-- products
def mac1 (p a r : List UInt64) (i k : Nat) : List UInt64 := List.set p (i + k) (List.getD p (i + k) 0 + (List.getD a i 0 * List.getD r k 0))
def rowF (p a r : List UInt64) (i : Nat) : Nat → List UInt64
  | 0 => p
  | k + 1 => mac1 (rowF p a r i k) a r i k
def prodF (a r : List UInt64) : Nat → List UInt64
  | 0 => List.replicate 18 0
  | i + 1 => rowF (prodF a r i) a r i 8
theorem rowF_len {p : List UInt64} {m : Nat} (h : p.length = m) (a r : List UInt64) (i k : Nat) : (rowF p a r i k).length = m := by
  induction k with
  | zero => exact h
  | succ k ih => simp [rowF, mac1, ih]
theorem prodF_len (a r : List UInt64) (i : Nat) : (prodF a r i).length = 18 := by
  induction i with
  | zero => rfl
  | succ i ih => exact rowF_len ih a r i 8
theorem row_val {p a r : List UInt64} {i D : Nat} (hp : p.length = 18) (hr : r.length = 8) (hi : i < 9) (ha : (List.getD a i 0).toNat < 2097152) (hrd : ∀ k, (List.getD r k 0).toNat < 65536) (hD : D < 1125899906842624) (hd : ∀ j, (List.getD p j 0).toNat ≤ D) : ∀ k, k ≤ 8 →
    dv B16 (rowF p a r i k) = dv B16 p + (List.getD a i 0).toNat * B16 ^ i * dv B16 (List.take k r) ∧ ∀ j, (List.getD (rowF p a r i k) j 0).toNat ≤ D + k * 137438953472
  | 0, _ => ⟨by show dv B16 p = _; simp [dv], fun j => by have := hd j; show (List.getD p j 0).toNat ≤ _; omega⟩
  | k + 1, h => by
    obtain ⟨h1, h2⟩ := row_val hp hr hi ha hrd hD hd k (by omega)
    have hm : (List.getD a i 0).toNat * (List.getD r k 0).toNat ≤ 137438953472 := Nat.le_trans (Nat.mul_le_mul (Nat.le_of_lt ha) (Nat.le_of_lt (hrd k))) (by decide)
    have hx : (List.getD (rowF p a r i k) (i + k) 0 + (List.getD a i 0 * List.getD r k 0)).toNat = (List.getD (rowF p a r i k) (i + k) 0).toNat + (List.getD a i 0).toNat * (List.getD r k 0).toNat := by
      have := h2 (i + k)
      rw [UInt64.toNat_add, UInt64.toNat_mul, Nat.mod_eq_of_lt (a := (List.getD a i 0).toNat * _) (by omega)]
      exact Nat.mod_eq_of_lt (by omega)
    have hdig : ∀ j, (List.getD (mac1 (rowF p a r i k) a r i k) j 0).toNat ≤ D + (k + 1) * 137438953472 := fun j => by
      unfold mac1
      rw [getD_set]
      have h3 := h2 (i + k)
      have h4 := h2 j
      split
      · rw [hx]; exact Nat.le_trans (Nat.add_le_add h3 hm) (Nat.le_of_eq (by rw [Nat.succ_mul, Nat.add_assoc]))
      · exact Nat.le_trans h4 (Nat.add_le_add_left (Nat.mul_le_mul_right _ (Nat.le_succ k)) D)
    refine ⟨?_, hdig⟩
    · have d := dv_set B16 (List.getD (rowF p a r i k) (i + k) 0 + (List.getD a i 0 * List.getD r k 0)) (rowF p a r i k) (i + k) (by rw [rowF_len hp]; omega)
      rw [hx] at d
      show dv B16 (mac1 (rowF p a r i k) a r i k) = _
      rw [dv_take (by omega), Nat.mul_add, ← Nat.add_assoc, ← h1]
      unfold mac1
      have e : (List.getD a i 0).toNat * B16 ^ i * ((List.getD r k 0).toNat * B16 ^ k) = (List.getD a i 0).toNat * (List.getD r k 0).toNat * B16 ^ (i + k) := by
        rw [Nat.pow_add]; simp only [Nat.mul_assoc, Nat.mul_left_comm (B16 ^ i)]
      rw [e]
      rw [Nat.add_mul] at d
      omega
theorem prod_val {a r : List UInt64} (ha : a.length = 9) (hr : r.length = 8) (had : ∀ k, (List.getD a k 0).toNat < 2097152) (hrd : ∀ k, (List.getD r k 0).toNat < 65536) : ∀ i, i ≤ 9 →
    dv B16 (prodF a r i) = dv B16 (List.take i a) * dv B16 r ∧ ∀ j, (List.getD (prodF a r i) j 0).toNat ≤ i * 1099511627776
  | 0, _ => ⟨by show dv B16 (List.replicate 18 0) = _; rw [dv_replicate]; simp [dv], fun j => by show (List.getD (List.replicate 18 (0 : UInt64)) j 0).toNat ≤ _; rw [getD_replicate]; exact Nat.zero_le _⟩
  | i + 1, h => by
    obtain ⟨h1, h2⟩ := prod_val ha hr had hrd i (by omega)
    obtain ⟨r1, r2⟩ := row_val (p := prodF a r i) (a := a) (r := r) (i := i) (prodF_len a r i) hr (by omega) (had i) hrd (by omega) h2 8 (Nat.le_refl _)
    refine ⟨?_, fun j => ?_⟩
    · show dv B16 (rowF (prodF a r i) a r i 8) = _
      rw [List.take_of_length_le (show r.length ≤ 8 by omega)] at r1
      rw [r1, h1, dv_take (by omega), Nat.add_mul]
    · have := r2 j
      show (List.getD (rowF (prodF a r i) a r i 8) j 0).toNat ≤ _
      omega
-- what stands above
def highF (p : List UInt64) : Nat → List UInt64
  | 0 => List.replicate 18 0
  | k + 1 => List.set (highF p k) k ((List.getD p (8 + k) 0 >>> UInt64.ofNat 2) ||| ((List.getD p (8 + k + 1) 0 <<< UInt64.ofNat 14) &&& 65535))
def high (p : List UInt64) : List UInt64 := List.set (highF p 9) 9 (List.getD p 17 0 >>> UInt64.ofNat 2)
theorem highF_len (p : List UInt64) (k : Nat) : (highF p k).length = 18 := by
  induction k with
  | zero => rfl
  | succ k ih => simp [highF, ih]
theorem high_len (p : List UInt64) : (high p).length = 18 := by simp [high, highF_len]
theorem hi_word {x y : UInt64} (hx : x.toNat < 65536) : ((x >>> UInt64.ofNat 2) ||| ((y <<< UInt64.ofNat 14) &&& 65535)).toNat = x.toNat / 4 + y.toNat % 4 * 16384 := by
  have h1 : ((y <<< UInt64.ofNat 14) &&& 65535).toNat = (y.toNat % 4) <<< 14 := by
    rw [and16, UInt64.toNat_shiftLeft]
    show (y.toNat <<< (14 % 64) % 2 ^ 64) % 65536 = _
    rw [Nat.shiftLeft_eq, Nat.shiftLeft_eq]
    have := lt64 y
    show y.toNat * 16384 % 18446744073709551616 % 65536 = y.toNat % 4 * 16384
    omega
  rw [UInt64.toNat_or, h1, shr2, Nat.or_comm, ← Nat.shiftLeft_add_eq_or_of_lt (show x.toNat / 4 < 2 ^ 14 by omega), Nat.shiftLeft_eq]
  omega
theorem hi_step {p pn Pn Hn : Nat} (h1 : Hn = Pn / 4 ∧ Pn % 4 = pn % 4) : (p / 4 + pn % 4 * 16384) + 65536 * Hn = (p + 65536 * Pn) / 4 ∧ (p + 65536 * Pn) % 4 = p % 4 := by omega
theorem zeros8 : dv B16 [0, 0, 0, 0, 0, 0, 0, 0] = 0 := rfl
theorem high_eq (a0 a1 a2 a3 a4 a5 a6 a7 a8 a9 a10 a11 a12 a13 a14 a15 a16 a17 : UInt64) : high [a0, a1, a2, a3, a4, a5, a6, a7, a8, a9, a10, a11, a12, a13, a14, a15, a16, a17] = [(a8 >>> UInt64.ofNat 2) ||| ((a9 <<< UInt64.ofNat 14) &&& 65535), (a9 >>> UInt64.ofNat 2) ||| ((a10 <<< UInt64.ofNat 14) &&& 65535), (a10 >>> UInt64.ofNat 2) ||| ((a11 <<< UInt64.ofNat 14) &&& 65535), (a11 >>> UInt64.ofNat 2) ||| ((a12 <<< UInt64.ofNat 14) &&& 65535), (a12 >>> UInt64.ofNat 2) ||| ((a13 <<< UInt64.ofNat 14) &&& 65535), (a13 >>> UInt64.ofNat 2) ||| ((a14 <<< UInt64.ofNat 14) &&& 65535), (a14 >>> UInt64.ofNat 2) ||| ((a15 <<< UInt64.ofNat 14) &&& 65535), (a15 >>> UInt64.ofNat 2) ||| ((a16 <<< UInt64.ofNat 14) &&& 65535), (a16 >>> UInt64.ofNat 2) ||| ((a17 <<< UInt64.ofNat 14) &&& 65535), a17 >>> UInt64.ofNat 2, 0, 0, 0, 0, 0, 0, 0, 0] := rfl
theorem high_take {p : List UInt64} (hp : p.length = 18) : dv B16 (List.take 10 (high p)) = dv B16 (high p) := by
  match p, hp with
  | [a0, a1, a2, a3, a4, a5, a6, a7, a8, a9, a10, a11, a12, a13, a14, a15, a16, a17], _ =>
    rw [high_eq]
    simp only [List.take, dv_cons, dv_nil, UInt64.toNat_zero, Nat.mul_zero, Nat.add_zero]
theorem high_val {p : List UInt64} (hp : p.length = 18) (hd : ∀ j, (List.getD p j 0).toNat < 65536) : dv B16 (high p) = dv B16 (List.drop 8 p) / 4 ∧ dv B16 (List.drop 8 p) % 4 = (List.getD p 8 0).toNat % 4 := by
  match p, hp with
  | [a0, a1, a2, a3, a4, a5, a6, a7, a8, a9, a10, a11, a12, a13, a14, a15, a16, a17], _ =>
    have e := high_eq a0 a1 a2 a3 a4 a5 a6 a7 a8 a9 a10 a11 a12 a13 a14 a15 a16 a17
    rw [e]
    have d8 : a8.toNat < 65536 := hd 8
    have d9 : a9.toNat < 65536 := hd 9
    have d10 : a10.toNat < 65536 := hd 10
    have d11 : a11.toNat < 65536 := hd 11
    have d12 : a12.toNat < 65536 := hd 12
    have d13 : a13.toNat < 65536 := hd 13
    have d14 : a14.toNat < 65536 := hd 14
    have d15 : a15.toNat < 65536 := hd 15
    have d16 : a16.toNat < 65536 := hd 16
    have s9 : (a17 >>> UInt64.ofNat 2).toNat + 65536 * 0 = (a17.toNat + 65536 * 0) / 4 ∧ (a17.toNat + 65536 * 0) % 4 = a17.toNat % 4 := by rw [shr2]; omega
    have s8 := hi_step (p := a16.toNat) s9
    have s7 := hi_step (p := a15.toNat) s8
    have s6 := hi_step (p := a14.toNat) s7
    have s5 := hi_step (p := a13.toNat) s6
    have s4 := hi_step (p := a12.toNat) s5
    have s3 := hi_step (p := a11.toNat) s4
    have s2 := hi_step (p := a10.toNat) s3
    have s1 := hi_step (p := a9.toNat) s2
    have s0 := hi_step (p := a8.toNat) s1
    simp only [dv_cons, zeros8, hi_word d8, hi_word d9, hi_word d10, hi_word d11, hi_word d12, hi_word d13, hi_word d14, hi_word d15, hi_word d16]
    show _ = (a8.toNat + 65536 * (a9.toNat + 65536 * (a10.toNat + 65536 * (a11.toNat + 65536 * (a12.toNat + 65536 * (a13.toNat + 65536 * (a14.toNat + 65536 * (a15.toNat + 65536 * (a16.toNat + 65536 * (a17.toNat + 65536 * 0)))))))))) / 4 ∧ (a8.toNat + 65536 * (a9.toNat + 65536 * (a10.toNat + 65536 * (a11.toNat + 65536 * (a12.toNat + 65536 * (a13.toNat + 65536 * (a14.toNat + 65536 * (a15.toNat + 65536 * (a16.toNat + 65536 * (a17.toNat + 65536 * 0)))))))))) % 4 = a8.toNat % 4
    exact s0
theorem high_digit {p : List UInt64} (hp : p.length = 18) (hd : ∀ j, (List.getD p j 0).toNat < 65536) : ∀ j, (List.getD (high p) j 0).toNat < 65536 := by
  have key : ∀ k, k ≤ 9 → ∀ j, (List.getD (highF p k) j 0).toNat < 65536 := fun k => by
    induction k with
    | zero => intro _ j; show (List.getD (List.replicate 18 (0 : UInt64)) j 0).toNat < _; rw [getD_replicate]; decide
    | succ k ih =>
      intro hk j
      show (List.getD (List.set (highF p k) k _) j 0).toNat < _
      rw [getD_set]
      split
      · rw [hi_word (hd _)]; have := hd (8 + k); omega
      · exact ih (by omega) j
  intro j
  unfold high
  rw [getD_set]
  split
  · rw [shr2]; have := hd 17; omega
  · exact key 9 (Nat.le_refl _) j
def clearF (p : List UInt64) : Nat → List UInt64
  | 0 => p
  | k + 1 => List.set (clearF p k) (9 + k) 0
def low (p : List UInt64) : List UInt64 := clearF (List.set p 8 (List.getD p 8 0 &&& 3)) 9
theorem clearF_len {p : List UInt64} {m : Nat} (h : p.length = m) (k : Nat) : (clearF p k).length = m := by
  induction k with
  | zero => exact h
  | succ k ih => simp [clearF, ih]
theorem low_len {p : List UInt64} {m : Nat} (h : p.length = m) : (low p).length = m := clearF_len (by simp [h]) 9
theorem low_val {p : List UInt64} (hp : p.length = 18) (hd : ∀ j, (List.getD p j 0).toNat < 65536) : dv B16 (low p) = dv B16 (List.take 8 p) + 340282366920938463463374607431768211456 * ((List.getD p 8 0).toNat % 4) ∧ dv B16 (List.take 8 p) < 340282366920938463463374607431768211456 ∧ ∀ j, (List.getD (low p) j 0).toNat < 65536 := by
  match p, hp with
  | [a0, a1, a2, a3, a4, a5, a6, a7, a8, a9, a10, a11, a12, a13, a14, a15, a16, a17], _ =>
    have e : low [a0, a1, a2, a3, a4, a5, a6, a7, a8, a9, a10, a11, a12, a13, a14, a15, a16, a17] = [a0, a1, a2, a3, a4, a5, a6, a7, a8 &&& 3, 0, 0, 0, 0, 0, 0, 0, 0, 0] := rfl
    have d0 : a0.toNat < 65536 := hd 0
    have d1 : a1.toNat < 65536 := hd 1
    have d2 : a2.toNat < 65536 := hd 2
    have d3 : a3.toNat < 65536 := hd 3
    have d4 : a4.toNat < 65536 := hd 4
    have d5 : a5.toNat < 65536 := hd 5
    have d6 : a6.toNat < 65536 := hd 6
    have d7 : a7.toNat < 65536 := hd 7
    have z : dv B16 [0, 0, 0, 0, 0, 0, 0, 0, 0] = 0 := rfl
    refine ⟨?_, ?_, fun j => ?_⟩
    · rw [e]
      simp only [dv_cons, z, and3, List.take, dv_nil, List.getD, List.getElem?_cons_succ, List.getElem?_cons_zero, Option.getD_some]
      simp only [B16]
      omega
    · simp only [dv_cons, List.take, dv_nil]
      simp only [B16]
      omega
    · rw [e]
      match j with
      | 0 => exact d0
      | 1 => exact d1
      | 2 => exact d2
      | 3 => exact d3
      | 4 => exact d4
      | 5 => exact d5
      | 6 => exact d6
      | 7 => exact d7
      | 8 => show (a8 &&& 3).toNat < _; rw [and3]; omega
      | j + 9 =>
        have : List.getD [a0, a1, a2, a3, a4, a5, a6, a7, a8 &&& 3, 0, 0, 0, 0, 0, 0, 0, 0, 0] (j + 9) 0 = List.getD (List.replicate 9 (0 : UInt64)) j 0 := rfl
        rw [this, getD_replicate]
        decide
def add5F (p h : List UInt64) : Nat → List UInt64
  | 0 => p
  | k + 1 => List.set (add5F p h k) k (List.getD (add5F p h k) k 0 + (5 * List.getD h k 0))
theorem add5F_len {p : List UInt64} {m : Nat} (hp : p.length = m) (h : List UInt64) (k : Nat) : (add5F p h k).length = m := by
  induction k with
  | zero => exact hp
  | succ k ih => simp [add5F, ih]
theorem add5F_val {p h : List UInt64} (hp : p.length = 18) (hh : h.length = 18) (hd : ∀ j, (List.getD p j 0).toNat < 65536) (hhd : ∀ j, (List.getD h j 0).toNat < 65536) : ∀ k, k ≤ 10 →
    dv B16 (add5F p h k) = dv B16 p + 5 * dv B16 (List.take k h) ∧ (∀ j, k ≤ j → List.getD (add5F p h k) j 0 = List.getD p j 0) ∧ ∀ j, (List.getD (add5F p h k) j 0).toNat < 2097152
  | 0, _ => ⟨by show dv B16 p = _; simp [dv], fun _ _ => rfl, fun j => by have := hd j; show (List.getD p j 0).toNat < _; omega⟩
  | k + 1, hk => by
    obtain ⟨h1, h2, h3⟩ := add5F_val hp hh hd hhd k (by omega)
    have hx : (List.getD (add5F p h k) k 0 + (5 * List.getD h k 0)).toNat = (List.getD p k 0).toNat + 5 * (List.getD h k 0).toNat := by
      have := hd k; have := hhd k
      rw [h2 k (Nat.le_refl _), UInt64.toNat_add, UInt64.toNat_mul]
      show ((List.getD p k 0).toNat + (5 * (List.getD h k 0).toNat) % 18446744073709551616) % 18446744073709551616 = _
      omega
    have d := dv_set B16 (List.getD (add5F p h k) k 0 + (5 * List.getD h k 0)) (add5F p h k) k (by rw [add5F_len hp]; omega)
    rw [hx, h2 k (Nat.le_refl _), Nat.add_mul] at d
    refine ⟨?_, fun j hj => ?_, fun j => ?_⟩
    · show dv B16 (List.set (add5F p h k) k _) = _
      rw [dv_take (by omega), Nat.mul_add, ← Nat.add_assoc, ← h1]
      rw [Nat.mul_assoc] at d
      rw [h2 k (Nat.le_refl _)]
      omega
    · show List.getD (List.set (add5F p h k) k _) j 0 = _
      rw [getD_set, if_neg (by omega)]
      exact h2 j (by omega)
    · show (List.getD (List.set (add5F p h k) k _) j 0).toNat < _
      rw [getD_set]
      split
      · rw [hx]; have := hd k; have := hhd k; omega
      · exact h3 j
/-- what stands above 2^130 is brought down, once -/
def turnF (p : List UInt64) : List UInt64 := carryF (add5F (low p) (high p) 10) 17
theorem turnF_len {p : List UInt64} (h : p.length = 18) : (turnF p).length = 18 := carryF_len (add5F_len (low_len h) _ _) _
theorem turn_val {p : List UInt64} (hp : p.length = 18) (hd : ∀ j, (List.getD p j 0).toNat < 65536) (hv : dv B16 p < 115792089237316195423570985008687907853269984665640564039457584007913129639936) :
    dv B16 (turnF p) = dv B16 p % 1361129467683753853853498429727072845824 + 5 * (dv B16 p / 1361129467683753853853498429727072845824) ∧ ∀ j, (List.getD (turnF p) j 0).toNat < 65536 := by
  obtain ⟨l1, l2, l3⟩ := low_val hp hd
  obtain ⟨g1, g2⟩ := high_val hp hd
  have hds := dv_append (B := B16) (List.take 8 p) (List.drop 8 p)
  rw [List.take_append_drop, List.length_take, hp, show B16 ^ min 8 18 = 340282366920938463463374607431768211456 from rfl] at hds
  obtain ⟨a1, _, a3⟩ := add5F_val (p := low p) (h := high p) (low_len hp) (high_len p) l3 (high_digit hp hd) 10 (Nat.le_refl _)
  have ht := high_take hp
  rw [ht, l1, g1] at a1
  have hval : dv B16 (add5F (low p) (high p) 10) = dv B16 p % 1361129467683753853853498429727072845824 + 5 * (dv B16 p / 1361129467683753853853498429727072845824) := by omega
  obtain ⟨c1, c2⟩ := carried_val (l := add5F (low p) (high p) 10) (add5F_len (low_len hp) _ _) (fun j => by have := a3 j; omega) (by omega)
  exact ⟨c1.trans hval, c2⟩
def outF (p : List UInt64) : Nat → List UInt64
  | 0 => List.replicate 9 0
  | k + 1 => List.set (outF p k) k (List.getD p k 0)
theorem outF_len (p : List UInt64) (k : Nat) : (outF p k).length = 9 := by
  induction k with
  | zero => rfl
  | succ k ih => simp [outF, ih]
theorem outF_eq {p : List UInt64} (hp : p.length = 18) : outF p 9 = List.take 9 p := by
  match p, hp with
  | [a0, a1, a2, a3, a4, a5, a6, a7, a8, a9, a10, a11, a12, a13, a14, a15, a16, a17], _ => rfl
def productF (a r : List UInt64) : List UInt64 := outF (turnF (turnF (carryF (prodF a r 9) 17))) 9
theorem productF_len (a r : List UInt64) : (productF a r).length = 9 := outF_len _ _
theorem product_val {a r : List UInt64} (ha : a.length = 9) (hr : r.length = 8) (had : ∀ k, (List.getD a k 0).toNat < 2097152) (hrd : ∀ k, (List.getD r k 0).toNat < 65536) (hab : dv B16 a < 5444517870735015415413993718908291383296) (hrb : dv B16 r < 21267647932558653966460912964485513216) :
    dv B16 (productF a r) % 1361129467683753853853498429727072845819 = dv B16 a * dv B16 r % 1361129467683753853853498429727072845819 ∧ dv B16 (productF a r) < 1361129467683753853853498429727072845824 + 10 ∧ ∀ j, (List.getD (productF a r) j 0).toNat < 65536 := by
  obtain ⟨p1, p2⟩ := prod_val ha hr had hrd 9 (Nat.le_refl _)
  rw [List.take_of_length_le (by omega)] at p1
  have hlt : dv B16 a * dv B16 r < 115792089237316195423570985008687907853269984665640564039457584007913129639936 := Nat.lt_of_lt_of_le (Nat.mul_lt_mul_of_lt_of_le hab (Nat.le_of_lt hrb) (by decide)) (by decide)
  obtain ⟨c1, c2⟩ := carried_val (l := prodF a r 9) (prodF_len _ _ _) (fun j => by have := p2 j; omega) (by omega)
  have n1 : (carryF (prodF a r 9) 17).length = 18 := carryF_len (prodF_len _ _ _) _
  obtain ⟨t1, t2⟩ := turn_val n1 c2 (by omega)
  obtain ⟨u1, u2⟩ := turn_val (turnF_len n1) t2 (by omega)
  rw [t1, c1, p1] at u1
  have hX : ∀ X : Nat, X < 115792089237316195423570985008687907853269984665640564039457584007913129639936 → (X % 1361129467683753853853498429727072845824 + 5 * (X / 1361129467683753853853498429727072845824)) % 1361129467683753853853498429727072845824 + 5 * ((X % 1361129467683753853853498429727072845824 + 5 * (X / 1361129467683753853853498429727072845824)) / 1361129467683753853853498429727072845824) < 1361129467683753853853498429727072845824 + 10 ∧ ((X % 1361129467683753853853498429727072845824 + 5 * (X / 1361129467683753853853498429727072845824)) % 1361129467683753853853498429727072845824 + 5 * ((X % 1361129467683753853853498429727072845824 + 5 * (X / 1361129467683753853853498429727072845824)) / 1361129467683753853853498429727072845824)) % 1361129467683753853853498429727072845819 = X % 1361129467683753853853498429727072845819 := fun X hX => by omega
  obtain ⟨h1, h2⟩ := hX _ hlt
  rw [← u1] at h1 h2
  have n3 : (turnF (turnF (carryF (prodF a r 9) 17))).length = 18 := turnF_len (turnF_len n1)
  have hds := dv_append (B := B16) (List.take 9 (turnF (turnF (carryF (prodF a r 9) 17)))) (List.drop 9 (turnF (turnF (carryF (prodF a r 9) 17))))
  rw [List.take_append_drop, List.length_take, n3, show B16 ^ min 9 18 = 22300745198530623141535718272648361505980416 from rfl] at hds
  have hz : dv B16 (productF a r) = dv B16 (turnF (turnF (carryF (prodF a r 9) 17))) := by
    unfold productF
    rw [outF_eq n3]
    omega
  rw [hz]
  refine ⟨h2, h1, fun j => ?_⟩
  unfold productF
  rw [outF_eq n3]
  have := u2 j
  by_cases hj : j < 9
  · rw [List.getD_eq_getElem?_getD, List.getElem?_take, if_pos hj, ← List.getD_eq_getElem?_getD]
    exact this
  · rw [List.getD_eq_getElem?_getD, List.getElem?_take, if_neg hj]
    decide

end Go.Proofs.Ytnahplggflhdaaa
