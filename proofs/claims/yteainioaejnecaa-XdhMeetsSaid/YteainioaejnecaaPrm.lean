/- Primes: Lucas' certificates, Fermat's law. -/
import Derived.Test.YteainioaejnecaaLib
namespace Go.Dbr
/-- a prime -/
def Pr (p : Nat) : Prop := 1 < p ∧ ∀ d, d ∣ p → d = 1 ∨ d = p
theorem Pr.mul {p a b : Nat} (hp : Pr p) (h : p ∣ a * b) : p ∣ a ∨ p ∣ b := by
  rcases hp.2 _ (Nat.gcd_dvd_left p a) with g | g
  · exact .inr (Nat.Coprime.dvd_of_dvd_mul_left g h)
  · exact .inl (by have := Nat.gcd_dvd_right p a; rwa [g] at this)
def smallB (p : Nat) : Bool := Nat.blt 1 p && (List.range p).all fun d => Nat.blt d 2 || !Nat.beq (p % d) 0
theorem pr_small {p : Nat} (h : smallB p = true) : Pr p := by
  unfold smallB at h
  simp only [Bool.and_eq_true, Nat.blt_eq, List.all_eq_true, List.mem_range, Bool.or_eq_true, Bool.not_eq_true'] at h
  refine ⟨h.1, fun d hd => ?_⟩
  rcases Nat.lt_or_ge d p with g | g
  · rcases h.2 d g with x | x
    · rcases Nat.eq_zero_or_pos d with z | z
      · subst z
        have := Nat.eq_zero_of_zero_dvd hd
        omega
      · omega
    · rw [Nat.mod_eq_zero_of_dvd hd] at x
      cases x
  · have := Nat.le_of_dvd (by omega) hd
    omega
/-- a power that is reduced on the way -/
def pw (p : Nat) : Nat → Nat → Nat → Nat
  | 0, _, _ => 1 % p
  | k + 1, g, e => cond (Nat.beq (e % 2) 1) (g * pw p k (g * g % p) (e / 2) % p) (pw p k (g * g % p) (e / 2))
theorem pw_eq {p : Nat} : ∀ (k g e : Nat), e < 2 ^ k → pw p k g e = g ^ e % p
  | 0, g, e, h => by
    have : e = 0 := by simp at h; exact h
    subst this
    rfl
  | k + 1, g, e, h => by
    have ih := pw_eq (p := p) k (g * g % p) (e / 2) (by rw [Nat.pow_succ] at h; omega)
    have hs : (g * g % p) ^ (e / 2) % p = g ^ (2 * (e / 2)) % p := by rw [← Nat.pow_mod, ← Nat.pow_two, ← Nat.pow_mul]
    unfold pw
    cases hb : Nat.beq (e % 2) 1 with
    | true =>
      have h1 : e % 2 = 1 := Nat.eq_of_beq_eq_true hb
      rw [Bool.cond_true, ih, hs, Nat.mul_mod_mod, Nat.mul_comm, ← Nat.pow_succ]
      congr 2
      omega
    | false =>
      have h1 : e % 2 ≠ 1 := Nat.ne_of_beq_eq_false hb
      rw [Bool.cond_false, ih, hs]
      congr 2
      omega
theorem pig : ∀ (N : Nat) (f : Nat → Nat), (∀ i, i < N → f i < N) → (∀ i j, i < N → j < N → f i = f j → i = j) → ∀ a, a < N → ∃ i, i < N ∧ f i = a
  | 0, _, _, _, a, h => absurd h (Nat.not_lt_zero a)
  | N + 1, f, hf, hi, a, ha => Classical.byContradiction fun hno => by
    have no : ∀ i, i < N + 1 → f i ≠ a := fun i h e => hno ⟨i, h, e⟩
    obtain ⟨i, hiN, e⟩ := pig N (fun i => if f i = N then a else f i) (fun i h => by
      have h1 := hf i (by omega)
      have h2 := no i (by omega)
      show (if f i = N then a else f i) < N
      split <;> omega) (fun i j h1 h2 e => by
      have n1 := no i (by omega)
      have n2 := no j (by omega)
      refine hi i j (by omega) (by omega) ?_
      split at e <;> split at e <;> omega) (if f N = N then a else f N) (by
      have h1 := hf N (by omega)
      have h2 := no N (by omega)
      split <;> omega)
    have n1 := no i (by omega)
    have n2 := no N (by omega)
    have : i = N := by
      refine hi i N (by omega) (by omega) ?_
      split at e <;> split at e <;> omega
    omega
theorem least {P : Nat → Prop} : ∀ n, P n → ∃ k, P k ∧ ∀ j, j < k → ¬ P j := fun n => by
  induction n using Nat.strongRecOn with
  | _ n ih =>
    intro h
    by_cases e : ∃ j, j < n ∧ P j
    · obtain ⟨j, hj, hp⟩ := e
      exact ih j hj hp
    · exact ⟨n, h, fun j hj hp => e ⟨j, hj, hp⟩⟩
def prodL : List Nat → Nat
  | [] => 1
  | q :: r => q * prodL r
theorem some_q : ∀ (qs : List Nat) (k m : Nat), (∀ q ∈ qs, Pr q) → k * m = prodL qs → m ≠ 1 → ∃ q ∈ qs, q ∣ m
  | [], k, m, _, h, h1 => absurd (Nat.eq_one_of_mul_eq_one_left h) h1
  | q :: r, k, m, hq, h, h1 => by
    have hp := hq q (List.mem_cons_self ..)
    rcases hp.mul (a := m) (b := k) (by rw [Nat.mul_comm, h]; exact Nat.dvd_mul_right _ _) with d | ⟨k', rfl⟩
    · exact ⟨q, List.mem_cons_self .., d⟩
    · have h0 : 0 < q := by have := hp.1; omega
      obtain ⟨q', hm, hd⟩ := some_q r k' m (fun x hx => hq x (List.mem_cons_of_mem _ hx)) (by rw [Nat.mul_assoc] at h; exact Nat.eq_of_mul_eq_mul_left h0 h) h1
      exact ⟨q', List.mem_cons_of_mem _ hm, hd⟩
/-- a prime, and Fermat's law of it -/
def Luc (p : Nat) : Prop := Pr p ∧ ∀ a, a % p ≠ 0 → a ^ (p - 1) % p = 1
def certB (p g : Nat) (qs : List Nat) : Bool := Nat.blt 1 p && Nat.blt p (2 ^ 256) && Nat.beq (prodL qs) (p - 1) && Nat.beq (pw p 256 g (p - 1)) 1 && qs.all fun q => !Nat.beq (pw p 256 g ((p - 1) / q)) 1
theorem allN {P : Nat → Prop} : ∀ q ∈ ([] : List Nat), P q := fun q h => by cases h
theorem allC {P : Nat → Prop} {a : Nat} {l : List Nat} (h : P a) (h2 : ∀ q ∈ l, P q) : ∀ q ∈ a :: l, P q := fun q hq => by
  rcases List.mem_cons.1 hq with rfl | e
  · exact h
  · exact h2 q e
theorem luc {p : Nat} (g : Nat) (qs : List Nat) (hq : ∀ q ∈ qs, Pr q) (h : certB p g qs = true) : Luc p := by
  unfold certB at h
  simp only [Bool.and_eq_true, Nat.blt_eq, Nat.beq_eq, List.all_eq_true, Bool.not_eq_true'] at h
  obtain ⟨⟨⟨⟨p1, pb⟩, hprod⟩, hN⟩, hall⟩ := h
  rw [pw_eq 256 g (p - 1) (by omega)] at hN
  obtain ⟨N, rfl⟩ : ∃ N, p = N + 1 := ⟨p - 1, by omega⟩
  rw [Nat.add_sub_cancel] at *
  have one : 1 % (N + 1) = 1 := Nat.mod_eq_of_lt p1
  obtain ⟨k, ⟨hk0, hk⟩, hmin⟩ := least (P := fun k => 0 < k ∧ g ^ k % (N + 1) = 1) N ⟨by omega, hN⟩
  have powk : ∀ j, (g ^ (k * j)) % (N + 1) = 1 := fun j => by rw [Nat.pow_mul, Nat.pow_mod, hk, Nat.one_pow, one]
  have hdiv : N % k = 0 := Classical.byContradiction fun hne => by
    refine hmin (N % k) (Nat.mod_lt _ hk0) ⟨by omega, ?_⟩
    have e := Nat.div_add_mod N k
    have e2 : g ^ N % (N + 1) = g ^ (k * (N / k) + N % k) % (N + 1) := by rw [e]
    rw [hN, Nat.pow_add, Nat.mul_mod, powk, Nat.one_mul, Nat.mod_mod] at e2
    exact e2.symm
  have hkm : k * (N / k) = N := by have e := Nat.div_add_mod N k; omega
  have hm1 : N / k = 1 := Classical.byContradiction fun hne => by
    obtain ⟨q, hqm, m', hd⟩ := some_q qs k (N / k) hq (by rw [hprod]; exact hkm) hne
    have hp := hq q hqm
    have e : N / q = k * m' := by
      rw [← hkm, hd, Nat.mul_left_comm]
      exact Nat.mul_div_cancel_left _ (by have := hp.1; omega)
    have hlt : N / q ≤ N := Nat.div_le_self _ _
    have c := hall q hqm
    have := Nat.ne_of_beq_eq_false c
    rw [pw_eq 256 g _ (by omega), e] at this
    exact this (powk m')
  have hkN : k = N := by rw [hm1] at hkm; omega
  subst hkN
  have nz : ∀ i, i ≤ k → g ^ i % (k + 1) ≠ 0 := fun i hi h0 => by
    have e : g ^ k = g ^ i * g ^ (k - i) := by rw [← Nat.pow_add]; congr 1; omega
    rw [e, Nat.mul_mod, h0, Nat.zero_mul, Nat.zero_mod] at hN
    cases hN
  have inj : ∀ i j, i < j → j < k → g ^ i % (k + 1) ≠ g ^ j % (k + 1) := fun i j hij hj he => by
    refine hmin (j - i) (by omega) ⟨by omega, ?_⟩
    have e1 : g ^ k = g ^ i * g ^ (k - i) := by rw [← Nat.pow_add]; congr 1; omega
    have e2 : g ^ j * g ^ (k - i) = g ^ (j - i) * g ^ k := by rw [← Nat.pow_add, ← Nat.pow_add]; congr 1; omega
    have e3 : g ^ k % (k + 1) = (g ^ (j - i) * g ^ k) % (k + 1) := by rw [← e2]; conv => lhs; rw [e1, Nat.mul_mod, he, ← Nat.mul_mod]
    rw [Nat.mul_mod, hN, Nat.mul_one, Nat.mod_mod] at e3
    exact e3.symm
  have sur : ∀ a, 0 < a → a < k + 1 → ∃ i, i < k ∧ g ^ i % (k + 1) = a := fun a h0 h1 => by
    obtain ⟨i, hi, e⟩ := pig k (fun i => g ^ i % (k + 1) - 1) (fun i hi => by
      have := nz i (by omega)
      have := Nat.mod_lt (g ^ i) (show 0 < k + 1 by omega)
      show g ^ i % (k + 1) - 1 < k
      omega) (fun i j hi hj e => by
      have n1 := nz i (by omega)
      have n2 := nz j (by omega)
      rcases Nat.lt_trichotomy i j with h | h | h
      · exact absurd (by omega) (inj i j h hj)
      · exact h
      · exact absurd (by omega) (inj j i h hi)) (a - 1) (by omega)
    have n1 := nz i (by omega)
    exact ⟨i, hi, by omega⟩
  refine ⟨⟨p1, fun d hd => ?_⟩, fun a ha => ?_⟩
  · have hle := Nat.le_of_dvd (by omega) hd
    rcases Nat.lt_or_ge d (k + 1) with hlt | hge
    · left
      have hd0 : 0 < d := Nat.pos_of_dvd_of_pos hd (by omega)
      obtain ⟨i, hi, e⟩ := sur d hd0 hlt
      have e1 : g ^ k = g ^ i * g ^ (k - i) := by rw [← Nat.pow_add]; congr 1; omega
      rw [e1, Nat.mul_mod, e] at hN
      have h1 : d ∣ d * (g ^ (k - i) % (k + 1)) % (k + 1) := (Nat.dvd_mod_iff hd).2 (Nat.dvd_mul_right _ _)
      rw [hN] at h1
      exact Nat.eq_one_of_dvd_one h1
    · right; omega
  · obtain ⟨i, hi, e⟩ := sur (a % (k + 1)) (by omega) (Nat.mod_lt _ (by omega))
    rw [Nat.add_sub_cancel, Nat.pow_mod, ← e, ← Nat.pow_mod, ← Nat.pow_mul, Nat.mul_comm, Nat.pow_mul, Nat.pow_mod, hN, Nat.one_pow, one]
theorem pq_2 : Pr 2 := pr_small (by decide +kernel)
theorem pq_3 : Pr 3 := pr_small (by decide +kernel)
theorem pq_5 : Pr 5 := pr_small (by decide +kernel)
theorem pq_7 : Pr 7 := pr_small (by decide +kernel)
theorem pq_11 : Pr 11 := pr_small (by decide +kernel)
theorem pq_13 : Pr 13 := pr_small (by decide +kernel)
theorem pq_17 : Pr 17 := pr_small (by decide +kernel)
theorem pq_19 : Pr 19 := pr_small (by decide +kernel)
theorem pq_23 : Pr 23 := pr_small (by decide +kernel)
theorem pq_29 : Pr 29 := pr_small (by decide +kernel)
theorem pq_31 : Pr 31 := pr_small (by decide +kernel)
theorem pq_37 : Pr 37 := pr_small (by decide +kernel)
theorem pq_41 : Pr 41 := pr_small (by decide +kernel)
theorem pq_43 : Pr 43 := pr_small (by decide +kernel)
theorem pq_47 : Pr 47 := pr_small (by decide +kernel)
theorem pq_53 : Pr 53 := pr_small (by decide +kernel)
theorem pq_59 : Pr 59 := pr_small (by decide +kernel)
theorem pq_83 : Pr 83 := pr_small (by decide +kernel)
theorem pq_97 : Pr 97 := pr_small (by decide +kernel)
theorem lu_239 : Luc 239 := luc 7 [2, 7, 17] (allC pq_2 (allC pq_7 (allC pq_17 allN))) (by decide +kernel)
theorem pq_239 : Pr 239 := lu_239.1
theorem lu_479 : Luc 479 := luc 13 [2, 239] (allC pq_2 (allC pq_239 allN)) (by decide +kernel)
theorem pq_479 : Pr 479 := lu_479.1
theorem lu_32573 : Luc 32573 := luc 2 [2, 2, 17, 479] (allC pq_2 (allC pq_2 (allC pq_17 (allC pq_479 allN)))) (by decide +kernel)
theorem pq_32573 : Pr 32573 := lu_32573.1
theorem lu_65147 : Luc 65147 := luc 2 [2, 32573] (allC pq_2 (allC pq_32573 allN)) (by decide +kernel)
theorem pq_65147 : Pr 65147 := lu_65147.1
theorem lu_353 : Luc 353 := luc 3 [2, 2, 2, 2, 2, 11] (allC pq_2 (allC pq_2 (allC pq_2 (allC pq_2 (allC pq_2 (allC pq_11 allN)))))) (by decide +kernel)
theorem pq_353 : Pr 353 := lu_353.1
theorem lu_487 : Luc 487 := luc 3 [2, 3, 3, 3, 3, 3] (allC pq_2 (allC pq_3 (allC pq_3 (allC pq_3 (allC pq_3 (allC pq_3 allN)))))) (by decide +kernel)
theorem pq_487 : Pr 487 := lu_487.1
theorem lu_57467 : Luc 57467 := luc 2 [2, 59, 487] (allC pq_2 (allC pq_59 (allC pq_487 allN))) (by decide +kernel)
theorem pq_57467 : Pr 57467 := lu_57467.1
theorem lu_131 : Luc 131 := luc 2 [2, 5, 13] (allC pq_2 (allC pq_5 (allC pq_13 allN))) (by decide +kernel)
theorem pq_131 : Pr 131 := lu_131.1
theorem lu_132049 : Luc 132049 := luc 26 [2, 2, 2, 2, 3, 3, 7, 131] (allC pq_2 (allC pq_2 (allC pq_2 (allC pq_2 (allC pq_3 (allC pq_3 (allC pq_7 (allC pq_131 allN)))))))) (by decide +kernel)
theorem pq_132049 : Pr 132049 := lu_132049.1
theorem lu_3727 : Luc 3727 := luc 3 [2, 3, 3, 3, 3, 23] (allC pq_2 (allC pq_3 (allC pq_3 (allC pq_3 (allC pq_3 (allC pq_23 allN)))))) (by decide +kernel)
theorem pq_3727 : Pr 3727 := lu_3727.1
theorem lu_1923133 : Luc 1923133 := luc 2 [2, 2, 3, 43, 3727] (allC pq_2 (allC pq_2 (allC pq_3 (allC pq_43 (allC pq_3727 allN))))) (by decide +kernel)
theorem pq_1923133 : Pr 1923133 := lu_1923133.1
theorem lu_107 : Luc 107 := luc 2 [2, 53] (allC pq_2 (allC pq_53 allN)) (by decide +kernel)
theorem pq_107 : Pr 107 := lu_107.1
theorem lu_223 : Luc 223 := luc 3 [2, 3, 37] (allC pq_2 (allC pq_3 (allC pq_37 allN))) (by decide +kernel)
theorem pq_223 : Pr 223 := lu_223.1
theorem lu_173 : Luc 173 := luc 2 [2, 2, 43] (allC pq_2 (allC pq_2 (allC pq_43 allN))) (by decide +kernel)
theorem pq_173 : Pr 173 := lu_173.1
theorem lu_4153 : Luc 4153 := luc 5 [2, 2, 2, 3, 173] (allC pq_2 (allC pq_2 (allC pq_2 (allC pq_3 (allC pq_173 allN))))) (by decide +kernel)
theorem pq_4153 : Pr 4153 := lu_4153.1
theorem lu_1723 : Luc 1723 := luc 3 [2, 3, 7, 41] (allC pq_2 (allC pq_3 (allC pq_7 (allC pq_41 allN)))) (by decide +kernel)
theorem pq_1723 : Pr 1723 := lu_1723.1
theorem lu_430751 : Luc 430751 := luc 17 [2, 5, 5, 5, 1723] (allC pq_2 (allC pq_5 (allC pq_5 (allC pq_5 (allC pq_1723 allN))))) (by decide +kernel)
theorem pq_430751 : Pr 430751 := lu_430751.1
theorem lu_31757755568855353 : Luc 31757755568855353 := luc 10 [2, 2, 2, 3, 31, 107, 223, 4153, 430751] (allC pq_2 (allC pq_2 (allC pq_2 (allC pq_3 (allC pq_31 (allC pq_107 (allC pq_223 (allC pq_4153 (allC pq_430751 allN))))))))) (by decide +kernel)
theorem pq_31757755568855353 : Pr 31757755568855353 := lu_31757755568855353.1
theorem lu_9463 : Luc 9463 := luc 3 [2, 3, 19, 83] (allC pq_2 (allC pq_3 (allC pq_19 (allC pq_83 allN)))) (by decide +kernel)
theorem pq_9463 : Pr 9463 := lu_9463.1
theorem lu_37853 : Luc 37853 := luc 2 [2, 2, 9463] (allC pq_2 (allC pq_2 (allC pq_9463 allN))) (by decide +kernel)
theorem pq_37853 : Pr 37853 := lu_37853.1
theorem lu_75707 : Luc 75707 := luc 2 [2, 37853] (allC pq_2 (allC pq_37853 allN)) (by decide +kernel)
theorem pq_75707 : Pr 75707 := lu_75707.1
theorem lu_2437 : Luc 2437 := luc 2 [2, 2, 3, 7, 29] (allC pq_2 (allC pq_2 (allC pq_3 (allC pq_7 (allC pq_29 allN))))) (by decide +kernel)
theorem pq_2437 : Pr 2437 := lu_2437.1
theorem lu_419 : Luc 419 := luc 2 [2, 11, 19] (allC pq_2 (allC pq_11 (allC pq_19 allN))) (by decide +kernel)
theorem pq_419 : Pr 419 := lu_419.1
theorem lu_569003 : Luc 569003 := luc 2 [2, 7, 97, 419] (allC pq_2 (allC pq_7 (allC pq_97 (allC pq_419 allN)))) (by decide +kernel)
theorem pq_569003 : Pr 569003 := lu_569003.1
theorem lu_2773320623 : Luc 2773320623 := luc 5 [2, 2437, 569003] (allC pq_2 (allC pq_2437 (allC pq_569003 allN))) (by decide +kernel)
theorem pq_2773320623 : Pr 2773320623 := lu_2773320623.1
theorem lu_72106336199 : Luc 72106336199 := luc 7 [2, 13, 2773320623] (allC pq_2 (allC pq_13 (allC pq_2773320623 allN))) (by decide +kernel)
theorem pq_72106336199 : Pr 72106336199 := lu_72106336199.1
theorem lu_127 : Luc 127 := luc 3 [2, 3, 3, 7] (allC pq_2 (allC pq_3 (allC pq_3 (allC pq_7 allN)))) (by decide +kernel)
theorem pq_127 : Pr 127 := lu_127.1
theorem lu_103 : Luc 103 := luc 5 [2, 3, 17] (allC pq_2 (allC pq_3 (allC pq_17 allN))) (by decide +kernel)
theorem pq_103 : Pr 103 := lu_103.1
theorem lu_991 : Luc 991 := luc 6 [2, 3, 3, 5, 11] (allC pq_2 (allC pq_3 (allC pq_3 (allC pq_5 (allC pq_11 allN))))) (by decide +kernel)
theorem pq_991 : Pr 991 := lu_991.1
theorem lu_8574133 : Luc 8574133 := luc 2 [2, 2, 3, 7, 103, 991] (allC pq_2 (allC pq_2 (allC pq_3 (allC pq_7 (allC pq_103 (allC pq_991 allN)))))) (by decide +kernel)
theorem pq_8574133 : Pr 8574133 := lu_8574133.1
theorem lu_1919519569386763 : Luc 1919519569386763 := luc 2 [2, 3, 7, 19, 47, 47, 127, 8574133] (allC pq_2 (allC pq_3 (allC pq_7 (allC pq_19 (allC pq_47 (allC pq_47 (allC pq_127 (allC pq_8574133 allN)))))))) (by decide +kernel)
theorem pq_1919519569386763 : Pr 1919519569386763 := lu_1919519569386763.1
theorem lu_75445702479781427272750846543864801 : Luc 75445702479781427272750846543864801 := luc 7 [2, 2, 2, 2, 2, 3, 3, 5, 5, 75707, 72106336199, 1919519569386763] (allC pq_2 (allC pq_2 (allC pq_2 (allC pq_2 (allC pq_2 (allC pq_3 (allC pq_3 (allC pq_5 (allC pq_5 (allC pq_75707 (allC pq_72106336199 (allC pq_1919519569386763 allN)))))))))))) (by decide +kernel)
theorem pq_75445702479781427272750846543864801 : Pr 75445702479781427272750846543864801 := lu_75445702479781427272750846543864801.1
theorem lu_74058212732561358302231226437062788676166966415465897661863160754340907 : Luc 74058212732561358302231226437062788676166966415465897661863160754340907 := luc 2 [2, 3, 353, 57467, 132049, 1923133, 31757755568855353, 75445702479781427272750846543864801] (allC pq_2 (allC pq_3 (allC pq_353 (allC pq_57467 (allC pq_132049 (allC pq_1923133 (allC pq_31757755568855353 (allC pq_75445702479781427272750846543864801 allN)))))))) (by decide +kernel)
theorem pq_74058212732561358302231226437062788676166966415465897661863160754340907 : Pr 74058212732561358302231226437062788676166966415465897661863160754340907 := lu_74058212732561358302231226437062788676166966415465897661863160754340907.1
theorem lu_57896044618658097711785492504343953926634992332820282019728792003956564819949 : Luc 57896044618658097711785492504343953926634992332820282019728792003956564819949 := luc 2 [2, 2, 3, 65147, 74058212732561358302231226437062788676166966415465897661863160754340907] (allC pq_2 (allC pq_2 (allC pq_3 (allC pq_65147 (allC pq_74058212732561358302231226437062788676166966415465897661863160754340907 allN))))) (by decide +kernel)
theorem pq_57896044618658097711785492504343953926634992332820282019728792003956564819949 : Pr 57896044618658097711785492504343953926634992332820282019728792003956564819949 := lu_57896044618658097711785492504343953926634992332820282019728792003956564819949.1

end Go.Dbr
