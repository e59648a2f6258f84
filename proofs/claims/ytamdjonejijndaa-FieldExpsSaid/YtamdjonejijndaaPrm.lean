/- Primes: Lucas' certificates, Fermat's law. -/
import Derived.Test.YtamdjonejijndaaLib
namespace Go.Dbr
/-- a prime -/
def Pr (p : Nat) : Prop := 1 < p ∧ ∀ d, d ∣ p → d = 1 ∨ d = p
theorem Pr.mul {p a b : Nat} (hp : Pr p) (h : p ∣ a * b) : p ∣ a ∨ p ∣ b := by
  rcases hp.2 _ (Nat.gcd_dvd_left p a) with g | g
  · exact .inr (Nat.Coprime.dvd_of_dvd_mul_left g h)
  · exact .inl (by have := Nat.gcd_dvd_right p a; rwa [g] at this)
def smallB (p : Nat) : Bool := Nat.blt 1 p && (List.range p).all fun d => Nat.blt d 2 || !Nat.beq (p % d) 0
theorem pr_small {p : Nat} (h : smallB p = true) : Pr p := by
  unfold smallB at h
  simp only [Bool.and_eq_true, Nat.blt_eq, List.all_eq_true, List.mem_range, Bool.or_eq_true, Bool.not_eq_true'] at h
  refine ⟨h.1, fun d hd => ?_⟩
  rcases Nat.lt_or_ge d p with g | g
  · rcases h.2 d g with x | x
    · rcases Nat.eq_zero_or_pos d with z | z
      · subst z
        have := Nat.eq_zero_of_zero_dvd hd
        omega
      · omega
    · rw [Nat.mod_eq_zero_of_dvd hd] at x
      cases x
  · have := Nat.le_of_dvd (by omega) hd
    omega
/-- a power that is reduced on the way -/
def pw (p : Nat) : Nat → Nat → Nat → Nat
  | 0, _, _ => 1 % p
  | k + 1, g, e => cond (Nat.beq (e % 2) 1) (g * pw p k (g * g % p) (e / 2) % p) (pw p k (g * g % p) (e / 2))
theorem pw_eq {p : Nat} : ∀ (k g e : Nat), e < 2 ^ k → pw p k g e = g ^ e % p
  | 0, g, e, h => by
    have : e = 0 := by simp at h; exact h
    subst this
    rfl
  | k + 1, g, e, h => by
    have ih := pw_eq (p := p) k (g * g % p) (e / 2) (by rw [Nat.pow_succ] at h; omega)
    have hs : (g * g % p) ^ (e / 2) % p = g ^ (2 * (e / 2)) % p := by rw [← Nat.pow_mod, ← Nat.pow_two, ← Nat.pow_mul]
    unfold pw
    cases hb : Nat.beq (e % 2) 1 with
    | true =>
      have h1 : e % 2 = 1 := Nat.eq_of_beq_eq_true hb
      rw [Bool.cond_true, ih, hs, Nat.mul_mod_mod, Nat.mul_comm, ← Nat.pow_succ]
      congr 2
      omega
    | false =>
      have h1 : e % 2 ≠ 1 := Nat.ne_of_beq_eq_false hb
      rw [Bool.cond_false, ih, hs]
      congr 2
      omega
theorem pig : ∀ (N : Nat) (f : Nat → Nat), (∀ i, i < N → f i < N) → (∀ i j, i < N → j < N → f i = f j → i = j) → ∀ a, a < N → ∃ i, i < N ∧ f i = a
  | 0, _, _, _, a, h => absurd h (Nat.not_lt_zero a)
  | N + 1, f, hf, hi, a, ha => Classical.byContradiction fun hno => by
    have no : ∀ i, i < N + 1 → f i ≠ a := fun i h e => hno ⟨i, h, e⟩
    obtain ⟨i, hiN, e⟩ := pig N (fun i => if f i = N then a else f i) (fun i h => by
      have h1 := hf i (by omega)
      have h2 := no i (by omega)
      show (if f i = N then a else f i) < N
      split <;> omega) (fun i j h1 h2 e => by
      have n1 := no i (by omega)
      have n2 := no j (by omega)
      refine hi i j (by omega) (by omega) ?_
      split at e <;> split at e <;> omega) (if f N = N then a else f N) (by
      have h1 := hf N (by omega)
      have h2 := no N (by omega)
      split <;> omega)
    have n1 := no i (by omega)
    have n2 := no N (by omega)
    have : i = N := by
      refine hi i N (by omega) (by omega) ?_
      split at e <;> split at e <;> omega
    omega
theorem least {P : Nat → Prop} : ∀ n, P n → ∃ k, P k ∧ ∀ j, j < k → ¬ P j := fun n => by
  induction n using Nat.strongRecOn with
  | _ n ih =>
    intro h
    by_cases e : ∃ j, j < n ∧ P j
    · obtain ⟨j, hj, hp⟩ := e
      exact ih j hj hp
    · exact ⟨n, h, fun j hj hp => e ⟨j, hj, hp⟩⟩
def prodL : List Nat → Nat
  | [] => 1
  | q :: r => q * prodL r
theorem some_q : ∀ (qs : List Nat) (k m : Nat), (∀ q ∈ qs, Pr q) → k * m = prodL qs → m ≠ 1 → ∃ q ∈ qs, q ∣ m
  | [], k, m, _, h, h1 => absurd (Nat.eq_one_of_mul_eq_one_left h) h1
  | q :: r, k, m, hq, h, h1 => by
    have hp := hq q (List.mem_cons_self ..)
    rcases hp.mul (a := m) (b := k) (by rw [Nat.mul_comm, h]; exact Nat.dvd_mul_right _ _) with d | ⟨k', rfl⟩
    · exact ⟨q, List.mem_cons_self .., d⟩
    · have h0 : 0 < q := by have := hp.1; omega
      obtain ⟨q', hm, hd⟩ := some_q r k' m (fun x hx => hq x (List.mem_cons_of_mem _ hx)) (by rw [Nat.mul_assoc] at h; exact Nat.eq_of_mul_eq_mul_left h0 h) h1
      exact ⟨q', List.mem_cons_of_mem _ hm, hd⟩
/-- a prime, and Fermat's law of it -/
def Luc (p : Nat) : Prop := Pr p ∧ ∀ a, a % p ≠ 0 → a ^ (p - 1) % p = 1
def certB (p g : Nat) (qs : List Nat) : Bool := Nat.blt 1 p && Nat.blt p (2 ^ 256) && Nat.beq (prodL qs) (p - 1) && Nat.beq (pw p 256 g (p - 1)) 1 && qs.all fun q => !Nat.beq (pw p 256 g ((p - 1) / q)) 1
theorem allN {P : Nat → Prop} : ∀ q ∈ ([] : List Nat), P q := fun q h => by cases h
theorem allC {P : Nat → Prop} {a : Nat} {l : List Nat} (h : P a) (h2 : ∀ q ∈ l, P q) : ∀ q ∈ a :: l, P q := fun q hq => by
  rcases List.mem_cons.1 hq with rfl | e
  · exact h
  · exact h2 q e
theorem luc {p : Nat} (g : Nat) (qs : List Nat) (hq : ∀ q ∈ qs, Pr q) (h : certB p g qs = true) : Luc p := by
  unfold certB at h
  simp only [Bool.and_eq_true, Nat.blt_eq, Nat.beq_eq, List.all_eq_true, Bool.not_eq_true'] at h
  obtain ⟨⟨⟨⟨p1, pb⟩, hprod⟩, hN⟩, hall⟩ := h
  rw [pw_eq 256 g (p - 1) (by omega)] at hN
  obtain ⟨N, rfl⟩ : ∃ N, p = N + 1 := ⟨p - 1, by omega⟩
  rw [Nat.add_sub_cancel] at *
  have one : 1 % (N + 1) = 1 := Nat.mod_eq_of_lt p1
  obtain ⟨k, ⟨hk0, hk⟩, hmin⟩ := least (P := fun k => 0 < k ∧ g ^ k % (N + 1) = 1) N ⟨by omega, hN⟩
  have powk : ∀ j, (g ^ (k * j)) % (N + 1) = 1 := fun j => by rw [Nat.pow_mul, Nat.pow_mod, hk, Nat.one_pow, one]
  have hdiv : N % k = 0 := Classical.byContradiction fun hne => by
    refine hmin (N % k) (Nat.mod_lt _ hk0) ⟨by omega, ?_⟩
    have e := Nat.div_add_mod N k
    have e2 : g ^ N % (N + 1) = g ^ (k * (N / k) + N % k) % (N + 1) := by rw [e]
    rw [hN, Nat.pow_add, Nat.mul_mod, powk, Nat.one_mul, Nat.mod_mod] at e2
    exact e2.symm
  have hkm : k * (N / k) = N := by have e := Nat.div_add_mod N k; omega
  have hm1 : N / k = 1 := Classical.byContradiction fun hne => by
    obtain ⟨q, hqm, m', hd⟩ := some_q qs k (N / k) hq (by rw [hprod]; exact hkm) hne
    have hp := hq q hqm
    have e : N / q = k * m' := by
      rw [← hkm, hd, Nat.mul_left_comm]
      exact Nat.mul_div_cancel_left _ (by have := hp.1; omega)
    have hlt : N / q ≤ N := Nat.div_le_self _ _
    have c := hall q hqm
    have := Nat.ne_of_beq_eq_false c
    rw [pw_eq 256 g _ (by omega), e] at this
    exact this (powk m')
  have hkN : k = N := by rw [hm1] at hkm; omega
  subst hkN
  have nz : ∀ i, i ≤ k → g ^ i % (k + 1) ≠ 0 := fun i hi h0 => by
    have e : g ^ k = g ^ i * g ^ (k - i) := by rw [← Nat.pow_add]; congr 1; omega
    rw [e, Nat.mul_mod, h0, Nat.zero_mul, Nat.zero_mod] at hN
    cases hN
  have inj : ∀ i j, i < j → j < k → g ^ i % (k + 1) ≠ g ^ j % (k + 1) := fun i j hij hj he => by
    refine hmin (j - i) (by omega) ⟨by omega, ?_⟩
    have e1 : g ^ k = g ^ i * g ^ (k - i) := by rw [← Nat.pow_add]; congr 1; omega
    have e2 : g ^ j * g ^ (k - i) = g ^ (j - i) * g ^ k := by rw [← Nat.pow_add, ← Nat.pow_add]; congr 1; omega
    have e3 : g ^ k % (k + 1) = (g ^ (j - i) * g ^ k) % (k + 1) := by rw [← e2]; conv => lhs; rw [e1, Nat.mul_mod, he, ← Nat.mul_mod]
    rw [Nat.mul_mod, hN, Nat.mul_one, Nat.mod_mod] at e3
    exact e3.symm
  have sur : ∀ a, 0 < a → a < k + 1 → ∃ i, i < k ∧ g ^ i % (k + 1) = a := fun a h0 h1 => by
    obtain ⟨i, hi, e⟩ := pig k (fun i => g ^ i % (k + 1) - 1) (fun i hi => by
      have := nz i (by omega)
      have := Nat.mod_lt (g ^ i) (show 0 < k + 1 by omega)
      show g ^ i % (k + 1) - 1 < k
      omega) (fun i j hi hj e => by
      have n1 := nz i (by omega)
      have n2 := nz j (by omega)
      rcases Nat.lt_trichotomy i j with h | h | h
      · exact absurd (by omega) (inj i j h hj)
      · exact h
      · exact absurd (by omega) (inj j i h hi)) (a - 1) (by omega)
    have n1 := nz i (by omega)
    exact ⟨i, hi, by omega⟩
  refine ⟨⟨p1, fun d hd => ?_⟩, fun a ha => ?_⟩
  · have hle := Nat.le_of_dvd (by omega) hd
    rcases Nat.lt_or_ge d (k + 1) with hlt | hge
    · left
      have hd0 : 0 < d := Nat.pos_of_dvd_of_pos hd (by omega)
      obtain ⟨i, hi, e⟩ := sur d hd0 hlt
      have e1 : g ^ k = g ^ i * g ^ (k - i) := by rw [← Nat.pow_add]; congr 1; omega
      rw [e1, Nat.mul_mod, e] at hN
      have h1 : d ∣ d * (g ^ (k - i) % (k + 1)) % (k + 1) := (Nat.dvd_mod_iff hd).2 (Nat.dvd_mul_right _ _)
      rw [hN] at h1
      exact Nat.eq_one_of_dvd_one h1
    · right; omega
  · obtain ⟨i, hi, e⟩ := sur (a % (k + 1)) (by omega) (Nat.mod_lt _ (by omega))
    rw [Nat.add_sub_cancel, Nat.pow_mod, ← e, ← Nat.pow_mod, ← Nat.pow_mul, Nat.mul_comm, Nat.pow_mul, Nat.pow_mod, hN, Nat.one_pow, one]
theorem pq_2 : Pr 2 := pr_small (by decide +kernel)
theorem pq_3 : Pr 3 := pr_small (by decide +kernel)
theorem pq_5 : Pr 5 := pr_small (by decide +kernel)
theorem pq_7 : Pr 7 := pr_small (by decide +kernel)
theorem pq_11 : Pr 11 := pr_small (by decide +kernel)
theorem pq_13 : Pr 13 := pr_small (by decide +kernel)
theorem pq_17 : Pr 17 := pr_small (by decide +kernel)
theorem pq_19 : Pr 19 := pr_small (by decide +kernel)
theorem pq_23 : Pr 23 := pr_small (by decide +kernel)
theorem pq_29 : Pr 29 := pr_small (by decide +kernel)
theorem pq_31 : Pr 31 := pr_small (by decide +kernel)
theorem pq_37 : Pr 37 := pr_small (by decide +kernel)
theorem pq_41 : Pr 41 := pr_small (by decide +kernel)
theorem pq_43 : Pr 43 := pr_small (by decide +kernel)
theorem pq_47 : Pr 47 := pr_small (by decide +kernel)
theorem pq_53 : Pr 53 := pr_small (by decide +kernel)
theorem pq_59 : Pr 59 := pr_small (by decide +kernel)
theorem pq_67 : Pr 67 := pr_small (by decide +kernel)
theorem pq_71 : Pr 71 := pr_small (by decide +kernel)
theorem pq_73 : Pr 73 := pr_small (by decide +kernel)
theorem pq_79 : Pr 79 := pr_small (by decide +kernel)
theorem pq_83 : Pr 83 := pr_small (by decide +kernel)
theorem pq_97 : Pr 97 := pr_small (by decide +kernel)
theorem lu_239 : Luc 239 := luc 7 [2, 7, 17] (allC pq_2 (allC pq_7 (allC pq_17 allN))) (by decide +kernel)
theorem pq_239 : Pr 239 := lu_239.1
theorem lu_479 : Luc 479 := luc 13 [2, 239] (allC pq_2 (allC pq_239 allN)) (by decide +kernel)
theorem pq_479 : Pr 479 := lu_479.1
theorem lu_32573 : Luc 32573 := luc 2 [2, 2, 17, 479] (allC pq_2 (allC pq_2 (allC pq_17 (allC pq_479 allN)))) (by decide +kernel)
theorem pq_32573 : Pr 32573 := lu_32573.1
theorem lu_65147 : Luc 65147 := luc 2 [2, 32573] (allC pq_2 (allC pq_32573 allN)) (by decide +kernel)
theorem pq_65147 : Pr 65147 := lu_65147.1
theorem lu_353 : Luc 353 := luc 3 [2, 2, 2, 2, 2, 11] (allC pq_2 (allC pq_2 (allC pq_2 (allC pq_2 (allC pq_2 (allC pq_11 allN)))))) (by decide +kernel)
theorem pq_353 : Pr 353 := lu_353.1
theorem lu_487 : Luc 487 := luc 3 [2, 3, 3, 3, 3, 3] (allC pq_2 (allC pq_3 (allC pq_3 (allC pq_3 (allC pq_3 (allC pq_3 allN)))))) (by decide +kernel)
theorem pq_487 : Pr 487 := lu_487.1
theorem lu_57467 : Luc 57467 := luc 2 [2, 59, 487] (allC pq_2 (allC pq_59 (allC pq_487 allN))) (by decide +kernel)
theorem pq_57467 : Pr 57467 := lu_57467.1
theorem lu_131 : Luc 131 := luc 2 [2, 5, 13] (allC pq_2 (allC pq_5 (allC pq_13 allN))) (by decide +kernel)
theorem pq_131 : Pr 131 := lu_131.1
theorem lu_132049 : Luc 132049 := luc 26 [2, 2, 2, 2, 3, 3, 7, 131] (allC pq_2 (allC pq_2 (allC pq_2 (allC pq_2 (allC pq_3 (allC pq_3 (allC pq_7 (allC pq_131 allN)))))))) (by decide +kernel)
theorem pq_132049 : Pr 132049 := lu_132049.1
theorem lu_3727 : Luc 3727 := luc 3 [2, 3, 3, 3, 3, 23] (allC pq_2 (allC pq_3 (allC pq_3 (allC pq_3 (allC pq_3 (allC pq_23 allN)))))) (by decide +kernel)
theorem pq_3727 : Pr 3727 := lu_3727.1
theorem lu_1923133 : Luc 1923133 := luc 2 [2, 2, 3, 43, 3727] (allC pq_2 (allC pq_2 (allC pq_3 (allC pq_43 (allC pq_3727 allN))))) (by decide +kernel)
theorem pq_1923133 : Pr 1923133 := lu_1923133.1
theorem lu_107 : Luc 107 := luc 2 [2, 53] (allC pq_2 (allC pq_53 allN)) (by decide +kernel)
theorem pq_107 : Pr 107 := lu_107.1
theorem lu_223 : Luc 223 := luc 3 [2, 3, 37] (allC pq_2 (allC pq_3 (allC pq_37 allN))) (by decide +kernel)
theorem pq_223 : Pr 223 := lu_223.1
theorem lu_173 : Luc 173 := luc 2 [2, 2, 43] (allC pq_2 (allC pq_2 (allC pq_43 allN))) (by decide +kernel)
theorem pq_173 : Pr 173 := lu_173.1
theorem lu_4153 : Luc 4153 := luc 5 [2, 2, 2, 3, 173] (allC pq_2 (allC pq_2 (allC pq_2 (allC pq_3 (allC pq_173 allN))))) (by decide +kernel)
theorem pq_4153 : Pr 4153 := lu_4153.1
theorem lu_1723 : Luc 1723 := luc 3 [2, 3, 7, 41] (allC pq_2 (allC pq_3 (allC pq_7 (allC pq_41 allN)))) (by decide +kernel)
theorem pq_1723 : Pr 1723 := lu_1723.1
theorem lu_430751 : Luc 430751 := luc 17 [2, 5, 5, 5, 1723] (allC pq_2 (allC pq_5 (allC pq_5 (allC pq_5 (allC pq_1723 allN))))) (by decide +kernel)
theorem pq_430751 : Pr 430751 := lu_430751.1
theorem lu_31757755568855353 : Luc 31757755568855353 := luc 10 [2, 2, 2, 3, 31, 107, 223, 4153, 430751] (allC pq_2 (allC pq_2 (allC pq_2 (allC pq_3 (allC pq_31 (allC pq_107 (allC pq_223 (allC pq_4153 (allC pq_430751 allN))))))))) (by decide +kernel)
theorem pq_31757755568855353 : Pr 31757755568855353 := lu_31757755568855353.1
theorem lu_9463 : Luc 9463 := luc 3 [2, 3, 19, 83] (allC pq_2 (allC pq_3 (allC pq_19 (allC pq_83 allN)))) (by decide +kernel)
theorem pq_9463 : Pr 9463 := lu_9463.1
theorem lu_37853 : Luc 37853 := luc 2 [2, 2, 9463] (allC pq_2 (allC pq_2 (allC pq_9463 allN))) (by decide +kernel)
theorem pq_37853 : Pr 37853 := lu_37853.1
theorem lu_75707 : Luc 75707 := luc 2 [2, 37853] (allC pq_2 (allC pq_37853 allN)) (by decide +kernel)
theorem pq_75707 : Pr 75707 := lu_75707.1
theorem lu_2437 : Luc 2437 := luc 2 [2, 2, 3, 7, 29] (allC pq_2 (allC pq_2 (allC pq_3 (allC pq_7 (allC pq_29 allN))))) (by decide +kernel)
theorem pq_2437 : Pr 2437 := lu_2437.1
theorem lu_419 : Luc 419 := luc 2 [2, 11, 19] (allC pq_2 (allC pq_11 (allC pq_19 allN))) (by decide +kernel)
theorem pq_419 : Pr 419 := lu_419.1
theorem lu_569003 : Luc 569003 := luc 2 [2, 7, 97, 419] (allC pq_2 (allC pq_7 (allC pq_97 (allC pq_419 allN)))) (by decide +kernel)
theorem pq_569003 : Pr 569003 := lu_569003.1
theorem lu_2773320623 : Luc 2773320623 := luc 5 [2, 2437, 569003] (allC pq_2 (allC pq_2437 (allC pq_569003 allN))) (by decide +kernel)
theorem pq_2773320623 : Pr 2773320623 := lu_2773320623.1
theorem lu_72106336199 : Luc 72106336199 := luc 7 [2, 13, 2773320623] (allC pq_2 (allC pq_13 (allC pq_2773320623 allN))) (by decide +kernel)
theorem pq_72106336199 : Pr 72106336199 := lu_72106336199.1
theorem lu_127 : Luc 127 := luc 3 [2, 3, 3, 7] (allC pq_2 (allC pq_3 (allC pq_3 (allC pq_7 allN)))) (by decide +kernel)
theorem pq_127 : Pr 127 := lu_127.1
theorem lu_103 : Luc 103 := luc 5 [2, 3, 17] (allC pq_2 (allC pq_3 (allC pq_17 allN))) (by decide +kernel)
theorem pq_103 : Pr 103 := lu_103.1
theorem lu_991 : Luc 991 := luc 6 [2, 3, 3, 5, 11] (allC pq_2 (allC pq_3 (allC pq_3 (allC pq_5 (allC pq_11 allN))))) (by decide +kernel)
theorem pq_991 : Pr 991 := lu_991.1
theorem lu_8574133 : Luc 8574133 := luc 2 [2, 2, 3, 7, 103, 991] (allC pq_2 (allC pq_2 (allC pq_3 (allC pq_7 (allC pq_103 (allC pq_991 allN)))))) (by decide +kernel)
theorem pq_8574133 : Pr 8574133 := lu_8574133.1
theorem lu_1919519569386763 : Luc 1919519569386763 := luc 2 [2, 3, 7, 19, 47, 47, 127, 8574133] (allC pq_2 (allC pq_3 (allC pq_7 (allC pq_19 (allC pq_47 (allC pq_47 (allC pq_127 (allC pq_8574133 allN)))))))) (by decide +kernel)
theorem pq_1919519569386763 : Pr 1919519569386763 := lu_1919519569386763.1
theorem lu_75445702479781427272750846543864801 : Luc 75445702479781427272750846543864801 := luc 7 [2, 2, 2, 2, 2, 3, 3, 5, 5, 75707, 72106336199, 1919519569386763] (allC pq_2 (allC pq_2 (allC pq_2 (allC pq_2 (allC pq_2 (allC pq_3 (allC pq_3 (allC pq_5 (allC pq_5 (allC pq_75707 (allC pq_72106336199 (allC pq_1919519569386763 allN)))))))))))) (by decide +kernel)
theorem pq_75445702479781427272750846543864801 : Pr 75445702479781427272750846543864801 := lu_75445702479781427272750846543864801.1
theorem lu_74058212732561358302231226437062788676166966415465897661863160754340907 : Luc 74058212732561358302231226437062788676166966415465897661863160754340907 := luc 2 [2, 3, 353, 57467, 132049, 1923133, 31757755568855353, 75445702479781427272750846543864801] (allC pq_2 (allC pq_3 (allC pq_353 (allC pq_57467 (allC pq_132049 (allC pq_1923133 (allC pq_31757755568855353 (allC pq_75445702479781427272750846543864801 allN)))))))) (by decide +kernel)
theorem pq_74058212732561358302231226437062788676166966415465897661863160754340907 : Pr 74058212732561358302231226437062788676166966415465897661863160754340907 := lu_74058212732561358302231226437062788676166966415465897661863160754340907.1
theorem lu_57896044618658097711785492504343953926634992332820282019728792003956564819949 : Luc 57896044618658097711785492504343953926634992332820282019728792003956564819949 := luc 2 [2, 2, 3, 65147, 74058212732561358302231226437062788676166966415465897661863160754340907] (allC pq_2 (allC pq_2 (allC pq_3 (allC pq_65147 (allC pq_74058212732561358302231226437062788676166966415465897661863160754340907 allN))))) (by decide +kernel)
theorem pq_57896044618658097711785492504343953926634992332820282019728792003956564819949 : Pr 57896044618658097711785492504343953926634992332820282019728792003956564819949 := lu_57896044618658097711785492504343953926634992332820282019728792003956564819949.1
theorem lu_257 : Luc 257 := luc 3 [2, 2, 2, 2, 2, 2, 2, 2] (allC pq_2 (allC pq_2 (allC pq_2 (allC pq_2 (allC pq_2 (allC pq_2 (allC pq_2 (allC pq_2 allN)))))))) (by decide +kernel)
theorem pq_257 : Pr 257 := lu_257.1
theorem lu_641 : Luc 641 := luc 3 [2, 2, 2, 2, 2, 2, 2, 5] (allC pq_2 (allC pq_2 (allC pq_2 (allC pq_2 (allC pq_2 (allC pq_2 (allC pq_2 (allC pq_5 allN)))))))) (by decide +kernel)
theorem pq_641 : Pr 641 := lu_641.1
theorem lu_1531 : Luc 1531 := luc 2 [2, 3, 3, 5, 17] (allC pq_2 (allC pq_3 (allC pq_3 (allC pq_5 (allC pq_17 allN))))) (by decide +kernel)
theorem pq_1531 : Pr 1531 := lu_1531.1
theorem lu_65537 : Luc 65537 := luc 3 [2, 2, 2, 2, 2, 2, 2, 2, 2, 2, 2, 2, 2, 2, 2, 2] (allC pq_2 (allC pq_2 (allC pq_2 (allC pq_2 (allC pq_2 (allC pq_2 (allC pq_2 (allC pq_2 (allC pq_2 (allC pq_2 (allC pq_2 (allC pq_2 (allC pq_2 (allC pq_2 (allC pq_2 (allC pq_2 allN)))))))))))))))) (by decide +kernel)
theorem pq_65537 : Pr 65537 := lu_65537.1
theorem lu_661 : Luc 661 := luc 2 [2, 2, 3, 5, 11] (allC pq_2 (allC pq_2 (allC pq_3 (allC pq_5 (allC pq_11 allN))))) (by decide +kernel)
theorem pq_661 : Pr 661 := lu_661.1
theorem lu_490463 : Luc 490463 := luc 14 [2, 7, 53, 661] (allC pq_2 (allC pq_7 (allC pq_53 (allC pq_661 allN)))) (by decide +kernel)
theorem pq_490463 : Pr 490463 := lu_490463.1
theorem lu_727 : Luc 727 := luc 5 [2, 3, 11, 11] (allC pq_2 (allC pq_3 (allC pq_11 (allC pq_11 allN)))) (by decide +kernel)
theorem pq_727 : Pr 727 := lu_727.1
theorem lu_17449 : Luc 17449 := luc 14 [2, 2, 2, 3, 727] (allC pq_2 (allC pq_2 (allC pq_2 (allC pq_3 (allC pq_727 allN))))) (by decide +kernel)
theorem pq_17449 : Pr 17449 := lu_17449.1
theorem lu_6700417 : Luc 6700417 := luc 5 [2, 2, 2, 2, 2, 2, 2, 3, 17449] (allC pq_2 (allC pq_2 (allC pq_2 (allC pq_2 (allC pq_2 (allC pq_2 (allC pq_2 (allC pq_3 (allC pq_17449 allN))))))))) (by decide +kernel)
theorem pq_6700417 : Pr 6700417 := lu_6700417.1
theorem lu_241 : Luc 241 := luc 7 [2, 2, 2, 2, 3, 5] (allC pq_2 (allC pq_2 (allC pq_2 (allC pq_2 (allC pq_3 (allC pq_5 allN)))))) (by decide +kernel)
theorem pq_241 : Pr 241 := lu_241.1
theorem lu_2411 : Luc 2411 := luc 6 [2, 5, 241] (allC pq_2 (allC pq_5 (allC pq_241 allN))) (by decide +kernel)
theorem pq_2411 : Pr 2411 := lu_2411.1
theorem lu_157 : Luc 157 := luc 5 [2, 2, 3, 13] (allC pq_2 (allC pq_2 (allC pq_3 (allC pq_13 allN)))) (by decide +kernel)
theorem pq_157 : Pr 157 := lu_157.1
theorem lu_3769 : Luc 3769 := luc 7 [2, 2, 2, 3, 157] (allC pq_2 (allC pq_2 (allC pq_2 (allC pq_3 (allC pq_157 allN))))) (by decide +kernel)
theorem pq_3769 : Pr 3769 := lu_3769.1
theorem lu_204061199 : Luc 204061199 := luc 11 [2, 11, 23, 107, 3769] (allC pq_2 (allC pq_11 (allC pq_23 (allC pq_107 (allC pq_3769 allN))))) (by decide +kernel)
theorem pq_204061199 : Pr 204061199 := lu_204061199.1
theorem lu_34282281433 : Luc 34282281433 := luc 17 [2, 2, 2, 3, 7, 204061199] (allC pq_2 (allC pq_2 (allC pq_2 (allC pq_3 (allC pq_7 (allC pq_204061199 allN)))))) (by decide +kernel)
theorem pq_34282281433 : Pr 34282281433 := lu_34282281433.1
theorem lu_197 : Luc 197 := luc 2 [2, 2, 7, 7] (allC pq_2 (allC pq_2 (allC pq_7 (allC pq_7 allN)))) (by decide +kernel)
theorem pq_197 : Pr 197 := lu_197.1
theorem lu_919 : Luc 919 := luc 7 [2, 3, 3, 3, 17] (allC pq_2 (allC pq_3 (allC pq_3 (allC pq_3 (allC pq_17 allN))))) (by decide +kernel)
theorem pq_919 : Pr 919 := lu_919.1
theorem lu_3677 : Luc 3677 := luc 2 [2, 2, 919] (allC pq_2 (allC pq_2 (allC pq_919 allN))) (by decide +kernel)
theorem pq_3677 : Pr 3677 := lu_3677.1
theorem lu_66417393611 : Luc 66417393611 := luc 6 [2, 5, 53, 173, 197, 3677] (allC pq_2 (allC pq_5 (allC pq_53 (allC pq_173 (allC pq_197 (allC pq_3677 allN)))))) (by decide +kernel)
theorem pq_66417393611 : Pr 66417393611 := lu_66417393611.1
theorem lu_11290956913871 : Luc 11290956913871 := luc 13 [2, 5, 17, 66417393611] (allC pq_2 (allC pq_5 (allC pq_17 (allC pq_66417393611 allN)))) (by decide +kernel)
theorem pq_11290956913871 : Pr 11290956913871 := lu_11290956913871.1
theorem lu_757 : Luc 757 := luc 2 [2, 2, 3, 3, 3, 7] (allC pq_2 (allC pq_2 (allC pq_3 (allC pq_3 (allC pq_3 (allC pq_7 allN)))))) (by decide +kernel)
theorem pq_757 : Pr 757 := lu_757.1
theorem lu_18169 : Luc 18169 := luc 11 [2, 2, 2, 3, 757] (allC pq_2 (allC pq_2 (allC pq_2 (allC pq_3 (allC pq_757 allN))))) (by decide +kernel)
theorem pq_18169 : Pr 18169 := lu_18169.1
theorem lu_181 : Luc 181 := luc 2 [2, 2, 3, 3, 5] (allC pq_2 (allC pq_2 (allC pq_3 (allC pq_3 (allC pq_5 allN))))) (by decide +kernel)
theorem pq_181 : Pr 181 := lu_181.1
theorem lu_1087 : Luc 1087 := luc 3 [2, 3, 181] (allC pq_2 (allC pq_3 (allC pq_181 allN))) (by decide +kernel)
theorem pq_1087 : Pr 1087 := lu_1087.1
theorem lu_4349 : Luc 4349 := luc 2 [2, 2, 1087] (allC pq_2 (allC pq_2 (allC pq_1087 allN))) (by decide +kernel)
theorem pq_4349 : Pr 4349 := lu_4349.1
theorem lu_78283 : Luc 78283 := luc 3 [2, 3, 3, 4349] (allC pq_2 (allC pq_3 (allC pq_3 (allC pq_4349 allN)))) (by decide +kernel)
theorem pq_78283 : Pr 78283 := lu_78283.1
theorem lu_313 : Luc 313 := luc 10 [2, 2, 2, 3, 13] (allC pq_2 (allC pq_2 (allC pq_2 (allC pq_3 (allC pq_13 allN))))) (by decide +kernel)
theorem pq_313 : Pr 313 := lu_313.1
theorem lu_704251 : Luc 704251 := luc 2 [2, 3, 3, 5, 5, 5, 313] (allC pq_2 (allC pq_3 (allC pq_3 (allC pq_5 (allC pq_5 (allC pq_5 (allC pq_313 allN))))))) (by decide +kernel)
theorem pq_704251 : Pr 704251 := lu_704251.1
theorem lu_46076956964474543 : Luc 46076956964474543 := luc 5 [2, 23, 18169, 78283, 704251] (allC pq_2 (allC pq_23 (allC pq_18169 (allC pq_78283 (allC pq_704251 allN))))) (by decide +kernel)
theorem pq_46076956964474543 : Pr 46076956964474543 := lu_46076956964474543.1
theorem lu_774023187263532362759620327192479577272145303 : Luc 774023187263532362759620327192479577272145303 := luc 3 [2, 3, 3, 2411, 34282281433, 11290956913871, 46076956964474543] (allC pq_2 (allC pq_3 (allC pq_3 (allC pq_2411 (allC pq_34282281433 (allC pq_11290956913871 (allC pq_46076956964474543 allN))))))) (by decide +kernel)
theorem pq_774023187263532362759620327192479577272145303 : Pr 774023187263532362759620327192479577272145303 := lu_774023187263532362759620327192479577272145303.1
theorem lu_835945042244614951780389953367877943453916927241 : Luc 835945042244614951780389953367877943453916927241 := luc 11 [2, 2, 2, 3, 3, 3, 5, 774023187263532362759620327192479577272145303] (allC pq_2 (allC pq_2 (allC pq_2 (allC pq_3 (allC pq_3 (allC pq_3 (allC pq_5 (allC pq_774023187263532362759620327192479577272145303 allN)))))))) (by decide +kernel)
theorem pq_835945042244614951780389953367877943453916927241 : Pr 835945042244614951780389953367877943453916927241 := lu_835945042244614951780389953367877943453916927241.1
theorem lu_115792089210356248762697446949407573530086143415290314195533631308867097853951 : Luc 115792089210356248762697446949407573530086143415290314195533631308867097853951 := luc 6 [2, 3, 5, 5, 17, 257, 641, 1531, 65537, 490463, 6700417, 835945042244614951780389953367877943453916927241] (allC pq_2 (allC pq_3 (allC pq_5 (allC pq_5 (allC pq_17 (allC pq_257 (allC pq_641 (allC pq_1531 (allC pq_65537 (allC pq_490463 (allC pq_6700417 (allC pq_835945042244614951780389953367877943453916927241 allN)))))))))))) (by decide +kernel)
theorem pq_115792089210356248762697446949407573530086143415290314195533631308867097853951 : Pr 115792089210356248762697446949407573530086143415290314195533631308867097853951 := lu_115792089210356248762697446949407573530086143415290314195533631308867097853951.1
theorem lu_373 : Luc 373 := luc 2 [2, 2, 3, 31] (allC pq_2 (allC pq_2 (allC pq_3 (allC pq_31 allN)))) (by decide +kernel)
theorem pq_373 : Pr 373 := lu_373.1
theorem lu_3407 : Luc 3407 := luc 5 [2, 13, 131] (allC pq_2 (allC pq_13 (allC pq_131 allN))) (by decide +kernel)
theorem pq_3407 : Pr 3407 := lu_3407.1
theorem lu_9547 : Luc 9547 := luc 2 [2, 3, 37, 43] (allC pq_2 (allC pq_3 (allC pq_37 (allC pq_43 allN)))) (by decide +kernel)
theorem pq_9547 : Pr 9547 := lu_9547.1
theorem lu_38189 : Luc 38189 := luc 2 [2, 2, 9547] (allC pq_2 (allC pq_2 (allC pq_9547 allN))) (by decide +kernel)
theorem pq_38189 : Pr 38189 := lu_38189.1
theorem lu_229 : Luc 229 := luc 6 [2, 2, 3, 19] (allC pq_2 (allC pq_2 (allC pq_3 (allC pq_19 allN)))) (by decide +kernel)
theorem pq_229 : Pr 229 := lu_229.1
theorem lu_1201 : Luc 1201 := luc 11 [2, 2, 2, 2, 3, 5, 5] (allC pq_2 (allC pq_2 (allC pq_2 (allC pq_2 (allC pq_3 (allC pq_5 (allC pq_5 allN))))))) (by decide +kernel)
theorem pq_1201 : Pr 1201 := lu_1201.1
theorem lu_9350987 : Luc 9350987 := luc 2 [2, 17, 229, 1201] (allC pq_2 (allC pq_17 (allC pq_229 (allC pq_1201 allN)))) (by decide +kernel)
theorem pq_9350987 : Pr 9350987 := lu_9350987.1
theorem lu_187019741 : Luc 187019741 := luc 2 [2, 2, 5, 9350987] (allC pq_2 (allC pq_2 (allC pq_5 (allC pq_9350987 allN)))) (by decide +kernel)
theorem pq_187019741 : Pr 187019741 := lu_187019741.1
theorem lu_311 : Luc 311 := luc 17 [2, 5, 31] (allC pq_2 (allC pq_5 (allC pq_31 allN))) (by decide +kernel)
theorem pq_311 : Pr 311 := lu_311.1
theorem lu_311245691 : Luc 311245691 := luc 2 [2, 5, 7, 17, 29, 29, 311] (allC pq_2 (allC pq_5 (allC pq_7 (allC pq_17 (allC pq_29 (allC pq_29 (allC pq_311 allN))))))) (by decide +kernel)
theorem pq_311245691 : Pr 311245691 := lu_311245691.1
theorem lu_622491383 : Luc 622491383 := luc 5 [2, 311245691] (allC pq_2 (allC pq_311245691 allN)) (by decide +kernel)
theorem pq_622491383 : Pr 622491383 := lu_622491383.1
theorem lu_263 : Luc 263 := luc 5 [2, 131] (allC pq_2 (allC pq_131 allN)) (by decide +kernel)
theorem pq_263 : Pr 263 := lu_263.1
theorem lu_126241 : Luc 126241 := luc 7 [2, 2, 2, 2, 2, 3, 5, 263] (allC pq_2 (allC pq_2 (allC pq_2 (allC pq_2 (allC pq_2 (allC pq_3 (allC pq_5 (allC pq_263 allN)))))))) (by decide +kernel)
theorem pq_126241 : Pr 126241 := lu_126241.1
theorem lu_337 : Luc 337 := luc 10 [2, 2, 2, 2, 3, 7] (allC pq_2 (allC pq_2 (allC pq_2 (allC pq_2 (allC pq_3 (allC pq_7 allN)))))) (by decide +kernel)
theorem pq_337 : Pr 337 := lu_337.1
theorem lu_104471 : Luc 104471 := luc 11 [2, 5, 31, 337] (allC pq_2 (allC pq_5 (allC pq_31 (allC pq_337 allN)))) (by decide +kernel)
theorem pq_104471 : Pr 104471 := lu_104471.1
theorem lu_3969899 : Luc 3969899 := luc 2 [2, 19, 104471] (allC pq_2 (allC pq_19 (allC pq_104471 allN))) (by decide +kernel)
theorem pq_3969899 : Pr 3969899 := lu_3969899.1
theorem lu_1002328039319 : Luc 1002328039319 := luc 19 [2, 126241, 3969899] (allC pq_2 (allC pq_126241 (allC pq_3969899 allN))) (by decide +kernel)
theorem pq_1002328039319 : Pr 1002328039319 := lu_1002328039319.1
theorem lu_1297 : Luc 1297 := luc 10 [2, 2, 2, 2, 3, 3, 3, 3] (allC pq_2 (allC pq_2 (allC pq_2 (allC pq_2 (allC pq_3 (allC pq_3 (allC pq_3 (allC pq_3 allN)))))))) (by decide +kernel)
theorem pq_1297 : Pr 1297 := lu_1297.1
theorem lu_16879 : Luc 16879 := luc 3 [2, 3, 29, 97] (allC pq_2 (allC pq_3 (allC pq_29 (allC pq_97 allN)))) (by decide +kernel)
theorem pq_16879 : Pr 16879 := lu_16879.1
theorem lu_151 : Luc 151 := luc 6 [2, 3, 5, 5] (allC pq_2 (allC pq_3 (allC pq_5 (allC pq_5 allN)))) (by decide +kernel)
theorem pq_151 : Pr 151 := lu_151.1
theorem lu_1511 : Luc 1511 := luc 11 [2, 5, 151] (allC pq_2 (allC pq_5 (allC pq_151 allN))) (by decide +kernel)
theorem pq_1511 : Pr 1511 := lu_1511.1
theorem lu_3023 : Luc 3023 := luc 5 [2, 1511] (allC pq_2 (allC pq_1511 allN)) (by decide +kernel)
theorem pq_3023 : Pr 3023 := lu_3023.1
theorem lu_155317 : Luc 155317 := luc 5 [2, 2, 3, 7, 43, 43] (allC pq_2 (allC pq_2 (allC pq_3 (allC pq_7 (allC pq_43 (allC pq_43 allN)))))) (by decide +kernel)
theorem pq_155317 : Pr 155317 := lu_155317.1
theorem lu_191039911 : Luc 191039911 := luc 3 [2, 3, 5, 41, 155317] (allC pq_2 (allC pq_3 (allC pq_5 (allC pq_41 (allC pq_155317 allN))))) (by decide +kernel)
theorem pq_191039911 : Pr 191039911 := lu_191039911.1
theorem lu_208150935158385979 : Luc 208150935158385979 := luc 2 [2, 3, 11, 43, 127, 3023, 191039911] (allC pq_2 (allC pq_3 (allC pq_11 (allC pq_43 (allC pq_127 (allC pq_3023 (allC pq_191039911 allN))))))) (by decide +kernel)
theorem pq_208150935158385979 : Pr 208150935158385979 := lu_208150935158385979.1
theorem lu_2624747550333869278416773953 : Luc 2624747550333869278416773953 := luc 7 [2, 2, 2, 2, 2, 2, 3, 3, 1297, 16879, 208150935158385979] (allC pq_2 (allC pq_2 (allC pq_2 (allC pq_2 (allC pq_2 (allC pq_2 (allC pq_3 (allC pq_3 (allC pq_1297 (allC pq_16879 (allC pq_208150935158385979 allN))))))))))) (by decide +kernel)
theorem pq_2624747550333869278416773953 : Pr 2624747550333869278416773953 := lu_2624747550333869278416773953.1
theorem lu_115792089210356248762697446949407573529996955224135760342422259061068512044369 : Luc 115792089210356248762697446949407573529996955224135760342422259061068512044369 := luc 7 [2, 2, 2, 2, 3, 71, 131, 373, 3407, 17449, 38189, 187019741, 622491383, 1002328039319, 2624747550333869278416773953] (allC pq_2 (allC pq_2 (allC pq_2 (allC pq_2 (allC pq_3 (allC pq_71 (allC pq_131 (allC pq_373 (allC pq_3407 (allC pq_17449 (allC pq_38189 (allC pq_187019741 (allC pq_622491383 (allC pq_1002328039319 (allC pq_2624747550333869278416773953 allN))))))))))))))) (by decide +kernel)
theorem pq_115792089210356248762697446949407573529996955224135760342422259061068512044369 : Pr 115792089210356248762697446949407573529996955224135760342422259061068512044369 := lu_115792089210356248762697446949407573529996955224135760342422259061068512044369.1
theorem lu_34123 : Luc 34123 := luc 2 [2, 3, 11, 11, 47] (allC pq_2 (allC pq_3 (allC pq_11 (allC pq_11 (allC pq_47 allN))))) (by decide +kernel)
theorem pq_34123 : Pr 34123 := lu_34123.1
theorem lu_409477 : Luc 409477 := luc 2 [2, 2, 3, 34123] (allC pq_2 (allC pq_2 (allC pq_3 (allC pq_34123 allN)))) (by decide +kernel)
theorem pq_409477 : Pr 409477 := lu_409477.1
theorem lu_14741173 : Luc 14741173 := luc 2 [2, 2, 3, 3, 409477] (allC pq_2 (allC pq_2 (allC pq_3 (allC pq_3 (allC pq_409477 allN))))) (by decide +kernel)
theorem pq_14741173 : Pr 14741173 := lu_14741173.1
theorem lu_58964693 : Luc 58964693 := luc 2 [2, 2, 14741173] (allC pq_2 (allC pq_2 (allC pq_14741173 allN))) (by decide +kernel)
theorem pq_58964693 : Pr 58964693 := lu_58964693.1
theorem lu_30703 : Luc 30703 := luc 3 [2, 3, 7, 17, 43] (allC pq_2 (allC pq_3 (allC pq_7 (allC pq_17 (allC pq_43 allN))))) (by decide +kernel)
theorem pq_30703 : Pr 30703 := lu_30703.1
theorem lu_41081 : Luc 41081 := luc 3 [2, 2, 2, 5, 13, 79] (allC pq_2 (allC pq_2 (allC pq_2 (allC pq_5 (allC pq_13 (allC pq_79 allN)))))) (by decide +kernel)
theorem pq_41081 : Pr 41081 := lu_41081.1
theorem lu_82163 : Luc 82163 := luc 2 [2, 41081] (allC pq_2 (allC pq_41081 allN)) (by decide +kernel)
theorem pq_82163 : Pr 82163 := lu_82163.1
theorem lu_22111 : Luc 22111 := luc 6 [2, 3, 5, 11, 67] (allC pq_2 (allC pq_3 (allC pq_5 (allC pq_11 (allC pq_67 allN))))) (by decide +kernel)
theorem pq_22111 : Pr 22111 := lu_22111.1
theorem lu_132667 : Luc 132667 := luc 5 [2, 3, 22111] (allC pq_2 (allC pq_3 (allC pq_22111 allN))) (by decide +kernel)
theorem pq_132667 : Pr 132667 := lu_132667.1
theorem lu_17231 : Luc 17231 := luc 13 [2, 5, 1723] (allC pq_2 (allC pq_5 (allC pq_1723 allN))) (by decide +kernel)
theorem pq_17231 : Pr 17231 := lu_17231.1
theorem lu_137849 : Luc 137849 := luc 3 [2, 2, 2, 17231] (allC pq_2 (allC pq_2 (allC pq_2 (allC pq_17231 allN)))) (by decide +kernel)
theorem pq_137849 : Pr 137849 := lu_137849.1
theorem lu_3044861653679985063343 : Luc 3044861653679985063343 := luc 5 [2, 3, 11, 30703, 82163, 132667, 137849] (allC pq_2 (allC pq_3 (allC pq_11 (allC pq_30703 (allC pq_82163 (allC pq_132667 (allC pq_137849 allN))))))) (by decide +kernel)
theorem pq_3044861653679985063343 : Pr 3044861653679985063343 := lu_3044861653679985063343.1
theorem lu_198211423230930754013084525763697 : Luc 198211423230930754013084525763697 := luc 5 [2, 2, 2, 2, 3, 23, 58964693, 3044861653679985063343] (allC pq_2 (allC pq_2 (allC pq_2 (allC pq_2 (allC pq_3 (allC pq_23 (allC pq_58964693 (allC pq_3044861653679985063343 allN)))))))) (by decide +kernel)
theorem pq_198211423230930754013084525763697 : Pr 198211423230930754013084525763697 := lu_198211423230930754013084525763697.1
theorem lu_269 : Luc 269 := luc 2 [2, 2, 67] (allC pq_2 (allC pq_2 (allC pq_67 allN))) (by decide +kernel)
theorem pq_269 : Pr 269 := lu_269.1
theorem lu_307 : Luc 307 := luc 5 [2, 3, 3, 17] (allC pq_2 (allC pq_3 (allC pq_3 (allC pq_17 allN)))) (by decide +kernel)
theorem pq_307 : Pr 307 := lu_307.1
theorem lu_113 : Luc 113 := luc 3 [2, 2, 2, 2, 7] (allC pq_2 (allC pq_2 (allC pq_2 (allC pq_2 (allC pq_7 allN))))) (by decide +kernel)
theorem pq_113 : Pr 113 := lu_113.1
theorem lu_2939 : Luc 2939 := luc 2 [2, 13, 113] (allC pq_2 (allC pq_13 (allC pq_113 allN))) (by decide +kernel)
theorem pq_2939 : Pr 2939 := lu_2939.1
theorem lu_5879 : Luc 5879 := luc 11 [2, 2939] (allC pq_2 (allC pq_2939 allN)) (by decide +kernel)
theorem pq_5879 : Pr 5879 := lu_5879.1
theorem lu_292386187 : Luc 292386187 := luc 2 [2, 3, 3, 3, 3, 307, 5879] (allC pq_2 (allC pq_3 (allC pq_3 (allC pq_3 (allC pq_3 (allC pq_307 (allC pq_5879 allN))))))) (by decide +kernel)
theorem pq_292386187 : Pr 292386187 := lu_292386187.1
theorem lu_213441916511 : Luc 213441916511 := luc 13 [2, 5, 73, 292386187] (allC pq_2 (allC pq_5 (allC pq_73 (allC pq_292386187 allN)))) (by decide +kernel)
theorem pq_213441916511 : Pr 213441916511 := lu_213441916511.1
theorem lu_1361 : Luc 1361 := luc 3 [2, 2, 2, 2, 5, 17] (allC pq_2 (allC pq_2 (allC pq_2 (allC pq_2 (allC pq_5 (allC pq_17 allN)))))) (by decide +kernel)
theorem pq_1361 : Pr 1361 := lu_1361.1
theorem lu_2851 : Luc 2851 := luc 2 [2, 3, 5, 5, 19] (allC pq_2 (allC pq_3 (allC pq_5 (allC pq_5 (allC pq_19 allN))))) (by decide +kernel)
theorem pq_2851 : Pr 2851 := lu_2851.1
theorem lu_3797 : Luc 3797 := luc 2 [2, 2, 13, 73] (allC pq_2 (allC pq_2 (allC pq_13 (allC pq_73 allN)))) (by decide +kernel)
theorem pq_3797 : Pr 3797 := lu_3797.1
theorem lu_531581 : Luc 531581 := luc 2 [2, 2, 5, 7, 3797] (allC pq_2 (allC pq_2 (allC pq_5 (allC pq_7 (allC pq_3797 allN))))) (by decide +kernel)
theorem pq_531581 : Pr 531581 := lu_531581.1
theorem lu_2551 : Luc 2551 := luc 6 [2, 3, 5, 5, 17] (allC pq_2 (allC pq_3 (allC pq_5 (allC pq_5 (allC pq_17 allN))))) (by decide +kernel)
theorem pq_2551 : Pr 2551 := lu_2551.1
theorem lu_1224481 : Luc 1224481 := luc 13 [2, 2, 2, 2, 2, 3, 5, 2551] (allC pq_2 (allC pq_2 (allC pq_2 (allC pq_2 (allC pq_2 (allC pq_3 (allC pq_5 (allC pq_2551 allN)))))))) (by decide +kernel)
theorem pq_1224481 : Pr 1224481 := lu_1224481.1
theorem lu_1257559732178653 : Luc 1257559732178653 := luc 2 [2, 2, 3, 7, 23, 531581, 1224481] (allC pq_2 (allC pq_2 (allC pq_3 (allC pq_7 (allC pq_23 (allC pq_531581 (allC pq_1224481 allN))))))) (by decide +kernel)
theorem pq_1257559732178653 : Pr 1257559732178653 := lu_1257559732178653.1
theorem lu_4434155615661930479 : Luc 4434155615661930479 := luc 17 [2, 41, 43, 1257559732178653] (allC pq_2 (allC pq_41 (allC pq_43 (allC pq_1257559732178653 allN)))) (by decide +kernel)
theorem pq_4434155615661930479 : Pr 4434155615661930479 := lu_4434155615661930479.1
theorem lu_172054593956031949258510691 : Luc 172054593956031949258510691 := luc 2 [2, 5, 1361, 2851, 4434155615661930479] (allC pq_2 (allC pq_5 (allC pq_1361 (allC pq_2851 (allC pq_4434155615661930479 allN))))) (by decide +kernel)
theorem pq_172054593956031949258510691 : Pr 172054593956031949258510691 := lu_172054593956031949258510691.1
theorem lu_19757330305831588566944191468367130476339 : Luc 19757330305831588566944191468367130476339 := luc 2 [2, 269, 213441916511, 172054593956031949258510691] (allC pq_2 (allC pq_269 (allC pq_213441916511 (allC pq_172054593956031949258510691 allN)))) (by decide +kernel)
theorem pq_19757330305831588566944191468367130476339 : Pr 19757330305831588566944191468367130476339 := lu_19757330305831588566944191468367130476339.1
theorem lu_276602624281642239937218680557139826668747 : Luc 276602624281642239937218680557139826668747 := luc 2 [2, 7, 19757330305831588566944191468367130476339] (allC pq_2 (allC pq_7 (allC pq_19757330305831588566944191468367130476339 allN))) (by decide +kernel)
theorem pq_276602624281642239937218680557139826668747 : Pr 276602624281642239937218680557139826668747 := lu_276602624281642239937218680557139826668747.1
theorem lu_7237005577332262213973186563042994240857116359379907606001950938285454250989 : Luc 7237005577332262213973186563042994240857116359379907606001950938285454250989 := luc 2 [2, 2, 3, 11, 198211423230930754013084525763697, 276602624281642239937218680557139826668747] (allC pq_2 (allC pq_2 (allC pq_3 (allC pq_11 (allC pq_198211423230930754013084525763697 (allC pq_276602624281642239937218680557139826668747 allN)))))) (by decide +kernel)
theorem pq_7237005577332262213973186563042994240857116359379907606001950938285454250989 : Pr 7237005577332262213973186563042994240857116359379907606001950938285454250989 := lu_7237005577332262213973186563042994240857116359379907606001950938285454250989.1

end Go.Dbr
