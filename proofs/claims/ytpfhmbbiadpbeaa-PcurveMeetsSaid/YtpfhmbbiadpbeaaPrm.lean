/- Primes: Lucas' certificates, Fermat's law. -/
import Derived.Test.YtpfhmbbiadpbeaaLib
namespace Go.Dbr
/-- a prime -/
def Pr (p : Nat) : Prop := 1 < p ∧ ∀ d, d ∣ p → d = 1 ∨ d = p
theorem Pr.mul {p a b : Nat} (hp : Pr p) (h : p ∣ a * b) : p ∣ a ∨ p ∣ b := by
  rcases hp.2 _ (Nat.gcd_dvd_left p a) with g | g
  · exact .inr (Nat.Coprime.dvd_of_dvd_mul_left g h)
  · exact .inl (by have := Nat.gcd_dvd_right p a; rwa [g] at this)
def smallB (p : Nat) : Bool := Nat.blt 1 p && (List.range p).all fun d => Nat.blt d 2 || !Nat.beq (p % d) 0
theorem pr_small {p : Nat} (h : smallB p = true) : Pr p := by
  unfold smallB at h
  simp only [Bool.and_eq_true, Nat.blt_eq, List.all_eq_true, List.mem_range, Bool.or_eq_true, Bool.not_eq_true'] at h
  refine ⟨h.1, fun d hd => ?_⟩
  rcases Nat.lt_or_ge d p with g | g
  · rcases h.2 d g with x | x
    · rcases Nat.eq_zero_or_pos d with z | z
      · subst z
        have := Nat.eq_zero_of_zero_dvd hd
        omega
      · omega
    · rw [Nat.mod_eq_zero_of_dvd hd] at x
      cases x
  · have := Nat.le_of_dvd (by omega) hd
    omega
/-- a power that is reduced on the way -/
def pw (p : Nat) : Nat → Nat → Nat → Nat
  | 0, _, _ => 1 % p
  | k + 1, g, e => cond (Nat.beq (e % 2) 1) (g * pw p k (g * g % p) (e / 2) % p) (pw p k (g * g % p) (e / 2))
theorem pw_eq {p : Nat} : ∀ (k g e : Nat), e < 2 ^ k → pw p k g e = g ^ e % p
  | 0, g, e, h => by
    have : e = 0 := by simp at h; exact h
    subst this
    rfl
  | k + 1, g, e, h => by
    have ih := pw_eq (p := p) k (g * g % p) (e / 2) (by rw [Nat.pow_succ] at h; omega)
    have hs : (g * g % p) ^ (e / 2) % p = g ^ (2 * (e / 2)) % p := by rw [← Nat.pow_mod, ← Nat.pow_two, ← Nat.pow_mul]
    unfold pw
    cases hb : Nat.beq (e % 2) 1 with
    | true =>
      have h1 : e % 2 = 1 := Nat.eq_of_beq_eq_true hb
      rw [Bool.cond_true, ih, hs, Nat.mul_mod_mod, Nat.mul_comm, ← Nat.pow_succ]
      congr 2
      omega
    | false =>
      have h1 : e % 2 ≠ 1 := Nat.ne_of_beq_eq_false hb
      rw [Bool.cond_false, ih, hs]
      congr 2
      omega
theorem pig : ∀ (N : Nat) (f : Nat → Nat), (∀ i, i < N → f i < N) → (∀ i j, i < N → j < N → f i = f j → i = j) → ∀ a, a < N → ∃ i, i < N ∧ f i = a
  | 0, _, _, _, a, h => absurd h (Nat.not_lt_zero a)
  | N + 1, f, hf, hi, a, ha => Classical.byContradiction fun hno => by
    have no : ∀ i, i < N + 1 → f i ≠ a := fun i h e => hno ⟨i, h, e⟩
    obtain ⟨i, hiN, e⟩ := pig N (fun i => if f i = N then a else f i) (fun i h => by
      have h1 := hf i (by omega)
      have h2 := no i (by omega)
      show (if f i = N then a else f i) < N
      split <;> omega) (fun i j h1 h2 e => by
      have n1 := no i (by omega)
      have n2 := no j (by omega)
      refine hi i j (by omega) (by omega) ?_
      split at e <;> split at e <;> omega) (if f N = N then a else f N) (by
      have h1 := hf N (by omega)
      have h2 := no N (by omega)
      split <;> omega)
    have n1 := no i (by omega)
    have n2 := no N (by omega)
    have : i = N := by
      refine hi i N (by omega) (by omega) ?_
      split at e <;> split at e <;> omega
    omega
theorem least {P : Nat → Prop} : ∀ n, P n → ∃ k, P k ∧ ∀ j, j < k → ¬ P j := fun n => by
  induction n using Nat.strongRecOn with
  | _ n ih =>
    intro h
    by_cases e : ∃ j, j < n ∧ P j
    · obtain ⟨j, hj, hp⟩ := e
      exact ih j hj hp
    · exact ⟨n, h, fun j hj hp => e ⟨j, hj, hp⟩⟩
def prodL : List Nat → Nat
  | [] => 1
  | q :: r => q * prodL r
theorem some_q : ∀ (qs : List Nat) (k m : Nat), (∀ q ∈ qs, Pr q) → k * m = prodL qs → m ≠ 1 → ∃ q ∈ qs, q ∣ m
  | [], k, m, _, h, h1 => absurd (Nat.eq_one_of_mul_eq_one_left h) h1
  | q :: r, k, m, hq, h, h1 => by
    have hp := hq q (List.mem_cons_self ..)
    rcases hp.mul (a := m) (b := k) (by rw [Nat.mul_comm, h]; exact Nat.dvd_mul_right _ _) with d | ⟨k', rfl⟩
    · exact ⟨q, List.mem_cons_self .., d⟩
    · have h0 : 0 < q := by have := hp.1; omega
      obtain ⟨q', hm, hd⟩ := some_q r k' m (fun x hx => hq x (List.mem_cons_of_mem _ hx)) (by rw [Nat.mul_assoc] at h; exact Nat.eq_of_mul_eq_mul_left h0 h) h1
      exact ⟨q', List.mem_cons_of_mem _ hm, hd⟩
/-- a prime, and Fermat's law of it -/
def Luc (p : Nat) : Prop := Pr p ∧ ∀ a, a % p ≠ 0 → a ^ (p - 1) % p = 1
def certB (p g : Nat) (qs : List Nat) : Bool := Nat.blt 1 p && Nat.blt p (2 ^ 256) && Nat.beq (prodL qs) (p - 1) && Nat.beq (pw p 256 g (p - 1)) 1 && qs.all fun q => !Nat.beq (pw p 256 g ((p - 1) / q)) 1
theorem allN {P : Nat → Prop} : ∀ q ∈ ([] : List Nat), P q := fun q h => by cases h
theorem allC {P : Nat → Prop} {a : Nat} {l : List Nat} (h : P a) (h2 : ∀ q ∈ l, P q) : ∀ q ∈ a :: l, P q := fun q hq => by
  rcases List.mem_cons.1 hq with rfl | e
  · exact h
  · exact h2 q e
theorem luc {p : Nat} (g : Nat) (qs : List Nat) (hq : ∀ q ∈ qs, Pr q) (h : certB p g qs = true) : Luc p := by
  unfold certB at h
  simp only [Bool.and_eq_true, Nat.blt_eq, Nat.beq_eq, List.all_eq_true, Bool.not_eq_true'] at h
  obtain ⟨⟨⟨⟨p1, pb⟩, hprod⟩, hN⟩, hall⟩ := h
  rw [pw_eq 256 g (p - 1) (by omega)] at hN
  obtain ⟨N, rfl⟩ : ∃ N, p = N + 1 := ⟨p - 1, by omega⟩
  rw [Nat.add_sub_cancel] at *
  have one : 1 % (N + 1) = 1 := Nat.mod_eq_of_lt p1
  obtain ⟨k, ⟨hk0, hk⟩, hmin⟩ := least (P := fun k => 0 < k ∧ g ^ k % (N + 1) = 1) N ⟨by omega, hN⟩
  have powk : ∀ j, (g ^ (k * j)) % (N + 1) = 1 := fun j => by rw [Nat.pow_mul, Nat.pow_mod, hk, Nat.one_pow, one]
  have hdiv : N % k = 0 := Classical.byContradiction fun hne => by
    refine hmin (N % k) (Nat.mod_lt _ hk0) ⟨by omega, ?_⟩
    have e := Nat.div_add_mod N k
    have e2 : g ^ N % (N + 1) = g ^ (k * (N / k) + N % k) % (N + 1) := by rw [e]
    rw [hN, Nat.pow_add, Nat.mul_mod, powk, Nat.one_mul, Nat.mod_mod] at e2
    exact e2.symm
  have hkm : k * (N / k) = N := by have e := Nat.div_add_mod N k; omega
  have hm1 : N / k = 1 := Classical.byContradiction fun hne => by
    obtain ⟨q, hqm, m', hd⟩ := some_q qs k (N / k) hq (by rw [hprod]; exact hkm) hne
    have hp := hq q hqm
    have e : N / q = k * m' := by
      rw [← hkm, hd, Nat.mul_left_comm]
      exact Nat.mul_div_cancel_left _ (by have := hp.1; omega)
    have hlt : N / q ≤ N := Nat.div_le_self _ _
    have c := hall q hqm
    have := Nat.ne_of_beq_eq_false c
    rw [pw_eq 256 g _ (by omega), e] at this
    exact this (powk m')
  have hkN : k = N := by rw [hm1] at hkm; omega
  subst hkN
  have nz : ∀ i, i ≤ k → g ^ i % (k + 1) ≠ 0 := fun i hi h0 => by
    have e : g ^ k = g ^ i * g ^ (k - i) := by rw [← Nat.pow_add]; congr 1; omega
    rw [e, Nat.mul_mod, h0, Nat.zero_mul, Nat.zero_mod] at hN
    cases hN
  have inj : ∀ i j, i < j → j < k → g ^ i % (k + 1) ≠ g ^ j % (k + 1) := fun i j hij hj he => by
    refine hmin (j - i) (by omega) ⟨by omega, ?_⟩
    have e1 : g ^ k = g ^ i * g ^ (k - i) := by rw [← Nat.pow_add]; congr 1; omega
    have e2 : g ^ j * g ^ (k - i) = g ^ (j - i) * g ^ k := by rw [← Nat.pow_add, ← Nat.pow_add]; congr 1; omega
    have e3 : g ^ k % (k + 1) = (g ^ (j - i) * g ^ k) % (k + 1) := by rw [← e2]; conv => lhs; rw [e1, Nat.mul_mod, he, ← Nat.mul_mod]
    rw [Nat.mul_mod, hN, Nat.mul_one, Nat.mod_mod] at e3
    exact e3.symm
  have sur : ∀ a, 0 < a → a < k + 1 → ∃ i, i < k ∧ g ^ i % (k + 1) = a := fun a h0 h1 => by
    obtain ⟨i, hi, e⟩ := pig k (fun i => g ^ i % (k + 1) - 1) (fun i hi => by
      have := nz i (by omega)
      have := Nat.mod_lt (g ^ i) (show 0 < k + 1 by omega)
      show g ^ i % (k + 1) - 1 < k
      omega) (fun i j hi hj e => by
      have n1 := nz i (by omega)
      have n2 := nz j (by omega)
      rcases Nat.lt_trichotomy i j with h | h | h
      · exact absurd (by omega) (inj i j h hj)
      · exact h
      · exact absurd (by omega) (inj j i h hi)) (a - 1) (by omega)
    have n1 := nz i (by omega)
    exact ⟨i, hi, by omega⟩
  refine ⟨⟨p1, fun d hd => ?_⟩, fun a ha => ?_⟩
  · have hle := Nat.le_of_dvd (by omega) hd
    rcases Nat.lt_or_ge d (k + 1) with hlt | hge
    · left
      have hd0 : 0 < d := Nat.pos_of_dvd_of_pos hd (by omega)
      obtain ⟨i, hi, e⟩ := sur d hd0 hlt
      have e1 : g ^ k = g ^ i * g ^ (k - i) := by rw [← Nat.pow_add]; congr 1; omega
      rw [e1, Nat.mul_mod, e] at hN
      have h1 : d ∣ d * (g ^ (k - i) % (k + 1)) % (k + 1) := (Nat.dvd_mod_iff hd).2 (Nat.dvd_mul_right _ _)
      rw [hN] at h1
      exact Nat.eq_one_of_dvd_one h1
    · right; omega
  · obtain ⟨i, hi, e⟩ := sur (a % (k + 1)) (by omega) (Nat.mod_lt _ (by omega))
    rw [Nat.add_sub_cancel, Nat.pow_mod, ← e, ← Nat.pow_mod, ← Nat.pow_mul, Nat.mul_comm, Nat.pow_mul, Nat.pow_mod, hN, Nat.one_pow, one]
theorem pq_2 : Pr 2 := pr_small (by decide +kernel)
theorem pq_3 : Pr 3 := pr_small (by decide +kernel)
theorem pq_5 : Pr 5 := pr_small (by decide +kernel)
theorem pq_7 : Pr 7 := pr_small (by decide +kernel)
theorem pq_11 : Pr 11 := pr_small (by decide +kernel)
theorem pq_13 : Pr 13 := pr_small (by decide +kernel)
theorem pq_17 : Pr 17 := pr_small (by decide +kernel)
theorem pq_23 : Pr 23 := pr_small (by decide +kernel)
theorem pq_43 : Pr 43 := pr_small (by decide +kernel)
theorem pq_53 : Pr 53 := pr_small (by decide +kernel)
theorem lu_107 : Luc 107 := luc 2 [2, 53] (allC pq_2 (allC pq_53 allN)) (by decide +kernel)
theorem pq_107 : Pr 107 := lu_107.1
theorem lu_173 : Luc 173 := luc 2 [2, 2, 43] (allC pq_2 (allC pq_2 (allC pq_43 allN))) (by decide +kernel)
theorem pq_173 : Pr 173 := lu_173.1
theorem lu_257 : Luc 257 := luc 3 [2, 2, 2, 2, 2, 2, 2, 2] (allC pq_2 (allC pq_2 (allC pq_2 (allC pq_2 (allC pq_2 (allC pq_2 (allC pq_2 (allC pq_2 allN)))))))) (by decide +kernel)
theorem pq_257 : Pr 257 := lu_257.1
theorem lu_641 : Luc 641 := luc 3 [2, 2, 2, 2, 2, 2, 2, 5] (allC pq_2 (allC pq_2 (allC pq_2 (allC pq_2 (allC pq_2 (allC pq_2 (allC pq_2 (allC pq_5 allN)))))))) (by decide +kernel)
theorem pq_641 : Pr 641 := lu_641.1
theorem lu_1531 : Luc 1531 := luc 2 [2, 3, 3, 5, 17] (allC pq_2 (allC pq_3 (allC pq_3 (allC pq_5 (allC pq_17 allN))))) (by decide +kernel)
theorem pq_1531 : Pr 1531 := lu_1531.1
theorem lu_65537 : Luc 65537 := luc 3 [2, 2, 2, 2, 2, 2, 2, 2, 2, 2, 2, 2, 2, 2, 2, 2] (allC pq_2 (allC pq_2 (allC pq_2 (allC pq_2 (allC pq_2 (allC pq_2 (allC pq_2 (allC pq_2 (allC pq_2 (allC pq_2 (allC pq_2 (allC pq_2 (allC pq_2 (allC pq_2 (allC pq_2 (allC pq_2 allN)))))))))))))))) (by decide +kernel)
theorem pq_65537 : Pr 65537 := lu_65537.1
theorem lu_661 : Luc 661 := luc 2 [2, 2, 3, 5, 11] (allC pq_2 (allC pq_2 (allC pq_3 (allC pq_5 (allC pq_11 allN))))) (by decide +kernel)
theorem pq_661 : Pr 661 := lu_661.1
theorem lu_490463 : Luc 490463 := luc 14 [2, 7, 53, 661] (allC pq_2 (allC pq_7 (allC pq_53 (allC pq_661 allN)))) (by decide +kernel)
theorem pq_490463 : Pr 490463 := lu_490463.1
theorem lu_727 : Luc 727 := luc 5 [2, 3, 11, 11] (allC pq_2 (allC pq_3 (allC pq_11 (allC pq_11 allN)))) (by decide +kernel)
theorem pq_727 : Pr 727 := lu_727.1
theorem lu_17449 : Luc 17449 := luc 14 [2, 2, 2, 3, 727] (allC pq_2 (allC pq_2 (allC pq_2 (allC pq_3 (allC pq_727 allN))))) (by decide +kernel)
theorem pq_17449 : Pr 17449 := lu_17449.1
theorem lu_6700417 : Luc 6700417 := luc 5 [2, 2, 2, 2, 2, 2, 2, 3, 17449] (allC pq_2 (allC pq_2 (allC pq_2 (allC pq_2 (allC pq_2 (allC pq_2 (allC pq_2 (allC pq_3 (allC pq_17449 allN))))))))) (by decide +kernel)
theorem pq_6700417 : Pr 6700417 := lu_6700417.1
theorem lu_241 : Luc 241 := luc 7 [2, 2, 2, 2, 3, 5] (allC pq_2 (allC pq_2 (allC pq_2 (allC pq_2 (allC pq_3 (allC pq_5 allN)))))) (by decide +kernel)
theorem pq_241 : Pr 241 := lu_241.1
theorem lu_2411 : Luc 2411 := luc 6 [2, 5, 241] (allC pq_2 (allC pq_5 (allC pq_241 allN))) (by decide +kernel)
theorem pq_2411 : Pr 2411 := lu_2411.1
theorem lu_157 : Luc 157 := luc 5 [2, 2, 3, 13] (allC pq_2 (allC pq_2 (allC pq_3 (allC pq_13 allN)))) (by decide +kernel)
theorem pq_157 : Pr 157 := lu_157.1
theorem lu_3769 : Luc 3769 := luc 7 [2, 2, 2, 3, 157] (allC pq_2 (allC pq_2 (allC pq_2 (allC pq_3 (allC pq_157 allN))))) (by decide +kernel)
theorem pq_3769 : Pr 3769 := lu_3769.1
theorem lu_204061199 : Luc 204061199 := luc 11 [2, 11, 23, 107, 3769] (allC pq_2 (allC pq_11 (allC pq_23 (allC pq_107 (allC pq_3769 allN))))) (by decide +kernel)
theorem pq_204061199 : Pr 204061199 := lu_204061199.1
theorem lu_34282281433 : Luc 34282281433 := luc 17 [2, 2, 2, 3, 7, 204061199] (allC pq_2 (allC pq_2 (allC pq_2 (allC pq_3 (allC pq_7 (allC pq_204061199 allN)))))) (by decide +kernel)
theorem pq_34282281433 : Pr 34282281433 := lu_34282281433.1
theorem lu_197 : Luc 197 := luc 2 [2, 2, 7, 7] (allC pq_2 (allC pq_2 (allC pq_7 (allC pq_7 allN)))) (by decide +kernel)
theorem pq_197 : Pr 197 := lu_197.1
theorem lu_919 : Luc 919 := luc 7 [2, 3, 3, 3, 17] (allC pq_2 (allC pq_3 (allC pq_3 (allC pq_3 (allC pq_17 allN))))) (by decide +kernel)
theorem pq_919 : Pr 919 := lu_919.1
theorem lu_3677 : Luc 3677 := luc 2 [2, 2, 919] (allC pq_2 (allC pq_2 (allC pq_919 allN))) (by decide +kernel)
theorem pq_3677 : Pr 3677 := lu_3677.1
theorem lu_66417393611 : Luc 66417393611 := luc 6 [2, 5, 53, 173, 197, 3677] (allC pq_2 (allC pq_5 (allC pq_53 (allC pq_173 (allC pq_197 (allC pq_3677 allN)))))) (by decide +kernel)
theorem pq_66417393611 : Pr 66417393611 := lu_66417393611.1
theorem lu_11290956913871 : Luc 11290956913871 := luc 13 [2, 5, 17, 66417393611] (allC pq_2 (allC pq_5 (allC pq_17 (allC pq_66417393611 allN)))) (by decide +kernel)
theorem pq_11290956913871 : Pr 11290956913871 := lu_11290956913871.1
theorem lu_757 : Luc 757 := luc 2 [2, 2, 3, 3, 3, 7] (allC pq_2 (allC pq_2 (allC pq_3 (allC pq_3 (allC pq_3 (allC pq_7 allN)))))) (by decide +kernel)
theorem pq_757 : Pr 757 := lu_757.1
theorem lu_18169 : Luc 18169 := luc 11 [2, 2, 2, 3, 757] (allC pq_2 (allC pq_2 (allC pq_2 (allC pq_3 (allC pq_757 allN))))) (by decide +kernel)
theorem pq_18169 : Pr 18169 := lu_18169.1
theorem lu_181 : Luc 181 := luc 2 [2, 2, 3, 3, 5] (allC pq_2 (allC pq_2 (allC pq_3 (allC pq_3 (allC pq_5 allN))))) (by decide +kernel)
theorem pq_181 : Pr 181 := lu_181.1
theorem lu_1087 : Luc 1087 := luc 3 [2, 3, 181] (allC pq_2 (allC pq_3 (allC pq_181 allN))) (by decide +kernel)
theorem pq_1087 : Pr 1087 := lu_1087.1
theorem lu_4349 : Luc 4349 := luc 2 [2, 2, 1087] (allC pq_2 (allC pq_2 (allC pq_1087 allN))) (by decide +kernel)
theorem pq_4349 : Pr 4349 := lu_4349.1
theorem lu_78283 : Luc 78283 := luc 3 [2, 3, 3, 4349] (allC pq_2 (allC pq_3 (allC pq_3 (allC pq_4349 allN)))) (by decide +kernel)
theorem pq_78283 : Pr 78283 := lu_78283.1
theorem lu_313 : Luc 313 := luc 10 [2, 2, 2, 3, 13] (allC pq_2 (allC pq_2 (allC pq_2 (allC pq_3 (allC pq_13 allN))))) (by decide +kernel)
theorem pq_313 : Pr 313 := lu_313.1
theorem lu_704251 : Luc 704251 := luc 2 [2, 3, 3, 5, 5, 5, 313] (allC pq_2 (allC pq_3 (allC pq_3 (allC pq_5 (allC pq_5 (allC pq_5 (allC pq_313 allN))))))) (by decide +kernel)
theorem pq_704251 : Pr 704251 := lu_704251.1
theorem lu_46076956964474543 : Luc 46076956964474543 := luc 5 [2, 23, 18169, 78283, 704251] (allC pq_2 (allC pq_23 (allC pq_18169 (allC pq_78283 (allC pq_704251 allN))))) (by decide +kernel)
theorem pq_46076956964474543 : Pr 46076956964474543 := lu_46076956964474543.1
theorem lu_774023187263532362759620327192479577272145303 : Luc 774023187263532362759620327192479577272145303 := luc 3 [2, 3, 3, 2411, 34282281433, 11290956913871, 46076956964474543] (allC pq_2 (allC pq_3 (allC pq_3 (allC pq_2411 (allC pq_34282281433 (allC pq_11290956913871 (allC pq_46076956964474543 allN))))))) (by decide +kernel)
theorem pq_774023187263532362759620327192479577272145303 : Pr 774023187263532362759620327192479577272145303 := lu_774023187263532362759620327192479577272145303.1
theorem lu_835945042244614951780389953367877943453916927241 : Luc 835945042244614951780389953367877943453916927241 := luc 11 [2, 2, 2, 3, 3, 3, 5, 774023187263532362759620327192479577272145303] (allC pq_2 (allC pq_2 (allC pq_2 (allC pq_3 (allC pq_3 (allC pq_3 (allC pq_5 (allC pq_774023187263532362759620327192479577272145303 allN)))))))) (by decide +kernel)
theorem pq_835945042244614951780389953367877943453916927241 : Pr 835945042244614951780389953367877943453916927241 := lu_835945042244614951780389953367877943453916927241.1
theorem lu_115792089210356248762697446949407573530086143415290314195533631308867097853951 : Luc 115792089210356248762697446949407573530086143415290314195533631308867097853951 := luc 6 [2, 3, 5, 5, 17, 257, 641, 1531, 65537, 490463, 6700417, 835945042244614951780389953367877943453916927241] (allC pq_2 (allC pq_3 (allC pq_5 (allC pq_5 (allC pq_17 (allC pq_257 (allC pq_641 (allC pq_1531 (allC pq_65537 (allC pq_490463 (allC pq_6700417 (allC pq_835945042244614951780389953367877943453916927241 allN)))))))))))) (by decide +kernel)
end Go.Dbr
