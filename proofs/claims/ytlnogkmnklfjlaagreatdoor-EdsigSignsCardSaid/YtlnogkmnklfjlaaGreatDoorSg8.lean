import Derived.Test.YtlnogkmnklfjlaaGreatDoorSg1
import Derived.Test.YtlnogkmnklfjlaaGreatDoorSg7
open List renaming getD → za, length → zb, replicate → zd, toArray → zg, length_replicate → zi, set → zp, length_append → zC, getD_eq_getElem?_getD → zI, all_eq_true → Zq, length_set → ZV, drop_drop → Qy, drop_left' → Qz, mem_cons_of_mem → QN, mem_cons_self → QX, take_left' → Yj
open Go.Dbr renaming then_normal → ze, u64s_lenh → zf, u64s → zh, region_from → zk, load_whole → zq, u64s_one → zt, m_gw → zQ, m_aw → Zp, d_cell_tmp → Z6
open Go.Proofs.YtlnogkmnklfjlaaGreatDoor renaming nds_len → zl, mulM → zr, powM → zJ, W256 → zU, subM → z7, addM → Zh, rootOk → QW, rootN → Yy, powM_add → Jg, leftOk3 → J2, rmulOk → XN, half_go → Kf
open Go.Dbr.Ev renaming cellAgg → zB
open Nat renaming mod_eq_of_lt → zG, mul_comm → zZ, pow_succ → z8, mul_assoc → Ze, add_mul → Zo, lt_trans → Zu, div_div_eq_div_mul → Zv, mul_one → ZA, mod_lt → ZL, le_refl → ZP, pow_zero → ZX, zero_mul → Z4, mul_zero → Z5, pow_add → Qc, lt_or_ge → Qe, mul_mod → Qg, pow_mul → Qx, zero_mod → QF, mod_mod → Q4, beq → Q6, eq_of_beq_eq_true → Yg, sub_self → Yl, div_one → Yr, div_eq_of_lt → Yx, mod_mul_mod → YN, eq_zero_of_dvd_of_lt → Jh, div_add_mod → Jk, add_sub_cancel → Jo, pow_mod → Js, mod_eq_zero_of_dvd → JA, ne_of_beq_eq_false → JB, dvd_of_mod_eq_zero → JC, mul_mod_mod → JX, pow_two → Xg, blt → Xp, one_mul → XO, le_of_dvd → XZ, dvd_mul_right → Kg, two_mul → Kn, blt_eq → Ku, one_pow → KB
open UInt8 renaming ofNat → zK
open Bool renaming and_eq_true → Za, cond_false → QT, cond_true → Q5, not_eq_true' → Yk, true_and → Yt
namespace Go.Dbr
def Pr (p : Nat) : Prop := 1 < p ∧ ∀ d, d ∣ p → d = 1 ∨ d = p
theorem Pr.mul {p a b : Nat} (hp : Pr p) (h : p ∣ a * b) : p ∣ a ∨ p ∣ b := by
  rcases hp.2 _ (Nat.gcd_dvd_left p a) with g | g
  · exact .inr (Nat.Coprime.dvd_of_dvd_mul_left g h)
  · exact .inl (by have := Nat.gcd_dvd_right p a; rwa [g] at this)
def smallB (p : Nat) : Bool := Xp 1 p && (List.range p).all fun d => Xp d 2 || !Q6 (p % d) 0
theorem pr_small {p : Nat} (h : smallB p = true) : Pr p := by
  unfold smallB at h
  simp only [Za, Ku, Zq, List.mem_range, Bool.or_eq_true, Yk] at h
  refine ⟨h.1, fun d hd => ?_⟩
  rcases Qe d p with g | g
  · rcases h.2 d g with x | x
    · rcases Nat.eq_zero_or_pos d with z | z
      · subst z
        have := Nat.eq_zero_of_zero_dvd hd
        omega
      · omega
    · rw [JA hd] at x
      cases x
  · have := XZ (by omega) hd
    omega
def pw (p : Nat) : Nat → Nat → Nat → Nat
  | 0, _, _ => 1 % p
  | k + 1, g, e => cond (Q6 (e % 2) 1) (g * pw p k (g * g % p) (e / 2) % p) (pw p k (g * g % p) (e / 2))
theorem pw_eq {p : Nat} : ∀ (k g e : Nat), e < 2 ^ k → pw p k g e = g ^ e % p
  | 0, g, e, h => by
    have : e = 0 := by simp at h; exact h
    subst this
    rfl
  | k + 1, g, e, h => by
    have ih := pw_eq (p := p) k (g * g % p) (e / 2) (by rw [z8] at h; omega)
    have hs : (g * g % p) ^ (e / 2) % p = g ^ (2 * (e / 2)) % p := by rw [← Js, ← Xg, ← Qx]
    unfold pw
    cases hb : Q6 (e % 2) 1 with
    | true =>
      have h1 : e % 2 = 1 := Yg hb
      rw [Q5, ih, hs, JX, zZ, ← z8]
      congr 2
      omega
    | false =>
      have h1 : e % 2 ≠ 1 := JB hb
      rw [QT, ih, hs]
      congr 2
      omega
theorem pig : ∀ (N : Nat) (f : Nat → Nat), (∀ i, i < N → f i < N) → (∀ i j, i < N → j < N → f i = f j → i = j) → ∀ a, a < N → ∃ i, i < N ∧ f i = a
  | 0, _, _, _, a, h => absurd h (Nat.not_lt_zero a)
  | N + 1, f, hf, hi, a, ha => Classical.byContradiction fun hno => by
    have no : ∀ i, i < N + 1 → f i ≠ a := fun i h e => hno ⟨i, h, e⟩
    obtain ⟨i, hiN, e⟩ := pig N (fun i => if f i = N then a else f i) (fun i h => by
      have h1 := hf i (by omega)
      have h2 := no i (by omega)
      show (if f i = N then a else f i) < N
      split <;> omega) (fun i j h1 h2 e => by
      have n1 := no i (by omega)
      have n2 := no j (by omega)
      refine hi i j (by omega) (by omega) ?_
      split at e <;> split at e <;> omega) (if f N = N then a else f N) (by
      have h1 := hf N (by omega)
      have h2 := no N (by omega)
      split <;> omega)
    have n1 := no i (by omega)
    have n2 := no N (by omega)
    have : i = N := by
      refine hi i N (by omega) (by omega) ?_
      split at e <;> split at e <;> omega
    omega
theorem least {P : Nat → Prop} : ∀ n, P n → ∃ k, P k ∧ ∀ j, j < k → ¬ P j := fun n => by
  induction n using Nat.strongRecOn with
  | _ n ih =>
    intro h
    by_cases e : ∃ j, j < n ∧ P j
    · obtain ⟨j, hj, hp⟩ := e
      exact ih j hj hp
    · exact ⟨n, h, fun j hj hp => e ⟨j, hj, hp⟩⟩
def prodL : List Nat → Nat
  | [] => 1
  | q :: r => q * prodL r
theorem some_q : ∀ (qs : List Nat) (k m : Nat), (∀ q ∈ qs, Pr q) → k * m = prodL qs → m ≠ 1 → ∃ q ∈ qs, q ∣ m
  | [], k, m, _, h, h1 => absurd (Nat.eq_one_of_mul_eq_one_left h) h1
  | q :: r, k, m, hq, h, h1 => by
    have hp := hq q (QX ..)
    rcases hp.mul (a := m) (b := k) (by rw [zZ, h]; exact Kg _ _) with d | ⟨k', rfl⟩
    · exact ⟨q, QX .., d⟩
    · have h0 : 0 < q := by have := hp.1; omega
      obtain ⟨q', hm, hd⟩ := some_q r k' m (fun x hx => hq x (QN _ hx)) (by rw [Ze] at h; exact Nat.eq_of_mul_eq_mul_left h0 h) h1
      exact ⟨q', QN _ hm, hd⟩
def Luc (p : Nat) : Prop := Pr p ∧ ∀ a, a % p ≠ 0 → a ^ (p - 1) % p = 1
def certB (p g : Nat) (qs : List Nat) : Bool := Xp 1 p && Xp p (2 ^ 256) && Q6 (prodL qs) (p - 1) && Q6 (pw p 256 g (p - 1)) 1 && qs.all fun q => !Q6 (pw p 256 g ((p - 1) / q)) 1
theorem allN {P : Nat → Prop} : ∀ q ∈ ([] : List Nat), P q := fun q h => by cases h
theorem allC {P : Nat → Prop} {a : Nat} {l : List Nat} (h : P a) (h2 : ∀ q ∈ l, P q) : ∀ q ∈ a :: l, P q := fun q hq => by
  rcases List.mem_cons.1 hq with rfl | e
  · exact h
  · exact h2 q e
theorem luc {p : Nat} (g : Nat) (qs : List Nat) (hq : ∀ q ∈ qs, Pr q) (h : certB p g qs = true) : Luc p := by
  unfold certB at h
  simp only [Za, Ku, Nat.beq_eq, Zq, Yk] at h
  obtain ⟨⟨⟨⟨p1, pb⟩, hprod⟩, hN⟩, hall⟩ := h
  rw [pw_eq 256 g (p - 1) (by omega)] at hN
  obtain ⟨N, rfl⟩ : ∃ N, p = N + 1 := ⟨p - 1, by omega⟩
  rw [Jo] at *
  have one : 1 % (N + 1) = 1 := zG p1
  obtain ⟨k, ⟨hk0, hk⟩, hmin⟩ := least (P := fun k => 0 < k ∧ g ^ k % (N + 1) = 1) N ⟨by omega, hN⟩
  have powk : ∀ j, (g ^ (k * j)) % (N + 1) = 1 := fun j => by rw [Qx, Js, hk, KB, one]
  have hdiv : N % k = 0 := Classical.byContradiction fun hne => by
    refine hmin (N % k) (ZL _ hk0) ⟨by omega, ?_⟩
    have e := Jk N k
    have e2 : g ^ N % (N + 1) = g ^ (k * (N / k) + N % k) % (N + 1) := by rw [e]
    rw [hN, Qc, Qg, powk, XO, Q4] at e2
    exact e2.symm
  have hkm : k * (N / k) = N := by have e := Jk N k; omega
  have hm1 : N / k = 1 := Classical.byContradiction fun hne => by
    obtain ⟨q, hqm, m', hd⟩ := some_q qs k (N / k) hq (by rw [hprod]; exact hkm) hne
    have hp := hq q hqm
    have e : N / q = k * m' := by
      rw [← hkm, hd, Nat.mul_left_comm]
      exact Nat.mul_div_cancel_left _ (by have := hp.1; omega)
    have hlt : N / q ≤ N := Nat.div_le_self _ _
    have c := hall q hqm
    have := JB c
    rw [pw_eq 256 g _ (by omega), e] at this
    exact this (powk m')
  have hkN : k = N := by rw [hm1] at hkm; omega
  subst hkN
  have nz : ∀ i, i ≤ k → g ^ i % (k + 1) ≠ 0 := fun i hi h0 => by
    have e : g ^ k = g ^ i * g ^ (k - i) := by rw [← Qc]; congr 1; omega
    rw [e, Qg, h0, Z4, QF] at hN
    cases hN
  have inj : ∀ i j, i < j → j < k → g ^ i % (k + 1) ≠ g ^ j % (k + 1) := fun i j hij hj he => by
    refine hmin (j - i) (by omega) ⟨by omega, ?_⟩
    have e1 : g ^ k = g ^ i * g ^ (k - i) := by rw [← Qc]; congr 1; omega
    have e2 : g ^ j * g ^ (k - i) = g ^ (j - i) * g ^ k := by rw [← Qc, ← Qc]; congr 1; omega
    have e3 : g ^ k % (k + 1) = (g ^ (j - i) * g ^ k) % (k + 1) := by rw [← e2]; conv => lhs; rw [e1, Qg, he, ← Qg]
    rw [Qg, hN, ZA, Q4] at e3
    exact e3.symm
  have sur : ∀ a, 0 < a → a < k + 1 → ∃ i, i < k ∧ g ^ i % (k + 1) = a := fun a h0 h1 => by
    obtain ⟨i, hi, e⟩ := pig k (fun i => g ^ i % (k + 1) - 1) (fun i hi => by
      have := nz i (by omega)
      have := ZL (g ^ i) (show 0 < k + 1 by omega)
      show g ^ i % (k + 1) - 1 < k
      omega) (fun i j hi hj e => by
      have n1 := nz i (by omega)
      have n2 := nz j (by omega)
      rcases Nat.lt_trichotomy i j with h | h | h
      · exact absurd (by omega) (inj i j h hj)
      · exact h
      · exact absurd (by omega) (inj j i h hi)) (a - 1) (by omega)
    have n1 := nz i (by omega)
    exact ⟨i, hi, by omega⟩
  refine ⟨⟨p1, fun d hd => ?_⟩, fun a ha => ?_⟩
  · have hle := XZ (by omega) hd
    rcases Qe d (k + 1) with hlt | hge
    · left
      have hd0 : 0 < d := Nat.pos_of_dvd_of_pos hd (by omega)
      obtain ⟨i, hi, e⟩ := sur d hd0 hlt
      have e1 : g ^ k = g ^ i * g ^ (k - i) := by rw [← Qc]; congr 1; omega
      rw [e1, Qg, e] at hN
      have h1 : d ∣ d * (g ^ (k - i) % (k + 1)) % (k + 1) := (Nat.dvd_mod_iff hd).2 (Kg _ _)
      rw [hN] at h1
      exact Nat.eq_one_of_dvd_one h1
    · right; omega
  · obtain ⟨i, hi, e⟩ := sur (a % (k + 1)) (by omega) (ZL _ (by omega))
    rw [Jo, Js, ← e, ← Js, ← Qx, zZ, Qx, Js, hN, KB, one]
theorem pq_2 : Pr 2 := pr_small (by decide +kernel)
theorem pq_3 : Pr 3 := pr_small (by decide +kernel)
theorem pq_5 : Pr 5 := pr_small (by decide +kernel)
theorem pq_7 : Pr 7 := pr_small (by decide +kernel)
theorem pq_11 : Pr 11 := pr_small (by decide +kernel)
theorem pq_13 : Pr 13 := pr_small (by decide +kernel)
theorem pq_17 : Pr 17 := pr_small (by decide +kernel)
theorem pq_19 : Pr 19 := pr_small (by decide +kernel)
theorem pq_23 : Pr 23 := pr_small (by decide +kernel)
theorem pq_29 : Pr 29 := pr_small (by decide +kernel)
theorem pq_31 : Pr 31 := pr_small (by decide +kernel)
theorem pq_37 : Pr 37 := pr_small (by decide +kernel)
theorem pq_41 : Pr 41 := pr_small (by decide +kernel)
theorem pq_43 : Pr 43 := pr_small (by decide +kernel)
theorem pq_47 : Pr 47 := pr_small (by decide +kernel)
theorem pq_53 : Pr 53 := pr_small (by decide +kernel)
theorem pq_59 : Pr 59 := pr_small (by decide +kernel)
theorem pq_67 : Pr 67 := pr_small (by decide +kernel)
theorem pq_71 : Pr 71 := pr_small (by decide +kernel)
theorem pq_73 : Pr 73 := pr_small (by decide +kernel)
theorem pq_79 : Pr 79 := pr_small (by decide +kernel)
theorem pq_83 : Pr 83 := pr_small (by decide +kernel)
theorem pq_97 : Pr 97 := pr_small (by decide +kernel)
theorem lu_239 : Luc 239 := luc 7 [2, 7, 17] (allC pq_2 (allC pq_7 (allC pq_17 allN))) (by decide +kernel)
theorem pq_239 : Pr 239 := lu_239.1
theorem lu_479 : Luc 479 := luc 13 [2, 239] (allC pq_2 (allC pq_239 allN)) (by decide +kernel)
theorem pq_479 : Pr 479 := lu_479.1
theorem lu_32573 : Luc 32573 := luc 2 [2, 2, 17, 479] (allC pq_2 (allC pq_2 (allC pq_17 (allC pq_479 allN)))) (by decide +kernel)
theorem pq_32573 : Pr 32573 := lu_32573.1
theorem lu_65147 : Luc 65147 := luc 2 [2, 32573] (allC pq_2 (allC pq_32573 allN)) (by decide +kernel)
theorem pq_65147 : Pr 65147 := lu_65147.1
theorem lu_353 : Luc 353 := luc 3 [2, 2, 2, 2, 2, 11] (allC pq_2 (allC pq_2 (allC pq_2 (allC pq_2 (allC pq_2 (allC pq_11 allN)))))) (by decide +kernel)
theorem pq_353 : Pr 353 := lu_353.1
theorem lu_487 : Luc 487 := luc 3 [2, 3, 3, 3, 3, 3] (allC pq_2 (allC pq_3 (allC pq_3 (allC pq_3 (allC pq_3 (allC pq_3 allN)))))) (by decide +kernel)
theorem pq_487 : Pr 487 := lu_487.1
theorem lu_57467 : Luc 57467 := luc 2 [2, 59, 487] (allC pq_2 (allC pq_59 (allC pq_487 allN))) (by decide +kernel)
theorem pq_57467 : Pr 57467 := lu_57467.1
theorem lu_131 : Luc 131 := luc 2 [2, 5, 13] (allC pq_2 (allC pq_5 (allC pq_13 allN))) (by decide +kernel)
theorem pq_131 : Pr 131 := lu_131.1
theorem lu_132049 : Luc 132049 := luc 26 [2, 2, 2, 2, 3, 3, 7, 131] (allC pq_2 (allC pq_2 (allC pq_2 (allC pq_2 (allC pq_3 (allC pq_3 (allC pq_7 (allC pq_131 allN)))))))) (by decide +kernel)
theorem pq_132049 : Pr 132049 := lu_132049.1
theorem lu_3727 : Luc 3727 := luc 3 [2, 3, 3, 3, 3, 23] (allC pq_2 (allC pq_3 (allC pq_3 (allC pq_3 (allC pq_3 (allC pq_23 allN)))))) (by decide +kernel)
theorem pq_3727 : Pr 3727 := lu_3727.1
theorem lu_1923133 : Luc 1923133 := luc 2 [2, 2, 3, 43, 3727] (allC pq_2 (allC pq_2 (allC pq_3 (allC pq_43 (allC pq_3727 allN))))) (by decide +kernel)
theorem pq_1923133 : Pr 1923133 := lu_1923133.1
theorem lu_107 : Luc 107 := luc 2 [2, 53] (allC pq_2 (allC pq_53 allN)) (by decide +kernel)
theorem pq_107 : Pr 107 := lu_107.1
theorem lu_223 : Luc 223 := luc 3 [2, 3, 37] (allC pq_2 (allC pq_3 (allC pq_37 allN))) (by decide +kernel)
theorem pq_223 : Pr 223 := lu_223.1
theorem lu_173 : Luc 173 := luc 2 [2, 2, 43] (allC pq_2 (allC pq_2 (allC pq_43 allN))) (by decide +kernel)
theorem pq_173 : Pr 173 := lu_173.1
theorem lu_4153 : Luc 4153 := luc 5 [2, 2, 2, 3, 173] (allC pq_2 (allC pq_2 (allC pq_2 (allC pq_3 (allC pq_173 allN))))) (by decide +kernel)
theorem pq_4153 : Pr 4153 := lu_4153.1
theorem lu_1723 : Luc 1723 := luc 3 [2, 3, 7, 41] (allC pq_2 (allC pq_3 (allC pq_7 (allC pq_41 allN)))) (by decide +kernel)
theorem pq_1723 : Pr 1723 := lu_1723.1
theorem lu_430751 : Luc 430751 := luc 17 [2, 5, 5, 5, 1723] (allC pq_2 (allC pq_5 (allC pq_5 (allC pq_5 (allC pq_1723 allN))))) (by decide +kernel)
theorem pq_430751 : Pr 430751 := lu_430751.1
theorem lu_31757755568855353 : Luc 31757755568855353 := luc 10 [2, 2, 2, 3, 31, 107, 223, 4153, 430751] (allC pq_2 (allC pq_2 (allC pq_2 (allC pq_3 (allC pq_31 (allC pq_107 (allC pq_223 (allC pq_4153 (allC pq_430751 allN))))))))) (by decide +kernel)
theorem pq_31757755568855353 : Pr 31757755568855353 := lu_31757755568855353.1
theorem lu_9463 : Luc 9463 := luc 3 [2, 3, 19, 83] (allC pq_2 (allC pq_3 (allC pq_19 (allC pq_83 allN)))) (by decide +kernel)
theorem pq_9463 : Pr 9463 := lu_9463.1
theorem lu_37853 : Luc 37853 := luc 2 [2, 2, 9463] (allC pq_2 (allC pq_2 (allC pq_9463 allN))) (by decide +kernel)
theorem pq_37853 : Pr 37853 := lu_37853.1
theorem lu_75707 : Luc 75707 := luc 2 [2, 37853] (allC pq_2 (allC pq_37853 allN)) (by decide +kernel)
theorem pq_75707 : Pr 75707 := lu_75707.1
theorem lu_2437 : Luc 2437 := luc 2 [2, 2, 3, 7, 29] (allC pq_2 (allC pq_2 (allC pq_3 (allC pq_7 (allC pq_29 allN))))) (by decide +kernel)
theorem pq_2437 : Pr 2437 := lu_2437.1
theorem lu_419 : Luc 419 := luc 2 [2, 11, 19] (allC pq_2 (allC pq_11 (allC pq_19 allN))) (by decide +kernel)
theorem pq_419 : Pr 419 := lu_419.1
theorem lu_569003 : Luc 569003 := luc 2 [2, 7, 97, 419] (allC pq_2 (allC pq_7 (allC pq_97 (allC pq_419 allN)))) (by decide +kernel)
theorem pq_569003 : Pr 569003 := lu_569003.1
theorem lu_2773320623 : Luc 2773320623 := luc 5 [2, 2437, 569003] (allC pq_2 (allC pq_2437 (allC pq_569003 allN))) (by decide +kernel)
theorem pq_2773320623 : Pr 2773320623 := lu_2773320623.1
theorem lu_72106336199 : Luc 72106336199 := luc 7 [2, 13, 2773320623] (allC pq_2 (allC pq_13 (allC pq_2773320623 allN))) (by decide +kernel)
theorem pq_72106336199 : Pr 72106336199 := lu_72106336199.1
theorem lu_127 : Luc 127 := luc 3 [2, 3, 3, 7] (allC pq_2 (allC pq_3 (allC pq_3 (allC pq_7 allN)))) (by decide +kernel)
theorem pq_127 : Pr 127 := lu_127.1
theorem lu_103 : Luc 103 := luc 5 [2, 3, 17] (allC pq_2 (allC pq_3 (allC pq_17 allN))) (by decide +kernel)
theorem pq_103 : Pr 103 := lu_103.1
theorem lu_991 : Luc 991 := luc 6 [2, 3, 3, 5, 11] (allC pq_2 (allC pq_3 (allC pq_3 (allC pq_5 (allC pq_11 allN))))) (by decide +kernel)
theorem pq_991 : Pr 991 := lu_991.1
theorem lu_8574133 : Luc 8574133 := luc 2 [2, 2, 3, 7, 103, 991] (allC pq_2 (allC pq_2 (allC pq_3 (allC pq_7 (allC pq_103 (allC pq_991 allN)))))) (by decide +kernel)
theorem pq_8574133 : Pr 8574133 := lu_8574133.1
theorem lu_1919519569386763 : Luc 1919519569386763 := luc 2 [2, 3, 7, 19, 47, 47, 127, 8574133] (allC pq_2 (allC pq_3 (allC pq_7 (allC pq_19 (allC pq_47 (allC pq_47 (allC pq_127 (allC pq_8574133 allN)))))))) (by decide +kernel)
theorem pq_1919519569386763 : Pr 1919519569386763 := lu_1919519569386763.1
theorem lu_75445702479781427272750846543864801 : Luc 75445702479781427272750846543864801 := luc 7 [2, 2, 2, 2, 2, 3, 3, 5, 5, 75707, 72106336199, 1919519569386763] (allC pq_2 (allC pq_2 (allC pq_2 (allC pq_2 (allC pq_2 (allC pq_3 (allC pq_3 (allC pq_5 (allC pq_5 (allC pq_75707 (allC pq_72106336199 (allC pq_1919519569386763 allN)))))))))))) (by decide +kernel)
theorem pq_75445702479781427272750846543864801 : Pr 75445702479781427272750846543864801 := lu_75445702479781427272750846543864801.1
theorem lu_74058212732561358302231226437062788676166966415465897661863160754340907 : Luc 74058212732561358302231226437062788676166966415465897661863160754340907 := luc 2 [2, 3, 353, 57467, 132049, 1923133, 31757755568855353, 75445702479781427272750846543864801] (allC pq_2 (allC pq_3 (allC pq_353 (allC pq_57467 (allC pq_132049 (allC pq_1923133 (allC pq_31757755568855353 (allC pq_75445702479781427272750846543864801 allN)))))))) (by decide +kernel)
theorem pq_74058212732561358302231226437062788676166966415465897661863160754340907 : Pr 74058212732561358302231226437062788676166966415465897661863160754340907 := lu_74058212732561358302231226437062788676166966415465897661863160754340907.1
theorem lu_57896044618658097711785492504343953926634992332820282019728792003956564819949 : Luc 57896044618658097711785492504343953926634992332820282019728792003956564819949 := luc 2 [2, 2, 3, 65147, 74058212732561358302231226437062788676166966415465897661863160754340907] (allC pq_2 (allC pq_2 (allC pq_3 (allC pq_65147 (allC pq_74058212732561358302231226437062788676166966415465897661863160754340907 allN))))) (by decide +kernel)
theorem lu_257 : Luc 257 := luc 3 [2, 2, 2, 2, 2, 2, 2, 2] (allC pq_2 (allC pq_2 (allC pq_2 (allC pq_2 (allC pq_2 (allC pq_2 (allC pq_2 (allC pq_2 allN)))))))) (by decide +kernel)
theorem pq_257 : Pr 257 := lu_257.1
theorem lu_641 : Luc 641 := luc 3 [2, 2, 2, 2, 2, 2, 2, 5] (allC pq_2 (allC pq_2 (allC pq_2 (allC pq_2 (allC pq_2 (allC pq_2 (allC pq_2 (allC pq_5 allN)))))))) (by decide +kernel)
theorem pq_641 : Pr 641 := lu_641.1
theorem lu_1531 : Luc 1531 := luc 2 [2, 3, 3, 5, 17] (allC pq_2 (allC pq_3 (allC pq_3 (allC pq_5 (allC pq_17 allN))))) (by decide +kernel)
theorem pq_1531 : Pr 1531 := lu_1531.1
theorem lu_65537 : Luc 65537 := luc 3 [2, 2, 2, 2, 2, 2, 2, 2, 2, 2, 2, 2, 2, 2, 2, 2] (allC pq_2 (allC pq_2 (allC pq_2 (allC pq_2 (allC pq_2 (allC pq_2 (allC pq_2 (allC pq_2 (allC pq_2 (allC pq_2 (allC pq_2 (allC pq_2 (allC pq_2 (allC pq_2 (allC pq_2 (allC pq_2 allN)))))))))))))))) (by decide +kernel)
theorem pq_65537 : Pr 65537 := lu_65537.1
theorem lu_661 : Luc 661 := luc 2 [2, 2, 3, 5, 11] (allC pq_2 (allC pq_2 (allC pq_3 (allC pq_5 (allC pq_11 allN))))) (by decide +kernel)
theorem pq_661 : Pr 661 := lu_661.1
theorem lu_490463 : Luc 490463 := luc 14 [2, 7, 53, 661] (allC pq_2 (allC pq_7 (allC pq_53 (allC pq_661 allN)))) (by decide +kernel)
theorem pq_490463 : Pr 490463 := lu_490463.1
theorem lu_727 : Luc 727 := luc 5 [2, 3, 11, 11] (allC pq_2 (allC pq_3 (allC pq_11 (allC pq_11 allN)))) (by decide +kernel)
theorem pq_727 : Pr 727 := lu_727.1
theorem lu_17449 : Luc 17449 := luc 14 [2, 2, 2, 3, 727] (allC pq_2 (allC pq_2 (allC pq_2 (allC pq_3 (allC pq_727 allN))))) (by decide +kernel)
theorem pq_17449 : Pr 17449 := lu_17449.1
theorem lu_6700417 : Luc 6700417 := luc 5 [2, 2, 2, 2, 2, 2, 2, 3, 17449] (allC pq_2 (allC pq_2 (allC pq_2 (allC pq_2 (allC pq_2 (allC pq_2 (allC pq_2 (allC pq_3 (allC pq_17449 allN))))))))) (by decide +kernel)
theorem pq_6700417 : Pr 6700417 := lu_6700417.1
theorem lu_241 : Luc 241 := luc 7 [2, 2, 2, 2, 3, 5] (allC pq_2 (allC pq_2 (allC pq_2 (allC pq_2 (allC pq_3 (allC pq_5 allN)))))) (by decide +kernel)
theorem pq_241 : Pr 241 := lu_241.1
theorem lu_2411 : Luc 2411 := luc 6 [2, 5, 241] (allC pq_2 (allC pq_5 (allC pq_241 allN))) (by decide +kernel)
theorem pq_2411 : Pr 2411 := lu_2411.1
theorem lu_157 : Luc 157 := luc 5 [2, 2, 3, 13] (allC pq_2 (allC pq_2 (allC pq_3 (allC pq_13 allN)))) (by decide +kernel)
theorem pq_157 : Pr 157 := lu_157.1
theorem lu_3769 : Luc 3769 := luc 7 [2, 2, 2, 3, 157] (allC pq_2 (allC pq_2 (allC pq_2 (allC pq_3 (allC pq_157 allN))))) (by decide +kernel)
theorem pq_3769 : Pr 3769 := lu_3769.1
theorem lu_204061199 : Luc 204061199 := luc 11 [2, 11, 23, 107, 3769] (allC pq_2 (allC pq_11 (allC pq_23 (allC pq_107 (allC pq_3769 allN))))) (by decide +kernel)
theorem pq_204061199 : Pr 204061199 := lu_204061199.1
theorem lu_34282281433 : Luc 34282281433 := luc 17 [2, 2, 2, 3, 7, 204061199] (allC pq_2 (allC pq_2 (allC pq_2 (allC pq_3 (allC pq_7 (allC pq_204061199 allN)))))) (by decide +kernel)
theorem pq_34282281433 : Pr 34282281433 := lu_34282281433.1
theorem lu_197 : Luc 197 := luc 2 [2, 2, 7, 7] (allC pq_2 (allC pq_2 (allC pq_7 (allC pq_7 allN)))) (by decide +kernel)
theorem pq_197 : Pr 197 := lu_197.1
theorem lu_919 : Luc 919 := luc 7 [2, 3, 3, 3, 17] (allC pq_2 (allC pq_3 (allC pq_3 (allC pq_3 (allC pq_17 allN))))) (by decide +kernel)
theorem pq_919 : Pr 919 := lu_919.1
theorem lu_3677 : Luc 3677 := luc 2 [2, 2, 919] (allC pq_2 (allC pq_2 (allC pq_919 allN))) (by decide +kernel)
theorem pq_3677 : Pr 3677 := lu_3677.1
theorem lu_66417393611 : Luc 66417393611 := luc 6 [2, 5, 53, 173, 197, 3677] (allC pq_2 (allC pq_5 (allC pq_53 (allC pq_173 (allC pq_197 (allC pq_3677 allN)))))) (by decide +kernel)
theorem pq_66417393611 : Pr 66417393611 := lu_66417393611.1
theorem lu_11290956913871 : Luc 11290956913871 := luc 13 [2, 5, 17, 66417393611] (allC pq_2 (allC pq_5 (allC pq_17 (allC pq_66417393611 allN)))) (by decide +kernel)
theorem pq_11290956913871 : Pr 11290956913871 := lu_11290956913871.1
theorem lu_757 : Luc 757 := luc 2 [2, 2, 3, 3, 3, 7] (allC pq_2 (allC pq_2 (allC pq_3 (allC pq_3 (allC pq_3 (allC pq_7 allN)))))) (by decide +kernel)
theorem pq_757 : Pr 757 := lu_757.1
theorem lu_18169 : Luc 18169 := luc 11 [2, 2, 2, 3, 757] (allC pq_2 (allC pq_2 (allC pq_2 (allC pq_3 (allC pq_757 allN))))) (by decide +kernel)
theorem pq_18169 : Pr 18169 := lu_18169.1
theorem lu_181 : Luc 181 := luc 2 [2, 2, 3, 3, 5] (allC pq_2 (allC pq_2 (allC pq_3 (allC pq_3 (allC pq_5 allN))))) (by decide +kernel)
theorem pq_181 : Pr 181 := lu_181.1
theorem lu_1087 : Luc 1087 := luc 3 [2, 3, 181] (allC pq_2 (allC pq_3 (allC pq_181 allN))) (by decide +kernel)
theorem pq_1087 : Pr 1087 := lu_1087.1
theorem lu_4349 : Luc 4349 := luc 2 [2, 2, 1087] (allC pq_2 (allC pq_2 (allC pq_1087 allN))) (by decide +kernel)
theorem pq_4349 : Pr 4349 := lu_4349.1
theorem lu_78283 : Luc 78283 := luc 3 [2, 3, 3, 4349] (allC pq_2 (allC pq_3 (allC pq_3 (allC pq_4349 allN)))) (by decide +kernel)
theorem pq_78283 : Pr 78283 := lu_78283.1
theorem lu_313 : Luc 313 := luc 10 [2, 2, 2, 3, 13] (allC pq_2 (allC pq_2 (allC pq_2 (allC pq_3 (allC pq_13 allN))))) (by decide +kernel)
theorem pq_313 : Pr 313 := lu_313.1
theorem lu_704251 : Luc 704251 := luc 2 [2, 3, 3, 5, 5, 5, 313] (allC pq_2 (allC pq_3 (allC pq_3 (allC pq_5 (allC pq_5 (allC pq_5 (allC pq_313 allN))))))) (by decide +kernel)
theorem pq_704251 : Pr 704251 := lu_704251.1
theorem lu_46076956964474543 : Luc 46076956964474543 := luc 5 [2, 23, 18169, 78283, 704251] (allC pq_2 (allC pq_23 (allC pq_18169 (allC pq_78283 (allC pq_704251 allN))))) (by decide +kernel)
theorem pq_46076956964474543 : Pr 46076956964474543 := lu_46076956964474543.1
theorem lu_774023187263532362759620327192479577272145303 : Luc 774023187263532362759620327192479577272145303 := luc 3 [2, 3, 3, 2411, 34282281433, 11290956913871, 46076956964474543] (allC pq_2 (allC pq_3 (allC pq_3 (allC pq_2411 (allC pq_34282281433 (allC pq_11290956913871 (allC pq_46076956964474543 allN))))))) (by decide +kernel)
theorem pq_774023187263532362759620327192479577272145303 : Pr 774023187263532362759620327192479577272145303 := lu_774023187263532362759620327192479577272145303.1
theorem lu_835945042244614951780389953367877943453916927241 : Luc 835945042244614951780389953367877943453916927241 := luc 11 [2, 2, 2, 3, 3, 3, 5, 774023187263532362759620327192479577272145303] (allC pq_2 (allC pq_2 (allC pq_2 (allC pq_3 (allC pq_3 (allC pq_3 (allC pq_5 (allC pq_774023187263532362759620327192479577272145303 allN)))))))) (by decide +kernel)
theorem pq_835945042244614951780389953367877943453916927241 : Pr 835945042244614951780389953367877943453916927241 := lu_835945042244614951780389953367877943453916927241.1
theorem lu_115792089210356248762697446949407573530086143415290314195533631308867097853951 : Luc 115792089210356248762697446949407573530086143415290314195533631308867097853951 := luc 6 [2, 3, 5, 5, 17, 257, 641, 1531, 65537, 490463, 6700417, 835945042244614951780389953367877943453916927241] (allC pq_2 (allC pq_3 (allC pq_5 (allC pq_5 (allC pq_17 (allC pq_257 (allC pq_641 (allC pq_1531 (allC pq_65537 (allC pq_490463 (allC pq_6700417 (allC pq_835945042244614951780389953367877943453916927241 allN)))))))))))) (by decide +kernel)
theorem lu_373 : Luc 373 := luc 2 [2, 2, 3, 31] (allC pq_2 (allC pq_2 (allC pq_3 (allC pq_31 allN)))) (by decide +kernel)
theorem pq_373 : Pr 373 := lu_373.1
theorem lu_3407 : Luc 3407 := luc 5 [2, 13, 131] (allC pq_2 (allC pq_13 (allC pq_131 allN))) (by decide +kernel)
theorem pq_3407 : Pr 3407 := lu_3407.1
theorem lu_9547 : Luc 9547 := luc 2 [2, 3, 37, 43] (allC pq_2 (allC pq_3 (allC pq_37 (allC pq_43 allN)))) (by decide +kernel)
theorem pq_9547 : Pr 9547 := lu_9547.1
theorem lu_38189 : Luc 38189 := luc 2 [2, 2, 9547] (allC pq_2 (allC pq_2 (allC pq_9547 allN))) (by decide +kernel)
theorem pq_38189 : Pr 38189 := lu_38189.1
theorem lu_229 : Luc 229 := luc 6 [2, 2, 3, 19] (allC pq_2 (allC pq_2 (allC pq_3 (allC pq_19 allN)))) (by decide +kernel)
theorem pq_229 : Pr 229 := lu_229.1
theorem lu_1201 : Luc 1201 := luc 11 [2, 2, 2, 2, 3, 5, 5] (allC pq_2 (allC pq_2 (allC pq_2 (allC pq_2 (allC pq_3 (allC pq_5 (allC pq_5 allN))))))) (by decide +kernel)
theorem pq_1201 : Pr 1201 := lu_1201.1
theorem lu_9350987 : Luc 9350987 := luc 2 [2, 17, 229, 1201] (allC pq_2 (allC pq_17 (allC pq_229 (allC pq_1201 allN)))) (by decide +kernel)
theorem pq_9350987 : Pr 9350987 := lu_9350987.1
theorem lu_187019741 : Luc 187019741 := luc 2 [2, 2, 5, 9350987] (allC pq_2 (allC pq_2 (allC pq_5 (allC pq_9350987 allN)))) (by decide +kernel)
theorem pq_187019741 : Pr 187019741 := lu_187019741.1
theorem lu_311 : Luc 311 := luc 17 [2, 5, 31] (allC pq_2 (allC pq_5 (allC pq_31 allN))) (by decide +kernel)
theorem pq_311 : Pr 311 := lu_311.1
theorem lu_311245691 : Luc 311245691 := luc 2 [2, 5, 7, 17, 29, 29, 311] (allC pq_2 (allC pq_5 (allC pq_7 (allC pq_17 (allC pq_29 (allC pq_29 (allC pq_311 allN))))))) (by decide +kernel)
theorem pq_311245691 : Pr 311245691 := lu_311245691.1
theorem lu_622491383 : Luc 622491383 := luc 5 [2, 311245691] (allC pq_2 (allC pq_311245691 allN)) (by decide +kernel)
theorem pq_622491383 : Pr 622491383 := lu_622491383.1
theorem lu_263 : Luc 263 := luc 5 [2, 131] (allC pq_2 (allC pq_131 allN)) (by decide +kernel)
theorem pq_263 : Pr 263 := lu_263.1
theorem lu_126241 : Luc 126241 := luc 7 [2, 2, 2, 2, 2, 3, 5, 263] (allC pq_2 (allC pq_2 (allC pq_2 (allC pq_2 (allC pq_2 (allC pq_3 (allC pq_5 (allC pq_263 allN)))))))) (by decide +kernel)
theorem pq_126241 : Pr 126241 := lu_126241.1
theorem lu_337 : Luc 337 := luc 10 [2, 2, 2, 2, 3, 7] (allC pq_2 (allC pq_2 (allC pq_2 (allC pq_2 (allC pq_3 (allC pq_7 allN)))))) (by decide +kernel)
theorem pq_337 : Pr 337 := lu_337.1
theorem lu_104471 : Luc 104471 := luc 11 [2, 5, 31, 337] (allC pq_2 (allC pq_5 (allC pq_31 (allC pq_337 allN)))) (by decide +kernel)
theorem pq_104471 : Pr 104471 := lu_104471.1
theorem lu_3969899 : Luc 3969899 := luc 2 [2, 19, 104471] (allC pq_2 (allC pq_19 (allC pq_104471 allN))) (by decide +kernel)
theorem pq_3969899 : Pr 3969899 := lu_3969899.1
theorem lu_1002328039319 : Luc 1002328039319 := luc 19 [2, 126241, 3969899] (allC pq_2 (allC pq_126241 (allC pq_3969899 allN))) (by decide +kernel)
theorem pq_1002328039319 : Pr 1002328039319 := lu_1002328039319.1
theorem lu_1297 : Luc 1297 := luc 10 [2, 2, 2, 2, 3, 3, 3, 3] (allC pq_2 (allC pq_2 (allC pq_2 (allC pq_2 (allC pq_3 (allC pq_3 (allC pq_3 (allC pq_3 allN)))))))) (by decide +kernel)
theorem pq_1297 : Pr 1297 := lu_1297.1
theorem lu_16879 : Luc 16879 := luc 3 [2, 3, 29, 97] (allC pq_2 (allC pq_3 (allC pq_29 (allC pq_97 allN)))) (by decide +kernel)
theorem pq_16879 : Pr 16879 := lu_16879.1
theorem lu_151 : Luc 151 := luc 6 [2, 3, 5, 5] (allC pq_2 (allC pq_3 (allC pq_5 (allC pq_5 allN)))) (by decide +kernel)
theorem pq_151 : Pr 151 := lu_151.1
theorem lu_1511 : Luc 1511 := luc 11 [2, 5, 151] (allC pq_2 (allC pq_5 (allC pq_151 allN))) (by decide +kernel)
theorem pq_1511 : Pr 1511 := lu_1511.1
theorem lu_3023 : Luc 3023 := luc 5 [2, 1511] (allC pq_2 (allC pq_1511 allN)) (by decide +kernel)
theorem pq_3023 : Pr 3023 := lu_3023.1
theorem lu_155317 : Luc 155317 := luc 5 [2, 2, 3, 7, 43, 43] (allC pq_2 (allC pq_2 (allC pq_3 (allC pq_7 (allC pq_43 (allC pq_43 allN)))))) (by decide +kernel)
theorem pq_155317 : Pr 155317 := lu_155317.1
theorem lu_191039911 : Luc 191039911 := luc 3 [2, 3, 5, 41, 155317] (allC pq_2 (allC pq_3 (allC pq_5 (allC pq_41 (allC pq_155317 allN))))) (by decide +kernel)
theorem pq_191039911 : Pr 191039911 := lu_191039911.1
theorem lu_208150935158385979 : Luc 208150935158385979 := luc 2 [2, 3, 11, 43, 127, 3023, 191039911] (allC pq_2 (allC pq_3 (allC pq_11 (allC pq_43 (allC pq_127 (allC pq_3023 (allC pq_191039911 allN))))))) (by decide +kernel)
theorem pq_208150935158385979 : Pr 208150935158385979 := lu_208150935158385979.1
theorem lu_2624747550333869278416773953 : Luc 2624747550333869278416773953 := luc 7 [2, 2, 2, 2, 2, 2, 3, 3, 1297, 16879, 208150935158385979] (allC pq_2 (allC pq_2 (allC pq_2 (allC pq_2 (allC pq_2 (allC pq_2 (allC pq_3 (allC pq_3 (allC pq_1297 (allC pq_16879 (allC pq_208150935158385979 allN))))))))))) (by decide +kernel)
theorem pq_2624747550333869278416773953 : Pr 2624747550333869278416773953 := lu_2624747550333869278416773953.1
theorem lu_115792089210356248762697446949407573529996955224135760342422259061068512044369 : Luc 115792089210356248762697446949407573529996955224135760342422259061068512044369 := luc 7 [2, 2, 2, 2, 3, 71, 131, 373, 3407, 17449, 38189, 187019741, 622491383, 1002328039319, 2624747550333869278416773953] (allC pq_2 (allC pq_2 (allC pq_2 (allC pq_2 (allC pq_3 (allC pq_71 (allC pq_131 (allC pq_373 (allC pq_3407 (allC pq_17449 (allC pq_38189 (allC pq_187019741 (allC pq_622491383 (allC pq_1002328039319 (allC pq_2624747550333869278416773953 allN))))))))))))))) (by decide +kernel)
theorem lu_34123 : Luc 34123 := luc 2 [2, 3, 11, 11, 47] (allC pq_2 (allC pq_3 (allC pq_11 (allC pq_11 (allC pq_47 allN))))) (by decide +kernel)
theorem pq_34123 : Pr 34123 := lu_34123.1
theorem lu_409477 : Luc 409477 := luc 2 [2, 2, 3, 34123] (allC pq_2 (allC pq_2 (allC pq_3 (allC pq_34123 allN)))) (by decide +kernel)
theorem pq_409477 : Pr 409477 := lu_409477.1
theorem lu_14741173 : Luc 14741173 := luc 2 [2, 2, 3, 3, 409477] (allC pq_2 (allC pq_2 (allC pq_3 (allC pq_3 (allC pq_409477 allN))))) (by decide +kernel)
theorem pq_14741173 : Pr 14741173 := lu_14741173.1
theorem lu_58964693 : Luc 58964693 := luc 2 [2, 2, 14741173] (allC pq_2 (allC pq_2 (allC pq_14741173 allN))) (by decide +kernel)
theorem pq_58964693 : Pr 58964693 := lu_58964693.1
theorem lu_30703 : Luc 30703 := luc 3 [2, 3, 7, 17, 43] (allC pq_2 (allC pq_3 (allC pq_7 (allC pq_17 (allC pq_43 allN))))) (by decide +kernel)
theorem pq_30703 : Pr 30703 := lu_30703.1
theorem lu_41081 : Luc 41081 := luc 3 [2, 2, 2, 5, 13, 79] (allC pq_2 (allC pq_2 (allC pq_2 (allC pq_5 (allC pq_13 (allC pq_79 allN)))))) (by decide +kernel)
theorem pq_41081 : Pr 41081 := lu_41081.1
theorem lu_82163 : Luc 82163 := luc 2 [2, 41081] (allC pq_2 (allC pq_41081 allN)) (by decide +kernel)
theorem pq_82163 : Pr 82163 := lu_82163.1
theorem lu_22111 : Luc 22111 := luc 6 [2, 3, 5, 11, 67] (allC pq_2 (allC pq_3 (allC pq_5 (allC pq_11 (allC pq_67 allN))))) (by decide +kernel)
theorem pq_22111 : Pr 22111 := lu_22111.1
theorem lu_132667 : Luc 132667 := luc 5 [2, 3, 22111] (allC pq_2 (allC pq_3 (allC pq_22111 allN))) (by decide +kernel)
theorem pq_132667 : Pr 132667 := lu_132667.1
theorem lu_17231 : Luc 17231 := luc 13 [2, 5, 1723] (allC pq_2 (allC pq_5 (allC pq_1723 allN))) (by decide +kernel)
theorem pq_17231 : Pr 17231 := lu_17231.1
theorem lu_137849 : Luc 137849 := luc 3 [2, 2, 2, 17231] (allC pq_2 (allC pq_2 (allC pq_2 (allC pq_17231 allN)))) (by decide +kernel)
theorem pq_137849 : Pr 137849 := lu_137849.1
theorem lu_3044861653679985063343 : Luc 3044861653679985063343 := luc 5 [2, 3, 11, 30703, 82163, 132667, 137849] (allC pq_2 (allC pq_3 (allC pq_11 (allC pq_30703 (allC pq_82163 (allC pq_132667 (allC pq_137849 allN))))))) (by decide +kernel)
theorem pq_3044861653679985063343 : Pr 3044861653679985063343 := lu_3044861653679985063343.1
theorem lu_198211423230930754013084525763697 : Luc 198211423230930754013084525763697 := luc 5 [2, 2, 2, 2, 3, 23, 58964693, 3044861653679985063343] (allC pq_2 (allC pq_2 (allC pq_2 (allC pq_2 (allC pq_3 (allC pq_23 (allC pq_58964693 (allC pq_3044861653679985063343 allN)))))))) (by decide +kernel)
theorem pq_198211423230930754013084525763697 : Pr 198211423230930754013084525763697 := lu_198211423230930754013084525763697.1
theorem lu_269 : Luc 269 := luc 2 [2, 2, 67] (allC pq_2 (allC pq_2 (allC pq_67 allN))) (by decide +kernel)
theorem pq_269 : Pr 269 := lu_269.1
theorem lu_307 : Luc 307 := luc 5 [2, 3, 3, 17] (allC pq_2 (allC pq_3 (allC pq_3 (allC pq_17 allN)))) (by decide +kernel)
theorem pq_307 : Pr 307 := lu_307.1
theorem lu_113 : Luc 113 := luc 3 [2, 2, 2, 2, 7] (allC pq_2 (allC pq_2 (allC pq_2 (allC pq_2 (allC pq_7 allN))))) (by decide +kernel)
theorem pq_113 : Pr 113 := lu_113.1
theorem lu_2939 : Luc 2939 := luc 2 [2, 13, 113] (allC pq_2 (allC pq_13 (allC pq_113 allN))) (by decide +kernel)
theorem pq_2939 : Pr 2939 := lu_2939.1
theorem lu_5879 : Luc 5879 := luc 11 [2, 2939] (allC pq_2 (allC pq_2939 allN)) (by decide +kernel)
theorem pq_5879 : Pr 5879 := lu_5879.1
theorem lu_292386187 : Luc 292386187 := luc 2 [2, 3, 3, 3, 3, 307, 5879] (allC pq_2 (allC pq_3 (allC pq_3 (allC pq_3 (allC pq_3 (allC pq_307 (allC pq_5879 allN))))))) (by decide +kernel)
theorem pq_292386187 : Pr 292386187 := lu_292386187.1
theorem lu_213441916511 : Luc 213441916511 := luc 13 [2, 5, 73, 292386187] (allC pq_2 (allC pq_5 (allC pq_73 (allC pq_292386187 allN)))) (by decide +kernel)
theorem pq_213441916511 : Pr 213441916511 := lu_213441916511.1
theorem lu_1361 : Luc 1361 := luc 3 [2, 2, 2, 2, 5, 17] (allC pq_2 (allC pq_2 (allC pq_2 (allC pq_2 (allC pq_5 (allC pq_17 allN)))))) (by decide +kernel)
theorem pq_1361 : Pr 1361 := lu_1361.1
theorem lu_2851 : Luc 2851 := luc 2 [2, 3, 5, 5, 19] (allC pq_2 (allC pq_3 (allC pq_5 (allC pq_5 (allC pq_19 allN))))) (by decide +kernel)
theorem pq_2851 : Pr 2851 := lu_2851.1
theorem lu_3797 : Luc 3797 := luc 2 [2, 2, 13, 73] (allC pq_2 (allC pq_2 (allC pq_13 (allC pq_73 allN)))) (by decide +kernel)
theorem pq_3797 : Pr 3797 := lu_3797.1
theorem lu_531581 : Luc 531581 := luc 2 [2, 2, 5, 7, 3797] (allC pq_2 (allC pq_2 (allC pq_5 (allC pq_7 (allC pq_3797 allN))))) (by decide +kernel)
theorem pq_531581 : Pr 531581 := lu_531581.1
theorem lu_2551 : Luc 2551 := luc 6 [2, 3, 5, 5, 17] (allC pq_2 (allC pq_3 (allC pq_5 (allC pq_5 (allC pq_17 allN))))) (by decide +kernel)
theorem pq_2551 : Pr 2551 := lu_2551.1
theorem lu_1224481 : Luc 1224481 := luc 13 [2, 2, 2, 2, 2, 3, 5, 2551] (allC pq_2 (allC pq_2 (allC pq_2 (allC pq_2 (allC pq_2 (allC pq_3 (allC pq_5 (allC pq_2551 allN)))))))) (by decide +kernel)
theorem pq_1224481 : Pr 1224481 := lu_1224481.1
theorem lu_1257559732178653 : Luc 1257559732178653 := luc 2 [2, 2, 3, 7, 23, 531581, 1224481] (allC pq_2 (allC pq_2 (allC pq_3 (allC pq_7 (allC pq_23 (allC pq_531581 (allC pq_1224481 allN))))))) (by decide +kernel)
theorem pq_1257559732178653 : Pr 1257559732178653 := lu_1257559732178653.1
theorem lu_4434155615661930479 : Luc 4434155615661930479 := luc 17 [2, 41, 43, 1257559732178653] (allC pq_2 (allC pq_41 (allC pq_43 (allC pq_1257559732178653 allN)))) (by decide +kernel)
theorem pq_4434155615661930479 : Pr 4434155615661930479 := lu_4434155615661930479.1
theorem lu_172054593956031949258510691 : Luc 172054593956031949258510691 := luc 2 [2, 5, 1361, 2851, 4434155615661930479] (allC pq_2 (allC pq_5 (allC pq_1361 (allC pq_2851 (allC pq_4434155615661930479 allN))))) (by decide +kernel)
theorem pq_172054593956031949258510691 : Pr 172054593956031949258510691 := lu_172054593956031949258510691.1
theorem lu_19757330305831588566944191468367130476339 : Luc 19757330305831588566944191468367130476339 := luc 2 [2, 269, 213441916511, 172054593956031949258510691] (allC pq_2 (allC pq_269 (allC pq_213441916511 (allC pq_172054593956031949258510691 allN)))) (by decide +kernel)
theorem pq_19757330305831588566944191468367130476339 : Pr 19757330305831588566944191468367130476339 := lu_19757330305831588566944191468367130476339.1
theorem lu_276602624281642239937218680557139826668747 : Luc 276602624281642239937218680557139826668747 := luc 2 [2, 7, 19757330305831588566944191468367130476339] (allC pq_2 (allC pq_7 (allC pq_19757330305831588566944191468367130476339 allN))) (by decide +kernel)
theorem pq_276602624281642239937218680557139826668747 : Pr 276602624281642239937218680557139826668747 := lu_276602624281642239937218680557139826668747.1
theorem lu_7237005577332262213973186563042994240857116359379907606001950938285454250989 : Luc 7237005577332262213973186563042994240857116359379907606001950938285454250989 := luc 2 [2, 2, 3, 11, 198211423230930754013084525763697, 276602624281642239937218680557139826668747] (allC pq_2 (allC pq_2 (allC pq_3 (allC pq_11 (allC pq_198211423230930754013084525763697 (allC pq_276602624281642239937218680557139826668747 allN)))))) (by decide +kernel)
end Go.Dbr

namespace Go.Proofs.YtlnogkmnklfjlaaGreatDoor
open Go.Dbr
set_option maxRecDepth 100000
set_option maxHeartbeats 2000000
set_option linter.unusedVariables false
set_option linter.unusedSimpArgs false
theorem lucF {f : Int} (hf : f = 1 ∨ f = 2 ∨ f = 3 ∨ f = 4) : Luc (mF f) := by
  rcases hf with rfl | rfl | rfl | rfl
  · exact lu_57896044618658097711785492504343953926634992332820282019728792003956564819949
  · exact lu_115792089210356248762697446949407573530086143415290314195533631308867097853951
  · exact lu_115792089210356248762697446949407573529996955224135760342422259061068512044369
  · exact lu_7237005577332262213973186563042994240857116359379907606001950938285454250989
theorem mpos {f : Int} (hf : f = 1 ∨ f = 2 ∨ f = 3 ∨ f = 4) : 0 < mF f := Zu Nat.zero_lt_one (mF_pos hf)
theorem mulM_ltM {f : Int} (hf : f = 1 ∨ f = 2 ∨ f = 3 ∨ f = 4) (x y : Nat) : zr f x y < mF f := ZL _ (mpos hf)
theorem powM_ltM {f : Int} (hf : f = 1 ∨ f = 2 ∨ f = 3 ∨ f = 4) (x y : Nat) : zJ f x y < mF f := ZL _ (mpos hf)
theorem mulM_comm (f : Int) (x y : Nat) : zr f x y = zr f y x := by rw [zr, zr, zZ]
theorem mulM_assoc (f : Int) (x y z : Nat) : zr f (zr f x y) z = zr f x (zr f y z) := by
  simp only [zr, YN, JX, Ze]
theorem mulM_one (f : Int) (x : Nat) : zr f x 1 = x % mF f := by rw [zr, ZA]
theorem fermat {f : Int} (hf : f = 1 ∨ f = 2 ∨ f = 3 ∨ f = 4) {x : Nat} (h : x % mF f ≠ 0) : zJ f x (mF f - 1) = 1 := (lucF hf).2 x h
theorem pow_0 {f : Int} {x n : Nat} (h : x % mF f = 0) (hn : n ≠ 0) : zJ f x n = 0 := by
  obtain ⟨k, rfl⟩ : ∃ k, n = k + 1 := ⟨n - 1, by omega⟩
  rw [zJ, z8, Qg, h, Z5, QF]
theorem mul_0 {f : Int} {x y : Nat} (h : x % mF f = 0) : zr f x y = 0 := by rw [zr, Qg, h, Z4, QF]
theorem powM_lsucc (f : Int) (x n : Nat) : zr f x (zJ f x n) = zJ f x (n + 1) := by rw [mulM_comm, powM_succ]
theorem inv_yes {f : Int} (hf : f = 1 ∨ f = 2 ∨ f = 3 ∨ f = 4) {x : Nat} (h : x % mF f ≠ 0) : zr f x (zJ f x (mF f - 2)) = 1 := by
  have h1 := mF_pos hf
  rw [powM_lsucc, show mF f - 2 + 1 = mF f - 1 by omega, fermat hf h]
theorem powM_pw {f : Int} (x : Nat) {n : Nat} (h : n < 2 ^ 256) : zJ f x n = pw (mF f) 256 x n := (pw_eq 256 x n h).symm
theorem powM_sq (f : Int) (x n : Nat) : zJ f (zr f x x) n = zJ f x (2 * n) := by
  rw [zJ, zr, ← Js, ← Xg, ← Qx, zJ]
theorem pow_M1 {f : Int} (hf : f = 1 ∨ f = 2 ∨ f = 3 ∨ f = 4) (x : Nat) : zJ f x (mF f + 1) = zr f x x := by
  have h1 := mF_pos hf
  by_cases h : x % mF f = 0
  · rw [pow_0 h (by omega), mul_0 h]
  · have e : zJ f x (mF f + 1) = zr f (zJ f x (mF f - 1)) (zJ f x 2) := by rw [Jg]; congr 1; omega
    rw [e, fermat hf h, zr, XO, zJ, Q4, Xg, zr]
theorem mod_M (f : Int) (x y : Nat) : zr f x y % mF f = zr f x y := Q4 _ _
theorem sq_two (x : Nat) : zr 2 (rs 2 (zr 2 x x)) (rs 2 (zr 2 x x)) = zr 2 x x := by
  rw [rs, if_pos (.inl rfl), rq, if_pos rfl, Jg, powM_sq, show 2 * ((mF 2 + 1) / 4 + (mF 2 + 1) / 4) = mF 2 + 1 by decide +kernel, pow_M1 h2f]
theorem ri_sq : zr 1 ri ri = mF 1 - 1 := by
  rw [ri, Jg, powM_pw 2 (by decide +kernel)]
  decide +kernel
theorem pr_mod {p a b : Nat} (hp : Pr p) (h : a * b % p = 0) : a % p = 0 ∨ b % p = 0 := by
  rcases hp.mul (JC h) with g | g
  · exact .inl (JA g)
  · exact .inr (JA g)
theorem sq_one {u M : Nat} (hp : Pr M) (hu : u < M) (h : u * u % M = 1) : u = 1 ∨ u = M - 1 := by
  have hM := hp.1
  have hu0 : u ≠ 0 := fun e => by subst e; rw [Z5, QF] at h; cases h
  have e : (u + 1) * (u - 1) % M = 0 := by
    have e1 : (u + 1) * (u - 1) + 1 = u * u := by
      obtain ⟨k, rfl⟩ : ∃ k, u = k + 1 := ⟨u - 1, by omega⟩
      rw [Jo, Zo, Nat.mul_add]
      omega
    have e2 := Jk (u * u) M
    rw [h] at e2
    have : (u + 1) * (u - 1) = M * (u * u / M) := by omega
    rw [this, Nat.mul_mod_right]
  rcases pr_mod hp e with g | g
  · right
    rcases Qe (u + 1) M with q | q
    · rw [zG q] at g; omega
    · omega
  · left
    rw [zG (by omega)] at g
    omega
theorem mul4 (f : Int) (a b : Nat) : zr f (zr f a b) (zr f a b) = zr f (zr f a a) (zr f b b) := by
  simp only [zr, YN, JX]
  rw [Nat.mul_mul_mul_comm]
theorem sq_onef (x : Nat) : zr 1 (rs 1 (zr 1 x x)) (rs 1 (zr 1 x x)) = zr 1 x x := by
  rw [rs]
  by_cases c : zr 1 (rq 1 (zr 1 x x)) (rq 1 (zr 1 x x)) = zr 1 (zr 1 x x) 1
  · rw [if_pos (.inr c), c, mulM_one, mod_M]
  · rw [if_neg (fun q => q.elim (by decide) c)]
    have hr : zr 1 (rq 1 (zr 1 x x)) (rq 1 (zr 1 x x)) = zr 1 (zJ 1 x ((mF 1 - 1) / 2)) (zr 1 x x) := by
      have e2 : zr 1 x x = zJ 1 x 2 := by rw [zJ, Xg, zr]
      rw [rq, if_neg (by decide), Jg, powM_sq, e2, Jg]
      congr 1
    have hx : x % mF 1 ≠ 0 := fun h => c (by rw [hr, mulM_one, mod_M, mul_0 h, zr, Z5, QF])
    have hu : zr 1 (zJ 1 x ((mF 1 - 1) / 2)) (zJ 1 x ((mF 1 - 1) / 2)) = 1 := by
      rw [Jg, show (mF 1 - 1) / 2 + (mF 1 - 1) / 2 = mF 1 - 1 by decide +kernel, fermat h1f hx]
    rcases sq_one (lucF h1f).1 (powM_ltM h1f _ _) hu with g | g
    · exact absurd (by rw [hr, g, mulM_one, mod_M, zr, XO, mod_M]) c
    · rw [mul4, hr, g, ri_sq, mulM_comm 1 (mF 1 - 1) (zr 1 x x), mulM_assoc, show zr 1 (mF 1 - 1) (mF 1 - 1) = 1 by decide +kernel, mulM_one, mod_M]
theorem neg_sq {f : Int} {r : Nat} (hr : r < mF f) (h0 : r ≠ 0) : z7 f 0 r = mF f - r ∧ zr f (mF f - r) (mF f - r) = zr f r r := by
  have e : z7 f 0 r = mF f - r := by rw [z7, QF, Nat.zero_add, zG hr, zG (by omega)]
  refine ⟨e, ?_⟩
  rw [zr, zr]
  obtain ⟨s, hs⟩ : ∃ s, mF f - r = s := ⟨_, rfl⟩
  rw [hs]
  have e2 : s * s + mF f * r = r * r + mF f * s := by
    rw [show mF f = s + r by omega, Zo, Zo]
    have := zZ s r
    omega
  have e3 := congrArg (· % mF f) e2
  simp only [Nat.add_mul_mod_self_left] at e3
  exact e3
theorem odd_M {f : Int} (hf : f = 1 ∨ f = 2 ∨ f = 3 ∨ f = 4) : mF f % 2 = 1 := by rcases hf with rfl | rfl | rfl | rfl <;> rfl
theorem rs_ltM {f : Int} (hf : f = 1 ∨ f = 2 ∨ f = 3 ∨ f = 4) (A : Nat) : rs f A < mF f := by
  unfold rs
  split
  · exact powM_ltM hf _ _
  · exact mulM_ltM hf _ _
theorem sq_law {f : Int} (h12 : f = 1 ∨ f = 2) (x : Nat) : QW f (zr f x x) = true ∧ zr f (Yy f (zr f x x)) (Yy f (zr f x x)) = zr f x x ∧ Yy f (zr f x x) % 2 = 0 := by
  have hs : zr f (rs f (zr f x x)) (rs f (zr f x x)) = zr f x x := by
    rcases h12 with rfl | rfl
    · exact sq_onef x
    · exact sq_two x
  have ok : QW f (zr f x x) = true := decide_eq_true ⟨h12, by rw [hs, mulM_one, mod_M]⟩
  have hl := rs_ltM (f := f) (by omega) (zr f x x)
  have ho := odd_M (f := f) (by omega)
  refine ⟨ok, ?_⟩
  rw [Yy, if_pos ok]
  split
  · have hn := neg_sq hl (by omega)
    rw [hn.1, hn.2, hs]
    exact ⟨rfl, by omega⟩
  · exact ⟨hs, by omega⟩
end Go.Proofs.YtlnogkmnklfjlaaGreatDoor

namespace Go.Wei
open Go.Dbr
set_option linter.unusedVariables false
section
variable {p : Nat} [NeZero p]
structure Fld (p : Nat) [NeZero p] : Prop where
  nz : ∀ x y : Fin p, x * y = 0 → x = 0 ∨ y = 0
  two : ∀ x : Fin p, x + x = 0 → x = 0
  iv : ∀ x : Fin p, x ≠ 0 → ∃ y, x * y = 1
theorem Fld.cancel {F : Fld p} {k x y : Fin p} (hk : k ≠ 0) (h : k * (x - y) = 0) : x = y := by
  rcases F.nz _ _ h with g | g
  · exact absurd g hk
  · grind -lia
end
theorem fin_mul {p : Nat} (x y : Fin p) : (x * y).val = x.val * y.val % p := rfl
theorem fin_add {p : Nat} (x y : Fin p) : (x + y).val = (x.val + y.val) % p := rfl
section
variable {p : Nat} [NeZero p]
theorem fin_zero : (0 : Fin p).val = 0 := by show 0 % p = 0; exact QF _
theorem fld_of (h : Luc p) (h2 : p ≠ 2) : Fld p := by
  have hp := h.1.1
  refine ⟨fun x y e => ?_, fun x e => ?_, fun x hx => ?_⟩
  · have e1 : x.val * y.val % p = 0 := (congrArg Fin.val e).trans fin_zero
    rcases h.1.mul (JC e1) with g | g
    · left
      apply Fin.ext
      rw [fin_zero]
      exact Jh g x.isLt
    · right
      apply Fin.ext
      rw [fin_zero]
      exact Jh g y.isLt
  · have e1 : (x.val + x.val) % p = 0 := (congrArg Fin.val e).trans fin_zero
    have e2 : p ∣ 2 * x.val := by rw [Kn]; exact JC e1
    rcases h.1.mul e2 with g | g
    · have := XZ (by decide) g
      omega
    · apply Fin.ext
      rw [fin_zero]
      exact Jh g x.isLt
  · have hv : x.val % p ≠ 0 := by
      rw [zG x.isLt]
      intro g
      exact hx (Fin.ext (g.trans fin_zero.symm))
    refine ⟨⟨x.val ^ (p - 2) % p, ZL _ (by omega)⟩, ?_⟩
    apply Fin.ext
    show x.val * (x.val ^ (p - 2) % p) % p = 1 % p
    rw [JX, zZ, ← z8, show (p - 2).succ = p - 1 by omega, h.2 _ hv, zG hp]
def fn (p : Nat) [NeZero p] (x : Nat) : Fin p := Fin.ofNat p x
theorem fn_val (x : Nat) : (fn p x).val = x % p := rfl
theorem fn_mod (x : Nat) : fn p (x % p) = fn p x := Fin.ext (by rw [fn_val, fn_val, Q4])
theorem fn_of (x : Fin p) : fn p x.val = x := Fin.ext (by rw [fn_val, zG x.isLt])
theorem fn_inj {x y : Nat} (hx : x < p) (hy : y < p) (h : fn p x = fn p y) : x = y := by
  have := congrArg Fin.val h
  rwa [fn_val, fn_val, zG hx, zG hy] at this
theorem fn_mul (x y : Nat) : fn p (x * y % p) = fn p x * fn p y := Fin.ext (by rw [fn_val, fin_mul, fn_val, fn_val, Q4, Qg])
theorem fn_add (x y : Nat) : fn p ((x + y) % p) = fn p x + fn p y := Fin.ext (by rw [fn_val, fin_add, fn_val, fn_val, Q4, Nat.add_mod])
theorem fn_sub (x y : Nat) : fn p ((x % p + p - y % p) % p) = fn p x - fn p y := Fin.ext (by
  have hp : 0 < p := Nat.pos_of_ne_zero (NeZero.ne p)
  have hy := ZL y hp
  rw [fn_val, Q4, Fin.sub_def]
  show (x % p + p - y % p) % p = (p - y % p + x % p) % p
  congr 1
  omega)
theorem fn_zero : fn p 0 = 0 := rfl
theorem fn_one : fn p 1 = 1 := rfl
theorem Fld.mul {F : Fld p} {x y : Fin p} (hx : x ≠ 0) (hy : y ≠ 0) : x * y ≠ 0 := fun h => (F.nz _ _ h).elim hx hy
theorem Fld.eq {F : Fld p} {k x y : Fin p} (hk : k ≠ 0) (h : k * x = k * y) : x = y := Fld.cancel (F := F) hk (by grind -lia)
end
end Go.Wei

namespace Go.Ed
open Go.Dbr Go.Wei
set_option linter.unusedVariables false
section
variable {p : Nat} [NeZero p]
def OnE (d x y : Fin p) : Prop := y*y - x*x = 1 + d*(x*x)*(y*y)
def SumE (d x1 y1 x2 y2 x3 y3 : Fin p) : Prop := x3*(1 + d*(x1*x2)*(y1*y2)) = x1*y2 + x2*y1 ∧ y3*(1 - d*(x1*x2)*(y1*y2)) = y1*y2 + x1*x2
structure Ec (p : Nat) [NeZero p] where
  d : Fin p
  i : Fin p
  F : Fld p
  hi : i*i = -1
  hd : ∀ x : Fin p, x*x ≠ d
  one : (1 : Fin p) ≠ 0
theorem sq_key {d i e x1 y1 x2 y2 : Fin p} (h1 : OnE d x1 y1) (h2 : OnE d x2 y2) (hi : i*i = -1) (he : e = d*(x1*x2)*(y1*y2)) (hs : e*e = 1) : d*((x1*y1*(i*x2+y2))*(x1*y1*(i*x2+y2))) = (i*x1+e*y1)*(i*x1+e*y1) := by
  unfold OnE at h1 h2
  have a1 : d*((x1*y1*(i*x2+y2))*(x1*y1*(i*x2+y2))) = d*(x1*x1)*(y1*y1)*(y2*y2-x2*x2) + (e+e)*(i*x1*y1) := by
    have : (i*x2+y2)*(i*x2+y2) = y2*y2 - x2*x2 + (i*x2*y2 + i*x2*y2) := by
      have : (i*x2+y2)*(i*x2+y2) = (i*i)*(x2*x2) + y2*y2 + (i*x2*y2 + i*x2*y2) := by grind -lia
      rw [this, hi]
      grind -lia
    have h : d*((x1*y1*(i*x2+y2))*(x1*y1*(i*x2+y2))) = d*(x1*x1)*(y1*y1)*((i*x2+y2)*(i*x2+y2)) := by clear this hs he h1 h2; grind -lia
    rw [h, this, he]
    clear this h hs he h1 h2
    grind -lia
  have a2 : (i*x1+e*y1)*(i*x1+e*y1) = y1*y1 - x1*x1 + (e+e)*(i*x1*y1) := by
    have : (i*x1+e*y1)*(i*x1+e*y1) = (i*i)*(x1*x1) + (e*e)*(y1*y1) + (e+e)*(i*x1*y1) := by clear h1 h2 hi he hs a1; grind -lia
    rw [this, hi, hs]
    clear this a1 h1 h2 hi he hs
    grind -lia
  rw [a1, a2, h2, h1]
  have a3 : d*(x1*x1)*(y1*y1)*(1 + d*(x2*x2)*(y2*y2)) = d*(x1*x1)*(y1*y1) + e*e := by rw [he]; clear a1 a2 h1 h2 hi he hs; grind -lia
  rw [a3, hs]
  clear a1 a2 a3 h1 h2 hi he hs
  grind -lia
theorem no_sq {C : Ec p} {a b : Fin p} (ha : a ≠ 0) (h : C.d*(a*a) = b*b) : False := by
  obtain ⟨v, hv⟩ := C.F.iv a ha
  apply C.hd (b*v)
  have : (b*v)*(b*v) = (b*b)*(v*v) := by grind -lia
  rw [this, ← h]
  have : C.d*(a*a)*(v*v) = C.d*((a*v)*(a*v)) := by grind -lia
  rw [this, hv]
  grind -lia
theorem Ec.two_ne {C : Ec p} {x : Fin p} (h : x ≠ 0) : x + x ≠ 0 := fun g => h (C.F.two _ g)
theorem complete {C : Ec p} {x1 y1 x2 y2 : Fin p} (h1 : OnE C.d x1 y1) (h2 : OnE C.d x2 y2) {e : Fin p} (he : e = C.d*(x1*x2)*(y1*y2)) : e*e ≠ 1 := by
  intro hs
  have hx : x1*y1 ≠ 0 := fun g => C.one (by
    have : e*e = (C.d*x2*y2)*(x1*y1)*e := by rw [he]; grind -lia
    rw [← hs, this, g]; grind -lia)
  have hy : x2*y2 ≠ 0 := fun g => C.one (by
    have : e*e = (C.d*x1*y1)*(x2*y2)*e := by rw [he]; grind -lia
    rw [← hs, this, g]; grind -lia)
  have k1 := sq_key h1 h2 C.hi he hs
  have h2' : OnE C.d x2 (-y2) := by unfold OnE at *; clear hx hy k1 h1 he hs; grind -lia
  have k2 := sq_key h1 h2' C.hi (e := -e) (by rw [he]; clear hx hy k1 h1 he hs h2'; grind -lia) (by rw [← hs]; clear hx hy k1 h1 he hs h2'; grind -lia)
  by_cases g : C.i*x2+y2 = 0
  · by_cases g2 : C.i*x2+(-y2) = 0
    · have : y2 + y2 = 0 := by
        have : y2 + y2 = (C.i*x2+y2) - (C.i*x2+(-y2)) := by clear hx hy k1 k2 h1 h2 h2' he hs g g2; grind -lia
        rw [this, g, g2]
        clear hx hy k1 k2 h1 h2 h2' he hs g g2 this
        grind -lia
      have y0 := C.F.two _ this
      exact hy (by rw [y0]; clear hx hy k1 k2 h1 h2 h2' he hs g g2 this; grind -lia)
    · exact no_sq (C := C) (Fld.mul (F := C.F) hx g2) k2
  · exact no_sq (C := C) (Fld.mul (F := C.F) hx g) k1
theorem comp_p {C : Ec p} {x1 y1 x2 y2 : Fin p} (h1 : OnE C.d x1 y1) (h2 : OnE C.d x2 y2) : 1 + C.d*(x1*x2)*(y1*y2) ≠ 0 := fun g => complete h1 h2 rfl (by
  have : C.d*(x1*x2)*(y1*y2) = -1 := by
    have : C.d*(x1*x2)*(y1*y2) = (1 + C.d*(x1*x2)*(y1*y2)) - 1 := by clear g h1 h2; grind -lia
    rw [this, g]
    clear this g h1 h2
    grind -lia
  rw [this]
  clear this g h1 h2
  grind -lia)
theorem comp_m {C : Ec p} {x1 y1 x2 y2 : Fin p} (h1 : OnE C.d x1 y1) (h2 : OnE C.d x2 y2) : 1 - C.d*(x1*x2)*(y1*y2) ≠ 0 := fun g => complete h1 h2 rfl (by
  have : C.d*(x1*x2)*(y1*y2) = 1 := by
    have : C.d*(x1*x2)*(y1*y2) = 1 - (1 - C.d*(x1*x2)*(y1*y2)) := by clear g h1 h2; grind -lia
    rw [this, g]
    clear this g h1 h2
    grind -lia
  rw [this]
  clear this g h1 h2
  grind -lia)
theorem sum_ex {C : Ec p} {x1 y1 x2 y2 : Fin p} (h1 : OnE C.d x1 y1) (h2 : OnE C.d x2 y2) : ∃ x3 y3, SumE C.d x1 y1 x2 y2 x3 y3 := by
  obtain ⟨u, hu⟩ := C.F.iv _ (comp_p h1 h2)
  obtain ⟨v, hv⟩ := C.F.iv _ (comp_m h1 h2)
  refine ⟨(x1*y2+x2*y1)*u, (y1*y2+x1*x2)*v, ?_, ?_⟩
  · have : (x1*y2+x2*y1)*u*(1 + C.d*(x1*x2)*(y1*y2)) = (x1*y2+x2*y1)*((1 + C.d*(x1*x2)*(y1*y2))*u) := by clear hu hv h1 h2; grind -lia
    rw [this, hu]
    clear this hu hv h1 h2
    grind -lia
  · have : (y1*y2+x1*x2)*v*(1 - C.d*(x1*x2)*(y1*y2)) = (y1*y2+x1*x2)*((1 - C.d*(x1*x2)*(y1*y2))*v) := by clear hu hv h1 h2; grind -lia
    rw [this, hv]
    clear this hu hv h1 h2
    grind -lia
theorem sum_uniq {C : Ec p} {x1 y1 x2 y2 x3 y3 x4 y4 : Fin p} (h1 : OnE C.d x1 y1) (h2 : OnE C.d x2 y2) (h : SumE C.d x1 y1 x2 y2 x3 y3) (h' : SumE C.d x1 y1 x2 y2 x4 y4) : x3 = x4 ∧ y3 = y4 := by
  refine ⟨Fld.eq (F := C.F) (comp_p h1 h2) ?_, Fld.eq (F := C.F) (comp_m h1 h2) ?_⟩
  · have a := h.1
    have b := h'.1
    rw [← b] at a
    clear h h' h1 h2 b
    grind -lia
  · have a := h.2
    have b := h'.2
    rw [← b] at a
    clear h h' h1 h2 b
    grind -lia
theorem on_core {d x1 y1 x2 y2 e A B : Fin p} (h1 : OnE d x1 y1) (h2 : OnE d x2 y2) (he : e = d*(x1*x2)*(y1*y2)) (hA : A = x1*y2 + x2*y1) (hB : B = y1*y2 + x1*x2) : (B*B)*((1+e)*(1+e)) - (A*A)*((1-e)*(1-e)) = ((1-e)*(1+e))*((1-e)*(1+e)) + d*(A*A)*(B*B) := by
  unfold OnE at h1 h2
  subst he hA hB
  grind -lia
theorem sum_on {C : Ec p} {x1 y1 x2 y2 x3 y3 : Fin p} (h1 : OnE C.d x1 y1) (h2 : OnE C.d x2 y2) (h : SumE C.d x1 y1 x2 y2 x3 y3) : OnE C.d x3 y3 := by
  have k := on_core h1 h2 rfl h.1 h.2
  have c1 := comp_p h1 h2
  have c2 := comp_m h1 h2
  generalize C.d*(x1*x2)*(y1*y2) = e at *
  refine Fld.eq (F := C.F) (k := ((1-e)*(1+e))*((1-e)*(1+e))) (Fld.mul (F := C.F) (Fld.mul (F := C.F) c2 c1) (Fld.mul (F := C.F) c2 c1)) ?_
  clear h h1 h2 c1 c2
  grind -lia
theorem as_x {d x1 y1 x2 y2 x3 y3 : Fin p} (h1 : OnE d x1 y1) (h2 : OnE d x2 y2) (h3 : OnE d x3 y3) :
    ((x1*y2+x2*y1)*(1-d*(x1*x2)*(y1*y2))*y3 + x3*((y1*y2+x1*x2)*(1+d*(x1*x2)*(y1*y2)))) * ((1-d*(x2*x3)*(y2*y3))*(1+d*(x2*x3)*(y2*y3)) + d*(x1*(x2*y3+x3*y2))*(y1*(y2*y3+x2*x3))) =
    (x1*((y2*y3+x2*x3)*(1+d*(x2*x3)*(y2*y3))) + (x2*y3+x3*y2)*(1-d*(x2*x3)*(y2*y3))*y1) * ((1-d*(x1*x2)*(y1*y2))*(1+d*(x1*x2)*(y1*y2)) + d*((x1*y2+x2*y1)*x3)*((y1*y2+x1*x2)*y3)) := by
  unfold OnE at h1 h2 h3
  grind -lia
theorem as_y {d x1 y1 x2 y2 x3 y3 : Fin p} (h1 : OnE d x1 y1) (h2 : OnE d x2 y2) (h3 : OnE d x3 y3) :
    ((y1*y2+x1*x2)*(1+d*(x1*x2)*(y1*y2))*y3 + (x1*y2+x2*y1)*(1-d*(x1*x2)*(y1*y2))*x3) * ((1-d*(x2*x3)*(y2*y3))*(1+d*(x2*x3)*(y2*y3)) - d*(x1*(x2*y3+x3*y2))*(y1*(y2*y3+x2*x3))) =
    (y1*((y2*y3+x2*x3)*(1+d*(x2*x3)*(y2*y3))) + x1*((x2*y3+x3*y2)*(1-d*(x2*x3)*(y2*y3)))) * ((1-d*(x1*x2)*(y1*y2))*(1+d*(x1*x2)*(y1*y2)) - d*((x1*y2+x2*y1)*x3)*((y1*y2+x1*x2)*y3)) := by
  unfold OnE at h1 h2 h3
  grind -lia
theorem fin_cancel {F : Fld p} {D1 D2 N1 N2 Q1 Q2 X Y : Fin p} (d1 : D1 ≠ 0) (d2 : D2 ≠ 0) (q1 : Q1 ≠ 0) (q2 : Q2 ≠ 0) (h : (D1*N1)*(D2*Q2) = (D2*N2)*(D1*Q1)) (hX : X*Q1 = N1) (hY : Y*Q2 = N2) : X = Y := by
  refine Fld.eq (F := F) (k := (D1*D2)*(Q1*Q2)) (Fld.mul (F := F) (Fld.mul (F := F) d1 d2) (Fld.mul (F := F) q1 q2)) ?_
  subst hX hY
  clear d1 d2 q1 q2
  grind -lia
theorem sum_assoc {C : Ec p} {x1 y1 x2 y2 x3 y3 xS yS xU yU X Y X' Y' : Fin p} (h1 : OnE C.d x1 y1) (h2 : OnE C.d x2 y2) (h3 : OnE C.d x3 y3)
    (hS : SumE C.d x1 y1 x2 y2 xS yS) (hU : SumE C.d x2 y2 x3 y3 xU yU) (hX : SumE C.d xS yS x3 y3 X Y) (hY : SumE C.d x1 y1 xU yU X' Y') : X = X' ∧ Y = Y' := by
  have oS := sum_on h1 h2 hS
  have oU := sum_on h2 h3 hU
  have a1 := comp_p h1 h2
  have a2 := comp_m h1 h2
  have a3 := comp_p h2 h3
  have a4 := comp_m h2 h3
  have a5 := comp_p oS h3
  have a6 := comp_m oS h3
  have a7 := comp_p h1 oU
  have a8 := comp_m h1 oU
  have kx := as_x h1 h2 h3
  have ky := as_y h1 h2 h3
  obtain ⟨s1, s2⟩ := hS
  obtain ⟨u1, u2⟩ := hU
  rw [← s1, ← s2, ← u1, ← u2] at kx ky
  have d1 := Fld.mul (F := C.F) a2 a1
  have d2 := Fld.mul (F := C.F) a4 a3
  constructor
  · refine fin_cancel (F := C.F) d1 d2 a5 a7 ?_ hX.1 hY.1
    clear oS oU hX hY h1 h2 h3 ky a1 a2 a3 a4 a5 a6 a7 a8 d1 d2
    clear s1 s2 u1 u2
    generalize C.d*(x1*x2)*(y1*y2) = e at *
    generalize C.d*(x2*x3)*(y2*y3) = f at *
    grind -lia
  · refine fin_cancel (F := C.F) d1 d2 a6 a8 ?_ hX.2 hY.2
    clear oS oU hX hY h1 h2 h3 kx a1 a2 a3 a4 a5 a6 a7 a8 d1 d2
    clear s1 s2 u1 u2
    generalize C.d*(x1*x2)*(y1*y2) = e at *
    generalize C.d*(x2*x3)*(y2*y3) = f at *
    grind -lia
def Ec.G (C : Ec p) : Type := {P : Fin p × Fin p // OnE C.d P.1 P.2}
noncomputable def Ec.add {C : Ec p} (P Q : C.G) : C.G := ⟨((sum_ex P.2 Q.2).choose, (sum_ex P.2 Q.2).choose_spec.choose), sum_on P.2 Q.2 (sum_ex P.2 Q.2).choose_spec.choose_spec⟩
theorem Ec.is {C : Ec p} (P Q : C.G) : SumE C.d P.1.1 P.1.2 Q.1.1 Q.1.2 (Ec.add P Q).1.1 (Ec.add P Q).1.2 := (sum_ex P.2 Q.2).choose_spec.choose_spec
theorem Ec.eq {C : Ec p} {P Q R : C.G} (h : SumE C.d P.1.1 P.1.2 Q.1.1 Q.1.2 R.1.1 R.1.2) : Ec.add P Q = R := by
  have := sum_uniq P.2 Q.2 (Ec.is P Q) h
  exact Subtype.ext (Prod.ext this.1 this.2)
theorem Ec.assoc {C : Ec p} (P Q R : C.G) : Ec.add (Ec.add P Q) R = Ec.add P (Ec.add Q R) := by
  have := sum_assoc P.2 Q.2 R.2 (Ec.is P Q) (Ec.is Q R) (Ec.is (Ec.add P Q) R) (Ec.is P (Ec.add Q R))
  exact Subtype.ext (Prod.ext this.1 this.2)
theorem Ec.comm {C : Ec p} (P Q : C.G) : Ec.add P Q = Ec.add Q P := Ec.eq (by
  have := Ec.is Q P
  generalize (Ec.add Q P).1 = R at *
  obtain ⟨h1, h2⟩ := this
  exact ⟨by grind -lia, by grind -lia⟩)
def Ec.zero {C : Ec p} : C.G := ⟨(0, 1), by unfold OnE; grind -lia⟩
theorem Ec.zero_add {C : Ec p} (P : C.G) : Ec.add Ec.zero P = P := Ec.eq (by
  obtain ⟨⟨x, y⟩, h⟩ := P
  show SumE C.d 0 1 x y x y
  clear h
  exact ⟨by grind -lia, by grind -lia⟩)
theorem Ec.add_zero {C : Ec p} (P : C.G) : Ec.add P Ec.zero = P := by rw [Ec.comm, Ec.zero_add]
noncomputable def Ec.mul {C : Ec p} : Nat → C.G → C.G
  | 0, _ => Ec.zero
  | n + 1, P => Ec.add (Ec.mul n P) P
theorem Ec.mul_add {C : Ec p} (P : C.G) (m : Nat) : ∀ n, Ec.mul (m + n) P = Ec.add (Ec.mul m P) (Ec.mul n P)
  | 0 => by rw [Nat.add_zero, Ec.mul, Ec.add_zero]
  | n + 1 => by rw [← Nat.add_assoc, Ec.mul, Ec.mul_add P m n, Ec.mul, Ec.assoc]
theorem Ec.mul_one {C : Ec p} (P : C.G) : Ec.mul 1 P = P := by rw [Ec.mul, Ec.mul, Ec.zero_add]
theorem Ec.mul_mul {C : Ec p} (P : C.G) (n : Nat) : ∀ m, Ec.mul (m * n) P = Ec.mul m (Ec.mul n P)
  | 0 => by rw [Z4, Ec.mul, Ec.mul]
  | m + 1 => by rw [Nat.succ_mul, Ec.mul_add, Ec.mul_mul P n m, Ec.mul]
def Rep3 (X Y Z : Fin p) (P : Fin p × Fin p) : Prop := Z ≠ 0 ∧ X = P.1*Z ∧ Y = P.2*Z
def Rep4 (X Y Z T : Fin p) (P : Fin p × Fin p) : Prop := Z ≠ 0 ∧ X = P.1*Z ∧ Y = P.2*Z ∧ T = P.1*P.2*Z
theorem rep3_add {C : Ec p} {P Q : C.G} {X1 Y1 Z1 X2 Y2 Z2 : Fin p} (hp : Rep3 X1 Y1 Z1 P.1) (hq : Rep3 X2 Y2 Z2 Q.1) :
    Rep3 ((Z1*Z2)*(((Z1*Z2)*(Z1*Z2) - C.d*((X1*X2)*(Y1*Y2)))*(((X1+Y1)*(X2+Y2) - X1*X2) - Y1*Y2))) ((Z1*Z2)*(((Z1*Z2)*(Z1*Z2) + C.d*((X1*X2)*(Y1*Y2)))*(Y1*Y2 + X1*X2))) (((Z1*Z2)*(Z1*Z2) - C.d*((X1*X2)*(Y1*Y2)))*((Z1*Z2)*(Z1*Z2) + C.d*((X1*X2)*(Y1*Y2)))) (Ec.add P Q).1 := by
  have c1 := comp_p P.2 Q.2
  have c2 := comp_m P.2 Q.2
  have hs := Ec.is P Q
  generalize (Ec.add P Q).1 = R at *
  obtain ⟨⟨x1, y1⟩, o1⟩ := P
  obtain ⟨⟨x2, y2⟩, o2⟩ := Q
  obtain ⟨x3, y3⟩ := R
  obtain ⟨z1, rfl, rfl⟩ := hp
  obtain ⟨z2, rfl, rfl⟩ := hq
  simp only at c1 c2 hs ⊢
  clear o1 o2
  have zz := Fld.mul (F := C.F) z1 z2
  have e1 : (Z1*Z2)*(Z1*Z2) - C.d*((x1*Z1*(x2*Z2))*(y1*Z1*(y2*Z2))) = (Z1*Z2)*(Z1*Z2)*(1 - C.d*(x1*x2)*(y1*y2)) := by clear hs c1 c2 zz z1 z2; grind -lia
  have e2 : (Z1*Z2)*(Z1*Z2) + C.d*((x1*Z1*(x2*Z2))*(y1*Z1*(y2*Z2))) = (Z1*Z2)*(Z1*Z2)*(1 + C.d*(x1*x2)*(y1*y2)) := by clear hs c1 c2 zz z1 z2 e1; grind -lia
  have e3 : ((x1*Z1+y1*Z1)*(x2*Z2+y2*Z2) - x1*Z1*(x2*Z2)) - y1*Z1*(y2*Z2) = (Z1*Z2)*(x1*y2+x2*y1) := by clear hs c1 c2 zz z1 z2 e1 e2; grind -lia
  have e4 : y1*Z1*(y2*Z2) + x1*Z1*(x2*Z2) = (Z1*Z2)*(y1*y2+x1*x2) := by clear hs c1 c2 zz z1 z2 e1 e2 e3; grind -lia
  rw [e1, e2, e3, e4]
  obtain ⟨s1, s2⟩ := hs
  rw [← s1, ← s2]
  clear s1 s2 e1 e2 e3 e4
  generalize C.d*(x1*x2)*(y1*y2) = e at *
  generalize Z1*Z2 = k at *
  refine ⟨Fld.mul (F := C.F) (Fld.mul (F := C.F) (Fld.mul (F := C.F) zz zz) c2) (Fld.mul (F := C.F) (Fld.mul (F := C.F) zz zz) c1), ?_, ?_⟩
  · clear c1 c2 zz z1 z2; simp only; grind -lia
  · clear c1 c2 zz z1 z2; simp only; grind -lia
theorem rep4_add {C : Ec p} {P Q : C.G} {X1 Y1 Z1 T1 X2 Y2 Z2 T2 : Fin p} (hp : Rep4 X1 Y1 Z1 T1 P.1) (hq : Rep4 X2 Y2 Z2 T2 Q.1) {a b c d e f g h : Fin p} (ha : a = (Y1-X1)*(Y2-X2)) (hb : b = (Y1+X1)*(Y2+X2)) (hc : c = (T1*T2)*(C.d+C.d)) (hd : d = Z1*Z2+Z1*Z2) (he : e = b - a) (hf : f = d - c) (hg : g = d + c) (hh : h = b + a) :
    Rep4 (e*f) (g*h) (f*g) (e*h) (Ec.add P Q).1 := by
  have c1 := comp_p P.2 Q.2
  have c2 := comp_m P.2 Q.2
  have hs := Ec.is P Q
  generalize (Ec.add P Q).1 = R at *
  obtain ⟨⟨x1, y1⟩, o1⟩ := P
  obtain ⟨⟨x2, y2⟩, o2⟩ := Q
  obtain ⟨x3, y3⟩ := R
  obtain ⟨z1, rfl, rfl, rfl⟩ := hp
  obtain ⟨z2, rfl, rfl, rfl⟩ := hq
  simp only at c1 c2 hs ha hb hc hd ⊢
  clear o1 o2
  have zz := Fld.mul (F := C.F) z1 z2
  have k2 := Ec.two_ne (C := C) zz
  have e1 : f = (Z1*Z2+Z1*Z2)*(1 - C.d*(x1*x2)*(y1*y2)) := by rw [hf, hd, hc]; clear hs c1 c2 zz z1 z2 k2 ha hb hc hd he hf hg hh; grind -lia
  have e2 : g = (Z1*Z2+Z1*Z2)*(1 + C.d*(x1*x2)*(y1*y2)) := by rw [hg, hd, hc]; clear hs c1 c2 zz z1 z2 k2 ha hb hc hd he hf hg hh e1; grind -lia
  have e3 : e = (Z1*Z2+Z1*Z2)*(x1*y2+x2*y1) := by rw [he, hb, ha]; clear hs c1 c2 zz z1 z2 k2 ha hb hc hd he hf hg hh e1 e2; grind -lia
  have e4 : h = (Z1*Z2+Z1*Z2)*(y1*y2+x1*x2) := by rw [hh, hb, ha]; clear hs c1 c2 zz z1 z2 k2 ha hb hc hd he hf hg hh e1 e2 e3; grind -lia
  obtain ⟨s1, s2⟩ := hs
  rw [← s1] at e3
  rw [← s2] at e4
  rw [e1, e2, e3, e4]
  clear s1 s2 e1 e2 e3 e4 ha hb hc hd he hf hg hh
  generalize C.d*(x1*x2)*(y1*y2) = u at *
  generalize Z1*Z2+Z1*Z2 = k at *
  refine ⟨Fld.mul (F := C.F) (Fld.mul (F := C.F) k2 c2) (Fld.mul (F := C.F) k2 c1), ?_, ?_, ?_⟩
  · clear c1 c2 zz z1 z2 k2; simp only; grind -lia
  · clear c1 c2 zz z1 z2 k2; simp only; grind -lia
  · clear c1 c2 zz z1 z2 k2; simp only; grind -lia
theorem den_ne {C : Ec p} (y : Fin p) : C.d*(y*y) + 1 ≠ 0 := fun g => by
  have h : C.d*(y*y) = C.i*C.i := by rw [C.hi]; have : C.d*(y*y) = (C.d*(y*y) + 1) - 1 := by clear g; grind -lia
                                     rw [this, g]; clear this g; grind -lia
  by_cases hy : y = 0
  · subst hy
    exact C.one (by rw [← g]; clear g h; grind -lia)
  · exact no_sq (C := C) hy h
theorem on_of {C : Ec p} {x y v : Fin p} (hv : (C.d*(y*y) + 1)*v = 1) (h : x*x = (y*y - 1)*v) : OnE C.d x y := by
  have e : x*x*(C.d*(y*y) + 1) = (y*y-1)*((C.d*(y*y) + 1)*v) := by rw [h]; clear h hv; grind -lia
  rw [hv] at e
  unfold OnE
  clear hv h
  grind -lia
theorem of_on {C : Ec p} {x y v : Fin p} (hv : (C.d*(y*y) + 1)*v = 1) (h : OnE C.d x y) : x*x = (y*y - 1)*v := by
  unfold OnE at h
  have e : y*y - 1 = x*x*(C.d*(y*y)+1) := by
    have : y*y - 1 = x*x + (y*y - x*x) - 1 := by clear h hv; grind -lia
    rw [this, h]
    clear this h hv
    grind -lia
  rw [e]
  have : x*x*(C.d*(y*y)+1)*v = x*x*((C.d*(y*y)+1)*v) := by clear h hv e; grind -lia
  rw [this, hv]
  clear this h hv e
  grind -lia
end
end Go.Ed

namespace Go.Proofs.YtlnogkmnklfjlaaGreatDoor
open Go.Dbr
set_option maxRecDepth 100000
set_option maxHeartbeats 2000000
set_option linter.unusedVariables false
set_option linter.unusedSimpArgs false
abbrev PE : Nat := 57896044618658097711785492504343953926634992332820282019728792003956564819949
theorem mF1 : mF 1 = PE := rfl
theorem PE_pos : 0 < PE := by decide
theorem PE_lt : PE < zU := by decide
instance nzE : NeZero PE := ⟨by decide⟩
theorem fldE : Go.Wei.Fld PE := Go.Wei.fld_of lu_57896044618658097711785492504343953926634992332820282019728792003956564819949 (by decide)
abbrev fE (x : Nat) : Fin PE := Go.Wei.fn PE x
def DN : Nat := 37095705934669439343138083508754565189542113879843219016388785533085940283555
def D2N : Nat := 16295367250680780974490674513165176452449235426866156013048779062215315747161
def IN : Nat := 19681161376707505956807079304988542015446066515923890162744021073123829784752
theorem iE : fE IN * fE IN = -1 := by decide +kernel
theorem d2E : fE D2N = fE DN + fE DN := by decide +kernel
theorem one_neE : (1 : Fin PE) ≠ 0 := by decide +kernel
theorem nsq_abs {w p m e d : Nat} (f : w ^ e % p = 1) (he : 2 * m = e) (hd : w * w % p = d) (hm : m < 2 ^ 256) (g : pw p 256 d m ≠ 1) : False := by
  refine g ?_
  rw [pw_eq 256 d m hm, ← hd, ← Js, ← Xg, ← Qx, he, f]
theorem nsqE (x : Fin PE) : x * x ≠ fE DN := fun h => by
  have e := congrArg Fin.val h
  rw [Go.Wei.fin_mul, show (fE DN).val = DN from by decide +kernel] at e
  generalize x.val = w at e
  have h0 : w % PE ≠ 0 := fun g => by
    rw [Qg, g, Z4, QF] at e
    exact absurd e (by decide)
  have f := lu_57896044618658097711785492504343953926634992332820282019728792003956564819949.2 w h0
  exact nsq_abs (f := f) (m := (PE - 1) / 2) (by decide +kernel) e (by decide +kernel) (by decide +kernel)
def cvE : Go.Ed.Ec PE := ⟨fE DN, fE IN, fldE, iE, nsqE, one_neE⟩
abbrev GE := cvE.G
theorem e_mul (x y : Nat) : fE (zr 1 x y) = fE x * fE y := by rw [zr, mF1]; exact Go.Wei.fn_mul x y
theorem e_add (x y : Nat) : fE (Zh 1 x y) = fE x + fE y := by rw [Zh, mF1]; exact Go.Wei.fn_add x y
theorem e_sub (x y : Nat) : fE (z7 1 x y) = fE x - fE y := by rw [z7, mF1]; exact Go.Wei.fn_sub x y
theorem el_mul (x y : Nat) : zr 1 x y < PE := ZL _ PE_pos
theorem el_sub (x y : Nat) : z7 1 x y < PE := ZL _ PE_pos
theorem e_inj {x y : Nat} (hx : x < PE) (hy : y < PE) (h : fE x = fE y) : x = y := Go.Wei.fn_inj hx hy h
theorem e_of (x : Fin PE) : fE x.val = x := Go.Wei.fn_of x
theorem e_one : fE 1 = 1 := Go.Wei.fn_one
theorem e_zero : fE 0 = 0 := Go.Wei.fn_zero
def ivE (z : Nat) : Nat := zJ 1 z (mF 1 - 2)
theorem e_iv {c : Nat} (h : fE c ≠ 0) : fE c * fE (ivE c) = 1 := by
  have hv : c % mF 1 ≠ 0 := fun g => h (Fin.ext (g.trans Go.Wei.fin_zero.symm))
  have e : zr 1 c (ivE c) = 1 := inv_yes (.inl rfl) hv
  rw [← e_mul, e]
  exact e_one
def oA (x1 y1 x2 y2 : Nat) : Nat := zr 1 (z7 1 y1 x1) (z7 1 y2 x2)
def oB (x1 y1 x2 y2 : Nat) : Nat := zr 1 (Zh 1 y1 x1) (Zh 1 y2 x2)
def oC (t1 t2 : Nat) : Nat := zr 1 (zr 1 t1 t2) D2N
def oD (z1 z2 : Nat) : Nat := Zh 1 (zr 1 z1 z2) (zr 1 z1 z2)
def oE (x1 y1 x2 y2 : Nat) : Nat := z7 1 (oB x1 y1 x2 y2) (oA x1 y1 x2 y2)
def oF (z1 t1 z2 t2 : Nat) : Nat := z7 1 (oD z1 z2) (oC t1 t2)
def oG (z1 t1 z2 t2 : Nat) : Nat := Zh 1 (oD z1 z2) (oC t1 t2)
def oH (x1 y1 x2 y2 : Nat) : Nat := Zh 1 (oB x1 y1 x2 y2) (oA x1 y1 x2 y2)
abbrev L4 := List UInt64
def l4 (a b c d : Nat) : L4 := nd a ++ (nd b ++ (nd c ++ nd d))
theorem ndl (a : Nat) : (nd a).length = 4 := zl 4 a
theorem l4_len (a b c d : Nat) : (l4 a b c d).length = 16 := by simp only [l4, zC, nd, zl]
abbrev k1 (p : L4) : Nat := nv (p.take 4)
abbrev k2 (p : L4) : Nat := nv ((p.drop 4).take 4)
abbrev k3 (p : L4) : Nat := nv ((p.drop 8).take 4)
abbrev k4 (p : L4) : Nat := nv (p.drop 12)
theorem l4_1 (a b c d : Nat) : (l4 a b c d).take 4 = nd a := by rw [l4, Yj (ndl a)]
theorem l4_2 (a b c d : Nat) : ((l4 a b c d).drop 4).take 4 = nd b := by rw [l4, Qz (ndl a), Yj (ndl b)]
theorem l4_3 (a b c d : Nat) : ((l4 a b c d).drop 8).take 4 = nd c := by
  rw [l4, show (8 : Nat) = 4 + 4 from rfl, ← Qy, Qz (ndl a), Qz (ndl b), Yj (ndl c)]
theorem l4_4 (a b c d : Nat) : (l4 a b c d).drop 12 = nd d := by
  rw [l4, show (12 : Nat) = 4 + (4 + 4) from rfl, ← Qy, ← Qy, Qz (ndl a), Qz (ndl b), Qz (ndl c)]
def wtE (p q : L4) : L4 := l4 (zr 1 (oE (k1 p) (k2 p) (k1 q) (k2 q)) (oF (k3 p) (k4 p) (k3 q) (k4 q))) (zr 1 (oG (k3 p) (k4 p) (k3 q) (k4 q)) (oH (k1 p) (k2 p) (k1 q) (k2 q))) (zr 1 (oF (k3 p) (k4 p) (k3 q) (k4 q)) (oG (k3 p) (k4 p) (k3 q) (k4 q))) (zr 1 (oE (k1 p) (k2 p) (k1 q) (k2 q)) (oH (k1 p) (k2 p) (k1 q) (k2 q)))
theorem wtE_len (p q : L4) : (wtE p q).length = 16 := l4_len _ _ _ _
structure RepE (l : L4) (P : GE) : Prop where
  len : l.length = 16
  lt1 : k1 l < PE
  lt2 : k2 l < PE
  lt3 : k3 l < PE
  lt4 : k4 l < PE
  rep : Go.Ed.Rep4 (fE (k1 l)) (fE (k2 l)) (fE (k3 l)) (fE (k4 l)) P.1
theorem nvE {a : Nat} (ha : a < PE) : nv (nd a) = a := nv_nd (Zu ha PE_lt)
theorem k1_l4 {a b c d : Nat} (ha : a < PE) : k1 (l4 a b c d) = a := by rw [k1, l4_1, nvE ha]
theorem k2_l4 {a b c d : Nat} (ha : b < PE) : k2 (l4 a b c d) = b := by rw [k2, l4_2, nvE ha]
theorem k3_l4 {a b c d : Nat} (ha : c < PE) : k3 (l4 a b c d) = c := by rw [k3, l4_3, nvE ha]
theorem k4_l4 {a b c d : Nat} (ha : d < PE) : k4 (l4 a b c d) = d := by rw [k4, l4_4, nvE ha]
theorem rep_l4 {a b c d : Nat} {P : GE} (ha : a < PE) (hb : b < PE) (hc : c < PE) (hd : d < PE) (h : Go.Ed.Rep4 (fE a) (fE b) (fE c) (fE d) P.1) : RepE (l4 a b c d) P :=
  ⟨l4_len _ _ _ _, by rw [k1_l4 ha]; exact ha, by rw [k2_l4 hb]; exact hb, by rw [k3_l4 hc]; exact hc, by rw [k4_l4 hd]; exact hd, by rw [k1_l4 ha, k2_l4 hb, k3_l4 hc, k4_l4 hd]; exact h⟩
theorem rep4_sum {x1 y1 z1 t1 x2 y2 z2 t2 : Nat} {P Q : GE} (hp : Go.Ed.Rep4 (fE x1) (fE y1) (fE z1) (fE t1) P.1) (hq : Go.Ed.Rep4 (fE x2) (fE y2) (fE z2) (fE t2) Q.1) :
    Go.Ed.Rep4 (fE (zr 1 (oE x1 y1 x2 y2) (oF z1 t1 z2 t2))) (fE (zr 1 (oG z1 t1 z2 t2) (oH x1 y1 x2 y2))) (fE (zr 1 (oF z1 t1 z2 t2) (oG z1 t1 z2 t2))) (fE (zr 1 (oE x1 y1 x2 y2) (oH x1 y1 x2 y2))) (Go.Ed.Ec.add P Q).1 := by
  rw [e_mul, e_mul, e_mul, e_mul]
  exact Go.Ed.rep4_add (C := cvE) hp hq (a := fE (oA x1 y1 x2 y2)) (b := fE (oB x1 y1 x2 y2)) (c := fE (oC t1 t2)) (d := fE (oD z1 z2)) (by rw [oA, e_mul, e_sub, e_sub]) (by rw [oB, e_mul, e_add, e_add]) (by rw [oC, e_mul, e_mul, d2E]; rfl) (by rw [oD, e_add, e_mul]) (by rw [oE, e_sub]) (by rw [oF, e_sub]) (by rw [oG, e_add]) (by rw [oH, e_add])
theorem rep_wt {p q : L4} {P Q : GE} (hp : RepE p P) (hq : RepE q Q) : RepE (wtE p q) (Go.Ed.Ec.add P Q) :=
  rep_l4 (el_mul _ _) (el_mul _ _) (el_mul _ _) (el_mul _ _) (rep4_sum hp.rep hq.rep)
def zero16 : L4 := l4 0 1 1 0
theorem rep_zero : RepE zero16 Go.Ed.Ec.zero := rep_l4 (by decide) (by decide) (by decide) (by decide) (by
  rw [e_one, e_zero]
  refine ⟨one_neE, ?_, ?_, ?_⟩
  · show (0 : Fin PE) = 0 * 1; decide +kernel
  · show (1 : Fin PE) = 1 * 1; decide +kernel
  · show (0 : Fin PE) = 0 * 1 * 1; decide +kernel)
def rowF (p : L4) : Nat → L4
  | 0 => zero16
  | i + 1 => wtE (rowF p i) p
def dblF (o : L4) : Nat → L4
  | 0 => o
  | j + 1 => wtE (dblF o j) (dblF o j)
theorem rep_row {p : L4} {P : GE} (h : RepE p P) : ∀ i, RepE (rowF p i) (Go.Ed.Ec.mul i P)
  | 0 => rep_zero
  | i + 1 => rep_wt (rep_row h i) h
theorem rep_dbl {o : L4} {P : GE} (h : RepE o P) : ∀ j, RepE (dblF o j) (Go.Ed.Ec.mul (2 ^ j) P)
  | 0 => by rw [ZX, Go.Ed.Ec.mul_one]; exact h
  | j + 1 => by
    rw [z8, zZ, Kn, Go.Ed.Ec.mul_add]
    exact rep_wt (rep_dbl h j) (rep_dbl h j)
def nib (k i : Nat) : Nat := k / 16 ^ i % 16
def tmF (p : L4) (k : Nat) : Nat → L4
  | 0 => zero16
  | j + 1 => wtE (dblF (tmF p k j) 4) (rowF p (nib k (63 - j)))
theorem tmF_len (p : L4) (k : Nat) : ∀ j, (tmF p k j).length = 16
  | 0 => l4_len _ _ _ _
  | i + 1 => wtE_len _ _
theorem nibs_step (k i : Nat) : k / 16 ^ i = 16 * (k / 16 ^ (i + 1)) + nib k i := by
  rw [nib, z8, ← Zv]
  exact (Jk _ _).symm
theorem rep_tm {p : L4} {P : GE} {k : Nat} (h : RepE p P) (hk : k < zU) : ∀ j, j ≤ 64 → RepE (tmF p k j) (Go.Ed.Ec.mul (k / 16 ^ (64 - j)) P)
  | 0, _ => by
    rw [Yx (show k < 16 ^ (64 - 0) from hk)]
    exact rep_zero
  | j + 1, hj => by
    have ih := rep_tm h hk j (by omega)
    have e : 64 - j = 63 - j + 1 := by omega
    rw [show 64 - (j + 1) = 63 - j by omega, nibs_step, Go.Ed.Ec.mul_add, zZ, zZ _ 16, Go.Ed.Ec.mul_mul, ← e]
    exact rep_wt (rep_dbl ih 4) (rep_row h _)
theorem rep_times {p : L4} {P : GE} {k : Nat} (h : RepE p P) (hk : k < zU) : RepE (tmF p k 64) (Go.Ed.Ec.mul k P) := by
  have := rep_tm h hk 64 (ZP _)
  rwa [Yl, ZX, Yr] at this
def l3 (a b c : Nat) : L4 := nd a ++ (nd b ++ nd c)
theorem l3_len (a b c : Nat) : (l3 a b c).length = 12 := by simp only [l3, zC, nd, zl]
abbrev j3 (p : L4) : Nat := nv (p.drop 8)
theorem l3_1 (a b c : Nat) : (l3 a b c).take 4 = nd a := by rw [l3, Yj (ndl a)]
theorem l3_2 (a b c : Nat) : ((l3 a b c).drop 4).take 4 = nd b := by rw [l3, Qz (ndl a), Yj (ndl b)]
theorem l3_3 (a b c : Nat) : (l3 a b c).drop 8 = nd c := by
  rw [l3, show (8 : Nat) = 4 + 4 from rfl, ← Qy, Qz (ndl a), Qz (ndl b)]
def qA (z1 z2 : Nat) : Nat := zr 1 z1 z2
def qF (x1 y1 x2 y2 : Nat) : Nat := zr 1 DN (zr 1 (zr 1 x1 x2) (zr 1 y1 y2))
def qG (x1 y1 z1 x2 y2 z2 : Nat) : Nat := z7 1 (zr 1 (qA z1 z2) (qA z1 z2)) (qF x1 y1 x2 y2)
def qH (x1 y1 z1 x2 y2 z2 : Nat) : Nat := Zh 1 (zr 1 (qA z1 z2) (qA z1 z2)) (qF x1 y1 x2 y2)
def qX (x1 y1 x2 y2 : Nat) : Nat := z7 1 (z7 1 (zr 1 (Zh 1 x1 y1) (Zh 1 x2 y2)) (zr 1 x1 x2)) (zr 1 y1 y2)
def plD (p q : L4) : L4 := l3 (zr 1 (qA (j3 p) (j3 q)) (zr 1 (qG (k1 p) (k2 p) (j3 p) (k1 q) (k2 q) (j3 q)) (qX (k1 p) (k2 p) (k1 q) (k2 q)))) (zr 1 (qA (j3 p) (j3 q)) (zr 1 (qH (k1 p) (k2 p) (j3 p) (k1 q) (k2 q) (j3 q)) (Zh 1 (zr 1 (k2 p) (k2 q)) (zr 1 (k1 p) (k1 q))))) (zr 1 (qG (k1 p) (k2 p) (j3 p) (k1 q) (k2 q) (j3 q)) (qH (k1 p) (k2 p) (j3 p) (k1 q) (k2 q) (j3 q)))
theorem plD_len (p q : L4) : (plD p q).length = 12 := l3_len _ _ _
structure RepD (l : L4) (P : GE) : Prop where
  len : l.length = 12
  lt1 : k1 l < PE
  lt2 : k2 l < PE
  lt3 : j3 l < PE
  rep : Go.Ed.Rep3 (fE (k1 l)) (fE (k2 l)) (fE (j3 l)) P.1
theorem k1_l3 {a b c : Nat} (ha : a < PE) : k1 (l3 a b c) = a := by rw [k1, l3_1, nvE ha]
theorem k2_l3 {a b c : Nat} (ha : b < PE) : k2 (l3 a b c) = b := by rw [k2, l3_2, nvE ha]
theorem j3_l3 {a b c : Nat} (ha : c < PE) : j3 (l3 a b c) = c := by rw [j3, l3_3, nvE ha]
theorem rep_l3 {a b c : Nat} {P : GE} (ha : a < PE) (hb : b < PE) (hc : c < PE) (h : Go.Ed.Rep3 (fE a) (fE b) (fE c) P.1) : RepD (l3 a b c) P :=
  ⟨l3_len _ _ _, by rw [k1_l3 ha]; exact ha, by rw [k2_l3 hb]; exact hb, by rw [j3_l3 hc]; exact hc, by rw [k1_l3 ha, k2_l3 hb, j3_l3 hc]; exact h⟩
theorem rep3_sum {x1 y1 z1 x2 y2 z2 : Nat} {P Q : GE} (hp : Go.Ed.Rep3 (fE x1) (fE y1) (fE z1) P.1) (hq : Go.Ed.Rep3 (fE x2) (fE y2) (fE z2) Q.1) :
    Go.Ed.Rep3 (fE (zr 1 (qA z1 z2) (zr 1 (qG x1 y1 z1 x2 y2 z2) (qX x1 y1 x2 y2)))) (fE (zr 1 (qA z1 z2) (zr 1 (qH x1 y1 z1 x2 y2 z2) (Zh 1 (zr 1 y1 y2) (zr 1 x1 x2))))) (fE (zr 1 (qG x1 y1 z1 x2 y2 z2) (qH x1 y1 z1 x2 y2 z2))) (Go.Ed.Ec.add P Q).1 := by
  simp only [e_mul, e_add, e_sub, qA, qG, qH, qF, qX]
  exact Go.Ed.rep3_add (C := cvE) hp hq
theorem rep_pl {p q : L4} {P Q : GE} (hp : RepD p P) (hq : RepD q Q) : RepD (plD p q) (Go.Ed.Ec.add P Q) :=
  rep_l3 (el_mul _ _) (el_mul _ _) (el_mul _ _) (rep3_sum hp.rep hq.rep)
def zero12 : L4 := l3 0 1 1
theorem rep_zero3 : RepD zero12 Go.Ed.Ec.zero := rep_l3 (by decide) (by decide) (by decide) (by
  rw [e_one, e_zero]
  refine ⟨one_neE, ?_, ?_⟩
  · show (0 : Fin PE) = 0 * 1; decide +kernel
  · show (1 : Fin PE) = 1 * 1; decide +kernel)
def mnF (p : L4) (k : Nat) : Nat → L4
  | 0 => zero12
  | j + 1 => bif k / 2 ^ (255 - j) % 2 == 1 then plD (plD (mnF p k j) (mnF p k j)) p else plD (mnF p k j) (mnF p k j)
theorem mnF_len (p : L4) (k : Nat) : ∀ j, (mnF p k j).length = 12
  | 0 => l3_len _ _ _
  | j + 1 => by
    rw [mnF]
    cases k / 2 ^ (255 - j) % 2 == 1 <;> exact plD_len _ _
theorem rep_mn {p : L4} {P : GE} {k : Nat} (h : RepD p P) (hk : k < zU) : ∀ j, j ≤ 256 → RepD (mnF p k j) (Go.Ed.Ec.mul (k / 2 ^ (256 - j)) P)
  | 0, _ => by
    rw [Yx (show k < 2 ^ (256 - 0) from hk)]
    exact rep_zero3
  | j + 1, hj => by
    have ih := rep_mn h hk j (by omega)
    have d := rep_pl ih ih
    rw [← Go.Ed.Ec.mul_add, ← Kn] at d
    have e : k / 2 ^ (256 - (j + 1)) = 2 * (k / 2 ^ (256 - j)) + k / 2 ^ (255 - j) % 2 := by
      rw [show 256 - j = 255 - j + 1 by omega, show 256 - (j + 1) = 255 - j by omega, z8, ← Zv]
      omega
    rw [mnF, e]
    have hm : k / 2 ^ (255 - j) % 2 < 2 := ZL _ (by decide)
    generalize k / 2 ^ (255 - j) % 2 = b at *
    rcases (show b = 0 ∨ b = 1 by omega) with rfl | rfl
    · exact d
    · rw [Go.Ed.Ec.mul_add, Go.Ed.Ec.mul_one]
      exact rep_pl d h
theorem rep_many {p : L4} {P : GE} {k : Nat} (h : RepD p P) (hk : k < zU) : RepD (mnF p k 256) (Go.Ed.Ec.mul k P) := by
  have := rep_mn h hk 256 (ZP _)
  rwa [Yl, ZX, Yr] at this
end Go.Proofs.YtlnogkmnklfjlaaGreatDoor

namespace Go.Proofs.YtlnogkmnklfjlaaGreatDoor
open Go.Dbr
set_option maxRecDepth 100000
set_option maxHeartbeats 2000000
set_option linter.unusedVariables false
set_option linter.unusedSimpArgs false
def clr (b : List UInt8) : List UInt8 := zp b 31 (za b 31 0 &&& 127)
def yE (b : List UInt8) : Nat := lv (clr b)
def odE (b : List UInt8) : Bool := decide (128 ≤ (za b 31 0).toNat)
def tA (y : Nat) : Nat := zr 1 (z7 1 (zr 1 y y) 1) (ivE (Zh 1 (zr 1 DN (zr 1 y y)) 1))
def rE (y : Nat) : Nat := Yy 1 (tA y)
def xOkE (y : Nat) (odd : Bool) : Bool := QW 1 (tA y) && !(odd && decide (rE y = 0))
def xE (y : Nat) (odd : Bool) : Nat := bif odd then z7 1 0 (rE y) else rE y
def isE (b : List UInt8) : Bool := decide (yE b < mF 1) && xOkE (yE b) (odE b)
theorem clr_len {b : List UInt8} (h : b.length = 32) : (clr b).length = 32 := by rw [clr, ZV, h]
theorem rs_lt1 (A : Nat) : rs 1 A < PE := rs_ltM (.inl rfl) A
theorem rootN_lt1 (A : Nat) : Yy 1 A < PE := by
  unfold Yy
  split
  · split
    · exact el_sub _ _
    · exact rs_lt1 A
  · decide
theorem root_sq {A : Nat} (hA : A < PE) (h : QW 1 A = true) : zr 1 (Yy 1 A) (Yy 1 A) = A ∧ Yy 1 A % 2 = 0 := by
  have e := (of_decide_eq_true h).2
  rw [mulM_one, mF1, zG hA] at e
  have s := sq_law (f := 1) (.inl rfl) (rs 1 A)
  rw [e] at s
  exact s.2
theorem tA_lt (y : Nat) : tA y < PE := by rw [tA]; exact el_mul _ _
theorem rE_lt (y : Nat) : rE y < PE := by rw [rE]; exact rootN_lt1 _
theorem xE_t (y : Nat) : xE y true = z7 1 0 (rE y) := by rw [xE, Q5]
theorem xE_f (y : Nat) : xE y false = rE y := by rw [xE, QT]
theorem xE_lt (y : Nat) (odd : Bool) : xE y odd < PE := by
  cases odd with
  | true => rw [xE_t]; exact el_sub _ _
  | false => rw [xE_f]; exact rE_lt y
theorem xE_sq {y : Nat} {odd : Bool} (h : xOkE y odd = true) : fE (xE y odd) * fE (xE y odd) = fE (tA y) := by
  simp only [xOkE, Za] at h
  have s := (root_sq (A := tA y) (tA_lt y) h.1).1
  have s2 : fE (rE y) * fE (rE y) = fE (tA y) := by rw [rE, ← e_mul, s]
  cases odd with
  | true =>
    rw [xE_t, e_sub, e_zero, ← s2]
    generalize fE (rE y) = r
    clear s s2 h
    grind -lia
  | false => rw [xE_f]; exact s2
theorem den_iv (y : Nat) : (cvE.d * (fE y * fE y) + 1) * fE (ivE (Zh 1 (zr 1 DN (zr 1 y y)) 1)) = 1 := by
  have e : fE (Zh 1 (zr 1 DN (zr 1 y y)) 1) = cvE.d * (fE y * fE y) + 1 := by rw [e_add, e_mul, e_mul, e_one]; rfl
  rw [← e]
  exact e_iv (by rw [e]; exact Go.Ed.den_ne (fE y))
theorem tA_eq (y : Nat) : fE (tA y) = (fE y * fE y - 1) * fE (ivE (Zh 1 (zr 1 DN (zr 1 y y)) 1)) := by rw [tA, e_mul, e_sub, e_mul, e_one]
theorem pt_on {y : Nat} {odd : Bool} (h : xOkE y odd = true) : Go.Ed.OnE cvE.d (fE (xE y odd)) (fE y) :=
  Go.Ed.on_of (C := cvE) (den_iv y) (by rw [xE_sq h, tA_eq])
noncomputable def gPt (b : List UInt8) : GE := if h : xOkE (yE b) (odE b) = true then ⟨(fE (xE (yE b) (odE b)), fE (yE b)), pt_on h⟩ else Go.Ed.Ec.zero
theorem gPt_val {b : List UInt8} (h : xOkE (yE b) (odE b) = true) : (gPt b).1 = (fE (xE (yE b) (odE b)), fE (yE b)) := by
  unfold gPt
  exact congrArg Subtype.val (dif_pos h)
theorem is_x {b : List UInt8} (h : isE b = true) : xOkE (yE b) (odE b) = true := by
  simp only [isE, Za] at h
  exact h.2
theorem is_y {b : List UInt8} (h : isE b = true) : yE b < PE := by
  simp only [isE, Za, decide_eq_true_eq] at h
  exact h.1
def ptL (y : Nat) (odd : Bool) : L4 := l4 (xE y odd) y 1 (zr 1 (xE y odd) y)
def ptD (y : Nat) (odd : Bool) : L4 := l3 (xE y odd) y 1
theorem ptL_len (y : Nat) (odd : Bool) : (ptL y odd).length = 16 := l4_len _ _ _ _
theorem ptD_len (y : Nat) (odd : Bool) : (ptD y odd).length = 12 := l3_len _ _ _
theorem rep_pt {b : List UInt8} (h : isE b = true) : RepE (ptL (yE b) (odE b)) (gPt b) := by
  refine rep_l4 (xE_lt _ _) (is_y h) (by decide) (el_mul _ _) ?_
  rw [gPt_val (is_x h), e_mul, e_one]
  generalize fE (xE (yE b) (odE b)) = x
  generalize fE (yE b) = y
  refine ⟨one_neE, ?_, ?_, ?_⟩ <;> simp only <;> grind -lia
theorem rep_ptD {b : List UInt8} (h : isE b = true) : RepD (ptD (yE b) (odE b)) (gPt b) := by
  refine rep_l3 (xE_lt _ _) (is_y h) (by decide) ?_
  rw [gPt_val (is_x h), e_one]
  generalize fE (xE (yE b) (odE b)) = x
  generalize fE (yE b) = y
  refine ⟨one_neE, ?_, ?_⟩ <;> simp only <;> grind -lia
def outN (x y : Nat) : List UInt8 := zp (lb 32 y) 31 (za (lb 32 y) 31 0 ||| (zK (x % 2) <<< 7))
def outE (P : GE) : List UInt8 := outN P.1.1.val P.1.2.val
theorem outN_len (x y : Nat) : (outN x y).length = 32 := by rw [outN, ZV, lb_len]
theorem outE_len (P : GE) : (outE P).length = 32 := outN_len _ _
theorem top_dec : ∀ (n : Fin 128) (x : Fin 2), ((zK n.val ||| (zK x.val <<< 7)) &&& 127 = zK n.val) ∧ decide (128 ≤ (zK n.val ||| (zK x.val <<< 7)).toNat) = decide (x.val = 1) := by decide +kernel
theorem lv_digE : ∀ (l : List UInt8) (j : Nat), (za l j 0).toNat = lv l / 256 ^ j % 256
  | [], j => by simp [lv]
  | x :: r, 0 => by have := x.toNat_lt; rw [List.getD_cons_zero, lv, ZX, Yr]; omega
  | x :: r, j + 1 => by
    have := x.toNat_lt
    rw [List.getD_cons_succ, lv_digE r j, lv, z8, zZ (_ ^ j), ← Zv]
    congr 2
    omega
theorem top_lt {y : Nat} (h : y < PE) : (za (lb 32 y) 31 0).toNat < 128 := by
  rw [lv_digE, lb_val, zG (show y < 256 ^ 32 from Zu h (by decide))]
  exact Nat.lt_of_le_of_lt (Nat.mod_le _ _) (Nat.div_lt_of_lt_mul (Zu h (by decide)))
theorem set_getD {l : List UInt8} {i : Nat} (h : i < l.length) : zp l i (za l i 0) = l := by
  refine List.ext_getElem (by simp) fun j h1 h2 => ?_
  rw [List.getElem_set]
  split
  · rename_i e
    subst e
    rw [zI, List.getElem?_eq_getElem h]
    rfl
  · rfl
theorem out_top (x y : Nat) : za (outN x y) 31 0 = za (lb 32 y) 31 0 ||| (zK (x % 2) <<< 7) := by
  rw [outN, zI, List.getElem?_set_self (by rw [lb_len]; decide)]
  rfl
theorem clr_out {x y : Nat} (h : y < PE) : clr (outN x y) = lb 32 y ∧ odE (outN x y) = decide (x % 2 = 1) := by
  have hb := top_lt h
  have ht := out_top x y
  have d := top_dec ⟨_, hb⟩ ⟨x % 2, ZL _ (by decide)⟩
  simp only [UInt8.ofNat_toNat] at d
  refine ⟨?_, ?_⟩
  · rw [clr, ht, d.1, outN, List.set_set, set_getD (by rw [lb_len]; decide)]
  · rw [odE, ht, d.2]
theorem y_out {x y : Nat} (h : y < PE) : yE (outN x y) = y := by
  rw [yE, (clr_out h).1, lb_val, zG (show y < 256 ^ 32 from Zu h (by decide))]
theorem tA_on {x y : Nat} (hx : x < PE) (h : Go.Ed.OnE cvE.d (fE x) (fE y)) : tA y = zr 1 x x := by
  refine e_inj (el_mul _ _) (el_mul _ _) ?_
  rw [tA_eq, e_mul]
  exact (Go.Ed.of_on (C := cvE) (den_iv y) h).symm
theorem sqE {r x : Nat} (hr : r < PE) (hx : x < PE) (h : zr 1 r r = zr 1 x x) : r = x ∨ r = PE - x ∧ x ≠ 0 := by
  have e := congrArg fE h
  rw [e_mul, e_mul] at e
  have z : (fE r - fE x) * (fE r + fE x) = 0 := by
    have : (fE r - fE x) * (fE r + fE x) = fE r * fE r - fE x * fE x := by clear e h; grind -lia
    rw [this, e]
    clear this e h
    grind -lia
  rcases fldE.nz _ _ z with g | g
  · left
    refine e_inj hr hx ?_
    clear e h z
    grind -lia
  · by_cases h0 : x = 0
    · left
      subst h0
      refine e_inj hr hx ?_
      rw [e_zero] at g ⊢
      clear e h z
      grind -lia
    · right
      have e2 : fE (r + x) = 0 := by
        have := e_add r x
        rw [Zh, mF1, show fE ((r + x) % PE) = fE (r + x) from Go.Wei.fn_mod _] at this
        rw [this, g]
      have e3 : (r + x) % PE = 0 := by
        have := congrArg Fin.val e2
        rwa [Go.Wei.fin_zero] at this
      refine ⟨?_, h0⟩
      rcases Qe (r + x) PE with q | q
      · rw [zG q] at e3
        omega
      · rw [Nat.mod_eq_sub_mod q, zG (by omega)] at e3
        omega
theorem out_in (P : GE) : isE (outE P) = true ∧ gPt (outE P) = P := by
  have ho : Go.Ed.OnE cvE.d (fE P.1.1.val) (fE P.1.2.val) := by rw [e_of, e_of]; exact P.2
  have hx : P.1.1.val < PE := P.1.1.isLt
  have hy : P.1.2.val < PE := P.1.2.isLt
  have ey : yE (outE P) = P.1.2.val := y_out hy
  have eo : odE (outE P) = decide (P.1.1.val % 2 = 1) := (clr_out hy).2
  have t := tA_on hx ho
  have s := sq_law (f := 1) (.inl rfl) P.1.1.val
  rw [← t] at s
  have hr : rE P.1.2.val < PE := rE_lt _
  have h2 : rE P.1.2.val = P.1.1.val ∨ rE P.1.2.val = PE - P.1.1.val ∧ P.1.1.val ≠ 0 := sqE hr hx (by rw [rE]; exact s.2.1.trans t)
  have hev : rE P.1.2.val % 2 = 0 := by rw [rE]; exact s.2.2
  have hp : PE % 2 = 1 := by decide
  have ex : xE P.1.2.val (decide (P.1.1.val % 2 = 1)) = P.1.1.val ∧ (decide (P.1.1.val % 2 = 1) = true → rE P.1.2.val ≠ 0) := by
    by_cases g : P.1.1.val % 2 = 1
    · rw [decide_eq_true g, xE_t]
      rcases h2 with h2 | ⟨h2, h3⟩
      · omega
      · refine ⟨?_, fun _ => by omega⟩
        rw [z7, h2, mF1, QF, zG (show PE - P.1.1.val < PE by omega), show 0 + PE - (PE - P.1.1.val) = P.1.1.val by omega, zG hx]
    · rw [decide_eq_false g, xE_f]
      rcases h2 with h2 | ⟨h2, h3⟩
      · exact ⟨h2, fun h => by cases h⟩
      · omega
  have ok : xOkE (yE (outE P)) (odE (outE P)) = true := by
    rw [ey, eo, xOkE, s.1, Yt]
    by_cases g : decide (P.1.1.val % 2 = 1) = true
    · rw [g, Yt, decide_eq_false (ex.2 g)]
      rfl
    · rw [Bool.eq_false_iff.2 g]
      rfl
  refine ⟨?_, ?_⟩
  · rw [isE, ok, ey, Bool.and_true]
    exact decide_eq_true hy
  · refine Subtype.ext ((gPt_val ok).trans ?_)
    rw [ey, eo, ex.1, e_of, e_of]
theorem aff_x {x z : Nat} {X : Fin PE} (hz : fE z ≠ 0) (h : fE x = X * fE z) : zr 1 x (ivE z) = X.val := by
  refine e_inj (el_mul _ _) X.isLt ?_
  rw [e_mul, h, e_of]
  have i1 := e_iv hz
  generalize fE (ivE z) = i at *
  generalize fE z = k at *
  clear h hz
  grind -lia
theorem by4 {l : L4} {P : GE} (h : RepE l P) : outN (zr 1 (k1 l) (ivE (k3 l))) (zr 1 (k2 l) (ivE (k3 l))) = outE P := by
  rw [outE, aff_x h.rep.1 h.rep.2.1, aff_x h.rep.1 h.rep.2.2.1]
theorem by3 {l : L4} {P : GE} (h : RepD l P) : outN (zr 1 (k1 l) (ivE (j3 l))) (zr 1 (k2 l) (ivE (j3 l))) = outE P := by
  rw [outE, aff_x h.rep.1 h.rep.2.1, aff_x h.rep.1 h.rep.2.2]
instance : DecidableEq GE := fun P Q => if h : P.1 = Q.1 then isTrue (Subtype.ext h) else isFalse fun g => h (congrArg Subtype.val g)
end Go.Proofs.YtlnogkmnklfjlaaGreatDoor

namespace Go.Proofs.YtlnogkmnklfjlaaGreatDoor
open Go.Dbr
set_option maxRecDepth 100000
set_option maxHeartbeats 2000000
set_option linter.unusedVariables false
set_option linter.unusedSimpArgs false
abbrev N4 := Nat × Nat × Nat × Nat
def wtN : N4 → N4 → N4
  | (x1, y1, z1, t1), (x2, y2, z2, t2) => (zr 1 (oE x1 y1 x2 y2) (oF z1 t1 z2 t2), zr 1 (oG z1 t1 z2 t2) (oH x1 y1 x2 y2), zr 1 (oF z1 t1 z2 t2) (oG z1 t1 z2 t2), zr 1 (oE x1 y1 x2 y2) (oH x1 y1 x2 y2))
def RepN (s : N4) (P : GE) : Prop := Go.Ed.Rep4 (fE s.1) (fE s.2.1) (fE s.2.2.1) (fE s.2.2.2) P.1
theorem repN_wt {s t : N4} {P Q : GE} (hs : RepN s P) (ht : RepN t Q) : RepN (wtN s t) (Go.Ed.Ec.add P Q) := by
  obtain ⟨x1, y1, z1, t1⟩ := s
  obtain ⟨x2, y2, z2, t2⟩ := t
  exact rep4_sum hs ht
def mulG : Nat → Nat → N4 → N4
  | 0, _, _ => (0, 1, 1, 0)
  | f + 1, e, g => cond (Q6 (e % 2) 1) (wtN (mulG f (e / 2) (wtN g g)) g) (mulG f (e / 2) (wtN g g))
theorem repN_mul : ∀ (f e : Nat) (g : N4) (P : GE), e < 2 ^ f → RepN g P → RepN (mulG f e g) (Go.Ed.Ec.mul e P)
  | 0, e, g, P, he, _ => by
    have : e = 0 := by simp at he; exact he
    subst this
    have := rep_zero.rep
    rw [zero16, k1_l4 (by decide), k2_l4 (by decide), k3_l4 (by decide), k4_l4 (by decide)] at this
    exact this
  | f + 1, e, g, P, he, h => by
    have ih := repN_mul f (e / 2) (wtN g g) (Go.Ed.Ec.add P P) (by rw [z8] at he; omega) (repN_wt h h)
    have e2 : Go.Ed.Ec.mul (e / 2) (Go.Ed.Ec.add P P) = Go.Ed.Ec.mul (e / 2 * 2) P := by
      rw [Go.Ed.Ec.mul_mul]
      congr 1
      show _ = Go.Ed.Ec.add (Go.Ed.Ec.add Go.Ed.Ec.zero P) P
      rw [Go.Ed.Ec.zero_add]
    rw [e2] at ih
    unfold mulG
    cases hb : Q6 (e % 2) 1 with
    | true =>
      have h1 : e % 2 = 1 := Yg hb
      have : e = e / 2 * 2 + 1 := by omega
      have k := repN_wt ih h
      rw [show Go.Ed.Ec.add (Go.Ed.Ec.mul (e / 2 * 2) P) P = Go.Ed.Ec.mul e P from (by
        conv => rhs; rw [this]
        rfl)] at k
      exact k
    | false =>
      have h1 : e % 2 ≠ 1 := JB hb
      have : e / 2 * 2 = e := by omega
      rw [this] at ih
      exact ih
def BX : Nat := 15112221349535400772501151409588531511454012693041857206046113283949847762202
def BY_ : Nat := 46316835694926478169428394003475163141307993866256225615783033603165251855960
theorem onB : Go.Ed.OnE cvE.d (fE BX) (fE BY_) := by
  show fE BY_ * fE BY_ - fE BX * fE BX = 1 + fE DN * (fE BX * fE BX) * (fE BY_ * fE BY_)
  decide +kernel
def gB : GE := ⟨(fE BX, fE BY_), onB⟩
theorem repB : RepN (BX, BY_, 1, zr 1 BX BY_) gB := by
  show Go.Ed.Rep4 (fE BX) (fE BY_) (fE 1) (fE (zr 1 BX BY_)) (fE BX, fE BY_)
  rw [e_mul, e_one]
  generalize fE BX = x
  generalize fE BY_ = y
  refine ⟨one_neE, ?_, ?_, ?_⟩ <;> simp only <;> grind -lia
def baseB : List UInt8 := [88, 102, 102, 102, 102, 102, 102, 102, 102, 102, 102, 102, 102, 102, 102, 102, 102, 102, 102, 102, 102, 102, 102, 102, 102, 102, 102, 102, 102, 102, 102, 102]
theorem powN (x : Nat) {n : Nat} (h : n < 2 ^ 256) : zJ 1 x n = pw PE 256 x n := powM_pw x h
theorem ivE_pw (x : Nat) : ivE x = pw PE 256 x (PE - 2) := powN x (by decide)
theorem base_y : yE baseB = BY_ ∧ odE baseB = false := by decide +kernel
theorem base_out : outE gB = baseB := by decide +kernel
theorem base_pt : isE baseB = true ∧ gPt baseB = gB := by rw [← base_out]; exact out_in gB
def baseL : L4 := ptL BY_ false
def baseD : L4 := ptD BY_ false
theorem rep_base : RepE baseL gB := by
  have h := rep_pt base_pt.1
  rw [base_pt.2, base_y.1, base_y.2] at h
  exact h
theorem rep_baseD : RepD baseD gB := by
  have h := rep_ptD base_pt.1
  rw [base_pt.2, base_y.1, base_y.2] at h
  exact h
noncomputable def puE (n : Nat) : List UInt8 := outE (Go.Ed.Ec.mul n gB)
theorem puE_len (n : Nat) : (puE n).length = 32 := outE_len _
theorem pu_L {k : Nat} (hk : k < zU) : outN (zr 1 (k1 (tmF baseL k 64)) (ivE (k3 (tmF baseL k 64)))) (zr 1 (k2 (tmF baseL k 64)) (ivE (k3 (tmF baseL k 64)))) = puE k := by4 (rep_times rep_base hk)
theorem pu_D {k : Nat} (hk : k < zU) : outN (zr 1 (k1 (mnF baseD k 256)) (ivE (j3 (mnF baseD k 256)))) (zr 1 (k2 (mnF baseD k 256)) (ivE (j3 (mnF baseD k 256)))) = puE k := by3 (rep_many rep_baseD hk)
end Go.Proofs.YtlnogkmnklfjlaaGreatDoor

namespace Go.Proofs.YtlnogkmnklfjlaaGreatDoor
open Go.Dbr
set_option maxRecDepth 100000
set_option maxHeartbeats 2000000
set_option linter.unusedVariables false
set_option linter.unusedSimpArgs false
theorem rroot1_go (w : World) (a : List UInt64) (ha : zb a = 4) : Calls Tryz.prog 80 #[.int .i64 1, .agg (zg (zh a))] w fun e w' => e = .returned (.tuple #[.agg (zg (zh (nd (Yy 1 (nv a))))), .bool (QW 1 (nv a))]) ∧ Ev w [] w' [] := by
 refine d_0 [(0, .int .i64 1), (1, .agg (zg (zh a)))] 89 Go.Proofs.Tryz.func80 Go.Proofs.Tryz.ntmps80 (Heap.nil _) fun an ao ap => wp_seq <| zk <| f_o <| m_m 33 (zh a) ao ap fun _ _ Eq aq ar => f_o <| m_z 33 (zh (zd 4 0)) aq ar fun _ _ Ej au HQ => d_e [0,3,4,5] [] au fun _ HR => ?_
 refine ze <| wp_seq <| zk <| d_k [0,3,4,5,16] [] 1 HR fun _ HS => f_o <| c_p HS HQ (rmodulus_go _ 1) fun _ _ HT HU => f_o <| m_z 33 (zh (zd 4 0)) HT HU fun _ _ Eh HV HW => f_o <| zQ 2 4 (zh (nd (mF 1))) _ HV HW rfl (zf (zl _ _)) (zf (zi)) (zt _) rfl fun _ _ HX HY => ?_
 refine f_e <| ze <| wp_seq <| zk <| d_k [0,3,4,5,6,18] [] 1 HX fun _ HZ => f_o <| m_z 33 (zh (zd 4 0)) HZ HY fun _ _ Eb H0 H1 => f_o <| zQ 3 4 (zh ([0, 0, 0, 0] : List UInt64)) [.box Eq (zh a) 33, .box Ej (zh (zd 4 0)) 33, .box Eh (zh (nd (mF 1))) 33, .box Eb (zh ([0, 0, 0, 0] : List UInt64)) 33] H0 H1 rfl (zf (show zb ([0, 0, 0, 0] : List UInt64) = 4 from rfl)) (zf (zi)) (zt _) rfl fun _ _ H2 EE => f_e <| ze <| wp_seq <| zk <| d_k [0,3,4,5,6,7,19] [] 1 H2 fun _ H3 => ?_
 refine f_o <| Zp 0 4 (zh a) H3 EE rfl (zf ha) fun _ H4 => d_k [0,3,4,5,6,7,19,20,21] [] 3 H4 fun _ H5 => f_o <| c_p H5 EE ((XN h1f (J2 (by decide))) _ a ([1, 0, 0, 0] : List UInt64) ha (show zb ([1, 0, 0, 0] : List UInt64) = 4 from rfl)) fun _ _ H6 H7 => f_o <| m_z 33 (zh (zd 4 0)) H6 H7 fun _ _ Ed H8 H9 => ?_
 refine f_o <| zQ 4 4 (zh (nd (zr 1 (nv a) (nv ([1, 0, 0, 0] : List UInt64))))) _ H8 H9 rfl (zf (zl _ _)) (zf (zi)) (zt _) rfl fun _ _ aa EF => f_e <| ze <| wp_seq <| wp_seq <| d_r [0,3,4,5,6,7,8,23] [] aa fun _ ab => ze <| wp_block <| wp_seq <| d_r [0,3,4,5,6,7,8,23,25] [] ab fun _ EG => ze <| c_f EG ?_
 refine wp_seq <| d_r [0,3,4,5,6,7,8,23,39] [] EG fun _ EH => ze <| c_t EH ?_
 refine wp_seq <| zk <| f_o <| Zp 2 4 (zh (nd (mF 1))) EH EF rfl (zf (zl _ _)) fun _ ae => d_k [0,3,4,5,6,7,8,23,42,43] [] 2 ae fun _ af => f_o <| c_p af EF (rplus_go _ (nd (mF 1)) ([3, 0, 0, 0] : List UInt64) (zl _ _) (show zb ([3, 0, 0, 0] : List UInt64) = 4 from rfl)) fun _ _ ag ah => d_k [0,3,4,5,6,7,8,23,45,46] [] 6 ag fun _ ai => ?_
 refine f_o <| m_z 33 (zh (zd 4 0)) ai ah fun _ _ Ee aj ak => f_o <| zQ 5 4 (zh (nd (nv (nd (mF 1)) + nv ([3, 0, 0, 0] : List UInt64)))) [.box Eq (zh a) 33, .box Ej (zh (zd 4 0)) 33, .box Eh (zh (nd (mF 1))) 33, .box Eb (zh ([0, 0, 0, 0] : List UInt64)) 33, .box Ed (zh (nd (zr 1 (nv a) (nv ([1, 0, 0, 0] : List UInt64))))) 33, .box Ee (zh (nd (nv (nd (mF 1)) + nv ([3, 0, 0, 0] : List UInt64)))) 33] aj ak rfl (zf (zl _ _)) (zf (zi)) (zt _) rfl fun _ _ al EI => d_e [0,3,4,5,6,7,8,11,23] [] al fun _ am => ?_
 refine ze <| wp_seq <| r_c (fun ac wo => Env ac 89 [(0, .int .i64 1), (3, pt Eq), (4, pt Ej), (5, .bool false), (6, pt Eh), (7, pt Eb), (8, pt Ed), (11, pt Ee), (23, .int .i64 1)] ∧ Ev w [] wo [.box Eq (zh a) 33, .box Ej (zh (zd 4 0)) 33, .box Eh (zh (nd (mF 1))) 33, .box Eb (zh (nd (zJ 1 (nv a) (nv (nd (nv (nd (nv (nd (nv (nd (nv (nd (mF 1)) + nv ([3, 0, 0, 0] : List UInt64))) / 2)) / 2)) / 2)))))) 33, .box Ed (zh (nd (zr 1 (nv a) (nv ([1, 0, 0, 0] : List UInt64))))) 33, .box Ee (zh (nd (nv (nd (mF 1)) + nv ([3, 0, 0, 0] : List UInt64)))) 33]) ?_ ?_
 ·
  refine h_s (fun wv => Ev w [] wv [.box Eq (zh a) 33, .box Ee (zh (nd (nv (nd (mF 1)) + nv ([3, 0, 0, 0] : List UInt64)))) 33]) [] 8 ?_
  have Er := EI.trans (Ev.drew EI.heap)
  refine q_s [0] [] 7 am (Er.pk [0, 5]) fun _ EJ => q_r 1 (s := Instr.loadAt 33 (pt Eq)) (v := .agg (zg (zh a))) EJ (fun w hS => run_loadAgg2 (m := 4) (cs := zh a) (zf ha) (by kernel_rfl) (by kernel_rfl) (hS.heap.cells (k := 0) (off := 0) (m := 4) rfl (zq (zf ha)))) (Er.pk [0, 5]) fun _ EK => q_r 2 (s := Instr.loadAt 33 (pt Ee)) (v := .agg (zg (zh (nd (nv (nd (mF 1)) + nv ([3, 0, 0, 0] : List UInt64)))))) EK (fun w hS => run_loadAgg2 (m := 4) (cs := zh (nd (nv (nd (mF 1)) + nv ([3, 0, 0, 0] : List UInt64)))) (zf (zl _ _)) (by kernel_rfl) (by kernel_rfl) (hS.heap.cells (k := 1) (off := 0) (m := 4) rfl (zq (zf (zl _ _))))) (Er.pk [0, 5]) fun _ EL => q_t 3 ?_
  refine c_p EL Er (Kf _ (nd (nv (nd (mF 1)) + nv ([3, 0, 0, 0] : List UInt64))) (zl _ _)) fun _ _ EM Es => ⟨fun _ => Es.pk [0, 5], ?_⟩
  refine q_t 4 ?_
  refine c_p EM Es (Kf _ (nd (nv (nd (nv (nd (mF 1)) + nv ([3, 0, 0, 0] : List UInt64))) / 2)) (zl _ _)) fun _ _ EN Et => ⟨fun _ => Et.pk [0, 5], ?_⟩
  refine q_t 5 ?_
  refine c_p EN Et (Kf _ (nd (nv (nd (nv (nd (nv (nd (mF 1)) + nv ([3, 0, 0, 0] : List UInt64))) / 2)) / 2)) (zl _ _)) fun _ _ EO Eu => ⟨fun _ => Eu.pk [0, 5], ?_⟩
  refine q_t 6 ?_
  refine c_p EO Eu (rexp_go _ 1 h1f (XN h1f (J2 (by decide))) a (nd (nv (nd (nv (nd (nv (nd (nv (nd (mF 1)) + nv ([3, 0, 0, 0] : List UInt64))) / 2)) / 2)) / 2)) ha (zl _ _)) fun _ _ EP Ew => ⟨fun _ => Ew.pk [0, 5], ?_⟩
  refine q_t 7 ?_
  refine zQ 3 4 (zh (nd (zJ 1 (nv a) (nv (nd (nv (nd (nv (nd (nv (nd (nv (nd (mF 1)) + nv ([3, 0, 0, 0] : List UInt64))) / 2)) / 2)) / 2)))))) _ EP Ew rfl (zf (zl _ _)) (zf (show zb ([0, 0, 0, 0] : List UInt64) = 4 from rfl)) (zt _) rfl fun _ _ EQ Ex => ⟨fun _ => Ex.pk [0, 5], ?_⟩
  exact h_e ⟨EQ.sb, Ex.pk [0, 1, 2, 3, 4, 5]⟩
 rintro _ _ ⟨ER, Ei⟩
 refine ze <| wp_seq ?_
 rw [show (nd (zJ 1 (nv a) (nv (nd (nv (nd (nv (nd (nv (nd (nv (nd (mF 1)) + nv ([3, 0, 0, 0] : List UInt64))) / 2)) / 2)) / 2))))) = (nd (rq 1 (nv a))) from (congrArg (fun e => nd (zJ 1 (nv a) e)) (show _ = (mF 1 + 3) / 8 by decide +kernel))] at Ei
 refine zk <| d_k [0,3,4,5,6,7,8,11,23,54] [] 1 ER fun _ ES => f_o <| Zp 3 4 (zh (nd (rq 1 (nv a)))) ES Ei rfl (zf (zl _ _)) fun _ ET => f_o <| Zp 3 4 (zh (nd (rq 1 (nv a)))) ET Ei rfl (zf (zl _ _)) fun _ EU => f_o <| c_p EU Ei ((XN h1f (J2 (by decide))) _ (nd (rq 1 (nv a))) (nd (rq 1 (nv a))) (zl _ _) (zl _ _)) fun _ _ EV EW => ?_
 refine f_o <| m_z 33 (zh (zd 4 0)) EV EW fun _ _ Ek EX EY => f_o <| zQ 6 4 (zh (nd (zr 1 (nv (nd (rq 1 (nv a)))) (nv (nd (rq 1 (nv a))))))) [.box Eq (zh a) 33, .box Ej (zh (zd 4 0)) 33, .box Eh (zh (nd (mF 1))) 33, .box Eb (zh (nd (rq 1 (nv a)))) 33, .box Ed (zh (nd (zr 1 (nv a) (nv ([1, 0, 0, 0] : List UInt64))))) 33, .box Ee (zh (nd (nv (nd (mF 1)) + nv ([3, 0, 0, 0] : List UInt64)))) 33, .box Ek (zh (nd (zr 1 (nv (nd (rq 1 (nv a)))) (nv (nd (rq 1 (nv a))))))) 33] EX EY rfl (zf (zl _ _)) (zf (zi)) (zt _) rfl fun _ _ EZ Ec => f_e <| ze <| wp_seq <| zk <| f_o <| Zp 6 4 (zh (nd (zr 1 (nv (nd (rq 1 (nv a)))) (nv (nd (rq 1 (nv a))))))) EZ Ec rfl (zf (zl _ _)) fun _ E0 => f_o <| Zp 4 4 (zh (nd (zr 1 (nv a) (nv ([1, 0, 0, 0] : List UInt64))))) E0 Ec rfl (zf (zl _ _)) fun _ E1 => ?_
 refine f_o <| q_v (x := eqOp .neq 33 (.tmp 58) (.tmp 59) (.agg (zg (zh (nd (zr 1 (nv (nd (rq 1 (nv a)))) (nv (nd (rq 1 (nv a))))))))) (.agg (zg (zh (nd (zr 1 (nv a) (nv ([1, 0, 0, 0] : List UInt64)))))))) (v := .bool (!((nd (zr 1 (nv (nd (rq 1 (nv a)))) (nv (nd (rq 1 (nv a)))))) == (nd (zr 1 (nv a) (nv ([1, 0, 0, 0] : List UInt64))))))) E1 (Go.Dbr.u64s_neop (a := (.tmp 58)) (b := (.tmp 59)) (e := 31) (m := 4) (by kernel_rfl) (by kernel_rfl) (by kernel_rfl) (by kernel_rfl) (by kernel_rfl) (zl _ _) (zl _ _) _) fun _ El => ?_
 refine f_e <| ze <| region_cut (F := fun ac wo => Env ac 89 [(0, .int .i64 1), (3, pt Eq), (4, pt Ej), (5, .bool false), (6, pt Eh), (7, pt Eb), (8, pt Ed), (11, pt Ee), (13, pt Ek), (23, .int .i64 1)] ∧ Ev w [] wo [.box Ej (zh (zd 4 0)) 33, .box Ed (zh (nd (zr 1 (nv a) (nv ([1, 0, 0, 0] : List UInt64))))) 33, .box Eb (zh (nd (rs 1 (nv a)))) 33]) ?_ ?_
 ·
  refine cond_at El (t := !((nd (zr 1 (nv (nd (rq 1 (nv a)))) (nv (nd (rq 1 (nv a)))))) == (nd (zr 1 (nv a) (nv ([1, 0, 0, 0] : List UInt64)))))) (by kernel_rfl) (fun Ef => ?_) (fun Ef => ?_)
  ·
   replace Ef : ¬ ((nd (zr 1 (nv (nd (rq 1 (nv a)))) (nv (nd (rq 1 (nv a)))))) = (nd (zr 1 (nv a) (nv ([1, 0, 0, 0] : List UInt64))))) := by simpa using Ef
   refine wp_seq <| zk <| d_k [0,3,4,5,6,7,8,11,13,23,61,62] [] 2 El fun _ E2 => f_o <| Zp 2 4 (zh (nd (mF 1))) E2 Ec rfl (zf (zl _ _)) fun _ E3 => d_k [0,3,4,5,6,7,8,11,13,23,61,62,63,64] [] 4 E3 fun _ E4 => f_o <| c_p E4 Ec (rminus_go _ (nd (mF 1)) ([1, 0, 0, 0] : List UInt64) (zl _ _) (show zb ([1, 0, 0, 0] : List UInt64) = 4 from rfl)) fun _ _ E5 E6 => ?_
   refine f_o <| c_p E5 E6 (Kf _ (nd (nv (nd (mF 1)) + zU - nv ([1, 0, 0, 0] : List UInt64))) (zl _ _)) fun _ _ E7 E8 => f_o <| c_p E7 E8 (Kf _ (nd (nv (nd (nv (nd (mF 1)) + zU - nv ([1, 0, 0, 0] : List UInt64))) / 2)) (zl _ _)) fun _ _ E9 Ha => f_o <| c_p E9 Ha (rexp_go _ 1 h1f (XN h1f (J2 (by decide))) ([2, 0, 0, 0] : List UInt64) (nd (nv (nd (nv (nd (nv (nd (mF 1)) + zU - nv ([1, 0, 0, 0] : List UInt64))) / 2)) / 2)) (show zb ([2, 0, 0, 0] : List UInt64) = 4 from rfl) (zl _ _)) fun _ _ Hb Hc => f_o <| m_z 33 (zh (zd 4 0)) Hb Hc fun _ _ Hd He Hf => ?_
   refine f_o <| zQ 7 4 (zh (nd (zJ 1 (nv ([2, 0, 0, 0] : List UInt64)) (nv (nd (nv (nd (nv (nd (nv (nd (mF 1)) + zU - nv ([1, 0, 0, 0] : List UInt64))) / 2)) / 2)))))) _ He Hf rfl (zf (zl _ _)) (zf (zi)) (zt _) rfl fun _ _ Hg Em => f_e <| ze <| zk <| d_k [0,3,4,5,6,7,8,11,13,14,23,69] [] 1 Hg fun _ Hh => f_o <| Zp 3 4 (zh (nd (rq 1 (nv a)))) Hh Em rfl (zf (zl _ _)) fun _ Hi => f_o <| Zp 7 4 (zh (nd (zJ 1 (nv ([2, 0, 0, 0] : List UInt64)) (nv (nd (nv (nd (nv (nd (nv (nd (mF 1)) + zU - nv ([1, 0, 0, 0] : List UInt64))) / 2)) / 2)))))) Hi Em rfl (zf (zl _ _)) fun _ Hj => ?_
   refine f_o <| c_p Hj Em ((XN h1f (J2 (by decide))) _ (nd (rq 1 (nv a))) (nd (zJ 1 (nv ([2, 0, 0, 0] : List UInt64)) (nv (nd (nv (nd (nv (nd (nv (nd (mF 1)) + zU - nv ([1, 0, 0, 0] : List UInt64))) / 2)) / 2))))) (zl _ _) (zl _ _)) fun _ _ Hk Hl => f_o <| zQ 3 4 (zh (nd (zr 1 (nv (nd (rq 1 (nv a)))) (nv (nd (zJ 1 (nv ([2, 0, 0, 0] : List UInt64)) (nv (nd (nv (nd (nv (nd (nv (nd (mF 1)) + zU - nv ([1, 0, 0, 0] : List UInt64))) / 2)) / 2))))))))) [.box Eq (zh a) 33, .box Ej (zh (zd 4 0)) 33, .box Eh (zh (nd (mF 1))) 33, .box Eb (zh (nd (zr 1 (nv (nd (rq 1 (nv a)))) (nv (nd (zJ 1 (nv ([2, 0, 0, 0] : List UInt64)) (nv (nd (nv (nd (nv (nd (nv (nd (mF 1)) + zU - nv ([1, 0, 0, 0] : List UInt64))) / 2)) / 2))))))))) 33, .box Ed (zh (nd (zr 1 (nv a) (nv ([1, 0, 0, 0] : List UInt64))))) 33, .box Ee (zh (nd (nv (nd (mF 1)) + nv ([3, 0, 0, 0] : List UInt64)))) 33, .box Ek (zh (nd (zr 1 (nv (nd (rq 1 (nv a)))) (nv (nd (rq 1 (nv a))))))) 33, .box Hd (zh (nd (zJ 1 (nv ([2, 0, 0, 0] : List UInt64)) (nv (nd (nv (nd (nv (nd (nv (nd (mF 1)) + zU - nv ([1, 0, 0, 0] : List UInt64))) / 2)) / 2)))))) 33] Hk Hl rfl (zf (zl _ _)) (zf (zl _ _)) (zt _) rfl fun _ _ Hm Ey => f_e ?_
   rw [show (nd (zr 1 (nv (nd (rq 1 (nv a)))) (nv (nd (zJ 1 (nv ([2, 0, 0, 0] : List UInt64)) (nv (nd (nv (nd (nv (nd (nv (nd (mF 1)) + zU - nv ([1, 0, 0, 0] : List UInt64))) / 2)) / 2)))))))) = (nd (rs 1 (nv a))) from (rs1_b (by assumption) (by decide +kernel))] at Ey
   exact ⟨rfl, ⟨Hm.sb, Ey.pk [1, 4, 3]⟩⟩
  replace Ef : (nd (zr 1 (nv (nd (rq 1 (nv a)))) (nv (nd (rq 1 (nv a)))))) = (nd (zr 1 (nv a) (nv ([1, 0, 0, 0] : List UInt64)))) := by simpa using Ef
  refine wp_skip ?_
  rw [show (nd (rq 1 (nv a))) = (nd (rs 1 (nv a))) from (rs1_a (by assumption))] at Ec
  exact ⟨rfl, ⟨El.sb, Ec.pk [1, 4, 3]⟩⟩
 rintro _ _ ⟨Hn, En⟩
 refine block_normal <| ze <| wp_seq <| zk <| d_k [0,3,4,5,6,7,8,11,13,23,73] [] 1 Hn fun _ Ho => f_o <| Zp 2 4 (zh (nd (rs 1 (nv a)))) Ho En rfl (zf (zl _ _)) fun _ Hp => f_o <| Zp 2 4 (zh (nd (rs 1 (nv a)))) Hp En rfl (zf (zl _ _)) fun _ Hq => f_o <| c_p Hq En ((XN h1f (J2 (by decide))) _ (nd (rs 1 (nv a))) (nd (rs 1 (nv a))) (zl _ _) (zl _ _)) fun _ _ Hr Hs => ?_
 refine f_o <| m_z 33 (zh (zd 4 0)) Hr Hs fun _ _ Ez Ht Hu => f_o <| zQ 3 4 (zh (nd (zr 1 (nv (nd (rs 1 (nv a)))) (nv (nd (rs 1 (nv a))))))) _ Ht Hu rfl (zf (zl _ _)) (zf (zi)) (zt _) rfl fun _ _ Hv Ea => f_e <| ze <| wp_seq <| wp_seq <| zk <| f_o <| Zp 3 4 (zh (nd (zr 1 (nv (nd (rs 1 (nv a)))) (nv (nd (rs 1 (nv a))))))) Hv Ea rfl (zf (zl _ _)) fun _ Hw => f_o <| Zp 1 4 (zh (nd (zr 1 (nv a) (nv ([1, 0, 0, 0] : List UInt64))))) Hw Ea rfl (zf (zl _ _)) fun _ Hx => ?_
 refine f_o <| q_v (x := eqOp .neq 33 (.tmp 77) (.tmp 78) (.agg (zg (zh (nd (zr 1 (nv (nd (rs 1 (nv a)))) (nv (nd (rs 1 (nv a))))))))) (.agg (zg (zh (nd (zr 1 (nv a) (nv ([1, 0, 0, 0] : List UInt64)))))))) (v := .bool (!((nd (zr 1 (nv (nd (rs 1 (nv a)))) (nv (nd (rs 1 (nv a)))))) == (nd (zr 1 (nv a) (nv ([1, 0, 0, 0] : List UInt64))))))) Hx (Go.Dbr.u64s_neop (a := (.tmp 77)) (b := (.tmp 78)) (e := 31) (m := 4) (by kernel_rfl) (by kernel_rfl) (by kernel_rfl) (by kernel_rfl) (by kernel_rfl) (zl _ _) (zl _ _) _) fun _ Eo => ?_
 refine f_e <| ze <| cond_at Eo (t := !((nd (zr 1 (nv (nd (rs 1 (nv a)))) (nv (nd (rs 1 (nv a)))))) == (nd (zr 1 (nv a) (nv ([1, 0, 0, 0] : List UInt64)))))) (by kernel_rfl) (fun Eg => ?_) (fun Eg => ?_)
 ·
  replace Eg : ¬ ((nd (zr 1 (nv (nd (rs 1 (nv a)))) (nv (nd (rs 1 (nv a)))))) = (nd (zr 1 (nv a) (nv ([1, 0, 0, 0] : List UInt64))))) := by simpa using Eg
  refine wp_seq <| zk <| d_k [0,3,4,5,6,7,8,11,13,15,23,80] [] 1 Eo fun _ Hy => f_o <| zQ 0 4 (zh ([0, 0, 0, 0] : List UInt64)) [.box Ej (zh ([0, 0, 0, 0] : List UInt64)) 33, .box Ed (zh (nd (zr 1 (nv a) (nv ([1, 0, 0, 0] : List UInt64))))) 33, .box Eb (zh (nd (rs 1 (nv a)))) 33, .box Ez (zh (nd (zr 1 (nv (nd (rs 1 (nv a)))) (nv (nd (rs 1 (nv a))))))) 33] Hy Ea rfl (zf (show zb ([0, 0, 0, 0] : List UInt64) = 4 from rfl)) (zf (zi)) (zt _) rfl fun _ _ Hz EA => d_e [0,3,4,5,6,7,8,11,13,15,23] [] Hz fun _ HA => ze <| wp_ret <| then_ret <| Z6 (v := .agg (zg (zh ([0, 0, 0, 0] : List UInt64)))) (x := .bool false) (t := 4) (T := 33) (ad := ⟨Ej, 0, none⟩) (u := 5) HA (by kernel_rfl) (by kernel_rfl) (zB (t := 33) (k := 0) (off := 0) (m := 4) (xs := zh ([0, 0, 0, 0] : List UInt64)) EA rfl (zq (zf (show zb ([0, 0, 0, 0] : List UInt64) = 4 from rfl))) (zf (show zb ([0, 0, 0, 0] : List UInt64) = 4 from rfl)) (by kernel_rfl) (by kernel_rfl)) (by kernel_rfl) ?_
  have eb := (root_no (f := 1) h1f (by assumption)).1
  have e : ([0, 0, 0, 0] : List UInt64) = nd (Yy 1 (nv a)) := root_z (root_no (f := 1) h1f (by assumption))
  rw [eb]
  exact ⟨congrArg (fun l : List UInt64 => Ending.returned (.tuple #[Value.agg (zh l).toArray, .bool false])) e, EA.pk []⟩
 replace Eg : (nd (zr 1 (nv (nd (rs 1 (nv a)))) (nv (nd (rs 1 (nv a)))))) = (nd (zr 1 (nv a) (nv ([1, 0, 0, 0] : List UInt64)))) := by simpa using Eg
 refine wp_skip <| ze <| wp_seq <| wp_seq <| zk <| d_k [0,3,4,5,6,7,8,11,13,15,23,81] [] 1 Eo fun _ HB => f_o ?_
 have HC : 0 < zb (nd (rs 1 (nv a))) := by rw [(zl _ _)]; omega
 refine m_v 2 0 (uv64 (za (nd (rs 1 (nv a))) 0 0)) HB Ea rfl (u64s_getD HC) fun _ HD => d_e [0,3,4,5,6,7,8,11,13,15,23,84] [(2, g_i .u64 (Go.Dbr.u64_and (x := za (nd (rs 1 (nv a))) 0 0) (y := (1 : UInt64)) rfl rfl))] HD fun _ Ep => ?_
 refine ze <| c_e ((UInt64.toNat ((za (nd (rs 1 (nv a))) 0 0) &&& (1 : UInt64)) : Nat) : Int) (1 : Int) Ep (fun HE => ?_) (fun HE => ?_)
 ·
  refine zk <| d_k [0,3,4,5,6,7,8,11,13,15,23,85] [] 1 Ep fun _ HF => f_o <| Zp 2 4 (zh (nd (rs 1 (nv a)))) HF Ea rfl (zf (zl _ _)) fun _ HG => f_o <| c_p HG Ea (rneg_go _ 1 h1f (J2 (by decide)) (nd (rs 1 (nv a))) (zl _ _)) fun _ _ HH HI => f_o <| zQ 2 4 (zh (nd (z7 1 0 (nv (nd (rs 1 (nv a))))))) _ HH HI rfl (zf (zl _ _)) (zf (zl _ _)) (zt _) rfl fun _ _ HJ EB => ?_
  refine f_e <| ze <| wp_seq <| zk <| f_o <| Zp 2 4 (zh (nd (z7 1 0 (nv (nd (rs 1 (nv a))))))) HJ EB rfl (zf (zl _ _)) fun _ HK => f_o <| zQ 0 4 (zh (nd (z7 1 0 (nv (nd (rs 1 (nv a))))))) [.box Ej (zh (nd (z7 1 0 (nv (nd (rs 1 (nv a))))))) 33, .box Ed (zh (nd (zr 1 (nv a) (nv ([1, 0, 0, 0] : List UInt64))))) 33, .box Eb (zh (nd (z7 1 0 (nv (nd (rs 1 (nv a))))))) 33, .box Ez (zh (nd (zr 1 (nv (nd (rs 1 (nv a)))) (nv (nd (rs 1 (nv a))))))) 33] HK EB rfl (zf (zl _ _)) (zf (zi)) (zt _) rfl fun _ _ HL EC => d_e [0,3,4,5,6,7,8,11,13,15,23] [] HL fun _ HM => ze <| wp_ret <| Z6 (v := .agg (zg (zh (nd (z7 1 0 (nv (nd (rs 1 (nv a))))))))) (x := .bool true) (t := 4) (T := 33) (ad := ⟨Ej, 0, none⟩) (u := 5) HM (by kernel_rfl) (by kernel_rfl) (zB (t := 33) (k := 0) (off := 0) (m := 4) (xs := zh (nd (z7 1 0 (nv (nd (rs 1 (nv a))))))) EC rfl (zq (zf (zl _ _))) (zf (zl _ _)) (by kernel_rfl) (by kernel_rfl)) (by kernel_rfl) ?_
  have eb := root_yes (f := 1) (A := nv a) (by decide) (by assumption)
  have e : nd (z7 1 0 (nv (nd (rs 1 (nv a))))) = nd (Yy 1 (nv a)) := by first | exact root_odd (by decide) (by assumption) (by assumption) | exact root_even (by decide) (by assumption) (by assumption)
  rw [eb]
  exact ⟨congrArg (fun l : List UInt64 => Ending.returned (.tuple #[Value.agg (zh l).toArray, .bool true])) e, EC.pk []⟩
 refine wp_skip <| ze <| wp_seq <| zk <| f_o <| Zp 2 4 (zh (nd (rs 1 (nv a)))) Ep Ea rfl (zf (zl _ _)) fun _ HN => f_o <| zQ 0 4 (zh (nd (rs 1 (nv a)))) _ HN Ea rfl (zf (zl _ _)) (zf (zi)) (zt _) rfl fun _ _ HO ED => d_e [0,3,4,5,6,7,8,11,13,15,23] [] HO fun _ HP => ze <| wp_ret <| Z6 (v := .agg (zg (zh (nd (rs 1 (nv a)))))) (x := .bool true) (t := 4) (T := 33) (ad := ⟨Ej, 0, none⟩) (u := 5) HP (by kernel_rfl) (by kernel_rfl) (zB (t := 33) (k := 0) (off := 0) (m := 4) (xs := zh (nd (rs 1 (nv a)))) ED rfl (zq (zf (zl _ _))) (zf (zl _ _)) (by kernel_rfl) (by kernel_rfl)) (by kernel_rfl) ?_
 have eb := root_yes (f := 1) (A := nv a) (by decide) (by assumption)
 have e : nd (rs 1 (nv a)) = nd (Yy 1 (nv a)) := by first | exact root_odd (by decide) (by assumption) (by assumption) | exact root_even (by decide) (by assumption) (by assumption)
 rw [eb]
 exact ⟨congrArg (fun l : List UInt64 => Ending.returned (.tuple #[Value.agg (zh l).toArray, .bool true])) e, ED.pk []⟩
end Go.Proofs.YtlnogkmnklfjlaaGreatDoor
