/- Layer 4: products of the two orders. -/
import Derived.Test.YtamdjonejijndaaF10
namespace Go.Proofs.Ytamdjonejijndaa
open Go.Dbr
set_option maxRecDepth 100000
set_option maxHeartbeats 2000000
set_option linter.unusedVariables false
set_option linter.unusedSimpArgs false

/-- a field without cells, of a variable without cells -/
def field0 (P : Program) (s : TypeId) (i : Nat) (T : TypeId) : Bool := match P.underlying s with
  | some (.struct fs) => (match fs[i]? with
    | some f => (match P.info? f.type with
      | some j => j.size == 0 && P.cellsOf T == 0 && f.offset == 0 && f.byteOffset == 0
      | none => false)
    | none => false)
  | _ => false
theorem _root_.Go.Dbr.Heap.shape0 {w : World} {L : List Ent} (h : Heap w L) {k b : Nat} {T : TypeId} (hk : L[k]? = some (.box b [] T)) : w.shape? b = some (T, 0) := by
  have hh : w.heap[b]? = some (.cells ([] : List Value).toArray T (0, 0)) := h.holds k _ hk
  unfold World.shape?
  rw [hh]
  rfl
theorem run_field0 {P : Program} {s T : TypeId} {b i : Nat} {w : World} (hsh : w.shape? b = some (T, 0)) (h : field0 P s i T = true) : (Instr.fieldAt s (pt b) i).run P w = .ok (pt b) w := by
  unfold field0 at h
  split at h
  · rename_i fs hu
    split at h
    · rename_i f hf
      split at h
      · rename_i j hj
        simp only [Bool.and_eq_true, beq_iff_eq] at h
        obtain ⟨⟨⟨h1, h2⟩, h3⟩, h4⟩ := h
        simp [Instr.fieldAt, run_underlying hu, hf, Instr.sureAddr, fieldPlace, sizeOf, typeInfo, hj, h1, partAt, byteOf, noView, viewAt, shape, Sem.run, hsh, h2, h3, h4]
      · cases h
    · cases h
  · cases h
theorem dvk_s (l : List UInt64) (k : Nat) : dvk l (k + 1) = dvk l k + (List.getD l k 0).toNat * 18446744073709551616 ^ k := rfl
theorem dvk_ge {l : List UInt64} {j : Nat} {x : UInt64} : ∀ n, n ≤ j → dvk (List.set l j x) n = dvk l n
  | 0, _ => rfl
  | n + 1, h => by rw [dvk, dvk, dvk_ge n (by omega), getD_set_ne _ (by omega)]
theorem getD_set_eq {l : List UInt64} {j : Nat} (x : UInt64) (h : j < l.length) : List.getD (List.set l j x) j 0 = x := by rw [List.getD_eq_getElem?_getD, List.getElem?_set_self h]; rfl
theorem dvk_set {l : List UInt64} {j : Nat} {x : UInt64} (h : j < l.length) : ∀ n, j < n → dvk (List.set l j x) n + (List.getD l j 0).toNat * 18446744073709551616 ^ j = dvk l n + x.toNat * 18446744073709551616 ^ j
  | 0, hn => by omega
  | n + 1, hn => by
    rw [dvk, dvk]
    by_cases e : j = n
    · subst e
      rw [dvk_ge _ (Nat.le_refl _), getD_set_eq x h]
      omega
    · rw [getD_set_ne _ e]
      have := dvk_set (x := x) h n (by omega)
      omega
theorem mont_in {a u : List UInt64} {b c : UInt64} {T k : Nat} (hl : u.length = 6) (hk : k < 4) (hv : dvk u 5 + c.toNat * 18446744073709551616 ^ k = T + dvk a k * b.toNat) :
    dvk (List.set u k (addLo (addLo (List.getD a k 0 * b) (List.getD u k 0) 0) c 0)) 5 + (mulHi (List.getD a k 0) b + addHi (List.getD a k 0 * b) (List.getD u k 0) 0 + addHi (addLo (List.getD a k 0 * b) (List.getD u k 0) 0) c 0).toNat * 18446744073709551616 ^ (k + 1) = T + dvk a (k + 1) * b.toNat := by
  have e := dvk_set (l := u) (x := addLo (addLo (List.getD a k 0 * b) (List.getD u k 0) 0) c 0) (j := k) (by omega) 5 (by omega)
  have m := mac_val (x := List.getD a k 0) (y := b) (t := List.getD u k 0) (c := c)
  have m2 := congrArg (· * 18446744073709551616 ^ k) m
  simp only [Nat.add_mul] at m2
  rw [dvk_s a k, Nat.add_mul, Nat.pow_succ, Nat.mul_comm (18446744073709551616 ^ k) 18446744073709551616, ← Nat.mul_assoc, Nat.mul_comm (UInt64.toNat _) 18446744073709551616, Nat.mul_right_comm (List.getD a k 0).toNat]
  generalize 18446744073709551616 ^ k = q at *
  omega
theorem mont_mid {u : List UInt64} {c : UInt64} {P : Nat} (hl : u.length = 6) (hv : dvk u 5 + c.toNat * 18446744073709551616 ^ 4 = P) :
    dvk (List.set (List.set u 4 (addLo (List.getD u 4 0) c 0)) 5 (addHi (List.getD u 4 0) c 0)) 6 = P ∧ (List.getD (List.set (List.set u 4 (addLo (List.getD u 4 0) c 0)) 5 (addHi (List.getD u 4 0) c 0)) 5 0).toNat ≤ 1 := by
  rw [getD_set_eq _ (by rw [List.length_set]; omega)]
  refine ⟨?_, addHi_le (by decide)⟩
  rw [dvk_s _ 5, dvk_ge 5 (Nat.le_refl _), getD_set_eq _ (by rw [List.length_set]; omega)]
  have e := dvk_set (l := u) (x := addLo (List.getD u 4 0) c 0) (j := 4) (by omega) 5 (by decide)
  have m := add_val (x := List.getD u 4 0) (y := c) (c := 0)
  rw [show (0 : UInt64).toNat = 0 from rfl, Nat.add_zero] at m
  have m2 := congrArg (· * 18446744073709551616 ^ 4) m
  simp only [Nat.add_mul] at m2
  rw [show (18446744073709551616 : Nat) ^ 5 = 18446744073709551616 * 18446744073709551616 ^ 4 by decide, ← Nat.mul_assoc, Nat.mul_comm (UInt64.toNat _) 18446744073709551616]
  generalize (18446744073709551616 : Nat) ^ 4 = q at *
  omega
theorem mont_first {v w m : List UInt64} {q c bk : UInt64} (hm : (bk.toNat * (List.getD m 0 0).toNat + 1) % 18446744073709551616 = 0) (hq : q = List.getD v 0 0 * bk) (hs : List.getD w 0 0 = List.getD v 0 0) (hc : c.toNat = 0) :
    18446744073709551616 * (dvk w 0 + (mulHi q (List.getD m 0 0) + addHi (q * List.getD m 0 0) (List.getD w 0 0) 0 + addHi (addLo (q * List.getD m 0 0) (List.getD w 0 0) 0) c 0).toNat * 18446744073709551616 ^ 0) = dvk v 1 + q.toNat * dvk m 1 := by
  have e := mac_val (x := q) (y := List.getD m 0 0) (t := List.getD w 0 0) (c := c)
  have l1 := lt64 (addLo (addLo (q * List.getD m 0 0) (List.getD w 0 0) 0) c 0)
  simp only [dvk, Nat.pow_zero, Nat.mul_one, Nat.zero_add]
  have hz : (q.toNat * (List.getD m 0 0).toNat + (List.getD v 0 0).toNat) % 18446744073709551616 = 0 := by
    rw [hq, UInt64.toNat_mul, Nat.add_mod, Nat.mod_mul_mod, ← Nat.add_mod, Nat.mul_assoc, show (2 : Nat) ^ 64 = 18446744073709551616 from rfl]
    have : (List.getD v 0 0).toNat * (bk.toNat * (List.getD m 0 0).toNat) + (List.getD v 0 0).toNat = (List.getD v 0 0).toNat * (bk.toNat * (List.getD m 0 0).toNat + 1) := by rw [Nat.mul_add, Nat.mul_one]
    rw [this, Nat.mul_mod, hm, Nat.mul_zero, Nat.zero_mod]
  rw [hs, hc] at e
  rw [hs] at l1 ⊢
  generalize q.toNat * (List.getD m 0 0).toNat = p at *
  omega
theorem dvk_rep : dvk (List.replicate 6 0) 5 = 0 := by decide +kernel
theorem mont_i0 {T x : Nat} {a : List UInt64} : T + (0 : UInt64).toNat * 18446744073709551616 ^ 0 = T + dvk a 0 * x := by rw [dvk, Nat.zero_mul, show (0 : UInt64).toNat = 0 from rfl, Nat.zero_mul]
theorem mont_j0 {v m : List UInt64} {q : UInt64} : 18446744073709551616 * (dvk v (0 - 1) + (0 : UInt64).toNat * 18446744073709551616 ^ (0 - 1)) = dvk v 0 + q.toNat * dvk m 0 := by rw [Nat.zero_sub, dvk, dvk, show (0 : UInt64).toNat = 0 from rfl, Nat.zero_mul, Nat.mul_zero, Nat.mul_zero]
theorem mont_c0 {v w m : List UInt64} {q c : UInt64} (hv : 18446744073709551616 * (dvk w (0 - 1) + c.toNat * 18446744073709551616 ^ (0 - 1)) = dvk v 0 + q.toNat * dvk m 0) : c.toNat = 0 := by
  simp only [dvk, Nat.zero_sub, Nat.pow_zero, Nat.mul_zero] at hv
  omega
theorem mont_more {v w m : List UInt64} {q c : UInt64} {k : Nat} (hl : w.length = 6) (hk : k < 4) (h0 : 0 < k) (hs : List.getD w k 0 = List.getD v k 0) (hv : 18446744073709551616 * (dvk w (k - 1) + c.toNat * 18446744073709551616 ^ (k - 1)) = dvk v k + q.toNat * dvk m k) :
    18446744073709551616 * (dvk (List.set w (k - 1) (addLo (addLo (q * List.getD m k 0) (List.getD w k 0) 0) c 0)) k + (mulHi q (List.getD m k 0) + addHi (q * List.getD m k 0) (List.getD w k 0) 0 + addHi (addLo (q * List.getD m k 0) (List.getD w k 0) 0) c 0).toNat * 18446744073709551616 ^ k) = dvk v (k + 1) + q.toNat * dvk m (k + 1) := by
  obtain ⟨j, rfl⟩ : ∃ j, k = j + 1 := ⟨k - 1, by omega⟩
  rw [Nat.add_sub_cancel] at *
  have e := mac_val (x := q) (y := List.getD m (j + 1) 0) (t := List.getD w (j + 1) 0) (c := c)
  rw [dvk_s _ j, dvk_ge j (Nat.le_refl _), getD_set_eq _ (by omega), dvk_s v (j + 1), dvk_s m (j + 1), Nat.mul_add q.toNat, hs]
  rw [hs] at e
  have e2 := congrArg (· * 18446744073709551616 ^ (j + 1)) e
  simp only [Nat.add_mul] at e2
  rw [← Nat.mul_assoc q.toNat]
  rw [Nat.pow_succ] at *
  generalize q.toNat * (List.getD m (j + 1) 0).toNat = p at *
  generalize q.toNat * dvk m (j + 1) = p2 at *
  rw [Nat.mul_comm _ 18446744073709551616] at *
  simp only [← Nat.mul_assoc, Nat.mul_comm _ 18446744073709551616] at *
  generalize 18446744073709551616 ^ j = z at *
  simp only [Nat.mul_assoc] at *
  omega
theorem mont_out {v w : List UInt64} {c : UInt64} {N : Nat} (hl : w.length = 6) (h4 : List.getD w 4 0 = List.getD v 4 0) (h5 : List.getD w 5 0 = List.getD v 5 0) (h1 : (List.getD v 5 0).toNat ≤ 1) (hv : 18446744073709551616 * (dvk w 3 + c.toNat * 18446744073709551616 ^ 3) = dvk v 4 + N) :
    18446744073709551616 * dvk (List.set (List.set w 3 (addLo (List.getD w 4 0) c 0)) 4 (List.getD (List.set w 3 (addLo (List.getD w 4 0) c 0)) 5 0 + addHi (List.getD w 4 0) c 0)) 5 = dvk v 6 + N := by
  have m := add_val (x := List.getD v 4 0) (y := c) (c := 0)
  have o := addHi_le (x := List.getD v 4 0) (y := c) (c := 0) (by decide)
  rw [show (0 : UInt64).toNat = 0 from rfl, Nat.add_zero] at m
  have ho : (List.getD v 5 0 + addHi (List.getD v 4 0) c 0).toNat = (List.getD v 5 0).toNat + (addHi (List.getD v 4 0) c 0).toNat := by
    rw [UInt64.toNat_add]
    omega
  rw [getD_set_ne _ (by decide), h4, h5, dvk_s _ 4, dvk_ge 4 (Nat.le_refl _), getD_set_eq _ (by rw [List.length_set]; omega), ho]
  rw [dvk_s _ 3, dvk_ge 3 (Nat.le_refl _), getD_set_eq _ (by omega), dvk_s v 5, dvk_s v 4]
  have m2 := congrArg (· * 18446744073709551616 ^ 4) m
  simp only [Nat.add_mul, Nat.mul_add] at m2 hv ⊢
  rw [show (18446744073709551616 : Nat) ^ 5 = 18446744073709551616 * 18446744073709551616 ^ 4 by decide]
  simp only [show (18446744073709551616 : Nat) ^ 4 = 18446744073709551616 * 18446744073709551616 ^ 3 by decide] at *
  generalize (18446744073709551616 : Nat) ^ 3 = q at *
  simp only [Nat.mul_left_comm _ 18446744073709551616] at *
  simp only [Nat.zero_mul, Nat.add_zero, Nat.mul_assoc] at *
  omega
theorem mont_next {M A T T' i : Nat} {b : List UInt64} {q : UInt64} (hA : A < M) (hT : T < 2 * M) (hm : T * 18446744073709551616 ^ i % M = A * dvk b i % M) (h : 18446744073709551616 * T' = T + A * (List.getD b i 0).toNat + q.toNat * M) : T' < 2 * M ∧ T' * 18446744073709551616 ^ (i + 1) % M = A * dvk b (i + 1) % M := by
  constructor
  · have h1 := lt64 q
    have h2 := lt64 (List.getD b i 0)
    have h3 : q.toNat * M ≤ 18446744073709551615 * M := Nat.mul_le_mul_right _ (by omega)
    have h4 : A * (List.getD b i 0).toNat ≤ A * 18446744073709551615 := Nat.mul_le_mul_left _ (by omega)
    generalize q.toNat * M = x at *
    generalize A * (List.getD b i 0).toNat = y at *
    omega
  · have e : T' * 18446744073709551616 ^ (i + 1) = T * 18446744073709551616 ^ i + A * ((List.getD b i 0).toNat * 18446744073709551616 ^ i) + M * (q.toNat * 18446744073709551616 ^ i) := by
      rw [Nat.pow_succ, Nat.mul_comm (18446744073709551616 ^ i), ← Nat.mul_assoc, Nat.mul_comm T', h, Nat.add_mul, Nat.add_mul, Nat.mul_assoc A, Nat.mul_comm q.toNat M, Nat.mul_assoc M]
    rw [e, Nat.add_mul_mod_self_left, Nat.add_mod, hm, ← Nat.add_mod, ← Nat.mul_add, dvk]
/-- a product, divided by 2^256 -/
def montN (r M x y : Nat) : Nat := x * y * r % M
theorem mont_fin {M A T r : Nat} (h : T * W256 % M = A % M) (hr : W256 * r % M = 1) : T % M = A * r % M := by
  have e : T * (W256 * r) % M = A * r % M := by rw [← Nat.mul_assoc, Nat.mul_mod, h, ← Nat.mul_mod]
  rw [Nat.mul_mod, hr, Nat.mul_one, Nat.mod_mod] at e
  exact e
theorem mont_nv {t : List UInt64} : nv [List.getD t 0 0, List.getD t 1 0, List.getD t 2 0, List.getD t 3 0] = dvk t 4 := by
  rw [nv4]
  simp only [dvk, Nat.reducePow]
  omega
theorem mont_yes {M A r : Nat} {t : List UInt64} (hr : W256 * r % M = 1) (hm : dvk t 5 * 18446744073709551616 ^ 4 % M = A % M) (h1 : nv [List.getD t 0 0, List.getD t 1 0, List.getD t 2 0, List.getD t 3 0] < M) (h2 : (((List.getD t 4 0).toNat : Nat) : Int) = (0 : Int)) :
    [List.getD t 0 0, List.getD t 1 0, List.getD t 2 0, List.getD t 3 0] = nd (A * r % M) := by
  have e : dvk t 5 = nv [List.getD t 0 0, List.getD t 1 0, List.getD t 2 0, List.getD t 3 0] := by rw [dvk, mont_nv, show (List.getD t 4 0).toNat = 0 by omega, Nat.zero_mul, Nat.add_zero]
  refine nd_of rfl ?_
  rw [← mont_fin (T := dvk t 5) hm hr, e, Nat.mod_eq_of_lt h1]
theorem mont_no {M A r : Nat} {t : List UInt64} (hM : M < W256) (hr : W256 * r % M = 1) (hT : dvk t 5 < 2 * M) (hm : dvk t 5 * 18446744073709551616 ^ 4 % M = A % M) (h1 : ¬ nv [List.getD t 0 0, List.getD t 1 0, List.getD t 2 0, List.getD t 3 0] < M ∨ ¬ (((List.getD t 4 0).toNat : Nat) : Int) = (0 : Int)) :
    nd (nv [List.getD t 0 0, List.getD t 1 0, List.getD t 2 0, List.getD t 3 0] + W256 - M) = nd (A * r % M) := by
  have hn := nv_lt (l := [List.getD t 0 0, List.getD t 1 0, List.getD t 2 0, List.getD t 3 0]) rfl
  have e : dvk t 5 = nv [List.getD t 0 0, List.getD t 1 0, List.getD t 2 0, List.getD t 3 0] + (List.getD t 4 0).toNat * W256 := by rw [dvk, mont_nv]
  generalize nv [List.getD t 0 0, List.getD t 1 0, List.getD t 2 0, List.getD t 3 0] = N at *
  have e2 : A * r % M = dvk t 5 - M := by
    rw [← mont_fin (T := dvk t 5) hm hr, Nat.mod_eq_sub_mod (by simp only [W256] at *; omega), Nat.mod_eq_of_lt (by omega)]
  rw [e2, ← nd_mod, ← nd_mod (dvk t 5 - M)]
  congr 1
  simp only [W256] at *
  omega

theorem ri3 : W256 * 43790243014242295660885426880012836369732278457577312309071968676491870960761 % mF 3 = 1 := by decide +kernel
theorem bk3 : ((14758798090332847183 : UInt64).toNat * (List.getD (nd (mF 3)) 0 0).toNat + 1) % 18446744073709551616 = 0 := by decide +kernel
theorem nvm3 : dvk (nd (mF 3)) 4 = mF 3 := (dvk4 (nds_len _ _)).trans (nv_mF _)
theorem two3 (a b : Nat) : montN 43790243014242295660885426880012836369732278457577312309071968676491870960761 (mF 3) (montN 43790243014242295660885426880012836369732278457577312309071968676491870960761 (mF 3) a 46533765739406314298121036767150998762426774378559716911348521029833835802274) b = a * b % mF 3 := by
  have h : 46533765739406314298121036767150998762426774378559716911348521029833835802274 * 43790243014242295660885426880012836369732278457577312309071968676491870960761 * 43790243014242295660885426880012836369732278457577312309071968676491870960761 % mF 3 = 1 := by decide +kernel
  have e : a * 46533765739406314298121036767150998762426774378559716911348521029833835802274 * 43790243014242295660885426880012836369732278457577312309071968676491870960761 * b * 43790243014242295660885426880012836369732278457577312309071968676491870960761 = a * b * (46533765739406314298121036767150998762426774378559716911348521029833835802274 * 43790243014242295660885426880012836369732278457577312309071968676491870960761 * 43790243014242295660885426880012836369732278457577312309071968676491870960761) := by ac_rfl
  rw [montN, montN, Nat.mul_assoc, Nat.mod_mul_mod, ← Nat.mul_assoc, e, Nat.mul_mod, h, Nat.mul_one, Nat.mod_mod]

theorem back3_go (w : World) : Calls Try.prog 87 #[.agg #[]] w fun e w' => e = .returned (.int .u64 14758798090332847183) ∧ Ev w [] w' [] := by
 refine d_0 [(0, .agg #[])] 3 Go.Proofs.Try.func87 Go.Proofs.Try.ntmps87 (Heap.nil _) fun act0 En0 Hv0 => ?_
 refine wp_seq ?_
 refine region_from ?_
 refine f_o ?_
 refine m_m 57 [] En0 Hv0 fun ac2 wo3 bk1 En4 Hv5 => ?_
 refine d_e [2] [] En4 fun ac6 En7 => ?_
 refine then_normal ?_
 refine d_s [2] [] En7 fun ac8 En9 => ?_
 refine wp_ret ?_
 refine d_ret1 (t := 2) (v := .int .u64 14758798090332847183) En9 (by kernel_rfl) (by kernel_rfl) ?_
 exact ⟨rfl, Hv5.pk []⟩

theorem square3_go (w : World) : Calls Try.prog 88 #[.agg #[]] w fun e w' => e = .returned (.agg (List.toArray (u64s (nd 46533765739406314298121036767150998762426774378559716911348521029833835802274)))) ∧ Ev w [] w' [] := by
 refine d_0 [(0, .agg #[])] 4 Go.Proofs.Try.func88 Go.Proofs.Try.ntmps88 (Heap.nil _) fun act0 En0 Hv0 => ?_
 refine wp_seq ?_
 refine region_from ?_
 refine f_o ?_
 refine m_m 57 [] En0 Hv0 fun ac2 wo3 bk1 En4 Hv5 => ?_
 refine f_o ?_
 refine m_z 25 (u64s (List.replicate 4 0)) En4 Hv5 fun ac7 wo8 bk6 En9 Hv10 => ?_
 refine f_e ?_
 refine then_normal ?_
 refine wp_seq ?_
 refine region_from ?_
 refine d_k [2,3] [] 1 En9 fun ac11 En12 => ?_
 refine f_o ?_
 refine m_g 1 0 4 (u64s ([9449762124159643298, 5087230966250696614, 2901921493521525849, 7413256579398063648] : List UInt64)) (u64s ([9449762124159643298, 5087230966250696614, 2901921493521525849, 7413256579398063648] : List UInt64)) [.box bk1 [] 57, .box bk6 (u64s ([9449762124159643298, 5087230966250696614, 2901921493521525849, 7413256579398063648] : List UInt64)) 25] En12 Hv10 rfl (u64s_lenh (show List.length ([9449762124159643298, 5087230966250696614, 2901921493521525849, 7413256579398063648] : List UInt64) = 4 from rfl)) (by rw [(u64s_lenh (List.length_replicate))]; decide) (u64s_one _) (store_whole (u64s_lenh (List.length_replicate))) rfl fun ac13 wo14 En15 Hv16 => ?_
 refine f_e ?_
 refine then_normal ?_
 refine wp_ret ?_
 refine d_cell1 (v := .agg (List.toArray (u64s ([9449762124159643298, 5087230966250696614, 2901921493521525849, 7413256579398063648] : List UInt64)))) (t := 2) (T := 25) (ad := ⟨bk6, 0, none⟩) En15 (by kernel_rfl) (by kernel_rfl) (Ev.cellAgg (t := 25) (k := 1) (off := 0) (m := 4) (xs := u64s ([9449762124159643298, 5087230966250696614, 2901921493521525849, 7413256579398063648] : List UInt64)) Hv16 rfl (load_whole (u64s_lenh (show List.length ([9449762124159643298, 5087230966250696614, 2901921493521525849, 7413256579398063648] : List UInt64) = 4 from rfl))) (u64s_lenh (show List.length ([9449762124159643298, 5087230966250696614, 2901921493521525849, 7413256579398063648] : List UInt64) = 4 from rfl)) (by kernel_rfl) (by kernel_rfl)) ?_
 exact ⟨by kernel_rfl, Hv16.pk []⟩

theorem mont3_go (w : World) (a b : List UInt64) (ha : List.length a = 4) (hb : List.length b = 4) (hAM : nv a < mF 3) : Calls Try.prog 68 #[.agg #[], .agg (List.toArray (u64s a)), .agg (List.toArray (u64s b))] w fun e w' => e = .returned (.agg (List.toArray (u64s (nd (montN 43790243014242295660885426880012836369732278457577312309071968676491870960761 (mF 3) (nv a) (nv b)))))) ∧ Ev w [] w' [] := by
 refine d_0 [(0, .agg #[]), (1, .agg (List.toArray (u64s a))), (2, .agg (List.toArray (u64s b)))] 159 Go.Proofs.Try.func68 Go.Proofs.Try.ntmps68 (Heap.nil _) fun act0 En0 Hv0 => ?_
 refine wp_seq ?_
 refine region_from ?_
 refine f_o ?_
 refine m_m 59 [] En0 Hv0 fun ac2 wo3 bk1 En4 Hv5 => ?_
 refine f_o ?_
 refine m_m 25 (u64s a) En4 Hv5 fun ac7 wo8 bk6 En9 Hv10 => ?_
 refine f_o ?_
 refine m_m 25 (u64s b) En9 Hv10 fun ac12 wo13 bk11 En14 Hv15 => ?_
 refine f_o ?_
 refine m_z 25 (u64s (List.replicate 4 0)) En14 Hv15 fun ac17 wo18 bk16 En19 Hv20 => ?_
 refine f_e ?_
 refine then_normal ?_
 refine wp_seq ?_
 refine r_c (fun ac wo => ∃ (bk485 : Nat), Env ac 159 [(4, pt bk6), (5, pt bk11), (6, pt bk16), (7, pt bk485), (8, .int .u64 14758798090332847183)] ∧ Ev w [] wo [.box bk6 (u64s a) 25, .box bk11 (u64s b) 25, .box bk16 (u64s (List.replicate 4 0)) 25, .box bk485 (u64s (nd (mF 3))) 25]) ?_ ?_
 ·
  refine h_s (fun wv => Ev w [] wv [.box bk1 [] 59]) [] 11 ?_
  have wo21 := Hv20.trans (Ev.drew Hv20.heap)
  refine h_name fun G hG => ?_
  have nd539 : ∀ (ac : Act) (wo : World), Env ac 159 [(4, pt bk6), (5, pt bk11), (6, pt bk16), (28, .agg (List.toArray (u64s (nd (mF 3))))), (32, .int .u64 14758798090332847183)] → Ev w [] wo [.box bk1 [] 59, .box bk6 (u64s a) 25, .box bk11 (u64s b) 25, .box bk16 (u64s (List.replicate 4 0)) 25] → G 3 #[true, true, true, true, true, true, true, true, false, false, false] ac wo := by
   intro ac540 wo541 En542 Hv543
   refine h_from hG ?_
   refine q_t 8 ?_
   refine m_z 25 (u64s (List.replicate 4 0)) En542 Hv543 fun ac545 wo546 bk544 En547 Hv548 => ?_
   refine ⟨fun _ => Hv548.pk [0], ?_⟩
   refine q_t 9 ?_
   refine m_g 4 0 4 (u64s (nd (mF 3))) (u64s (nd (mF 3))) [.box bk1 [] 59, .box bk6 (u64s a) 25, .box bk11 (u64s b) 25, .box bk16 (u64s (List.replicate 4 0)) 25, .box bk544 (u64s (nd (mF 3))) 25] En547 Hv548 rfl (u64s_lenh (nds_len _ _)) (by rw [(u64s_lenh (List.length_replicate))]; decide) (u64s_one _) (store_whole (u64s_lenh (List.length_replicate))) rfl fun ac549 wo550 En551 Hv552 => ?_
   refine ⟨fun _ => Hv552.pk [0], ?_⟩
   refine q_s [10] [] 0 En551 (Hv552.pk [0]) fun ac553 En554 => ?_
   exact h_e ⟨bk544, En554.sb, Hv552.pk [1, 2, 3, 4]⟩
  have nd555 : ∀ (ac : Act) (wo : World) (bk496 : Nat), Env ac 159 [(4, pt bk6), (5, pt bk11), (6, pt bk16), (7, pt bk496), (28, .agg (List.toArray (u64s (nd (mF 3))))), (31, .iface 57 (.agg #[]))] → Ev w [] wo [.box bk1 [] 59, .box bk6 (u64s a) 25, .box bk11 (u64s b) 25, .box bk16 (u64s (List.replicate 4 0)) 25, .box bk496 (u64s (List.replicate 4 0)) 25] → G 3 #[true, true, true, true, true, true, true, false, true, false, false] ac wo := by
   intro ac556 wo557 bk496 En558 Hv559
   refine h_from hG ?_
   refine q_t 7 ?_
   refine c_p En558 Hv559 (back3_go _) fun ac564 wo561 En565 Hv566 => ?_
   refine ⟨fun _ => Hv566.pk [0], ?_⟩
   refine q_t 9 ?_
   refine m_g 4 0 4 (u64s (nd (mF 3))) (u64s (nd (mF 3))) [.box bk1 [] 59, .box bk6 (u64s a) 25, .box bk11 (u64s b) 25, .box bk16 (u64s (List.replicate 4 0)) 25, .box bk496 (u64s (nd (mF 3))) 25] En565 Hv566 rfl (u64s_lenh (nds_len _ _)) (by rw [(u64s_lenh (List.length_replicate))]; decide) (u64s_one _) (store_whole (u64s_lenh (List.length_replicate))) rfl fun ac567 wo568 En569 Hv570 => ?_
   refine ⟨fun _ => Hv570.pk [0], ?_⟩
   refine q_s [10] [] 0 En569 (Hv570.pk [0]) fun ac571 En572 => ?_
   exact h_e ⟨bk496, En572.sb, Hv570.pk [1, 2, 3, 4]⟩
  have nd573 : ∀ (ac : Act) (wo : World), Env ac 159 [(4, pt bk6), (5, pt bk11), (6, pt bk16), (28, .agg (List.toArray (u64s (nd (mF 3))))), (31, .iface 57 (.agg #[]))] → Ev w [] wo [.box bk1 [] 59, .box bk6 (u64s a) 25, .box bk11 (u64s b) 25, .box bk16 (u64s (List.replicate 4 0)) 25] → G 4 #[true, true, true, true, true, true, true, false, false, false, false] ac wo := by
   intro ac574 wo575 En576 Hv577
   refine h_from hG ?_
   refine h_ways [7, 8] (by kernel_rfl) rfl ?_
   refine ⟨?_, ?_, trivial⟩
   ·
    rintro _ rfl
    refine c_p En576 Hv577 (back3_go _) fun ac582 wo579 En583 Hv584 => ?_
    refine ⟨fun _ => Hv584.pk [0], ?_⟩
    exact h_to hG (by kernel_rfl) (nd539 _ _ (En583.sb) (Hv584.pk [0, 1, 2, 3]))
   ·
    rintro _ rfl
    refine m_z 25 (u64s (List.replicate 4 0)) En576 Hv577 fun ac586 wo587 bk585 En588 Hv589 => ?_
    refine ⟨fun _ => Hv589.pk [0], ?_⟩
    exact h_to hG (by kernel_rfl) (nd555 _ _ bk585 (En588.sb) (Hv589.pk [0, 1, 2, 3, 4]))
  have nd590 : ∀ (ac : Act) (wo : World) (bk514 : Nat), Env ac 159 [(4, pt bk6), (5, pt bk11), (6, pt bk16), (7, pt bk514), (27, .iface 57 (.agg #[])), (31, .iface 57 (.agg #[]))] → Ev w [] wo [.box bk1 [] 59, .box bk6 (u64s a) 25, .box bk11 (u64s b) 25, .box bk16 (u64s (List.replicate 4 0)) 25, .box bk514 (u64s (List.replicate 4 0)) 25] → G 4 #[true, true, true, false, true, true, true, false, true, false, false] ac wo := by
   intro ac591 wo592 bk514 En593 Hv594
   refine h_from hG ?_
   refine q_t 3 ?_
   refine c_p En593 Hv594 (prime3_go _) fun ac599 wo596 En600 Hv601 => ?_
   refine ⟨fun _ => Hv601.pk [0], ?_⟩
   refine q_t 7 ?_
   refine c_p En600 Hv601 (back3_go _) fun ac606 wo603 En607 Hv608 => ?_
   refine ⟨fun _ => Hv608.pk [0], ?_⟩
   refine q_t 9 ?_
   refine m_g 4 0 4 (u64s (nd (mF 3))) (u64s (nd (mF 3))) [.box bk1 [] 59, .box bk6 (u64s a) 25, .box bk11 (u64s b) 25, .box bk16 (u64s (List.replicate 4 0)) 25, .box bk514 (u64s (nd (mF 3))) 25] En607 Hv608 rfl (u64s_lenh (nds_len _ _)) (by rw [(u64s_lenh (List.length_replicate))]; decide) (u64s_one _) (store_whole (u64s_lenh (List.length_replicate))) rfl fun ac609 wo610 En611 Hv612 => ?_
   refine ⟨fun _ => Hv612.pk [0], ?_⟩
   refine q_s [10] [] 0 En611 (Hv612.pk [0]) fun ac613 En614 => ?_
   exact h_e ⟨bk514, En614.sb, Hv612.pk [1, 2, 3, 4]⟩
  refine h_from hG ?_
  refine q_r 0 (s := Instr.fieldAt 59 (pt bk1) 0) (v := pt bk1) En19 (fun w hS => run_field0 (hS.heap.shape0 (k := 0) rfl) (by kernel_rfl)) (wo21.pk [0]) fun ac615 En616 => ?_
  refine q_r 1 (s := Instr.loadAt 57 (pt bk1)) (v := .agg #[]) En616 (fun w hS => run_loadAgg2 (m := 0) (cs := []) rfl (by kernel_rfl) (by kernel_rfl) (hS.heap.cells (k := 0) (off := 0) (m := 0) rfl rfl)) (wo21.pk [0]) fun ac617 En618 => ?_
  refine q_s [2] [] 8 En618 (wo21.pk [0]) fun ac619 En620 => ?_
  refine q_r 4 (s := Instr.fieldAt 59 (pt bk1) 0) (v := pt bk1) En620 (fun w hS => run_field0 (hS.heap.shape0 (k := 0) rfl) (by kernel_rfl)) (wo21.pk [0]) fun ac621 En622 => ?_
  refine q_r 5 (s := Instr.loadAt 57 (pt bk1)) (v := .agg #[]) En622 (fun w hS => run_loadAgg2 (m := 0) (cs := []) rfl (by kernel_rfl) (by kernel_rfl) (hS.heap.cells (k := 0) (off := 0) (m := 0) rfl rfl)) (wo21.pk [0]) fun ac623 En624 => ?_
  refine q_s [6] [] 5 En624 (wo21.pk [0]) fun ac625 En626 => ?_
  refine h_ways [3, 8] (by kernel_rfl) rfl ?_
  refine ⟨?_, ?_, trivial⟩
  ·
   rintro _ rfl
   refine c_p En626 wo21 (prime3_go _) fun ac631 wo628 En632 Hv633 => ?_
   refine ⟨fun _ => Hv633.pk [0], ?_⟩
   exact h_to hG (by kernel_rfl) (nd573 _ _ (En632.sb) (Hv633.pk [0, 1, 2, 3]))
  ·
   rintro _ rfl
   refine m_z 25 (u64s (List.replicate 4 0)) En626 wo21 fun ac635 wo636 bk634 En637 Hv638 => ?_
   refine ⟨fun _ => Hv638.pk [0], ?_⟩
   exact h_to hG (by kernel_rfl) (nd590 _ _ bk634 (En637.sb) (Hv638.pk [0, 1, 2, 3, 4]))
 rintro ac639 wo640 ⟨bk485, En641, Hv642⟩
 refine then_normal ?_
 refine wp_seq ?_
 refine region_from ?_
 refine f_o ?_
 refine m_z 83 (u64s (List.replicate 6 0)) En641 Hv642 fun ac644 wo645 bk643 En646 Hv647 => ?_
 refine f_e ?_
 refine then_normal ?_
 refine wp_seq ?_
 refine wp_seq ?_
 refine d_r [4,5,6,7,8,9,33] [] En646 fun ac648 En649 => ?_
 refine then_normal ?_
 refine wp_block ?_
 refine loop_m (fun ms650 ac wo => ∃ (i : Nat) (t : List UInt64), ms650 = (5 - i : Nat) ∧ Env ac 159 [(4, pt bk6), (5, pt bk11), (6, pt bk16), (7, pt bk485), (8, .int .u64 14758798090332847183), (9, pt bk643), (33, ni i)] ∧ Ev w [] wo [.box bk643 (u64s t) 83, .box bk6 (u64s a) 25, .box bk11 (u64s b) 25, .box bk16 (u64s (List.replicate 4 0)) 25, .box bk485 (u64s (nd (mF 3))) 25] ∧ (i ≤ 4) ∧ (List.length t = 6) ∧ (dvk t 5 < 2 * mF 3) ∧ (dvk t 5 * 18446744073709551616 ^ i % mF 3 = nv a * dvk b i % mF 3)) ⟨_, 0, List.replicate 6 0, rfl, En649.sb, Hv647.pk [4, 0, 1, 2, 3], by omega, (List.length_replicate), (by rw [dvk_rep]; decide), (by rw [dvk_rep, dvk, Nat.zero_mul, Nat.mul_zero])⟩ ?_
 rintro mm656 ac652 wo653 ⟨i, t, rfl, En654, Hv655, hi, hlt, hT, hm⟩
 refine wp_seq ?_
 refine d_r [4,5,6,7,8,9,33,34] [] En654 fun ac657 En658 => ?_
 refine then_normal ?_
 refine wp_seq ?_
 refine c_d (((i : Nat) : Int) < (4 : Int)) En658 (fun hc659 => ?_) (fun hc659 => ?_)
 ·
  refine wp_skip ?_
  refine then_normal ?_
  refine wp_seq ?_
  refine wp_block ?_
  refine wp_seq ?_
  refine d_r [4,5,6,7,8,9,10,33] [] En658 fun ac660 En661 => ?_
  refine then_normal ?_
  refine wp_seq ?_
  refine d_r [4,5,6,7,8,9,10,11,33] [] En661 fun ac662 En663 => ?_
  refine then_normal ?_
  refine wp_seq ?_
  refine wp_seq ?_
  refine d_r [4,5,6,7,8,9,10,11,33,36] [] En663 fun ac664 En665 => ?_
  refine then_normal ?_
  refine wp_block ?_
  refine loop_m (fun ms666 ac wo => ∃ (k : Nat) (u : List UInt64) (c : UInt64), ms666 = (5 - k : Nat) ∧ Env ac 159 [(4, pt bk6), (5, pt bk11), (6, pt bk16), (7, pt bk485), (8, .int .u64 14758798090332847183), (9, pt bk643), (10, ni i), (11, uv64 c), (33, ni i), (36, ni k)] ∧ Ev w [] wo [.box bk643 (u64s u) 83, .box bk6 (u64s a) 25, .box bk11 (u64s b) 25, .box bk16 (u64s (List.replicate 4 0)) 25, .box bk485 (u64s (nd (mF 3))) 25] ∧ (k ≤ 4) ∧ (List.length u = 6) ∧ (dvk u 5 + c.toNat * 18446744073709551616 ^ k = dvk t 5 + dvk a k * (List.getD b i 0).toNat)) ⟨_, 0, t, 0, rfl, En665.sb, Hv655.pk [0, 1, 2, 3, 4], by omega, hlt, mont_i0⟩ ?_
  rintro mm672 ac668 wo669 ⟨k, u, c, rfl, En670, Hv671, hk, hlu, hu⟩
  refine wp_seq ?_
  refine d_r [4,5,6,7,8,9,10,11,33,36,37] [] En670 fun ac673 En674 => ?_
  refine then_normal ?_
  refine wp_seq ?_
  refine c_d (((k : Nat) : Int) < (4 : Int)) En674 (fun hc675 => ?_) (fun hc675 => ?_)
  ·
   refine wp_skip ?_
   refine then_normal ?_
   refine wp_seq ?_
   refine wp_block ?_
   refine wp_seq ?_
   refine d_r [4,5,6,7,8,9,10,11,12,33,36] [] En674 fun ac676 En677 => ?_
   refine then_normal ?_
   refine wp_seq ?_
   refine r_c (fun ac wo => Env ac 159 [(4, pt bk6), (5, pt bk11), (6, pt bk16), (7, pt bk485), (8, .int .u64 14758798090332847183), (9, pt bk643), (10, ni i), (11, uv64 c), (12, ni k), (13, uv64 (mulHi (List.getD a k 0) (List.getD b i 0))), (14, uv64 ((List.getD a k 0) * (List.getD b i 0))), (33, ni i), (36, ni k)] ∧ Ev w [] wo [.box bk643 (u64s u) 83, .box bk6 (u64s a) 25, .box bk11 (u64s b) 25, .box bk16 (u64s (List.replicate 4 0)) 25, .box bk485 (u64s (nd (mF 3))) 25]) ?_ ?_
   ·
    refine h_s (fun wv => Ev w [] wv [.box bk6 (u64s a) 25, .box bk11 (u64s b) 25]) [] 12 ?_
    have wo678 := Hv671.trans (Ev.drew Hv671.heap)
    refine q_s [0] [] 11 En677 (wo678.pk [1, 2]) fun ac740 En741 => ?_
    refine q_f 1 (s := Instr.indexAt 25 (pt bk6) (ni k)) (v := .pointer (some ⟨bk6, k, none⟩)) En741 (fun _ => Go.Dbr.run_indexarr (e := 23) (sz := 1) (m := 4) (j := k) (o := k) (by kernel_rfl) (by kernel_rfl) (by omega) (by omega) (by omega) _) (fun _ => wo678.pk [1, 2]) fun ac742 En743 => ?_
    have hb744 : k < List.length a := by rw [ha]; omega
    refine q_r 2 (s := Instr.loadAt 23 (.pointer (some ⟨bk6, k, none⟩))) (v := uv64 (List.getD a k 0)) En743 (fun w hS => run_load1 (by kernel_rfl) (hS.heap.cell (k := 0) rfl (u64s_getD hb744))) (wo678.pk [1, 2]) fun ac745 En746 => ?_
    refine q_s [3] [] 8 En746 (wo678.pk [1, 2]) fun ac747 En748 => ?_
    refine q_f 4 (s := Instr.indexAt 25 (pt bk11) (ni i)) (v := .pointer (some ⟨bk11, i, none⟩)) En748 (fun _ => Go.Dbr.run_indexarr (e := 23) (sz := 1) (m := 4) (j := i) (o := i) (by kernel_rfl) (by kernel_rfl) (by omega) (by omega) (by omega) _) (fun _ => wo678.pk [1, 2]) fun ac749 En750 => ?_
    have hb751 : i < List.length b := by rw [hb]; omega
    refine q_r 5 (s := Instr.loadAt 23 (.pointer (some ⟨bk11, i, none⟩))) (v := uv64 (List.getD b i 0)) En750 (fun w hS => run_load1 (by kernel_rfl) (hS.heap.cell (k := 1) rfl (u64s_getD hb751))) (wo678.pk [1, 2]) fun ac752 En753 => ?_
    refine q_t 6 ?_
    refine c_p En753 wo678 (mul_go _ (List.getD a k 0) (List.getD b i 0)) fun ac758 wo755 En759 Hv760 => ?_
    refine ⟨fun _ => Hv760.pk [1, 2], ?_⟩
    refine q_s [7,8,9,10,11] [] 0 En759 (Hv760.pk [1, 2]) fun ac761 En762 => ?_
    exact h_e ⟨En762.sb, Hv760.pk [0, 1, 2, 3, 4]⟩
   rintro ac763 wo764 ⟨En765, Hv766⟩
   refine then_normal ?_
   refine wp_seq ?_
   refine region_from ?_
   refine d_k [4,5,6,7,8,9,10,11,12,13,14,33,36,50,51] [] 2 En765 fun ac767 En768 => ?_
   refine f_o ?_
   refine q_v (x := Instr.indexAt 83 (pt bk643) (ni k)) (v := .pointer (some ⟨bk643, k, none⟩)) En768 (Go.Dbr.run_indexarr (e := 23) (sz := 1) (m := 6) (j := k) (o := k) (by kernel_rfl) (by kernel_rfl) (by omega) (by omega) (by omega) _) fun ac769 En770 => ?_
   refine f_o ?_
   have hb771 : k < List.length u := by rw [hlu]; omega
   refine m_v 0 k (uv64 (List.getD u k 0)) En770 Hv766 rfl (u64s_getD hb771) fun ac772 En773 => ?_
   refine f_o ?_
   refine op_ext (d := some 54) (f := 62) (args := #[uv64 ((List.getD a k 0) * (List.getD b i 0)), uv64 (List.getD u k 0), uv64 (0 : UInt64)]) (v := .tuple #[uv64 (addLo ((List.getD a k 0) * (List.getD b i 0)) (List.getD u k 0) (0 : UInt64)), uv64 (addHi ((List.getD a k 0) * (List.getD b i 0)) (List.getD u k 0) (0 : UInt64))]) En773 (by kernel_rfl) (Go.Dbr.ext_add64 Go.Proofs.Try.func62 (by kernel_rfl) (by kernel_rfl) (by kernel_rfl) (by kernel_rfl) ((List.getD a k 0) * (List.getD b i 0)) (List.getD u k 0) (0 : UInt64) (by decide)) ?_
   intro ac774 En775
   refine d_e [4,5,6,7,8,9,10,11,12,13,14,15,33,36] [] En775 fun ac776 En777 => ?_
   refine then_normal ?_
   refine wp_seq ?_
   refine region_from ?_
   refine d_k [4,5,6,7,8,9,10,11,12,13,14,15,33,36,58,59] [] 2 En777 fun ac778 En779 => ?_
   refine f_o ?_
   refine op_ext (d := some 60) (f := 62) (args := #[uv64 (addLo ((List.getD a k 0) * (List.getD b i 0)) (List.getD u k 0) (0 : UInt64)), uv64 c, uv64 (0 : UInt64)]) (v := .tuple #[uv64 (addLo (addLo ((List.getD a k 0) * (List.getD b i 0)) (List.getD u k 0) (0 : UInt64)) c (0 : UInt64)), uv64 (addHi (addLo ((List.getD a k 0) * (List.getD b i 0)) (List.getD u k 0) (0 : UInt64)) c (0 : UInt64))]) En779 (by kernel_rfl) (Go.Dbr.ext_add64 Go.Proofs.Try.func62 (by kernel_rfl) (by kernel_rfl) (by kernel_rfl) (by kernel_rfl) (addLo ((List.getD a k 0) * (List.getD b i 0)) (List.getD u k 0) (0 : UInt64)) c (0 : UInt64) (by decide)) ?_
   intro ac780 En781
   refine d_e [4,5,6,7,8,9,10,11,12,13,14,15,16,33,36] [] En781 fun ac782 En783 => ?_
   refine then_normal ?_
   refine region_from ?_
   refine d_k [4,5,6,7,8,9,10,11,12,14,33,36,63,64,69] [(4, g_i .u64 (Go.Dbr.u64_add (x := mulHi (List.getD a k 0) (List.getD b i 0)) (y := addHi ((List.getD a k 0) * (List.getD b i 0)) (List.getD u k 0) (0 : UInt64)) rfl rfl)), (6, g_i .u64 (Go.Dbr.u64_add (x := (mulHi (List.getD a k 0) (List.getD b i 0)) + (addHi ((List.getD a k 0) * (List.getD b i 0)) (List.getD u k 0) (0 : UInt64))) (y := addHi (addLo ((List.getD a k 0) * (List.getD b i 0)) (List.getD u k 0) (0 : UInt64)) c (0 : UInt64)) rfl rfl))] 7 En783 fun ac784 En785 => ?_
   refine f_o ?_
   refine q_v (x := Instr.indexAt 83 (pt bk643) (ni k)) (v := .pointer (some ⟨bk643, k, none⟩)) En785 (Go.Dbr.run_indexarr (e := 23) (sz := 1) (m := 6) (j := k) (o := k) (by kernel_rfl) (by kernel_rfl) (by omega) (by omega) (by omega) _) fun ac786 En787 => ?_
   refine f_o ?_
   have hb788 : k < List.length u := by rw [hlu]; omega
   refine m_t 0 k (uv64 (addLo (addLo ((List.getD a k 0) * (List.getD b i 0)) (List.getD u k 0) (0 : UInt64)) c (0 : UInt64))) [.box bk643 (u64s (List.set u k (addLo (addLo ((List.getD a k 0) * (List.getD b i 0)) (List.getD u k 0) (0 : UInt64)) c (0 : UInt64)))) 83, .box bk6 (u64s a) 25, .box bk11 (u64s b) 25, .box bk16 (u64s (List.replicate 4 0)) 25, .box bk485 (u64s (nd (mF 3))) 25] En787 Hv766 rfl (u64s_getD hb788) (u64s_set _ _ _) rfl fun ac789 wo790 En791 Hv792 => ?_
   refine d_e [4,5,6,7,8,9,10,11,12,14,33,36] [] En791 fun ac793 En794 => ?_
   refine block_normal ?_
   refine then_normal ?_
   refine d_r [4,5,6,7,8,9,10,11,12,14,33,36] [(0, g_n (w_a k 1))] En794 fun ac795 En796 => ?_
   refine then_normal ?_
   refine ⟨_, ⟨k + 1, (List.set u k (addLo (addLo ((List.getD a k 0) * (List.getD b i 0)) (List.getD u k 0) (0 : UInt64)) c (0 : UInt64))), (((mulHi (List.getD a k 0) (List.getD b i 0)) + (addHi ((List.getD a k 0) * (List.getD b i 0)) (List.getD u k 0) (0 : UInt64))) + (addHi (addLo ((List.getD a k 0) * (List.getD b i 0)) (List.getD u k 0) (0 : UInt64)) c (0 : UInt64))), rfl, En796.sb, Hv792.pk [0, 1, 2, 3, 4], by omega, (List.length_set.trans hlu), mont_in hlu (by omega) hu⟩, ?_⟩
   omega
  ·
   refine wp_exit ?_
   refine then_exit ?_
   refine then_exit ?_
   refine block_exit ?_
   refine then_normal ?_
   refine wp_seq ?_
   have hk4 : k = 4 := by omega
   rw [hk4] at hu
   have hmid := mont_mid hlu hu
   refine region_from ?_
   refine d_k [4,5,6,7,8,9,10,11,33,36,73] [] 1 En674 fun ac797 En798 => ?_
   refine f_o ?_
   have hb799 : 4 < List.length u := by rw [hlu]; omega
   refine m_v 0 4 (uv64 (List.getD u 4 0)) En798 Hv671 rfl (u64s_getD hb799) fun ac800 En801 => ?_
   refine d_k [4,5,6,7,8,9,10,11,33,36,74,75] [] 3 En801 fun ac802 En803 => ?_
   refine f_o ?_
   refine op_ext (d := some 76) (f := 62) (args := #[uv64 (List.getD u 4 0), uv64 c, uv64 (0 : UInt64)]) (v := .tuple #[uv64 (addLo (List.getD u 4 0) c (0 : UInt64)), uv64 (addHi (List.getD u 4 0) c (0 : UInt64))]) En803 (by kernel_rfl) (Go.Dbr.ext_add64 Go.Proofs.Try.func62 (by kernel_rfl) (by kernel_rfl) (by kernel_rfl) (by kernel_rfl) (List.getD u 4 0) c (0 : UInt64) (by decide)) ?_
   intro ac804 En805
   refine d_k [4,5,6,7,8,9,10,11,33,36,77,78,79] [] 8 En805 fun ac806 En807 => ?_
   refine f_o ?_
   have hb808 : 4 < List.length u := by rw [hlu]; omega
   refine m_t 0 4 (uv64 (addLo (List.getD u 4 0) c (0 : UInt64))) [.box bk643 (u64s (List.set u 4 (addLo (List.getD u 4 0) c (0 : UInt64)))) 83, .box bk6 (u64s a) 25, .box bk11 (u64s b) 25, .box bk16 (u64s (List.replicate 4 0)) 25, .box bk485 (u64s (nd (mF 3))) 25] En807 Hv671 rfl (u64s_getD hb808) (u64s_set _ _ _) rfl fun ac809 wo810 En811 Hv812 => ?_
   refine d_k [4,5,6,7,8,9,10,11,33,36,78,80] [] 10 En811 fun ac813 En814 => ?_
   refine f_o ?_
   have hb815 : 5 < List.length (List.set u 4 (addLo (List.getD u 4 0) c (0 : UInt64))) := by rw [(List.length_set.trans hlu)]; omega
   refine m_t 0 5 (uv64 (addHi (List.getD u 4 0) c (0 : UInt64))) [.box bk643 (u64s (List.set (List.set u 4 (addLo (List.getD u 4 0) c (0 : UInt64))) 5 (addHi (List.getD u 4 0) c (0 : UInt64)))) 83, .box bk6 (u64s a) 25, .box bk11 (u64s b) 25, .box bk16 (u64s (List.replicate 4 0)) 25, .box bk485 (u64s (nd (mF 3))) 25] En814 Hv812 rfl (u64s_getD hb815) (u64s_set _ _ _) rfl fun ac816 wo817 En818 Hv819 => ?_
   refine f_e ?_
   refine then_normal ?_
   refine wp_seq ?_
   have hlv : List.length (List.set (List.set u 4 (addLo (List.getD u 4 0) c (0 : UInt64))) 5 (addHi (List.getD u 4 0) c (0 : UInt64))) = 6 := by rw [List.length_set, List.length_set]; exact hlu
   generalize hve : List.set (List.set u 4 (addLo (List.getD u 4 0) c (0 : UInt64))) 5 (addHi (List.getD u 4 0) c (0 : UInt64)) = v at hmid hlv Hv819
   obtain ⟨hvP, hv5⟩ := hmid
   refine region_from ?_
   refine d_k [4,5,6,7,8,9,10,11,33,36,81] [] 1 En818 fun ac820 En821 => ?_
   refine f_o ?_
   have hb822 : 0 < List.length v := by rw [hlv]; omega
   refine m_v 0 0 (uv64 (List.getD v 0 0)) En821 Hv819 rfl (u64s_getD hb822) fun ac823 En824 => ?_
   refine d_e [4,5,6,7,8,9,10,11,17,33,36] [(3, g_i .u64 (Go.Dbr.u64_mul (x := List.getD v 0 0) (y := (14758798090332847183 : UInt64)) rfl rfl))] En824 fun ac825 En826 => ?_
   refine then_normal ?_
   refine wp_seq ?_
   obtain ⟨q, hqe⟩ : ∃ q, q = (List.getD v 0 0) * (14758798090332847183 : UInt64) := ⟨_, rfl⟩
   have En827 := Env.fx (t := 17) (v := uv64 ((List.getD v 0 0) * (14758798090332847183 : UInt64))) (u := uv64 q) En826 (by rw [hqe])
   refine d_r [4,5,6,7,8,9,10,11,17,33,36] [] En827 fun ac828 En829 => ?_
   refine then_normal ?_
   refine wp_seq ?_
   refine wp_seq ?_
   refine d_r [4,5,6,7,8,9,10,11,17,33,36,85] [] En829 fun ac830 En831 => ?_
   refine then_normal ?_
   refine wp_block ?_
   refine loop_m (fun ms832 ac wo => ∃ (j : Nat) (w5 : List UInt64) (c : UInt64), ms832 = (5 - j : Nat) ∧ Env ac 159 [(4, pt bk6), (5, pt bk11), (6, pt bk16), (7, pt bk485), (8, .int .u64 14758798090332847183), (9, pt bk643), (10, ni i), (11, uv64 c), (17, uv64 q), (33, ni i), (36, ni k), (85, ni j)] ∧ Ev w [] wo [.box bk643 (u64s w5) 83, .box bk6 (u64s a) 25, .box bk11 (u64s b) 25, .box bk16 (u64s (List.replicate 4 0)) 25, .box bk485 (u64s (nd (mF 3))) 25] ∧ (j ≤ 4) ∧ (List.length w5 = 6) ∧ (18446744073709551616 * (dvk w5 (j - 1) + c.toNat * 18446744073709551616 ^ (j - 1)) = dvk v j + q.toNat * dvk (nd (mF 3)) j) ∧ (∀ x, j ≤ x → List.getD w5 x 0 = List.getD v x 0)) ⟨_, 0, v, 0, rfl, En831.sb, Hv819.pk [0, 1, 2, 3, 4], by omega, hlv, mont_j0, fun _ _ => rfl⟩ ?_
   rintro mm838 ac834 wo835 ⟨j, w5, c, rfl, En836, Hv837, hj, hlw, hv2, hs⟩
   refine wp_seq ?_
   refine d_r [4,5,6,7,8,9,10,11,17,33,36,85,86] [] En836 fun ac839 En840 => ?_
   refine then_normal ?_
   refine wp_seq ?_
   refine c_d (((j : Nat) : Int) < (4 : Int)) En840 (fun hc841 => ?_) (fun hc841 => ?_)
   ·
    refine wp_skip ?_
    refine then_normal ?_
    refine wp_seq ?_
    refine wp_block ?_
    refine wp_seq ?_
    refine d_r [4,5,6,7,8,9,10,11,17,18,33,36,85] [] En840 fun ac842 En843 => ?_
    refine then_normal ?_
    refine wp_seq ?_
    refine region_from ?_
    refine d_k [4,5,6,7,8,9,10,11,17,18,33,36,85,89,90] [] 2 En843 fun ac844 En845 => ?_
    refine f_o ?_
    refine q_v (x := Instr.indexAt 25 (pt bk485) (ni j)) (v := .pointer (some ⟨bk485, j, none⟩)) En845 (Go.Dbr.run_indexarr (e := 23) (sz := 1) (m := 4) (j := j) (o := j) (by kernel_rfl) (by kernel_rfl) (by omega) (by omega) (by omega) _) fun ac846 En847 => ?_
    refine f_o ?_
    have hb848 : j < List.length (nd (mF 3)) := by rw [(nds_len _ _)]; omega
    refine m_v 4 j (uv64 (List.getD (nd (mF 3)) j 0)) En847 Hv837 rfl (u64s_getD hb848) fun ac849 En850 => ?_
    refine f_o ?_
    refine c_p En850 Hv837 (mul_go _ q (List.getD (nd (mF 3)) j 0)) fun ac855 wo852 En856 Hv857 => ?_
    refine d_e [4,5,6,7,8,9,10,11,17,18,19,20,33,36,85] [] En856 fun ac858 En859 => ?_
    refine then_normal ?_
    refine wp_seq ?_
    refine region_from ?_
    refine d_k [4,5,6,7,8,9,10,11,17,18,19,20,33,36,85,97,98] [] 2 En859 fun ac860 En861 => ?_
    refine f_o ?_
    refine q_v (x := Instr.indexAt 83 (pt bk643) (ni j)) (v := .pointer (some ⟨bk643, j, none⟩)) En861 (Go.Dbr.run_indexarr (e := 23) (sz := 1) (m := 6) (j := j) (o := j) (by kernel_rfl) (by kernel_rfl) (by omega) (by omega) (by omega) _) fun ac862 En863 => ?_
    refine f_o ?_
    have hb864 : j < List.length w5 := by rw [hlw]; omega
    refine m_v 0 j (uv64 (List.getD w5 j 0)) En863 Hv857 rfl (u64s_getD hb864) fun ac865 En866 => ?_
    refine f_o ?_
    refine op_ext (d := some 101) (f := 62) (args := #[uv64 (q * (List.getD (nd (mF 3)) j 0)), uv64 (List.getD w5 j 0), uv64 (0 : UInt64)]) (v := .tuple #[uv64 (addLo (q * (List.getD (nd (mF 3)) j 0)) (List.getD w5 j 0) (0 : UInt64)), uv64 (addHi (q * (List.getD (nd (mF 3)) j 0)) (List.getD w5 j 0) (0 : UInt64))]) En866 (by kernel_rfl) (Go.Dbr.ext_add64 Go.Proofs.Try.func62 (by kernel_rfl) (by kernel_rfl) (by kernel_rfl) (by kernel_rfl) (q * (List.getD (nd (mF 3)) j 0)) (List.getD w5 j 0) (0 : UInt64) (by decide)) ?_
    intro ac867 En868
    refine d_e [4,5,6,7,8,9,10,11,17,18,19,20,21,33,36,85] [] En868 fun ac869 En870 => ?_
    refine then_normal ?_
    refine wp_seq ?_
    refine region_from ?_
    refine d_k [4,5,6,7,8,9,10,11,17,18,19,20,21,33,36,85,105,106] [] 2 En870 fun ac871 En872 => ?_
    refine f_o ?_
    refine op_ext (d := some 107) (f := 62) (args := #[uv64 (addLo (q * (List.getD (nd (mF 3)) j 0)) (List.getD w5 j 0) (0 : UInt64)), uv64 c, uv64 (0 : UInt64)]) (v := .tuple #[uv64 (addLo (addLo (q * (List.getD (nd (mF 3)) j 0)) (List.getD w5 j 0) (0 : UInt64)) c (0 : UInt64)), uv64 (addHi (addLo (q * (List.getD (nd (mF 3)) j 0)) (List.getD w5 j 0) (0 : UInt64)) c (0 : UInt64))]) En872 (by kernel_rfl) (Go.Dbr.ext_add64 Go.Proofs.Try.func62 (by kernel_rfl) (by kernel_rfl) (by kernel_rfl) (by kernel_rfl) (addLo (q * (List.getD (nd (mF 3)) j 0)) (List.getD w5 j 0) (0 : UInt64)) c (0 : UInt64) (by decide)) ?_
    intro ac873 En874
    refine d_e [4,5,6,7,8,9,10,11,17,18,19,20,21,22,33,36,85] [] En874 fun ac875 En876 => ?_
    refine then_normal ?_
    refine wp_seq ?_
    refine wp_seq ?_
    refine d_r [4,5,6,7,8,9,10,11,17,18,19,20,21,22,33,36,85,111] [] En876 fun ac877 En878 => ?_
    refine then_normal ?_
    refine c_d (((j : Nat) : Int) > (0 : Int)) En878 (fun hc879 => ?_) (fun hc879 => ?_)
    ·
     refine region_from ?_
     refine d_k [4,5,6,7,8,9,10,11,17,18,19,20,21,22,33,36,85,113,114] [(1, g_n (w_r (e := ((j : Nat) : Int) - (1 : Int)) (x := ((j - 1 : Nat) : Int)) (by omega)))] 3 En878 fun ac880 En881 => ?_
     refine f_o ?_
     refine q_v (x := Instr.indexAt 83 (pt bk643) (ni (j - 1))) (v := .pointer (some ⟨bk643, j - 1, none⟩)) En881 (Go.Dbr.run_indexarr (e := 23) (sz := 1) (m := 6) (j := j - 1) (o := j - 1) (by kernel_rfl) (by kernel_rfl) (by omega) (by omega) (by omega) _) fun ac882 En883 => ?_
     refine f_o ?_
     have hb884 : j - 1 < List.length w5 := by rw [hlw]; omega
     refine m_t 0 (j - 1) (uv64 (addLo (addLo (q * (List.getD (nd (mF 3)) j 0)) (List.getD w5 j 0) (0 : UInt64)) c (0 : UInt64))) [.box bk643 (u64s (List.set w5 (j - 1) (addLo (addLo (q * (List.getD (nd (mF 3)) j 0)) (List.getD w5 j 0) (0 : UInt64)) c (0 : UInt64)))) 83, .box bk6 (u64s a) 25, .box bk11 (u64s b) 25, .box bk16 (u64s (List.replicate 4 0)) 25, .box bk485 (u64s (nd (mF 3))) 25] En883 Hv857 rfl (u64s_getD hb884) (u64s_set _ _ _) rfl fun ac885 wo886 En887 Hv888 => ?_
     refine f_e ?_
     refine then_normal ?_
     refine d_r [4,5,6,7,8,9,10,11,17,18,20,33,36,85] [(2, g_i .u64 (Go.Dbr.u64_add (x := mulHi q (List.getD (nd (mF 3)) j 0)) (y := addHi (q * (List.getD (nd (mF 3)) j 0)) (List.getD w5 j 0) (0 : UInt64)) rfl rfl)), (4, g_i .u64 (Go.Dbr.u64_add (x := (mulHi q (List.getD (nd (mF 3)) j 0)) + (addHi (q * (List.getD (nd (mF 3)) j 0)) (List.getD w5 j 0) (0 : UInt64))) (y := addHi (addLo (q * (List.getD (nd (mF 3)) j 0)) (List.getD w5 j 0) (0 : UInt64)) c (0 : UInt64)) rfl rfl))] En887 fun ac889 En890 => ?_
     refine block_normal ?_
     refine then_normal ?_
     refine d_r [4,5,6,7,8,9,10,11,17,18,20,33,36,85] [(0, g_n (w_a j 1))] En890 fun ac891 En892 => ?_
     refine then_normal ?_
     refine ⟨_, ⟨j + 1, (List.set w5 (j - 1) (addLo (addLo (q * (List.getD (nd (mF 3)) j 0)) (List.getD w5 j 0) (0 : UInt64)) c (0 : UInt64))), (((mulHi q (List.getD (nd (mF 3)) j 0)) + (addHi (q * (List.getD (nd (mF 3)) j 0)) (List.getD w5 j 0) (0 : UInt64))) + (addHi (addLo (q * (List.getD (nd (mF 3)) j 0)) (List.getD w5 j 0) (0 : UInt64)) c (0 : UInt64))), rfl, En892.sb, Hv888.pk [0, 1, 2, 3, 4], by omega, (List.length_set.trans hlw), mont_more hlw (by omega) (by omega) (hs j (Nat.le_refl _)) hv2, fun x hx => by rw [getD_set_ne _ (by omega)]; exact hs x (by omega)⟩, ?_⟩
     omega
    ·
     refine wp_skip ?_
     refine then_normal ?_
     refine d_r [4,5,6,7,8,9,10,11,17,18,20,33,36,85] [(2, g_i .u64 (Go.Dbr.u64_add (x := mulHi q (List.getD (nd (mF 3)) j 0)) (y := addHi (q * (List.getD (nd (mF 3)) j 0)) (List.getD w5 j 0) (0 : UInt64)) rfl rfl)), (4, g_i .u64 (Go.Dbr.u64_add (x := (mulHi q (List.getD (nd (mF 3)) j 0)) + (addHi (q * (List.getD (nd (mF 3)) j 0)) (List.getD w5 j 0) (0 : UInt64))) (y := addHi (addLo (q * (List.getD (nd (mF 3)) j 0)) (List.getD w5 j 0) (0 : UInt64)) c (0 : UInt64)) rfl rfl))] En878 fun ac893 En894 => ?_
     refine block_normal ?_
     refine then_normal ?_
     refine d_r [4,5,6,7,8,9,10,11,17,18,20,33,36,85] [(0, g_n (w_a j 1))] En894 fun ac895 En896 => ?_
     refine then_normal ?_
     have hj0 : j = 0 := by omega
     rw [hj0] at hv2
     refine ⟨_, ⟨j + 1, w5, (((mulHi q (List.getD (nd (mF 3)) j 0)) + (addHi (q * (List.getD (nd (mF 3)) j 0)) (List.getD w5 j 0) (0 : UInt64))) + (addHi (addLo (q * (List.getD (nd (mF 3)) j 0)) (List.getD w5 j 0) (0 : UInt64)) c (0 : UInt64))), rfl, En896.sb, Hv857.pk [0, 1, 2, 3, 4], by omega, hlw, (by rw [hj0]; exact mont_first bk3 hqe (hs 0 (by omega)) (mont_c0 hv2)), fun x hx => hs x (by omega)⟩, ?_⟩
     omega
   ·
    refine wp_exit ?_
    refine then_exit ?_
    refine then_exit ?_
    refine block_exit ?_
    refine then_normal ?_
    refine wp_seq ?_
    have hj4 : j = 4 := by omega
    rw [hj4] at hv2
    have hmo := mont_out hlw (hs 4 (by omega)) (hs 5 (by omega)) hv5 hv2
    refine d_r [4,5,6,7,8,9,10,11,17,23,33,36,85] [] En840 fun ac897 En898 => ?_
    refine then_normal ?_
    refine wp_seq ?_
    refine region_from ?_
    refine d_k [4,5,6,7,8,9,10,11,17,23,33,36,85,123] [] 1 En898 fun ac899 En900 => ?_
    refine f_o ?_
    have hb901 : 4 < List.length w5 := by rw [hlw]; omega
    refine m_v 0 4 (uv64 (List.getD w5 4 0)) En900 Hv837 rfl (u64s_getD hb901) fun ac902 En903 => ?_
    refine d_k [4,5,6,7,8,9,10,11,17,23,33,36,85,124,125] [] 3 En903 fun ac904 En905 => ?_
    refine f_o ?_
    refine op_ext (d := some 126) (f := 62) (args := #[uv64 (List.getD w5 4 0), uv64 c, uv64 (0 : UInt64)]) (v := .tuple #[uv64 (addLo (List.getD w5 4 0) c (0 : UInt64)), uv64 (addHi (List.getD w5 4 0) c (0 : UInt64))]) En905 (by kernel_rfl) (Go.Dbr.ext_add64 Go.Proofs.Try.func62 (by kernel_rfl) (by kernel_rfl) (by kernel_rfl) (by kernel_rfl) (List.getD w5 4 0) c (0 : UInt64) (by decide)) ?_
    intro ac906 En907
    refine d_k [4,5,6,7,8,9,10,11,17,23,33,36,85,127,128,129] [] 8 En907 fun ac908 En909 => ?_
    refine f_o ?_
    have hb910 : 3 < List.length w5 := by rw [hlw]; omega
    refine m_t 0 3 (uv64 (addLo (List.getD w5 4 0) c (0 : UInt64))) [.box bk643 (u64s (List.set w5 3 (addLo (List.getD w5 4 0) c (0 : UInt64)))) 83, .box bk6 (u64s a) 25, .box bk11 (u64s b) 25, .box bk16 (u64s (List.replicate 4 0)) 25, .box bk485 (u64s (nd (mF 3))) 25] En909 Hv837 rfl (u64s_getD hb910) (u64s_set _ _ _) rfl fun ac911 wo912 En913 Hv914 => ?_
    refine d_e [4,5,6,7,8,9,10,11,17,23,33,36,85] [] En913 fun ac915 En916 => ?_
    refine then_normal ?_
    refine region_from ?_
    refine d_k [4,5,6,7,8,9,10,11,17,23,33,36,85,130] [] 1 En916 fun ac917 En918 => ?_
    refine f_o ?_
    have hb919 : 5 < List.length (List.set w5 3 (addLo (List.getD w5 4 0) c (0 : UInt64))) := by rw [(List.length_set.trans hlw)]; omega
    refine m_v 0 5 (uv64 (List.getD (List.set w5 3 (addLo (List.getD w5 4 0) c (0 : UInt64))) 5 0)) En918 Hv914 rfl (u64s_getD hb919) fun ac920 En921 => ?_
    refine d_k [4,5,6,7,8,9,10,11,17,33,36,85,133,134] [(3, g_i .u64 (Go.Dbr.u64_add (x := List.getD (List.set w5 3 (addLo (List.getD w5 4 0) c (0 : UInt64))) 5 0) (y := addHi (List.getD w5 4 0) c (0 : UInt64)) rfl rfl))] 5 En921 fun ac922 En923 => ?_
    refine f_o ?_
    have hb924 : 4 < List.length (List.set w5 3 (addLo (List.getD w5 4 0) c (0 : UInt64))) := by rw [(List.length_set.trans hlw)]; omega
    refine m_t 0 4 (uv64 ((List.getD (List.set w5 3 (addLo (List.getD w5 4 0) c (0 : UInt64))) 5 0) + (addHi (List.getD w5 4 0) c (0 : UInt64)))) [.box bk643 (u64s (List.set (List.set w5 3 (addLo (List.getD w5 4 0) c (0 : UInt64))) 4 ((List.getD (List.set w5 3 (addLo (List.getD w5 4 0) c (0 : UInt64))) 5 0) + (addHi (List.getD w5 4 0) c (0 : UInt64))))) 83, .box bk6 (u64s a) 25, .box bk11 (u64s b) 25, .box bk16 (u64s (List.replicate 4 0)) 25, .box bk485 (u64s (nd (mF 3))) 25] En923 Hv914 rfl (u64s_getD hb924) (u64s_set _ _ _) rfl fun ac925 wo926 En927 Hv928 => ?_
    refine f_e ?_
    refine block_normal ?_
    refine then_normal ?_
    refine d_r [4,5,6,7,8,9,10,11,17,33,36,85] [(0, g_n (w_a i 1))] En927 fun ac929 En930 => ?_
    refine then_normal ?_
    have hnx := mont_next hAM hT hm (hmo.trans (by rw [hvP, dvk4 ha, nvm3]))
    refine ⟨_, ⟨i + 1, (List.set (List.set w5 3 (addLo (List.getD w5 4 0) c (0 : UInt64))) 4 ((List.getD (List.set w5 3 (addLo (List.getD w5 4 0) c (0 : UInt64))) 5 0) + (addHi (List.getD w5 4 0) c (0 : UInt64)))), rfl, En930.sb, Hv928.pk [0, 1, 2, 3, 4], by omega, (by rw [List.length_set, List.length_set]; exact hlw), hnx.1, hnx.2⟩, ?_⟩
    omega
 ·
  refine wp_exit ?_
  refine then_exit ?_
  refine then_exit ?_
  refine block_exit ?_
  refine then_normal ?_
  refine wp_seq ?_
  have hi4 : i = 4 := by omega
  rw [hi4, dvk4 hb] at hm
  refine region_from ?_
  refine d_k [4,5,6,7,8,9,33,136] [] 1 En658 fun ac931 En932 => ?_
  refine f_o ?_
  have hb933 : 0 < List.length t := by rw [hlt]; omega
  refine m_v 0 0 (uv64 (List.getD t 0 0)) En932 Hv655 rfl (u64s_getD hb933) fun ac934 En935 => ?_
  refine d_k [4,5,6,7,8,9,33,137,138] [] 3 En935 fun ac936 En937 => ?_
  refine f_o ?_
  have hb938 : 1 < List.length t := by rw [hlt]; omega
  refine m_v 0 1 (uv64 (List.getD t 1 0)) En937 Hv655 rfl (u64s_getD hb938) fun ac939 En940 => ?_
  refine d_k [4,5,6,7,8,9,33,137,139,140] [] 5 En940 fun ac941 En942 => ?_
  refine f_o ?_
  have hb943 : 2 < List.length t := by rw [hlt]; omega
  refine m_v 0 2 (uv64 (List.getD t 2 0)) En942 Hv655 rfl (u64s_getD hb943) fun ac944 En945 => ?_
  refine d_k [4,5,6,7,8,9,33,137,139,141,142] [] 7 En945 fun ac946 En947 => ?_
  refine f_o ?_
  have hb948 : 3 < List.length t := by rw [hlt]; omega
  refine m_v 0 3 (uv64 (List.getD t 3 0)) En947 Hv655 rfl (u64s_getD hb948) fun ac949 En950 => ?_
  refine d_k [4,5,6,7,8,9,33,144] [] 9 En950 fun ac951 En952 => ?_
  refine f_o ?_
  refine m_z 25 (u64s (List.replicate 4 0)) En952 Hv655 fun ac954 wo955 bk953 En956 Hv957 => ?_
  refine f_o ?_
  refine m_g 5 0 4 (u64s ([List.getD t 0 0, List.getD t 1 0, List.getD t 2 0, List.getD t 3 0] : List UInt64)) (u64s ([List.getD t 0 0, List.getD t 1 0, List.getD t 2 0, List.getD t 3 0] : List UInt64)) [.box bk643 (u64s t) 83, .box bk6 (u64s a) 25, .box bk11 (u64s b) 25, .box bk16 (u64s (List.replicate 4 0)) 25, .box bk485 (u64s (nd (mF 3))) 25, .box bk953 (u64s ([List.getD t 0 0, List.getD t 1 0, List.getD t 2 0, List.getD t 3 0] : List UInt64)) 25] En956 Hv957 rfl (u64s_lenh (show List.length ([List.getD t 0 0, List.getD t 1 0, List.getD t 2 0, List.getD t 3 0] : List UInt64) = 4 from rfl)) (by rw [(u64s_lenh (List.length_replicate))]; decide) (u64s_one _) (store_whole (u64s_lenh (List.length_replicate))) rfl fun ac958 wo959 En960 Hv961 => ?_
  refine f_e ?_
  refine then_normal ?_
  refine wp_seq ?_
  refine wp_seq ?_
  refine region_from ?_
  refine f_o ?_
  refine c_l [5,4] (M := [.box bk953 (u64s ([List.getD t 0 0, List.getD t 1 0, List.getD t 2 0, List.getD t 3 0] : List UInt64)) 25, .box bk485 (u64s (nd (mF 3))) 25]) En960 Hv961 (fun hM962 => less_go _ bk953 bk485 ([List.getD t 0 0, List.getD t 1 0, List.getD t 2 0, List.getD t 3 0] : List UInt64) (nd (mF 3)) (show List.length ([List.getD t 0 0, List.getD t 1 0, List.getD t 2 0, List.getD t 3 0] : List UInt64) = 4 from rfl) (nds_len _ _) hM962) ?_
  rintro _ wo963 ⟨rfl, he964⟩
  refine ⟨_, _, [.box bk953 (u64s ([List.getD t 0 0, List.getD t 1 0, List.getD t 2 0, List.getD t 3 0] : List UInt64)) 25, .box bk485 (u64s (nd (mF 3))) 25, .box bk643 (u64s t) 83, .box bk6 (u64s a) 25, .box bk11 (u64s b) 25, .box bk16 (u64s (List.replicate 4 0)) 25], rfl, he964, by kernel_rfl, fun ac966 En967 Hv968 => ?_⟩
  refine d_k [4,5,6,7,8,9,24,33,146] [] 2 En967 fun ac969 En970 => ?_
  rcases Bool.eq_false_or_eq_true (decide (nv ([List.getD t 0 0, List.getD t 1 0, List.getD t 2 0, List.getD t 3 0] : List UInt64) < nv (nd (mF 3)))) with hb971 | hb971
  ·
   have En972 := En970.fx (t := 146) (congrArg Value.bool hb971)
   have hp973 : nv ([List.getD t 0 0, List.getD t 1 0, List.getD t 2 0, List.getD t 3 0] : List UInt64) < nv (nd (mF 3)) := of_decide_eq_true hb971
   refine d_k [4,5,6,7,8,9,24,33,146,147] [] 3 En972 fun ac974 En975 => ?_
   refine f_o ?_
   have hb976 : 4 < List.length t := by rw [hlt]; omega
   refine m_v 2 4 (uv64 (List.getD t 4 0)) En975 Hv968 rfl (u64s_getD hb976) fun ac977 En978 => ?_
   refine d_e [4,5,6,7,8,9,24,33,150] [] En978 fun ac979 En980 => ?_
   refine then_normal ?_
   refine c_e ((UInt64.toNat (List.getD t 4 0) : Nat) : Int) (0 : Int) En980 (fun hc981 => ?_) (fun hc981 => ?_)
   ·
    refine wp_seq ?_
    refine region_from ?_
    refine f_o ?_
    refine m_a 0 0 4 (u64s ([List.getD t 0 0, List.getD t 1 0, List.getD t 2 0, List.getD t 3 0] : List UInt64)) En980 Hv968 rfl (load_whole (u64s_lenh (show List.length ([List.getD t 0 0, List.getD t 1 0, List.getD t 2 0, List.getD t 3 0] : List UInt64) = 4 from rfl))) (u64s_lenh (show List.length ([List.getD t 0 0, List.getD t 1 0, List.getD t 2 0, List.getD t 3 0] : List UInt64) = 4 from rfl)) fun ac982 En983 => ?_
    refine f_o ?_
    refine m_g 5 0 4 (u64s ([List.getD t 0 0, List.getD t 1 0, List.getD t 2 0, List.getD t 3 0] : List UInt64)) (u64s ([List.getD t 0 0, List.getD t 1 0, List.getD t 2 0, List.getD t 3 0] : List UInt64)) [.box bk953 (u64s ([List.getD t 0 0, List.getD t 1 0, List.getD t 2 0, List.getD t 3 0] : List UInt64)) 25, .box bk485 (u64s (nd (mF 3))) 25, .box bk643 (u64s t) 83, .box bk6 (u64s a) 25, .box bk11 (u64s b) 25, .box bk16 (u64s ([List.getD t 0 0, List.getD t 1 0, List.getD t 2 0, List.getD t 3 0] : List UInt64)) 25] En983 Hv968 rfl (u64s_lenh (show List.length ([List.getD t 0 0, List.getD t 1 0, List.getD t 2 0, List.getD t 3 0] : List UInt64) = 4 from rfl)) (by rw [(u64s_lenh (List.length_replicate))]; decide) (u64s_one _) (store_whole (u64s_lenh (List.length_replicate))) rfl fun ac984 wo985 En986 Hv987 => ?_
    refine f_e ?_
    refine then_normal ?_
    refine wp_ret ?_
    refine then_ret ?_
    refine d_cell1 (v := .agg (List.toArray (u64s ([List.getD t 0 0, List.getD t 1 0, List.getD t 2 0, List.getD t 3 0] : List UInt64)))) (t := 6) (T := 25) (ad := ⟨bk16, 0, none⟩) En986 (by kernel_rfl) (by kernel_rfl) (Ev.cellAgg (t := 25) (k := 5) (off := 0) (m := 4) (xs := u64s ([List.getD t 0 0, List.getD t 1 0, List.getD t 2 0, List.getD t 3 0] : List UInt64)) Hv987 rfl (load_whole (u64s_lenh (show List.length ([List.getD t 0 0, List.getD t 1 0, List.getD t 2 0, List.getD t 3 0] : List UInt64) = 4 from rfl))) (u64s_lenh (show List.length ([List.getD t 0 0, List.getD t 1 0, List.getD t 2 0, List.getD t 3 0] : List UInt64) = 4 from rfl)) (by kernel_rfl) (by kernel_rfl)) ?_
    have e : ([List.getD t 0 0, List.getD t 1 0, List.getD t 2 0, List.getD t 3 0] : List UInt64) = nd (montN 43790243014242295660885426880012836369732278457577312309071968676491870960761 (mF 3) (nv a) (nv b)) := mont_yes ri3 hm (by rw [← nv_mF 3]; assumption) (by assumption)
    exact ⟨congrArg (fun l : List UInt64 => Ending.returned (Value.agg (u64s l).toArray)) e, Hv987.pk []⟩
   ·
    refine wp_skip ?_
    refine then_normal ?_
    refine wp_seq ?_
    refine region_from ?_
    refine f_o ?_
    refine m_a 0 0 4 (u64s ([List.getD t 0 0, List.getD t 1 0, List.getD t 2 0, List.getD t 3 0] : List UInt64)) En980 Hv968 rfl (load_whole (u64s_lenh (show List.length ([List.getD t 0 0, List.getD t 1 0, List.getD t 2 0, List.getD t 3 0] : List UInt64) = 4 from rfl))) (u64s_lenh (show List.length ([List.getD t 0 0, List.getD t 1 0, List.getD t 2 0, List.getD t 3 0] : List UInt64) = 4 from rfl)) fun ac988 En989 => ?_
    refine f_o ?_
    refine m_a 1 0 4 (u64s (nd (mF 3))) En989 Hv968 rfl (load_whole (u64s_lenh (nds_len _ _))) (u64s_lenh (nds_len _ _)) fun ac990 En991 => ?_
    refine f_o ?_
    refine c_p En991 Hv968 (minus_go _ ([List.getD t 0 0, List.getD t 1 0, List.getD t 2 0, List.getD t 3 0] : List UInt64) (nd (mF 3)) (show List.length ([List.getD t 0 0, List.getD t 1 0, List.getD t 2 0, List.getD t 3 0] : List UInt64) = 4 from rfl) (nds_len _ _)) fun ac996 wo993 En997 Hv998 => ?_
    refine d_k [4,5,6,7,8,9,24,33,156] [] 6 En997 fun ac999 En1000 => ?_
    refine f_o ?_
    refine m_g 0 0 4 (u64s (nd (nv ([List.getD t 0 0, List.getD t 1 0, List.getD t 2 0, List.getD t 3 0] : List UInt64) + W256 - nv (nd (mF 3))))) (u64s (nd (nv ([List.getD t 0 0, List.getD t 1 0, List.getD t 2 0, List.getD t 3 0] : List UInt64) + W256 - nv (nd (mF 3))))) [.box bk953 (u64s (nd (nv ([List.getD t 0 0, List.getD t 1 0, List.getD t 2 0, List.getD t 3 0] : List UInt64) + W256 - nv (nd (mF 3))))) 25, .box bk485 (u64s (nd (mF 3))) 25, .box bk643 (u64s t) 83, .box bk6 (u64s a) 25, .box bk11 (u64s b) 25, .box bk16 (u64s (List.replicate 4 0)) 25] En1000 Hv998 rfl (u64s_lenh (nds_len _ _)) (by rw [(u64s_lenh (show List.length ([List.getD t 0 0, List.getD t 1 0, List.getD t 2 0, List.getD t 3 0] : List UInt64) = 4 from rfl))]; decide) (u64s_one _) (store_whole (u64s_lenh (show List.length ([List.getD t 0 0, List.getD t 1 0, List.getD t 2 0, List.getD t 3 0] : List UInt64) = 4 from rfl))) rfl fun ac1001 wo1002 En1003 Hv1004 => ?_
    refine f_e ?_
    refine then_normal ?_
    refine wp_seq ?_
    refine region_from ?_
    refine f_o ?_
    refine m_a 0 0 4 (u64s (nd (nv ([List.getD t 0 0, List.getD t 1 0, List.getD t 2 0, List.getD t 3 0] : List UInt64) + W256 - nv (nd (mF 3))))) En1003 Hv1004 rfl (load_whole (u64s_lenh (nds_len _ _))) (u64s_lenh (nds_len _ _)) fun ac1005 En1006 => ?_
    refine f_o ?_
    refine m_g 5 0 4 (u64s (nd (nv ([List.getD t 0 0, List.getD t 1 0, List.getD t 2 0, List.getD t 3 0] : List UInt64) + W256 - nv (nd (mF 3))))) (u64s (nd (nv ([List.getD t 0 0, List.getD t 1 0, List.getD t 2 0, List.getD t 3 0] : List UInt64) + W256 - nv (nd (mF 3))))) [.box bk953 (u64s (nd (nv ([List.getD t 0 0, List.getD t 1 0, List.getD t 2 0, List.getD t 3 0] : List UInt64) + W256 - nv (nd (mF 3))))) 25, .box bk485 (u64s (nd (mF 3))) 25, .box bk643 (u64s t) 83, .box bk6 (u64s a) 25, .box bk11 (u64s b) 25, .box bk16 (u64s (nd (nv ([List.getD t 0 0, List.getD t 1 0, List.getD t 2 0, List.getD t 3 0] : List UInt64) + W256 - nv (nd (mF 3))))) 25] En1006 Hv1004 rfl (u64s_lenh (nds_len _ _)) (by rw [(u64s_lenh (List.length_replicate))]; decide) (u64s_one _) (store_whole (u64s_lenh (List.length_replicate))) rfl fun ac1007 wo1008 En1009 Hv1010 => ?_
    refine f_e ?_
    refine then_normal ?_
    refine wp_ret ?_
    refine d_cell1 (v := .agg (List.toArray (u64s (nd (nv ([List.getD t 0 0, List.getD t 1 0, List.getD t 2 0, List.getD t 3 0] : List UInt64) + W256 - nv (nd (mF 3))))))) (t := 6) (T := 25) (ad := ⟨bk16, 0, none⟩) En1009 (by kernel_rfl) (by kernel_rfl) (Ev.cellAgg (t := 25) (k := 5) (off := 0) (m := 4) (xs := u64s (nd (nv ([List.getD t 0 0, List.getD t 1 0, List.getD t 2 0, List.getD t 3 0] : List UInt64) + W256 - nv (nd (mF 3))))) Hv1010 rfl (load_whole (u64s_lenh (nds_len _ _))) (u64s_lenh (nds_len _ _)) (by kernel_rfl) (by kernel_rfl)) ?_
    have e : nd (nv ([List.getD t 0 0, List.getD t 1 0, List.getD t 2 0, List.getD t 3 0] : List UInt64) + W256 - nv (nd (mF 3))) = nd (montN 43790243014242295660885426880012836369732278457577312309071968676491870960761 (mF 3) (nv a) (nv b)) := by rw [nv_mF]; exact mont_no (mF_lt _) ri3 hT hm (by rw [← nv_mF 3]; first | (left; assumption) | (right; assumption))
    exact ⟨congrArg (fun l : List UInt64 => Ending.returned (Value.agg (u64s l).toArray)) e, Hv1010.pk []⟩
  ·
   have En1011 := En970.fx (t := 146) (congrArg Value.bool hb971)
   have hp1012 : ¬ (nv ([List.getD t 0 0, List.getD t 1 0, List.getD t 2 0, List.getD t 3 0] : List UInt64) < nv (nd (mF 3))) := of_decide_eq_false hb971
   refine d_e [4,5,6,7,8,9,24,33,150] [] En1011 fun ac1013 En1014 => ?_
   refine then_normal ?_
   refine c_f En1014 ?_
   refine wp_skip ?_
   refine then_normal ?_
   refine wp_seq ?_
   refine region_from ?_
   refine f_o ?_
   refine m_a 0 0 4 (u64s ([List.getD t 0 0, List.getD t 1 0, List.getD t 2 0, List.getD t 3 0] : List UInt64)) En1014 Hv968 rfl (load_whole (u64s_lenh (show List.length ([List.getD t 0 0, List.getD t 1 0, List.getD t 2 0, List.getD t 3 0] : List UInt64) = 4 from rfl))) (u64s_lenh (show List.length ([List.getD t 0 0, List.getD t 1 0, List.getD t 2 0, List.getD t 3 0] : List UInt64) = 4 from rfl)) fun ac1015 En1016 => ?_
   refine f_o ?_
   refine m_a 1 0 4 (u64s (nd (mF 3))) En1016 Hv968 rfl (load_whole (u64s_lenh (nds_len _ _))) (u64s_lenh (nds_len _ _)) fun ac1017 En1018 => ?_
   refine f_o ?_
   refine c_p En1018 Hv968 (minus_go _ ([List.getD t 0 0, List.getD t 1 0, List.getD t 2 0, List.getD t 3 0] : List UInt64) (nd (mF 3)) (show List.length ([List.getD t 0 0, List.getD t 1 0, List.getD t 2 0, List.getD t 3 0] : List UInt64) = 4 from rfl) (nds_len _ _)) fun ac1023 wo1020 En1024 Hv1025 => ?_
   refine d_k [4,5,6,7,8,9,24,33,156] [] 6 En1024 fun ac1026 En1027 => ?_
   refine f_o ?_
   refine m_g 0 0 4 (u64s (nd (nv ([List.getD t 0 0, List.getD t 1 0, List.getD t 2 0, List.getD t 3 0] : List UInt64) + W256 - nv (nd (mF 3))))) (u64s (nd (nv ([List.getD t 0 0, List.getD t 1 0, List.getD t 2 0, List.getD t 3 0] : List UInt64) + W256 - nv (nd (mF 3))))) [.box bk953 (u64s (nd (nv ([List.getD t 0 0, List.getD t 1 0, List.getD t 2 0, List.getD t 3 0] : List UInt64) + W256 - nv (nd (mF 3))))) 25, .box bk485 (u64s (nd (mF 3))) 25, .box bk643 (u64s t) 83, .box bk6 (u64s a) 25, .box bk11 (u64s b) 25, .box bk16 (u64s (List.replicate 4 0)) 25] En1027 Hv1025 rfl (u64s_lenh (nds_len _ _)) (by rw [(u64s_lenh (show List.length ([List.getD t 0 0, List.getD t 1 0, List.getD t 2 0, List.getD t 3 0] : List UInt64) = 4 from rfl))]; decide) (u64s_one _) (store_whole (u64s_lenh (show List.length ([List.getD t 0 0, List.getD t 1 0, List.getD t 2 0, List.getD t 3 0] : List UInt64) = 4 from rfl))) rfl fun ac1028 wo1029 En1030 Hv1031 => ?_
   refine f_e ?_
   refine then_normal ?_
   refine wp_seq ?_
   refine region_from ?_
   refine f_o ?_
   refine m_a 0 0 4 (u64s (nd (nv ([List.getD t 0 0, List.getD t 1 0, List.getD t 2 0, List.getD t 3 0] : List UInt64) + W256 - nv (nd (mF 3))))) En1030 Hv1031 rfl (load_whole (u64s_lenh (nds_len _ _))) (u64s_lenh (nds_len _ _)) fun ac1032 En1033 => ?_
   refine f_o ?_
   refine m_g 5 0 4 (u64s (nd (nv ([List.getD t 0 0, List.getD t 1 0, List.getD t 2 0, List.getD t 3 0] : List UInt64) + W256 - nv (nd (mF 3))))) (u64s (nd (nv ([List.getD t 0 0, List.getD t 1 0, List.getD t 2 0, List.getD t 3 0] : List UInt64) + W256 - nv (nd (mF 3))))) [.box bk953 (u64s (nd (nv ([List.getD t 0 0, List.getD t 1 0, List.getD t 2 0, List.getD t 3 0] : List UInt64) + W256 - nv (nd (mF 3))))) 25, .box bk485 (u64s (nd (mF 3))) 25, .box bk643 (u64s t) 83, .box bk6 (u64s a) 25, .box bk11 (u64s b) 25, .box bk16 (u64s (nd (nv ([List.getD t 0 0, List.getD t 1 0, List.getD t 2 0, List.getD t 3 0] : List UInt64) + W256 - nv (nd (mF 3))))) 25] En1033 Hv1031 rfl (u64s_lenh (nds_len _ _)) (by rw [(u64s_lenh (List.length_replicate))]; decide) (u64s_one _) (store_whole (u64s_lenh (List.length_replicate))) rfl fun ac1034 wo1035 En1036 Hv1037 => ?_
   refine f_e ?_
   refine then_normal ?_
   refine wp_ret ?_
   refine d_cell1 (v := .agg (List.toArray (u64s (nd (nv ([List.getD t 0 0, List.getD t 1 0, List.getD t 2 0, List.getD t 3 0] : List UInt64) + W256 - nv (nd (mF 3))))))) (t := 6) (T := 25) (ad := ⟨bk16, 0, none⟩) En1036 (by kernel_rfl) (by kernel_rfl) (Ev.cellAgg (t := 25) (k := 5) (off := 0) (m := 4) (xs := u64s (nd (nv ([List.getD t 0 0, List.getD t 1 0, List.getD t 2 0, List.getD t 3 0] : List UInt64) + W256 - nv (nd (mF 3))))) Hv1037 rfl (load_whole (u64s_lenh (nds_len _ _))) (u64s_lenh (nds_len _ _)) (by kernel_rfl) (by kernel_rfl)) ?_
   have e : nd (nv ([List.getD t 0 0, List.getD t 1 0, List.getD t 2 0, List.getD t 3 0] : List UInt64) + W256 - nv (nd (mF 3))) = nd (montN 43790243014242295660885426880012836369732278457577312309071968676491870960761 (mF 3) (nv a) (nv b)) := by rw [nv_mF]; exact mont_no (mF_lt _) ri3 hT hm (by rw [← nv_mF 3]; first | (left; assumption) | (right; assumption))
   exact ⟨congrArg (fun l : List UInt64 => Ending.returned (Value.agg (u64s l).toArray)) e, Hv1037.pk []⟩

theorem mn3_lt (x y : Nat) : montN 43790243014242295660885426880012836369732278457577312309071968676491870960761 (mF 3) x y < mF 3 := Nat.mod_lt _ (by decide)
theorem mn3 (x y : Nat) : nv (nd (montN 43790243014242295660885426880012836369732278457577312309071968676491870960761 (mF 3) x y)) = montN 43790243014242295660885426880012836369732278457577312309071968676491870960761 (mF 3) x y := nv_nd (Nat.lt_trans (mn3_lt x y) (mF_lt _))
theorem rmul3 (x y : Nat) : nd (montN 43790243014242295660885426880012836369732278457577312309071968676491870960761 (mF 3) (nv (nd (montN 43790243014242295660885426880012836369732278457577312309071968676491870960761 (mF 3) x (nv (nd 46533765739406314298121036767150998762426774378559716911348521029833835802274))))) y) = nd (x * y % mF 3) := by
  rw [mn3, nv_nd (n := 46533765739406314298121036767150998762426774378559716911348521029833835802274) (by decide), two3]

theorem ring3_go (w : World) (a b : List UInt64) (ha : List.length a = 4) (hb : List.length b = 4) (hAM : nv a < mF 3) : Calls Try.prog 51 #[.agg #[], .agg (List.toArray (u64s a)), .agg (List.toArray (u64s b))] w fun e w' => e = .returned (.agg (List.toArray (u64s (nd (nv a * nv b % mF 3))))) ∧ Ev w [] w' [] := by
 refine d_0 [(0, .agg #[]), (1, .agg (List.toArray (u64s a))), (2, .agg (List.toArray (u64s b)))] 17 Go.Proofs.Try.func51 Go.Proofs.Try.ntmps51 (Heap.nil _) fun act0 En0 Hv0 => ?_
 refine wp_seq ?_
 refine region_from ?_
 refine f_o ?_
 refine m_m 59 [] En0 Hv0 fun ac2 wo3 bk1 En4 Hv5 => ?_
 refine f_o ?_
 refine m_m 25 (u64s a) En4 Hv5 fun ac7 wo8 bk6 En9 Hv10 => ?_
 refine f_o ?_
 refine m_m 25 (u64s b) En9 Hv10 fun ac12 wo13 bk11 En14 Hv15 => ?_
 refine f_o ?_
 refine m_z 25 (u64s (List.replicate 4 0)) En14 Hv15 fun ac17 wo18 bk16 En19 Hv20 => ?_
 refine f_e ?_
 refine then_normal ?_
 refine wp_seq ?_
 refine r_c (fun ac wo => Env ac 17 [(6, pt bk16)] ∧ Ev w [] wo [.box bk16 (u64s (nd (montN 43790243014242295660885426880012836369732278457577312309071968676491870960761 (mF 3) (nv (nd (montN 43790243014242295660885426880012836369732278457577312309071968676491870960761 (mF 3) (nv a) (nv (nd 46533765739406314298121036767150998762426774378559716911348521029833835802274))))) (nv b)))) 25]) ?_ ?_
 ·
  refine h_s (fun wv => Ev w [] wv [.box bk1 [] 59, .box bk6 (u64s a) 25, .box bk11 (u64s b) 25]) [] 11 ?_
  have wo21 := Hv20.trans (Ev.drew Hv20.heap)
  refine q_r 0 (s := Instr.loadAt 59 (pt bk1)) (v := .agg #[]) En19 (fun w hS => run_loadAgg2 (m := 0) (cs := []) rfl (by kernel_rfl) (by kernel_rfl) (hS.heap.cells (k := 0) (off := 0) (m := 0) rfl rfl)) (wo21.pk [0, 1, 2]) fun ac856 En857 => ?_
  refine q_r 1 (s := Instr.loadAt 59 (pt bk1)) (v := .agg #[]) En857 (fun w hS => run_loadAgg2 (m := 0) (cs := []) rfl (by kernel_rfl) (by kernel_rfl) (hS.heap.cells (k := 0) (off := 0) (m := 0) rfl rfl)) (wo21.pk [0, 1, 2]) fun ac858 En859 => ?_
  refine q_r 2 (s := Instr.loadAt 25 (pt bk6)) (v := .agg (List.toArray (u64s a))) En859 (fun w hS => run_loadAgg2 (m := 4) (cs := u64s a) (u64s_lenh ha) (by kernel_rfl) (by kernel_rfl) (hS.heap.cells (k := 1) (off := 0) (m := 4) rfl (load_whole (u64s_lenh ha)))) (wo21.pk [0, 1, 2]) fun ac860 En861 => ?_
  refine q_r 3 (s := Instr.fieldAt 59 (pt bk1) 0) (v := pt bk1) En861 (fun w hS => run_field0 (hS.heap.shape0 (k := 0) rfl) (by kernel_rfl)) (wo21.pk [0, 1, 2]) fun ac862 En863 => ?_
  refine q_r 4 (s := Instr.loadAt 57 (pt bk1)) (v := .agg #[]) En863 (fun w hS => run_loadAgg2 (m := 0) (cs := []) rfl (by kernel_rfl) (by kernel_rfl) (hS.heap.cells (k := 0) (off := 0) (m := 0) rfl rfl)) (wo21.pk [0, 1, 2]) fun ac864 En865 => ?_
  refine q_s [5] [] 5 En865 (wo21.pk [0, 1, 2]) fun ac866 En867 => ?_
  refine q_r 8 (s := Instr.loadAt 25 (pt bk11)) (v := .agg (List.toArray (u64s b))) En867 (fun w hS => run_loadAgg2 (m := 4) (cs := u64s b) (u64s_lenh hb) (by kernel_rfl) (by kernel_rfl) (hS.heap.cells (k := 2) (off := 0) (m := 4) rfl (load_whole (u64s_lenh hb)))) (wo21.pk [0, 1, 2]) fun ac868 En869 => ?_
  refine q_t 6 ?_
  refine c_p En869 wo21 (square3_go _) fun ac874 wo871 En875 Hv876 => ?_
  refine ⟨fun _ => Hv876.pk [0, 1, 2], ?_⟩
  refine q_t 7 ?_
  refine c_p En875 Hv876 (mont3_go _ a (nd 46533765739406314298121036767150998762426774378559716911348521029833835802274) ha (nds_len _ _) hAM) fun ac881 wo878 En882 Hv883 => ?_
  refine ⟨fun _ => Hv883.pk [0, 1, 2], ?_⟩
  refine q_t 9 ?_
  refine c_p En882 Hv883 (mont3_go _ (nd (montN 43790243014242295660885426880012836369732278457577312309071968676491870960761 (mF 3) (nv a) (nv (nd 46533765739406314298121036767150998762426774378559716911348521029833835802274)))) b (nds_len _ _) hb (by rw [mn3]; exact mn3_lt _ _)) fun ac888 wo885 En889 Hv890 => ?_
  refine ⟨fun _ => Hv890.pk [0, 1, 2], ?_⟩
  refine q_t 10 ?_
  refine m_g 3 0 4 (u64s (nd (montN 43790243014242295660885426880012836369732278457577312309071968676491870960761 (mF 3) (nv (nd (montN 43790243014242295660885426880012836369732278457577312309071968676491870960761 (mF 3) (nv a) (nv (nd 46533765739406314298121036767150998762426774378559716911348521029833835802274))))) (nv b)))) (u64s (nd (montN 43790243014242295660885426880012836369732278457577312309071968676491870960761 (mF 3) (nv (nd (montN 43790243014242295660885426880012836369732278457577312309071968676491870960761 (mF 3) (nv a) (nv (nd 46533765739406314298121036767150998762426774378559716911348521029833835802274))))) (nv b)))) [.box bk1 [] 59, .box bk6 (u64s a) 25, .box bk11 (u64s b) 25, .box bk16 (u64s (nd (montN 43790243014242295660885426880012836369732278457577312309071968676491870960761 (mF 3) (nv (nd (montN 43790243014242295660885426880012836369732278457577312309071968676491870960761 (mF 3) (nv a) (nv (nd 46533765739406314298121036767150998762426774378559716911348521029833835802274))))) (nv b)))) 25] En889 Hv890 rfl (u64s_lenh (nds_len _ _)) (by rw [(u64s_lenh (List.length_replicate))]; decide) (u64s_one _) (store_whole (u64s_lenh (List.length_replicate))) rfl fun ac891 wo892 En893 Hv894 => ?_
  refine ⟨fun _ => Hv894.pk [0, 1, 2], ?_⟩
  exact h_e ⟨En893.sb, Hv894.pk [3]⟩
 rintro ac895 wo896 ⟨En897, Hv898⟩
 refine then_normal ?_
 refine wp_ret ?_
 refine d_cell1 (v := .agg (List.toArray (u64s (nd (montN 43790243014242295660885426880012836369732278457577312309071968676491870960761 (mF 3) (nv (nd (montN 43790243014242295660885426880012836369732278457577312309071968676491870960761 (mF 3) (nv a) (nv (nd 46533765739406314298121036767150998762426774378559716911348521029833835802274))))) (nv b)))))) (t := 6) (T := 25) (ad := ⟨bk16, 0, none⟩) En897 (by kernel_rfl) (by kernel_rfl) (Ev.cellAgg (t := 25) (k := 0) (off := 0) (m := 4) (xs := u64s (nd (montN 43790243014242295660885426880012836369732278457577312309071968676491870960761 (mF 3) (nv (nd (montN 43790243014242295660885426880012836369732278457577312309071968676491870960761 (mF 3) (nv a) (nv (nd 46533765739406314298121036767150998762426774378559716911348521029833835802274))))) (nv b)))) Hv898 rfl (load_whole (u64s_lenh (nds_len _ _))) (u64s_lenh (nds_len _ _)) (by kernel_rfl) (by kernel_rfl)) ?_
 have e : nd (montN 43790243014242295660885426880012836369732278457577312309071968676491870960761 (mF 3) (nv (nd (montN 43790243014242295660885426880012836369732278457577312309071968676491870960761 (mF 3) (nv a) (nv (nd 46533765739406314298121036767150998762426774378559716911348521029833835802274))))) (nv b)) = nd (nv a * nv b % mF 3) := rmul3 _ _
 exact ⟨congrArg (fun l : List UInt64 => Ending.returned (Value.agg (u64s l).toArray)) e, Hv898.pk []⟩

theorem mulr3 (x y : Nat) : nd (nv (nd (x % mF 3)) * nv (nd (y % mF 3)) % mF 3) = nd (mulM 3 x y) := by
  rw [nv_nd (mod_lt_w (by decide)), nv_nd (mod_lt_w (by decide)), ← Nat.mul_mod]
  rfl

theorem mul3_go (w : World) (a b : List UInt64) (ha : List.length a = 4) (hb : List.length b = 4) : Calls Try.prog 18 #[.int .i64 3, .agg (List.toArray (u64s a)), .agg (List.toArray (u64s b))] w fun e w' => e = .returned (.agg (List.toArray (u64s (nd (mulM 3 (nv a) (nv b)))))) ∧ Ev w [] w' [] := by
 refine d_0 [(0, .int .i64 3), (1, .agg (List.toArray (u64s a))), (2, .agg (List.toArray (u64s b)))] 45 Go.Proofs.Try.func18 Go.Proofs.Try.ntmps18 (Heap.nil _) fun act0 En0 Hv0 => ?_
 refine wp_seq ?_
 refine region_from ?_
 refine f_o ?_
 refine m_m 25 (u64s a) En0 Hv0 fun ac2 wo3 bk1 En4 Hv5 => ?_
 refine f_o ?_
 refine m_m 25 (u64s b) En4 Hv5 fun ac7 wo8 bk6 En9 Hv10 => ?_
 refine f_o ?_
 refine m_z 25 (u64s (List.replicate 4 0)) En9 Hv10 fun ac12 wo13 bk11 En14 Hv15 => ?_
 refine f_e ?_
 refine then_normal ?_
 refine wp_seq ?_
 refine d_s [0,4,5,6,9] [] En14 fun ac16 En17 => ?_
 refine wp_block ?_
 refine d_s [0,4,5,6,9,10] [] En17 fun ac18 En19 => ?_
 refine c_f En19 ?_
 refine d_s [0,4,5,6,9,15] [] En19 fun ac20 En21 => ?_
 refine c_f En21 ?_
 refine d_s [0,4,5,6,9,20] [] En21 fun ac22 En23 => ?_
 refine c_t En23 ?_
 refine wp_seq ?_
 refine region_from ?_
 refine d_k [0,4,5,6,9,22] [] 1 En23 fun ac24 En25 => ?_
 refine f_o ?_
 refine c_p En25 Hv15 (modulus_go _ 3) fun ac30 wo27 En31 Hv32 => ?_
 refine f_o ?_
 refine m_z 25 (u64s (List.replicate 4 0)) En31 Hv32 fun ac34 wo35 bk33 En36 Hv37 => ?_
 refine f_o ?_
 refine m_g 3 0 4 (u64s (nd (mF 3))) (u64s (nd (mF 3))) [.box bk1 (u64s a) 25, .box bk6 (u64s b) 25, .box bk11 (u64s (List.replicate 4 0)) 25, .box bk33 (u64s (nd (mF 3))) 25] En36 Hv37 rfl (u64s_lenh (nds_len _ _)) (by rw [(u64s_lenh (List.length_replicate))]; decide) (u64s_one _) (store_whole (u64s_lenh (List.length_replicate))) rfl fun ac38 wo39 En40 Hv41 => ?_
 refine f_e ?_
 refine then_normal ?_
 refine wp_seq ?_
 refine r_c (fun ac wo => Env ac 45 [(0, .int .i64 3), (4, pt bk1), (5, pt bk6), (6, pt bk11), (7, pt bk33), (9, .int .i64 3)] ∧ Ev w [] wo [.box bk1 (u64s a) 25, .box bk6 (u64s b) 25, .box bk11 (u64s (nd (nv (nd (nv a % mF 3)) * nv (nd (nv b % mF 3)) % mF 3))) 25, .box bk33 (u64s (nd (mF 3))) 25]) ?_ ?_
 ·
  refine h_s (fun wv => Ev w [] wv [.box bk1 (u64s a) 25, .box bk6 (u64s b) 25, .box bk33 (u64s (nd (mF 3))) 25]) [] 9 ?_
  have wo42 := Hv41.trans (Ev.drew Hv41.heap)
  refine q_s [0] [] 8 En40 (wo42.pk [0, 1, 3]) fun ac284 En285 => ?_
  refine q_r 1 (s := Instr.loadAt 25 (pt bk1)) (v := .agg (List.toArray (u64s a))) En285 (fun w hS => run_loadAgg2 (m := 4) (cs := u64s a) (u64s_lenh ha) (by kernel_rfl) (by kernel_rfl) (hS.heap.cells (k := 0) (off := 0) (m := 4) rfl (load_whole (u64s_lenh ha)))) (wo42.pk [0, 1, 3]) fun ac286 En287 => ?_
  refine q_r 2 (s := Instr.loadAt 25 (pt bk33)) (v := .agg (List.toArray (u64s (nd (mF 3))))) En287 (fun w hS => run_loadAgg2 (m := 4) (cs := u64s (nd (mF 3))) (u64s_lenh (nds_len _ _)) (by kernel_rfl) (by kernel_rfl) (hS.heap.cells (k := 2) (off := 0) (m := 4) rfl (load_whole (u64s_lenh (nds_len _ _))))) (wo42.pk [0, 1, 3]) fun ac288 En289 => ?_
  refine q_r 4 (s := Instr.loadAt 25 (pt bk6)) (v := .agg (List.toArray (u64s b))) En289 (fun w hS => run_loadAgg2 (m := 4) (cs := u64s b) (u64s_lenh hb) (by kernel_rfl) (by kernel_rfl) (hS.heap.cells (k := 1) (off := 0) (m := 4) rfl (load_whole (u64s_lenh hb)))) (wo42.pk [0, 1, 3]) fun ac290 En291 => ?_
  refine q_r 5 (s := Instr.loadAt 25 (pt bk33)) (v := .agg (List.toArray (u64s (nd (mF 3))))) En291 (fun w hS => run_loadAgg2 (m := 4) (cs := u64s (nd (mF 3))) (u64s_lenh (nds_len _ _)) (by kernel_rfl) (by kernel_rfl) (hS.heap.cells (k := 2) (off := 0) (m := 4) rfl (load_whole (u64s_lenh (nds_len _ _))))) (wo42.pk [0, 1, 3]) fun ac292 En293 => ?_
  refine q_t 3 ?_
  refine c_p En293 wo42 (right_mF _ 3 (by decide) a ha) fun ac298 wo295 En299 Hv300 => ?_
  refine ⟨fun _ => Hv300.pk [0, 1, 3], ?_⟩
  refine q_t 6 ?_
  refine c_p En299 Hv300 (right_mF _ 3 (by decide) b hb) fun ac305 wo302 En306 Hv307 => ?_
  refine ⟨fun _ => Hv307.pk [0, 1, 3], ?_⟩
  refine q_t 7 ?_
  refine c_p En306 Hv307 (ring3_go _ (nd (nv a % mF 3)) (nd (nv b % mF 3)) (nds_len _ _) (nds_len _ _) (by rw [nv_nd (mod_lt_w (by decide))]; exact Nat.mod_lt _ (by decide))) fun ac312 wo309 En313 Hv314 => ?_
  refine ⟨fun _ => Hv314.pk [0, 1, 3], ?_⟩
  refine q_t 8 ?_
  refine m_g 2 0 4 (u64s (nd (nv (nd (nv a % mF 3)) * nv (nd (nv b % mF 3)) % mF 3))) (u64s (nd (nv (nd (nv a % mF 3)) * nv (nd (nv b % mF 3)) % mF 3))) [.box bk1 (u64s a) 25, .box bk6 (u64s b) 25, .box bk11 (u64s (nd (nv (nd (nv a % mF 3)) * nv (nd (nv b % mF 3)) % mF 3))) 25, .box bk33 (u64s (nd (mF 3))) 25] En313 Hv314 rfl (u64s_lenh (nds_len _ _)) (by rw [(u64s_lenh (List.length_replicate))]; decide) (u64s_one _) (store_whole (u64s_lenh (List.length_replicate))) rfl fun ac315 wo316 En317 Hv318 => ?_
  refine ⟨fun _ => Hv318.pk [0, 1, 3], ?_⟩
  exact h_e ⟨En317.sb, Hv318.pk [0, 1, 2, 3]⟩
 rintro ac319 wo320 ⟨En321, Hv322⟩
 refine then_normal ?_
 refine wp_ret ?_
 refine block_ret ?_
 refine then_ret ?_
 refine d_cell1 (v := .agg (List.toArray (u64s (nd (nv (nd (nv a % mF 3)) * nv (nd (nv b % mF 3)) % mF 3))))) (t := 6) (T := 25) (ad := ⟨bk11, 0, none⟩) En321 (by kernel_rfl) (by kernel_rfl) (Ev.cellAgg (t := 25) (k := 2) (off := 0) (m := 4) (xs := u64s (nd (nv (nd (nv a % mF 3)) * nv (nd (nv b % mF 3)) % mF 3))) Hv322 rfl (load_whole (u64s_lenh (nds_len _ _))) (u64s_lenh (nds_len _ _)) (by kernel_rfl) (by kernel_rfl)) ?_
 have e : nd (nv (nd (nv a % mF 3)) * nv (nd (nv b % mF 3)) % mF 3) = nd (mulM 3 (nv a) (nv b)) := mulr3 _ _
 exact ⟨congrArg (fun l : List UInt64 => Ending.returned (Value.agg (u64s l).toArray)) e, Hv322.pk []⟩

theorem hM3 : MulOk 3 := mul3_go
theorem ri4 : W256 * 4458503529701987551646482192314240623644693141688353256590997718326214331684 % mF 4 = 1 := by decide +kernel
theorem bk4 : ((15183074304973897243 : UInt64).toNat * (List.getD (nd (mF 4)) 0 0).toNat + 1) % 18446744073709551616 = 0 := by decide +kernel
theorem nvm4 : dvk (nd (mF 4)) 4 = mF 4 := (dvk4 (nds_len _ _)).trans (nv_mF _)
theorem two4 (a b : Nat) : montN 4458503529701987551646482192314240623644693141688353256590997718326214331684 (mF 4) (montN 4458503529701987551646482192314240623644693141688353256590997718326214331684 (mF 4) a 1627715501170711445284395025044413883736156588369414752970002579683115011841) b = a * b % mF 4 := by
  have h : 1627715501170711445284395025044413883736156588369414752970002579683115011841 * 4458503529701987551646482192314240623644693141688353256590997718326214331684 * 4458503529701987551646482192314240623644693141688353256590997718326214331684 % mF 4 = 1 := by decide +kernel
  have e : a * 1627715501170711445284395025044413883736156588369414752970002579683115011841 * 4458503529701987551646482192314240623644693141688353256590997718326214331684 * b * 4458503529701987551646482192314240623644693141688353256590997718326214331684 = a * b * (1627715501170711445284395025044413883736156588369414752970002579683115011841 * 4458503529701987551646482192314240623644693141688353256590997718326214331684 * 4458503529701987551646482192314240623644693141688353256590997718326214331684) := by ac_rfl
  rw [montN, montN, Nat.mul_assoc, Nat.mod_mul_mod, ← Nat.mul_assoc, e, Nat.mul_mod, h, Nat.mul_one, Nat.mod_mod]

theorem back4_go (w : World) : Calls Try.prog 89 #[.agg #[]] w fun e w' => e = .returned (.int .u64 15183074304973897243) ∧ Ev w [] w' [] := by
 refine d_0 [(0, .agg #[])] 3 Go.Proofs.Try.func89 Go.Proofs.Try.ntmps89 (Heap.nil _) fun act0 En0 Hv0 => ?_
 refine wp_seq ?_
 refine region_from ?_
 refine f_o ?_
 refine m_m 60 [] En0 Hv0 fun ac2 wo3 bk1 En4 Hv5 => ?_
 refine d_e [2] [] En4 fun ac6 En7 => ?_
 refine then_normal ?_
 refine d_s [2] [] En7 fun ac8 En9 => ?_
 refine wp_ret ?_
 refine d_ret1 (t := 2) (v := .int .u64 15183074304973897243) En9 (by kernel_rfl) (by kernel_rfl) ?_
 exact ⟨rfl, Hv5.pk []⟩

theorem square4_go (w : World) : Calls Try.prog 90 #[.agg #[]] w fun e w' => e = .returned (.agg (List.toArray (u64s (nd 1627715501170711445284395025044413883736156588369414752970002579683115011841)))) ∧ Ev w [] w' [] := by
 refine d_0 [(0, .agg #[])] 4 Go.Proofs.Try.func90 Go.Proofs.Try.ntmps90 (Heap.nil _) fun act0 En0 Hv0 => ?_
 refine wp_seq ?_
 refine region_from ?_
 refine f_o ?_
 refine m_m 60 [] En0 Hv0 fun ac2 wo3 bk1 En4 Hv5 => ?_
 refine f_o ?_
 refine m_z 25 (u64s (List.replicate 4 0)) En4 Hv5 fun ac7 wo8 bk6 En9 Hv10 => ?_
 refine f_e ?_
 refine then_normal ?_
 refine wp_seq ?_
 refine region_from ?_
 refine d_k [2,3] [] 1 En9 fun ac11 En12 => ?_
 refine f_o ?_
 refine m_g 1 0 4 (u64s ([11819153939886771969, 14991950615390032711, 14910419812499177061, 259310039853996605] : List UInt64)) (u64s ([11819153939886771969, 14991950615390032711, 14910419812499177061, 259310039853996605] : List UInt64)) [.box bk1 [] 60, .box bk6 (u64s ([11819153939886771969, 14991950615390032711, 14910419812499177061, 259310039853996605] : List UInt64)) 25] En12 Hv10 rfl (u64s_lenh (show List.length ([11819153939886771969, 14991950615390032711, 14910419812499177061, 259310039853996605] : List UInt64) = 4 from rfl)) (by rw [(u64s_lenh (List.length_replicate))]; decide) (u64s_one _) (store_whole (u64s_lenh (List.length_replicate))) rfl fun ac13 wo14 En15 Hv16 => ?_
 refine f_e ?_
 refine then_normal ?_
 refine wp_ret ?_
 refine d_cell1 (v := .agg (List.toArray (u64s ([11819153939886771969, 14991950615390032711, 14910419812499177061, 259310039853996605] : List UInt64)))) (t := 2) (T := 25) (ad := ⟨bk6, 0, none⟩) En15 (by kernel_rfl) (by kernel_rfl) (Ev.cellAgg (t := 25) (k := 1) (off := 0) (m := 4) (xs := u64s ([11819153939886771969, 14991950615390032711, 14910419812499177061, 259310039853996605] : List UInt64)) Hv16 rfl (load_whole (u64s_lenh (show List.length ([11819153939886771969, 14991950615390032711, 14910419812499177061, 259310039853996605] : List UInt64) = 4 from rfl))) (u64s_lenh (show List.length ([11819153939886771969, 14991950615390032711, 14910419812499177061, 259310039853996605] : List UInt64) = 4 from rfl)) (by kernel_rfl) (by kernel_rfl)) ?_
 exact ⟨by kernel_rfl, Hv16.pk []⟩

theorem mont4_go (w : World) (a b : List UInt64) (ha : List.length a = 4) (hb : List.length b = 4) (hAM : nv a < mF 4) : Calls Try.prog 69 #[.agg #[], .agg (List.toArray (u64s a)), .agg (List.toArray (u64s b))] w fun e w' => e = .returned (.agg (List.toArray (u64s (nd (montN 4458503529701987551646482192314240623644693141688353256590997718326214331684 (mF 4) (nv a) (nv b)))))) ∧ Ev w [] w' [] := by
 refine d_0 [(0, .agg #[]), (1, .agg (List.toArray (u64s a))), (2, .agg (List.toArray (u64s b)))] 159 Go.Proofs.Try.func69 Go.Proofs.Try.ntmps69 (Heap.nil _) fun act0 En0 Hv0 => ?_
 refine wp_seq ?_
 refine region_from ?_
 refine f_o ?_
 refine m_m 62 [] En0 Hv0 fun ac2 wo3 bk1 En4 Hv5 => ?_
 refine f_o ?_
 refine m_m 25 (u64s a) En4 Hv5 fun ac7 wo8 bk6 En9 Hv10 => ?_
 refine f_o ?_
 refine m_m 25 (u64s b) En9 Hv10 fun ac12 wo13 bk11 En14 Hv15 => ?_
 refine f_o ?_
 refine m_z 25 (u64s (List.replicate 4 0)) En14 Hv15 fun ac17 wo18 bk16 En19 Hv20 => ?_
 refine f_e ?_
 refine then_normal ?_
 refine wp_seq ?_
 refine r_c (fun ac wo => ∃ (bk485 : Nat), Env ac 159 [(4, pt bk6), (5, pt bk11), (6, pt bk16), (7, pt bk485), (8, .int .u64 15183074304973897243)] ∧ Ev w [] wo [.box bk6 (u64s a) 25, .box bk11 (u64s b) 25, .box bk16 (u64s (List.replicate 4 0)) 25, .box bk485 (u64s (nd (mF 4))) 25]) ?_ ?_
 ·
  refine h_s (fun wv => Ev w [] wv [.box bk1 [] 62]) [] 11 ?_
  have wo21 := Hv20.trans (Ev.drew Hv20.heap)
  refine h_name fun G hG => ?_
  have nd539 : ∀ (ac : Act) (wo : World), Env ac 159 [(4, pt bk6), (5, pt bk11), (6, pt bk16), (28, .agg (List.toArray (u64s (nd (mF 4))))), (32, .int .u64 15183074304973897243)] → Ev w [] wo [.box bk1 [] 62, .box bk6 (u64s a) 25, .box bk11 (u64s b) 25, .box bk16 (u64s (List.replicate 4 0)) 25] → G 3 #[true, true, true, true, true, true, true, true, false, false, false] ac wo := by
   intro ac540 wo541 En542 Hv543
   refine h_from hG ?_
   refine q_t 8 ?_
   refine m_z 25 (u64s (List.replicate 4 0)) En542 Hv543 fun ac545 wo546 bk544 En547 Hv548 => ?_
   refine ⟨fun _ => Hv548.pk [0], ?_⟩
   refine q_t 9 ?_
   refine m_g 4 0 4 (u64s (nd (mF 4))) (u64s (nd (mF 4))) [.box bk1 [] 62, .box bk6 (u64s a) 25, .box bk11 (u64s b) 25, .box bk16 (u64s (List.replicate 4 0)) 25, .box bk544 (u64s (nd (mF 4))) 25] En547 Hv548 rfl (u64s_lenh (nds_len _ _)) (by rw [(u64s_lenh (List.length_replicate))]; decide) (u64s_one _) (store_whole (u64s_lenh (List.length_replicate))) rfl fun ac549 wo550 En551 Hv552 => ?_
   refine ⟨fun _ => Hv552.pk [0], ?_⟩
   refine q_s [10] [] 0 En551 (Hv552.pk [0]) fun ac553 En554 => ?_
   exact h_e ⟨bk544, En554.sb, Hv552.pk [1, 2, 3, 4]⟩
  have nd555 : ∀ (ac : Act) (wo : World) (bk496 : Nat), Env ac 159 [(4, pt bk6), (5, pt bk11), (6, pt bk16), (7, pt bk496), (28, .agg (List.toArray (u64s (nd (mF 4))))), (31, .iface 60 (.agg #[]))] → Ev w [] wo [.box bk1 [] 62, .box bk6 (u64s a) 25, .box bk11 (u64s b) 25, .box bk16 (u64s (List.replicate 4 0)) 25, .box bk496 (u64s (List.replicate 4 0)) 25] → G 3 #[true, true, true, true, true, true, true, false, true, false, false] ac wo := by
   intro ac556 wo557 bk496 En558 Hv559
   refine h_from hG ?_
   refine q_t 7 ?_
   refine c_p En558 Hv559 (back4_go _) fun ac564 wo561 En565 Hv566 => ?_
   refine ⟨fun _ => Hv566.pk [0], ?_⟩
   refine q_t 9 ?_
   refine m_g 4 0 4 (u64s (nd (mF 4))) (u64s (nd (mF 4))) [.box bk1 [] 62, .box bk6 (u64s a) 25, .box bk11 (u64s b) 25, .box bk16 (u64s (List.replicate 4 0)) 25, .box bk496 (u64s (nd (mF 4))) 25] En565 Hv566 rfl (u64s_lenh (nds_len _ _)) (by rw [(u64s_lenh (List.length_replicate))]; decide) (u64s_one _) (store_whole (u64s_lenh (List.length_replicate))) rfl fun ac567 wo568 En569 Hv570 => ?_
   refine ⟨fun _ => Hv570.pk [0], ?_⟩
   refine q_s [10] [] 0 En569 (Hv570.pk [0]) fun ac571 En572 => ?_
   exact h_e ⟨bk496, En572.sb, Hv570.pk [1, 2, 3, 4]⟩
  have nd573 : ∀ (ac : Act) (wo : World), Env ac 159 [(4, pt bk6), (5, pt bk11), (6, pt bk16), (28, .agg (List.toArray (u64s (nd (mF 4))))), (31, .iface 60 (.agg #[]))] → Ev w [] wo [.box bk1 [] 62, .box bk6 (u64s a) 25, .box bk11 (u64s b) 25, .box bk16 (u64s (List.replicate 4 0)) 25] → G 4 #[true, true, true, true, true, true, true, false, false, false, false] ac wo := by
   intro ac574 wo575 En576 Hv577
   refine h_from hG ?_
   refine h_ways [7, 8] (by kernel_rfl) rfl ?_
   refine ⟨?_, ?_, trivial⟩
   ·
    rintro _ rfl
    refine c_p En576 Hv577 (back4_go _) fun ac582 wo579 En583 Hv584 => ?_
    refine ⟨fun _ => Hv584.pk [0], ?_⟩
    exact h_to hG (by kernel_rfl) (nd539 _ _ (En583.sb) (Hv584.pk [0, 1, 2, 3]))
   ·
    rintro _ rfl
    refine m_z 25 (u64s (List.replicate 4 0)) En576 Hv577 fun ac586 wo587 bk585 En588 Hv589 => ?_
    refine ⟨fun _ => Hv589.pk [0], ?_⟩
    exact h_to hG (by kernel_rfl) (nd555 _ _ bk585 (En588.sb) (Hv589.pk [0, 1, 2, 3, 4]))
  have nd590 : ∀ (ac : Act) (wo : World) (bk514 : Nat), Env ac 159 [(4, pt bk6), (5, pt bk11), (6, pt bk16), (7, pt bk514), (27, .iface 60 (.agg #[])), (31, .iface 60 (.agg #[]))] → Ev w [] wo [.box bk1 [] 62, .box bk6 (u64s a) 25, .box bk11 (u64s b) 25, .box bk16 (u64s (List.replicate 4 0)) 25, .box bk514 (u64s (List.replicate 4 0)) 25] → G 4 #[true, true, true, false, true, true, true, false, true, false, false] ac wo := by
   intro ac591 wo592 bk514 En593 Hv594
   refine h_from hG ?_
   refine q_t 3 ?_
   refine c_p En593 Hv594 (prime4_go _) fun ac599 wo596 En600 Hv601 => ?_
   refine ⟨fun _ => Hv601.pk [0], ?_⟩
   refine q_t 7 ?_
   refine c_p En600 Hv601 (back4_go _) fun ac606 wo603 En607 Hv608 => ?_
   refine ⟨fun _ => Hv608.pk [0], ?_⟩
   refine q_t 9 ?_
   refine m_g 4 0 4 (u64s (nd (mF 4))) (u64s (nd (mF 4))) [.box bk1 [] 62, .box bk6 (u64s a) 25, .box bk11 (u64s b) 25, .box bk16 (u64s (List.replicate 4 0)) 25, .box bk514 (u64s (nd (mF 4))) 25] En607 Hv608 rfl (u64s_lenh (nds_len _ _)) (by rw [(u64s_lenh (List.length_replicate))]; decide) (u64s_one _) (store_whole (u64s_lenh (List.length_replicate))) rfl fun ac609 wo610 En611 Hv612 => ?_
   refine ⟨fun _ => Hv612.pk [0], ?_⟩
   refine q_s [10] [] 0 En611 (Hv612.pk [0]) fun ac613 En614 => ?_
   exact h_e ⟨bk514, En614.sb, Hv612.pk [1, 2, 3, 4]⟩
  refine h_from hG ?_
  refine q_r 0 (s := Instr.fieldAt 62 (pt bk1) 0) (v := pt bk1) En19 (fun w hS => run_field0 (hS.heap.shape0 (k := 0) rfl) (by kernel_rfl)) (wo21.pk [0]) fun ac615 En616 => ?_
  refine q_r 1 (s := Instr.loadAt 60 (pt bk1)) (v := .agg #[]) En616 (fun w hS => run_loadAgg2 (m := 0) (cs := []) rfl (by kernel_rfl) (by kernel_rfl) (hS.heap.cells (k := 0) (off := 0) (m := 0) rfl rfl)) (wo21.pk [0]) fun ac617 En618 => ?_
  refine q_s [2] [] 8 En618 (wo21.pk [0]) fun ac619 En620 => ?_
  refine q_r 4 (s := Instr.fieldAt 62 (pt bk1) 0) (v := pt bk1) En620 (fun w hS => run_field0 (hS.heap.shape0 (k := 0) rfl) (by kernel_rfl)) (wo21.pk [0]) fun ac621 En622 => ?_
  refine q_r 5 (s := Instr.loadAt 60 (pt bk1)) (v := .agg #[]) En622 (fun w hS => run_loadAgg2 (m := 0) (cs := []) rfl (by kernel_rfl) (by kernel_rfl) (hS.heap.cells (k := 0) (off := 0) (m := 0) rfl rfl)) (wo21.pk [0]) fun ac623 En624 => ?_
  refine q_s [6] [] 5 En624 (wo21.pk [0]) fun ac625 En626 => ?_
  refine h_ways [3, 8] (by kernel_rfl) rfl ?_
  refine ⟨?_, ?_, trivial⟩
  ·
   rintro _ rfl
   refine c_p En626 wo21 (prime4_go _) fun ac631 wo628 En632 Hv633 => ?_
   refine ⟨fun _ => Hv633.pk [0], ?_⟩
   exact h_to hG (by kernel_rfl) (nd573 _ _ (En632.sb) (Hv633.pk [0, 1, 2, 3]))
  ·
   rintro _ rfl
   refine m_z 25 (u64s (List.replicate 4 0)) En626 wo21 fun ac635 wo636 bk634 En637 Hv638 => ?_
   refine ⟨fun _ => Hv638.pk [0], ?_⟩
   exact h_to hG (by kernel_rfl) (nd590 _ _ bk634 (En637.sb) (Hv638.pk [0, 1, 2, 3, 4]))
 rintro ac639 wo640 ⟨bk485, En641, Hv642⟩
 refine then_normal ?_
 refine wp_seq ?_
 refine region_from ?_
 refine f_o ?_
 refine m_z 83 (u64s (List.replicate 6 0)) En641 Hv642 fun ac644 wo645 bk643 En646 Hv647 => ?_
 refine f_e ?_
 refine then_normal ?_
 refine wp_seq ?_
 refine wp_seq ?_
 refine d_r [4,5,6,7,8,9,33] [] En646 fun ac648 En649 => ?_
 refine then_normal ?_
 refine wp_block ?_
 refine loop_m (fun ms650 ac wo => ∃ (i : Nat) (t : List UInt64), ms650 = (5 - i : Nat) ∧ Env ac 159 [(4, pt bk6), (5, pt bk11), (6, pt bk16), (7, pt bk485), (8, .int .u64 15183074304973897243), (9, pt bk643), (33, ni i)] ∧ Ev w [] wo [.box bk643 (u64s t) 83, .box bk6 (u64s a) 25, .box bk11 (u64s b) 25, .box bk16 (u64s (List.replicate 4 0)) 25, .box bk485 (u64s (nd (mF 4))) 25] ∧ (i ≤ 4) ∧ (List.length t = 6) ∧ (dvk t 5 < 2 * mF 4) ∧ (dvk t 5 * 18446744073709551616 ^ i % mF 4 = nv a * dvk b i % mF 4)) ⟨_, 0, List.replicate 6 0, rfl, En649.sb, Hv647.pk [4, 0, 1, 2, 3], by omega, (List.length_replicate), (by rw [dvk_rep]; decide), (by rw [dvk_rep, dvk, Nat.zero_mul, Nat.mul_zero])⟩ ?_
 rintro mm656 ac652 wo653 ⟨i, t, rfl, En654, Hv655, hi, hlt, hT, hm⟩
 refine wp_seq ?_
 refine d_r [4,5,6,7,8,9,33,34] [] En654 fun ac657 En658 => ?_
 refine then_normal ?_
 refine wp_seq ?_
 refine c_d (((i : Nat) : Int) < (4 : Int)) En658 (fun hc659 => ?_) (fun hc659 => ?_)
 ·
  refine wp_skip ?_
  refine then_normal ?_
  refine wp_seq ?_
  refine wp_block ?_
  refine wp_seq ?_
  refine d_r [4,5,6,7,8,9,10,33] [] En658 fun ac660 En661 => ?_
  refine then_normal ?_
  refine wp_seq ?_
  refine d_r [4,5,6,7,8,9,10,11,33] [] En661 fun ac662 En663 => ?_
  refine then_normal ?_
  refine wp_seq ?_
  refine wp_seq ?_
  refine d_r [4,5,6,7,8,9,10,11,33,36] [] En663 fun ac664 En665 => ?_
  refine then_normal ?_
  refine wp_block ?_
  refine loop_m (fun ms666 ac wo => ∃ (k : Nat) (u : List UInt64) (c : UInt64), ms666 = (5 - k : Nat) ∧ Env ac 159 [(4, pt bk6), (5, pt bk11), (6, pt bk16), (7, pt bk485), (8, .int .u64 15183074304973897243), (9, pt bk643), (10, ni i), (11, uv64 c), (33, ni i), (36, ni k)] ∧ Ev w [] wo [.box bk643 (u64s u) 83, .box bk6 (u64s a) 25, .box bk11 (u64s b) 25, .box bk16 (u64s (List.replicate 4 0)) 25, .box bk485 (u64s (nd (mF 4))) 25] ∧ (k ≤ 4) ∧ (List.length u = 6) ∧ (dvk u 5 + c.toNat * 18446744073709551616 ^ k = dvk t 5 + dvk a k * (List.getD b i 0).toNat)) ⟨_, 0, t, 0, rfl, En665.sb, Hv655.pk [0, 1, 2, 3, 4], by omega, hlt, mont_i0⟩ ?_
  rintro mm672 ac668 wo669 ⟨k, u, c, rfl, En670, Hv671, hk, hlu, hu⟩
  refine wp_seq ?_
  refine d_r [4,5,6,7,8,9,10,11,33,36,37] [] En670 fun ac673 En674 => ?_
  refine then_normal ?_
  refine wp_seq ?_
  refine c_d (((k : Nat) : Int) < (4 : Int)) En674 (fun hc675 => ?_) (fun hc675 => ?_)
  ·
   refine wp_skip ?_
   refine then_normal ?_
   refine wp_seq ?_
   refine wp_block ?_
   refine wp_seq ?_
   refine d_r [4,5,6,7,8,9,10,11,12,33,36] [] En674 fun ac676 En677 => ?_
   refine then_normal ?_
   refine wp_seq ?_
   refine r_c (fun ac wo => Env ac 159 [(4, pt bk6), (5, pt bk11), (6, pt bk16), (7, pt bk485), (8, .int .u64 15183074304973897243), (9, pt bk643), (10, ni i), (11, uv64 c), (12, ni k), (13, uv64 (mulHi (List.getD a k 0) (List.getD b i 0))), (14, uv64 ((List.getD a k 0) * (List.getD b i 0))), (33, ni i), (36, ni k)] ∧ Ev w [] wo [.box bk643 (u64s u) 83, .box bk6 (u64s a) 25, .box bk11 (u64s b) 25, .box bk16 (u64s (List.replicate 4 0)) 25, .box bk485 (u64s (nd (mF 4))) 25]) ?_ ?_
   ·
    refine h_s (fun wv => Ev w [] wv [.box bk6 (u64s a) 25, .box bk11 (u64s b) 25]) [] 12 ?_
    have wo678 := Hv671.trans (Ev.drew Hv671.heap)
    refine q_s [0] [] 11 En677 (wo678.pk [1, 2]) fun ac740 En741 => ?_
    refine q_f 1 (s := Instr.indexAt 25 (pt bk6) (ni k)) (v := .pointer (some ⟨bk6, k, none⟩)) En741 (fun _ => Go.Dbr.run_indexarr (e := 23) (sz := 1) (m := 4) (j := k) (o := k) (by kernel_rfl) (by kernel_rfl) (by omega) (by omega) (by omega) _) (fun _ => wo678.pk [1, 2]) fun ac742 En743 => ?_
    have hb744 : k < List.length a := by rw [ha]; omega
    refine q_r 2 (s := Instr.loadAt 23 (.pointer (some ⟨bk6, k, none⟩))) (v := uv64 (List.getD a k 0)) En743 (fun w hS => run_load1 (by kernel_rfl) (hS.heap.cell (k := 0) rfl (u64s_getD hb744))) (wo678.pk [1, 2]) fun ac745 En746 => ?_
    refine q_s [3] [] 8 En746 (wo678.pk [1, 2]) fun ac747 En748 => ?_
    refine q_f 4 (s := Instr.indexAt 25 (pt bk11) (ni i)) (v := .pointer (some ⟨bk11, i, none⟩)) En748 (fun _ => Go.Dbr.run_indexarr (e := 23) (sz := 1) (m := 4) (j := i) (o := i) (by kernel_rfl) (by kernel_rfl) (by omega) (by omega) (by omega) _) (fun _ => wo678.pk [1, 2]) fun ac749 En750 => ?_
    have hb751 : i < List.length b := by rw [hb]; omega
    refine q_r 5 (s := Instr.loadAt 23 (.pointer (some ⟨bk11, i, none⟩))) (v := uv64 (List.getD b i 0)) En750 (fun w hS => run_load1 (by kernel_rfl) (hS.heap.cell (k := 1) rfl (u64s_getD hb751))) (wo678.pk [1, 2]) fun ac752 En753 => ?_
    refine q_t 6 ?_
    refine c_p En753 wo678 (mul_go _ (List.getD a k 0) (List.getD b i 0)) fun ac758 wo755 En759 Hv760 => ?_
    refine ⟨fun _ => Hv760.pk [1, 2], ?_⟩
    refine q_s [7,8,9,10,11] [] 0 En759 (Hv760.pk [1, 2]) fun ac761 En762 => ?_
    exact h_e ⟨En762.sb, Hv760.pk [0, 1, 2, 3, 4]⟩
   rintro ac763 wo764 ⟨En765, Hv766⟩
   refine then_normal ?_
   refine wp_seq ?_
   refine region_from ?_
   refine d_k [4,5,6,7,8,9,10,11,12,13,14,33,36,50,51] [] 2 En765 fun ac767 En768 => ?_
   refine f_o ?_
   refine q_v (x := Instr.indexAt 83 (pt bk643) (ni k)) (v := .pointer (some ⟨bk643, k, none⟩)) En768 (Go.Dbr.run_indexarr (e := 23) (sz := 1) (m := 6) (j := k) (o := k) (by kernel_rfl) (by kernel_rfl) (by omega) (by omega) (by omega) _) fun ac769 En770 => ?_
   refine f_o ?_
   have hb771 : k < List.length u := by rw [hlu]; omega
   refine m_v 0 k (uv64 (List.getD u k 0)) En770 Hv766 rfl (u64s_getD hb771) fun ac772 En773 => ?_
   refine f_o ?_
   refine op_ext (d := some 54) (f := 62) (args := #[uv64 ((List.getD a k 0) * (List.getD b i 0)), uv64 (List.getD u k 0), uv64 (0 : UInt64)]) (v := .tuple #[uv64 (addLo ((List.getD a k 0) * (List.getD b i 0)) (List.getD u k 0) (0 : UInt64)), uv64 (addHi ((List.getD a k 0) * (List.getD b i 0)) (List.getD u k 0) (0 : UInt64))]) En773 (by kernel_rfl) (Go.Dbr.ext_add64 Go.Proofs.Try.func62 (by kernel_rfl) (by kernel_rfl) (by kernel_rfl) (by kernel_rfl) ((List.getD a k 0) * (List.getD b i 0)) (List.getD u k 0) (0 : UInt64) (by decide)) ?_
   intro ac774 En775
   refine d_e [4,5,6,7,8,9,10,11,12,13,14,15,33,36] [] En775 fun ac776 En777 => ?_
   refine then_normal ?_
   refine wp_seq ?_
   refine region_from ?_
   refine d_k [4,5,6,7,8,9,10,11,12,13,14,15,33,36,58,59] [] 2 En777 fun ac778 En779 => ?_
   refine f_o ?_
   refine op_ext (d := some 60) (f := 62) (args := #[uv64 (addLo ((List.getD a k 0) * (List.getD b i 0)) (List.getD u k 0) (0 : UInt64)), uv64 c, uv64 (0 : UInt64)]) (v := .tuple #[uv64 (addLo (addLo ((List.getD a k 0) * (List.getD b i 0)) (List.getD u k 0) (0 : UInt64)) c (0 : UInt64)), uv64 (addHi (addLo ((List.getD a k 0) * (List.getD b i 0)) (List.getD u k 0) (0 : UInt64)) c (0 : UInt64))]) En779 (by kernel_rfl) (Go.Dbr.ext_add64 Go.Proofs.Try.func62 (by kernel_rfl) (by kernel_rfl) (by kernel_rfl) (by kernel_rfl) (addLo ((List.getD a k 0) * (List.getD b i 0)) (List.getD u k 0) (0 : UInt64)) c (0 : UInt64) (by decide)) ?_
   intro ac780 En781
   refine d_e [4,5,6,7,8,9,10,11,12,13,14,15,16,33,36] [] En781 fun ac782 En783 => ?_
   refine then_normal ?_
   refine region_from ?_
   refine d_k [4,5,6,7,8,9,10,11,12,14,33,36,63,64,69] [(4, g_i .u64 (Go.Dbr.u64_add (x := mulHi (List.getD a k 0) (List.getD b i 0)) (y := addHi ((List.getD a k 0) * (List.getD b i 0)) (List.getD u k 0) (0 : UInt64)) rfl rfl)), (6, g_i .u64 (Go.Dbr.u64_add (x := (mulHi (List.getD a k 0) (List.getD b i 0)) + (addHi ((List.getD a k 0) * (List.getD b i 0)) (List.getD u k 0) (0 : UInt64))) (y := addHi (addLo ((List.getD a k 0) * (List.getD b i 0)) (List.getD u k 0) (0 : UInt64)) c (0 : UInt64)) rfl rfl))] 7 En783 fun ac784 En785 => ?_
   refine f_o ?_
   refine q_v (x := Instr.indexAt 83 (pt bk643) (ni k)) (v := .pointer (some ⟨bk643, k, none⟩)) En785 (Go.Dbr.run_indexarr (e := 23) (sz := 1) (m := 6) (j := k) (o := k) (by kernel_rfl) (by kernel_rfl) (by omega) (by omega) (by omega) _) fun ac786 En787 => ?_
   refine f_o ?_
   have hb788 : k < List.length u := by rw [hlu]; omega
   refine m_t 0 k (uv64 (addLo (addLo ((List.getD a k 0) * (List.getD b i 0)) (List.getD u k 0) (0 : UInt64)) c (0 : UInt64))) [.box bk643 (u64s (List.set u k (addLo (addLo ((List.getD a k 0) * (List.getD b i 0)) (List.getD u k 0) (0 : UInt64)) c (0 : UInt64)))) 83, .box bk6 (u64s a) 25, .box bk11 (u64s b) 25, .box bk16 (u64s (List.replicate 4 0)) 25, .box bk485 (u64s (nd (mF 4))) 25] En787 Hv766 rfl (u64s_getD hb788) (u64s_set _ _ _) rfl fun ac789 wo790 En791 Hv792 => ?_
   refine d_e [4,5,6,7,8,9,10,11,12,14,33,36] [] En791 fun ac793 En794 => ?_
   refine block_normal ?_
   refine then_normal ?_
   refine d_r [4,5,6,7,8,9,10,11,12,14,33,36] [(0, g_n (w_a k 1))] En794 fun ac795 En796 => ?_
   refine then_normal ?_
   refine ⟨_, ⟨k + 1, (List.set u k (addLo (addLo ((List.getD a k 0) * (List.getD b i 0)) (List.getD u k 0) (0 : UInt64)) c (0 : UInt64))), (((mulHi (List.getD a k 0) (List.getD b i 0)) + (addHi ((List.getD a k 0) * (List.getD b i 0)) (List.getD u k 0) (0 : UInt64))) + (addHi (addLo ((List.getD a k 0) * (List.getD b i 0)) (List.getD u k 0) (0 : UInt64)) c (0 : UInt64))), rfl, En796.sb, Hv792.pk [0, 1, 2, 3, 4], by omega, (List.length_set.trans hlu), mont_in hlu (by omega) hu⟩, ?_⟩
   omega
  ·
   refine wp_exit ?_
   refine then_exit ?_
   refine then_exit ?_
   refine block_exit ?_
   refine then_normal ?_
   refine wp_seq ?_
   have hk4 : k = 4 := by omega
   rw [hk4] at hu
   have hmid := mont_mid hlu hu
   refine region_from ?_
   refine d_k [4,5,6,7,8,9,10,11,33,36,73] [] 1 En674 fun ac797 En798 => ?_
   refine f_o ?_
   have hb799 : 4 < List.length u := by rw [hlu]; omega
   refine m_v 0 4 (uv64 (List.getD u 4 0)) En798 Hv671 rfl (u64s_getD hb799) fun ac800 En801 => ?_
   refine d_k [4,5,6,7,8,9,10,11,33,36,74,75] [] 3 En801 fun ac802 En803 => ?_
   refine f_o ?_
   refine op_ext (d := some 76) (f := 62) (args := #[uv64 (List.getD u 4 0), uv64 c, uv64 (0 : UInt64)]) (v := .tuple #[uv64 (addLo (List.getD u 4 0) c (0 : UInt64)), uv64 (addHi (List.getD u 4 0) c (0 : UInt64))]) En803 (by kernel_rfl) (Go.Dbr.ext_add64 Go.Proofs.Try.func62 (by kernel_rfl) (by kernel_rfl) (by kernel_rfl) (by kernel_rfl) (List.getD u 4 0) c (0 : UInt64) (by decide)) ?_
   intro ac804 En805
   refine d_k [4,5,6,7,8,9,10,11,33,36,77,78,79] [] 8 En805 fun ac806 En807 => ?_
   refine f_o ?_
   have hb808 : 4 < List.length u := by rw [hlu]; omega
   refine m_t 0 4 (uv64 (addLo (List.getD u 4 0) c (0 : UInt64))) [.box bk643 (u64s (List.set u 4 (addLo (List.getD u 4 0) c (0 : UInt64)))) 83, .box bk6 (u64s a) 25, .box bk11 (u64s b) 25, .box bk16 (u64s (List.replicate 4 0)) 25, .box bk485 (u64s (nd (mF 4))) 25] En807 Hv671 rfl (u64s_getD hb808) (u64s_set _ _ _) rfl fun ac809 wo810 En811 Hv812 => ?_
   refine d_k [4,5,6,7,8,9,10,11,33,36,78,80] [] 10 En811 fun ac813 En814 => ?_
   refine f_o ?_
   have hb815 : 5 < List.length (List.set u 4 (addLo (List.getD u 4 0) c (0 : UInt64))) := by rw [(List.length_set.trans hlu)]; omega
   refine m_t 0 5 (uv64 (addHi (List.getD u 4 0) c (0 : UInt64))) [.box bk643 (u64s (List.set (List.set u 4 (addLo (List.getD u 4 0) c (0 : UInt64))) 5 (addHi (List.getD u 4 0) c (0 : UInt64)))) 83, .box bk6 (u64s a) 25, .box bk11 (u64s b) 25, .box bk16 (u64s (List.replicate 4 0)) 25, .box bk485 (u64s (nd (mF 4))) 25] En814 Hv812 rfl (u64s_getD hb815) (u64s_set _ _ _) rfl fun ac816 wo817 En818 Hv819 => ?_
   refine f_e ?_
   refine then_normal ?_
   refine wp_seq ?_
   have hlv : List.length (List.set (List.set u 4 (addLo (List.getD u 4 0) c (0 : UInt64))) 5 (addHi (List.getD u 4 0) c (0 : UInt64))) = 6 := by rw [List.length_set, List.length_set]; exact hlu
   generalize hve : List.set (List.set u 4 (addLo (List.getD u 4 0) c (0 : UInt64))) 5 (addHi (List.getD u 4 0) c (0 : UInt64)) = v at hmid hlv Hv819
   obtain ⟨hvP, hv5⟩ := hmid
   refine region_from ?_
   refine d_k [4,5,6,7,8,9,10,11,33,36,81] [] 1 En818 fun ac820 En821 => ?_
   refine f_o ?_
   have hb822 : 0 < List.length v := by rw [hlv]; omega
   refine m_v 0 0 (uv64 (List.getD v 0 0)) En821 Hv819 rfl (u64s_getD hb822) fun ac823 En824 => ?_
   refine d_e [4,5,6,7,8,9,10,11,17,33,36] [(3, g_i .u64 (Go.Dbr.u64_mul (x := List.getD v 0 0) (y := (15183074304973897243 : UInt64)) rfl rfl))] En824 fun ac825 En826 => ?_
   refine then_normal ?_
   refine wp_seq ?_
   obtain ⟨q, hqe⟩ : ∃ q, q = (List.getD v 0 0) * (15183074304973897243 : UInt64) := ⟨_, rfl⟩
   have En827 := Env.fx (t := 17) (v := uv64 ((List.getD v 0 0) * (15183074304973897243 : UInt64))) (u := uv64 q) En826 (by rw [hqe])
   refine d_r [4,5,6,7,8,9,10,11,17,33,36] [] En827 fun ac828 En829 => ?_
   refine then_normal ?_
   refine wp_seq ?_
   refine wp_seq ?_
   refine d_r [4,5,6,7,8,9,10,11,17,33,36,85] [] En829 fun ac830 En831 => ?_
   refine then_normal ?_
   refine wp_block ?_
   refine loop_m (fun ms832 ac wo => ∃ (j : Nat) (w5 : List UInt64) (c : UInt64), ms832 = (5 - j : Nat) ∧ Env ac 159 [(4, pt bk6), (5, pt bk11), (6, pt bk16), (7, pt bk485), (8, .int .u64 15183074304973897243), (9, pt bk643), (10, ni i), (11, uv64 c), (17, uv64 q), (33, ni i), (36, ni k), (85, ni j)] ∧ Ev w [] wo [.box bk643 (u64s w5) 83, .box bk6 (u64s a) 25, .box bk11 (u64s b) 25, .box bk16 (u64s (List.replicate 4 0)) 25, .box bk485 (u64s (nd (mF 4))) 25] ∧ (j ≤ 4) ∧ (List.length w5 = 6) ∧ (18446744073709551616 * (dvk w5 (j - 1) + c.toNat * 18446744073709551616 ^ (j - 1)) = dvk v j + q.toNat * dvk (nd (mF 4)) j) ∧ (∀ x, j ≤ x → List.getD w5 x 0 = List.getD v x 0)) ⟨_, 0, v, 0, rfl, En831.sb, Hv819.pk [0, 1, 2, 3, 4], by omega, hlv, mont_j0, fun _ _ => rfl⟩ ?_
   rintro mm838 ac834 wo835 ⟨j, w5, c, rfl, En836, Hv837, hj, hlw, hv2, hs⟩
   refine wp_seq ?_
   refine d_r [4,5,6,7,8,9,10,11,17,33,36,85,86] [] En836 fun ac839 En840 => ?_
   refine then_normal ?_
   refine wp_seq ?_
   refine c_d (((j : Nat) : Int) < (4 : Int)) En840 (fun hc841 => ?_) (fun hc841 => ?_)
   ·
    refine wp_skip ?_
    refine then_normal ?_
    refine wp_seq ?_
    refine wp_block ?_
    refine wp_seq ?_
    refine d_r [4,5,6,7,8,9,10,11,17,18,33,36,85] [] En840 fun ac842 En843 => ?_
    refine then_normal ?_
    refine wp_seq ?_
    refine region_from ?_
    refine d_k [4,5,6,7,8,9,10,11,17,18,33,36,85,89,90] [] 2 En843 fun ac844 En845 => ?_
    refine f_o ?_
    refine q_v (x := Instr.indexAt 25 (pt bk485) (ni j)) (v := .pointer (some ⟨bk485, j, none⟩)) En845 (Go.Dbr.run_indexarr (e := 23) (sz := 1) (m := 4) (j := j) (o := j) (by kernel_rfl) (by kernel_rfl) (by omega) (by omega) (by omega) _) fun ac846 En847 => ?_
    refine f_o ?_
    have hb848 : j < List.length (nd (mF 4)) := by rw [(nds_len _ _)]; omega
    refine m_v 4 j (uv64 (List.getD (nd (mF 4)) j 0)) En847 Hv837 rfl (u64s_getD hb848) fun ac849 En850 => ?_
    refine f_o ?_
    refine c_p En850 Hv837 (mul_go _ q (List.getD (nd (mF 4)) j 0)) fun ac855 wo852 En856 Hv857 => ?_
    refine d_e [4,5,6,7,8,9,10,11,17,18,19,20,33,36,85] [] En856 fun ac858 En859 => ?_
    refine then_normal ?_
    refine wp_seq ?_
    refine region_from ?_
    refine d_k [4,5,6,7,8,9,10,11,17,18,19,20,33,36,85,97,98] [] 2 En859 fun ac860 En861 => ?_
    refine f_o ?_
    refine q_v (x := Instr.indexAt 83 (pt bk643) (ni j)) (v := .pointer (some ⟨bk643, j, none⟩)) En861 (Go.Dbr.run_indexarr (e := 23) (sz := 1) (m := 6) (j := j) (o := j) (by kernel_rfl) (by kernel_rfl) (by omega) (by omega) (by omega) _) fun ac862 En863 => ?_
    refine f_o ?_
    have hb864 : j < List.length w5 := by rw [hlw]; omega
    refine m_v 0 j (uv64 (List.getD w5 j 0)) En863 Hv857 rfl (u64s_getD hb864) fun ac865 En866 => ?_
    refine f_o ?_
    refine op_ext (d := some 101) (f := 62) (args := #[uv64 (q * (List.getD (nd (mF 4)) j 0)), uv64 (List.getD w5 j 0), uv64 (0 : UInt64)]) (v := .tuple #[uv64 (addLo (q * (List.getD (nd (mF 4)) j 0)) (List.getD w5 j 0) (0 : UInt64)), uv64 (addHi (q * (List.getD (nd (mF 4)) j 0)) (List.getD w5 j 0) (0 : UInt64))]) En866 (by kernel_rfl) (Go.Dbr.ext_add64 Go.Proofs.Try.func62 (by kernel_rfl) (by kernel_rfl) (by kernel_rfl) (by kernel_rfl) (q * (List.getD (nd (mF 4)) j 0)) (List.getD w5 j 0) (0 : UInt64) (by decide)) ?_
    intro ac867 En868
    refine d_e [4,5,6,7,8,9,10,11,17,18,19,20,21,33,36,85] [] En868 fun ac869 En870 => ?_
    refine then_normal ?_
    refine wp_seq ?_
    refine region_from ?_
    refine d_k [4,5,6,7,8,9,10,11,17,18,19,20,21,33,36,85,105,106] [] 2 En870 fun ac871 En872 => ?_
    refine f_o ?_
    refine op_ext (d := some 107) (f := 62) (args := #[uv64 (addLo (q * (List.getD (nd (mF 4)) j 0)) (List.getD w5 j 0) (0 : UInt64)), uv64 c, uv64 (0 : UInt64)]) (v := .tuple #[uv64 (addLo (addLo (q * (List.getD (nd (mF 4)) j 0)) (List.getD w5 j 0) (0 : UInt64)) c (0 : UInt64)), uv64 (addHi (addLo (q * (List.getD (nd (mF 4)) j 0)) (List.getD w5 j 0) (0 : UInt64)) c (0 : UInt64))]) En872 (by kernel_rfl) (Go.Dbr.ext_add64 Go.Proofs.Try.func62 (by kernel_rfl) (by kernel_rfl) (by kernel_rfl) (by kernel_rfl) (addLo (q * (List.getD (nd (mF 4)) j 0)) (List.getD w5 j 0) (0 : UInt64)) c (0 : UInt64) (by decide)) ?_
    intro ac873 En874
    refine d_e [4,5,6,7,8,9,10,11,17,18,19,20,21,22,33,36,85] [] En874 fun ac875 En876 => ?_
    refine then_normal ?_
    refine wp_seq ?_
    refine wp_seq ?_
    refine d_r [4,5,6,7,8,9,10,11,17,18,19,20,21,22,33,36,85,111] [] En876 fun ac877 En878 => ?_
    refine then_normal ?_
    refine c_d (((j : Nat) : Int) > (0 : Int)) En878 (fun hc879 => ?_) (fun hc879 => ?_)
    ·
     refine region_from ?_
     refine d_k [4,5,6,7,8,9,10,11,17,18,19,20,21,22,33,36,85,113,114] [(1, g_n (w_r (e := ((j : Nat) : Int) - (1 : Int)) (x := ((j - 1 : Nat) : Int)) (by omega)))] 3 En878 fun ac880 En881 => ?_
     refine f_o ?_
     refine q_v (x := Instr.indexAt 83 (pt bk643) (ni (j - 1))) (v := .pointer (some ⟨bk643, j - 1, none⟩)) En881 (Go.Dbr.run_indexarr (e := 23) (sz := 1) (m := 6) (j := j - 1) (o := j - 1) (by kernel_rfl) (by kernel_rfl) (by omega) (by omega) (by omega) _) fun ac882 En883 => ?_
     refine f_o ?_
     have hb884 : j - 1 < List.length w5 := by rw [hlw]; omega
     refine m_t 0 (j - 1) (uv64 (addLo (addLo (q * (List.getD (nd (mF 4)) j 0)) (List.getD w5 j 0) (0 : UInt64)) c (0 : UInt64))) [.box bk643 (u64s (List.set w5 (j - 1) (addLo (addLo (q * (List.getD (nd (mF 4)) j 0)) (List.getD w5 j 0) (0 : UInt64)) c (0 : UInt64)))) 83, .box bk6 (u64s a) 25, .box bk11 (u64s b) 25, .box bk16 (u64s (List.replicate 4 0)) 25, .box bk485 (u64s (nd (mF 4))) 25] En883 Hv857 rfl (u64s_getD hb884) (u64s_set _ _ _) rfl fun ac885 wo886 En887 Hv888 => ?_
     refine f_e ?_
     refine then_normal ?_
     refine d_r [4,5,6,7,8,9,10,11,17,18,20,33,36,85] [(2, g_i .u64 (Go.Dbr.u64_add (x := mulHi q (List.getD (nd (mF 4)) j 0)) (y := addHi (q * (List.getD (nd (mF 4)) j 0)) (List.getD w5 j 0) (0 : UInt64)) rfl rfl)), (4, g_i .u64 (Go.Dbr.u64_add (x := (mulHi q (List.getD (nd (mF 4)) j 0)) + (addHi (q * (List.getD (nd (mF 4)) j 0)) (List.getD w5 j 0) (0 : UInt64))) (y := addHi (addLo (q * (List.getD (nd (mF 4)) j 0)) (List.getD w5 j 0) (0 : UInt64)) c (0 : UInt64)) rfl rfl))] En887 fun ac889 En890 => ?_
     refine block_normal ?_
     refine then_normal ?_
     refine d_r [4,5,6,7,8,9,10,11,17,18,20,33,36,85] [(0, g_n (w_a j 1))] En890 fun ac891 En892 => ?_
     refine then_normal ?_
     refine ⟨_, ⟨j + 1, (List.set w5 (j - 1) (addLo (addLo (q * (List.getD (nd (mF 4)) j 0)) (List.getD w5 j 0) (0 : UInt64)) c (0 : UInt64))), (((mulHi q (List.getD (nd (mF 4)) j 0)) + (addHi (q * (List.getD (nd (mF 4)) j 0)) (List.getD w5 j 0) (0 : UInt64))) + (addHi (addLo (q * (List.getD (nd (mF 4)) j 0)) (List.getD w5 j 0) (0 : UInt64)) c (0 : UInt64))), rfl, En892.sb, Hv888.pk [0, 1, 2, 3, 4], by omega, (List.length_set.trans hlw), mont_more hlw (by omega) (by omega) (hs j (Nat.le_refl _)) hv2, fun x hx => by rw [getD_set_ne _ (by omega)]; exact hs x (by omega)⟩, ?_⟩
     omega
    ·
     refine wp_skip ?_
     refine then_normal ?_
     refine d_r [4,5,6,7,8,9,10,11,17,18,20,33,36,85] [(2, g_i .u64 (Go.Dbr.u64_add (x := mulHi q (List.getD (nd (mF 4)) j 0)) (y := addHi (q * (List.getD (nd (mF 4)) j 0)) (List.getD w5 j 0) (0 : UInt64)) rfl rfl)), (4, g_i .u64 (Go.Dbr.u64_add (x := (mulHi q (List.getD (nd (mF 4)) j 0)) + (addHi (q * (List.getD (nd (mF 4)) j 0)) (List.getD w5 j 0) (0 : UInt64))) (y := addHi (addLo (q * (List.getD (nd (mF 4)) j 0)) (List.getD w5 j 0) (0 : UInt64)) c (0 : UInt64)) rfl rfl))] En878 fun ac893 En894 => ?_
     refine block_normal ?_
     refine then_normal ?_
     refine d_r [4,5,6,7,8,9,10,11,17,18,20,33,36,85] [(0, g_n (w_a j 1))] En894 fun ac895 En896 => ?_
     refine then_normal ?_
     have hj0 : j = 0 := by omega
     rw [hj0] at hv2
     refine ⟨_, ⟨j + 1, w5, (((mulHi q (List.getD (nd (mF 4)) j 0)) + (addHi (q * (List.getD (nd (mF 4)) j 0)) (List.getD w5 j 0) (0 : UInt64))) + (addHi (addLo (q * (List.getD (nd (mF 4)) j 0)) (List.getD w5 j 0) (0 : UInt64)) c (0 : UInt64))), rfl, En896.sb, Hv857.pk [0, 1, 2, 3, 4], by omega, hlw, (by rw [hj0]; exact mont_first bk4 hqe (hs 0 (by omega)) (mont_c0 hv2)), fun x hx => hs x (by omega)⟩, ?_⟩
     omega
   ·
    refine wp_exit ?_
    refine then_exit ?_
    refine then_exit ?_
    refine block_exit ?_
    refine then_normal ?_
    refine wp_seq ?_
    have hj4 : j = 4 := by omega
    rw [hj4] at hv2
    have hmo := mont_out hlw (hs 4 (by omega)) (hs 5 (by omega)) hv5 hv2
    refine d_r [4,5,6,7,8,9,10,11,17,23,33,36,85] [] En840 fun ac897 En898 => ?_
    refine then_normal ?_
    refine wp_seq ?_
    refine region_from ?_
    refine d_k [4,5,6,7,8,9,10,11,17,23,33,36,85,123] [] 1 En898 fun ac899 En900 => ?_
    refine f_o ?_
    have hb901 : 4 < List.length w5 := by rw [hlw]; omega
    refine m_v 0 4 (uv64 (List.getD w5 4 0)) En900 Hv837 rfl (u64s_getD hb901) fun ac902 En903 => ?_
    refine d_k [4,5,6,7,8,9,10,11,17,23,33,36,85,124,125] [] 3 En903 fun ac904 En905 => ?_
    refine f_o ?_
    refine op_ext (d := some 126) (f := 62) (args := #[uv64 (List.getD w5 4 0), uv64 c, uv64 (0 : UInt64)]) (v := .tuple #[uv64 (addLo (List.getD w5 4 0) c (0 : UInt64)), uv64 (addHi (List.getD w5 4 0) c (0 : UInt64))]) En905 (by kernel_rfl) (Go.Dbr.ext_add64 Go.Proofs.Try.func62 (by kernel_rfl) (by kernel_rfl) (by kernel_rfl) (by kernel_rfl) (List.getD w5 4 0) c (0 : UInt64) (by decide)) ?_
    intro ac906 En907
    refine d_k [4,5,6,7,8,9,10,11,17,23,33,36,85,127,128,129] [] 8 En907 fun ac908 En909 => ?_
    refine f_o ?_
    have hb910 : 3 < List.length w5 := by rw [hlw]; omega
    refine m_t 0 3 (uv64 (addLo (List.getD w5 4 0) c (0 : UInt64))) [.box bk643 (u64s (List.set w5 3 (addLo (List.getD w5 4 0) c (0 : UInt64)))) 83, .box bk6 (u64s a) 25, .box bk11 (u64s b) 25, .box bk16 (u64s (List.replicate 4 0)) 25, .box bk485 (u64s (nd (mF 4))) 25] En909 Hv837 rfl (u64s_getD hb910) (u64s_set _ _ _) rfl fun ac911 wo912 En913 Hv914 => ?_
    refine d_e [4,5,6,7,8,9,10,11,17,23,33,36,85] [] En913 fun ac915 En916 => ?_
    refine then_normal ?_
    refine region_from ?_
    refine d_k [4,5,6,7,8,9,10,11,17,23,33,36,85,130] [] 1 En916 fun ac917 En918 => ?_
    refine f_o ?_
    have hb919 : 5 < List.length (List.set w5 3 (addLo (List.getD w5 4 0) c (0 : UInt64))) := by rw [(List.length_set.trans hlw)]; omega
    refine m_v 0 5 (uv64 (List.getD (List.set w5 3 (addLo (List.getD w5 4 0) c (0 : UInt64))) 5 0)) En918 Hv914 rfl (u64s_getD hb919) fun ac920 En921 => ?_
    refine d_k [4,5,6,7,8,9,10,11,17,33,36,85,133,134] [(3, g_i .u64 (Go.Dbr.u64_add (x := List.getD (List.set w5 3 (addLo (List.getD w5 4 0) c (0 : UInt64))) 5 0) (y := addHi (List.getD w5 4 0) c (0 : UInt64)) rfl rfl))] 5 En921 fun ac922 En923 => ?_
    refine f_o ?_
    have hb924 : 4 < List.length (List.set w5 3 (addLo (List.getD w5 4 0) c (0 : UInt64))) := by rw [(List.length_set.trans hlw)]; omega
    refine m_t 0 4 (uv64 ((List.getD (List.set w5 3 (addLo (List.getD w5 4 0) c (0 : UInt64))) 5 0) + (addHi (List.getD w5 4 0) c (0 : UInt64)))) [.box bk643 (u64s (List.set (List.set w5 3 (addLo (List.getD w5 4 0) c (0 : UInt64))) 4 ((List.getD (List.set w5 3 (addLo (List.getD w5 4 0) c (0 : UInt64))) 5 0) + (addHi (List.getD w5 4 0) c (0 : UInt64))))) 83, .box bk6 (u64s a) 25, .box bk11 (u64s b) 25, .box bk16 (u64s (List.replicate 4 0)) 25, .box bk485 (u64s (nd (mF 4))) 25] En923 Hv914 rfl (u64s_getD hb924) (u64s_set _ _ _) rfl fun ac925 wo926 En927 Hv928 => ?_
    refine f_e ?_
    refine block_normal ?_
    refine then_normal ?_
    refine d_r [4,5,6,7,8,9,10,11,17,33,36,85] [(0, g_n (w_a i 1))] En927 fun ac929 En930 => ?_
    refine then_normal ?_
    have hnx := mont_next hAM hT hm (hmo.trans (by rw [hvP, dvk4 ha, nvm4]))
    refine ⟨_, ⟨i + 1, (List.set (List.set w5 3 (addLo (List.getD w5 4 0) c (0 : UInt64))) 4 ((List.getD (List.set w5 3 (addLo (List.getD w5 4 0) c (0 : UInt64))) 5 0) + (addHi (List.getD w5 4 0) c (0 : UInt64)))), rfl, En930.sb, Hv928.pk [0, 1, 2, 3, 4], by omega, (by rw [List.length_set, List.length_set]; exact hlw), hnx.1, hnx.2⟩, ?_⟩
    omega
 ·
  refine wp_exit ?_
  refine then_exit ?_
  refine then_exit ?_
  refine block_exit ?_
  refine then_normal ?_
  refine wp_seq ?_
  have hi4 : i = 4 := by omega
  rw [hi4, dvk4 hb] at hm
  refine region_from ?_
  refine d_k [4,5,6,7,8,9,33,136] [] 1 En658 fun ac931 En932 => ?_
  refine f_o ?_
  have hb933 : 0 < List.length t := by rw [hlt]; omega
  refine m_v 0 0 (uv64 (List.getD t 0 0)) En932 Hv655 rfl (u64s_getD hb933) fun ac934 En935 => ?_
  refine d_k [4,5,6,7,8,9,33,137,138] [] 3 En935 fun ac936 En937 => ?_
  refine f_o ?_
  have hb938 : 1 < List.length t := by rw [hlt]; omega
  refine m_v 0 1 (uv64 (List.getD t 1 0)) En937 Hv655 rfl (u64s_getD hb938) fun ac939 En940 => ?_
  refine d_k [4,5,6,7,8,9,33,137,139,140] [] 5 En940 fun ac941 En942 => ?_
  refine f_o ?_
  have hb943 : 2 < List.length t := by rw [hlt]; omega
  refine m_v 0 2 (uv64 (List.getD t 2 0)) En942 Hv655 rfl (u64s_getD hb943) fun ac944 En945 => ?_
  refine d_k [4,5,6,7,8,9,33,137,139,141,142] [] 7 En945 fun ac946 En947 => ?_
  refine f_o ?_
  have hb948 : 3 < List.length t := by rw [hlt]; omega
  refine m_v 0 3 (uv64 (List.getD t 3 0)) En947 Hv655 rfl (u64s_getD hb948) fun ac949 En950 => ?_
  refine d_k [4,5,6,7,8,9,33,144] [] 9 En950 fun ac951 En952 => ?_
  refine f_o ?_
  refine m_z 25 (u64s (List.replicate 4 0)) En952 Hv655 fun ac954 wo955 bk953 En956 Hv957 => ?_
  refine f_o ?_
  refine m_g 5 0 4 (u64s ([List.getD t 0 0, List.getD t 1 0, List.getD t 2 0, List.getD t 3 0] : List UInt64)) (u64s ([List.getD t 0 0, List.getD t 1 0, List.getD t 2 0, List.getD t 3 0] : List UInt64)) [.box bk643 (u64s t) 83, .box bk6 (u64s a) 25, .box bk11 (u64s b) 25, .box bk16 (u64s (List.replicate 4 0)) 25, .box bk485 (u64s (nd (mF 4))) 25, .box bk953 (u64s ([List.getD t 0 0, List.getD t 1 0, List.getD t 2 0, List.getD t 3 0] : List UInt64)) 25] En956 Hv957 rfl (u64s_lenh (show List.length ([List.getD t 0 0, List.getD t 1 0, List.getD t 2 0, List.getD t 3 0] : List UInt64) = 4 from rfl)) (by rw [(u64s_lenh (List.length_replicate))]; decide) (u64s_one _) (store_whole (u64s_lenh (List.length_replicate))) rfl fun ac958 wo959 En960 Hv961 => ?_
  refine f_e ?_
  refine then_normal ?_
  refine wp_seq ?_
  refine wp_seq ?_
  refine region_from ?_
  refine f_o ?_
  refine c_l [5,4] (M := [.box bk953 (u64s ([List.getD t 0 0, List.getD t 1 0, List.getD t 2 0, List.getD t 3 0] : List UInt64)) 25, .box bk485 (u64s (nd (mF 4))) 25]) En960 Hv961 (fun hM962 => less_go _ bk953 bk485 ([List.getD t 0 0, List.getD t 1 0, List.getD t 2 0, List.getD t 3 0] : List UInt64) (nd (mF 4)) (show List.length ([List.getD t 0 0, List.getD t 1 0, List.getD t 2 0, List.getD t 3 0] : List UInt64) = 4 from rfl) (nds_len _ _) hM962) ?_
  rintro _ wo963 ⟨rfl, he964⟩
  refine ⟨_, _, [.box bk953 (u64s ([List.getD t 0 0, List.getD t 1 0, List.getD t 2 0, List.getD t 3 0] : List UInt64)) 25, .box bk485 (u64s (nd (mF 4))) 25, .box bk643 (u64s t) 83, .box bk6 (u64s a) 25, .box bk11 (u64s b) 25, .box bk16 (u64s (List.replicate 4 0)) 25], rfl, he964, by kernel_rfl, fun ac966 En967 Hv968 => ?_⟩
  refine d_k [4,5,6,7,8,9,24,33,146] [] 2 En967 fun ac969 En970 => ?_
  rcases Bool.eq_false_or_eq_true (decide (nv ([List.getD t 0 0, List.getD t 1 0, List.getD t 2 0, List.getD t 3 0] : List UInt64) < nv (nd (mF 4)))) with hb971 | hb971
  ·
   have En972 := En970.fx (t := 146) (congrArg Value.bool hb971)
   have hp973 : nv ([List.getD t 0 0, List.getD t 1 0, List.getD t 2 0, List.getD t 3 0] : List UInt64) < nv (nd (mF 4)) := of_decide_eq_true hb971
   refine d_k [4,5,6,7,8,9,24,33,146,147] [] 3 En972 fun ac974 En975 => ?_
   refine f_o ?_
   have hb976 : 4 < List.length t := by rw [hlt]; omega
   refine m_v 2 4 (uv64 (List.getD t 4 0)) En975 Hv968 rfl (u64s_getD hb976) fun ac977 En978 => ?_
   refine d_e [4,5,6,7,8,9,24,33,150] [] En978 fun ac979 En980 => ?_
   refine then_normal ?_
   refine c_e ((UInt64.toNat (List.getD t 4 0) : Nat) : Int) (0 : Int) En980 (fun hc981 => ?_) (fun hc981 => ?_)
   ·
    refine wp_seq ?_
    refine region_from ?_
    refine f_o ?_
    refine m_a 0 0 4 (u64s ([List.getD t 0 0, List.getD t 1 0, List.getD t 2 0, List.getD t 3 0] : List UInt64)) En980 Hv968 rfl (load_whole (u64s_lenh (show List.length ([List.getD t 0 0, List.getD t 1 0, List.getD t 2 0, List.getD t 3 0] : List UInt64) = 4 from rfl))) (u64s_lenh (show List.length ([List.getD t 0 0, List.getD t 1 0, List.getD t 2 0, List.getD t 3 0] : List UInt64) = 4 from rfl)) fun ac982 En983 => ?_
    refine f_o ?_
    refine m_g 5 0 4 (u64s ([List.getD t 0 0, List.getD t 1 0, List.getD t 2 0, List.getD t 3 0] : List UInt64)) (u64s ([List.getD t 0 0, List.getD t 1 0, List.getD t 2 0, List.getD t 3 0] : List UInt64)) [.box bk953 (u64s ([List.getD t 0 0, List.getD t 1 0, List.getD t 2 0, List.getD t 3 0] : List UInt64)) 25, .box bk485 (u64s (nd (mF 4))) 25, .box bk643 (u64s t) 83, .box bk6 (u64s a) 25, .box bk11 (u64s b) 25, .box bk16 (u64s ([List.getD t 0 0, List.getD t 1 0, List.getD t 2 0, List.getD t 3 0] : List UInt64)) 25] En983 Hv968 rfl (u64s_lenh (show List.length ([List.getD t 0 0, List.getD t 1 0, List.getD t 2 0, List.getD t 3 0] : List UInt64) = 4 from rfl)) (by rw [(u64s_lenh (List.length_replicate))]; decide) (u64s_one _) (store_whole (u64s_lenh (List.length_replicate))) rfl fun ac984 wo985 En986 Hv987 => ?_
    refine f_e ?_
    refine then_normal ?_
    refine wp_ret ?_
    refine then_ret ?_
    refine d_cell1 (v := .agg (List.toArray (u64s ([List.getD t 0 0, List.getD t 1 0, List.getD t 2 0, List.getD t 3 0] : List UInt64)))) (t := 6) (T := 25) (ad := ⟨bk16, 0, none⟩) En986 (by kernel_rfl) (by kernel_rfl) (Ev.cellAgg (t := 25) (k := 5) (off := 0) (m := 4) (xs := u64s ([List.getD t 0 0, List.getD t 1 0, List.getD t 2 0, List.getD t 3 0] : List UInt64)) Hv987 rfl (load_whole (u64s_lenh (show List.length ([List.getD t 0 0, List.getD t 1 0, List.getD t 2 0, List.getD t 3 0] : List UInt64) = 4 from rfl))) (u64s_lenh (show List.length ([List.getD t 0 0, List.getD t 1 0, List.getD t 2 0, List.getD t 3 0] : List UInt64) = 4 from rfl)) (by kernel_rfl) (by kernel_rfl)) ?_
    have e : ([List.getD t 0 0, List.getD t 1 0, List.getD t 2 0, List.getD t 3 0] : List UInt64) = nd (montN 4458503529701987551646482192314240623644693141688353256590997718326214331684 (mF 4) (nv a) (nv b)) := mont_yes ri4 hm (by rw [← nv_mF 4]; assumption) (by assumption)
    exact ⟨congrArg (fun l : List UInt64 => Ending.returned (Value.agg (u64s l).toArray)) e, Hv987.pk []⟩
   ·
    refine wp_skip ?_
    refine then_normal ?_
    refine wp_seq ?_
    refine region_from ?_
    refine f_o ?_
    refine m_a 0 0 4 (u64s ([List.getD t 0 0, List.getD t 1 0, List.getD t 2 0, List.getD t 3 0] : List UInt64)) En980 Hv968 rfl (load_whole (u64s_lenh (show List.length ([List.getD t 0 0, List.getD t 1 0, List.getD t 2 0, List.getD t 3 0] : List UInt64) = 4 from rfl))) (u64s_lenh (show List.length ([List.getD t 0 0, List.getD t 1 0, List.getD t 2 0, List.getD t 3 0] : List UInt64) = 4 from rfl)) fun ac988 En989 => ?_
    refine f_o ?_
    refine m_a 1 0 4 (u64s (nd (mF 4))) En989 Hv968 rfl (load_whole (u64s_lenh (nds_len _ _))) (u64s_lenh (nds_len _ _)) fun ac990 En991 => ?_
    refine f_o ?_
    refine c_p En991 Hv968 (minus_go _ ([List.getD t 0 0, List.getD t 1 0, List.getD t 2 0, List.getD t 3 0] : List UInt64) (nd (mF 4)) (show List.length ([List.getD t 0 0, List.getD t 1 0, List.getD t 2 0, List.getD t 3 0] : List UInt64) = 4 from rfl) (nds_len _ _)) fun ac996 wo993 En997 Hv998 => ?_
    refine d_k [4,5,6,7,8,9,24,33,156] [] 6 En997 fun ac999 En1000 => ?_
    refine f_o ?_
    refine m_g 0 0 4 (u64s (nd (nv ([List.getD t 0 0, List.getD t 1 0, List.getD t 2 0, List.getD t 3 0] : List UInt64) + W256 - nv (nd (mF 4))))) (u64s (nd (nv ([List.getD t 0 0, List.getD t 1 0, List.getD t 2 0, List.getD t 3 0] : List UInt64) + W256 - nv (nd (mF 4))))) [.box bk953 (u64s (nd (nv ([List.getD t 0 0, List.getD t 1 0, List.getD t 2 0, List.getD t 3 0] : List UInt64) + W256 - nv (nd (mF 4))))) 25, .box bk485 (u64s (nd (mF 4))) 25, .box bk643 (u64s t) 83, .box bk6 (u64s a) 25, .box bk11 (u64s b) 25, .box bk16 (u64s (List.replicate 4 0)) 25] En1000 Hv998 rfl (u64s_lenh (nds_len _ _)) (by rw [(u64s_lenh (show List.length ([List.getD t 0 0, List.getD t 1 0, List.getD t 2 0, List.getD t 3 0] : List UInt64) = 4 from rfl))]; decide) (u64s_one _) (store_whole (u64s_lenh (show List.length ([List.getD t 0 0, List.getD t 1 0, List.getD t 2 0, List.getD t 3 0] : List UInt64) = 4 from rfl))) rfl fun ac1001 wo1002 En1003 Hv1004 => ?_
    refine f_e ?_
    refine then_normal ?_
    refine wp_seq ?_
    refine region_from ?_
    refine f_o ?_
    refine m_a 0 0 4 (u64s (nd (nv ([List.getD t 0 0, List.getD t 1 0, List.getD t 2 0, List.getD t 3 0] : List UInt64) + W256 - nv (nd (mF 4))))) En1003 Hv1004 rfl (load_whole (u64s_lenh (nds_len _ _))) (u64s_lenh (nds_len _ _)) fun ac1005 En1006 => ?_
    refine f_o ?_
    refine m_g 5 0 4 (u64s (nd (nv ([List.getD t 0 0, List.getD t 1 0, List.getD t 2 0, List.getD t 3 0] : List UInt64) + W256 - nv (nd (mF 4))))) (u64s (nd (nv ([List.getD t 0 0, List.getD t 1 0, List.getD t 2 0, List.getD t 3 0] : List UInt64) + W256 - nv (nd (mF 4))))) [.box bk953 (u64s (nd (nv ([List.getD t 0 0, List.getD t 1 0, List.getD t 2 0, List.getD t 3 0] : List UInt64) + W256 - nv (nd (mF 4))))) 25, .box bk485 (u64s (nd (mF 4))) 25, .box bk643 (u64s t) 83, .box bk6 (u64s a) 25, .box bk11 (u64s b) 25, .box bk16 (u64s (nd (nv ([List.getD t 0 0, List.getD t 1 0, List.getD t 2 0, List.getD t 3 0] : List UInt64) + W256 - nv (nd (mF 4))))) 25] En1006 Hv1004 rfl (u64s_lenh (nds_len _ _)) (by rw [(u64s_lenh (List.length_replicate))]; decide) (u64s_one _) (store_whole (u64s_lenh (List.length_replicate))) rfl fun ac1007 wo1008 En1009 Hv1010 => ?_
    refine f_e ?_
    refine then_normal ?_
    refine wp_ret ?_
    refine d_cell1 (v := .agg (List.toArray (u64s (nd (nv ([List.getD t 0 0, List.getD t 1 0, List.getD t 2 0, List.getD t 3 0] : List UInt64) + W256 - nv (nd (mF 4))))))) (t := 6) (T := 25) (ad := ⟨bk16, 0, none⟩) En1009 (by kernel_rfl) (by kernel_rfl) (Ev.cellAgg (t := 25) (k := 5) (off := 0) (m := 4) (xs := u64s (nd (nv ([List.getD t 0 0, List.getD t 1 0, List.getD t 2 0, List.getD t 3 0] : List UInt64) + W256 - nv (nd (mF 4))))) Hv1010 rfl (load_whole (u64s_lenh (nds_len _ _))) (u64s_lenh (nds_len _ _)) (by kernel_rfl) (by kernel_rfl)) ?_
    have e : nd (nv ([List.getD t 0 0, List.getD t 1 0, List.getD t 2 0, List.getD t 3 0] : List UInt64) + W256 - nv (nd (mF 4))) = nd (montN 4458503529701987551646482192314240623644693141688353256590997718326214331684 (mF 4) (nv a) (nv b)) := by rw [nv_mF]; exact mont_no (mF_lt _) ri4 hT hm (by rw [← nv_mF 4]; first | (left; assumption) | (right; assumption))
    exact ⟨congrArg (fun l : List UInt64 => Ending.returned (Value.agg (u64s l).toArray)) e, Hv1010.pk []⟩
  ·
   have En1011 := En970.fx (t := 146) (congrArg Value.bool hb971)
   have hp1012 : ¬ (nv ([List.getD t 0 0, List.getD t 1 0, List.getD t 2 0, List.getD t 3 0] : List UInt64) < nv (nd (mF 4))) := of_decide_eq_false hb971
   refine d_e [4,5,6,7,8,9,24,33,150] [] En1011 fun ac1013 En1014 => ?_
   refine then_normal ?_
   refine c_f En1014 ?_
   refine wp_skip ?_
   refine then_normal ?_
   refine wp_seq ?_
   refine region_from ?_
   refine f_o ?_
   refine m_a 0 0 4 (u64s ([List.getD t 0 0, List.getD t 1 0, List.getD t 2 0, List.getD t 3 0] : List UInt64)) En1014 Hv968 rfl (load_whole (u64s_lenh (show List.length ([List.getD t 0 0, List.getD t 1 0, List.getD t 2 0, List.getD t 3 0] : List UInt64) = 4 from rfl))) (u64s_lenh (show List.length ([List.getD t 0 0, List.getD t 1 0, List.getD t 2 0, List.getD t 3 0] : List UInt64) = 4 from rfl)) fun ac1015 En1016 => ?_
   refine f_o ?_
   refine m_a 1 0 4 (u64s (nd (mF 4))) En1016 Hv968 rfl (load_whole (u64s_lenh (nds_len _ _))) (u64s_lenh (nds_len _ _)) fun ac1017 En1018 => ?_
   refine f_o ?_
   refine c_p En1018 Hv968 (minus_go _ ([List.getD t 0 0, List.getD t 1 0, List.getD t 2 0, List.getD t 3 0] : List UInt64) (nd (mF 4)) (show List.length ([List.getD t 0 0, List.getD t 1 0, List.getD t 2 0, List.getD t 3 0] : List UInt64) = 4 from rfl) (nds_len _ _)) fun ac1023 wo1020 En1024 Hv1025 => ?_
   refine d_k [4,5,6,7,8,9,24,33,156] [] 6 En1024 fun ac1026 En1027 => ?_
   refine f_o ?_
   refine m_g 0 0 4 (u64s (nd (nv ([List.getD t 0 0, List.getD t 1 0, List.getD t 2 0, List.getD t 3 0] : List UInt64) + W256 - nv (nd (mF 4))))) (u64s (nd (nv ([List.getD t 0 0, List.getD t 1 0, List.getD t 2 0, List.getD t 3 0] : List UInt64) + W256 - nv (nd (mF 4))))) [.box bk953 (u64s (nd (nv ([List.getD t 0 0, List.getD t 1 0, List.getD t 2 0, List.getD t 3 0] : List UInt64) + W256 - nv (nd (mF 4))))) 25, .box bk485 (u64s (nd (mF 4))) 25, .box bk643 (u64s t) 83, .box bk6 (u64s a) 25, .box bk11 (u64s b) 25, .box bk16 (u64s (List.replicate 4 0)) 25] En1027 Hv1025 rfl (u64s_lenh (nds_len _ _)) (by rw [(u64s_lenh (show List.length ([List.getD t 0 0, List.getD t 1 0, List.getD t 2 0, List.getD t 3 0] : List UInt64) = 4 from rfl))]; decide) (u64s_one _) (store_whole (u64s_lenh (show List.length ([List.getD t 0 0, List.getD t 1 0, List.getD t 2 0, List.getD t 3 0] : List UInt64) = 4 from rfl))) rfl fun ac1028 wo1029 En1030 Hv1031 => ?_
   refine f_e ?_
   refine then_normal ?_
   refine wp_seq ?_
   refine region_from ?_
   refine f_o ?_
   refine m_a 0 0 4 (u64s (nd (nv ([List.getD t 0 0, List.getD t 1 0, List.getD t 2 0, List.getD t 3 0] : List UInt64) + W256 - nv (nd (mF 4))))) En1030 Hv1031 rfl (load_whole (u64s_lenh (nds_len _ _))) (u64s_lenh (nds_len _ _)) fun ac1032 En1033 => ?_
   refine f_o ?_
   refine m_g 5 0 4 (u64s (nd (nv ([List.getD t 0 0, List.getD t 1 0, List.getD t 2 0, List.getD t 3 0] : List UInt64) + W256 - nv (nd (mF 4))))) (u64s (nd (nv ([List.getD t 0 0, List.getD t 1 0, List.getD t 2 0, List.getD t 3 0] : List UInt64) + W256 - nv (nd (mF 4))))) [.box bk953 (u64s (nd (nv ([List.getD t 0 0, List.getD t 1 0, List.getD t 2 0, List.getD t 3 0] : List UInt64) + W256 - nv (nd (mF 4))))) 25, .box bk485 (u64s (nd (mF 4))) 25, .box bk643 (u64s t) 83, .box bk6 (u64s a) 25, .box bk11 (u64s b) 25, .box bk16 (u64s (nd (nv ([List.getD t 0 0, List.getD t 1 0, List.getD t 2 0, List.getD t 3 0] : List UInt64) + W256 - nv (nd (mF 4))))) 25] En1033 Hv1031 rfl (u64s_lenh (nds_len _ _)) (by rw [(u64s_lenh (List.length_replicate))]; decide) (u64s_one _) (store_whole (u64s_lenh (List.length_replicate))) rfl fun ac1034 wo1035 En1036 Hv1037 => ?_
   refine f_e ?_
   refine then_normal ?_
   refine wp_ret ?_
   refine d_cell1 (v := .agg (List.toArray (u64s (nd (nv ([List.getD t 0 0, List.getD t 1 0, List.getD t 2 0, List.getD t 3 0] : List UInt64) + W256 - nv (nd (mF 4))))))) (t := 6) (T := 25) (ad := ⟨bk16, 0, none⟩) En1036 (by kernel_rfl) (by kernel_rfl) (Ev.cellAgg (t := 25) (k := 5) (off := 0) (m := 4) (xs := u64s (nd (nv ([List.getD t 0 0, List.getD t 1 0, List.getD t 2 0, List.getD t 3 0] : List UInt64) + W256 - nv (nd (mF 4))))) Hv1037 rfl (load_whole (u64s_lenh (nds_len _ _))) (u64s_lenh (nds_len _ _)) (by kernel_rfl) (by kernel_rfl)) ?_
   have e : nd (nv ([List.getD t 0 0, List.getD t 1 0, List.getD t 2 0, List.getD t 3 0] : List UInt64) + W256 - nv (nd (mF 4))) = nd (montN 4458503529701987551646482192314240623644693141688353256590997718326214331684 (mF 4) (nv a) (nv b)) := by rw [nv_mF]; exact mont_no (mF_lt _) ri4 hT hm (by rw [← nv_mF 4]; first | (left; assumption) | (right; assumption))
   exact ⟨congrArg (fun l : List UInt64 => Ending.returned (Value.agg (u64s l).toArray)) e, Hv1037.pk []⟩

theorem mn4_lt (x y : Nat) : montN 4458503529701987551646482192314240623644693141688353256590997718326214331684 (mF 4) x y < mF 4 := Nat.mod_lt _ (by decide)
theorem mn4 (x y : Nat) : nv (nd (montN 4458503529701987551646482192314240623644693141688353256590997718326214331684 (mF 4) x y)) = montN 4458503529701987551646482192314240623644693141688353256590997718326214331684 (mF 4) x y := nv_nd (Nat.lt_trans (mn4_lt x y) (mF_lt _))
theorem rmul4 (x y : Nat) : nd (montN 4458503529701987551646482192314240623644693141688353256590997718326214331684 (mF 4) (nv (nd (montN 4458503529701987551646482192314240623644693141688353256590997718326214331684 (mF 4) x (nv (nd 1627715501170711445284395025044413883736156588369414752970002579683115011841))))) y) = nd (x * y % mF 4) := by
  rw [mn4, nv_nd (n := 1627715501170711445284395025044413883736156588369414752970002579683115011841) (by decide), two4]

theorem ring4_go (w : World) (a b : List UInt64) (ha : List.length a = 4) (hb : List.length b = 4) (hAM : nv a < mF 4) : Calls Try.prog 53 #[.agg #[], .agg (List.toArray (u64s a)), .agg (List.toArray (u64s b))] w fun e w' => e = .returned (.agg (List.toArray (u64s (nd (nv a * nv b % mF 4))))) ∧ Ev w [] w' [] := by
 refine d_0 [(0, .agg #[]), (1, .agg (List.toArray (u64s a))), (2, .agg (List.toArray (u64s b)))] 17 Go.Proofs.Try.func53 Go.Proofs.Try.ntmps53 (Heap.nil _) fun act0 En0 Hv0 => ?_
 refine wp_seq ?_
 refine region_from ?_
 refine f_o ?_
 refine m_m 62 [] En0 Hv0 fun ac2 wo3 bk1 En4 Hv5 => ?_
 refine f_o ?_
 refine m_m 25 (u64s a) En4 Hv5 fun ac7 wo8 bk6 En9 Hv10 => ?_
 refine f_o ?_
 refine m_m 25 (u64s b) En9 Hv10 fun ac12 wo13 bk11 En14 Hv15 => ?_
 refine f_o ?_
 refine m_z 25 (u64s (List.replicate 4 0)) En14 Hv15 fun ac17 wo18 bk16 En19 Hv20 => ?_
 refine f_e ?_
 refine then_normal ?_
 refine wp_seq ?_
 refine r_c (fun ac wo => Env ac 17 [(6, pt bk16)] ∧ Ev w [] wo [.box bk16 (u64s (nd (montN 4458503529701987551646482192314240623644693141688353256590997718326214331684 (mF 4) (nv (nd (montN 4458503529701987551646482192314240623644693141688353256590997718326214331684 (mF 4) (nv a) (nv (nd 1627715501170711445284395025044413883736156588369414752970002579683115011841))))) (nv b)))) 25]) ?_ ?_
 ·
  refine h_s (fun wv => Ev w [] wv [.box bk1 [] 62, .box bk6 (u64s a) 25, .box bk11 (u64s b) 25]) [] 11 ?_
  have wo21 := Hv20.trans (Ev.drew Hv20.heap)
  refine q_r 0 (s := Instr.loadAt 62 (pt bk1)) (v := .agg #[]) En19 (fun w hS => run_loadAgg2 (m := 0) (cs := []) rfl (by kernel_rfl) (by kernel_rfl) (hS.heap.cells (k := 0) (off := 0) (m := 0) rfl rfl)) (wo21.pk [0, 1, 2]) fun ac856 En857 => ?_
  refine q_r 1 (s := Instr.loadAt 62 (pt bk1)) (v := .agg #[]) En857 (fun w hS => run_loadAgg2 (m := 0) (cs := []) rfl (by kernel_rfl) (by kernel_rfl) (hS.heap.cells (k := 0) (off := 0) (m := 0) rfl rfl)) (wo21.pk [0, 1, 2]) fun ac858 En859 => ?_
  refine q_r 2 (s := Instr.loadAt 25 (pt bk6)) (v := .agg (List.toArray (u64s a))) En859 (fun w hS => run_loadAgg2 (m := 4) (cs := u64s a) (u64s_lenh ha) (by kernel_rfl) (by kernel_rfl) (hS.heap.cells (k := 1) (off := 0) (m := 4) rfl (load_whole (u64s_lenh ha)))) (wo21.pk [0, 1, 2]) fun ac860 En861 => ?_
  refine q_r 3 (s := Instr.fieldAt 62 (pt bk1) 0) (v := pt bk1) En861 (fun w hS => run_field0 (hS.heap.shape0 (k := 0) rfl) (by kernel_rfl)) (wo21.pk [0, 1, 2]) fun ac862 En863 => ?_
  refine q_r 4 (s := Instr.loadAt 60 (pt bk1)) (v := .agg #[]) En863 (fun w hS => run_loadAgg2 (m := 0) (cs := []) rfl (by kernel_rfl) (by kernel_rfl) (hS.heap.cells (k := 0) (off := 0) (m := 0) rfl rfl)) (wo21.pk [0, 1, 2]) fun ac864 En865 => ?_
  refine q_s [5] [] 5 En865 (wo21.pk [0, 1, 2]) fun ac866 En867 => ?_
  refine q_r 8 (s := Instr.loadAt 25 (pt bk11)) (v := .agg (List.toArray (u64s b))) En867 (fun w hS => run_loadAgg2 (m := 4) (cs := u64s b) (u64s_lenh hb) (by kernel_rfl) (by kernel_rfl) (hS.heap.cells (k := 2) (off := 0) (m := 4) rfl (load_whole (u64s_lenh hb)))) (wo21.pk [0, 1, 2]) fun ac868 En869 => ?_
  refine q_t 6 ?_
  refine c_p En869 wo21 (square4_go _) fun ac874 wo871 En875 Hv876 => ?_
  refine ⟨fun _ => Hv876.pk [0, 1, 2], ?_⟩
  refine q_t 7 ?_
  refine c_p En875 Hv876 (mont4_go _ a (nd 1627715501170711445284395025044413883736156588369414752970002579683115011841) ha (nds_len _ _) hAM) fun ac881 wo878 En882 Hv883 => ?_
  refine ⟨fun _ => Hv883.pk [0, 1, 2], ?_⟩
  refine q_t 9 ?_
  refine c_p En882 Hv883 (mont4_go _ (nd (montN 4458503529701987551646482192314240623644693141688353256590997718326214331684 (mF 4) (nv a) (nv (nd 1627715501170711445284395025044413883736156588369414752970002579683115011841)))) b (nds_len _ _) hb (by rw [mn4]; exact mn4_lt _ _)) fun ac888 wo885 En889 Hv890 => ?_
  refine ⟨fun _ => Hv890.pk [0, 1, 2], ?_⟩
  refine q_t 10 ?_
  refine m_g 3 0 4 (u64s (nd (montN 4458503529701987551646482192314240623644693141688353256590997718326214331684 (mF 4) (nv (nd (montN 4458503529701987551646482192314240623644693141688353256590997718326214331684 (mF 4) (nv a) (nv (nd 1627715501170711445284395025044413883736156588369414752970002579683115011841))))) (nv b)))) (u64s (nd (montN 4458503529701987551646482192314240623644693141688353256590997718326214331684 (mF 4) (nv (nd (montN 4458503529701987551646482192314240623644693141688353256590997718326214331684 (mF 4) (nv a) (nv (nd 1627715501170711445284395025044413883736156588369414752970002579683115011841))))) (nv b)))) [.box bk1 [] 62, .box bk6 (u64s a) 25, .box bk11 (u64s b) 25, .box bk16 (u64s (nd (montN 4458503529701987551646482192314240623644693141688353256590997718326214331684 (mF 4) (nv (nd (montN 4458503529701987551646482192314240623644693141688353256590997718326214331684 (mF 4) (nv a) (nv (nd 1627715501170711445284395025044413883736156588369414752970002579683115011841))))) (nv b)))) 25] En889 Hv890 rfl (u64s_lenh (nds_len _ _)) (by rw [(u64s_lenh (List.length_replicate))]; decide) (u64s_one _) (store_whole (u64s_lenh (List.length_replicate))) rfl fun ac891 wo892 En893 Hv894 => ?_
  refine ⟨fun _ => Hv894.pk [0, 1, 2], ?_⟩
  exact h_e ⟨En893.sb, Hv894.pk [3]⟩
 rintro ac895 wo896 ⟨En897, Hv898⟩
 refine then_normal ?_
 refine wp_ret ?_
 refine d_cell1 (v := .agg (List.toArray (u64s (nd (montN 4458503529701987551646482192314240623644693141688353256590997718326214331684 (mF 4) (nv (nd (montN 4458503529701987551646482192314240623644693141688353256590997718326214331684 (mF 4) (nv a) (nv (nd 1627715501170711445284395025044413883736156588369414752970002579683115011841))))) (nv b)))))) (t := 6) (T := 25) (ad := ⟨bk16, 0, none⟩) En897 (by kernel_rfl) (by kernel_rfl) (Ev.cellAgg (t := 25) (k := 0) (off := 0) (m := 4) (xs := u64s (nd (montN 4458503529701987551646482192314240623644693141688353256590997718326214331684 (mF 4) (nv (nd (montN 4458503529701987551646482192314240623644693141688353256590997718326214331684 (mF 4) (nv a) (nv (nd 1627715501170711445284395025044413883736156588369414752970002579683115011841))))) (nv b)))) Hv898 rfl (load_whole (u64s_lenh (nds_len _ _))) (u64s_lenh (nds_len _ _)) (by kernel_rfl) (by kernel_rfl)) ?_
 have e : nd (montN 4458503529701987551646482192314240623644693141688353256590997718326214331684 (mF 4) (nv (nd (montN 4458503529701987551646482192314240623644693141688353256590997718326214331684 (mF 4) (nv a) (nv (nd 1627715501170711445284395025044413883736156588369414752970002579683115011841))))) (nv b)) = nd (nv a * nv b % mF 4) := rmul4 _ _
 exact ⟨congrArg (fun l : List UInt64 => Ending.returned (Value.agg (u64s l).toArray)) e, Hv898.pk []⟩

theorem mulr4 (x y : Nat) : nd (nv (nd (x % mF 4)) * nv (nd (y % mF 4)) % mF 4) = nd (mulM 4 x y) := by
  rw [nv_nd (mod_lt_w (by decide)), nv_nd (mod_lt_w (by decide)), ← Nat.mul_mod]
  rfl

theorem mul4_go (w : World) (a b : List UInt64) (ha : List.length a = 4) (hb : List.length b = 4) : Calls Try.prog 18 #[.int .i64 4, .agg (List.toArray (u64s a)), .agg (List.toArray (u64s b))] w fun e w' => e = .returned (.agg (List.toArray (u64s (nd (mulM 4 (nv a) (nv b)))))) ∧ Ev w [] w' [] := by
 refine d_0 [(0, .int .i64 4), (1, .agg (List.toArray (u64s a))), (2, .agg (List.toArray (u64s b)))] 45 Go.Proofs.Try.func18 Go.Proofs.Try.ntmps18 (Heap.nil _) fun act0 En0 Hv0 => ?_
 refine wp_seq ?_
 refine region_from ?_
 refine f_o ?_
 refine m_m 25 (u64s a) En0 Hv0 fun ac2 wo3 bk1 En4 Hv5 => ?_
 refine f_o ?_
 refine m_m 25 (u64s b) En4 Hv5 fun ac7 wo8 bk6 En9 Hv10 => ?_
 refine f_o ?_
 refine m_z 25 (u64s (List.replicate 4 0)) En9 Hv10 fun ac12 wo13 bk11 En14 Hv15 => ?_
 refine f_e ?_
 refine then_normal ?_
 refine wp_seq ?_
 refine d_s [0,4,5,6,9] [] En14 fun ac16 En17 => ?_
 refine wp_block ?_
 refine d_s [0,4,5,6,9,10] [] En17 fun ac18 En19 => ?_
 refine c_f En19 ?_
 refine d_s [0,4,5,6,9,15] [] En19 fun ac20 En21 => ?_
 refine c_f En21 ?_
 refine d_s [0,4,5,6,9,20] [] En21 fun ac22 En23 => ?_
 refine c_f En23 ?_
 refine d_s [0,4,5,6,9,32] [] En23 fun ac24 En25 => ?_
 refine c_t En25 ?_
 refine wp_seq ?_
 refine region_from ?_
 refine d_k [0,4,5,6,9,34] [] 1 En25 fun ac26 En27 => ?_
 refine f_o ?_
 refine c_p En27 Hv15 (modulus_go _ 4) fun ac32 wo29 En33 Hv34 => ?_
 refine f_o ?_
 refine m_z 25 (u64s (List.replicate 4 0)) En33 Hv34 fun ac36 wo37 bk35 En38 Hv39 => ?_
 refine f_o ?_
 refine m_g 3 0 4 (u64s (nd (mF 4))) (u64s (nd (mF 4))) [.box bk1 (u64s a) 25, .box bk6 (u64s b) 25, .box bk11 (u64s (List.replicate 4 0)) 25, .box bk35 (u64s (nd (mF 4))) 25] En38 Hv39 rfl (u64s_lenh (nds_len _ _)) (by rw [(u64s_lenh (List.length_replicate))]; decide) (u64s_one _) (store_whole (u64s_lenh (List.length_replicate))) rfl fun ac40 wo41 En42 Hv43 => ?_
 refine f_e ?_
 refine then_normal ?_
 refine wp_seq ?_
 refine r_c (fun ac wo => Env ac 45 [(0, .int .i64 4), (4, pt bk1), (5, pt bk6), (6, pt bk11), (8, pt bk35), (9, .int .i64 4)] ∧ Ev w [] wo [.box bk1 (u64s a) 25, .box bk6 (u64s b) 25, .box bk11 (u64s (nd (nv (nd (nv a % mF 4)) * nv (nd (nv b % mF 4)) % mF 4))) 25, .box bk35 (u64s (nd (mF 4))) 25]) ?_ ?_
 ·
  refine h_s (fun wv => Ev w [] wv [.box bk1 (u64s a) 25, .box bk6 (u64s b) 25, .box bk35 (u64s (nd (mF 4))) 25]) [] 9 ?_
  have wo44 := Hv43.trans (Ev.drew Hv43.heap)
  refine q_s [0] [] 8 En42 (wo44.pk [0, 1, 3]) fun ac286 En287 => ?_
  refine q_r 1 (s := Instr.loadAt 25 (pt bk1)) (v := .agg (List.toArray (u64s a))) En287 (fun w hS => run_loadAgg2 (m := 4) (cs := u64s a) (u64s_lenh ha) (by kernel_rfl) (by kernel_rfl) (hS.heap.cells (k := 0) (off := 0) (m := 4) rfl (load_whole (u64s_lenh ha)))) (wo44.pk [0, 1, 3]) fun ac288 En289 => ?_
  refine q_r 2 (s := Instr.loadAt 25 (pt bk35)) (v := .agg (List.toArray (u64s (nd (mF 4))))) En289 (fun w hS => run_loadAgg2 (m := 4) (cs := u64s (nd (mF 4))) (u64s_lenh (nds_len _ _)) (by kernel_rfl) (by kernel_rfl) (hS.heap.cells (k := 2) (off := 0) (m := 4) rfl (load_whole (u64s_lenh (nds_len _ _))))) (wo44.pk [0, 1, 3]) fun ac290 En291 => ?_
  refine q_r 4 (s := Instr.loadAt 25 (pt bk6)) (v := .agg (List.toArray (u64s b))) En291 (fun w hS => run_loadAgg2 (m := 4) (cs := u64s b) (u64s_lenh hb) (by kernel_rfl) (by kernel_rfl) (hS.heap.cells (k := 1) (off := 0) (m := 4) rfl (load_whole (u64s_lenh hb)))) (wo44.pk [0, 1, 3]) fun ac292 En293 => ?_
  refine q_r 5 (s := Instr.loadAt 25 (pt bk35)) (v := .agg (List.toArray (u64s (nd (mF 4))))) En293 (fun w hS => run_loadAgg2 (m := 4) (cs := u64s (nd (mF 4))) (u64s_lenh (nds_len _ _)) (by kernel_rfl) (by kernel_rfl) (hS.heap.cells (k := 2) (off := 0) (m := 4) rfl (load_whole (u64s_lenh (nds_len _ _))))) (wo44.pk [0, 1, 3]) fun ac294 En295 => ?_
  refine q_t 3 ?_
  refine c_p En295 wo44 (right_mF _ 4 (by decide) a ha) fun ac300 wo297 En301 Hv302 => ?_
  refine ⟨fun _ => Hv302.pk [0, 1, 3], ?_⟩
  refine q_t 6 ?_
  refine c_p En301 Hv302 (right_mF _ 4 (by decide) b hb) fun ac307 wo304 En308 Hv309 => ?_
  refine ⟨fun _ => Hv309.pk [0, 1, 3], ?_⟩
  refine q_t 7 ?_
  refine c_p En308 Hv309 (ring4_go _ (nd (nv a % mF 4)) (nd (nv b % mF 4)) (nds_len _ _) (nds_len _ _) (by rw [nv_nd (mod_lt_w (by decide))]; exact Nat.mod_lt _ (by decide))) fun ac314 wo311 En315 Hv316 => ?_
  refine ⟨fun _ => Hv316.pk [0, 1, 3], ?_⟩
  refine q_t 8 ?_
  refine m_g 2 0 4 (u64s (nd (nv (nd (nv a % mF 4)) * nv (nd (nv b % mF 4)) % mF 4))) (u64s (nd (nv (nd (nv a % mF 4)) * nv (nd (nv b % mF 4)) % mF 4))) [.box bk1 (u64s a) 25, .box bk6 (u64s b) 25, .box bk11 (u64s (nd (nv (nd (nv a % mF 4)) * nv (nd (nv b % mF 4)) % mF 4))) 25, .box bk35 (u64s (nd (mF 4))) 25] En315 Hv316 rfl (u64s_lenh (nds_len _ _)) (by rw [(u64s_lenh (List.length_replicate))]; decide) (u64s_one _) (store_whole (u64s_lenh (List.length_replicate))) rfl fun ac317 wo318 En319 Hv320 => ?_
  refine ⟨fun _ => Hv320.pk [0, 1, 3], ?_⟩
  exact h_e ⟨En319.sb, Hv320.pk [0, 1, 2, 3]⟩
 rintro ac321 wo322 ⟨En323, Hv324⟩
 refine then_normal ?_
 refine wp_ret ?_
 refine block_ret ?_
 refine then_ret ?_
 refine d_cell1 (v := .agg (List.toArray (u64s (nd (nv (nd (nv a % mF 4)) * nv (nd (nv b % mF 4)) % mF 4))))) (t := 6) (T := 25) (ad := ⟨bk11, 0, none⟩) En323 (by kernel_rfl) (by kernel_rfl) (Ev.cellAgg (t := 25) (k := 2) (off := 0) (m := 4) (xs := u64s (nd (nv (nd (nv a % mF 4)) * nv (nd (nv b % mF 4)) % mF 4))) Hv324 rfl (load_whole (u64s_lenh (nds_len _ _))) (u64s_lenh (nds_len _ _)) (by kernel_rfl) (by kernel_rfl)) ?_
 have e : nd (nv (nd (nv a % mF 4)) * nv (nd (nv b % mF 4)) % mF 4) = nd (mulM 4 (nv a) (nv b)) := mulr4 _ _
 exact ⟨congrArg (fun l : List UInt64 => Ending.returned (Value.agg (u64s l).toArray)) e, Hv324.pk []⟩

theorem hM4 : MulOk 4 := mul4_go
end Go.Proofs.Ytamdjonejijndaa
