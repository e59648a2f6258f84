/- Layer 4: the laws of a field. -/
import Derived.Test.YtamdjonejijndaaF15
import Derived.Test.YtamdjonejijndaaPrm
namespace Go.Proofs.Ytamdjonejijndaa
open Go.Dbr
set_option maxRecDepth 100000
set_option maxHeartbeats 2000000
set_option linter.unusedVariables false
set_option linter.unusedSimpArgs false

theorem lucF {f : Int} (hf : f = 1 ∨ f = 2 ∨ f = 3 ∨ f = 4) : Luc (mF f) := by
  rcases hf with rfl | rfl | rfl | rfl
  · exact lu_57896044618658097711785492504343953926634992332820282019728792003956564819949
  · exact lu_115792089210356248762697446949407573530086143415290314195533631308867097853951
  · exact lu_115792089210356248762697446949407573529996955224135760342422259061068512044369
  · exact lu_7237005577332262213973186563042994240857116359379907606001950938285454250989
theorem mpos {f : Int} (hf : f = 1 ∨ f = 2 ∨ f = 3 ∨ f = 4) : 0 < mF f := Nat.lt_trans Nat.zero_lt_one (mF_pos hf)
theorem mulM_ltM {f : Int} (hf : f = 1 ∨ f = 2 ∨ f = 3 ∨ f = 4) (x y : Nat) : mulM f x y < mF f := Nat.mod_lt _ (mpos hf)
theorem powM_ltM {f : Int} (hf : f = 1 ∨ f = 2 ∨ f = 3 ∨ f = 4) (x y : Nat) : powM f x y < mF f := Nat.mod_lt _ (mpos hf)
theorem nv_add {f : Int} (hf : f = 1 ∨ f = 2 ∨ f = 3 ∨ f = 4) (x y : Nat) : nv (nd (addM f x y)) = addM f x y := nv_nd (addM_lt hf x y)
theorem nv_sub {f : Int} (hf : f = 1 ∨ f = 2 ∨ f = 3 ∨ f = 4) (x y : Nat) : nv (nd (subM f x y)) = subM f x y := nv_nd (subM_lt hf x y)
theorem nv_mul {f : Int} (hf : f = 1 ∨ f = 2 ∨ f = 3 ∨ f = 4) (x y : Nat) : nv (nd (mulM f x y)) = mulM f x y := nv_nd (mulM_lt hf x y)
theorem addM_comm (f : Int) (x y : Nat) : addM f x y = addM f y x := by rw [addM, addM, Nat.add_comm]
theorem mulM_comm (f : Int) (x y : Nat) : mulM f x y = mulM f y x := by rw [mulM, mulM, Nat.mul_comm]
theorem addM_assoc (f : Int) (x y z : Nat) : addM f (addM f x y) z = addM f x (addM f y z) := by
  simp only [addM, Nat.mod_add_mod, Nat.add_mod_mod, Nat.add_assoc]
theorem mulM_assoc (f : Int) (x y z : Nat) : mulM f (mulM f x y) z = mulM f x (mulM f y z) := by
  simp only [mulM, Nat.mod_mul_mod, Nat.mul_mod_mod, Nat.mul_assoc]
theorem mulM_dist (f : Int) (x y z : Nat) : mulM f (addM f x y) z = addM f (mulM f x z) (mulM f y z) := by
  simp only [mulM, addM, Nat.mod_mul_mod, Nat.add_mul, ← Nat.add_mod]
theorem mulM_one (f : Int) (x : Nat) : mulM f x 1 = x % mF f := by rw [mulM, Nat.mul_one]
theorem sub_add {f : Int} (hf : f = 1 ∨ f = 2 ∨ f = 3 ∨ f = 4) (x y : Nat) : subM f (addM f x y) y = mulM f x 1 := by
  rw [mulM_one, subM, addM, Nat.mod_mod]
  have h := mpos hf
  generalize mF f = M at *
  have hy := Nat.mod_lt y h
  have e : (x + y) % M = (x % M + y % M) % M := Nat.add_mod _ _ _
  rw [e]
  have hx := Nat.mod_lt x h
  generalize x % M = p at *
  generalize y % M = q at *
  rcases Nat.lt_or_ge (p + q) M with g | g
  · rw [Nat.mod_eq_of_lt g, show p + q + M - q = p + M by omega, Nat.add_mod_right, Nat.mod_eq_of_lt hx]
  · rw [Nat.mod_eq_sub_mod g, Nat.mod_eq_of_lt (a := p + q - M) (by omega), show p + q - M + M - q = p by omega, Nat.mod_eq_of_lt hx]
theorem fermat {f : Int} (hf : f = 1 ∨ f = 2 ∨ f = 3 ∨ f = 4) {x : Nat} (h : x % mF f ≠ 0) : powM f x (mF f - 1) = 1 := (lucF hf).2 x h
theorem pow_0 {f : Int} {x n : Nat} (h : x % mF f = 0) (hn : n ≠ 0) : powM f x n = 0 := by
  obtain ⟨k, rfl⟩ : ∃ k, n = k + 1 := ⟨n - 1, by omega⟩
  rw [powM, Nat.pow_succ, Nat.mul_mod, h, Nat.mul_zero, Nat.zero_mod]
theorem mul_0 {f : Int} {x y : Nat} (h : x % mF f = 0) : mulM f x y = 0 := by rw [mulM, Nat.mul_mod, h, Nat.zero_mul, Nat.zero_mod]
theorem powM_lsucc (f : Int) (x n : Nat) : mulM f x (powM f x n) = powM f x (n + 1) := by rw [mulM_comm, powM_succ]
theorem inv_yes {f : Int} (hf : f = 1 ∨ f = 2 ∨ f = 3 ∨ f = 4) {x : Nat} (h : x % mF f ≠ 0) : mulM f x (powM f x (mF f - 2)) = 1 := by
  have h1 := mF_pos hf
  rw [powM_lsucc, show mF f - 2 + 1 = mF f - 1 by omega, fermat hf h]
theorem powM_pw {f : Int} (x : Nat) {n : Nat} (h : n < 2 ^ 256) : powM f x n = pw (mF f) 256 x n := (pw_eq 256 x n h).symm
theorem zero4 : ([0, 0, 0, 0] : List UInt64) = nd 0 := rfl
theorem one4 : ([1, 0, 0, 0] : List UInt64) = nd 1 := rfl
/-- squares have roots -/
theorem powM_sq (f : Int) (x n : Nat) : powM f (mulM f x x) n = powM f x (2 * n) := by
  rw [powM, mulM, ← Nat.pow_mod, ← Nat.pow_two, ← Nat.pow_mul, powM]
theorem pow_M1 {f : Int} (hf : f = 1 ∨ f = 2 ∨ f = 3 ∨ f = 4) (x : Nat) : powM f x (mF f + 1) = mulM f x x := by
  have h1 := mF_pos hf
  by_cases h : x % mF f = 0
  · rw [pow_0 h (by omega), mul_0 h]
  · have e : powM f x (mF f + 1) = mulM f (powM f x (mF f - 1)) (powM f x 2) := by rw [powM_add]; congr 1; omega
    rw [e, fermat hf h, mulM, Nat.one_mul, powM, Nat.mod_mod, Nat.pow_two, mulM]
theorem mod_M (f : Int) (x y : Nat) : mulM f x y % mF f = mulM f x y := Nat.mod_mod _ _
theorem sq_two (x : Nat) : mulM 2 (rs 2 (mulM 2 x x)) (rs 2 (mulM 2 x x)) = mulM 2 x x := by
  rw [rs, if_pos (.inl rfl), rq, if_pos rfl, powM_add, powM_sq, show 2 * ((mF 2 + 1) / 4 + (mF 2 + 1) / 4) = mF 2 + 1 by decide +kernel, pow_M1 h2f]
theorem ri_sq : mulM 1 ri ri = mF 1 - 1 := by
  rw [ri, powM_add, powM_pw 2 (by decide +kernel)]
  decide +kernel
theorem pr_mod {p a b : Nat} (hp : Pr p) (h : a * b % p = 0) : a % p = 0 ∨ b % p = 0 := by
  rcases hp.mul (Nat.dvd_of_mod_eq_zero h) with g | g
  · exact .inl (Nat.mod_eq_zero_of_dvd g)
  · exact .inr (Nat.mod_eq_zero_of_dvd g)
theorem sq_one {u M : Nat} (hp : Pr M) (hu : u < M) (h : u * u % M = 1) : u = 1 ∨ u = M - 1 := by
  have hM := hp.1
  have hu0 : u ≠ 0 := fun e => by subst e; rw [Nat.mul_zero, Nat.zero_mod] at h; cases h
  have e : (u + 1) * (u - 1) % M = 0 := by
    have e1 : (u + 1) * (u - 1) + 1 = u * u := by
      obtain ⟨k, rfl⟩ : ∃ k, u = k + 1 := ⟨u - 1, by omega⟩
      rw [Nat.add_sub_cancel, Nat.add_mul, Nat.mul_add]
      omega
    have e2 := Nat.div_add_mod (u * u) M
    rw [h] at e2
    have : (u + 1) * (u - 1) = M * (u * u / M) := by omega
    rw [this, Nat.mul_mod_right]
  rcases pr_mod hp e with g | g
  · right
    rcases Nat.lt_or_ge (u + 1) M with q | q
    · rw [Nat.mod_eq_of_lt q] at g; omega
    · omega
  · left
    rw [Nat.mod_eq_of_lt (by omega)] at g
    omega
theorem mul4 (f : Int) (a b : Nat) : mulM f (mulM f a b) (mulM f a b) = mulM f (mulM f a a) (mulM f b b) := by
  simp only [mulM, Nat.mod_mul_mod, Nat.mul_mod_mod]
  rw [Nat.mul_mul_mul_comm]
theorem sq_onef (x : Nat) : mulM 1 (rs 1 (mulM 1 x x)) (rs 1 (mulM 1 x x)) = mulM 1 x x := by
  rw [rs]
  by_cases c : mulM 1 (rq 1 (mulM 1 x x)) (rq 1 (mulM 1 x x)) = mulM 1 (mulM 1 x x) 1
  · rw [if_pos (.inr c), c, mulM_one, mod_M]
  · rw [if_neg (fun q => q.elim (by decide) c)]
    have hr : mulM 1 (rq 1 (mulM 1 x x)) (rq 1 (mulM 1 x x)) = mulM 1 (powM 1 x ((mF 1 - 1) / 2)) (mulM 1 x x) := by
      have e2 : mulM 1 x x = powM 1 x 2 := by rw [powM, Nat.pow_two, mulM]
      rw [rq, if_neg (by decide), powM_add, powM_sq, e2, powM_add]
      congr 1
    have hx : x % mF 1 ≠ 0 := fun h => c (by rw [hr, mulM_one, mod_M, mul_0 h, mulM, Nat.mul_zero, Nat.zero_mod])
    have hu : mulM 1 (powM 1 x ((mF 1 - 1) / 2)) (powM 1 x ((mF 1 - 1) / 2)) = 1 := by
      rw [powM_add, show (mF 1 - 1) / 2 + (mF 1 - 1) / 2 = mF 1 - 1 by decide +kernel, fermat h1f hx]
    rcases sq_one (lucF h1f).1 (powM_ltM h1f _ _) hu with g | g
    · exact absurd (by rw [hr, g, mulM_one, mod_M, mulM, Nat.one_mul, mod_M]) c
    · rw [mul4, hr, g, ri_sq, mulM_comm 1 (mF 1 - 1) (mulM 1 x x), mulM_assoc, show mulM 1 (mF 1 - 1) (mF 1 - 1) = 1 by decide +kernel, mulM_one, mod_M]
theorem neg_sq {f : Int} {r : Nat} (hr : r < mF f) (h0 : r ≠ 0) : subM f 0 r = mF f - r ∧ mulM f (mF f - r) (mF f - r) = mulM f r r := by
  have e : subM f 0 r = mF f - r := by rw [subM, Nat.zero_mod, Nat.zero_add, Nat.mod_eq_of_lt hr, Nat.mod_eq_of_lt (by omega)]
  refine ⟨e, ?_⟩
  rw [mulM, mulM]
  obtain ⟨s, hs⟩ : ∃ s, mF f - r = s := ⟨_, rfl⟩
  rw [hs]
  have e2 : s * s + mF f * r = r * r + mF f * s := by
    rw [show mF f = s + r by omega, Nat.add_mul, Nat.add_mul]
    have := Nat.mul_comm s r
    omega
  have e3 := congrArg (· % mF f) e2
  simp only [Nat.add_mul_mod_self_left] at e3
  exact e3
theorem odd_M {f : Int} (hf : f = 1 ∨ f = 2 ∨ f = 3 ∨ f = 4) : mF f % 2 = 1 := by rcases hf with rfl | rfl | rfl | rfl <;> rfl
theorem rs_ltM {f : Int} (hf : f = 1 ∨ f = 2 ∨ f = 3 ∨ f = 4) (A : Nat) : rs f A < mF f := by
  unfold rs
  split
  · exact powM_ltM hf _ _
  · exact mulM_ltM hf _ _
theorem sq_law {f : Int} (h12 : f = 1 ∨ f = 2) (x : Nat) : rootOk f (mulM f x x) = true ∧ mulM f (rootN f (mulM f x x)) (rootN f (mulM f x x)) = mulM f x x ∧ rootN f (mulM f x x) % 2 = 0 := by
  have hs : mulM f (rs f (mulM f x x)) (rs f (mulM f x x)) = mulM f x x := by
    rcases h12 with rfl | rfl
    · exact sq_onef x
    · exact sq_two x
  have ok : rootOk f (mulM f x x) = true := decide_eq_true ⟨h12, by rw [hs, mulM_one, mod_M]⟩
  have hl := rs_ltM (f := f) (by omega) (mulM f x x)
  have ho := odd_M (f := f) (by omega)
  refine ⟨ok, ?_⟩
  rw [rootN, if_pos ok]
  split
  · have hn := neg_sq hl (by omega)
    rw [hn.1, hn.2, hs]
    exact ⟨rfl, by omega⟩
  · exact ⟨hs, by omega⟩

end Go.Proofs.Ytamdjonejijndaa
