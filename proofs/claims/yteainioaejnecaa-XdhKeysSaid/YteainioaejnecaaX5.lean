/- Layer 11: points of low order; XdhKeys. -/
import Derived.Test.YteainioaejnecaaX4
namespace Go.Proofs.Yteainioaejnecaa
open Go.Dbr
set_option maxRecDepth 100000
set_option maxHeartbeats 2000000
set_option linter.unusedVariables false
set_option linter.unusedSimpArgs false

theorem nA_eq (a : Nat) : nA a a = 0 := by rw [nA, sN_self, mN_0, mN_0]
theorem nB_r (a : Nat) : nB a 0 = 0 := by rw [nB, aN_0, sN_0, sN_self, mN_0']
theorem nB_l (b : Nat) : nB 0 b = 0 := by rw [nB, aN_0', neg_sq, sN_self, mN_0']
theorem one_mN (x y : Nat) : mN 1 (mN x y) = mN x y := by rw [mN, Nat.one_mul, mN, Nat.mod_mod]
theorem nCD (a b c : Nat) : nC a b c c = nD 1 a b c c := by rw [nC, nD, sN_self, mN_0', aN_0', neg_sq, one_mN]
theorem nCD' (a c d : Nat) : nC a a c d = nD 1 a a c d := by rw [nC, nD, sN_self, mN_0, aN_0, sN_0, one_mN]
theorem nD_0 (a b c d : Nat) : nD 0 a b c d = 0 := by rw [nD, mN_0']
/-- where the two are, of a point of order 4 -/
def cls (n : Nat) : N4 → Prop
  | (a, b, c, d) => (n % 4 = 0 → b = 0 ∧ c = d) ∧ (n % 4 = 1 → a = b ∧ c = 0) ∧ (n % 4 = 2 → a = 0 ∧ c = d) ∧ (n % 4 = 3 → a = b ∧ d = 0)
theorem cls_no {n m : Nat} (h : m = 2 * n) {s : N4} (hs : cls n s) : cls m (nstep 1 false s) := by
  obtain ⟨a, b, c, d⟩ := s
  obtain ⟨h0, h1, h2, h3⟩ := hs
  have hn : n % 4 = 0 ∨ n % 4 = 1 ∨ n % 4 = 2 ∨ n % 4 = 3 := by omega
  show (m % 4 = 0 → nB a b = 0 ∧ nC a b c d = nD 1 a b c d) ∧ (m % 4 = 1 → nA a b = nB a b ∧ nC a b c d = 0) ∧ (m % 4 = 2 → nA a b = 0 ∧ nC a b c d = nD 1 a b c d) ∧ (m % 4 = 3 → nA a b = nB a b ∧ nD 1 a b c d = 0)
  refine ⟨fun hm => ?_, fun hm => by omega, fun hm => ?_, fun hm => by omega⟩
  · rcases hn with e | e | e | e
    · obtain ⟨rfl, rfl⟩ := h0 e; exact ⟨nB_r a, nCD _ _ _⟩
    · omega
    · obtain ⟨rfl, rfl⟩ := h2 e; exact ⟨nB_l b, nCD _ _ _⟩
    · omega
  · rcases hn with e | e | e | e
    · omega
    · obtain ⟨rfl, rfl⟩ := h1 e; exact ⟨nA_eq a, nCD' _ _ _⟩
    · omega
    · obtain ⟨rfl, rfl⟩ := h3 e; exact ⟨nA_eq a, nCD' _ _ _⟩
theorem cls_yes {n m : Nat} (h : m = 2 * n + 1) {s : N4} (hs : cls n s) : cls m (nstep 1 true s) := by
  obtain ⟨a, b, c, d⟩ := s
  obtain ⟨h0, h1, h2, h3⟩ := hs
  have hn : n % 4 = 0 ∨ n % 4 = 1 ∨ n % 4 = 2 ∨ n % 4 = 3 := by omega
  show (m % 4 = 0 → nD 1 c d a b = 0 ∧ nA c d = nB c d) ∧ (m % 4 = 1 → nC c d a b = nD 1 c d a b ∧ nA c d = 0) ∧ (m % 4 = 2 → nC c d a b = 0 ∧ nA c d = nB c d) ∧ (m % 4 = 3 → nC c d a b = nD 1 c d a b ∧ nB c d = 0)
  refine ⟨fun hm => by omega, fun hm => ?_, fun hm => by omega, fun hm => ?_⟩
  · rcases hn with e | e | e | e
    · obtain ⟨rfl, rfl⟩ := h0 e; exact ⟨nCD' _ _ _, nA_eq _⟩
    · omega
    · obtain ⟨rfl, rfl⟩ := h2 e; exact ⟨nCD' _ _ _, nA_eq _⟩
    · omega
  · rcases hn with e | e | e | e
    · omega
    · obtain ⟨rfl, rfl⟩ := h1 e; exact ⟨nCD _ _ _, nB_l _⟩
    · omega
    · obtain ⟨rfl, rfl⟩ := h3 e; exact ⟨nCD _ _ _, nB_r _⟩
theorem cls_lad {n : Nat} (hn : n < 2 ^ 255) : ∀ j, j ≤ 255 → cls (n / 2 ^ (255 - j)) (ladN 1 n j)
  | 0, _ => by
    rw [Nat.sub_zero, Nat.div_eq_of_lt hn]
    exact ⟨fun _ => ⟨rfl, rfl⟩, fun h => absurd h (by decide), fun h => absurd h (by decide), fun h => absurd h (by decide)⟩
  | j + 1, h => by
    have ih := cls_lad hn j (by omega)
    have e := half_step n (i := 255 - j) (by omega)
    rw [show 255 - j - 1 = 254 - j by omega] at e
    rw [show 255 - (j + 1) = 254 - j by omega, ladN]
    by_cases hb : n / 2 ^ (254 - j) % 2 = 0
    · rw [hb] at e
      rw [hb]
      exact cls_no e ih
    · have hb1 : n / 2 ^ (254 - j) % 2 = 1 := by omega
      rw [hb1] at e
      rw [hb1]
      exact cls_yes e ih
def z0 : N4 → Prop
  | (_, b, _, d) => b = 0 ∧ d = 0
theorem z0_step (t : Bool) {s : N4} (h : z0 s) : z0 (nstep 0 t s) := by
  obtain ⟨a, b, c, d⟩ := s
  obtain ⟨rfl, rfl⟩ := h
  cases t
  · exact ⟨nB_r a, nD_0 _ _ _ _⟩
  · exact ⟨nD_0 _ _ _ _, nB_r c⟩
theorem z0_lad (n : Nat) : ∀ j, z0 (ladN 0 n (j + 1))
  | 0 => by
    rw [ladN]
    generalize (n / 2 ^ (254 - 0) % 2 == 1) = t
    cases t
    · exact ⟨nB_r 1, nD_0 _ _ _ _⟩
    · exact ⟨nD_0 _ _ _ _, nB_l 1⟩
  | j + 1 => by
    rw [ladN]
    exact z0_step _ (z0_lad n j)
theorem powM_0 (f : Int) {e : Nat} (h : 0 < e) : powM f 0 e = 0 := by rw [powM, Nat.zero_pow h, Nat.zero_mod]
theorem none_of {x : List UInt64} {n : Nat} (h : (ladN (nv x) n 255).2.1 = 0) : multL x n = ([0, 0, 0, 0, 0, 0, 0, 0, 0, 0, 0, 0, 0, 0, 0, 0, 0, 0, 0, 0, 0, 0, 0, 0, 0, 0, 0, 0, 0, 0, 0, 0] : List UInt8) := by
  rw [← lad_val] at h
  rw [multL]
  generalize ladL x n 255 = s at *
  obtain ⟨a, b, c, d⟩ := s
  replace h : nv b = 0 := h
  show lb 32 (nv (mL a (iL b))) = _
  rw [mL_val, iL, nv_pow (.inl rfl), h, powM_0 1 (by decide), mN_0]
  decide
theorem clP_4 {k : List UInt8} (hk : k.length = 32) : lv (clP k) % 4 = 0 := by
  have h := lv_dig (clP k) 0
  rw [Nat.pow_zero, Nat.div_one, clP, getD8_ne _ _ (by decide), getD_set_self (by omega), UInt8.toNat_and] at h
  have e := Nat.and_mod_two_pow (a := (List.getD k 0 0).toNat) (b := (248 : UInt8).toNat) (n := 2)
  rw [show (248 : UInt8).toNat % 2 ^ 2 = 0 by decide, Nat.and_zero] at e
  rw [← clP] at h
  omega
theorem clP_255 {k : List UInt8} (hk : k.length = 32) : lv (clP k) < 2 ^ 255 := by
  have hl := clP_len hk
  have h := lv_take_succ (clP k) 31 (by omega)
  rw [List.take_of_length_le (by omega)] at h
  have h1 := lv_lt (List.take 31 (clP k))
  rw [List.length_take, hl, Nat.min_eq_left (by decide)] at h1
  have h2 : (List.getD (clP k) 31 0).toNat < 128 := by
    rw [clP, getD_set_self (by simp; omega), UInt8.toNat_or, UInt8.toNat_and]
    exact Nat.or_lt_two_pow (n := 7) (Nat.lt_of_le_of_lt (Nat.and_le_right) (by decide)) (by decide)
  have h3 : (List.getD (clP k) 31 0).toNat * 256 ^ 31 ≤ 127 * 256 ^ 31 := Nat.mul_le_mul_right _ (by omega)
  have h4 : 256 ^ 31 + 127 * 256 ^ 31 = 2 ^ 255 := by decide
  omega
theorem low_0 (k : List UInt8) : multL (xP ([0, 0, 0, 0, 0, 0, 0, 0, 0, 0, 0, 0, 0, 0, 0, 0, 0, 0, 0, 0, 0, 0, 0, 0, 0, 0, 0, 0, 0, 0, 0, 0] : List UInt8)) (lv (clP k)) = ([0, 0, 0, 0, 0, 0, 0, 0, 0, 0, 0, 0, 0, 0, 0, 0, 0, 0, 0, 0, 0, 0, 0, 0, 0, 0, 0, 0, 0, 0, 0, 0] : List UInt8) := none_of (by
  rw [show nv (xP ([0, 0, 0, 0, 0, 0, 0, 0, 0, 0, 0, 0, 0, 0, 0, 0, 0, 0, 0, 0, 0, 0, 0, 0, 0, 0, 0, 0, 0, 0, 0, 0] : List UInt8)) = 0 by decide +kernel]
  exact (z0_lad _ 254).1)
theorem low_1 {k : List UInt8} (hk : k.length = 32) : multL (xP ([1, 0, 0, 0, 0, 0, 0, 0, 0, 0, 0, 0, 0, 0, 0, 0, 0, 0, 0, 0, 0, 0, 0, 0, 0, 0, 0, 0, 0, 0, 0, 0] : List UInt8)) (lv (clP k)) = ([0, 0, 0, 0, 0, 0, 0, 0, 0, 0, 0, 0, 0, 0, 0, 0, 0, 0, 0, 0, 0, 0, 0, 0, 0, 0, 0, 0, 0, 0, 0, 0] : List UInt8) := none_of (by
  rw [show nv (xP ([1, 0, 0, 0, 0, 0, 0, 0, 0, 0, 0, 0, 0, 0, 0, 0, 0, 0, 0, 0, 0, 0, 0, 0, 0, 0, 0, 0, 0, 0, 0, 0] : List UInt8)) = 1 by decide +kernel]
  have h := cls_lad (clP_255 hk) 255 (Nat.le_refl _)
  rw [Nat.sub_self, Nat.pow_zero, Nat.div_one] at h
  exact (h.1 (clP_4 hk)).1)

theorem keys_walk (k : List UInt8) (u : List UInt8) (w : World) (n_k : (List.length k = 32)) (n_u : (List.length u = 32)) : Calls Try.prog 6 #[.agg (List.toArray (bys k)), .agg (List.toArray (bys u))] w fun e w' => e = .returned (.bool true) ∧ Ev w [] w' [] := by
 refine d_0 [(0, .agg (List.toArray (bys k))), (1, .agg (List.toArray (bys u)))] 65 Go.Proofs.Try.func6 Go.Proofs.Try.ntmps6 (Heap.nil _) fun act0 En0 Hv0 => ?_
 refine wp_seq ?_
 refine region_from ?_
 refine f_o ?_
 refine m_m 22 (bys k) En0 Hv0 fun ac2 wo3 bk1 En4 Hv5 => ?_
 refine f_o ?_
 refine m_m 22 (bys u) En4 Hv5 fun ac7 wo8 bk6 En9 Hv10 => ?_
 refine d_e [2,3,4] [] En9 fun ac11 En12 => ?_
 refine then_normal ?_
 refine wp_seq ?_
 refine region_from ?_
 refine f_o ?_
 refine c_p En12 Hv10 (head_ok _) fun ac17 wo14 En18 Hv19 => ?_
 refine d_e [2,3,4,5] [] En18 fun ac20 En21 => ?_
 refine then_normal ?_
 refine wp_seq ?_
 refine region_from ?_
 refine f_o ?_
 refine m_a 0 0 32 (bys k) En21 Hv19 rfl (load_whole (bys_lenh n_k)) (bys_lenh n_k) fun ac22 En23 => ?_
 refine f_o ?_
 refine m_a 1 0 32 (bys u) En23 Hv19 rfl (load_whole (bys_lenh n_u)) (bys_lenh n_u) fun ac24 En25 => ?_
 refine f_o ?_
 refine c_p En25 Hv19 (shared_go _ k u n_k n_u) fun ac30 wo27 En31 Hv32 => ?_
 refine d_k [2,3,4,5,19,20] [] 6 En31 fun ac33 En34 => ?_
 refine f_o ?_
 refine m_z 22 (bys (List.replicate 32 0)) En34 Hv32 fun ac36 wo37 bk35 En38 Hv39 => ?_
 refine f_o ?_
 refine m_g 2 0 32 (bys (multL (xP u) (lv (clP k)))) (bys (multL (xP u) (lv (clP k)))) [.box bk1 (bys k) 22, .box bk6 (bys u) 22, .box bk35 (bys (multL (xP u) (lv (clP k)))) 22] En38 Hv39 rfl (bys_lenh (multL_len _ _)) (by rw [(bys_lenh (List.length_replicate))]; decide) (bys_one _) (store_whole (bys_lenh (List.length_replicate))) rfl fun ac40 wo41 En42 Hv43 => ?_
 refine d_e [2,3,4,5,6,7] [] En42 fun ac44 En45 => ?_
 refine then_normal ?_
 refine wp_seq ?_
 refine region_from ?_
 refine f_o ?_
 refine m_a 0 0 32 (bys k) En45 Hv43 rfl (load_whole (bys_lenh n_k)) (bys_lenh n_k) fun ac46 En47 => ?_
 refine f_o ?_
 refine m_a 1 0 32 (bys u) En47 Hv43 rfl (load_whole (bys_lenh n_u)) (bys_lenh n_u) fun ac48 En49 => ?_
 refine f_o ?_
 refine c_p En49 Hv43 (rshared_go _ k u n_k n_u) fun ac54 wo51 En55 Hv56 => ?_
 refine d_k [2,3,4,5,6,7,25,26] [] 6 En55 fun ac57 En58 => ?_
 refine f_o ?_
 refine m_z 22 (bys (List.replicate 32 0)) En58 Hv56 fun ac60 wo61 bk59 En62 Hv63 => ?_
 refine f_o ?_
 refine m_g 3 0 32 (bys (multL (xP u) (lv (clP k)))) (bys (multL (xP u) (lv (clP k)))) [.box bk1 (bys k) 22, .box bk6 (bys u) 22, .box bk35 (bys (multL (xP u) (lv (clP k)))) 22, .box bk59 (bys (multL (xP u) (lv (clP k)))) 22] En62 Hv63 rfl (bys_lenh (multL_len _ _)) (by rw [(bys_lenh (List.length_replicate))]; decide) (bys_one _) (store_whole (bys_lenh (List.length_replicate))) rfl fun ac64 wo65 En66 Hv67 => ?_
 refine d_e [2,3,4,5,6,7,8,9] [] En66 fun ac68 En69 => ?_
 refine then_normal ?_
 refine wp_seq ?_
 refine region_from ?_
 refine f_o ?_
 refine m_a 0 0 32 (bys k) En69 Hv67 rfl (load_whole (bys_lenh n_k)) (bys_lenh n_k) fun ac70 En71 => ?_
 refine d_k [2,3,4,5,6,7,8,9,28,29] [] 2 En71 fun ac72 En73 => ?_
 refine f_o ?_
 refine c_p En73 Hv67 (shared_go _ k ([0, 0, 0, 0, 0, 0, 0, 0, 0, 0, 0, 0, 0, 0, 0, 0, 0, 0, 0, 0, 0, 0, 0, 0, 0, 0, 0, 0, 0, 0, 0, 0] : List UInt8) n_k (show List.length ([0, 0, 0, 0, 0, 0, 0, 0, 0, 0, 0, 0, 0, 0, 0, 0, 0, 0, 0, 0, 0, 0, 0, 0, 0, 0, 0, 0, 0, 0, 0, 0] : List UInt8) = 32 from rfl)) fun ac78 wo75 En79 Hv80 => ?_
 refine d_k [2,3,4,5,6,7,8,9,31,32] [] 6 En79 fun ac81 En82 => ?_
 refine f_o ?_
 refine m_z 22 (bys (List.replicate 32 0)) En82 Hv80 fun ac84 wo85 bk83 En86 Hv87 => ?_
 refine f_o ?_
 refine m_g 4 0 32 (bys (multL (xP ([0, 0, 0, 0, 0, 0, 0, 0, 0, 0, 0, 0, 0, 0, 0, 0, 0, 0, 0, 0, 0, 0, 0, 0, 0, 0, 0, 0, 0, 0, 0, 0] : List UInt8)) (lv (clP k)))) (bys (multL (xP ([0, 0, 0, 0, 0, 0, 0, 0, 0, 0, 0, 0, 0, 0, 0, 0, 0, 0, 0, 0, 0, 0, 0, 0, 0, 0, 0, 0, 0, 0, 0, 0] : List UInt8)) (lv (clP k)))) [.box bk1 (bys k) 22, .box bk6 (bys u) 22, .box bk35 (bys (multL (xP u) (lv (clP k)))) 22, .box bk59 (bys (multL (xP u) (lv (clP k)))) 22, .box bk83 (bys (multL (xP ([0, 0, 0, 0, 0, 0, 0, 0, 0, 0, 0, 0, 0, 0, 0, 0, 0, 0, 0, 0, 0, 0, 0, 0, 0, 0, 0, 0, 0, 0, 0, 0] : List UInt8)) (lv (clP k)))) 22] En86 Hv87 rfl (bys_lenh (multL_len _ _)) (by rw [(bys_lenh (List.length_replicate))]; decide) (bys_one _) (store_whole (bys_lenh (List.length_replicate))) rfl fun ac88 wo89 En90 Hv91 => ?_
 refine d_e [2,3,4,5,6,7,8,9,11] [] En90 fun ac92 En93 => ?_
 refine then_normal ?_
 refine wp_seq ?_
 refine region_from ?_
 refine f_o ?_
 refine m_a 0 0 32 (bys k) En93 Hv91 rfl (load_whole (bys_lenh n_k)) (bys_lenh n_k) fun ac94 En95 => ?_
 refine d_k [2,3,4,5,6,7,8,9,11,34,35] [] 2 En95 fun ac96 En97 => ?_
 refine f_o ?_
 refine c_p En97 Hv91 (shared_go _ k ([1, 0, 0, 0, 0, 0, 0, 0, 0, 0, 0, 0, 0, 0, 0, 0, 0, 0, 0, 0, 0, 0, 0, 0, 0, 0, 0, 0, 0, 0, 0, 0] : List UInt8) n_k (show List.length ([1, 0, 0, 0, 0, 0, 0, 0, 0, 0, 0, 0, 0, 0, 0, 0, 0, 0, 0, 0, 0, 0, 0, 0, 0, 0, 0, 0, 0, 0, 0, 0] : List UInt8) = 32 from rfl)) fun ac102 wo99 En103 Hv104 => ?_
 refine d_k [2,3,4,5,6,7,8,9,11,37,38] [] 6 En103 fun ac105 En106 => ?_
 refine f_o ?_
 refine m_z 22 (bys (List.replicate 32 0)) En106 Hv104 fun ac108 wo109 bk107 En110 Hv111 => ?_
 refine f_o ?_
 refine m_g 5 0 32 (bys (multL (xP ([1, 0, 0, 0, 0, 0, 0, 0, 0, 0, 0, 0, 0, 0, 0, 0, 0, 0, 0, 0, 0, 0, 0, 0, 0, 0, 0, 0, 0, 0, 0, 0] : List UInt8)) (lv (clP k)))) (bys (multL (xP ([1, 0, 0, 0, 0, 0, 0, 0, 0, 0, 0, 0, 0, 0, 0, 0, 0, 0, 0, 0, 0, 0, 0, 0, 0, 0, 0, 0, 0, 0, 0, 0] : List UInt8)) (lv (clP k)))) [.box bk1 (bys k) 22, .box bk6 (bys u) 22, .box bk35 (bys (multL (xP u) (lv (clP k)))) 22, .box bk59 (bys (multL (xP u) (lv (clP k)))) 22, .box bk83 (bys (multL (xP ([0, 0, 0, 0, 0, 0, 0, 0, 0, 0, 0, 0, 0, 0, 0, 0, 0, 0, 0, 0, 0, 0, 0, 0, 0, 0, 0, 0, 0, 0, 0, 0] : List UInt8)) (lv (clP k)))) 22, .box bk107 (bys (multL (xP ([1, 0, 0, 0, 0, 0, 0, 0, 0, 0, 0, 0, 0, 0, 0, 0, 0, 0, 0, 0, 0, 0, 0, 0, 0, 0, 0, 0, 0, 0, 0, 0] : List UInt8)) (lv (clP k)))) 22] En110 Hv111 rfl (bys_lenh (multL_len _ _)) (by rw [(bys_lenh (List.length_replicate))]; decide) (bys_one _) (store_whole (bys_lenh (List.length_replicate))) rfl fun ac112 wo113 En114 Hv115 => ?_
 refine d_e [2,3,4,5,6,7,8,9,11,13] [] En114 fun ac116 En117 => ?_
 refine then_normal ?_
 refine wp_seq ?_
 refine r_c (fun ac wo => Env ac 65 [(2, pt bk1), (3, pt bk6), (4, .bool true), (6, pt bk35), (8, pt bk59)] ∧ Ev w [] wo [.box bk1 (bys k) 22, .box bk6 (bys u) 22, .box bk35 (bys (multL (xP u) (lv (clP k)))) 22, .box bk59 (bys (multL (xP u) (lv (clP k)))) 22]) ?_ ?_
 ·
  refine h_s (fun wv => Ev w [] wv [.box bk1 (bys k) 22, .box bk35 (bys (multL (xP u) (lv (clP k)))) 22, .box bk59 (bys (multL (xP u) (lv (clP k)))) 22]) [] 27 ?_
  have wo118 := Hv115.trans (Ev.drew Hv115.heap)
  refine q_s [0,1] [] 25 En117 (wo118.pk [0, 2, 3]) fun ac237 En238 => ?_
  refine q_r 2 (s := Instr.loadAt 22 (pt bk35)) (v := .agg (List.toArray (bys (multL (xP u) (lv (clP k)))))) En238 (fun w hS => run_loadAgg2 (m := 32) (cs := bys (multL (xP u) (lv (clP k)))) (bys_lenh (multL_len _ _)) (by kernel_rfl) (by kernel_rfl) (hS.heap.cells (k := 1) (off := 0) (m := 32) rfl (load_whole (bys_lenh (multL_len _ _))))) (wo118.pk [0, 2, 3]) fun ac239 En240 => ?_
  refine q_r 3 (s := Instr.loadAt 22 (pt bk59)) (v := .agg (List.toArray (bys (multL (xP u) (lv (clP k)))))) En240 (fun w hS => run_loadAgg2 (m := 32) (cs := bys (multL (xP u) (lv (clP k)))) (bys_lenh (multL_len _ _)) (by kernel_rfl) (by kernel_rfl) (hS.heap.cells (k := 2) (off := 0) (m := 32) rfl (load_whole (bys_lenh (multL_len _ _))))) (wo118.pk [0, 2, 3]) fun ac241 En242 => ?_
  refine q_f 4 (s := eqOp .eql 22 (.tmp 41) (.tmp 42) (.agg (List.toArray (bys (multL (xP u) (lv (clP k)))))) (.agg (List.toArray (bys (multL (xP u) (lv (clP k))))))) (v := .bool true) En242 (fun _ => Go.Dbr.run_is (fun w => Go.Dbr.bys_eqop (a := (.tmp 41)) (b := (.tmp 42)) (e := 5) (m := 32) (by kernel_rfl) (by kernel_rfl) (by kernel_rfl) (by kernel_rfl) (by kernel_rfl) (multL_len _ _) (multL_len _ _) w) (beq_self_eq_true _) _) (fun _ => wo118.pk [0, 2, 3]) fun ac243 En244 => ?_
  refine q_s [5,6,7,8,9,10,11,12,13,14,15,16,17,18,19] [(9, g_b (show ((!(multL (xP u) (lv (clP k)) == ([0, 0, 0, 0, 0, 0, 0, 0, 0, 0, 0, 0, 0, 0, 0, 0, 0, 0, 0, 0, 0, 0, 0, 0, 0, 0, 0, 0, 0, 0, 0, 0] : List UInt8))) == (!(multL (xP u) (lv (clP k)) == ([0, 0, 0, 0, 0, 0, 0, 0, 0, 0, 0, 0, 0, 0, 0, 0, 0, 0, 0, 0, 0, 0, 0, 0, 0, 0, 0, 0, 0, 0, 0, 0] : List UInt8)))) = true from (beq_self_eq_true _))), (13, g_b (show (!(!(multL (xP ([0, 0, 0, 0, 0, 0, 0, 0, 0, 0, 0, 0, 0, 0, 0, 0, 0, 0, 0, 0, 0, 0, 0, 0, 0, 0, 0, 0, 0, 0, 0, 0] : List UInt8)) (lv (clP k)) == ([0, 0, 0, 0, 0, 0, 0, 0, 0, 0, 0, 0, 0, 0, 0, 0, 0, 0, 0, 0, 0, 0, 0, 0, 0, 0, 0, 0, 0, 0, 0, 0] : List UInt8)))) = true from (by rw [low_0]; rfl))), (17, g_b (show (!(!(multL (xP ([1, 0, 0, 0, 0, 0, 0, 0, 0, 0, 0, 0, 0, 0, 0, 0, 0, 0, 0, 0, 0, 0, 0, 0, 0, 0, 0, 0, 0, 0, 0, 0] : List UInt8)) (lv (clP k)) == ([0, 0, 0, 0, 0, 0, 0, 0, 0, 0, 0, 0, 0, 0, 0, 0, 0, 0, 0, 0, 0, 0, 0, 0, 0, 0, 0, 0, 0, 0, 0, 0] : List UInt8)))) = true from (by rw [low_1 n_k]; rfl)))] 7 En244 (wo118.pk [0, 2, 3]) fun ac245 En246 => ?_
  refine q_r 20 (s := Instr.loadAt 22 (pt bk1)) (v := .agg (List.toArray (bys k))) En246 (fun w hS => run_loadAgg2 (m := 32) (cs := bys k) (bys_lenh n_k) (by kernel_rfl) (by kernel_rfl) (hS.heap.cells (k := 0) (off := 0) (m := 32) rfl (load_whole (bys_lenh n_k)))) (wo118.pk [0, 2, 3]) fun ac247 En248 => ?_
  refine q_r 22 (s := Instr.loadAt 22 (pt bk1)) (v := .agg (List.toArray (bys k))) En248 (fun w hS => run_loadAgg2 (m := 32) (cs := bys k) (bys_lenh n_k) (by kernel_rfl) (by kernel_rfl) (hS.heap.cells (k := 0) (off := 0) (m := 32) rfl (load_whole (bys_lenh n_k)))) (wo118.pk [0, 2, 3]) fun ac249 En250 => ?_
  refine q_t 21 ?_
  refine c_p En250 wo118 (public_go _ k n_k) fun ac255 wo252 En256 Hv257 => ?_
  refine ⟨fun _ => Hv257.pk [0, 2, 3], ?_⟩
  refine q_t 23 ?_
  refine c_p En256 Hv257 (rpublic_go _ k n_k) fun ac262 wo259 En263 Hv264 => ?_
  refine ⟨fun _ => Hv264.pk [0, 2, 3], ?_⟩
  refine q_f 24 (s := eqOp .eql 22 (.tmp 60) (.tmp 62) (.agg (List.toArray (bys (multL (xP ([9, 0, 0, 0, 0, 0, 0, 0, 0, 0, 0, 0, 0, 0, 0, 0, 0, 0, 0, 0, 0, 0, 0, 0, 0, 0, 0, 0, 0, 0, 0, 0] : List UInt8)) (lv (clP k)))))) (.agg (List.toArray (bys (multL (xP ([9, 0, 0, 0, 0, 0, 0, 0, 0, 0, 0, 0, 0, 0, 0, 0, 0, 0, 0, 0, 0, 0, 0, 0, 0, 0, 0, 0, 0, 0, 0, 0] : List UInt8)) (lv (clP k))))))) (v := .bool true) En263 (fun _ => Go.Dbr.run_is (fun w => Go.Dbr.bys_eqop (a := (.tmp 60)) (b := (.tmp 62)) (e := 5) (m := 32) (by kernel_rfl) (by kernel_rfl) (by kernel_rfl) (by kernel_rfl) (by kernel_rfl) (multL_len _ _) (multL_len _ _) w) (beq_self_eq_true _) _) (fun _ => Hv264.pk [0, 2, 3]) fun ac265 En266 => ?_
  refine q_s [25,26] [] 0 En266 (Hv264.pk [0, 2, 3]) fun ac267 En268 => ?_
  exact h_e ⟨En268.sb, Hv264.pk [0, 1, 2, 3]⟩
 rintro ac269 wo270 ⟨En271, Hv272⟩
 refine then_normal ?_
 refine wp_ret ?_
 refine d_ret1 (t := 4) (v := .bool true) En271 (by kernel_rfl) (by kernel_rfl) ?_
 exact ⟨rfl, Hv272.pk []⟩

end Go.Proofs.Yteainioaejnecaa
