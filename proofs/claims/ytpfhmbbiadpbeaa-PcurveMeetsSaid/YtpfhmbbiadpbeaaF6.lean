/- Layer 4, the document: products of digits, what they leave. -/
import Derived.Test.YtpfhmbbiadpbeaaF5
namespace Go.Proofs.Ytpfhmbbiadpbeaa
open Go.Dbr
set_option maxRecDepth 100000
set_option maxHeartbeats 2000000
set_option linter.unusedVariables false
set_option linter.unusedSimpArgs false

theorem dg_eq (a0 a1 a2 a3 : UInt64) : [a0 &&& 4294967295, a0 >>> UInt64.ofNat 32, a1 &&& 4294967295, a1 >>> UInt64.ofNat 32, a2 &&& 4294967295, a2 >>> UInt64.ofNat 32, a3 &&& 4294967295, a3 >>> UInt64.ofNat 32, 0, 0, 0, 0, 0, 0, 0, 0, 0] = n32 17 (nv [a0, a1, a2, a3]) := by
  have z : (0 : UInt64).toNat < 4294967296 := by decide
  refine n32_of rfl ?_ ?_
  · simp only [DG.cons]
    exact ⟨low32 _, high32 _, low32 _, high32 _, low32 _, high32 _, low32 _, high32 _, z, z, z, z, z, z, z, z, z, DG.nil⟩
  · have h0 := low_high a0
    have h1 := low_high a1
    have h2 := low_high a2
    have h3 := low_high a3
    rw [nv4]
    simp only [dv, show (0 : UInt64).toNat = 0 from rfl, Nat.mul_zero, Nat.add_zero]
    omega
theorem num_eq {w : List UInt64} (hl : w.length = 17) (hd : DG w) : [List.getD w 0 0 ||| (List.getD w 1 0 <<< UInt64.ofNat 32), List.getD w 2 0 ||| (List.getD w 3 0 <<< UInt64.ofNat 32), List.getD w 4 0 ||| (List.getD w 5 0 <<< UInt64.ofNat 32), List.getD w 6 0 ||| (List.getD w 7 0 <<< UInt64.ofNat 32)] = nd (dv 4294967296 w) := by
  refine nv_inj rfl (nds_len _ _) ?_
  rw [nd_val, nv4, or_shl (hd 0) (hd 1), or_shl (hd 2) (hd 3), or_shl (hd 4) (hd 5), or_shl (hd 6) (hd 7)]
  have g0 := hd 0; have g1 := hd 1; have g2 := hd 2; have g3 := hd 3; have g4 := hd 4; have g5 := hd 5; have g6 := hd 6; have g7 := hd 7
  match w, hl with
  | x0 :: x1 :: x2 :: x3 :: x4 :: x5 :: x6 :: x7 :: r, _ =>
    simp only [dv_cons]
    generalize dv 4294967296 r = R
    simp only [List.getD_cons_zero, List.getD_cons_succ, W256] at *
    omega
/-- the number of the lowest digits of 32 bits -/
def dk (l : List UInt64) : Nat → Nat
  | 0 => 0
  | k + 1 => dk l k + (List.getD l k 0).toNat * 4294967296 ^ k
theorem dk_cons (x : UInt64) (r : List UInt64) : ∀ k, dk (x :: r) (k + 1) = x.toNat + 4294967296 * dk r k
  | 0 => by simp [dk]
  | k + 1 => by
    rw [dk, dk_cons x r k, dk, List.getD_cons_succ, Nat.pow_succ, Nat.mul_add, Nat.add_assoc, ← Nat.mul_assoc, Nat.mul_comm _ 4294967296]
theorem dk_split : ∀ (l : List UInt64) (k : Nat), dv 4294967296 l = dk l k + 4294967296 ^ k * dv 4294967296 (List.drop k l)
  | l, 0 => by simp [dk]
  | [], k + 1 => by
    have : ∀ j, dk [] j = 0 := fun j => by
      induction j with
      | zero => rfl
      | succ j ih => rw [dk, ih]; simp
    rw [this]; simp [dv]
  | x :: r, k + 1 => by
    rw [dv_cons, dk_cons, List.drop_succ_cons, dk_split r k, Nat.mul_add, Nat.add_assoc, Nat.pow_succ]
    ac_rfl
theorem dk_lt {l : List UInt64} (h : DG l) : ∀ k, dk l k < 4294967296 ^ k
  | 0 => by rw [dk, Nat.pow_zero]; exact Nat.one_pos
  | k + 1 => by
    have h1 := dk_lt h k
    have h2 := h k
    rw [dk, Nat.pow_succ]
    generalize 4294967296 ^ k = q at *
    have : (List.getD l k 0).toNat * q ≤ 4294967295 * q := Nat.mul_le_mul_right q (by omega)
    omega
theorem n32_get : ∀ (k n j : Nat), j < k → (List.getD (n32 k n) j 0).toNat = n / 4294967296 ^ j % 4294967296
  | k + 1, n, 0, _ => by rw [n32, List.getD_cons_zero, n32_hd, Nat.pow_zero, Nat.div_one]
  | k + 1, n, j + 1, h => by rw [n32, List.getD_cons_succ, n32_get k _ j (by omega), Nat.div_div_eq_div_mul, Nat.pow_succ, Nat.mul_comm]
theorem dk_n32 {k n : Nat} : ∀ j, j ≤ k → dk (n32 k n) j = n % 4294967296 ^ j
  | 0, _ => by rw [Nat.pow_zero, Nat.mod_one]; rfl
  | j + 1, h => by rw [dk, dk_n32 j (by omega), n32_get k n j (by omega), Nat.mod_pow_succ, Nat.mul_comm]
theorem mac32 {p x y c : UInt64} (hp : p.toNat < 4294967296) (hx : x.toNat < 4294967296) (hy : y.toNat < 4294967296) (hc : c.toNat < 4294967296) : (p + x * y + c).toNat = p.toNat + x.toNat * y.toNat + c.toNat := by
  have h : x.toNat * y.toNat ≤ 4294967295 * 4294967295 := Nat.mul_le_mul (by omega) (by omega)
  rw [UInt64.toNat_add, UInt64.toNat_add, UInt64.toNat_mul]
  generalize x.toNat * y.toNat = e at *
  omega
theorem mac32' {p x y c : UInt64} (hp : p.toNat < 4294967296) (hx : x.toNat < 4294967296) (hy : y.toNat < 4294967296) (hc : c.toNat < 4294967296) : (p + c + x * y).toNat = p.toNat + x.toNat * y.toNat + c.toNat := by
  have h : x.toNat * y.toNat ≤ 4294967295 * 4294967295 := Nat.mul_le_mul (by omega) (by omega)
  rw [UInt64.toNat_add, UInt64.toNat_add, UInt64.toNat_mul]
  generalize x.toNat * y.toNat = e at *
  omega
theorem set32 {w : List UInt64} {j : Nat} {t c : UInt64} {P e : Nat} (hj : j < w.length) (hv : dv 4294967296 w + c.toNat * 4294967296 ^ j = P) (ht : t.toNat = (List.getD w j 0).toNat + e + c.toNat) :
    dv 4294967296 (List.set w j (t &&& 4294967295)) + (t >>> UInt64.ofNat 32).toNat * 4294967296 ^ (j + 1) = P + e * 4294967296 ^ j := by
  have h1 := dv_set 4294967296 (t &&& 4294967295) w j hj
  have h2 := low_high t
  rw [ht] at h2
  have m2 := congrArg (· * 4294967296 ^ j) h2
  simp only [Nat.add_mul] at m2
  rw [Nat.pow_succ, Nat.mul_comm (4294967296 ^ j), ← Nat.mul_assoc, Nat.mul_comm _ 4294967296]
  generalize 4294967296 ^ j = q at *
  omega
theorem times_in {A y w : List UInt64} {B i k : Nat} {c : UInt64} {t : UInt64} (hlw : w.length = 17) (hj : i + k < 17) (hw : DG w) (hA : DG A) (hy : DG y) (hc : c.toNat < 4294967296)
    (hv : dv 4294967296 w + c.toNat * 4294967296 ^ (i + k) = B + dk y k * (List.getD A i 0).toNat * 4294967296 ^ i) (ht : t = List.getD w (i + k) 0 + List.getD A i 0 * List.getD y k 0 + c) :
    dv 4294967296 (List.set w (i + k) (t &&& 4294967295)) + (t >>> UInt64.ofNat 32).toNat * 4294967296 ^ (i + (k + 1)) = B + dk y (k + 1) * (List.getD A i 0).toNat * 4294967296 ^ i := by
  rw [← Nat.add_assoc, set32 (by omega) hv (by rw [ht]; exact mac32 (hw _) (hA _) (hy _) hc), dk, Nat.add_mul, Nat.add_mul, Nat.add_assoc]
  congr 2
  rw [Nat.pow_add]
  ac_rfl
theorem times_out {x y w : List UInt64} {b i : Nat} {c : UInt64} (hlw : w.length = 17) (hi : i < 8) (hz : List.getD w (i + 8) 0 = 0) (hb : dk y 8 = b)
    (hv : dv 4294967296 w + c.toNat * 4294967296 ^ (i + 8) = dk x i * b + dk y 8 * (List.getD x i 0).toNat * 4294967296 ^ i) : dv 4294967296 (List.set w (i + 8) c) = dk x (i + 1) * b := by
  have e := dv_set 4294967296 c w (i + 8) (by omega)
  rw [hz, show (0 : UInt64).toNat = 0 from rfl, Nat.zero_mul, Nat.add_zero, hv, hb] at e
  rw [e, dk, Nat.add_mul]
  congr 1
  ac_rfl
theorem zeros17 (j : Nat) : List.getD (List.replicate 17 (0 : UInt64)) j 0 = 0 := by
  simp only [List.getD_eq_getElem?_getD, List.getElem?_replicate]
  split <;> rfl
theorem d8w : 4294967296 ^ 8 = W256 := by decide
theorem dk_nv {a : List UInt64} (ha : a.length = 4) : dk (n32 17 (nv a)) 8 = nv a := by rw [dk_n32 8 (by decide), d8w, Nat.mod_eq_of_lt (nv_lt ha)]
theorem DG.rep : DG (List.replicate 17 (0 : UInt64)) := fun j => by rw [zeros17]; decide

theorem digits4 (w : World) (a0 a1 a2 a3 : UInt64) : Calls Try.prog 49 #[.agg #[uv64 a0, uv64 a1, uv64 a2, uv64 a3]] w fun e w' => e = .returned (.agg (List.toArray (u64s (n32 17 (nv [a0, a1, a2, a3]))))) ∧ Ev w [] w' [] := by
 refine d_0 [(0, .agg #[uv64 a0, uv64 a1, uv64 a2, uv64 a3])] 25 Go.Proofs.Try.func49 Go.Proofs.Try.ntmps49 (Heap.nil _) fun act0 En0 Hv0 => ?_
 refine wp_seq ?_
 refine region_from ?_
 refine f_o ?_
 refine m_m 24 [uv64 a0, uv64 a1, uv64 a2, uv64 a3] En0 Hv0 fun ac2 wo3 bk1 En4 Hv5 => ?_
 refine f_o ?_
 refine m_z 70 (u64s (List.replicate 17 0)) En4 Hv5 fun ac7 wo8 bk6 En9 Hv10 => ?_
 refine f_e ?_
 refine then_normal ?_
 refine wp_seq ?_
 refine region_from ?_
 refine f_o ?_
 refine m_z 70 (u64s (List.replicate 17 0)) En9 Hv10 fun ac12 wo13 bk11 En14 Hv15 => ?_
 refine f_e ?_
 refine then_normal ?_
 refine wp_seq ?_
 refine d_s [1,2,3,4] [] En14 fun ac16 En17 => ?_
 refine wp_block ?_
 refine loop_enter ?_
 refine loop_once ?_
 refine wp_seq ?_
 refine d_s [1,2,3,4,6] [] En17 fun ac18 En19 => ?_
 refine c_t En19 ?_
 refine wp_skip ?_
 refine then_normal ?_
 refine wp_seq ?_
 refine wp_block ?_
 refine wp_seq ?_
 refine region_from ?_
 refine d_k [1,2,3,4,10,12] [] 4 En19 fun ac20 En21 => ?_
 refine f_o ?_
 refine m_l 0 En21 Hv15 fun ac22 En23 => ?_
 refine d_k [1,2,3,4,14,15] [(5, g_i .u64 (Go.Dbr.u64_and (x := a0) (y := (4294967295 : UInt64)) rfl rfl))] 7 En23 fun ac24 En25 => ?_
 refine f_o ?_
 have hb26 : 0 < List.length (List.replicate 17 0) := by rw [(List.length_replicate)]; omega
 refine m_t 2 0 (uv64 (a0 &&& (4294967295 : UInt64))) [.box bk1 [uv64 a0, uv64 a1, uv64 a2, uv64 a3] 24, .box bk6 (u64s (List.replicate 17 0)) 70, .box bk11 (u64s (List.set (List.replicate 17 0) 0 (a0 &&& (4294967295 : UInt64)))) 70] En25 Hv15 rfl (u64s_getD hb26) (u64s_set _ _ _) rfl fun ac27 wo28 En29 Hv30 => ?_
 refine f_e ?_
 refine then_normal ?_
 refine region_from ?_
 refine d_k [1,2,3,4,18,20] [] 5 En29 fun ac31 En32 => ?_
 refine f_o ?_
 refine m_l 0 En32 Hv30 fun ac33 En34 => ?_
 refine d_k [1,2,3,4,22,23] [(6, g_i .u64 (Go.Dbr.u64_shr (x := a0) (n := 32) rfl (by decide)))] 8 En34 fun ac35 En36 => ?_
 refine f_o ?_
 have hb37 : 1 < List.length (List.set (List.replicate 17 0) 0 (a0 &&& (4294967295 : UInt64))) := by rw [(List.length_set.trans (List.length_replicate))]; omega
 refine m_t 2 1 (uv64 (a0 >>> UInt64.ofNat 32)) [.box bk1 [uv64 a0, uv64 a1, uv64 a2, uv64 a3] 24, .box bk6 (u64s (List.replicate 17 0)) 70, .box bk11 (u64s (List.set (List.set (List.replicate 17 0) 0 (a0 &&& (4294967295 : UInt64))) 1 (a0 >>> UInt64.ofNat 32))) 70] En36 Hv30 rfl (u64s_getD hb37) (u64s_set _ _ _) rfl fun ac38 wo39 En40 Hv41 => ?_
 refine f_e ?_
 refine block_normal ?_
 refine then_normal ?_
 refine d_r [1,2,3,4] [] En40 fun ac42 En43 => ?_
 refine then_normal ?_
 refine loop_once ?_
 refine wp_seq ?_
 refine d_s [1,2,3,4,6] [] En43 fun ac44 En45 => ?_
 refine c_t En45 ?_
 refine wp_skip ?_
 refine then_normal ?_
 refine wp_seq ?_
 refine wp_block ?_
 refine wp_seq ?_
 refine region_from ?_
 refine d_k [1,2,3,4,10,12] [] 4 En45 fun ac46 En47 => ?_
 refine f_o ?_
 refine m_l 0 En47 Hv41 fun ac48 En49 => ?_
 refine d_k [1,2,3,4,14,15] [(5, g_i .u64 (Go.Dbr.u64_and (x := a1) (y := (4294967295 : UInt64)) rfl rfl))] 7 En49 fun ac50 En51 => ?_
 refine f_o ?_
 have hb52 : 2 < List.length (List.set (List.set (List.replicate 17 0) 0 (a0 &&& (4294967295 : UInt64))) 1 (a0 >>> UInt64.ofNat 32)) := by rw [(List.length_set.trans (List.length_set.trans (List.length_replicate)))]; omega
 refine m_t 2 2 (uv64 (a1 &&& (4294967295 : UInt64))) [.box bk1 [uv64 a0, uv64 a1, uv64 a2, uv64 a3] 24, .box bk6 (u64s (List.replicate 17 0)) 70, .box bk11 (u64s (List.set (List.set (List.set (List.replicate 17 0) 0 (a0 &&& (4294967295 : UInt64))) 1 (a0 >>> UInt64.ofNat 32)) 2 (a1 &&& (4294967295 : UInt64)))) 70] En51 Hv41 rfl (u64s_getD hb52) (u64s_set _ _ _) rfl fun ac53 wo54 En55 Hv56 => ?_
 refine f_e ?_
 refine then_normal ?_
 refine region_from ?_
 refine d_k [1,2,3,4,18,20] [] 5 En55 fun ac57 En58 => ?_
 refine f_o ?_
 refine m_l 0 En58 Hv56 fun ac59 En60 => ?_
 refine d_k [1,2,3,4,22,23] [(6, g_i .u64 (Go.Dbr.u64_shr (x := a1) (n := 32) rfl (by decide)))] 8 En60 fun ac61 En62 => ?_
 refine f_o ?_
 have hb63 : 3 < List.length (List.set (List.set (List.set (List.replicate 17 0) 0 (a0 &&& (4294967295 : UInt64))) 1 (a0 >>> UInt64.ofNat 32)) 2 (a1 &&& (4294967295 : UInt64))) := by rw [(List.length_set.trans (List.length_set.trans (List.length_set.trans (List.length_replicate))))]; omega
 refine m_t 2 3 (uv64 (a1 >>> UInt64.ofNat 32)) [.box bk1 [uv64 a0, uv64 a1, uv64 a2, uv64 a3] 24, .box bk6 (u64s (List.replicate 17 0)) 70, .box bk11 (u64s (List.set (List.set (List.set (List.set (List.replicate 17 0) 0 (a0 &&& (4294967295 : UInt64))) 1 (a0 >>> UInt64.ofNat 32)) 2 (a1 &&& (4294967295 : UInt64))) 3 (a1 >>> UInt64.ofNat 32))) 70] En62 Hv56 rfl (u64s_getD hb63) (u64s_set _ _ _) rfl fun ac64 wo65 En66 Hv67 => ?_
 refine f_e ?_
 refine block_normal ?_
 refine then_normal ?_
 refine d_r [1,2,3,4] [] En66 fun ac68 En69 => ?_
 refine then_normal ?_
 refine loop_once ?_
 refine wp_seq ?_
 refine d_s [1,2,3,4,6] [] En69 fun ac70 En71 => ?_
 refine c_t En71 ?_
 refine wp_skip ?_
 refine then_normal ?_
 refine wp_seq ?_
 refine wp_block ?_
 refine wp_seq ?_
 refine region_from ?_
 refine d_k [1,2,3,4,10,12] [] 4 En71 fun ac72 En73 => ?_
 refine f_o ?_
 refine m_l 0 En73 Hv67 fun ac74 En75 => ?_
 refine d_k [1,2,3,4,14,15] [(5, g_i .u64 (Go.Dbr.u64_and (x := a2) (y := (4294967295 : UInt64)) rfl rfl))] 7 En75 fun ac76 En77 => ?_
 refine f_o ?_
 have hb78 : 4 < List.length (List.set (List.set (List.set (List.set (List.replicate 17 0) 0 (a0 &&& (4294967295 : UInt64))) 1 (a0 >>> UInt64.ofNat 32)) 2 (a1 &&& (4294967295 : UInt64))) 3 (a1 >>> UInt64.ofNat 32)) := by rw [(List.length_set.trans (List.length_set.trans (List.length_set.trans (List.length_set.trans (List.length_replicate)))))]; omega
 refine m_t 2 4 (uv64 (a2 &&& (4294967295 : UInt64))) [.box bk1 [uv64 a0, uv64 a1, uv64 a2, uv64 a3] 24, .box bk6 (u64s (List.replicate 17 0)) 70, .box bk11 (u64s (List.set (List.set (List.set (List.set (List.set (List.replicate 17 0) 0 (a0 &&& (4294967295 : UInt64))) 1 (a0 >>> UInt64.ofNat 32)) 2 (a1 &&& (4294967295 : UInt64))) 3 (a1 >>> UInt64.ofNat 32)) 4 (a2 &&& (4294967295 : UInt64)))) 70] En77 Hv67 rfl (u64s_getD hb78) (u64s_set _ _ _) rfl fun ac79 wo80 En81 Hv82 => ?_
 refine f_e ?_
 refine then_normal ?_
 refine region_from ?_
 refine d_k [1,2,3,4,18,20] [] 5 En81 fun ac83 En84 => ?_
 refine f_o ?_
 refine m_l 0 En84 Hv82 fun ac85 En86 => ?_
 refine d_k [1,2,3,4,22,23] [(6, g_i .u64 (Go.Dbr.u64_shr (x := a2) (n := 32) rfl (by decide)))] 8 En86 fun ac87 En88 => ?_
 refine f_o ?_
 have hb89 : 5 < List.length (List.set (List.set (List.set (List.set (List.set (List.replicate 17 0) 0 (a0 &&& (4294967295 : UInt64))) 1 (a0 >>> UInt64.ofNat 32)) 2 (a1 &&& (4294967295 : UInt64))) 3 (a1 >>> UInt64.ofNat 32)) 4 (a2 &&& (4294967295 : UInt64))) := by rw [(List.length_set.trans (List.length_set.trans (List.length_set.trans (List.length_set.trans (List.length_set.trans (List.length_replicate))))))]; omega
 refine m_t 2 5 (uv64 (a2 >>> UInt64.ofNat 32)) [.box bk1 [uv64 a0, uv64 a1, uv64 a2, uv64 a3] 24, .box bk6 (u64s (List.replicate 17 0)) 70, .box bk11 (u64s (List.set (List.set (List.set (List.set (List.set (List.set (List.replicate 17 0) 0 (a0 &&& (4294967295 : UInt64))) 1 (a0 >>> UInt64.ofNat 32)) 2 (a1 &&& (4294967295 : UInt64))) 3 (a1 >>> UInt64.ofNat 32)) 4 (a2 &&& (4294967295 : UInt64))) 5 (a2 >>> UInt64.ofNat 32))) 70] En88 Hv82 rfl (u64s_getD hb89) (u64s_set _ _ _) rfl fun ac90 wo91 En92 Hv93 => ?_
 refine f_e ?_
 refine block_normal ?_
 refine then_normal ?_
 refine d_r [1,2,3,4] [] En92 fun ac94 En95 => ?_
 refine then_normal ?_
 refine loop_once ?_
 refine wp_seq ?_
 refine d_s [1,2,3,4,6] [] En95 fun ac96 En97 => ?_
 refine c_t En97 ?_
 refine wp_skip ?_
 refine then_normal ?_
 refine wp_seq ?_
 refine wp_block ?_
 refine wp_seq ?_
 refine region_from ?_
 refine d_k [1,2,3,4,10,12] [] 4 En97 fun ac98 En99 => ?_
 refine f_o ?_
 refine m_l 0 En99 Hv93 fun ac100 En101 => ?_
 refine d_k [1,2,3,4,14,15] [(5, g_i .u64 (Go.Dbr.u64_and (x := a3) (y := (4294967295 : UInt64)) rfl rfl))] 7 En101 fun ac102 En103 => ?_
 refine f_o ?_
 have hb104 : 6 < List.length (List.set (List.set (List.set (List.set (List.set (List.set (List.replicate 17 0) 0 (a0 &&& (4294967295 : UInt64))) 1 (a0 >>> UInt64.ofNat 32)) 2 (a1 &&& (4294967295 : UInt64))) 3 (a1 >>> UInt64.ofNat 32)) 4 (a2 &&& (4294967295 : UInt64))) 5 (a2 >>> UInt64.ofNat 32)) := by rw [(List.length_set.trans (List.length_set.trans (List.length_set.trans (List.length_set.trans (List.length_set.trans (List.length_set.trans (List.length_replicate)))))))]; omega
 refine m_t 2 6 (uv64 (a3 &&& (4294967295 : UInt64))) [.box bk1 [uv64 a0, uv64 a1, uv64 a2, uv64 a3] 24, .box bk6 (u64s (List.replicate 17 0)) 70, .box bk11 (u64s (List.set (List.set (List.set (List.set (List.set (List.set (List.set (List.replicate 17 0) 0 (a0 &&& (4294967295 : UInt64))) 1 (a0 >>> UInt64.ofNat 32)) 2 (a1 &&& (4294967295 : UInt64))) 3 (a1 >>> UInt64.ofNat 32)) 4 (a2 &&& (4294967295 : UInt64))) 5 (a2 >>> UInt64.ofNat 32)) 6 (a3 &&& (4294967295 : UInt64)))) 70] En103 Hv93 rfl (u64s_getD hb104) (u64s_set _ _ _) rfl fun ac105 wo106 En107 Hv108 => ?_
 refine f_e ?_
 refine then_normal ?_
 refine region_from ?_
 refine d_k [1,2,3,4,18,20] [] 5 En107 fun ac109 En110 => ?_
 refine f_o ?_
 refine m_l 0 En110 Hv108 fun ac111 En112 => ?_
 refine d_k [1,2,3,4,22,23] [(6, g_i .u64 (Go.Dbr.u64_shr (x := a3) (n := 32) rfl (by decide)))] 8 En112 fun ac113 En114 => ?_
 refine f_o ?_
 have hb115 : 7 < List.length (List.set (List.set (List.set (List.set (List.set (List.set (List.set (List.replicate 17 0) 0 (a0 &&& (4294967295 : UInt64))) 1 (a0 >>> UInt64.ofNat 32)) 2 (a1 &&& (4294967295 : UInt64))) 3 (a1 >>> UInt64.ofNat 32)) 4 (a2 &&& (4294967295 : UInt64))) 5 (a2 >>> UInt64.ofNat 32)) 6 (a3 &&& (4294967295 : UInt64))) := by rw [(List.length_set.trans (List.length_set.trans (List.length_set.trans (List.length_set.trans (List.length_set.trans (List.length_set.trans (List.length_set.trans (List.length_replicate))))))))]; omega
 refine m_t 2 7 (uv64 (a3 >>> UInt64.ofNat 32)) [.box bk1 [uv64 a0, uv64 a1, uv64 a2, uv64 a3] 24, .box bk6 (u64s (List.replicate 17 0)) 70, .box bk11 (u64s (List.set (List.set (List.set (List.set (List.set (List.set (List.set (List.set (List.replicate 17 0) 0 (a0 &&& (4294967295 : UInt64))) 1 (a0 >>> UInt64.ofNat 32)) 2 (a1 &&& (4294967295 : UInt64))) 3 (a1 >>> UInt64.ofNat 32)) 4 (a2 &&& (4294967295 : UInt64))) 5 (a2 >>> UInt64.ofNat 32)) 6 (a3 &&& (4294967295 : UInt64))) 7 (a3 >>> UInt64.ofNat 32))) 70] En114 Hv108 rfl (u64s_getD hb115) (u64s_set _ _ _) rfl fun ac116 wo117 En118 Hv119 => ?_
 refine f_e ?_
 refine block_normal ?_
 refine then_normal ?_
 refine d_r [1,2,3,4] [] En118 fun ac120 En121 => ?_
 refine then_normal ?_
 refine loop_once ?_
 refine wp_seq ?_
 refine d_s [1,2,3,4,6] [] En121 fun ac122 En123 => ?_
 refine c_f En123 ?_
 refine wp_exit ?_
 refine then_exit ?_
 refine then_exit ?_
 refine block_exit ?_
 refine then_normal ?_
 refine wp_seq ?_
 refine region_from ?_
 refine f_o ?_
 refine m_a 2 0 17 (u64s (List.set (List.set (List.set (List.set (List.set (List.set (List.set (List.set (List.replicate 17 0) 0 (a0 &&& (4294967295 : UInt64))) 1 (a0 >>> UInt64.ofNat 32)) 2 (a1 &&& (4294967295 : UInt64))) 3 (a1 >>> UInt64.ofNat 32)) 4 (a2 &&& (4294967295 : UInt64))) 5 (a2 >>> UInt64.ofNat 32)) 6 (a3 &&& (4294967295 : UInt64))) 7 (a3 >>> UInt64.ofNat 32))) En123 Hv119 rfl (load_whole (u64s_lenh (List.length_set.trans (List.length_set.trans (List.length_set.trans (List.length_set.trans (List.length_set.trans (List.length_set.trans (List.length_set.trans (List.length_set.trans (List.length_replicate))))))))))) (u64s_lenh (List.length_set.trans (List.length_set.trans (List.length_set.trans (List.length_set.trans (List.length_set.trans (List.length_set.trans (List.length_set.trans (List.length_set.trans (List.length_replicate)))))))))) fun ac124 En125 => ?_
 refine f_o ?_
 refine m_g 1 0 17 (u64s (List.set (List.set (List.set (List.set (List.set (List.set (List.set (List.set (List.replicate 17 0) 0 (a0 &&& (4294967295 : UInt64))) 1 (a0 >>> UInt64.ofNat 32)) 2 (a1 &&& (4294967295 : UInt64))) 3 (a1 >>> UInt64.ofNat 32)) 4 (a2 &&& (4294967295 : UInt64))) 5 (a2 >>> UInt64.ofNat 32)) 6 (a3 &&& (4294967295 : UInt64))) 7 (a3 >>> UInt64.ofNat 32))) (u64s (List.set (List.set (List.set (List.set (List.set (List.set (List.set (List.set (List.replicate 17 0) 0 (a0 &&& (4294967295 : UInt64))) 1 (a0 >>> UInt64.ofNat 32)) 2 (a1 &&& (4294967295 : UInt64))) 3 (a1 >>> UInt64.ofNat 32)) 4 (a2 &&& (4294967295 : UInt64))) 5 (a2 >>> UInt64.ofNat 32)) 6 (a3 &&& (4294967295 : UInt64))) 7 (a3 >>> UInt64.ofNat 32))) [.box bk1 [uv64 a0, uv64 a1, uv64 a2, uv64 a3] 24, .box bk6 (u64s (List.set (List.set (List.set (List.set (List.set (List.set (List.set (List.set (List.replicate 17 0) 0 (a0 &&& (4294967295 : UInt64))) 1 (a0 >>> UInt64.ofNat 32)) 2 (a1 &&& (4294967295 : UInt64))) 3 (a1 >>> UInt64.ofNat 32)) 4 (a2 &&& (4294967295 : UInt64))) 5 (a2 >>> UInt64.ofNat 32)) 6 (a3 &&& (4294967295 : UInt64))) 7 (a3 >>> UInt64.ofNat 32))) 70, .box bk11 (u64s (List.set (List.set (List.set (List.set (List.set (List.set (List.set (List.set (List.replicate 17 0) 0 (a0 &&& (4294967295 : UInt64))) 1 (a0 >>> UInt64.ofNat 32)) 2 (a1 &&& (4294967295 : UInt64))) 3 (a1 >>> UInt64.ofNat 32)) 4 (a2 &&& (4294967295 : UInt64))) 5 (a2 >>> UInt64.ofNat 32)) 6 (a3 &&& (4294967295 : UInt64))) 7 (a3 >>> UInt64.ofNat 32))) 70] En125 Hv119 rfl (u64s_lenh (List.length_set.trans (List.length_set.trans (List.length_set.trans (List.length_set.trans (List.length_set.trans (List.length_set.trans (List.length_set.trans (List.length_set.trans (List.length_replicate)))))))))) (by rw [(u64s_lenh (List.length_replicate))]; decide) (u64s_one _) (store_whole (u64s_lenh (List.length_replicate))) rfl fun ac126 wo127 En128 Hv129 => ?_
 refine f_e ?_
 refine then_normal ?_
 refine wp_ret ?_
 refine d_cell1 (v := .agg (List.toArray (u64s (List.set (List.set (List.set (List.set (List.set (List.set (List.set (List.set (List.replicate 17 0) 0 (a0 &&& (4294967295 : UInt64))) 1 (a0 >>> UInt64.ofNat 32)) 2 (a1 &&& (4294967295 : UInt64))) 3 (a1 >>> UInt64.ofNat 32)) 4 (a2 &&& (4294967295 : UInt64))) 5 (a2 >>> UInt64.ofNat 32)) 6 (a3 &&& (4294967295 : UInt64))) 7 (a3 >>> UInt64.ofNat 32))))) (t := 2) (T := 70) (ad := ⟨bk6, 0, none⟩) En128 (by kernel_rfl) (by kernel_rfl) (Ev.cellAgg (t := 70) (k := 1) (off := 0) (m := 17) (xs := u64s (List.set (List.set (List.set (List.set (List.set (List.set (List.set (List.set (List.replicate 17 0) 0 (a0 &&& (4294967295 : UInt64))) 1 (a0 >>> UInt64.ofNat 32)) 2 (a1 &&& (4294967295 : UInt64))) 3 (a1 >>> UInt64.ofNat 32)) 4 (a2 &&& (4294967295 : UInt64))) 5 (a2 >>> UInt64.ofNat 32)) 6 (a3 &&& (4294967295 : UInt64))) 7 (a3 >>> UInt64.ofNat 32))) Hv129 rfl (load_whole (u64s_lenh (List.length_set.trans (List.length_set.trans (List.length_set.trans (List.length_set.trans (List.length_set.trans (List.length_set.trans (List.length_set.trans (List.length_set.trans (List.length_replicate))))))))))) (u64s_lenh (List.length_set.trans (List.length_set.trans (List.length_set.trans (List.length_set.trans (List.length_set.trans (List.length_set.trans (List.length_set.trans (List.length_set.trans (List.length_replicate)))))))))) (by kernel_rfl) (by kernel_rfl)) ?_
 have e : List.set (List.set (List.set (List.set (List.set (List.set (List.set (List.set (List.replicate 17 0) 0 (a0 &&& (4294967295 : UInt64))) 1 (a0 >>> UInt64.ofNat 32)) 2 (a1 &&& (4294967295 : UInt64))) 3 (a1 >>> UInt64.ofNat 32)) 4 (a2 &&& (4294967295 : UInt64))) 5 (a2 >>> UInt64.ofNat 32)) 6 (a3 &&& (4294967295 : UInt64))) 7 (a3 >>> UInt64.ofNat 32) = n32 17 (nv [a0, a1, a2, a3]) := dg_eq a0 a1 a2 a3
 rw [e]
 exact ⟨rfl, Hv129.pk []⟩

theorem digits_go (w : World) (a : List UInt64) (ha : List.length a = 4) : Calls Try.prog 49 #[.agg (List.toArray (u64s a))] w fun e w' => e = .returned (.agg (List.toArray (u64s (n32 17 (nv a))))) ∧ Ev w [] w' [] := by
  match a, ha with
  | [a0, a1, a2, a3], _ => exact digits4 w a0 a1 a2 a3

theorem number_go (w : World) (x : List UInt64) (hx : List.length x = 17) (hd : DG x) : Calls Try.prog 71 #[.agg (List.toArray (u64s x))] w fun e w' => e = .returned (.agg (List.toArray (u64s (nd (dv 4294967296 x))))) ∧ Ev w [] w' [] := by
 refine d_0 [(0, .agg (List.toArray (u64s x)))] 28 Go.Proofs.Try.func71 Go.Proofs.Try.ntmps71 (Heap.nil _) fun act0 En0 Hv0 => ?_
 refine wp_seq ?_
 refine region_from ?_
 refine f_o ?_
 refine m_m 70 (u64s x) En0 Hv0 fun ac2 wo3 bk1 En4 Hv5 => ?_
 refine f_o ?_
 refine m_z 24 (u64s (List.replicate 4 0)) En4 Hv5 fun ac7 wo8 bk6 En9 Hv10 => ?_
 refine f_e ?_
 refine then_normal ?_
 refine wp_seq ?_
 refine region_from ?_
 refine d_k [1,2,3] [] 1 En9 fun ac11 En12 => ?_
 refine f_o ?_
 have hb13 : 0 < List.length x := by rw [hx]; omega
 refine m_v 0 0 (uv64 (List.getD x 0 0)) En12 Hv10 rfl (u64s_getD hb13) fun ac14 En15 => ?_
 refine d_k [1,2,4,5] [] 3 En15 fun ac16 En17 => ?_
 refine f_o ?_
 have hb18 : 1 < List.length x := by rw [hx]; omega
 refine m_v 0 1 (uv64 (List.getD x 1 0)) En17 Hv10 rfl (u64s_getD hb18) fun ac19 En20 => ?_
 refine d_k [1,2,8,9] [(4, g_i .u64 (Go.Dbr.u64_shl (x := List.getD x 1 0) (n := 32) rfl (by decide))), (5, g_i .u64 (Go.Dbr.u64_or (x := List.getD x 0 0) (y := (List.getD x 1 0) <<< UInt64.ofNat 32) rfl rfl))] 7 En20 fun ac21 En22 => ?_
 refine f_o ?_
 have hb23 : 2 < List.length x := by rw [hx]; omega
 refine m_v 0 2 (uv64 (List.getD x 2 0)) En22 Hv10 rfl (u64s_getD hb23) fun ac24 En25 => ?_
 refine d_k [1,2,8,10,11] [] 9 En25 fun ac26 En27 => ?_
 refine f_o ?_
 have hb28 : 3 < List.length x := by rw [hx]; omega
 refine m_v 0 3 (uv64 (List.getD x 3 0)) En27 Hv10 rfl (u64s_getD hb28) fun ac29 En30 => ?_
 refine d_k [1,2,8,14,15] [(10, g_i .u64 (Go.Dbr.u64_shl (x := List.getD x 3 0) (n := 32) rfl (by decide))), (11, g_i .u64 (Go.Dbr.u64_or (x := List.getD x 2 0) (y := (List.getD x 3 0) <<< UInt64.ofNat 32) rfl rfl))] 13 En30 fun ac31 En32 => ?_
 refine f_o ?_
 have hb33 : 4 < List.length x := by rw [hx]; omega
 refine m_v 0 4 (uv64 (List.getD x 4 0)) En32 Hv10 rfl (u64s_getD hb33) fun ac34 En35 => ?_
 refine d_k [1,2,8,14,16,17] [] 15 En35 fun ac36 En37 => ?_
 refine f_o ?_
 have hb38 : 5 < List.length x := by rw [hx]; omega
 refine m_v 0 5 (uv64 (List.getD x 5 0)) En37 Hv10 rfl (u64s_getD hb38) fun ac39 En40 => ?_
 refine d_k [1,2,8,14,20,21] [(16, g_i .u64 (Go.Dbr.u64_shl (x := List.getD x 5 0) (n := 32) rfl (by decide))), (17, g_i .u64 (Go.Dbr.u64_or (x := List.getD x 4 0) (y := (List.getD x 5 0) <<< UInt64.ofNat 32) rfl rfl))] 19 En40 fun ac41 En42 => ?_
 refine f_o ?_
 have hb43 : 6 < List.length x := by rw [hx]; omega
 refine m_v 0 6 (uv64 (List.getD x 6 0)) En42 Hv10 rfl (u64s_getD hb43) fun ac44 En45 => ?_
 refine d_k [2,8,14,20,22,23] [] 21 En45 fun ac46 En47 => ?_
 refine f_o ?_
 have hb48 : 7 < List.length x := by rw [hx]; omega
 refine m_v 0 7 (uv64 (List.getD x 7 0)) En47 Hv10 rfl (u64s_getD hb48) fun ac49 En50 => ?_
 refine d_k [2,27] [(22, g_i .u64 (Go.Dbr.u64_shl (x := List.getD x 7 0) (n := 32) rfl (by decide))), (23, g_i .u64 (Go.Dbr.u64_or (x := List.getD x 6 0) (y := (List.getD x 7 0) <<< UInt64.ofNat 32) rfl rfl))] 25 En50 fun ac51 En52 => ?_
 refine f_o ?_
 refine m_g 1 0 4 (u64s ([(List.getD x 0 0) ||| ((List.getD x 1 0) <<< UInt64.ofNat 32), (List.getD x 2 0) ||| ((List.getD x 3 0) <<< UInt64.ofNat 32), (List.getD x 4 0) ||| ((List.getD x 5 0) <<< UInt64.ofNat 32), (List.getD x 6 0) ||| ((List.getD x 7 0) <<< UInt64.ofNat 32)] : List UInt64)) (u64s ([(List.getD x 0 0) ||| ((List.getD x 1 0) <<< UInt64.ofNat 32), (List.getD x 2 0) ||| ((List.getD x 3 0) <<< UInt64.ofNat 32), (List.getD x 4 0) ||| ((List.getD x 5 0) <<< UInt64.ofNat 32), (List.getD x 6 0) ||| ((List.getD x 7 0) <<< UInt64.ofNat 32)] : List UInt64)) [.box bk1 (u64s x) 70, .box bk6 (u64s ([(List.getD x 0 0) ||| ((List.getD x 1 0) <<< UInt64.ofNat 32), (List.getD x 2 0) ||| ((List.getD x 3 0) <<< UInt64.ofNat 32), (List.getD x 4 0) ||| ((List.getD x 5 0) <<< UInt64.ofNat 32), (List.getD x 6 0) ||| ((List.getD x 7 0) <<< UInt64.ofNat 32)] : List UInt64)) 24] En52 Hv10 rfl (u64s_lenh (show List.length ([(List.getD x 0 0) ||| ((List.getD x 1 0) <<< UInt64.ofNat 32), (List.getD x 2 0) ||| ((List.getD x 3 0) <<< UInt64.ofNat 32), (List.getD x 4 0) ||| ((List.getD x 5 0) <<< UInt64.ofNat 32), (List.getD x 6 0) ||| ((List.getD x 7 0) <<< UInt64.ofNat 32)] : List UInt64) = 4 from rfl)) (by rw [(u64s_lenh (List.length_replicate))]; decide) (u64s_one _) (store_whole (u64s_lenh (List.length_replicate))) rfl fun ac53 wo54 En55 Hv56 => ?_
 refine f_e ?_
 refine then_normal ?_
 refine wp_ret ?_
 refine d_cell1 (v := .agg (List.toArray (u64s ([(List.getD x 0 0) ||| ((List.getD x 1 0) <<< UInt64.ofNat 32), (List.getD x 2 0) ||| ((List.getD x 3 0) <<< UInt64.ofNat 32), (List.getD x 4 0) ||| ((List.getD x 5 0) <<< UInt64.ofNat 32), (List.getD x 6 0) ||| ((List.getD x 7 0) <<< UInt64.ofNat 32)] : List UInt64)))) (t := 2) (T := 24) (ad := ⟨bk6, 0, none⟩) En55 (by kernel_rfl) (by kernel_rfl) (Ev.cellAgg (t := 24) (k := 1) (off := 0) (m := 4) (xs := u64s ([(List.getD x 0 0) ||| ((List.getD x 1 0) <<< UInt64.ofNat 32), (List.getD x 2 0) ||| ((List.getD x 3 0) <<< UInt64.ofNat 32), (List.getD x 4 0) ||| ((List.getD x 5 0) <<< UInt64.ofNat 32), (List.getD x 6 0) ||| ((List.getD x 7 0) <<< UInt64.ofNat 32)] : List UInt64)) Hv56 rfl (load_whole (u64s_lenh (show List.length ([(List.getD x 0 0) ||| ((List.getD x 1 0) <<< UInt64.ofNat 32), (List.getD x 2 0) ||| ((List.getD x 3 0) <<< UInt64.ofNat 32), (List.getD x 4 0) ||| ((List.getD x 5 0) <<< UInt64.ofNat 32), (List.getD x 6 0) ||| ((List.getD x 7 0) <<< UInt64.ofNat 32)] : List UInt64) = 4 from rfl))) (u64s_lenh (show List.length ([(List.getD x 0 0) ||| ((List.getD x 1 0) <<< UInt64.ofNat 32), (List.getD x 2 0) ||| ((List.getD x 3 0) <<< UInt64.ofNat 32), (List.getD x 4 0) ||| ((List.getD x 5 0) <<< UInt64.ofNat 32), (List.getD x 6 0) ||| ((List.getD x 7 0) <<< UInt64.ofNat 32)] : List UInt64) = 4 from rfl)) (by kernel_rfl) (by kernel_rfl)) ?_
 have e : ([(List.getD x 0 0) ||| ((List.getD x 1 0) <<< UInt64.ofNat 32), (List.getD x 2 0) ||| ((List.getD x 3 0) <<< UInt64.ofNat 32), (List.getD x 4 0) ||| ((List.getD x 5 0) <<< UInt64.ofNat 32), (List.getD x 6 0) ||| ((List.getD x 7 0) <<< UInt64.ofNat 32)] : List UInt64) = nd (dv 4294967296 x) := num_eq hx hd
 have e2 : Ending.returned (.agg (List.toArray (u64s ([(List.getD x 0 0) ||| ((List.getD x 1 0) <<< UInt64.ofNat 32), (List.getD x 2 0) ||| ((List.getD x 3 0) <<< UInt64.ofNat 32), (List.getD x 4 0) ||| ((List.getD x 5 0) <<< UInt64.ofNat 32), (List.getD x 6 0) ||| ((List.getD x 7 0) <<< UInt64.ofNat 32)] : List UInt64)))) = Ending.returned (.agg (List.toArray (u64s (nd (dv 4294967296 x))))) := congrArg (fun l : List UInt64 => Ending.returned (Value.agg (u64s l).toArray)) e
 exact ⟨e2, Hv56.pk []⟩

theorem times_go (w : World) (a b : List UInt64) (ha : List.length a = 4) (hb : List.length b = 4) : Calls Try.prog 92 #[.agg (List.toArray (u64s a)), .agg (List.toArray (u64s b))] w fun e w' => e = .returned (.agg (List.toArray (u64s (n32 17 (nv a * nv b))))) ∧ Ev w [] w' [] := by
 refine d_0 [(0, .agg (List.toArray (u64s a))), (1, .agg (List.toArray (u64s b)))] 52 Go.Proofs.Try.func92 Go.Proofs.Try.ntmps92 (Heap.nil _) fun act0 En0 Hv0 => ?_
 refine wp_seq ?_
 refine region_from ?_
 refine f_o ?_
 refine m_m 24 (u64s a) En0 Hv0 fun ac2 wo3 bk1 En4 Hv5 => ?_
 refine f_o ?_
 refine m_m 24 (u64s b) En4 Hv5 fun ac7 wo8 bk6 En9 Hv10 => ?_
 refine f_o ?_
 refine m_z 70 (u64s (List.replicate 17 0)) En9 Hv10 fun ac12 wo13 bk11 En14 Hv15 => ?_
 refine f_e ?_
 refine then_normal ?_
 refine wp_seq ?_
 refine region_from ?_
 refine f_o ?_
 refine m_a 0 0 4 (u64s a) En14 Hv15 rfl (load_whole (u64s_lenh ha)) (u64s_lenh ha) fun ac16 En17 => ?_
 refine f_o ?_
 refine c_p En17 Hv15 (digits_go _ a ha) fun ac22 wo19 En23 Hv24 => ?_
 refine f_o ?_
 refine m_z 70 (u64s (List.replicate 17 0)) En23 Hv24 fun ac26 wo27 bk25 En28 Hv29 => ?_
 refine f_o ?_
 refine m_g 3 0 17 (u64s (n32 17 (nv a))) (u64s (n32 17 (nv a))) [.box bk1 (u64s a) 24, .box bk6 (u64s b) 24, .box bk11 (u64s (List.replicate 17 0)) 70, .box bk25 (u64s (n32 17 (nv a))) 70] En28 Hv29 rfl (u64s_lenh (n32_len _ _)) (by rw [(u64s_lenh (List.length_replicate))]; decide) (u64s_one _) (store_whole (u64s_lenh (List.length_replicate))) rfl fun ac30 wo31 En32 Hv33 => ?_
 refine f_e ?_
 refine then_normal ?_
 refine wp_seq ?_
 refine region_from ?_
 refine f_o ?_
 refine m_a 1 0 4 (u64s b) En32 Hv33 rfl (load_whole (u64s_lenh hb)) (u64s_lenh hb) fun ac34 En35 => ?_
 refine f_o ?_
 refine c_p En35 Hv33 (digits_go _ b hb) fun ac40 wo37 En41 Hv42 => ?_
 refine f_o ?_
 refine m_z 70 (u64s (List.replicate 17 0)) En41 Hv42 fun ac44 wo45 bk43 En46 Hv47 => ?_
 refine f_o ?_
 refine m_g 4 0 17 (u64s (n32 17 (nv b))) (u64s (n32 17 (nv b))) [.box bk1 (u64s a) 24, .box bk6 (u64s b) 24, .box bk11 (u64s (List.replicate 17 0)) 70, .box bk25 (u64s (n32 17 (nv a))) 70, .box bk43 (u64s (n32 17 (nv b))) 70] En46 Hv47 rfl (u64s_lenh (n32_len _ _)) (by rw [(u64s_lenh (List.length_replicate))]; decide) (u64s_one _) (store_whole (u64s_lenh (List.length_replicate))) rfl fun ac48 wo49 En50 Hv51 => ?_
 refine f_e ?_
 refine then_normal ?_
 refine wp_seq ?_
 refine region_from ?_
 refine f_o ?_
 refine m_z 70 (u64s (List.replicate 17 0)) En50 Hv51 fun ac53 wo54 bk52 En55 Hv56 => ?_
 refine f_e ?_
 refine then_normal ?_
 refine wp_seq ?_
 refine wp_seq ?_
 refine d_r [4,5,6,7,8] [] En55 fun ac57 En58 => ?_
 refine then_normal ?_
 refine wp_block ?_
 refine loop_m (fun ms59 ac wo => ∃ (i : Nat) (t : List UInt64), ms59 = (8 - i : Nat) ∧ Env ac 52 [(4, pt bk11), (5, pt bk25), (6, pt bk43), (7, pt bk52), (8, ni i)] ∧ Ev w [] wo [.box bk52 (u64s t) 70, .box bk11 (u64s (List.replicate 17 0)) 70, .box bk25 (u64s (n32 17 (nv a))) 70, .box bk43 (u64s (n32 17 (nv b))) 70] ∧ (i ≤ 8) ∧ (List.length t = 17) ∧ (DG t) ∧ (dv 4294967296 t = dk (n32 17 (nv a)) i * nv b) ∧ (∀ j, i + 8 ≤ j → List.getD t j 0 = 0)) ⟨_, 0, List.replicate 17 0, rfl, En58.sb, Hv56.pk [5, 2, 3, 4], by omega, (List.length_replicate), DG.rep, by rw [dv_replicate]; simp [dk], fun j _ => zeros17 j⟩ ?_
 rintro mm65 ac61 wo62 ⟨i, t, rfl, En63, Hv64, hi, hlt, hdt, hv, hz⟩
 refine wp_seq ?_
 refine wp_seq ?_
 refine d_r [4,5,6,7,8,17] [] En63 fun ac66 En67 => ?_
 refine then_normal ?_
 refine c_d (((i : Nat) : Int) < (8 : Int)) En67 (fun hc68 => ?_) (fun hc68 => ?_)
 ·
  refine wp_skip ?_
  refine then_normal ?_
  refine wp_seq ?_
  refine wp_block ?_
  refine wp_seq ?_
  refine d_r [4,5,6,7,8,9] [] En67 fun ac69 En70 => ?_
  refine then_normal ?_
  refine wp_seq ?_
  refine wp_seq ?_
  refine d_r [4,5,6,7,8,9,10] [] En70 fun ac71 En72 => ?_
  refine then_normal ?_
  refine wp_block ?_
  refine loop_m (fun ms73 ac wo => ∃ (k : Nat) (u : List UInt64) (c : UInt64), ms73 = (8 - k : Nat) ∧ Env ac 52 [(4, pt bk11), (5, pt bk25), (6, pt bk43), (7, pt bk52), (8, ni i), (9, uv64 c), (10, ni k)] ∧ Ev w [] wo [.box bk52 (u64s u) 70, .box bk11 (u64s (List.replicate 17 0)) 70, .box bk25 (u64s (n32 17 (nv a))) 70, .box bk43 (u64s (n32 17 (nv b))) 70] ∧ (k ≤ 8) ∧ (List.length u = 17) ∧ (DG u) ∧ (c.toNat < 4294967296) ∧ (dv 4294967296 u + c.toNat * 4294967296 ^ (i + k) = dk (n32 17 (nv a)) i * nv b + dk (n32 17 (nv b)) k * (List.getD (n32 17 (nv a)) i 0).toNat * 4294967296 ^ i) ∧ (∀ j, i + 8 ≤ j → List.getD u j 0 = 0)) ⟨_, 0, t, 0, rfl, En72.sb, Hv64.pk [0, 1, 2, 3], by omega, hlt, hdt, by decide, by rw [hv]; simp [dk], hz⟩ ?_
  rintro mm79 ac75 wo76 ⟨k, u, c, rfl, En77, Hv78, hk, hlu, hdu, hcu, hv2, hz2⟩
  refine wp_seq ?_
  refine wp_seq ?_
  refine d_r [4,5,6,7,8,9,10,21] [] En77 fun ac80 En81 => ?_
  refine then_normal ?_
  refine c_d (((k : Nat) : Int) < (8 : Int)) En81 (fun hc82 => ?_) (fun hc82 => ?_)
  ·
   refine wp_skip ?_
   refine then_normal ?_
   refine wp_seq ?_
   refine wp_block ?_
   refine wp_seq ?_
   refine r_c (fun ac wo => Env ac 52 [(4, pt bk11), (5, pt bk25), (6, pt bk43), (7, pt bk52), (8, ni i), (9, uv64 c), (10, ni k), (11, uv64 (((List.getD u (i + k) 0) + ((List.getD (n32 17 (nv a)) i 0) * (List.getD (n32 17 (nv b)) k 0))) + c))] ∧ Ev w [] wo [.box bk52 (u64s u) 70, .box bk11 (u64s (List.replicate 17 0)) 70, .box bk25 (u64s (n32 17 (nv a))) 70, .box bk43 (u64s (n32 17 (nv b))) 70]) ?_ ?_
   ·
    refine h_s (fun wv => Ev w [] wv [.box bk52 (u64s u) 70, .box bk25 (u64s (n32 17 (nv a))) 70, .box bk43 (u64s (n32 17 (nv b))) 70]) [] 16 ?_
    have wo83 := Hv78.trans (Ev.drew Hv78.heap)
    refine q_s [0,1,2] [(2, g_n (w_a i k))] 13 En81 (wo83.pk [0, 2, 3]) fun ac165 En166 => ?_
    refine q_f 3 (s := Instr.indexAt 70 (pt bk52) (ni (i + k))) (v := .pointer (some ⟨bk52, i + k, none⟩)) En166 (fun _ => Go.Dbr.run_indexarr (e := 22) (sz := 1) (m := 17) (j := i + k) (o := i + k) (by kernel_rfl) (by kernel_rfl) (by omega) (by omega) (by omega) _) (fun _ => wo83.pk [0, 2, 3]) fun ac167 En168 => ?_
    have hb169 : i + k < List.length u := by rw [hlu]; omega
    refine q_r 4 (s := Instr.loadAt 22 (.pointer (some ⟨bk52, i + k, none⟩))) (v := uv64 (List.getD u (i + k) 0)) En168 (fun w hS => run_load1 (by kernel_rfl) (hS.heap.cell (k := 0) rfl (u64s_getD hb169))) (wo83.pk [0, 2, 3]) fun ac170 En171 => ?_
    refine q_s [5] [] 10 En171 (wo83.pk [0, 2, 3]) fun ac172 En173 => ?_
    refine q_f 6 (s := Instr.indexAt 70 (pt bk25) (ni i)) (v := .pointer (some ⟨bk25, i, none⟩)) En173 (fun _ => Go.Dbr.run_indexarr (e := 22) (sz := 1) (m := 17) (j := i) (o := i) (by kernel_rfl) (by kernel_rfl) (by omega) (by omega) (by omega) _) (fun _ => wo83.pk [0, 2, 3]) fun ac174 En175 => ?_
    have hb176 : i < List.length (n32 17 (nv a)) := by rw [(n32_len _ _)]; omega
    refine q_r 7 (s := Instr.loadAt 22 (.pointer (some ⟨bk25, i, none⟩))) (v := uv64 (List.getD (n32 17 (nv a)) i 0)) En175 (fun w hS => run_load1 (by kernel_rfl) (hS.heap.cell (k := 1) rfl (u64s_getD hb176))) (wo83.pk [0, 2, 3]) fun ac177 En178 => ?_
    refine q_s [8] [] 7 En178 (wo83.pk [0, 2, 3]) fun ac179 En180 => ?_
    refine q_f 9 (s := Instr.indexAt 70 (pt bk43) (ni k)) (v := .pointer (some ⟨bk43, k, none⟩)) En180 (fun _ => Go.Dbr.run_indexarr (e := 22) (sz := 1) (m := 17) (j := k) (o := k) (by kernel_rfl) (by kernel_rfl) (by omega) (by omega) (by omega) _) (fun _ => wo83.pk [0, 2, 3]) fun ac181 En182 => ?_
    have hb183 : k < List.length (n32 17 (nv b)) := by rw [(n32_len _ _)]; omega
    refine q_r 10 (s := Instr.loadAt 22 (.pointer (some ⟨bk43, k, none⟩))) (v := uv64 (List.getD (n32 17 (nv b)) k 0)) En182 (fun w hS => run_load1 (by kernel_rfl) (hS.heap.cell (k := 2) rfl (u64s_getD hb183))) (wo83.pk [0, 2, 3]) fun ac184 En185 => ?_
    refine q_s [11,12,13,14,15] [(11, g_i .u64 (Go.Dbr.u64_mul (x := List.getD (n32 17 (nv a)) i 0) (y := List.getD (n32 17 (nv b)) k 0) rfl rfl)), (12, g_i .u64 (Go.Dbr.u64_add (x := List.getD u (i + k) 0) (y := (List.getD (n32 17 (nv a)) i 0) * (List.getD (n32 17 (nv b)) k 0)) rfl rfl)), (14, g_i .u64 (Go.Dbr.u64_add (x := (List.getD u (i + k) 0) + ((List.getD (n32 17 (nv a)) i 0) * (List.getD (n32 17 (nv b)) k 0))) (y := c) rfl rfl))] 0 En185 (wo83.pk [0, 2, 3]) fun ac186 En187 => ?_
    exact h_e ⟨En187.sb, wo83.pk [0, 1, 2, 3]⟩
   rintro ac188 wo189 ⟨En190, Hv191⟩
   refine then_normal ?_
   refine wp_seq ?_
   refine region_from ?_
   refine d_k [4,5,6,7,8,9,10,11,41,43] [(2, g_n (w_a i k)), (4, g_i .u64 (Go.Dbr.u64_and (x := ((List.getD u (i + k) 0) + ((List.getD (n32 17 (nv a)) i 0) * (List.getD (n32 17 (nv b)) k 0))) + c) (y := (4294967295 : UInt64)) rfl rfl))] 5 En190 fun ac192 En193 => ?_
   refine f_o ?_
   refine q_v (x := Instr.indexAt 70 (pt bk52) (ni (i + k))) (v := .pointer (some ⟨bk52, i + k, none⟩)) En193 (Go.Dbr.run_indexarr (e := 22) (sz := 1) (m := 17) (j := i + k) (o := i + k) (by kernel_rfl) (by kernel_rfl) (by omega) (by omega) (by omega) _) fun ac194 En195 => ?_
   refine f_o ?_
   have hb196 : i + k < List.length u := by rw [hlu]; omega
   refine m_t 0 (i + k) (uv64 ((((List.getD u (i + k) 0) + ((List.getD (n32 17 (nv a)) i 0) * (List.getD (n32 17 (nv b)) k 0))) + c) &&& (4294967295 : UInt64))) [.box bk52 (u64s (List.set u (i + k) ((((List.getD u (i + k) 0) + ((List.getD (n32 17 (nv a)) i 0) * (List.getD (n32 17 (nv b)) k 0))) + c) &&& (4294967295 : UInt64)))) 70, .box bk11 (u64s (List.replicate 17 0)) 70, .box bk25 (u64s (n32 17 (nv a))) 70, .box bk43 (u64s (n32 17 (nv b))) 70] En195 Hv191 rfl (u64s_getD hb196) (u64s_set _ _ _) rfl fun ac197 wo198 En199 Hv200 => ?_
   refine f_e ?_
   refine then_normal ?_
   refine d_r [4,5,6,7,8,9,10,11] [(1, g_i .u64 (Go.Dbr.u64_shr (x := ((List.getD u (i + k) 0) + ((List.getD (n32 17 (nv a)) i 0) * (List.getD (n32 17 (nv b)) k 0))) + c) (n := 32) rfl (by decide)))] En199 fun ac201 En202 => ?_
   refine block_normal ?_
   refine then_normal ?_
   refine d_r [4,5,6,7,8,9,10,11] [(1, g_n (w_a k 1))] En202 fun ac203 En204 => ?_
   refine then_normal ?_
   refine ⟨_, ⟨k + 1, (List.set u (i + k) ((((List.getD u (i + k) 0) + ((List.getD (n32 17 (nv a)) i 0) * (List.getD (n32 17 (nv b)) k 0))) + c) &&& (4294967295 : UInt64))), ((((List.getD u (i + k) 0) + ((List.getD (n32 17 (nv a)) i 0) * (List.getD (n32 17 (nv b)) k 0))) + c) >>> UInt64.ofNat 32), rfl, En204.sb, Hv200.pk [0, 1, 2, 3], by omega, by simp [hlu], hdu.set (low32 _), high32 _, times_in hlu (by omega) hdu (n32_dig _ _) (n32_dig _ _) hcu hv2 rfl, fun j hj => by rw [getD_set_ne _ (by omega)]; exact hz2 j hj⟩, ?_⟩
   omega
  ·
   refine wp_exit ?_
   refine then_exit ?_
   refine then_exit ?_
   refine block_exit ?_
   refine then_normal ?_
   have hk8 : k = 8 := by omega
   refine region_from ?_
   refine d_k [4,5,6,7,8,9,10,48,49] [(1, g_n (w_a i 8))] 3 En81 fun ac205 En206 => ?_
   refine f_o ?_
   refine q_v (x := Instr.indexAt 70 (pt bk52) (ni (i + 8))) (v := .pointer (some ⟨bk52, i + 8, none⟩)) En206 (Go.Dbr.run_indexarr (e := 22) (sz := 1) (m := 17) (j := i + 8) (o := i + 8) (by kernel_rfl) (by kernel_rfl) (by omega) (by omega) (by omega) _) fun ac207 En208 => ?_
   refine f_o ?_
   have hb209 : i + 8 < List.length u := by rw [hlu]; omega
   refine m_t 0 (i + 8) (uv64 c) [.box bk52 (u64s (List.set u (i + 8) c)) 70, .box bk11 (u64s (List.replicate 17 0)) 70, .box bk25 (u64s (n32 17 (nv a))) 70, .box bk43 (u64s (n32 17 (nv b))) 70] En208 Hv78 rfl (u64s_getD hb209) (u64s_set _ _ _) rfl fun ac210 wo211 En212 Hv213 => ?_
   refine f_e ?_
   refine block_normal ?_
   refine then_normal ?_
   refine d_r [4,5,6,7,8,9,10] [(1, g_n (w_a i 1))] En212 fun ac214 En215 => ?_
   refine then_normal ?_
   refine ⟨_, ⟨i + 1, (List.set u (i + 8) c), rfl, En215.sb, Hv213.pk [0, 1, 2, 3], by omega, by simp [hlu], hdu.set hcu, times_out hlu (by omega) (hz2 _ (by omega)) (dk_nv hb) (by rw [hk8] at hv2; exact hv2), fun j hj => by rw [getD_set_ne _ (by omega)]; exact hz2 j (by omega)⟩, ?_⟩
   omega
 ·
  refine wp_exit ?_
  refine then_exit ?_
  refine then_exit ?_
  refine block_exit ?_
  refine then_normal ?_
  refine wp_seq ?_
  refine region_from ?_
  refine f_o ?_
  refine m_a 0 0 17 (u64s t) En67 Hv64 rfl (load_whole (u64s_lenh hlt)) (u64s_lenh hlt) fun ac216 En217 => ?_
  refine f_o ?_
  refine m_g 1 0 17 (u64s t) (u64s t) [.box bk52 (u64s t) 70, .box bk11 (u64s t) 70, .box bk25 (u64s (n32 17 (nv a))) 70, .box bk43 (u64s (n32 17 (nv b))) 70] En217 Hv64 rfl (u64s_lenh hlt) (by rw [(u64s_lenh (List.length_replicate))]; decide) (u64s_one _) (store_whole (u64s_lenh (List.length_replicate))) rfl fun ac218 wo219 En220 Hv221 => ?_
  refine f_e ?_
  refine then_normal ?_
  refine wp_ret ?_
  refine d_cell1 (v := .agg (List.toArray (u64s t))) (t := 4) (T := 70) (ad := ⟨bk11, 0, none⟩) En220 (by kernel_rfl) (by kernel_rfl) (Ev.cellAgg (t := 70) (k := 1) (off := 0) (m := 17) (xs := u64s t) Hv221 rfl (load_whole (u64s_lenh hlt)) (u64s_lenh hlt) (by kernel_rfl) (by kernel_rfl)) ?_
  have hi8 : i = 8 := by omega
  have hte : t = n32 17 (nv a * nv b) := n32_of hlt hdt (by rw [hv, hi8, dk_nv ha])
  subst hte
  exact ⟨rfl, Hv221.pk []⟩

end Go.Proofs.Ytpfhmbbiadpbeaa
