/- Layer 11: the ladder. -/
import Derived.Test.YteainioaejnecaaF10
namespace Go.Proofs.Yteainioaejnecaa
open Go.Dbr
set_option maxRecDepth 100000
set_option maxHeartbeats 2000000
set_option linter.unusedVariables false
set_option linter.unusedSimpArgs false

/-! reckoning modulo 2^255 - 19 -/
def aL (a b : List UInt64) : List UInt64 := nd (addM 1 (nv a) (nv b))
def sL (a b : List UInt64) : List UInt64 := nd (subM 1 (nv a) (nv b))
def mL (a b : List UInt64) : List UInt64 := nd (mulM 1 (nv a) (nv b))
def iL (a : List UInt64) : List UInt64 := nd (powM 1 (nv a) (mF 1 - 2))
theorem aL_len (a b) : (aL a b).length = 4 := nds_len _ _
theorem sL_len (a b) : (sL a b).length = 4 := nds_len _ _
theorem mL_len (a b) : (mL a b).length = 4 := nds_len _ _
theorem iL_len (a) : (iL a).length = 4 := nds_len _ _
/-- twice, and together -/
def sA (a b : List UInt64) : List UInt64 := mL (mL (aL a b) (aL a b)) (mL (sL a b) (sL a b))
def sB (a b : List UInt64) : List UInt64 := mL (sL (mL (aL a b) (aL a b)) (mL (sL a b) (sL a b))) (aL (mL (aL a b) (aL a b)) (mL [121665, 0, 0, 0] (sL (mL (aL a b) (aL a b)) (mL (sL a b) (sL a b)))))
def sC (a b c d : List UInt64) : List UInt64 := mL (aL (mL (sL c d) (aL a b)) (mL (aL c d) (sL a b))) (aL (mL (sL c d) (aL a b)) (mL (aL c d) (sL a b)))
def sD (x a b c d : List UInt64) : List UInt64 := mL x (mL (sL (mL (sL c d) (aL a b)) (mL (aL c d) (sL a b))) (sL (mL (sL c d) (aL a b)) (mL (aL c d) (sL a b))))
abbrev L4 := List UInt64 × List UInt64 × List UInt64 × List UInt64
def lstep (x : List UInt64) (t : Bool) : L4 → L4
  | (a, b, c, d) => bif t then (sC c d a b, sD x c d a b, sA c d, sB c d) else (sA a b, sB a b, sC a b c d, sD x a b c d)
/-- the ladder: so many bits from above -/
def ladL (x : List UInt64) (n : Nat) : Nat → L4
  | 0 => ([1, 0, 0, 0], [0, 0, 0, 0], x, [1, 0, 0, 0])
  | j + 1 => lstep x (n / 2 ^ (254 - j) % 2 == 1) (ladL x n j)
def endL : L4 → List UInt8
  | (a, b, _, _) => lb 32 (nv (mL a (iL b)))
def multL (x : List UInt64) (n : Nat) : List UInt8 := endL (ladL x n 255)
theorem endL_len (s : L4) : (endL s).length = 32 := lb_len _ _
theorem multL_len (x : List UInt64) (n : Nat) : (multL x n).length = 32 := endL_len _
theorem lad_no {x : List UInt64} {n j k : Nat} {a b c d : List UInt64} (h : ladL x n j = (a, b, c, d)) (hk : k = j + 1) (hb : n / 2 ^ (254 - j) % 2 = 0) : ladL x n k = (sA a b, sB a b, sC a b c d, sD x a b c d) := by
  rw [hk, ladL, h, hb]
  rfl
theorem lad_yes {x : List UInt64} {n j k : Nat} {a b c d : List UInt64} (h : ladL x n j = (a, b, c, d)) (hk : k = j + 1) (hb : n / 2 ^ (254 - j) % 2 = 1) : ladL x n k = (sC c d a b, sD x c d a b, sA c d, sB c d) := by
  rw [hk, ladL, h, hb]
  rfl
theorem mult_of {x : List UInt64} {n : Nat} {a b c d : List UInt64} (h : ladL x n 255 = (a, b, c, d)) : lb 32 (nv (mL a (iL b))) = multL x n := by rw [multL, h]; rfl
theorem lv_dig : ∀ (l : List UInt8) (j : Nat), (List.getD l j 0).toNat = lv l / 256 ^ j % 256
  | [], j => by simp [lv]
  | x :: r, 0 => by have := x.toNat_lt; rw [List.getD_cons_zero, lv, Nat.pow_zero, Nat.div_one]; omega
  | x :: r, j + 1 => by
    have := x.toNat_lt
    rw [List.getD_cons_succ, lv_dig r j, lv, Nat.pow_succ, Nat.mul_comm (_ ^ j), ← Nat.div_div_eq_div_mul]
    congr 2
    omega
theorem bit8_at (k : List UInt8) (i : Nat) : (List.getD k (i / 8) 0 >>> UInt8.ofNat (i % 8) &&& 1).toNat = lv k / 2 ^ i % 2 := by
  have hs : (UInt8.ofNat (i % 8)).toNat % 8 = i % 8 := by rw [ofNat8_val]; omega
  have hp : (2 : Nat) ^ i = 256 ^ (i / 8) * 2 ^ (i % 8) := by rw [show (256 : Nat) = 2 ^ 8 from rfl, ← Nat.pow_mul, ← Nat.pow_add]; congr 1; omega
  rw [UInt8.toNat_and, show (1 : UInt8).toNat = 1 from rfl, Nat.and_one_is_mod, UInt8.toNat_shiftRight, hs, lv_dig, Nat.shiftRight_eq_div_pow, hp, ← Nat.div_div_eq_div_mul]
  generalize lv k / 256 ^ (i / 8) = d
  have hB : 256 = 2 ^ (i % 8) * 2 ^ (8 - i % 8) := by rw [← Nat.pow_add, show i % 8 + (8 - i % 8) = 8 by omega]
  conv => lhs; rw [hB]
  rw [Nat.mod_mul_right_div_self, Nat.mod_mod_of_dvd]
  exact ⟨2 ^ (8 - i % 8 - 1), by rw [← Nat.pow_succ']; congr 1; omega⟩
/-! the bits that are named -/
def clP (k : List UInt8) : List UInt8 := List.set (List.set k 0 (List.getD k 0 0 &&& 248)) 31 (List.getD (List.set k 0 (List.getD k 0 0 &&& 248)) 31 0 &&& 63 ||| 64)
def clD (k : List UInt8) : List UInt8 := List.set (List.set k 0 (List.getD k 0 0 &&& 248)) 31 (List.getD (List.set k 0 (List.getD k 0 0 &&& 248)) 31 0 &&& 127 ||| 64)
def clU (u : List UInt8) : List UInt8 := List.set u 31 (List.getD u 31 0 &&& 127)
theorem clP_len {k : List UInt8} (h : k.length = 32) : (clP k).length = 32 := by simp [clP, h]
theorem clD_len {k : List UInt8} (h : k.length = 32) : (clD k).length = 32 := by simp [clD, h]
theorem clU_len {u : List UInt8} (h : u.length = 32) : (clU u).length = 32 := by simp [clU, h]
def xP (u : List UInt8) : List UInt64 := mL (nd (lv (clU u))) [1, 0, 0, 0]
def xD (u : List UInt8) : List UInt64 := nd (lv (clU u) % mF 1)
theorem xP_len (u) : (xP u).length = 4 := nds_len _ _
theorem xD_len (u) : (xD u).length = 4 := nds_len _ _
theorem nv_lv {l : List UInt8} (h : l.length = 32) : nv (nd (lv l)) = lv l := nv_nd (by
  have e := lv_lt l
  rw [h] at e
  exact Nat.lt_of_lt_of_eq e (by decide))
theorem dbit {l : List UInt8} (h : l.length = 32) (i : Nat) : (List.getD (nd (lv l)) (i / 64) 0 >>> UInt64.ofNat (i % 64) &&& 1).toNat = lv l / 2 ^ i % 2 := by
  rw [bit_at, nv_lv h]
theorem bit_0 {n e : Nat} (h : n = e) (h2 : ((n : Nat) : Int) = (0 : Int)) : e = 0 := by omega
theorem bit_1 {n e : Nat} (h : n = e % 2) (h2 : ¬ ((n : Nat) : Int) = (0 : Int)) : e % 2 = 1 := by omega
theorem bit_0' {n e : Nat} (h : n = e % 2) (h2 : ¬ ((n : Nat) : Int) = (1 : Int)) : e % 2 = 0 := by omega
theorem bit_1' {n e : Nat} (h : n = e) (h2 : ((n : Nat) : Int) = (1 : Int)) : e = 1 := by omega

theorem mul1_go (w : World) (a b : List UInt64) (ha : List.length a = 4) (hb : List.length b = 4) : Calls Try.prog 27 #[.int .i64 1, .agg (List.toArray (u64s a)), .agg (List.toArray (u64s b))] w fun e w' => e = .returned (.agg (List.toArray (u64s (nd (mulM 1 (nv a) (nv b)))))) ∧ Ev w [] w' [] := by
 refine d_0 [(0, .int .i64 1), (1, .agg (List.toArray (u64s a))), (2, .agg (List.toArray (u64s b)))] 45 Go.Proofs.Try.func27 Go.Proofs.Try.ntmps27 (Heap.nil _) fun act0 En0 Hv0 => ?_
 refine wp_seq ?_
 refine region_from ?_
 refine f_o ?_
 refine m_m 33 (u64s a) En0 Hv0 fun ac2 wo3 bk1 En4 Hv5 => ?_
 refine f_o ?_
 refine m_m 33 (u64s b) En4 Hv5 fun ac7 wo8 bk6 En9 Hv10 => ?_
 refine f_o ?_
 refine m_z 33 (u64s (List.replicate 4 0)) En9 Hv10 fun ac12 wo13 bk11 En14 Hv15 => ?_
 refine f_e ?_
 refine then_normal ?_
 refine wp_seq ?_
 refine d_s [0,4,5,6,9] [] En14 fun ac16 En17 => ?_
 refine wp_block ?_
 refine d_s [0,4,5,6,9,10] [] En17 fun ac18 En19 => ?_
 refine c_t En19 ?_
 refine wp_seq ?_
 refine region_from ?_
 refine f_o ?_
 refine m_a 0 0 4 (u64s a) En19 Hv15 rfl (load_whole (u64s_lenh ha)) (u64s_lenh ha) fun ac20 En21 => ?_
 refine f_o ?_
 refine m_a 1 0 4 (u64s b) En21 Hv15 rfl (load_whole (u64s_lenh hb)) (u64s_lenh hb) fun ac22 En23 => ?_
 refine f_o ?_
 refine c_p En23 Hv15 (mul25_go _ a b ha hb) fun ac28 wo25 En29 Hv30 => ?_
 refine f_o ?_
 refine m_g 2 0 4 (u64s (nd ((nv a * nv b) % mF 1))) (u64s (nd ((nv a * nv b) % mF 1))) [.box bk1 (u64s a) 33, .box bk6 (u64s b) 33, .box bk11 (u64s (nd ((nv a * nv b) % mF 1))) 33] En29 Hv30 rfl (u64s_lenh (nds_len _ _)) (by rw [(u64s_lenh (List.length_replicate))]; decide) (u64s_one _) (store_whole (u64s_lenh (List.length_replicate))) rfl fun ac31 wo32 En33 Hv34 => ?_
 refine f_e ?_
 refine then_normal ?_
 refine wp_ret ?_
 refine block_ret ?_
 refine then_ret ?_
 refine d_cell1 (v := .agg (List.toArray (u64s (nd ((nv a * nv b) % mF 1))))) (t := 6) (T := 33) (ad := ⟨bk11, 0, none⟩) En33 (by kernel_rfl) (by kernel_rfl) (Ev.cellAgg (t := 33) (k := 2) (off := 0) (m := 4) (xs := u64s (nd ((nv a * nv b) % mF 1))) Hv34 rfl (load_whole (u64s_lenh (nds_len _ _))) (u64s_lenh (nds_len _ _)) (by kernel_rfl) (by kernel_rfl)) ?_
 exact ⟨rfl, Hv34.pk []⟩

theorem hM1 : MulOk 1 := mul1_go
theorem hL1 : LeftOk 1 := leftOk3 (.inl rfl)
theorem hR1 : RMulOk 1 := rmulOk (.inl rfl) hL1

theorem xmul_go (w : World) (a b : List UInt64) (ha : List.length a = 4) (hb : List.length b = 4) : Calls Try.prog 15 #[.agg (List.toArray (u64s a)), .agg (List.toArray (u64s b))] w fun e w' => e = .returned (.agg (List.toArray (u64s (mL a b)))) ∧ Ev w [] w' [] := by
 refine d_0 [(0, .agg (List.toArray (u64s a))), (1, .agg (List.toArray (u64s b)))] 8 Go.Proofs.Try.func15 Go.Proofs.Try.ntmps15 (Heap.nil _) fun act0 En0 Hv0 => ?_
 refine wp_seq ?_
 refine region_from ?_
 refine f_o ?_
 refine m_m 33 (u64s a) En0 Hv0 fun ac2 wo3 bk1 En4 Hv5 => ?_
 refine f_o ?_
 refine m_m 33 (u64s b) En4 Hv5 fun ac7 wo8 bk6 En9 Hv10 => ?_
 refine f_o ?_
 refine m_z 33 (u64s (List.replicate 4 0)) En9 Hv10 fun ac12 wo13 bk11 En14 Hv15 => ?_
 refine f_e ?_
 refine then_normal ?_
 refine wp_seq ?_
 refine region_from ?_
 refine f_o ?_
 refine m_a 0 0 4 (u64s a) En14 Hv15 rfl (load_whole (u64s_lenh ha)) (u64s_lenh ha) fun ac16 En17 => ?_
 refine f_o ?_
 refine m_a 1 0 4 (u64s b) En17 Hv15 rfl (load_whole (u64s_lenh hb)) (u64s_lenh hb) fun ac18 En19 => ?_
 refine f_o ?_
 refine c_p En19 Hv15 (hM1 _ a b ha hb) fun ac24 wo21 En25 Hv26 => ?_
 refine f_o ?_
 refine m_g 2 0 4 (u64s (nd (mulM 1 (nv a) (nv b)))) (u64s (nd (mulM 1 (nv a) (nv b)))) [.box bk1 (u64s a) 33, .box bk6 (u64s b) 33, .box bk11 (u64s (nd (mulM 1 (nv a) (nv b)))) 33] En25 Hv26 rfl (u64s_lenh (nds_len _ _)) (by rw [(u64s_lenh (List.length_replicate))]; decide) (u64s_one _) (store_whole (u64s_lenh (List.length_replicate))) rfl fun ac27 wo28 En29 Hv30 => ?_
 refine f_e ?_
 refine then_normal ?_
 refine wp_ret ?_
 refine d_cell1 (v := .agg (List.toArray (u64s (nd (mulM 1 (nv a) (nv b)))))) (t := 4) (T := 33) (ad := ⟨bk11, 0, none⟩) En29 (by kernel_rfl) (by kernel_rfl) (Ev.cellAgg (t := 33) (k := 2) (off := 0) (m := 4) (xs := u64s (nd (mulM 1 (nv a) (nv b)))) Hv30 rfl (load_whole (u64s_lenh (nds_len _ _))) (u64s_lenh (nds_len _ _)) (by kernel_rfl) (by kernel_rfl)) ?_
 exact ⟨rfl, Hv30.pk []⟩

theorem xsum_go (w : World) (a b : List UInt64) (ha : List.length a = 4) (hb : List.length b = 4) : Calls Try.prog 28 #[.agg (List.toArray (u64s a)), .agg (List.toArray (u64s b))] w fun e w' => e = .returned (.agg (List.toArray (u64s (aL a b)))) ∧ Ev w [] w' [] := by
 refine d_0 [(0, .agg (List.toArray (u64s a))), (1, .agg (List.toArray (u64s b)))] 8 Go.Proofs.Try.func28 Go.Proofs.Try.ntmps28 (Heap.nil _) fun act0 En0 Hv0 => ?_
 refine wp_seq ?_
 refine region_from ?_
 refine f_o ?_
 refine m_m 33 (u64s a) En0 Hv0 fun ac2 wo3 bk1 En4 Hv5 => ?_
 refine f_o ?_
 refine m_m 33 (u64s b) En4 Hv5 fun ac7 wo8 bk6 En9 Hv10 => ?_
 refine f_o ?_
 refine m_z 33 (u64s (List.replicate 4 0)) En9 Hv10 fun ac12 wo13 bk11 En14 Hv15 => ?_
 refine f_e ?_
 refine then_normal ?_
 refine wp_seq ?_
 refine region_from ?_
 refine f_o ?_
 refine m_a 0 0 4 (u64s a) En14 Hv15 rfl (load_whole (u64s_lenh ha)) (u64s_lenh ha) fun ac16 En17 => ?_
 refine f_o ?_
 refine m_a 1 0 4 (u64s b) En17 Hv15 rfl (load_whole (u64s_lenh hb)) (u64s_lenh hb) fun ac18 En19 => ?_
 refine f_o ?_
 refine c_p En19 Hv15 (add_go _ 1 (.inl rfl) a b ha hb) fun ac24 wo21 En25 Hv26 => ?_
 refine f_o ?_
 refine m_g 2 0 4 (u64s (nd (addM 1 (nv a) (nv b)))) (u64s (nd (addM 1 (nv a) (nv b)))) [.box bk1 (u64s a) 33, .box bk6 (u64s b) 33, .box bk11 (u64s (nd (addM 1 (nv a) (nv b)))) 33] En25 Hv26 rfl (u64s_lenh (nds_len _ _)) (by rw [(u64s_lenh (List.length_replicate))]; decide) (u64s_one _) (store_whole (u64s_lenh (List.length_replicate))) rfl fun ac27 wo28 En29 Hv30 => ?_
 refine f_e ?_
 refine then_normal ?_
 refine wp_ret ?_
 refine d_cell1 (v := .agg (List.toArray (u64s (nd (addM 1 (nv a) (nv b)))))) (t := 4) (T := 33) (ad := ⟨bk11, 0, none⟩) En29 (by kernel_rfl) (by kernel_rfl) (Ev.cellAgg (t := 33) (k := 2) (off := 0) (m := 4) (xs := u64s (nd (addM 1 (nv a) (nv b)))) Hv30 rfl (load_whole (u64s_lenh (nds_len _ _))) (u64s_lenh (nds_len _ _)) (by kernel_rfl) (by kernel_rfl)) ?_
 exact ⟨rfl, Hv30.pk []⟩

theorem xdif_go (w : World) (a b : List UInt64) (ha : List.length a = 4) (hb : List.length b = 4) : Calls Try.prog 29 #[.agg (List.toArray (u64s a)), .agg (List.toArray (u64s b))] w fun e w' => e = .returned (.agg (List.toArray (u64s (sL a b)))) ∧ Ev w [] w' [] := by
 refine d_0 [(0, .agg (List.toArray (u64s a))), (1, .agg (List.toArray (u64s b)))] 8 Go.Proofs.Try.func29 Go.Proofs.Try.ntmps29 (Heap.nil _) fun act0 En0 Hv0 => ?_
 refine wp_seq ?_
 refine region_from ?_
 refine f_o ?_
 refine m_m 33 (u64s a) En0 Hv0 fun ac2 wo3 bk1 En4 Hv5 => ?_
 refine f_o ?_
 refine m_m 33 (u64s b) En4 Hv5 fun ac7 wo8 bk6 En9 Hv10 => ?_
 refine f_o ?_
 refine m_z 33 (u64s (List.replicate 4 0)) En9 Hv10 fun ac12 wo13 bk11 En14 Hv15 => ?_
 refine f_e ?_
 refine then_normal ?_
 refine wp_seq ?_
 refine region_from ?_
 refine f_o ?_
 refine m_a 0 0 4 (u64s a) En14 Hv15 rfl (load_whole (u64s_lenh ha)) (u64s_lenh ha) fun ac16 En17 => ?_
 refine f_o ?_
 refine m_a 1 0 4 (u64s b) En17 Hv15 rfl (load_whole (u64s_lenh hb)) (u64s_lenh hb) fun ac18 En19 => ?_
 refine f_o ?_
 refine c_p En19 Hv15 (sub_go _ 1 (.inl rfl) a b ha hb) fun ac24 wo21 En25 Hv26 => ?_
 refine f_o ?_
 refine m_g 2 0 4 (u64s (nd (subM 1 (nv a) (nv b)))) (u64s (nd (subM 1 (nv a) (nv b)))) [.box bk1 (u64s a) 33, .box bk6 (u64s b) 33, .box bk11 (u64s (nd (subM 1 (nv a) (nv b)))) 33] En25 Hv26 rfl (u64s_lenh (nds_len _ _)) (by rw [(u64s_lenh (List.length_replicate))]; decide) (u64s_one _) (store_whole (u64s_lenh (List.length_replicate))) rfl fun ac27 wo28 En29 Hv30 => ?_
 refine f_e ?_
 refine then_normal ?_
 refine wp_ret ?_
 refine d_cell1 (v := .agg (List.toArray (u64s (nd (subM 1 (nv a) (nv b)))))) (t := 4) (T := 33) (ad := ⟨bk11, 0, none⟩) En29 (by kernel_rfl) (by kernel_rfl) (Ev.cellAgg (t := 33) (k := 2) (off := 0) (m := 4) (xs := u64s (nd (subM 1 (nv a) (nv b)))) Hv30 rfl (load_whole (u64s_lenh (nds_len _ _))) (u64s_lenh (nds_len _ _)) (by kernel_rfl) (by kernel_rfl)) ?_
 exact ⟨rfl, Hv30.pk []⟩

theorem ymul_go (w : World) (a b : List UInt64) (ha : List.length a = 4) (hb : List.length b = 4) : Calls Try.prog 24 #[.agg (List.toArray (u64s a)), .agg (List.toArray (u64s b))] w fun e w' => e = .returned (.agg (List.toArray (u64s (mL a b)))) ∧ Ev w [] w' [] := by
 refine d_0 [(0, .agg (List.toArray (u64s a))), (1, .agg (List.toArray (u64s b)))] 8 Go.Proofs.Try.func24 Go.Proofs.Try.ntmps24 (Heap.nil _) fun act0 En0 Hv0 => ?_
 refine wp_seq ?_
 refine region_from ?_
 refine f_o ?_
 refine m_m 33 (u64s a) En0 Hv0 fun ac2 wo3 bk1 En4 Hv5 => ?_
 refine f_o ?_
 refine m_m 33 (u64s b) En4 Hv5 fun ac7 wo8 bk6 En9 Hv10 => ?_
 refine f_o ?_
 refine m_z 33 (u64s (List.replicate 4 0)) En9 Hv10 fun ac12 wo13 bk11 En14 Hv15 => ?_
 refine f_e ?_
 refine then_normal ?_
 refine wp_seq ?_
 refine region_from ?_
 refine f_o ?_
 refine m_a 0 0 4 (u64s a) En14 Hv15 rfl (load_whole (u64s_lenh ha)) (u64s_lenh ha) fun ac16 En17 => ?_
 refine f_o ?_
 refine m_a 1 0 4 (u64s b) En17 Hv15 rfl (load_whole (u64s_lenh hb)) (u64s_lenh hb) fun ac18 En19 => ?_
 refine f_o ?_
 refine c_p En19 Hv15 (hR1 _ a b ha hb) fun ac24 wo21 En25 Hv26 => ?_
 refine f_o ?_
 refine m_g 2 0 4 (u64s (nd (mulM 1 (nv a) (nv b)))) (u64s (nd (mulM 1 (nv a) (nv b)))) [.box bk1 (u64s a) 33, .box bk6 (u64s b) 33, .box bk11 (u64s (nd (mulM 1 (nv a) (nv b)))) 33] En25 Hv26 rfl (u64s_lenh (nds_len _ _)) (by rw [(u64s_lenh (List.length_replicate))]; decide) (u64s_one _) (store_whole (u64s_lenh (List.length_replicate))) rfl fun ac27 wo28 En29 Hv30 => ?_
 refine f_e ?_
 refine then_normal ?_
 refine wp_ret ?_
 refine d_cell1 (v := .agg (List.toArray (u64s (nd (mulM 1 (nv a) (nv b)))))) (t := 4) (T := 33) (ad := ⟨bk11, 0, none⟩) En29 (by kernel_rfl) (by kernel_rfl) (Ev.cellAgg (t := 33) (k := 2) (off := 0) (m := 4) (xs := u64s (nd (mulM 1 (nv a) (nv b)))) Hv30 rfl (load_whole (u64s_lenh (nds_len _ _))) (u64s_lenh (nds_len _ _)) (by kernel_rfl) (by kernel_rfl)) ?_
 exact ⟨rfl, Hv30.pk []⟩

theorem yadd_go (w : World) (a b : List UInt64) (ha : List.length a = 4) (hb : List.length b = 4) : Calls Try.prog 22 #[.agg (List.toArray (u64s a)), .agg (List.toArray (u64s b))] w fun e w' => e = .returned (.agg (List.toArray (u64s (aL a b)))) ∧ Ev w [] w' [] := by
 refine d_0 [(0, .agg (List.toArray (u64s a))), (1, .agg (List.toArray (u64s b)))] 8 Go.Proofs.Try.func22 Go.Proofs.Try.ntmps22 (Heap.nil _) fun act0 En0 Hv0 => ?_
 refine wp_seq ?_
 refine region_from ?_
 refine f_o ?_
 refine m_m 33 (u64s a) En0 Hv0 fun ac2 wo3 bk1 En4 Hv5 => ?_
 refine f_o ?_
 refine m_m 33 (u64s b) En4 Hv5 fun ac7 wo8 bk6 En9 Hv10 => ?_
 refine f_o ?_
 refine m_z 33 (u64s (List.replicate 4 0)) En9 Hv10 fun ac12 wo13 bk11 En14 Hv15 => ?_
 refine f_e ?_
 refine then_normal ?_
 refine wp_seq ?_
 refine region_from ?_
 refine f_o ?_
 refine m_a 0 0 4 (u64s a) En14 Hv15 rfl (load_whole (u64s_lenh ha)) (u64s_lenh ha) fun ac16 En17 => ?_
 refine f_o ?_
 refine m_a 1 0 4 (u64s b) En17 Hv15 rfl (load_whole (u64s_lenh hb)) (u64s_lenh hb) fun ac18 En19 => ?_
 refine f_o ?_
 refine c_p En19 Hv15 (radd_go _ 1 (.inl rfl) hL1 a b ha hb) fun ac24 wo21 En25 Hv26 => ?_
 refine f_o ?_
 refine m_g 2 0 4 (u64s (nd (addM 1 (nv a) (nv b)))) (u64s (nd (addM 1 (nv a) (nv b)))) [.box bk1 (u64s a) 33, .box bk6 (u64s b) 33, .box bk11 (u64s (nd (addM 1 (nv a) (nv b)))) 33] En25 Hv26 rfl (u64s_lenh (nds_len _ _)) (by rw [(u64s_lenh (List.length_replicate))]; decide) (u64s_one _) (store_whole (u64s_lenh (List.length_replicate))) rfl fun ac27 wo28 En29 Hv30 => ?_
 refine f_e ?_
 refine then_normal ?_
 refine wp_ret ?_
 refine d_cell1 (v := .agg (List.toArray (u64s (nd (addM 1 (nv a) (nv b)))))) (t := 4) (T := 33) (ad := ⟨bk11, 0, none⟩) En29 (by kernel_rfl) (by kernel_rfl) (Ev.cellAgg (t := 33) (k := 2) (off := 0) (m := 4) (xs := u64s (nd (addM 1 (nv a) (nv b)))) Hv30 rfl (load_whole (u64s_lenh (nds_len _ _))) (u64s_lenh (nds_len _ _)) (by kernel_rfl) (by kernel_rfl)) ?_
 exact ⟨rfl, Hv30.pk []⟩

theorem ysub_go (w : World) (a b : List UInt64) (ha : List.length a = 4) (hb : List.length b = 4) : Calls Try.prog 23 #[.agg (List.toArray (u64s a)), .agg (List.toArray (u64s b))] w fun e w' => e = .returned (.agg (List.toArray (u64s (sL a b)))) ∧ Ev w [] w' [] := by
 refine d_0 [(0, .agg (List.toArray (u64s a))), (1, .agg (List.toArray (u64s b)))] 8 Go.Proofs.Try.func23 Go.Proofs.Try.ntmps23 (Heap.nil _) fun act0 En0 Hv0 => ?_
 refine wp_seq ?_
 refine region_from ?_
 refine f_o ?_
 refine m_m 33 (u64s a) En0 Hv0 fun ac2 wo3 bk1 En4 Hv5 => ?_
 refine f_o ?_
 refine m_m 33 (u64s b) En4 Hv5 fun ac7 wo8 bk6 En9 Hv10 => ?_
 refine f_o ?_
 refine m_z 33 (u64s (List.replicate 4 0)) En9 Hv10 fun ac12 wo13 bk11 En14 Hv15 => ?_
 refine f_e ?_
 refine then_normal ?_
 refine wp_seq ?_
 refine region_from ?_
 refine f_o ?_
 refine m_a 0 0 4 (u64s a) En14 Hv15 rfl (load_whole (u64s_lenh ha)) (u64s_lenh ha) fun ac16 En17 => ?_
 refine f_o ?_
 refine m_a 1 0 4 (u64s b) En17 Hv15 rfl (load_whole (u64s_lenh hb)) (u64s_lenh hb) fun ac18 En19 => ?_
 refine f_o ?_
 refine c_p En19 Hv15 (rsub_go _ 1 (.inl rfl) hL1 a b ha hb) fun ac24 wo21 En25 Hv26 => ?_
 refine f_o ?_
 refine m_g 2 0 4 (u64s (nd (subM 1 (nv a) (nv b)))) (u64s (nd (subM 1 (nv a) (nv b)))) [.box bk1 (u64s a) 33, .box bk6 (u64s b) 33, .box bk11 (u64s (nd (subM 1 (nv a) (nv b)))) 33] En25 Hv26 rfl (u64s_lenh (nds_len _ _)) (by rw [(u64s_lenh (List.length_replicate))]; decide) (u64s_one _) (store_whole (u64s_lenh (List.length_replicate))) rfl fun ac27 wo28 En29 Hv30 => ?_
 refine f_e ?_
 refine then_normal ?_
 refine wp_ret ?_
 refine d_cell1 (v := .agg (List.toArray (u64s (nd (subM 1 (nv a) (nv b)))))) (t := 4) (T := 33) (ad := ⟨bk11, 0, none⟩) En29 (by kernel_rfl) (by kernel_rfl) (Ev.cellAgg (t := 33) (k := 2) (off := 0) (m := 4) (xs := u64s (nd (subM 1 (nv a) (nv b)))) Hv30 rfl (load_whole (u64s_lenh (nds_len _ _))) (u64s_lenh (nds_len _ _)) (by kernel_rfl) (by kernel_rfl)) ?_
 exact ⟨rfl, Hv30.pk []⟩

theorem step_go (w : World) (a b c d x : List UInt64) (ha : List.length a = 4) (hb : List.length b = 4) (hc : List.length c = 4) (hd : List.length d = 4) (hx : List.length x = 4) : Calls Try.prog 17 #[.agg (List.toArray ((u64s a) ++ (u64s b))), .agg (List.toArray ((u64s c) ++ (u64s d))), .agg (List.toArray (u64s x))] w fun e w' => e = .returned (.tuple #[.agg (List.toArray ((u64s (sA a b)) ++ (u64s (sB a b)))), .agg (List.toArray ((u64s (sC a b c d)) ++ (u64s (sD x a b c d))))]) ∧ Ev w [] w' [] := by
 refine d_0 [(0, .agg (List.toArray ((u64s a) ++ (u64s b)))), (1, .agg (List.toArray ((u64s c) ++ (u64s d)))), (2, .agg (List.toArray (u64s x)))] 76 Go.Proofs.Try.func17 Go.Proofs.Try.ntmps17 (Heap.nil _) fun act0 En0 Hv0 => ?_
 refine wp_seq ?_
 refine region_from ?_
 refine f_o ?_
 refine m_m 37 ((u64s a) ++ (u64s b)) En0 Hv0 fun ac2 wo3 bk1 En4 Hv5 => ?_
 refine f_o ?_
 refine m_m 37 ((u64s c) ++ (u64s d)) En4 Hv5 fun ac7 wo8 bk6 En9 Hv10 => ?_
 refine f_o ?_
 refine m_m 33 (u64s x) En9 Hv10 fun ac12 wo13 bk11 En14 Hv15 => ?_
 refine f_o ?_
 refine m_z 37 ((u64s (List.replicate 4 0)) ++ (u64s (List.replicate 4 0))) En14 Hv15 fun ac17 wo18 bk16 En19 Hv20 => ?_
 refine f_o ?_
 refine m_z 37 ((u64s (List.replicate 4 0)) ++ (u64s (List.replicate 4 0))) En19 Hv20 fun ac22 wo23 bk21 En24 Hv25 => ?_
 refine f_e ?_
 refine then_normal ?_
 refine wp_seq ?_
 refine r_c (fun ac wo => ∃ (bk1020 : Nat) (bk1025 : Nat), Env ac 76 [(4, pt bk6), (5, pt bk11), (6, pt bk16), (7, pt bk21), (8, pt bk1020), (9, pt bk1025)] ∧ Ev w [] wo [.box bk6 ((u64s c) ++ (u64s d)) 37, .box bk11 (u64s x) 33, .box bk16 ((u64s (List.replicate 4 0)) ++ (u64s (List.replicate 4 0))) 37, .box bk21 ((u64s (List.replicate 4 0)) ++ (u64s (List.replicate 4 0))) 37, .box bk1020 (u64s (aL a b)) 33, .box bk1025 (u64s (sL a b)) 33]) ?_ ?_
 ·
  refine h_s (fun wv => Ev w [] wv [.box bk1 ((u64s a) ++ (u64s b)) 37]) [] 14 ?_
  have wo26 := Hv25.trans (Ev.drew Hv25.heap)
  refine h_name fun G hG => ?_
  have nd1161 : ∀ (ac : Act) (wo : World) (bk1020 : Nat), Env ac 76 [(4, pt bk6), (5, pt bk11), (6, pt bk16), (7, pt bk21), (8, pt bk1020), (21, .agg (List.toArray (u64s (aL a b)))), (26, .agg (List.toArray (u64s (sL a b))))] → Ev w [] wo [.box bk1 ((u64s a) ++ (u64s b)) 37, .box bk6 ((u64s c) ++ (u64s d)) 37, .box bk11 (u64s x) 33, .box bk16 ((u64s (List.replicate 4 0)) ++ (u64s (List.replicate 4 0))) 37, .box bk21 ((u64s (List.replicate 4 0)) ++ (u64s (List.replicate 4 0))) 37, .box bk1020 (u64s (List.replicate 4 0)) 33] → G 3 #[true, true, true, true, true, true, true, true, true, true, true, false, false, false] ac wo := by
   intro ac1162 wo1163 bk1020 En1164 Hv1165
   refine h_from hG ?_
   refine q_t 11 ?_
   refine m_z 33 (u64s (List.replicate 4 0)) En1164 Hv1165 fun ac1167 wo1168 bk1166 En1169 Hv1170 => ?_
   refine ⟨fun _ => Hv1170.pk [0], ?_⟩
   refine q_t 12 ?_
   refine m_g 5 0 4 (u64s (aL a b)) (u64s (aL a b)) [.box bk1 ((u64s a) ++ (u64s b)) 37, .box bk6 ((u64s c) ++ (u64s d)) 37, .box bk11 (u64s x) 33, .box bk16 ((u64s (List.replicate 4 0)) ++ (u64s (List.replicate 4 0))) 37, .box bk21 ((u64s (List.replicate 4 0)) ++ (u64s (List.replicate 4 0))) 37, .box bk1020 (u64s (aL a b)) 33, .box bk1166 (u64s (List.replicate 4 0)) 33] En1169 Hv1170 rfl (u64s_lenh (aL_len _ _)) (by rw [(u64s_lenh (List.length_replicate))]; decide) (u64s_one _) (store_whole (u64s_lenh (List.length_replicate))) rfl fun ac1171 wo1172 En1173 Hv1174 => ?_
   refine ⟨fun _ => Hv1174.pk [0], ?_⟩
   refine q_t 13 ?_
   refine m_g 6 0 4 (u64s (sL a b)) (u64s (sL a b)) [.box bk1 ((u64s a) ++ (u64s b)) 37, .box bk6 ((u64s c) ++ (u64s d)) 37, .box bk11 (u64s x) 33, .box bk16 ((u64s (List.replicate 4 0)) ++ (u64s (List.replicate 4 0))) 37, .box bk21 ((u64s (List.replicate 4 0)) ++ (u64s (List.replicate 4 0))) 37, .box bk1020 (u64s (aL a b)) 33, .box bk1166 (u64s (sL a b)) 33] En1173 Hv1174 rfl (u64s_lenh (sL_len _ _)) (by rw [(u64s_lenh (List.length_replicate))]; decide) (u64s_one _) (store_whole (u64s_lenh (List.length_replicate))) rfl fun ac1175 wo1176 En1177 Hv1178 => ?_
   refine ⟨fun _ => Hv1178.pk [0], ?_⟩
   exact h_e ⟨bk1020, bk1166, En1177.sb, Hv1178.pk [1, 2, 3, 4, 5, 6]⟩
  have nd1179 : ∀ (ac : Act) (wo : World) (bk1038 : Nat), Env ac 76 [(4, pt bk6), (5, pt bk11), (6, pt bk16), (7, pt bk21), (9, pt bk1038), (21, .agg (List.toArray (u64s (aL a b)))), (26, .agg (List.toArray (u64s (sL a b))))] → Ev w [] wo [.box bk1 ((u64s a) ++ (u64s b)) 37, .box bk6 ((u64s c) ++ (u64s d)) 37, .box bk11 (u64s x) 33, .box bk16 ((u64s (List.replicate 4 0)) ++ (u64s (List.replicate 4 0))) 37, .box bk21 ((u64s (List.replicate 4 0)) ++ (u64s (List.replicate 4 0))) 37, .box bk1038 (u64s (List.replicate 4 0)) 33] → G 3 #[true, true, true, true, true, true, true, true, true, true, false, true, false, false] ac wo := by
   intro ac1180 wo1181 bk1038 En1182 Hv1183
   refine h_from hG ?_
   refine q_t 10 ?_
   refine m_z 33 (u64s (List.replicate 4 0)) En1182 Hv1183 fun ac1185 wo1186 bk1184 En1187 Hv1188 => ?_
   refine ⟨fun _ => Hv1188.pk [0], ?_⟩
   refine q_t 12 ?_
   refine m_g 6 0 4 (u64s (aL a b)) (u64s (aL a b)) [.box bk1 ((u64s a) ++ (u64s b)) 37, .box bk6 ((u64s c) ++ (u64s d)) 37, .box bk11 (u64s x) 33, .box bk16 ((u64s (List.replicate 4 0)) ++ (u64s (List.replicate 4 0))) 37, .box bk21 ((u64s (List.replicate 4 0)) ++ (u64s (List.replicate 4 0))) 37, .box bk1038 (u64s (List.replicate 4 0)) 33, .box bk1184 (u64s (aL a b)) 33] En1187 Hv1188 rfl (u64s_lenh (aL_len _ _)) (by rw [(u64s_lenh (List.length_replicate))]; decide) (u64s_one _) (store_whole (u64s_lenh (List.length_replicate))) rfl fun ac1189 wo1190 En1191 Hv1192 => ?_
   refine ⟨fun _ => Hv1192.pk [0], ?_⟩
   refine q_t 13 ?_
   refine m_g 5 0 4 (u64s (sL a b)) (u64s (sL a b)) [.box bk1 ((u64s a) ++ (u64s b)) 37, .box bk6 ((u64s c) ++ (u64s d)) 37, .box bk11 (u64s x) 33, .box bk16 ((u64s (List.replicate 4 0)) ++ (u64s (List.replicate 4 0))) 37, .box bk21 ((u64s (List.replicate 4 0)) ++ (u64s (List.replicate 4 0))) 37, .box bk1038 (u64s (sL a b)) 33, .box bk1184 (u64s (aL a b)) 33] En1191 Hv1192 rfl (u64s_lenh (sL_len _ _)) (by rw [(u64s_lenh (List.length_replicate))]; decide) (u64s_one _) (store_whole (u64s_lenh (List.length_replicate))) rfl fun ac1193 wo1194 En1195 Hv1196 => ?_
   refine ⟨fun _ => Hv1196.pk [0], ?_⟩
   exact h_e ⟨bk1184, bk1038, En1195.sb, Hv1196.pk [1, 2, 3, 4, 6, 5]⟩
  have nd1197 : ∀ (ac : Act) (wo : World) (bk1056 : Nat) (bk1068 : Nat), Env ac 76 [(4, pt bk6), (5, pt bk11), (6, pt bk16), (7, pt bk21), (8, pt bk1056), (9, pt bk1068), (21, .agg (List.toArray (u64s (aL a b)))), (23, .agg (List.toArray (u64s a))), (25, .agg (List.toArray (u64s b)))] → Ev w [] wo [.box bk1 ((u64s a) ++ (u64s b)) 37, .box bk6 ((u64s c) ++ (u64s d)) 37, .box bk11 (u64s x) 33, .box bk16 ((u64s (List.replicate 4 0)) ++ (u64s (List.replicate 4 0))) 37, .box bk21 ((u64s (List.replicate 4 0)) ++ (u64s (List.replicate 4 0))) 37, .box bk1056 (u64s (List.replicate 4 0)) 33, .box bk1068 (u64s (List.replicate 4 0)) 33] → G 3 #[true, true, true, true, true, true, true, true, true, false, true, true, false, false] ac wo := by
   intro ac1198 wo1199 bk1056 bk1068 En1200 Hv1201
   refine h_from hG ?_
   refine q_t 9 ?_
   refine c_p En1200 Hv1201 (xdif_go _ a b ha hb) fun ac1206 wo1203 En1207 Hv1208 => ?_
   refine ⟨fun _ => Hv1208.pk [0], ?_⟩
   refine q_t 12 ?_
   refine m_g 5 0 4 (u64s (aL a b)) (u64s (aL a b)) [.box bk1 ((u64s a) ++ (u64s b)) 37, .box bk6 ((u64s c) ++ (u64s d)) 37, .box bk11 (u64s x) 33, .box bk16 ((u64s (List.replicate 4 0)) ++ (u64s (List.replicate 4 0))) 37, .box bk21 ((u64s (List.replicate 4 0)) ++ (u64s (List.replicate 4 0))) 37, .box bk1056 (u64s (aL a b)) 33, .box bk1068 (u64s (List.replicate 4 0)) 33] En1207 Hv1208 rfl (u64s_lenh (aL_len _ _)) (by rw [(u64s_lenh (List.length_replicate))]; decide) (u64s_one _) (store_whole (u64s_lenh (List.length_replicate))) rfl fun ac1209 wo1210 En1211 Hv1212 => ?_
   refine ⟨fun _ => Hv1212.pk [0], ?_⟩
   refine q_t 13 ?_
   refine m_g 6 0 4 (u64s (sL a b)) (u64s (sL a b)) [.box bk1 ((u64s a) ++ (u64s b)) 37, .box bk6 ((u64s c) ++ (u64s d)) 37, .box bk11 (u64s x) 33, .box bk16 ((u64s (List.replicate 4 0)) ++ (u64s (List.replicate 4 0))) 37, .box bk21 ((u64s (List.replicate 4 0)) ++ (u64s (List.replicate 4 0))) 37, .box bk1056 (u64s (aL a b)) 33, .box bk1068 (u64s (sL a b)) 33] En1211 Hv1212 rfl (u64s_lenh (sL_len _ _)) (by rw [(u64s_lenh (List.length_replicate))]; decide) (u64s_one _) (store_whole (u64s_lenh (List.length_replicate))) rfl fun ac1213 wo1214 En1215 Hv1216 => ?_
   refine ⟨fun _ => Hv1216.pk [0], ?_⟩
   exact h_e ⟨bk1056, bk1068, En1215.sb, Hv1216.pk [1, 2, 3, 4, 5, 6]⟩
  have nd1217 : ∀ (ac : Act) (wo : World), Env ac 76 [(4, pt bk6), (5, pt bk11), (6, pt bk16), (7, pt bk21), (21, .agg (List.toArray (u64s (aL a b)))), (26, .agg (List.toArray (u64s (sL a b))))] → Ev w [] wo [.box bk1 ((u64s a) ++ (u64s b)) 37, .box bk6 ((u64s c) ++ (u64s d)) 37, .box bk11 (u64s x) 33, .box bk16 ((u64s (List.replicate 4 0)) ++ (u64s (List.replicate 4 0))) 37, .box bk21 ((u64s (List.replicate 4 0)) ++ (u64s (List.replicate 4 0))) 37] → G 4 #[true, true, true, true, true, true, true, true, true, true, false, false, false, false] ac wo := by
   intro ac1218 wo1219 En1220 Hv1221
   refine h_from hG ?_
   refine h_ways [10, 11] (by kernel_rfl) rfl ?_
   refine ⟨?_, ?_, trivial⟩
   ·
    rintro _ rfl
    refine m_z 33 (u64s (List.replicate 4 0)) En1220 Hv1221 fun ac1223 wo1224 bk1222 En1225 Hv1226 => ?_
    refine ⟨fun _ => Hv1226.pk [0], ?_⟩
    exact h_to hG (by kernel_rfl) (nd1161 _ _ bk1222 (En1225.sb) (Hv1226.pk [0, 1, 2, 3, 4, 5]))
   ·
    rintro _ rfl
    refine m_z 33 (u64s (List.replicate 4 0)) En1220 Hv1221 fun ac1228 wo1229 bk1227 En1230 Hv1231 => ?_
    refine ⟨fun _ => Hv1231.pk [0], ?_⟩
    exact h_to hG (by kernel_rfl) (nd1179 _ _ bk1227 (En1230.sb) (Hv1231.pk [0, 1, 2, 3, 4, 5]))
  have nd1232 : ∀ (ac : Act) (wo : World) (bk1056 : Nat), Env ac 76 [(4, pt bk6), (5, pt bk11), (6, pt bk16), (7, pt bk21), (8, pt bk1056), (21, .agg (List.toArray (u64s (aL a b)))), (23, .agg (List.toArray (u64s a))), (25, .agg (List.toArray (u64s b)))] → Ev w [] wo [.box bk1 ((u64s a) ++ (u64s b)) 37, .box bk6 ((u64s c) ++ (u64s d)) 37, .box bk11 (u64s x) 33, .box bk16 ((u64s (List.replicate 4 0)) ++ (u64s (List.replicate 4 0))) 37, .box bk21 ((u64s (List.replicate 4 0)) ++ (u64s (List.replicate 4 0))) 37, .box bk1056 (u64s (List.replicate 4 0)) 33] → G 4 #[true, true, true, true, true, true, true, true, true, false, true, false, false, false] ac wo := by
   intro ac1233 wo1234 bk1056 En1235 Hv1236
   refine h_from hG ?_
   refine h_ways [9, 11] (by kernel_rfl) rfl ?_
   refine ⟨?_, ?_, trivial⟩
   ·
    rintro _ rfl
    refine c_p En1235 Hv1236 (xdif_go _ a b ha hb) fun ac1241 wo1238 En1242 Hv1243 => ?_
    refine ⟨fun _ => Hv1243.pk [0], ?_⟩
    exact h_to hG (by kernel_rfl) (nd1161 _ _ bk1056 (En1242.sb) (Hv1243.pk [0, 1, 2, 3, 4, 5]))
   ·
    rintro _ rfl
    refine m_z 33 (u64s (List.replicate 4 0)) En1235 Hv1236 fun ac1245 wo1246 bk1244 En1247 Hv1248 => ?_
    refine ⟨fun _ => Hv1248.pk [0], ?_⟩
    exact h_to hG (by kernel_rfl) (nd1197 _ _ bk1056 bk1244 (En1247.sb) (Hv1248.pk [0, 1, 2, 3, 4, 5, 6]))
  have nd1249 : ∀ (ac : Act) (wo : World) (bk1088 : Nat), Env ac 76 [(4, pt bk6), (5, pt bk11), (6, pt bk16), (7, pt bk21), (9, pt bk1088), (21, .agg (List.toArray (u64s (aL a b)))), (23, .agg (List.toArray (u64s a))), (25, .agg (List.toArray (u64s b)))] → Ev w [] wo [.box bk1 ((u64s a) ++ (u64s b)) 37, .box bk6 ((u64s c) ++ (u64s d)) 37, .box bk11 (u64s x) 33, .box bk16 ((u64s (List.replicate 4 0)) ++ (u64s (List.replicate 4 0))) 37, .box bk21 ((u64s (List.replicate 4 0)) ++ (u64s (List.replicate 4 0))) 37, .box bk1088 (u64s (List.replicate 4 0)) 33] → G 4 #[true, true, true, true, true, true, true, true, true, false, false, true, false, false] ac wo := by
   intro ac1250 wo1251 bk1088 En1252 Hv1253
   refine h_from hG ?_
   refine h_ways [9, 10] (by kernel_rfl) rfl ?_
   refine ⟨?_, ?_, trivial⟩
   ·
    rintro _ rfl
    refine c_p En1252 Hv1253 (xdif_go _ a b ha hb) fun ac1258 wo1255 En1259 Hv1260 => ?_
    refine ⟨fun _ => Hv1260.pk [0], ?_⟩
    exact h_to hG (by kernel_rfl) (nd1179 _ _ bk1088 (En1259.sb) (Hv1260.pk [0, 1, 2, 3, 4, 5]))
   ·
    rintro _ rfl
    refine m_z 33 (u64s (List.replicate 4 0)) En1252 Hv1253 fun ac1262 wo1263 bk1261 En1264 Hv1265 => ?_
    refine ⟨fun _ => Hv1265.pk [0], ?_⟩
    exact h_to hG (by kernel_rfl) (nd1197 _ _ bk1261 bk1088 (En1264.sb) (Hv1265.pk [0, 1, 2, 3, 4, 6, 5]))
  have nd1266 : ∀ (ac : Act) (wo : World) (bk1105 : Nat) (bk1117 : Nat), Env ac 76 [(4, pt bk6), (5, pt bk11), (6, pt bk16), (7, pt bk21), (8, pt bk1105), (9, pt bk1117), (18, .agg (List.toArray (u64s a))), (20, .agg (List.toArray (u64s b))), (23, .agg (List.toArray (u64s a))), (25, .agg (List.toArray (u64s b)))] → Ev w [] wo [.box bk1 ((u64s a) ++ (u64s b)) 37, .box bk6 ((u64s c) ++ (u64s d)) 37, .box bk11 (u64s x) 33, .box bk16 ((u64s (List.replicate 4 0)) ++ (u64s (List.replicate 4 0))) 37, .box bk21 ((u64s (List.replicate 4 0)) ++ (u64s (List.replicate 4 0))) 37, .box bk1105 (u64s (List.replicate 4 0)) 33, .box bk1117 (u64s (List.replicate 4 0)) 33] → G 4 #[true, true, true, true, false, true, true, true, true, false, true, true, false, false] ac wo := by
   intro ac1267 wo1268 bk1105 bk1117 En1269 Hv1270
   refine h_from hG ?_
   refine q_t 4 ?_
   refine c_p En1269 Hv1270 (xsum_go _ a b ha hb) fun ac1275 wo1272 En1276 Hv1277 => ?_
   refine ⟨fun _ => Hv1277.pk [0], ?_⟩
   refine q_t 9 ?_
   refine c_p En1276 Hv1277 (xdif_go _ a b ha hb) fun ac1282 wo1279 En1283 Hv1284 => ?_
   refine ⟨fun _ => Hv1284.pk [0], ?_⟩
   refine q_t 12 ?_
   refine m_g 5 0 4 (u64s (aL a b)) (u64s (aL a b)) [.box bk1 ((u64s a) ++ (u64s b)) 37, .box bk6 ((u64s c) ++ (u64s d)) 37, .box bk11 (u64s x) 33, .box bk16 ((u64s (List.replicate 4 0)) ++ (u64s (List.replicate 4 0))) 37, .box bk21 ((u64s (List.replicate 4 0)) ++ (u64s (List.replicate 4 0))) 37, .box bk1105 (u64s (aL a b)) 33, .box bk1117 (u64s (List.replicate 4 0)) 33] En1283 Hv1284 rfl (u64s_lenh (aL_len _ _)) (by rw [(u64s_lenh (List.length_replicate))]; decide) (u64s_one _) (store_whole (u64s_lenh (List.length_replicate))) rfl fun ac1285 wo1286 En1287 Hv1288 => ?_
   refine ⟨fun _ => Hv1288.pk [0], ?_⟩
   refine q_t 13 ?_
   refine m_g 6 0 4 (u64s (sL a b)) (u64s (sL a b)) [.box bk1 ((u64s a) ++ (u64s b)) 37, .box bk6 ((u64s c) ++ (u64s d)) 37, .box bk11 (u64s x) 33, .box bk16 ((u64s (List.replicate 4 0)) ++ (u64s (List.replicate 4 0))) 37, .box bk21 ((u64s (List.replicate 4 0)) ++ (u64s (List.replicate 4 0))) 37, .box bk1105 (u64s (aL a b)) 33, .box bk1117 (u64s (sL a b)) 33] En1287 Hv1288 rfl (u64s_lenh (sL_len _ _)) (by rw [(u64s_lenh (List.length_replicate))]; decide) (u64s_one _) (store_whole (u64s_lenh (List.length_replicate))) rfl fun ac1289 wo1290 En1291 Hv1292 => ?_
   refine ⟨fun _ => Hv1292.pk [0], ?_⟩
   exact h_e ⟨bk1105, bk1117, En1291.sb, Hv1292.pk [1, 2, 3, 4, 5, 6]⟩
  have nd1293 : ∀ (ac : Act) (wo : World), Env ac 76 [(4, pt bk6), (5, pt bk11), (6, pt bk16), (7, pt bk21), (21, .agg (List.toArray (u64s (aL a b)))), (23, .agg (List.toArray (u64s a))), (25, .agg (List.toArray (u64s b)))] → Ev w [] wo [.box bk1 ((u64s a) ++ (u64s b)) 37, .box bk6 ((u64s c) ++ (u64s d)) 37, .box bk11 (u64s x) 33, .box bk16 ((u64s (List.replicate 4 0)) ++ (u64s (List.replicate 4 0))) 37, .box bk21 ((u64s (List.replicate 4 0)) ++ (u64s (List.replicate 4 0))) 37] → G 5 #[true, true, true, true, true, true, true, true, true, false, false, false, false, false] ac wo := by
   intro ac1294 wo1295 En1296 Hv1297
   refine h_from hG ?_
   refine h_ways [9, 10, 11] (by kernel_rfl) rfl ?_
   refine ⟨?_, ?_, ?_, trivial⟩
   ·
    rintro _ rfl
    refine c_p En1296 Hv1297 (xdif_go _ a b ha hb) fun ac1302 wo1299 En1303 Hv1304 => ?_
    refine ⟨fun _ => Hv1304.pk [0], ?_⟩
    exact h_to hG (by kernel_rfl) (nd1217 _ _ (En1303.sb) (Hv1304.pk [0, 1, 2, 3, 4]))
   ·
    rintro _ rfl
    refine m_z 33 (u64s (List.replicate 4 0)) En1296 Hv1297 fun ac1306 wo1307 bk1305 En1308 Hv1309 => ?_
    refine ⟨fun _ => Hv1309.pk [0], ?_⟩
    exact h_to hG (by kernel_rfl) (nd1232 _ _ bk1305 (En1308.sb) (Hv1309.pk [0, 1, 2, 3, 4, 5]))
   ·
    rintro _ rfl
    refine m_z 33 (u64s (List.replicate 4 0)) En1296 Hv1297 fun ac1311 wo1312 bk1310 En1313 Hv1314 => ?_
    refine ⟨fun _ => Hv1314.pk [0], ?_⟩
    exact h_to hG (by kernel_rfl) (nd1249 _ _ bk1310 (En1313.sb) (Hv1314.pk [0, 1, 2, 3, 4, 5]))
  have nd1315 : ∀ (ac : Act) (wo : World) (bk1105 : Nat), Env ac 76 [(4, pt bk6), (5, pt bk11), (6, pt bk16), (7, pt bk21), (8, pt bk1105), (18, .agg (List.toArray (u64s a))), (20, .agg (List.toArray (u64s b))), (23, .agg (List.toArray (u64s a))), (25, .agg (List.toArray (u64s b)))] → Ev w [] wo [.box bk1 ((u64s a) ++ (u64s b)) 37, .box bk6 ((u64s c) ++ (u64s d)) 37, .box bk11 (u64s x) 33, .box bk16 ((u64s (List.replicate 4 0)) ++ (u64s (List.replicate 4 0))) 37, .box bk21 ((u64s (List.replicate 4 0)) ++ (u64s (List.replicate 4 0))) 37, .box bk1105 (u64s (List.replicate 4 0)) 33] → G 5 #[true, true, true, true, false, true, true, true, true, false, true, false, false, false] ac wo := by
   intro ac1316 wo1317 bk1105 En1318 Hv1319
   refine h_from hG ?_
   refine h_ways [4, 11] (by kernel_rfl) rfl ?_
   refine ⟨?_, ?_, trivial⟩
   ·
    rintro _ rfl
    refine c_p En1318 Hv1319 (xsum_go _ a b ha hb) fun ac1324 wo1321 En1325 Hv1326 => ?_
    refine ⟨fun _ => Hv1326.pk [0], ?_⟩
    exact h_to hG (by kernel_rfl) (nd1232 _ _ bk1105 (En1325.sb) (Hv1326.pk [0, 1, 2, 3, 4, 5]))
   ·
    rintro _ rfl
    refine m_z 33 (u64s (List.replicate 4 0)) En1318 Hv1319 fun ac1328 wo1329 bk1327 En1330 Hv1331 => ?_
    refine ⟨fun _ => Hv1331.pk [0], ?_⟩
    exact h_to hG (by kernel_rfl) (nd1266 _ _ bk1105 bk1327 (En1330.sb) (Hv1331.pk [0, 1, 2, 3, 4, 5, 6]))
  have nd1332 : ∀ (ac : Act) (wo : World) (bk1144 : Nat), Env ac 76 [(4, pt bk6), (5, pt bk11), (6, pt bk16), (7, pt bk21), (9, pt bk1144), (18, .agg (List.toArray (u64s a))), (20, .agg (List.toArray (u64s b))), (23, .agg (List.toArray (u64s a))), (25, .agg (List.toArray (u64s b)))] → Ev w [] wo [.box bk1 ((u64s a) ++ (u64s b)) 37, .box bk6 ((u64s c) ++ (u64s d)) 37, .box bk11 (u64s x) 33, .box bk16 ((u64s (List.replicate 4 0)) ++ (u64s (List.replicate 4 0))) 37, .box bk21 ((u64s (List.replicate 4 0)) ++ (u64s (List.replicate 4 0))) 37, .box bk1144 (u64s (List.replicate 4 0)) 33] → G 5 #[true, true, true, true, false, true, true, true, true, false, false, true, false, false] ac wo := by
   intro ac1333 wo1334 bk1144 En1335 Hv1336
   refine h_from hG ?_
   refine h_ways [4, 10] (by kernel_rfl) rfl ?_
   refine ⟨?_, ?_, trivial⟩
   ·
    rintro _ rfl
    refine c_p En1335 Hv1336 (xsum_go _ a b ha hb) fun ac1341 wo1338 En1342 Hv1343 => ?_
    refine ⟨fun _ => Hv1343.pk [0], ?_⟩
    exact h_to hG (by kernel_rfl) (nd1249 _ _ bk1144 (En1342.sb) (Hv1343.pk [0, 1, 2, 3, 4, 5]))
   ·
    rintro _ rfl
    refine m_z 33 (u64s (List.replicate 4 0)) En1335 Hv1336 fun ac1345 wo1346 bk1344 En1347 Hv1348 => ?_
    refine ⟨fun _ => Hv1348.pk [0], ?_⟩
    exact h_to hG (by kernel_rfl) (nd1266 _ _ bk1344 bk1144 (En1347.sb) (Hv1348.pk [0, 1, 2, 3, 4, 6, 5]))
  refine h_from hG ?_
  refine q_s [0] [] 13 En24 (wo26.pk [0]) fun ac1349 En1350 => ?_
  refine q_r 1 (s := Instr.loadAt 33 (pt bk1)) (v := .agg (List.toArray (u64s a))) En1350 (fun w hS => run_loadAgg2 (m := 4) (cs := u64s a) (u64s_lenh ha) (by kernel_rfl) (by kernel_rfl) (hS.heap.cells (k := 0) (off := 0) (m := 4) rfl (by simp [u64s_lenh ha, u64s_lenh hb, List.drop_append, List.take_append]))) (wo26.pk [0]) fun ac1351 En1352 => ?_
  refine q_s [2] [] 11 En1352 (wo26.pk [0]) fun ac1353 En1354 => ?_
  refine q_r 3 (s := Instr.loadAt 33 (.pointer (some ⟨bk1, 4, none⟩))) (v := .agg (List.toArray (u64s b))) En1354 (fun w hS => run_loadAgg2 (m := 4) (cs := u64s b) (u64s_lenh hb) (by kernel_rfl) (by kernel_rfl) (hS.heap.cells (k := 0) (off := 4) (m := 4) rfl (by simp [u64s_lenh ha, u64s_lenh hb, List.drop_append, List.take_append, List.take_of_length_le]))) (wo26.pk [0]) fun ac1355 En1356 => ?_
  refine q_s [5] [] 9 En1356 (wo26.pk [0]) fun ac1357 En1358 => ?_
  refine q_r 6 (s := Instr.loadAt 33 (pt bk1)) (v := .agg (List.toArray (u64s a))) En1358 (fun w hS => run_loadAgg2 (m := 4) (cs := u64s a) (u64s_lenh ha) (by kernel_rfl) (by kernel_rfl) (hS.heap.cells (k := 0) (off := 0) (m := 4) rfl (by simp [u64s_lenh ha, u64s_lenh hb, List.drop_append, List.take_append]))) (wo26.pk [0]) fun ac1359 En1360 => ?_
  refine q_s [7] [] 7 En1360 (wo26.pk [0]) fun ac1361 En1362 => ?_
  refine q_r 8 (s := Instr.loadAt 33 (.pointer (some ⟨bk1, 4, none⟩))) (v := .agg (List.toArray (u64s b))) En1362 (fun w hS => run_loadAgg2 (m := 4) (cs := u64s b) (u64s_lenh hb) (by kernel_rfl) (by kernel_rfl) (hS.heap.cells (k := 0) (off := 4) (m := 4) rfl (by simp [u64s_lenh ha, u64s_lenh hb, List.drop_append, List.take_append, List.take_of_length_le]))) (wo26.pk [0]) fun ac1363 En1364 => ?_
  refine h_ways [4, 10, 11] (by kernel_rfl) rfl ?_
  refine ⟨?_, ?_, ?_, trivial⟩
  ·
   rintro _ rfl
   refine c_p En1364 wo26 (xsum_go _ a b ha hb) fun ac1369 wo1366 En1370 Hv1371 => ?_
   refine ⟨fun _ => Hv1371.pk [0], ?_⟩
   exact h_to hG (by kernel_rfl) (nd1293 _ _ (En1370.sb) (Hv1371.pk [0, 1, 2, 3, 4]))
  ·
   rintro _ rfl
   refine m_z 33 (u64s (List.replicate 4 0)) En1364 wo26 fun ac1373 wo1374 bk1372 En1375 Hv1376 => ?_
   refine ⟨fun _ => Hv1376.pk [0], ?_⟩
   exact h_to hG (by kernel_rfl) (nd1315 _ _ bk1372 (En1375.sb) (Hv1376.pk [0, 1, 2, 3, 4, 5]))
  ·
   rintro _ rfl
   refine m_z 33 (u64s (List.replicate 4 0)) En1364 wo26 fun ac1378 wo1379 bk1377 En1380 Hv1381 => ?_
   refine ⟨fun _ => Hv1381.pk [0], ?_⟩
   exact h_to hG (by kernel_rfl) (nd1332 _ _ bk1377 (En1380.sb) (Hv1381.pk [0, 1, 2, 3, 4, 5]))
 rintro ac1382 wo1383 ⟨bk1020, bk1025, En1384, Hv1385⟩
 refine then_normal ?_
 refine wp_seq ?_
 refine r_c (fun ac wo => ∃ (bk2370 : Nat) (bk2375 : Nat), Env ac 76 [(4, pt bk6), (5, pt bk11), (6, pt bk16), (7, pt bk21), (8, pt bk1020), (9, pt bk1025), (10, pt bk2370), (11, pt bk2375)] ∧ Ev w [] wo [.box bk6 ((u64s c) ++ (u64s d)) 37, .box bk11 (u64s x) 33, .box bk16 ((u64s (List.replicate 4 0)) ++ (u64s (List.replicate 4 0))) 37, .box bk21 ((u64s (List.replicate 4 0)) ++ (u64s (List.replicate 4 0))) 37, .box bk1020 (u64s (aL a b)) 33, .box bk1025 (u64s (sL a b)) 33, .box bk2370 (u64s (mL (aL a b) (aL a b))) 33, .box bk2375 (u64s (mL (sL a b) (sL a b))) 33]) ?_ ?_
 ·
  refine h_s (fun wv => Ev w [] wv [.box bk1020 (u64s (aL a b)) 33, .box bk1025 (u64s (sL a b)) 33]) [] 10 ?_
  have wo1386 := Hv1385.trans (Ev.drew Hv1385.heap)
  refine h_name fun G hG => ?_
  have nd2511 : ∀ (ac : Act) (wo : World) (bk2370 : Nat), Env ac 76 [(4, pt bk6), (5, pt bk11), (6, pt bk16), (7, pt bk21), (8, pt bk1020), (9, pt bk1025), (10, pt bk2370), (29, .agg (List.toArray (u64s (mL (aL a b) (aL a b))))), (32, .agg (List.toArray (u64s (mL (sL a b) (sL a b)))))] → Ev w [] wo [.box bk6 ((u64s c) ++ (u64s d)) 37, .box bk11 (u64s x) 33, .box bk16 ((u64s (List.replicate 4 0)) ++ (u64s (List.replicate 4 0))) 37, .box bk21 ((u64s (List.replicate 4 0)) ++ (u64s (List.replicate 4 0))) 37, .box bk1020 (u64s (aL a b)) 33, .box bk1025 (u64s (sL a b)) 33, .box bk2370 (u64s (List.replicate 4 0)) 33] → G 3 #[true, true, true, true, true, true, true, false, false, false] ac wo := by
   intro ac2512 wo2513 bk2370 En2514 Hv2515
   refine h_from hG ?_
   refine q_t 7 ?_
   refine m_z 33 (u64s (List.replicate 4 0)) En2514 Hv2515 fun ac2517 wo2518 bk2516 En2519 Hv2520 => ?_
   refine ⟨fun _ => Hv2520.pk [4, 5], ?_⟩
   refine q_t 8 ?_
   refine m_g 6 0 4 (u64s (mL (aL a b) (aL a b))) (u64s (mL (aL a b) (aL a b))) [.box bk6 ((u64s c) ++ (u64s d)) 37, .box bk11 (u64s x) 33, .box bk16 ((u64s (List.replicate 4 0)) ++ (u64s (List.replicate 4 0))) 37, .box bk21 ((u64s (List.replicate 4 0)) ++ (u64s (List.replicate 4 0))) 37, .box bk1020 (u64s (aL a b)) 33, .box bk1025 (u64s (sL a b)) 33, .box bk2370 (u64s (mL (aL a b) (aL a b))) 33, .box bk2516 (u64s (List.replicate 4 0)) 33] En2519 Hv2520 rfl (u64s_lenh (mL_len _ _)) (by rw [(u64s_lenh (List.length_replicate))]; decide) (u64s_one _) (store_whole (u64s_lenh (List.length_replicate))) rfl fun ac2521 wo2522 En2523 Hv2524 => ?_
   refine ⟨fun _ => Hv2524.pk [4, 5], ?_⟩
   refine q_t 9 ?_
   refine m_g 7 0 4 (u64s (mL (sL a b) (sL a b))) (u64s (mL (sL a b) (sL a b))) [.box bk6 ((u64s c) ++ (u64s d)) 37, .box bk11 (u64s x) 33, .box bk16 ((u64s (List.replicate 4 0)) ++ (u64s (List.replicate 4 0))) 37, .box bk21 ((u64s (List.replicate 4 0)) ++ (u64s (List.replicate 4 0))) 37, .box bk1020 (u64s (aL a b)) 33, .box bk1025 (u64s (sL a b)) 33, .box bk2370 (u64s (mL (aL a b) (aL a b))) 33, .box bk2516 (u64s (mL (sL a b) (sL a b))) 33] En2523 Hv2524 rfl (u64s_lenh (mL_len _ _)) (by rw [(u64s_lenh (List.length_replicate))]; decide) (u64s_one _) (store_whole (u64s_lenh (List.length_replicate))) rfl fun ac2525 wo2526 En2527 Hv2528 => ?_
   refine ⟨fun _ => Hv2528.pk [4, 5], ?_⟩
   exact h_e ⟨bk2370, bk2516, En2527.sb, Hv2528.pk [0, 1, 2, 3, 4, 5, 6, 7]⟩
  have nd2529 : ∀ (ac : Act) (wo : World) (bk2388 : Nat), Env ac 76 [(4, pt bk6), (5, pt bk11), (6, pt bk16), (7, pt bk21), (8, pt bk1020), (9, pt bk1025), (11, pt bk2388), (29, .agg (List.toArray (u64s (mL (aL a b) (aL a b))))), (32, .agg (List.toArray (u64s (mL (sL a b) (sL a b)))))] → Ev w [] wo [.box bk6 ((u64s c) ++ (u64s d)) 37, .box bk11 (u64s x) 33, .box bk16 ((u64s (List.replicate 4 0)) ++ (u64s (List.replicate 4 0))) 37, .box bk21 ((u64s (List.replicate 4 0)) ++ (u64s (List.replicate 4 0))) 37, .box bk1020 (u64s (aL a b)) 33, .box bk1025 (u64s (sL a b)) 33, .box bk2388 (u64s (List.replicate 4 0)) 33] → G 3 #[true, true, true, true, true, true, false, true, false, false] ac wo := by
   intro ac2530 wo2531 bk2388 En2532 Hv2533
   refine h_from hG ?_
   refine q_t 6 ?_
   refine m_z 33 (u64s (List.replicate 4 0)) En2532 Hv2533 fun ac2535 wo2536 bk2534 En2537 Hv2538 => ?_
   refine ⟨fun _ => Hv2538.pk [4, 5], ?_⟩
   refine q_t 8 ?_
   refine m_g 7 0 4 (u64s (mL (aL a b) (aL a b))) (u64s (mL (aL a b) (aL a b))) [.box bk6 ((u64s c) ++ (u64s d)) 37, .box bk11 (u64s x) 33, .box bk16 ((u64s (List.replicate 4 0)) ++ (u64s (List.replicate 4 0))) 37, .box bk21 ((u64s (List.replicate 4 0)) ++ (u64s (List.replicate 4 0))) 37, .box bk1020 (u64s (aL a b)) 33, .box bk1025 (u64s (sL a b)) 33, .box bk2388 (u64s (List.replicate 4 0)) 33, .box bk2534 (u64s (mL (aL a b) (aL a b))) 33] En2537 Hv2538 rfl (u64s_lenh (mL_len _ _)) (by rw [(u64s_lenh (List.length_replicate))]; decide) (u64s_one _) (store_whole (u64s_lenh (List.length_replicate))) rfl fun ac2539 wo2540 En2541 Hv2542 => ?_
   refine ⟨fun _ => Hv2542.pk [4, 5], ?_⟩
   refine q_t 9 ?_
   refine m_g 6 0 4 (u64s (mL (sL a b) (sL a b))) (u64s (mL (sL a b) (sL a b))) [.box bk6 ((u64s c) ++ (u64s d)) 37, .box bk11 (u64s x) 33, .box bk16 ((u64s (List.replicate 4 0)) ++ (u64s (List.replicate 4 0))) 37, .box bk21 ((u64s (List.replicate 4 0)) ++ (u64s (List.replicate 4 0))) 37, .box bk1020 (u64s (aL a b)) 33, .box bk1025 (u64s (sL a b)) 33, .box bk2388 (u64s (mL (sL a b) (sL a b))) 33, .box bk2534 (u64s (mL (aL a b) (aL a b))) 33] En2541 Hv2542 rfl (u64s_lenh (mL_len _ _)) (by rw [(u64s_lenh (List.length_replicate))]; decide) (u64s_one _) (store_whole (u64s_lenh (List.length_replicate))) rfl fun ac2543 wo2544 En2545 Hv2546 => ?_
   refine ⟨fun _ => Hv2546.pk [4, 5], ?_⟩
   exact h_e ⟨bk2534, bk2388, En2545.sb, Hv2546.pk [0, 1, 2, 3, 4, 5, 7, 6]⟩
  have nd2547 : ∀ (ac : Act) (wo : World) (bk2406 : Nat) (bk2418 : Nat), Env ac 76 [(4, pt bk6), (5, pt bk11), (6, pt bk16), (7, pt bk21), (8, pt bk1020), (9, pt bk1025), (10, pt bk2406), (11, pt bk2418), (29, .agg (List.toArray (u64s (mL (aL a b) (aL a b))))), (30, .agg (List.toArray (u64s (sL a b)))), (31, .agg (List.toArray (u64s (sL a b))))] → Ev w [] wo [.box bk6 ((u64s c) ++ (u64s d)) 37, .box bk11 (u64s x) 33, .box bk16 ((u64s (List.replicate 4 0)) ++ (u64s (List.replicate 4 0))) 37, .box bk21 ((u64s (List.replicate 4 0)) ++ (u64s (List.replicate 4 0))) 37, .box bk1020 (u64s (aL a b)) 33, .box bk1025 (u64s (sL a b)) 33, .box bk2406 (u64s (List.replicate 4 0)) 33, .box bk2418 (u64s (List.replicate 4 0)) 33] → G 3 #[true, true, true, true, true, false, true, true, false, false] ac wo := by
   intro ac2548 wo2549 bk2406 bk2418 En2550 Hv2551
   refine h_from hG ?_
   refine q_t 5 ?_
   refine c_p En2550 Hv2551 (xmul_go _ (sL a b) (sL a b) (sL_len _ _) (sL_len _ _)) fun ac2556 wo2553 En2557 Hv2558 => ?_
   refine ⟨fun _ => Hv2558.pk [4, 5], ?_⟩
   refine q_t 8 ?_
   refine m_g 6 0 4 (u64s (mL (aL a b) (aL a b))) (u64s (mL (aL a b) (aL a b))) [.box bk6 ((u64s c) ++ (u64s d)) 37, .box bk11 (u64s x) 33, .box bk16 ((u64s (List.replicate 4 0)) ++ (u64s (List.replicate 4 0))) 37, .box bk21 ((u64s (List.replicate 4 0)) ++ (u64s (List.replicate 4 0))) 37, .box bk1020 (u64s (aL a b)) 33, .box bk1025 (u64s (sL a b)) 33, .box bk2406 (u64s (mL (aL a b) (aL a b))) 33, .box bk2418 (u64s (List.replicate 4 0)) 33] En2557 Hv2558 rfl (u64s_lenh (mL_len _ _)) (by rw [(u64s_lenh (List.length_replicate))]; decide) (u64s_one _) (store_whole (u64s_lenh (List.length_replicate))) rfl fun ac2559 wo2560 En2561 Hv2562 => ?_
   refine ⟨fun _ => Hv2562.pk [4, 5], ?_⟩
   refine q_t 9 ?_
   refine m_g 7 0 4 (u64s (mL (sL a b) (sL a b))) (u64s (mL (sL a b) (sL a b))) [.box bk6 ((u64s c) ++ (u64s d)) 37, .box bk11 (u64s x) 33, .box bk16 ((u64s (List.replicate 4 0)) ++ (u64s (List.replicate 4 0))) 37, .box bk21 ((u64s (List.replicate 4 0)) ++ (u64s (List.replicate 4 0))) 37, .box bk1020 (u64s (aL a b)) 33, .box bk1025 (u64s (sL a b)) 33, .box bk2406 (u64s (mL (aL a b) (aL a b))) 33, .box bk2418 (u64s (mL (sL a b) (sL a b))) 33] En2561 Hv2562 rfl (u64s_lenh (mL_len _ _)) (by rw [(u64s_lenh (List.length_replicate))]; decide) (u64s_one _) (store_whole (u64s_lenh (List.length_replicate))) rfl fun ac2563 wo2564 En2565 Hv2566 => ?_
   refine ⟨fun _ => Hv2566.pk [4, 5], ?_⟩
   exact h_e ⟨bk2406, bk2418, En2565.sb, Hv2566.pk [0, 1, 2, 3, 4, 5, 6, 7]⟩
  have nd2567 : ∀ (ac : Act) (wo : World), Env ac 76 [(4, pt bk6), (5, pt bk11), (6, pt bk16), (7, pt bk21), (8, pt bk1020), (9, pt bk1025), (29, .agg (List.toArray (u64s (mL (aL a b) (aL a b))))), (32, .agg (List.toArray (u64s (mL (sL a b) (sL a b)))))] → Ev w [] wo [.box bk6 ((u64s c) ++ (u64s d)) 37, .box bk11 (u64s x) 33, .box bk16 ((u64s (List.replicate 4 0)) ++ (u64s (List.replicate 4 0))) 37, .box bk21 ((u64s (List.replicate 4 0)) ++ (u64s (List.replicate 4 0))) 37, .box bk1020 (u64s (aL a b)) 33, .box bk1025 (u64s (sL a b)) 33] → G 4 #[true, true, true, true, true, true, false, false, false, false] ac wo := by
   intro ac2568 wo2569 En2570 Hv2571
   refine h_from hG ?_
   refine h_ways [6, 7] (by kernel_rfl) rfl ?_
   refine ⟨?_, ?_, trivial⟩
   ·
    rintro _ rfl
    refine m_z 33 (u64s (List.replicate 4 0)) En2570 Hv2571 fun ac2573 wo2574 bk2572 En2575 Hv2576 => ?_
    refine ⟨fun _ => Hv2576.pk [4, 5], ?_⟩
    exact h_to hG (by kernel_rfl) (nd2511 _ _ bk2572 (En2575.sb) (Hv2576.pk [0, 1, 2, 3, 4, 5, 6]))
   ·
    rintro _ rfl
    refine m_z 33 (u64s (List.replicate 4 0)) En2570 Hv2571 fun ac2578 wo2579 bk2577 En2580 Hv2581 => ?_
    refine ⟨fun _ => Hv2581.pk [4, 5], ?_⟩
    exact h_to hG (by kernel_rfl) (nd2529 _ _ bk2577 (En2580.sb) (Hv2581.pk [0, 1, 2, 3, 4, 5, 6]))
  have nd2582 : ∀ (ac : Act) (wo : World) (bk2406 : Nat), Env ac 76 [(4, pt bk6), (5, pt bk11), (6, pt bk16), (7, pt bk21), (8, pt bk1020), (9, pt bk1025), (10, pt bk2406), (29, .agg (List.toArray (u64s (mL (aL a b) (aL a b))))), (30, .agg (List.toArray (u64s (sL a b)))), (31, .agg (List.toArray (u64s (sL a b))))] → Ev w [] wo [.box bk6 ((u64s c) ++ (u64s d)) 37, .box bk11 (u64s x) 33, .box bk16 ((u64s (List.replicate 4 0)) ++ (u64s (List.replicate 4 0))) 37, .box bk21 ((u64s (List.replicate 4 0)) ++ (u64s (List.replicate 4 0))) 37, .box bk1020 (u64s (aL a b)) 33, .box bk1025 (u64s (sL a b)) 33, .box bk2406 (u64s (List.replicate 4 0)) 33] → G 4 #[true, true, true, true, true, false, true, false, false, false] ac wo := by
   intro ac2583 wo2584 bk2406 En2585 Hv2586
   refine h_from hG ?_
   refine h_ways [5, 7] (by kernel_rfl) rfl ?_
   refine ⟨?_, ?_, trivial⟩
   ·
    rintro _ rfl
    refine c_p En2585 Hv2586 (xmul_go _ (sL a b) (sL a b) (sL_len _ _) (sL_len _ _)) fun ac2591 wo2588 En2592 Hv2593 => ?_
    refine ⟨fun _ => Hv2593.pk [4, 5], ?_⟩
    exact h_to hG (by kernel_rfl) (nd2511 _ _ bk2406 (En2592.sb) (Hv2593.pk [0, 1, 2, 3, 4, 5, 6]))
   ·
    rintro _ rfl
    refine m_z 33 (u64s (List.replicate 4 0)) En2585 Hv2586 fun ac2595 wo2596 bk2594 En2597 Hv2598 => ?_
    refine ⟨fun _ => Hv2598.pk [4, 5], ?_⟩
    exact h_to hG (by kernel_rfl) (nd2547 _ _ bk2406 bk2594 (En2597.sb) (Hv2598.pk [0, 1, 2, 3, 4, 5, 6, 7]))
  have nd2599 : ∀ (ac : Act) (wo : World) (bk2438 : Nat), Env ac 76 [(4, pt bk6), (5, pt bk11), (6, pt bk16), (7, pt bk21), (8, pt bk1020), (9, pt bk1025), (11, pt bk2438), (29, .agg (List.toArray (u64s (mL (aL a b) (aL a b))))), (30, .agg (List.toArray (u64s (sL a b)))), (31, .agg (List.toArray (u64s (sL a b))))] → Ev w [] wo [.box bk6 ((u64s c) ++ (u64s d)) 37, .box bk11 (u64s x) 33, .box bk16 ((u64s (List.replicate 4 0)) ++ (u64s (List.replicate 4 0))) 37, .box bk21 ((u64s (List.replicate 4 0)) ++ (u64s (List.replicate 4 0))) 37, .box bk1020 (u64s (aL a b)) 33, .box bk1025 (u64s (sL a b)) 33, .box bk2438 (u64s (List.replicate 4 0)) 33] → G 4 #[true, true, true, true, true, false, false, true, false, false] ac wo := by
   intro ac2600 wo2601 bk2438 En2602 Hv2603
   refine h_from hG ?_
   refine h_ways [5, 6] (by kernel_rfl) rfl ?_
   refine ⟨?_, ?_, trivial⟩
   ·
    rintro _ rfl
    refine c_p En2602 Hv2603 (xmul_go _ (sL a b) (sL a b) (sL_len _ _) (sL_len _ _)) fun ac2608 wo2605 En2609 Hv2610 => ?_
    refine ⟨fun _ => Hv2610.pk [4, 5], ?_⟩
    exact h_to hG (by kernel_rfl) (nd2529 _ _ bk2438 (En2609.sb) (Hv2610.pk [0, 1, 2, 3, 4, 5, 6]))
   ·
    rintro _ rfl
    refine m_z 33 (u64s (List.replicate 4 0)) En2602 Hv2603 fun ac2612 wo2613 bk2611 En2614 Hv2615 => ?_
    refine ⟨fun _ => Hv2615.pk [4, 5], ?_⟩
    exact h_to hG (by kernel_rfl) (nd2547 _ _ bk2611 bk2438 (En2614.sb) (Hv2615.pk [0, 1, 2, 3, 4, 5, 7, 6]))
  have nd2616 : ∀ (ac : Act) (wo : World) (bk2455 : Nat) (bk2467 : Nat), Env ac 76 [(4, pt bk6), (5, pt bk11), (6, pt bk16), (7, pt bk21), (8, pt bk1020), (9, pt bk1025), (10, pt bk2455), (11, pt bk2467), (27, .agg (List.toArray (u64s (aL a b)))), (28, .agg (List.toArray (u64s (aL a b)))), (30, .agg (List.toArray (u64s (sL a b)))), (31, .agg (List.toArray (u64s (sL a b))))] → Ev w [] wo [.box bk6 ((u64s c) ++ (u64s d)) 37, .box bk11 (u64s x) 33, .box bk16 ((u64s (List.replicate 4 0)) ++ (u64s (List.replicate 4 0))) 37, .box bk21 ((u64s (List.replicate 4 0)) ++ (u64s (List.replicate 4 0))) 37, .box bk1020 (u64s (aL a b)) 33, .box bk1025 (u64s (sL a b)) 33, .box bk2455 (u64s (List.replicate 4 0)) 33, .box bk2467 (u64s (List.replicate 4 0)) 33] → G 4 #[true, true, false, true, true, false, true, true, false, false] ac wo := by
   intro ac2617 wo2618 bk2455 bk2467 En2619 Hv2620
   refine h_from hG ?_
   refine q_t 2 ?_
   refine c_p En2619 Hv2620 (xmul_go _ (aL a b) (aL a b) (aL_len _ _) (aL_len _ _)) fun ac2625 wo2622 En2626 Hv2627 => ?_
   refine ⟨fun _ => Hv2627.pk [4, 5], ?_⟩
   refine q_t 5 ?_
   refine c_p En2626 Hv2627 (xmul_go _ (sL a b) (sL a b) (sL_len _ _) (sL_len _ _)) fun ac2632 wo2629 En2633 Hv2634 => ?_
   refine ⟨fun _ => Hv2634.pk [4, 5], ?_⟩
   refine q_t 8 ?_
   refine m_g 6 0 4 (u64s (mL (aL a b) (aL a b))) (u64s (mL (aL a b) (aL a b))) [.box bk6 ((u64s c) ++ (u64s d)) 37, .box bk11 (u64s x) 33, .box bk16 ((u64s (List.replicate 4 0)) ++ (u64s (List.replicate 4 0))) 37, .box bk21 ((u64s (List.replicate 4 0)) ++ (u64s (List.replicate 4 0))) 37, .box bk1020 (u64s (aL a b)) 33, .box bk1025 (u64s (sL a b)) 33, .box bk2455 (u64s (mL (aL a b) (aL a b))) 33, .box bk2467 (u64s (List.replicate 4 0)) 33] En2633 Hv2634 rfl (u64s_lenh (mL_len _ _)) (by rw [(u64s_lenh (List.length_replicate))]; decide) (u64s_one _) (store_whole (u64s_lenh (List.length_replicate))) rfl fun ac2635 wo2636 En2637 Hv2638 => ?_
   refine ⟨fun _ => Hv2638.pk [4, 5], ?_⟩
   refine q_t 9 ?_
   refine m_g 7 0 4 (u64s (mL (sL a b) (sL a b))) (u64s (mL (sL a b) (sL a b))) [.box bk6 ((u64s c) ++ (u64s d)) 37, .box bk11 (u64s x) 33, .box bk16 ((u64s (List.replicate 4 0)) ++ (u64s (List.replicate 4 0))) 37, .box bk21 ((u64s (List.replicate 4 0)) ++ (u64s (List.replicate 4 0))) 37, .box bk1020 (u64s (aL a b)) 33, .box bk1025 (u64s (sL a b)) 33, .box bk2455 (u64s (mL (aL a b) (aL a b))) 33, .box bk2467 (u64s (mL (sL a b) (sL a b))) 33] En2637 Hv2638 rfl (u64s_lenh (mL_len _ _)) (by rw [(u64s_lenh (List.length_replicate))]; decide) (u64s_one _) (store_whole (u64s_lenh (List.length_replicate))) rfl fun ac2639 wo2640 En2641 Hv2642 => ?_
   refine ⟨fun _ => Hv2642.pk [4, 5], ?_⟩
   exact h_e ⟨bk2455, bk2467, En2641.sb, Hv2642.pk [0, 1, 2, 3, 4, 5, 6, 7]⟩
  have nd2643 : ∀ (ac : Act) (wo : World), Env ac 76 [(4, pt bk6), (5, pt bk11), (6, pt bk16), (7, pt bk21), (8, pt bk1020), (9, pt bk1025), (29, .agg (List.toArray (u64s (mL (aL a b) (aL a b))))), (30, .agg (List.toArray (u64s (sL a b)))), (31, .agg (List.toArray (u64s (sL a b))))] → Ev w [] wo [.box bk6 ((u64s c) ++ (u64s d)) 37, .box bk11 (u64s x) 33, .box bk16 ((u64s (List.replicate 4 0)) ++ (u64s (List.replicate 4 0))) 37, .box bk21 ((u64s (List.replicate 4 0)) ++ (u64s (List.replicate 4 0))) 37, .box bk1020 (u64s (aL a b)) 33, .box bk1025 (u64s (sL a b)) 33] → G 5 #[true, true, true, true, true, false, false, false, false, false] ac wo := by
   intro ac2644 wo2645 En2646 Hv2647
   refine h_from hG ?_
   refine h_ways [5, 6, 7] (by kernel_rfl) rfl ?_
   refine ⟨?_, ?_, ?_, trivial⟩
   ·
    rintro _ rfl
    refine c_p En2646 Hv2647 (xmul_go _ (sL a b) (sL a b) (sL_len _ _) (sL_len _ _)) fun ac2652 wo2649 En2653 Hv2654 => ?_
    refine ⟨fun _ => Hv2654.pk [4, 5], ?_⟩
    exact h_to hG (by kernel_rfl) (nd2567 _ _ (En2653.sb) (Hv2654.pk [0, 1, 2, 3, 4, 5]))
   ·
    rintro _ rfl
    refine m_z 33 (u64s (List.replicate 4 0)) En2646 Hv2647 fun ac2656 wo2657 bk2655 En2658 Hv2659 => ?_
    refine ⟨fun _ => Hv2659.pk [4, 5], ?_⟩
    exact h_to hG (by kernel_rfl) (nd2582 _ _ bk2655 (En2658.sb) (Hv2659.pk [0, 1, 2, 3, 4, 5, 6]))
   ·
    rintro _ rfl
    refine m_z 33 (u64s (List.replicate 4 0)) En2646 Hv2647 fun ac2661 wo2662 bk2660 En2663 Hv2664 => ?_
    refine ⟨fun _ => Hv2664.pk [4, 5], ?_⟩
    exact h_to hG (by kernel_rfl) (nd2599 _ _ bk2660 (En2663.sb) (Hv2664.pk [0, 1, 2, 3, 4, 5, 6]))
  have nd2665 : ∀ (ac : Act) (wo : World) (bk2455 : Nat), Env ac 76 [(4, pt bk6), (5, pt bk11), (6, pt bk16), (7, pt bk21), (8, pt bk1020), (9, pt bk1025), (10, pt bk2455), (27, .agg (List.toArray (u64s (aL a b)))), (28, .agg (List.toArray (u64s (aL a b)))), (30, .agg (List.toArray (u64s (sL a b)))), (31, .agg (List.toArray (u64s (sL a b))))] → Ev w [] wo [.box bk6 ((u64s c) ++ (u64s d)) 37, .box bk11 (u64s x) 33, .box bk16 ((u64s (List.replicate 4 0)) ++ (u64s (List.replicate 4 0))) 37, .box bk21 ((u64s (List.replicate 4 0)) ++ (u64s (List.replicate 4 0))) 37, .box bk1020 (u64s (aL a b)) 33, .box bk1025 (u64s (sL a b)) 33, .box bk2455 (u64s (List.replicate 4 0)) 33] → G 5 #[true, true, false, true, true, false, true, false, false, false] ac wo := by
   intro ac2666 wo2667 bk2455 En2668 Hv2669
   refine h_from hG ?_
   refine h_ways [2, 7] (by kernel_rfl) rfl ?_
   refine ⟨?_, ?_, trivial⟩
   ·
    rintro _ rfl
    refine c_p En2668 Hv2669 (xmul_go _ (aL a b) (aL a b) (aL_len _ _) (aL_len _ _)) fun ac2674 wo2671 En2675 Hv2676 => ?_
    refine ⟨fun _ => Hv2676.pk [4, 5], ?_⟩
    exact h_to hG (by kernel_rfl) (nd2582 _ _ bk2455 (En2675.sb) (Hv2676.pk [0, 1, 2, 3, 4, 5, 6]))
   ·
    rintro _ rfl
    refine m_z 33 (u64s (List.replicate 4 0)) En2668 Hv2669 fun ac2678 wo2679 bk2677 En2680 Hv2681 => ?_
    refine ⟨fun _ => Hv2681.pk [4, 5], ?_⟩
    exact h_to hG (by kernel_rfl) (nd2616 _ _ bk2455 bk2677 (En2680.sb) (Hv2681.pk [0, 1, 2, 3, 4, 5, 6, 7]))
  have nd2682 : ∀ (ac : Act) (wo : World) (bk2494 : Nat), Env ac 76 [(4, pt bk6), (5, pt bk11), (6, pt bk16), (7, pt bk21), (8, pt bk1020), (9, pt bk1025), (11, pt bk2494), (27, .agg (List.toArray (u64s (aL a b)))), (28, .agg (List.toArray (u64s (aL a b)))), (30, .agg (List.toArray (u64s (sL a b)))), (31, .agg (List.toArray (u64s (sL a b))))] → Ev w [] wo [.box bk6 ((u64s c) ++ (u64s d)) 37, .box bk11 (u64s x) 33, .box bk16 ((u64s (List.replicate 4 0)) ++ (u64s (List.replicate 4 0))) 37, .box bk21 ((u64s (List.replicate 4 0)) ++ (u64s (List.replicate 4 0))) 37, .box bk1020 (u64s (aL a b)) 33, .box bk1025 (u64s (sL a b)) 33, .box bk2494 (u64s (List.replicate 4 0)) 33] → G 5 #[true, true, false, true, true, false, false, true, false, false] ac wo := by
   intro ac2683 wo2684 bk2494 En2685 Hv2686
   refine h_from hG ?_
   refine h_ways [2, 6] (by kernel_rfl) rfl ?_
   refine ⟨?_, ?_, trivial⟩
   ·
    rintro _ rfl
    refine c_p En2685 Hv2686 (xmul_go _ (aL a b) (aL a b) (aL_len _ _) (aL_len _ _)) fun ac2691 wo2688 En2692 Hv2693 => ?_
    refine ⟨fun _ => Hv2693.pk [4, 5], ?_⟩
    exact h_to hG (by kernel_rfl) (nd2599 _ _ bk2494 (En2692.sb) (Hv2693.pk [0, 1, 2, 3, 4, 5, 6]))
   ·
    rintro _ rfl
    refine m_z 33 (u64s (List.replicate 4 0)) En2685 Hv2686 fun ac2695 wo2696 bk2694 En2697 Hv2698 => ?_
    refine ⟨fun _ => Hv2698.pk [4, 5], ?_⟩
    exact h_to hG (by kernel_rfl) (nd2616 _ _ bk2694 bk2494 (En2697.sb) (Hv2698.pk [0, 1, 2, 3, 4, 5, 7, 6]))
  refine h_from hG ?_
  refine q_r 0 (s := Instr.loadAt 33 (pt bk1020)) (v := .agg (List.toArray (u64s (aL a b)))) En1384 (fun w hS => run_loadAgg2 (m := 4) (cs := u64s (aL a b)) (u64s_lenh (aL_len _ _)) (by kernel_rfl) (by kernel_rfl) (hS.heap.cells (k := 0) (off := 0) (m := 4) rfl (load_whole (u64s_lenh (aL_len _ _))))) (wo1386.pk [4, 5]) fun ac2699 En2700 => ?_
  refine q_r 1 (s := Instr.loadAt 33 (pt bk1020)) (v := .agg (List.toArray (u64s (aL a b)))) En2700 (fun w hS => run_loadAgg2 (m := 4) (cs := u64s (aL a b)) (u64s_lenh (aL_len _ _)) (by kernel_rfl) (by kernel_rfl) (hS.heap.cells (k := 0) (off := 0) (m := 4) rfl (load_whole (u64s_lenh (aL_len _ _))))) (wo1386.pk [4, 5]) fun ac2701 En2702 => ?_
  refine q_r 3 (s := Instr.loadAt 33 (pt bk1025)) (v := .agg (List.toArray (u64s (sL a b)))) En2702 (fun w hS => run_loadAgg2 (m := 4) (cs := u64s (sL a b)) (u64s_lenh (sL_len _ _)) (by kernel_rfl) (by kernel_rfl) (hS.heap.cells (k := 1) (off := 0) (m := 4) rfl (load_whole (u64s_lenh (sL_len _ _))))) (wo1386.pk [4, 5]) fun ac2703 En2704 => ?_
  refine q_r 4 (s := Instr.loadAt 33 (pt bk1025)) (v := .agg (List.toArray (u64s (sL a b)))) En2704 (fun w hS => run_loadAgg2 (m := 4) (cs := u64s (sL a b)) (u64s_lenh (sL_len _ _)) (by kernel_rfl) (by kernel_rfl) (hS.heap.cells (k := 1) (off := 0) (m := 4) rfl (load_whole (u64s_lenh (sL_len _ _))))) (wo1386.pk [4, 5]) fun ac2705 En2706 => ?_
  refine h_ways [2, 6, 7] (by kernel_rfl) rfl ?_
  refine ⟨?_, ?_, ?_, trivial⟩
  ·
   rintro _ rfl
   refine c_p En2706 wo1386 (xmul_go _ (aL a b) (aL a b) (aL_len _ _) (aL_len _ _)) fun ac2711 wo2708 En2712 Hv2713 => ?_
   refine ⟨fun _ => Hv2713.pk [4, 5], ?_⟩
   exact h_to hG (by kernel_rfl) (nd2643 _ _ (En2712.sb) (Hv2713.pk [0, 1, 2, 3, 4, 5]))
  ·
   rintro _ rfl
   refine m_z 33 (u64s (List.replicate 4 0)) En2706 wo1386 fun ac2715 wo2716 bk2714 En2717 Hv2718 => ?_
   refine ⟨fun _ => Hv2718.pk [4, 5], ?_⟩
   exact h_to hG (by kernel_rfl) (nd2665 _ _ bk2714 (En2717.sb) (Hv2718.pk [0, 1, 2, 3, 4, 5, 6]))
  ·
   rintro _ rfl
   refine m_z 33 (u64s (List.replicate 4 0)) En2706 wo1386 fun ac2720 wo2721 bk2719 En2722 Hv2723 => ?_
   refine ⟨fun _ => Hv2723.pk [4, 5], ?_⟩
   exact h_to hG (by kernel_rfl) (nd2682 _ _ bk2719 (En2722.sb) (Hv2723.pk [0, 1, 2, 3, 4, 5, 6]))
 rintro ac2724 wo2725 ⟨bk2370, bk2375, En2726, Hv2727⟩
 refine then_normal ?_
 refine wp_seq ?_
 refine region_from ?_
 refine f_o ?_
 refine m_a 6 0 4 (u64s (mL (aL a b) (aL a b))) En2726 Hv2727 rfl (load_whole (u64s_lenh (mL_len _ _))) (u64s_lenh (mL_len _ _)) fun ac2728 En2729 => ?_
 refine f_o ?_
 refine m_a 7 0 4 (u64s (mL (sL a b) (sL a b))) En2729 Hv2727 rfl (load_whole (u64s_lenh (mL_len _ _))) (u64s_lenh (mL_len _ _)) fun ac2730 En2731 => ?_
 refine f_o ?_
 refine c_p En2731 Hv2727 (xdif_go _ (mL (aL a b) (aL a b)) (mL (sL a b) (sL a b)) (mL_len _ _) (mL_len _ _)) fun ac2736 wo2733 En2737 Hv2738 => ?_
 refine f_o ?_
 refine m_z 33 (u64s (List.replicate 4 0)) En2737 Hv2738 fun ac2740 wo2741 bk2739 En2742 Hv2743 => ?_
 refine f_o ?_
 refine m_g 8 0 4 (u64s (sL (mL (aL a b) (aL a b)) (mL (sL a b) (sL a b)))) (u64s (sL (mL (aL a b) (aL a b)) (mL (sL a b) (sL a b)))) [.box bk6 ((u64s c) ++ (u64s d)) 37, .box bk11 (u64s x) 33, .box bk16 ((u64s (List.replicate 4 0)) ++ (u64s (List.replicate 4 0))) 37, .box bk21 ((u64s (List.replicate 4 0)) ++ (u64s (List.replicate 4 0))) 37, .box bk1020 (u64s (aL a b)) 33, .box bk1025 (u64s (sL a b)) 33, .box bk2370 (u64s (mL (aL a b) (aL a b))) 33, .box bk2375 (u64s (mL (sL a b) (sL a b))) 33, .box bk2739 (u64s (sL (mL (aL a b) (aL a b)) (mL (sL a b) (sL a b)))) 33] En2742 Hv2743 rfl (u64s_lenh (sL_len _ _)) (by rw [(u64s_lenh (List.length_replicate))]; decide) (u64s_one _) (store_whole (u64s_lenh (List.length_replicate))) rfl fun ac2744 wo2745 En2746 Hv2747 => ?_
 refine f_e ?_
 refine then_normal ?_
 refine wp_seq ?_
 refine r_c (fun ac wo => ∃ (bk7521 : Nat) (bk7526 : Nat), Env ac 76 [(5, pt bk11), (6, pt bk16), (7, pt bk21), (8, pt bk1020), (9, pt bk1025), (10, pt bk2370), (11, pt bk2375), (12, pt bk2739), (13, pt bk7521), (14, pt bk7526)] ∧ Ev w [] wo [.box bk11 (u64s x) 33, .box bk16 ((u64s (List.replicate 4 0)) ++ (u64s (List.replicate 4 0))) 37, .box bk21 ((u64s (List.replicate 4 0)) ++ (u64s (List.replicate 4 0))) 37, .box bk1020 (u64s (aL a b)) 33, .box bk1025 (u64s (sL a b)) 33, .box bk2370 (u64s (mL (aL a b) (aL a b))) 33, .box bk2375 (u64s (mL (sL a b) (sL a b))) 33, .box bk2739 (u64s (sL (mL (aL a b) (aL a b)) (mL (sL a b) (sL a b)))) 33, .box bk7521 (u64s (mL (sL c d) (aL a b))) 33, .box bk7526 (u64s (mL (aL c d) (sL a b))) 33]) ?_ ?_
 ·
  refine h_s (fun wv => Ev w [] wv [.box bk6 ((u64s c) ++ (u64s d)) 37, .box bk1020 (u64s (aL a b)) 33, .box bk1025 (u64s (sL a b)) 33]) [] 18 ?_
  have wo2748 := Hv2747.trans (Ev.drew Hv2747.heap)
  refine h_name fun G hG => ?_
  have nd7795 : ∀ (ac : Act) (wo : World) (bk7521 : Nat), Env ac 76 [(5, pt bk11), (6, pt bk16), (7, pt bk21), (8, pt bk1020), (9, pt bk1025), (10, pt bk2370), (11, pt bk2375), (12, pt bk2739), (13, pt bk7521), (42, .agg (List.toArray (u64s (mL (sL c d) (aL a b))))), (49, .agg (List.toArray (u64s (mL (aL c d) (sL a b)))))] → Ev w [] wo [.box bk6 ((u64s c) ++ (u64s d)) 37, .box bk11 (u64s x) 33, .box bk16 ((u64s (List.replicate 4 0)) ++ (u64s (List.replicate 4 0))) 37, .box bk21 ((u64s (List.replicate 4 0)) ++ (u64s (List.replicate 4 0))) 37, .box bk1020 (u64s (aL a b)) 33, .box bk1025 (u64s (sL a b)) 33, .box bk2370 (u64s (mL (aL a b) (aL a b))) 33, .box bk2375 (u64s (mL (sL a b) (sL a b))) 33, .box bk2739 (u64s (sL (mL (aL a b) (aL a b)) (mL (sL a b) (sL a b)))) 33, .box bk7521 (u64s (List.replicate 4 0)) 33] → G 3 #[true, true, true, true, true, true, true, true, true, true, true, true, true, true, true, false, false, false] ac wo := by
   intro ac7796 wo7797 bk7521 En7798 Hv7799
   refine h_from hG ?_
   refine q_t 15 ?_
   refine m_z 33 (u64s (List.replicate 4 0)) En7798 Hv7799 fun ac7801 wo7802 bk7800 En7803 Hv7804 => ?_
   refine ⟨fun _ => Hv7804.pk [0, 4, 5], ?_⟩
   refine q_t 16 ?_
   refine m_g 9 0 4 (u64s (mL (sL c d) (aL a b))) (u64s (mL (sL c d) (aL a b))) [.box bk6 ((u64s c) ++ (u64s d)) 37, .box bk11 (u64s x) 33, .box bk16 ((u64s (List.replicate 4 0)) ++ (u64s (List.replicate 4 0))) 37, .box bk21 ((u64s (List.replicate 4 0)) ++ (u64s (List.replicate 4 0))) 37, .box bk1020 (u64s (aL a b)) 33, .box bk1025 (u64s (sL a b)) 33, .box bk2370 (u64s (mL (aL a b) (aL a b))) 33, .box bk2375 (u64s (mL (sL a b) (sL a b))) 33, .box bk2739 (u64s (sL (mL (aL a b) (aL a b)) (mL (sL a b) (sL a b)))) 33, .box bk7521 (u64s (mL (sL c d) (aL a b))) 33, .box bk7800 (u64s (List.replicate 4 0)) 33] En7803 Hv7804 rfl (u64s_lenh (mL_len _ _)) (by rw [(u64s_lenh (List.length_replicate))]; decide) (u64s_one _) (store_whole (u64s_lenh (List.length_replicate))) rfl fun ac7805 wo7806 En7807 Hv7808 => ?_
   refine ⟨fun _ => Hv7808.pk [0, 4, 5], ?_⟩
   refine q_t 17 ?_
   refine m_g 10 0 4 (u64s (mL (aL c d) (sL a b))) (u64s (mL (aL c d) (sL a b))) [.box bk6 ((u64s c) ++ (u64s d)) 37, .box bk11 (u64s x) 33, .box bk16 ((u64s (List.replicate 4 0)) ++ (u64s (List.replicate 4 0))) 37, .box bk21 ((u64s (List.replicate 4 0)) ++ (u64s (List.replicate 4 0))) 37, .box bk1020 (u64s (aL a b)) 33, .box bk1025 (u64s (sL a b)) 33, .box bk2370 (u64s (mL (aL a b) (aL a b))) 33, .box bk2375 (u64s (mL (sL a b) (sL a b))) 33, .box bk2739 (u64s (sL (mL (aL a b) (aL a b)) (mL (sL a b) (sL a b)))) 33, .box bk7521 (u64s (mL (sL c d) (aL a b))) 33, .box bk7800 (u64s (mL (aL c d) (sL a b))) 33] En7807 Hv7808 rfl (u64s_lenh (mL_len _ _)) (by rw [(u64s_lenh (List.length_replicate))]; decide) (u64s_one _) (store_whole (u64s_lenh (List.length_replicate))) rfl fun ac7809 wo7810 En7811 Hv7812 => ?_
   refine ⟨fun _ => Hv7812.pk [0, 4, 5], ?_⟩
   exact h_e ⟨bk7521, bk7800, En7811.sb, Hv7812.pk [1, 2, 3, 4, 5, 6, 7, 8, 9, 10]⟩
  have nd7813 : ∀ (ac : Act) (wo : World) (bk7539 : Nat), Env ac 76 [(5, pt bk11), (6, pt bk16), (7, pt bk21), (8, pt bk1020), (9, pt bk1025), (10, pt bk2370), (11, pt bk2375), (12, pt bk2739), (14, pt bk7539), (42, .agg (List.toArray (u64s (mL (sL c d) (aL a b))))), (49, .agg (List.toArray (u64s (mL (aL c d) (sL a b)))))] → Ev w [] wo [.box bk6 ((u64s c) ++ (u64s d)) 37, .box bk11 (u64s x) 33, .box bk16 ((u64s (List.replicate 4 0)) ++ (u64s (List.replicate 4 0))) 37, .box bk21 ((u64s (List.replicate 4 0)) ++ (u64s (List.replicate 4 0))) 37, .box bk1020 (u64s (aL a b)) 33, .box bk1025 (u64s (sL a b)) 33, .box bk2370 (u64s (mL (aL a b) (aL a b))) 33, .box bk2375 (u64s (mL (sL a b) (sL a b))) 33, .box bk2739 (u64s (sL (mL (aL a b) (aL a b)) (mL (sL a b) (sL a b)))) 33, .box bk7539 (u64s (List.replicate 4 0)) 33] → G 3 #[true, true, true, true, true, true, true, true, true, true, true, true, true, true, false, true, false, false] ac wo := by
   intro ac7814 wo7815 bk7539 En7816 Hv7817
   refine h_from hG ?_
   refine q_t 14 ?_
   refine m_z 33 (u64s (List.replicate 4 0)) En7816 Hv7817 fun ac7819 wo7820 bk7818 En7821 Hv7822 => ?_
   refine ⟨fun _ => Hv7822.pk [0, 4, 5], ?_⟩
   refine q_t 16 ?_
   refine m_g 10 0 4 (u64s (mL (sL c d) (aL a b))) (u64s (mL (sL c d) (aL a b))) [.box bk6 ((u64s c) ++ (u64s d)) 37, .box bk11 (u64s x) 33, .box bk16 ((u64s (List.replicate 4 0)) ++ (u64s (List.replicate 4 0))) 37, .box bk21 ((u64s (List.replicate 4 0)) ++ (u64s (List.replicate 4 0))) 37, .box bk1020 (u64s (aL a b)) 33, .box bk1025 (u64s (sL a b)) 33, .box bk2370 (u64s (mL (aL a b) (aL a b))) 33, .box bk2375 (u64s (mL (sL a b) (sL a b))) 33, .box bk2739 (u64s (sL (mL (aL a b) (aL a b)) (mL (sL a b) (sL a b)))) 33, .box bk7539 (u64s (List.replicate 4 0)) 33, .box bk7818 (u64s (mL (sL c d) (aL a b))) 33] En7821 Hv7822 rfl (u64s_lenh (mL_len _ _)) (by rw [(u64s_lenh (List.length_replicate))]; decide) (u64s_one _) (store_whole (u64s_lenh (List.length_replicate))) rfl fun ac7823 wo7824 En7825 Hv7826 => ?_
   refine ⟨fun _ => Hv7826.pk [0, 4, 5], ?_⟩
   refine q_t 17 ?_
   refine m_g 9 0 4 (u64s (mL (aL c d) (sL a b))) (u64s (mL (aL c d) (sL a b))) [.box bk6 ((u64s c) ++ (u64s d)) 37, .box bk11 (u64s x) 33, .box bk16 ((u64s (List.replicate 4 0)) ++ (u64s (List.replicate 4 0))) 37, .box bk21 ((u64s (List.replicate 4 0)) ++ (u64s (List.replicate 4 0))) 37, .box bk1020 (u64s (aL a b)) 33, .box bk1025 (u64s (sL a b)) 33, .box bk2370 (u64s (mL (aL a b) (aL a b))) 33, .box bk2375 (u64s (mL (sL a b) (sL a b))) 33, .box bk2739 (u64s (sL (mL (aL a b) (aL a b)) (mL (sL a b) (sL a b)))) 33, .box bk7539 (u64s (mL (aL c d) (sL a b))) 33, .box bk7818 (u64s (mL (sL c d) (aL a b))) 33] En7825 Hv7826 rfl (u64s_lenh (mL_len _ _)) (by rw [(u64s_lenh (List.length_replicate))]; decide) (u64s_one _) (store_whole (u64s_lenh (List.length_replicate))) rfl fun ac7827 wo7828 En7829 Hv7830 => ?_
   refine ⟨fun _ => Hv7830.pk [0, 4, 5], ?_⟩
   exact h_e ⟨bk7818, bk7539, En7829.sb, Hv7830.pk [1, 2, 3, 4, 5, 6, 7, 8, 10, 9]⟩
  have nd7831 : ∀ (ac : Act) (wo : World) (bk7557 : Nat) (bk7569 : Nat), Env ac 76 [(5, pt bk11), (6, pt bk16), (7, pt bk21), (8, pt bk1020), (9, pt bk1025), (10, pt bk2370), (11, pt bk2375), (12, pt bk2739), (13, pt bk7557), (14, pt bk7569), (42, .agg (List.toArray (u64s (mL (sL c d) (aL a b))))), (47, .agg (List.toArray (u64s (aL c d)))), (48, .agg (List.toArray (u64s (sL a b))))] → Ev w [] wo [.box bk6 ((u64s c) ++ (u64s d)) 37, .box bk11 (u64s x) 33, .box bk16 ((u64s (List.replicate 4 0)) ++ (u64s (List.replicate 4 0))) 37, .box bk21 ((u64s (List.replicate 4 0)) ++ (u64s (List.replicate 4 0))) 37, .box bk1020 (u64s (aL a b)) 33, .box bk1025 (u64s (sL a b)) 33, .box bk2370 (u64s (mL (aL a b) (aL a b))) 33, .box bk2375 (u64s (mL (sL a b) (sL a b))) 33, .box bk2739 (u64s (sL (mL (aL a b) (aL a b)) (mL (sL a b) (sL a b)))) 33, .box bk7557 (u64s (List.replicate 4 0)) 33, .box bk7569 (u64s (List.replicate 4 0)) 33] → G 3 #[true, true, true, true, true, true, true, true, true, true, true, true, true, false, true, true, false, false] ac wo := by
   intro ac7832 wo7833 bk7557 bk7569 En7834 Hv7835
   refine h_from hG ?_
   refine q_t 13 ?_
   refine c_p En7834 Hv7835 (xmul_go _ (aL c d) (sL a b) (aL_len _ _) (sL_len _ _)) fun ac7840 wo7837 En7841 Hv7842 => ?_
   refine ⟨fun _ => Hv7842.pk [0, 4, 5], ?_⟩
   refine q_t 16 ?_
   refine m_g 9 0 4 (u64s (mL (sL c d) (aL a b))) (u64s (mL (sL c d) (aL a b))) [.box bk6 ((u64s c) ++ (u64s d)) 37, .box bk11 (u64s x) 33, .box bk16 ((u64s (List.replicate 4 0)) ++ (u64s (List.replicate 4 0))) 37, .box bk21 ((u64s (List.replicate 4 0)) ++ (u64s (List.replicate 4 0))) 37, .box bk1020 (u64s (aL a b)) 33, .box bk1025 (u64s (sL a b)) 33, .box bk2370 (u64s (mL (aL a b) (aL a b))) 33, .box bk2375 (u64s (mL (sL a b) (sL a b))) 33, .box bk2739 (u64s (sL (mL (aL a b) (aL a b)) (mL (sL a b) (sL a b)))) 33, .box bk7557 (u64s (mL (sL c d) (aL a b))) 33, .box bk7569 (u64s (List.replicate 4 0)) 33] En7841 Hv7842 rfl (u64s_lenh (mL_len _ _)) (by rw [(u64s_lenh (List.length_replicate))]; decide) (u64s_one _) (store_whole (u64s_lenh (List.length_replicate))) rfl fun ac7843 wo7844 En7845 Hv7846 => ?_
   refine ⟨fun _ => Hv7846.pk [0, 4, 5], ?_⟩
   refine q_t 17 ?_
   refine m_g 10 0 4 (u64s (mL (aL c d) (sL a b))) (u64s (mL (aL c d) (sL a b))) [.box bk6 ((u64s c) ++ (u64s d)) 37, .box bk11 (u64s x) 33, .box bk16 ((u64s (List.replicate 4 0)) ++ (u64s (List.replicate 4 0))) 37, .box bk21 ((u64s (List.replicate 4 0)) ++ (u64s (List.replicate 4 0))) 37, .box bk1020 (u64s (aL a b)) 33, .box bk1025 (u64s (sL a b)) 33, .box bk2370 (u64s (mL (aL a b) (aL a b))) 33, .box bk2375 (u64s (mL (sL a b) (sL a b))) 33, .box bk2739 (u64s (sL (mL (aL a b) (aL a b)) (mL (sL a b) (sL a b)))) 33, .box bk7557 (u64s (mL (sL c d) (aL a b))) 33, .box bk7569 (u64s (mL (aL c d) (sL a b))) 33] En7845 Hv7846 rfl (u64s_lenh (mL_len _ _)) (by rw [(u64s_lenh (List.length_replicate))]; decide) (u64s_one _) (store_whole (u64s_lenh (List.length_replicate))) rfl fun ac7847 wo7848 En7849 Hv7850 => ?_
   refine ⟨fun _ => Hv7850.pk [0, 4, 5], ?_⟩
   exact h_e ⟨bk7557, bk7569, En7849.sb, Hv7850.pk [1, 2, 3, 4, 5, 6, 7, 8, 9, 10]⟩
  have nd7851 : ∀ (ac : Act) (wo : World), Env ac 76 [(5, pt bk11), (6, pt bk16), (7, pt bk21), (8, pt bk1020), (9, pt bk1025), (10, pt bk2370), (11, pt bk2375), (12, pt bk2739), (42, .agg (List.toArray (u64s (mL (sL c d) (aL a b))))), (49, .agg (List.toArray (u64s (mL (aL c d) (sL a b)))))] → Ev w [] wo [.box bk6 ((u64s c) ++ (u64s d)) 37, .box bk11 (u64s x) 33, .box bk16 ((u64s (List.replicate 4 0)) ++ (u64s (List.replicate 4 0))) 37, .box bk21 ((u64s (List.replicate 4 0)) ++ (u64s (List.replicate 4 0))) 37, .box bk1020 (u64s (aL a b)) 33, .box bk1025 (u64s (sL a b)) 33, .box bk2370 (u64s (mL (aL a b) (aL a b))) 33, .box bk2375 (u64s (mL (sL a b) (sL a b))) 33, .box bk2739 (u64s (sL (mL (aL a b) (aL a b)) (mL (sL a b) (sL a b)))) 33] → G 4 #[true, true, true, true, true, true, true, true, true, true, true, true, true, true, false, false, false, false] ac wo := by
   intro ac7852 wo7853 En7854 Hv7855
   refine h_from hG ?_
   refine h_ways [14, 15] (by kernel_rfl) rfl ?_
   refine ⟨?_, ?_, trivial⟩
   ·
    rintro _ rfl
    refine m_z 33 (u64s (List.replicate 4 0)) En7854 Hv7855 fun ac7857 wo7858 bk7856 En7859 Hv7860 => ?_
    refine ⟨fun _ => Hv7860.pk [0, 4, 5], ?_⟩
    exact h_to hG (by kernel_rfl) (nd7795 _ _ bk7856 (En7859.sb) (Hv7860.pk [0, 1, 2, 3, 4, 5, 6, 7, 8, 9]))
   ·
    rintro _ rfl
    refine m_z 33 (u64s (List.replicate 4 0)) En7854 Hv7855 fun ac7862 wo7863 bk7861 En7864 Hv7865 => ?_
    refine ⟨fun _ => Hv7865.pk [0, 4, 5], ?_⟩
    exact h_to hG (by kernel_rfl) (nd7813 _ _ bk7861 (En7864.sb) (Hv7865.pk [0, 1, 2, 3, 4, 5, 6, 7, 8, 9]))
  have nd7866 : ∀ (ac : Act) (wo : World) (bk7557 : Nat), Env ac 76 [(5, pt bk11), (6, pt bk16), (7, pt bk21), (8, pt bk1020), (9, pt bk1025), (10, pt bk2370), (11, pt bk2375), (12, pt bk2739), (13, pt bk7557), (42, .agg (List.toArray (u64s (mL (sL c d) (aL a b))))), (47, .agg (List.toArray (u64s (aL c d)))), (48, .agg (List.toArray (u64s (sL a b))))] → Ev w [] wo [.box bk6 ((u64s c) ++ (u64s d)) 37, .box bk11 (u64s x) 33, .box bk16 ((u64s (List.replicate 4 0)) ++ (u64s (List.replicate 4 0))) 37, .box bk21 ((u64s (List.replicate 4 0)) ++ (u64s (List.replicate 4 0))) 37, .box bk1020 (u64s (aL a b)) 33, .box bk1025 (u64s (sL a b)) 33, .box bk2370 (u64s (mL (aL a b) (aL a b))) 33, .box bk2375 (u64s (mL (sL a b) (sL a b))) 33, .box bk2739 (u64s (sL (mL (aL a b) (aL a b)) (mL (sL a b) (sL a b)))) 33, .box bk7557 (u64s (List.replicate 4 0)) 33] → G 4 #[true, true, true, true, true, true, true, true, true, true, true, true, true, false, true, false, false, false] ac wo := by
   intro ac7867 wo7868 bk7557 En7869 Hv7870
   refine h_from hG ?_
   refine h_ways [13, 15] (by kernel_rfl) rfl ?_
   refine ⟨?_, ?_, trivial⟩
   ·
    rintro _ rfl
    refine c_p En7869 Hv7870 (xmul_go _ (aL c d) (sL a b) (aL_len _ _) (sL_len _ _)) fun ac7875 wo7872 En7876 Hv7877 => ?_
    refine ⟨fun _ => Hv7877.pk [0, 4, 5], ?_⟩
    exact h_to hG (by kernel_rfl) (nd7795 _ _ bk7557 (En7876.sb) (Hv7877.pk [0, 1, 2, 3, 4, 5, 6, 7, 8, 9]))
   ·
    rintro _ rfl
    refine m_z 33 (u64s (List.replicate 4 0)) En7869 Hv7870 fun ac7879 wo7880 bk7878 En7881 Hv7882 => ?_
    refine ⟨fun _ => Hv7882.pk [0, 4, 5], ?_⟩
    exact h_to hG (by kernel_rfl) (nd7831 _ _ bk7557 bk7878 (En7881.sb) (Hv7882.pk [0, 1, 2, 3, 4, 5, 6, 7, 8, 9, 10]))
  have nd7883 : ∀ (ac : Act) (wo : World) (bk7589 : Nat), Env ac 76 [(5, pt bk11), (6, pt bk16), (7, pt bk21), (8, pt bk1020), (9, pt bk1025), (10, pt bk2370), (11, pt bk2375), (12, pt bk2739), (14, pt bk7589), (42, .agg (List.toArray (u64s (mL (sL c d) (aL a b))))), (47, .agg (List.toArray (u64s (aL c d)))), (48, .agg (List.toArray (u64s (sL a b))))] → Ev w [] wo [.box bk6 ((u64s c) ++ (u64s d)) 37, .box bk11 (u64s x) 33, .box bk16 ((u64s (List.replicate 4 0)) ++ (u64s (List.replicate 4 0))) 37, .box bk21 ((u64s (List.replicate 4 0)) ++ (u64s (List.replicate 4 0))) 37, .box bk1020 (u64s (aL a b)) 33, .box bk1025 (u64s (sL a b)) 33, .box bk2370 (u64s (mL (aL a b) (aL a b))) 33, .box bk2375 (u64s (mL (sL a b) (sL a b))) 33, .box bk2739 (u64s (sL (mL (aL a b) (aL a b)) (mL (sL a b) (sL a b)))) 33, .box bk7589 (u64s (List.replicate 4 0)) 33] → G 4 #[true, true, true, true, true, true, true, true, true, true, true, true, true, false, false, true, false, false] ac wo := by
   intro ac7884 wo7885 bk7589 En7886 Hv7887
   refine h_from hG ?_
   refine h_ways [13, 14] (by kernel_rfl) rfl ?_
   refine ⟨?_, ?_, trivial⟩
   ·
    rintro _ rfl
    refine c_p En7886 Hv7887 (xmul_go _ (aL c d) (sL a b) (aL_len _ _) (sL_len _ _)) fun ac7892 wo7889 En7893 Hv7894 => ?_
    refine ⟨fun _ => Hv7894.pk [0, 4, 5], ?_⟩
    exact h_to hG (by kernel_rfl) (nd7813 _ _ bk7589 (En7893.sb) (Hv7894.pk [0, 1, 2, 3, 4, 5, 6, 7, 8, 9]))
   ·
    rintro _ rfl
    refine m_z 33 (u64s (List.replicate 4 0)) En7886 Hv7887 fun ac7896 wo7897 bk7895 En7898 Hv7899 => ?_
    refine ⟨fun _ => Hv7899.pk [0, 4, 5], ?_⟩
    exact h_to hG (by kernel_rfl) (nd7831 _ _ bk7895 bk7589 (En7898.sb) (Hv7899.pk [0, 1, 2, 3, 4, 5, 6, 7, 8, 10, 9]))
  have nd7900 : ∀ (ac : Act) (wo : World) (bk7606 : Nat) (bk7618 : Nat), Env ac 76 [(5, pt bk11), (6, pt bk16), (7, pt bk21), (8, pt bk1020), (9, pt bk1025), (10, pt bk2370), (11, pt bk2375), (12, pt bk2739), (13, pt bk7606), (14, pt bk7618), (42, .agg (List.toArray (u64s (mL (sL c d) (aL a b))))), (44, .agg (List.toArray (u64s c))), (46, .agg (List.toArray (u64s d))), (48, .agg (List.toArray (u64s (sL a b))))] → Ev w [] wo [.box bk6 ((u64s c) ++ (u64s d)) 37, .box bk11 (u64s x) 33, .box bk16 ((u64s (List.replicate 4 0)) ++ (u64s (List.replicate 4 0))) 37, .box bk21 ((u64s (List.replicate 4 0)) ++ (u64s (List.replicate 4 0))) 37, .box bk1020 (u64s (aL a b)) 33, .box bk1025 (u64s (sL a b)) 33, .box bk2370 (u64s (mL (aL a b) (aL a b))) 33, .box bk2375 (u64s (mL (sL a b) (sL a b))) 33, .box bk2739 (u64s (sL (mL (aL a b) (aL a b)) (mL (sL a b) (sL a b)))) 33, .box bk7606 (u64s (List.replicate 4 0)) 33, .box bk7618 (u64s (List.replicate 4 0)) 33] → G 4 #[true, true, true, true, true, true, true, true, true, true, true, false, true, false, true, true, false, false] ac wo := by
   intro ac7901 wo7902 bk7606 bk7618 En7903 Hv7904
   refine h_from hG ?_
   refine q_t 11 ?_
   refine c_p En7903 Hv7904 (xsum_go _ c d hc hd) fun ac7909 wo7906 En7910 Hv7911 => ?_
   refine ⟨fun _ => Hv7911.pk [0, 4, 5], ?_⟩
   refine q_t 13 ?_
   refine c_p En7910 Hv7911 (xmul_go _ (aL c d) (sL a b) (aL_len _ _) (sL_len _ _)) fun ac7916 wo7913 En7917 Hv7918 => ?_
   refine ⟨fun _ => Hv7918.pk [0, 4, 5], ?_⟩
   refine q_t 16 ?_
   refine m_g 9 0 4 (u64s (mL (sL c d) (aL a b))) (u64s (mL (sL c d) (aL a b))) [.box bk6 ((u64s c) ++ (u64s d)) 37, .box bk11 (u64s x) 33, .box bk16 ((u64s (List.replicate 4 0)) ++ (u64s (List.replicate 4 0))) 37, .box bk21 ((u64s (List.replicate 4 0)) ++ (u64s (List.replicate 4 0))) 37, .box bk1020 (u64s (aL a b)) 33, .box bk1025 (u64s (sL a b)) 33, .box bk2370 (u64s (mL (aL a b) (aL a b))) 33, .box bk2375 (u64s (mL (sL a b) (sL a b))) 33, .box bk2739 (u64s (sL (mL (aL a b) (aL a b)) (mL (sL a b) (sL a b)))) 33, .box bk7606 (u64s (mL (sL c d) (aL a b))) 33, .box bk7618 (u64s (List.replicate 4 0)) 33] En7917 Hv7918 rfl (u64s_lenh (mL_len _ _)) (by rw [(u64s_lenh (List.length_replicate))]; decide) (u64s_one _) (store_whole (u64s_lenh (List.length_replicate))) rfl fun ac7919 wo7920 En7921 Hv7922 => ?_
   refine ⟨fun _ => Hv7922.pk [0, 4, 5], ?_⟩
   refine q_t 17 ?_
   refine m_g 10 0 4 (u64s (mL (aL c d) (sL a b))) (u64s (mL (aL c d) (sL a b))) [.box bk6 ((u64s c) ++ (u64s d)) 37, .box bk11 (u64s x) 33, .box bk16 ((u64s (List.replicate 4 0)) ++ (u64s (List.replicate 4 0))) 37, .box bk21 ((u64s (List.replicate 4 0)) ++ (u64s (List.replicate 4 0))) 37, .box bk1020 (u64s (aL a b)) 33, .box bk1025 (u64s (sL a b)) 33, .box bk2370 (u64s (mL (aL a b) (aL a b))) 33, .box bk2375 (u64s (mL (sL a b) (sL a b))) 33, .box bk2739 (u64s (sL (mL (aL a b) (aL a b)) (mL (sL a b) (sL a b)))) 33, .box bk7606 (u64s (mL (sL c d) (aL a b))) 33, .box bk7618 (u64s (mL (aL c d) (sL a b))) 33] En7921 Hv7922 rfl (u64s_lenh (mL_len _ _)) (by rw [(u64s_lenh (List.length_replicate))]; decide) (u64s_one _) (store_whole (u64s_lenh (List.length_replicate))) rfl fun ac7923 wo7924 En7925 Hv7926 => ?_
   refine ⟨fun _ => Hv7926.pk [0, 4, 5], ?_⟩
   exact h_e ⟨bk7606, bk7618, En7925.sb, Hv7926.pk [1, 2, 3, 4, 5, 6, 7, 8, 9, 10]⟩
  have nd7927 : ∀ (ac : Act) (wo : World), Env ac 76 [(5, pt bk11), (6, pt bk16), (7, pt bk21), (8, pt bk1020), (9, pt bk1025), (10, pt bk2370), (11, pt bk2375), (12, pt bk2739), (42, .agg (List.toArray (u64s (mL (sL c d) (aL a b))))), (47, .agg (List.toArray (u64s (aL c d)))), (48, .agg (List.toArray (u64s (sL a b))))] → Ev w [] wo [.box bk6 ((u64s c) ++ (u64s d)) 37, .box bk11 (u64s x) 33, .box bk16 ((u64s (List.replicate 4 0)) ++ (u64s (List.replicate 4 0))) 37, .box bk21 ((u64s (List.replicate 4 0)) ++ (u64s (List.replicate 4 0))) 37, .box bk1020 (u64s (aL a b)) 33, .box bk1025 (u64s (sL a b)) 33, .box bk2370 (u64s (mL (aL a b) (aL a b))) 33, .box bk2375 (u64s (mL (sL a b) (sL a b))) 33, .box bk2739 (u64s (sL (mL (aL a b) (aL a b)) (mL (sL a b) (sL a b)))) 33] → G 5 #[true, true, true, true, true, true, true, true, true, true, true, true, true, false, false, false, false, false] ac wo := by
   intro ac7928 wo7929 En7930 Hv7931
   refine h_from hG ?_
   refine h_ways [13, 14, 15] (by kernel_rfl) rfl ?_
   refine ⟨?_, ?_, ?_, trivial⟩
   ·
    rintro _ rfl
    refine c_p En7930 Hv7931 (xmul_go _ (aL c d) (sL a b) (aL_len _ _) (sL_len _ _)) fun ac7936 wo7933 En7937 Hv7938 => ?_
    refine ⟨fun _ => Hv7938.pk [0, 4, 5], ?_⟩
    exact h_to hG (by kernel_rfl) (nd7851 _ _ (En7937.sb) (Hv7938.pk [0, 1, 2, 3, 4, 5, 6, 7, 8]))
   ·
    rintro _ rfl
    refine m_z 33 (u64s (List.replicate 4 0)) En7930 Hv7931 fun ac7940 wo7941 bk7939 En7942 Hv7943 => ?_
    refine ⟨fun _ => Hv7943.pk [0, 4, 5], ?_⟩
    exact h_to hG (by kernel_rfl) (nd7866 _ _ bk7939 (En7942.sb) (Hv7943.pk [0, 1, 2, 3, 4, 5, 6, 7, 8, 9]))
   ·
    rintro _ rfl
    refine m_z 33 (u64s (List.replicate 4 0)) En7930 Hv7931 fun ac7945 wo7946 bk7944 En7947 Hv7948 => ?_
    refine ⟨fun _ => Hv7948.pk [0, 4, 5], ?_⟩
    exact h_to hG (by kernel_rfl) (nd7883 _ _ bk7944 (En7947.sb) (Hv7948.pk [0, 1, 2, 3, 4, 5, 6, 7, 8, 9]))
  have nd7949 : ∀ (ac : Act) (wo : World) (bk7606 : Nat), Env ac 76 [(5, pt bk11), (6, pt bk16), (7, pt bk21), (8, pt bk1020), (9, pt bk1025), (10, pt bk2370), (11, pt bk2375), (12, pt bk2739), (13, pt bk7606), (42, .agg (List.toArray (u64s (mL (sL c d) (aL a b))))), (44, .agg (List.toArray (u64s c))), (46, .agg (List.toArray (u64s d))), (48, .agg (List.toArray (u64s (sL a b))))] → Ev w [] wo [.box bk6 ((u64s c) ++ (u64s d)) 37, .box bk11 (u64s x) 33, .box bk16 ((u64s (List.replicate 4 0)) ++ (u64s (List.replicate 4 0))) 37, .box bk21 ((u64s (List.replicate 4 0)) ++ (u64s (List.replicate 4 0))) 37, .box bk1020 (u64s (aL a b)) 33, .box bk1025 (u64s (sL a b)) 33, .box bk2370 (u64s (mL (aL a b) (aL a b))) 33, .box bk2375 (u64s (mL (sL a b) (sL a b))) 33, .box bk2739 (u64s (sL (mL (aL a b) (aL a b)) (mL (sL a b) (sL a b)))) 33, .box bk7606 (u64s (List.replicate 4 0)) 33] → G 5 #[true, true, true, true, true, true, true, true, true, true, true, false, true, false, true, false, false, false] ac wo := by
   intro ac7950 wo7951 bk7606 En7952 Hv7953
   refine h_from hG ?_
   refine h_ways [11, 15] (by kernel_rfl) rfl ?_
   refine ⟨?_, ?_, trivial⟩
   ·
    rintro _ rfl
    refine c_p En7952 Hv7953 (xsum_go _ c d hc hd) fun ac7958 wo7955 En7959 Hv7960 => ?_
    refine ⟨fun _ => Hv7960.pk [0, 4, 5], ?_⟩
    exact h_to hG (by kernel_rfl) (nd7866 _ _ bk7606 (En7959.sb) (Hv7960.pk [0, 1, 2, 3, 4, 5, 6, 7, 8, 9]))
   ·
    rintro _ rfl
    refine m_z 33 (u64s (List.replicate 4 0)) En7952 Hv7953 fun ac7962 wo7963 bk7961 En7964 Hv7965 => ?_
    refine ⟨fun _ => Hv7965.pk [0, 4, 5], ?_⟩
    exact h_to hG (by kernel_rfl) (nd7900 _ _ bk7606 bk7961 (En7964.sb) (Hv7965.pk [0, 1, 2, 3, 4, 5, 6, 7, 8, 9, 10]))
  have nd7966 : ∀ (ac : Act) (wo : World) (bk7645 : Nat), Env ac 76 [(5, pt bk11), (6, pt bk16), (7, pt bk21), (8, pt bk1020), (9, pt bk1025), (10, pt bk2370), (11, pt bk2375), (12, pt bk2739), (14, pt bk7645), (42, .agg (List.toArray (u64s (mL (sL c d) (aL a b))))), (44, .agg (List.toArray (u64s c))), (46, .agg (List.toArray (u64s d))), (48, .agg (List.toArray (u64s (sL a b))))] → Ev w [] wo [.box bk6 ((u64s c) ++ (u64s d)) 37, .box bk11 (u64s x) 33, .box bk16 ((u64s (List.replicate 4 0)) ++ (u64s (List.replicate 4 0))) 37, .box bk21 ((u64s (List.replicate 4 0)) ++ (u64s (List.replicate 4 0))) 37, .box bk1020 (u64s (aL a b)) 33, .box bk1025 (u64s (sL a b)) 33, .box bk2370 (u64s (mL (aL a b) (aL a b))) 33, .box bk2375 (u64s (mL (sL a b) (sL a b))) 33, .box bk2739 (u64s (sL (mL (aL a b) (aL a b)) (mL (sL a b) (sL a b)))) 33, .box bk7645 (u64s (List.replicate 4 0)) 33] → G 5 #[true, true, true, true, true, true, true, true, true, true, true, false, true, false, false, true, false, false] ac wo := by
   intro ac7967 wo7968 bk7645 En7969 Hv7970
   refine h_from hG ?_
   refine h_ways [11, 14] (by kernel_rfl) rfl ?_
   refine ⟨?_, ?_, trivial⟩
   ·
    rintro _ rfl
    refine c_p En7969 Hv7970 (xsum_go _ c d hc hd) fun ac7975 wo7972 En7976 Hv7977 => ?_
    refine ⟨fun _ => Hv7977.pk [0, 4, 5], ?_⟩
    exact h_to hG (by kernel_rfl) (nd7883 _ _ bk7645 (En7976.sb) (Hv7977.pk [0, 1, 2, 3, 4, 5, 6, 7, 8, 9]))
   ·
    rintro _ rfl
    refine m_z 33 (u64s (List.replicate 4 0)) En7969 Hv7970 fun ac7979 wo7980 bk7978 En7981 Hv7982 => ?_
    refine ⟨fun _ => Hv7982.pk [0, 4, 5], ?_⟩
    exact h_to hG (by kernel_rfl) (nd7900 _ _ bk7978 bk7645 (En7981.sb) (Hv7982.pk [0, 1, 2, 3, 4, 5, 6, 7, 8, 10, 9]))
  have nd7983 : ∀ (ac : Act) (wo : World) (bk7662 : Nat) (bk7674 : Nat), Env ac 76 [(5, pt bk11), (6, pt bk16), (7, pt bk21), (8, pt bk1020), (9, pt bk1025), (10, pt bk2370), (11, pt bk2375), (12, pt bk2739), (13, pt bk7662), (14, pt bk7674), (40, .agg (List.toArray (u64s (sL c d)))), (41, .agg (List.toArray (u64s (aL a b)))), (44, .agg (List.toArray (u64s c))), (46, .agg (List.toArray (u64s d))), (48, .agg (List.toArray (u64s (sL a b))))] → Ev w [] wo [.box bk6 ((u64s c) ++ (u64s d)) 37, .box bk11 (u64s x) 33, .box bk16 ((u64s (List.replicate 4 0)) ++ (u64s (List.replicate 4 0))) 37, .box bk21 ((u64s (List.replicate 4 0)) ++ (u64s (List.replicate 4 0))) 37, .box bk1020 (u64s (aL a b)) 33, .box bk1025 (u64s (sL a b)) 33, .box bk2370 (u64s (mL (aL a b) (aL a b))) 33, .box bk2375 (u64s (mL (sL a b) (sL a b))) 33, .box bk2739 (u64s (sL (mL (aL a b) (aL a b)) (mL (sL a b) (sL a b)))) 33, .box bk7662 (u64s (List.replicate 4 0)) 33, .box bk7674 (u64s (List.replicate 4 0)) 33] → G 5 #[true, true, true, true, true, true, false, true, true, true, true, false, true, false, true, true, false, false] ac wo := by
   intro ac7984 wo7985 bk7662 bk7674 En7986 Hv7987
   refine h_from hG ?_
   refine q_t 6 ?_
   refine c_p En7986 Hv7987 (xmul_go _ (sL c d) (aL a b) (sL_len _ _) (aL_len _ _)) fun ac7992 wo7989 En7993 Hv7994 => ?_
   refine ⟨fun _ => Hv7994.pk [0, 4, 5], ?_⟩
   refine q_t 11 ?_
   refine c_p En7993 Hv7994 (xsum_go _ c d hc hd) fun ac7999 wo7996 En8000 Hv8001 => ?_
   refine ⟨fun _ => Hv8001.pk [0, 4, 5], ?_⟩
   refine q_t 13 ?_
   refine c_p En8000 Hv8001 (xmul_go _ (aL c d) (sL a b) (aL_len _ _) (sL_len _ _)) fun ac8006 wo8003 En8007 Hv8008 => ?_
   refine ⟨fun _ => Hv8008.pk [0, 4, 5], ?_⟩
   refine q_t 16 ?_
   refine m_g 9 0 4 (u64s (mL (sL c d) (aL a b))) (u64s (mL (sL c d) (aL a b))) [.box bk6 ((u64s c) ++ (u64s d)) 37, .box bk11 (u64s x) 33, .box bk16 ((u64s (List.replicate 4 0)) ++ (u64s (List.replicate 4 0))) 37, .box bk21 ((u64s (List.replicate 4 0)) ++ (u64s (List.replicate 4 0))) 37, .box bk1020 (u64s (aL a b)) 33, .box bk1025 (u64s (sL a b)) 33, .box bk2370 (u64s (mL (aL a b) (aL a b))) 33, .box bk2375 (u64s (mL (sL a b) (sL a b))) 33, .box bk2739 (u64s (sL (mL (aL a b) (aL a b)) (mL (sL a b) (sL a b)))) 33, .box bk7662 (u64s (mL (sL c d) (aL a b))) 33, .box bk7674 (u64s (List.replicate 4 0)) 33] En8007 Hv8008 rfl (u64s_lenh (mL_len _ _)) (by rw [(u64s_lenh (List.length_replicate))]; decide) (u64s_one _) (store_whole (u64s_lenh (List.length_replicate))) rfl fun ac8009 wo8010 En8011 Hv8012 => ?_
   refine ⟨fun _ => Hv8012.pk [0, 4, 5], ?_⟩
   refine q_t 17 ?_
   refine m_g 10 0 4 (u64s (mL (aL c d) (sL a b))) (u64s (mL (aL c d) (sL a b))) [.box bk6 ((u64s c) ++ (u64s d)) 37, .box bk11 (u64s x) 33, .box bk16 ((u64s (List.replicate 4 0)) ++ (u64s (List.replicate 4 0))) 37, .box bk21 ((u64s (List.replicate 4 0)) ++ (u64s (List.replicate 4 0))) 37, .box bk1020 (u64s (aL a b)) 33, .box bk1025 (u64s (sL a b)) 33, .box bk2370 (u64s (mL (aL a b) (aL a b))) 33, .box bk2375 (u64s (mL (sL a b) (sL a b))) 33, .box bk2739 (u64s (sL (mL (aL a b) (aL a b)) (mL (sL a b) (sL a b)))) 33, .box bk7662 (u64s (mL (sL c d) (aL a b))) 33, .box bk7674 (u64s (mL (aL c d) (sL a b))) 33] En8011 Hv8012 rfl (u64s_lenh (mL_len _ _)) (by rw [(u64s_lenh (List.length_replicate))]; decide) (u64s_one _) (store_whole (u64s_lenh (List.length_replicate))) rfl fun ac8013 wo8014 En8015 Hv8016 => ?_
   refine ⟨fun _ => Hv8016.pk [0, 4, 5], ?_⟩
   exact h_e ⟨bk7662, bk7674, En8015.sb, Hv8016.pk [1, 2, 3, 4, 5, 6, 7, 8, 9, 10]⟩
  have nd8017 : ∀ (ac : Act) (wo : World), Env ac 76 [(5, pt bk11), (6, pt bk16), (7, pt bk21), (8, pt bk1020), (9, pt bk1025), (10, pt bk2370), (11, pt bk2375), (12, pt bk2739), (42, .agg (List.toArray (u64s (mL (sL c d) (aL a b))))), (44, .agg (List.toArray (u64s c))), (46, .agg (List.toArray (u64s d))), (48, .agg (List.toArray (u64s (sL a b))))] → Ev w [] wo [.box bk6 ((u64s c) ++ (u64s d)) 37, .box bk11 (u64s x) 33, .box bk16 ((u64s (List.replicate 4 0)) ++ (u64s (List.replicate 4 0))) 37, .box bk21 ((u64s (List.replicate 4 0)) ++ (u64s (List.replicate 4 0))) 37, .box bk1020 (u64s (aL a b)) 33, .box bk1025 (u64s (sL a b)) 33, .box bk2370 (u64s (mL (aL a b) (aL a b))) 33, .box bk2375 (u64s (mL (sL a b) (sL a b))) 33, .box bk2739 (u64s (sL (mL (aL a b) (aL a b)) (mL (sL a b) (sL a b)))) 33] → G 6 #[true, true, true, true, true, true, true, true, true, true, true, false, true, false, false, false, false, false] ac wo := by
   intro ac8018 wo8019 En8020 Hv8021
   refine h_from hG ?_
   refine h_ways [11, 14, 15] (by kernel_rfl) rfl ?_
   refine ⟨?_, ?_, ?_, trivial⟩
   ·
    rintro _ rfl
    refine c_p En8020 Hv8021 (xsum_go _ c d hc hd) fun ac8026 wo8023 En8027 Hv8028 => ?_
    refine ⟨fun _ => Hv8028.pk [0, 4, 5], ?_⟩
    exact h_to hG (by kernel_rfl) (nd7927 _ _ (En8027.sb) (Hv8028.pk [0, 1, 2, 3, 4, 5, 6, 7, 8]))
   ·
    rintro _ rfl
    refine m_z 33 (u64s (List.replicate 4 0)) En8020 Hv8021 fun ac8030 wo8031 bk8029 En8032 Hv8033 => ?_
    refine ⟨fun _ => Hv8033.pk [0, 4, 5], ?_⟩
    exact h_to hG (by kernel_rfl) (nd7949 _ _ bk8029 (En8032.sb) (Hv8033.pk [0, 1, 2, 3, 4, 5, 6, 7, 8, 9]))
   ·
    rintro _ rfl
    refine m_z 33 (u64s (List.replicate 4 0)) En8020 Hv8021 fun ac8035 wo8036 bk8034 En8037 Hv8038 => ?_
    refine ⟨fun _ => Hv8038.pk [0, 4, 5], ?_⟩
    exact h_to hG (by kernel_rfl) (nd7966 _ _ bk8034 (En8037.sb) (Hv8038.pk [0, 1, 2, 3, 4, 5, 6, 7, 8, 9]))
  have nd8039 : ∀ (ac : Act) (wo : World) (bk7662 : Nat), Env ac 76 [(5, pt bk11), (6, pt bk16), (7, pt bk21), (8, pt bk1020), (9, pt bk1025), (10, pt bk2370), (11, pt bk2375), (12, pt bk2739), (13, pt bk7662), (40, .agg (List.toArray (u64s (sL c d)))), (41, .agg (List.toArray (u64s (aL a b)))), (44, .agg (List.toArray (u64s c))), (46, .agg (List.toArray (u64s d))), (48, .agg (List.toArray (u64s (sL a b))))] → Ev w [] wo [.box bk6 ((u64s c) ++ (u64s d)) 37, .box bk11 (u64s x) 33, .box bk16 ((u64s (List.replicate 4 0)) ++ (u64s (List.replicate 4 0))) 37, .box bk21 ((u64s (List.replicate 4 0)) ++ (u64s (List.replicate 4 0))) 37, .box bk1020 (u64s (aL a b)) 33, .box bk1025 (u64s (sL a b)) 33, .box bk2370 (u64s (mL (aL a b) (aL a b))) 33, .box bk2375 (u64s (mL (sL a b) (sL a b))) 33, .box bk2739 (u64s (sL (mL (aL a b) (aL a b)) (mL (sL a b) (sL a b)))) 33, .box bk7662 (u64s (List.replicate 4 0)) 33] → G 6 #[true, true, true, true, true, true, false, true, true, true, true, false, true, false, true, false, false, false] ac wo := by
   intro ac8040 wo8041 bk7662 En8042 Hv8043
   refine h_from hG ?_
   refine h_ways [6, 15] (by kernel_rfl) rfl ?_
   refine ⟨?_, ?_, trivial⟩
   ·
    rintro _ rfl
    refine c_p En8042 Hv8043 (xmul_go _ (sL c d) (aL a b) (sL_len _ _) (aL_len _ _)) fun ac8048 wo8045 En8049 Hv8050 => ?_
    refine ⟨fun _ => Hv8050.pk [0, 4, 5], ?_⟩
    exact h_to hG (by kernel_rfl) (nd7949 _ _ bk7662 (En8049.sb) (Hv8050.pk [0, 1, 2, 3, 4, 5, 6, 7, 8, 9]))
   ·
    rintro _ rfl
    refine m_z 33 (u64s (List.replicate 4 0)) En8042 Hv8043 fun ac8052 wo8053 bk8051 En8054 Hv8055 => ?_
    refine ⟨fun _ => Hv8055.pk [0, 4, 5], ?_⟩
    exact h_to hG (by kernel_rfl) (nd7983 _ _ bk7662 bk8051 (En8054.sb) (Hv8055.pk [0, 1, 2, 3, 4, 5, 6, 7, 8, 9, 10]))
  have nd8056 : ∀ (ac : Act) (wo : World) (bk7708 : Nat), Env ac 76 [(5, pt bk11), (6, pt bk16), (7, pt bk21), (8, pt bk1020), (9, pt bk1025), (10, pt bk2370), (11, pt bk2375), (12, pt bk2739), (14, pt bk7708), (40, .agg (List.toArray (u64s (sL c d)))), (41, .agg (List.toArray (u64s (aL a b)))), (44, .agg (List.toArray (u64s c))), (46, .agg (List.toArray (u64s d))), (48, .agg (List.toArray (u64s (sL a b))))] → Ev w [] wo [.box bk6 ((u64s c) ++ (u64s d)) 37, .box bk11 (u64s x) 33, .box bk16 ((u64s (List.replicate 4 0)) ++ (u64s (List.replicate 4 0))) 37, .box bk21 ((u64s (List.replicate 4 0)) ++ (u64s (List.replicate 4 0))) 37, .box bk1020 (u64s (aL a b)) 33, .box bk1025 (u64s (sL a b)) 33, .box bk2370 (u64s (mL (aL a b) (aL a b))) 33, .box bk2375 (u64s (mL (sL a b) (sL a b))) 33, .box bk2739 (u64s (sL (mL (aL a b) (aL a b)) (mL (sL a b) (sL a b)))) 33, .box bk7708 (u64s (List.replicate 4 0)) 33] → G 6 #[true, true, true, true, true, true, false, true, true, true, true, false, true, false, false, true, false, false] ac wo := by
   intro ac8057 wo8058 bk7708 En8059 Hv8060
   refine h_from hG ?_
   refine h_ways [6, 14] (by kernel_rfl) rfl ?_
   refine ⟨?_, ?_, trivial⟩
   ·
    rintro _ rfl
    refine c_p En8059 Hv8060 (xmul_go _ (sL c d) (aL a b) (sL_len _ _) (aL_len _ _)) fun ac8065 wo8062 En8066 Hv8067 => ?_
    refine ⟨fun _ => Hv8067.pk [0, 4, 5], ?_⟩
    exact h_to hG (by kernel_rfl) (nd7966 _ _ bk7708 (En8066.sb) (Hv8067.pk [0, 1, 2, 3, 4, 5, 6, 7, 8, 9]))
   ·
    rintro _ rfl
    refine m_z 33 (u64s (List.replicate 4 0)) En8059 Hv8060 fun ac8069 wo8070 bk8068 En8071 Hv8072 => ?_
    refine ⟨fun _ => Hv8072.pk [0, 4, 5], ?_⟩
    exact h_to hG (by kernel_rfl) (nd7983 _ _ bk8068 bk7708 (En8071.sb) (Hv8072.pk [0, 1, 2, 3, 4, 5, 6, 7, 8, 10, 9]))
  have nd8073 : ∀ (ac : Act) (wo : World) (bk7725 : Nat) (bk7737 : Nat), Env ac 76 [(5, pt bk11), (6, pt bk16), (7, pt bk21), (8, pt bk1020), (9, pt bk1025), (10, pt bk2370), (11, pt bk2375), (12, pt bk2739), (13, pt bk7725), (14, pt bk7737), (37, .agg (List.toArray (u64s c))), (39, .agg (List.toArray (u64s d))), (41, .agg (List.toArray (u64s (aL a b)))), (44, .agg (List.toArray (u64s c))), (46, .agg (List.toArray (u64s d))), (48, .agg (List.toArray (u64s (sL a b))))] → Ev w [] wo [.box bk6 ((u64s c) ++ (u64s d)) 37, .box bk11 (u64s x) 33, .box bk16 ((u64s (List.replicate 4 0)) ++ (u64s (List.replicate 4 0))) 37, .box bk21 ((u64s (List.replicate 4 0)) ++ (u64s (List.replicate 4 0))) 37, .box bk1020 (u64s (aL a b)) 33, .box bk1025 (u64s (sL a b)) 33, .box bk2370 (u64s (mL (aL a b) (aL a b))) 33, .box bk2375 (u64s (mL (sL a b) (sL a b))) 33, .box bk2739 (u64s (sL (mL (aL a b) (aL a b)) (mL (sL a b) (sL a b)))) 33, .box bk7725 (u64s (List.replicate 4 0)) 33, .box bk7737 (u64s (List.replicate 4 0)) 33] → G 6 #[true, true, true, true, false, true, false, true, true, true, true, false, true, false, true, true, false, false] ac wo := by
   intro ac8074 wo8075 bk7725 bk7737 En8076 Hv8077
   refine h_from hG ?_
   refine q_t 4 ?_
   refine c_p En8076 Hv8077 (xdif_go _ c d hc hd) fun ac8082 wo8079 En8083 Hv8084 => ?_
   refine ⟨fun _ => Hv8084.pk [0, 4, 5], ?_⟩
   refine q_t 6 ?_
   refine c_p En8083 Hv8084 (xmul_go _ (sL c d) (aL a b) (sL_len _ _) (aL_len _ _)) fun ac8089 wo8086 En8090 Hv8091 => ?_
   refine ⟨fun _ => Hv8091.pk [0, 4, 5], ?_⟩
   refine q_t 11 ?_
   refine c_p En8090 Hv8091 (xsum_go _ c d hc hd) fun ac8096 wo8093 En8097 Hv8098 => ?_
   refine ⟨fun _ => Hv8098.pk [0, 4, 5], ?_⟩
   refine q_t 13 ?_
   refine c_p En8097 Hv8098 (xmul_go _ (aL c d) (sL a b) (aL_len _ _) (sL_len _ _)) fun ac8103 wo8100 En8104 Hv8105 => ?_
   refine ⟨fun _ => Hv8105.pk [0, 4, 5], ?_⟩
   refine q_t 16 ?_
   refine m_g 9 0 4 (u64s (mL (sL c d) (aL a b))) (u64s (mL (sL c d) (aL a b))) [.box bk6 ((u64s c) ++ (u64s d)) 37, .box bk11 (u64s x) 33, .box bk16 ((u64s (List.replicate 4 0)) ++ (u64s (List.replicate 4 0))) 37, .box bk21 ((u64s (List.replicate 4 0)) ++ (u64s (List.replicate 4 0))) 37, .box bk1020 (u64s (aL a b)) 33, .box bk1025 (u64s (sL a b)) 33, .box bk2370 (u64s (mL (aL a b) (aL a b))) 33, .box bk2375 (u64s (mL (sL a b) (sL a b))) 33, .box bk2739 (u64s (sL (mL (aL a b) (aL a b)) (mL (sL a b) (sL a b)))) 33, .box bk7725 (u64s (mL (sL c d) (aL a b))) 33, .box bk7737 (u64s (List.replicate 4 0)) 33] En8104 Hv8105 rfl (u64s_lenh (mL_len _ _)) (by rw [(u64s_lenh (List.length_replicate))]; decide) (u64s_one _) (store_whole (u64s_lenh (List.length_replicate))) rfl fun ac8106 wo8107 En8108 Hv8109 => ?_
   refine ⟨fun _ => Hv8109.pk [0, 4, 5], ?_⟩
   refine q_t 17 ?_
   refine m_g 10 0 4 (u64s (mL (aL c d) (sL a b))) (u64s (mL (aL c d) (sL a b))) [.box bk6 ((u64s c) ++ (u64s d)) 37, .box bk11 (u64s x) 33, .box bk16 ((u64s (List.replicate 4 0)) ++ (u64s (List.replicate 4 0))) 37, .box bk21 ((u64s (List.replicate 4 0)) ++ (u64s (List.replicate 4 0))) 37, .box bk1020 (u64s (aL a b)) 33, .box bk1025 (u64s (sL a b)) 33, .box bk2370 (u64s (mL (aL a b) (aL a b))) 33, .box bk2375 (u64s (mL (sL a b) (sL a b))) 33, .box bk2739 (u64s (sL (mL (aL a b) (aL a b)) (mL (sL a b) (sL a b)))) 33, .box bk7725 (u64s (mL (sL c d) (aL a b))) 33, .box bk7737 (u64s (mL (aL c d) (sL a b))) 33] En8108 Hv8109 rfl (u64s_lenh (mL_len _ _)) (by rw [(u64s_lenh (List.length_replicate))]; decide) (u64s_one _) (store_whole (u64s_lenh (List.length_replicate))) rfl fun ac8110 wo8111 En8112 Hv8113 => ?_
   refine ⟨fun _ => Hv8113.pk [0, 4, 5], ?_⟩
   exact h_e ⟨bk7725, bk7737, En8112.sb, Hv8113.pk [1, 2, 3, 4, 5, 6, 7, 8, 9, 10]⟩
  have nd8114 : ∀ (ac : Act) (wo : World), Env ac 76 [(5, pt bk11), (6, pt bk16), (7, pt bk21), (8, pt bk1020), (9, pt bk1025), (10, pt bk2370), (11, pt bk2375), (12, pt bk2739), (40, .agg (List.toArray (u64s (sL c d)))), (41, .agg (List.toArray (u64s (aL a b)))), (44, .agg (List.toArray (u64s c))), (46, .agg (List.toArray (u64s d))), (48, .agg (List.toArray (u64s (sL a b))))] → Ev w [] wo [.box bk6 ((u64s c) ++ (u64s d)) 37, .box bk11 (u64s x) 33, .box bk16 ((u64s (List.replicate 4 0)) ++ (u64s (List.replicate 4 0))) 37, .box bk21 ((u64s (List.replicate 4 0)) ++ (u64s (List.replicate 4 0))) 37, .box bk1020 (u64s (aL a b)) 33, .box bk1025 (u64s (sL a b)) 33, .box bk2370 (u64s (mL (aL a b) (aL a b))) 33, .box bk2375 (u64s (mL (sL a b) (sL a b))) 33, .box bk2739 (u64s (sL (mL (aL a b) (aL a b)) (mL (sL a b) (sL a b)))) 33] → G 7 #[true, true, true, true, true, true, false, true, true, true, true, false, true, false, false, false, false, false] ac wo := by
   intro ac8115 wo8116 En8117 Hv8118
   refine h_from hG ?_
   refine h_ways [6, 14, 15] (by kernel_rfl) rfl ?_
   refine ⟨?_, ?_, ?_, trivial⟩
   ·
    rintro _ rfl
    refine c_p En8117 Hv8118 (xmul_go _ (sL c d) (aL a b) (sL_len _ _) (aL_len _ _)) fun ac8123 wo8120 En8124 Hv8125 => ?_
    refine ⟨fun _ => Hv8125.pk [0, 4, 5], ?_⟩
    exact h_to hG (by kernel_rfl) (nd8017 _ _ (En8124.sb) (Hv8125.pk [0, 1, 2, 3, 4, 5, 6, 7, 8]))
   ·
    rintro _ rfl
    refine m_z 33 (u64s (List.replicate 4 0)) En8117 Hv8118 fun ac8127 wo8128 bk8126 En8129 Hv8130 => ?_
    refine ⟨fun _ => Hv8130.pk [0, 4, 5], ?_⟩
    exact h_to hG (by kernel_rfl) (nd8039 _ _ bk8126 (En8129.sb) (Hv8130.pk [0, 1, 2, 3, 4, 5, 6, 7, 8, 9]))
   ·
    rintro _ rfl
    refine m_z 33 (u64s (List.replicate 4 0)) En8117 Hv8118 fun ac8132 wo8133 bk8131 En8134 Hv8135 => ?_
    refine ⟨fun _ => Hv8135.pk [0, 4, 5], ?_⟩
    exact h_to hG (by kernel_rfl) (nd8056 _ _ bk8131 (En8134.sb) (Hv8135.pk [0, 1, 2, 3, 4, 5, 6, 7, 8, 9]))
  have nd8136 : ∀ (ac : Act) (wo : World) (bk7725 : Nat), Env ac 76 [(5, pt bk11), (6, pt bk16), (7, pt bk21), (8, pt bk1020), (9, pt bk1025), (10, pt bk2370), (11, pt bk2375), (12, pt bk2739), (13, pt bk7725), (37, .agg (List.toArray (u64s c))), (39, .agg (List.toArray (u64s d))), (41, .agg (List.toArray (u64s (aL a b)))), (44, .agg (List.toArray (u64s c))), (46, .agg (List.toArray (u64s d))), (48, .agg (List.toArray (u64s (sL a b))))] → Ev w [] wo [.box bk6 ((u64s c) ++ (u64s d)) 37, .box bk11 (u64s x) 33, .box bk16 ((u64s (List.replicate 4 0)) ++ (u64s (List.replicate 4 0))) 37, .box bk21 ((u64s (List.replicate 4 0)) ++ (u64s (List.replicate 4 0))) 37, .box bk1020 (u64s (aL a b)) 33, .box bk1025 (u64s (sL a b)) 33, .box bk2370 (u64s (mL (aL a b) (aL a b))) 33, .box bk2375 (u64s (mL (sL a b) (sL a b))) 33, .box bk2739 (u64s (sL (mL (aL a b) (aL a b)) (mL (sL a b) (sL a b)))) 33, .box bk7725 (u64s (List.replicate 4 0)) 33] → G 7 #[true, true, true, true, false, true, false, true, true, true, true, false, true, false, true, false, false, false] ac wo := by
   intro ac8137 wo8138 bk7725 En8139 Hv8140
   refine h_from hG ?_
   refine h_ways [4, 15] (by kernel_rfl) rfl ?_
   refine ⟨?_, ?_, trivial⟩
   ·
    rintro _ rfl
    refine c_p En8139 Hv8140 (xdif_go _ c d hc hd) fun ac8145 wo8142 En8146 Hv8147 => ?_
    refine ⟨fun _ => Hv8147.pk [0, 4, 5], ?_⟩
    exact h_to hG (by kernel_rfl) (nd8039 _ _ bk7725 (En8146.sb) (Hv8147.pk [0, 1, 2, 3, 4, 5, 6, 7, 8, 9]))
   ·
    rintro _ rfl
    refine m_z 33 (u64s (List.replicate 4 0)) En8139 Hv8140 fun ac8149 wo8150 bk8148 En8151 Hv8152 => ?_
    refine ⟨fun _ => Hv8152.pk [0, 4, 5], ?_⟩
    exact h_to hG (by kernel_rfl) (nd8073 _ _ bk7725 bk8148 (En8151.sb) (Hv8152.pk [0, 1, 2, 3, 4, 5, 6, 7, 8, 9, 10]))
  have nd8153 : ∀ (ac : Act) (wo : World) (bk7778 : Nat), Env ac 76 [(5, pt bk11), (6, pt bk16), (7, pt bk21), (8, pt bk1020), (9, pt bk1025), (10, pt bk2370), (11, pt bk2375), (12, pt bk2739), (14, pt bk7778), (37, .agg (List.toArray (u64s c))), (39, .agg (List.toArray (u64s d))), (41, .agg (List.toArray (u64s (aL a b)))), (44, .agg (List.toArray (u64s c))), (46, .agg (List.toArray (u64s d))), (48, .agg (List.toArray (u64s (sL a b))))] → Ev w [] wo [.box bk6 ((u64s c) ++ (u64s d)) 37, .box bk11 (u64s x) 33, .box bk16 ((u64s (List.replicate 4 0)) ++ (u64s (List.replicate 4 0))) 37, .box bk21 ((u64s (List.replicate 4 0)) ++ (u64s (List.replicate 4 0))) 37, .box bk1020 (u64s (aL a b)) 33, .box bk1025 (u64s (sL a b)) 33, .box bk2370 (u64s (mL (aL a b) (aL a b))) 33, .box bk2375 (u64s (mL (sL a b) (sL a b))) 33, .box bk2739 (u64s (sL (mL (aL a b) (aL a b)) (mL (sL a b) (sL a b)))) 33, .box bk7778 (u64s (List.replicate 4 0)) 33] → G 7 #[true, true, true, true, false, true, false, true, true, true, true, false, true, false, false, true, false, false] ac wo := by
   intro ac8154 wo8155 bk7778 En8156 Hv8157
   refine h_from hG ?_
   refine h_ways [4, 14] (by kernel_rfl) rfl ?_
   refine ⟨?_, ?_, trivial⟩
   ·
    rintro _ rfl
    refine c_p En8156 Hv8157 (xdif_go _ c d hc hd) fun ac8162 wo8159 En8163 Hv8164 => ?_
    refine ⟨fun _ => Hv8164.pk [0, 4, 5], ?_⟩
    exact h_to hG (by kernel_rfl) (nd8056 _ _ bk7778 (En8163.sb) (Hv8164.pk [0, 1, 2, 3, 4, 5, 6, 7, 8, 9]))
   ·
    rintro _ rfl
    refine m_z 33 (u64s (List.replicate 4 0)) En8156 Hv8157 fun ac8166 wo8167 bk8165 En8168 Hv8169 => ?_
    refine ⟨fun _ => Hv8169.pk [0, 4, 5], ?_⟩
    exact h_to hG (by kernel_rfl) (nd8073 _ _ bk8165 bk7778 (En8168.sb) (Hv8169.pk [0, 1, 2, 3, 4, 5, 6, 7, 8, 10, 9]))
  refine h_from hG ?_
  refine q_s [0] [] 17 En2746 (wo2748.pk [0, 4, 5]) fun ac8170 En8171 => ?_
  refine q_r 1 (s := Instr.loadAt 33 (pt bk6)) (v := .agg (List.toArray (u64s c))) En8171 (fun w hS => run_loadAgg2 (m := 4) (cs := u64s c) (u64s_lenh hc) (by kernel_rfl) (by kernel_rfl) (hS.heap.cells (k := 0) (off := 0) (m := 4) rfl (by simp [u64s_lenh hc, u64s_lenh hd, List.drop_append, List.take_append]))) (wo2748.pk [0, 4, 5]) fun ac8172 En8173 => ?_
  refine q_s [2] [] 15 En8173 (wo2748.pk [0, 4, 5]) fun ac8174 En8175 => ?_
  refine q_r 3 (s := Instr.loadAt 33 (.pointer (some ⟨bk6, 4, none⟩))) (v := .agg (List.toArray (u64s d))) En8175 (fun w hS => run_loadAgg2 (m := 4) (cs := u64s d) (u64s_lenh hd) (by kernel_rfl) (by kernel_rfl) (hS.heap.cells (k := 0) (off := 4) (m := 4) rfl (by simp [u64s_lenh hc, u64s_lenh hd, List.drop_append, List.take_append, List.take_of_length_le]))) (wo2748.pk [0, 4, 5]) fun ac8176 En8177 => ?_
  refine q_r 5 (s := Instr.loadAt 33 (pt bk1020)) (v := .agg (List.toArray (u64s (aL a b)))) En8177 (fun w hS => run_loadAgg2 (m := 4) (cs := u64s (aL a b)) (u64s_lenh (aL_len _ _)) (by kernel_rfl) (by kernel_rfl) (hS.heap.cells (k := 1) (off := 0) (m := 4) rfl (load_whole (u64s_lenh (aL_len _ _))))) (wo2748.pk [0, 4, 5]) fun ac8178 En8179 => ?_
  refine q_s [7] [] 12 En8179 (wo2748.pk [0, 4, 5]) fun ac8180 En8181 => ?_
  refine q_r 8 (s := Instr.loadAt 33 (pt bk6)) (v := .agg (List.toArray (u64s c))) En8181 (fun w hS => run_loadAgg2 (m := 4) (cs := u64s c) (u64s_lenh hc) (by kernel_rfl) (by kernel_rfl) (hS.heap.cells (k := 0) (off := 0) (m := 4) rfl (by simp [u64s_lenh hc, u64s_lenh hd, List.drop_append, List.take_append]))) (wo2748.pk [0, 4, 5]) fun ac8182 En8183 => ?_
  refine q_s [9] [] 10 En8183 (wo2748.pk [0, 4, 5]) fun ac8184 En8185 => ?_
  refine q_r 10 (s := Instr.loadAt 33 (.pointer (some ⟨bk6, 4, none⟩))) (v := .agg (List.toArray (u64s d))) En8185 (fun w hS => run_loadAgg2 (m := 4) (cs := u64s d) (u64s_lenh hd) (by kernel_rfl) (by kernel_rfl) (hS.heap.cells (k := 0) (off := 4) (m := 4) rfl (by simp [u64s_lenh hc, u64s_lenh hd, List.drop_append, List.take_append, List.take_of_length_le]))) (wo2748.pk [0, 4, 5]) fun ac8186 En8187 => ?_
  refine q_r 12 (s := Instr.loadAt 33 (pt bk1025)) (v := .agg (List.toArray (u64s (sL a b)))) En8187 (fun w hS => run_loadAgg2 (m := 4) (cs := u64s (sL a b)) (u64s_lenh (sL_len _ _)) (by kernel_rfl) (by kernel_rfl) (hS.heap.cells (k := 2) (off := 0) (m := 4) rfl (load_whole (u64s_lenh (sL_len _ _))))) (wo2748.pk [0, 4, 5]) fun ac8188 En8189 => ?_
  refine h_ways [4, 14, 15] (by kernel_rfl) rfl ?_
  refine ⟨?_, ?_, ?_, trivial⟩
  ·
   rintro _ rfl
   refine c_p En8189 wo2748 (xdif_go _ c d hc hd) fun ac8194 wo8191 En8195 Hv8196 => ?_
   refine ⟨fun _ => Hv8196.pk [0, 4, 5], ?_⟩
   exact h_to hG (by kernel_rfl) (nd8114 _ _ (En8195.sb) (Hv8196.pk [0, 1, 2, 3, 4, 5, 6, 7, 8]))
  ·
   rintro _ rfl
   refine m_z 33 (u64s (List.replicate 4 0)) En8189 wo2748 fun ac8198 wo8199 bk8197 En8200 Hv8201 => ?_
   refine ⟨fun _ => Hv8201.pk [0, 4, 5], ?_⟩
   exact h_to hG (by kernel_rfl) (nd8136 _ _ bk8197 (En8200.sb) (Hv8201.pk [0, 1, 2, 3, 4, 5, 6, 7, 8, 9]))
  ·
   rintro _ rfl
   refine m_z 33 (u64s (List.replicate 4 0)) En8189 wo2748 fun ac8203 wo8204 bk8202 En8205 Hv8206 => ?_
   refine ⟨fun _ => Hv8206.pk [0, 4, 5], ?_⟩
   exact h_to hG (by kernel_rfl) (nd8153 _ _ bk8202 (En8205.sb) (Hv8206.pk [0, 1, 2, 3, 4, 5, 6, 7, 8, 9]))
 rintro ac8207 wo8208 ⟨bk7521, bk7526, En8209, Hv8210⟩
 refine then_normal ?_
 refine wp_seq ?_
 refine r_c (fun ac wo => ∃ (bk9195 : Nat) (bk9200 : Nat), Env ac 76 [(5, pt bk11), (6, pt bk16), (7, pt bk21), (8, pt bk1020), (9, pt bk1025), (10, pt bk2370), (11, pt bk2375), (12, pt bk2739), (13, pt bk7521), (14, pt bk7526), (15, pt bk9195), (16, pt bk9200)] ∧ Ev w [] wo [.box bk11 (u64s x) 33, .box bk16 ((u64s (List.replicate 4 0)) ++ (u64s (List.replicate 4 0))) 37, .box bk21 ((u64s (List.replicate 4 0)) ++ (u64s (List.replicate 4 0))) 37, .box bk1020 (u64s (aL a b)) 33, .box bk1025 (u64s (sL a b)) 33, .box bk2370 (u64s (mL (aL a b) (aL a b))) 33, .box bk2375 (u64s (mL (sL a b) (sL a b))) 33, .box bk2739 (u64s (sL (mL (aL a b) (aL a b)) (mL (sL a b) (sL a b)))) 33, .box bk7521 (u64s (mL (sL c d) (aL a b))) 33, .box bk7526 (u64s (mL (aL c d) (sL a b))) 33, .box bk9195 (u64s (aL (mL (sL c d) (aL a b)) (mL (aL c d) (sL a b)))) 33, .box bk9200 (u64s (sL (mL (sL c d) (aL a b)) (mL (aL c d) (sL a b)))) 33]) ?_ ?_
 ·
  refine h_s (fun wv => Ev w [] wv [.box bk7521 (u64s (mL (sL c d) (aL a b))) 33, .box bk7526 (u64s (mL (aL c d) (sL a b))) 33]) [] 10 ?_
  have wo8211 := Hv8210.trans (Ev.drew Hv8210.heap)
  refine h_name fun G hG => ?_
  have nd9336 : ∀ (ac : Act) (wo : World) (bk9195 : Nat), Env ac 76 [(5, pt bk11), (6, pt bk16), (7, pt bk21), (8, pt bk1020), (9, pt bk1025), (10, pt bk2370), (11, pt bk2375), (12, pt bk2739), (13, pt bk7521), (14, pt bk7526), (15, pt bk9195), (52, .agg (List.toArray (u64s (aL (mL (sL c d) (aL a b)) (mL (aL c d) (sL a b)))))), (55, .agg (List.toArray (u64s (sL (mL (sL c d) (aL a b)) (mL (aL c d) (sL a b))))))] → Ev w [] wo [.box bk11 (u64s x) 33, .box bk16 ((u64s (List.replicate 4 0)) ++ (u64s (List.replicate 4 0))) 37, .box bk21 ((u64s (List.replicate 4 0)) ++ (u64s (List.replicate 4 0))) 37, .box bk1020 (u64s (aL a b)) 33, .box bk1025 (u64s (sL a b)) 33, .box bk2370 (u64s (mL (aL a b) (aL a b))) 33, .box bk2375 (u64s (mL (sL a b) (sL a b))) 33, .box bk2739 (u64s (sL (mL (aL a b) (aL a b)) (mL (sL a b) (sL a b)))) 33, .box bk7521 (u64s (mL (sL c d) (aL a b))) 33, .box bk7526 (u64s (mL (aL c d) (sL a b))) 33, .box bk9195 (u64s (List.replicate 4 0)) 33] → G 3 #[true, true, true, true, true, true, true, false, false, false] ac wo := by
   intro ac9337 wo9338 bk9195 En9339 Hv9340
   refine h_from hG ?_
   refine q_t 7 ?_
   refine m_z 33 (u64s (List.replicate 4 0)) En9339 Hv9340 fun ac9342 wo9343 bk9341 En9344 Hv9345 => ?_
   refine ⟨fun _ => Hv9345.pk [8, 9], ?_⟩
   refine q_t 8 ?_
   refine m_g 10 0 4 (u64s (aL (mL (sL c d) (aL a b)) (mL (aL c d) (sL a b)))) (u64s (aL (mL (sL c d) (aL a b)) (mL (aL c d) (sL a b)))) [.box bk11 (u64s x) 33, .box bk16 ((u64s (List.replicate 4 0)) ++ (u64s (List.replicate 4 0))) 37, .box bk21 ((u64s (List.replicate 4 0)) ++ (u64s (List.replicate 4 0))) 37, .box bk1020 (u64s (aL a b)) 33, .box bk1025 (u64s (sL a b)) 33, .box bk2370 (u64s (mL (aL a b) (aL a b))) 33, .box bk2375 (u64s (mL (sL a b) (sL a b))) 33, .box bk2739 (u64s (sL (mL (aL a b) (aL a b)) (mL (sL a b) (sL a b)))) 33, .box bk7521 (u64s (mL (sL c d) (aL a b))) 33, .box bk7526 (u64s (mL (aL c d) (sL a b))) 33, .box bk9195 (u64s (aL (mL (sL c d) (aL a b)) (mL (aL c d) (sL a b)))) 33, .box bk9341 (u64s (List.replicate 4 0)) 33] En9344 Hv9345 rfl (u64s_lenh (aL_len _ _)) (by rw [(u64s_lenh (List.length_replicate))]; decide) (u64s_one _) (store_whole (u64s_lenh (List.length_replicate))) rfl fun ac9346 wo9347 En9348 Hv9349 => ?_
   refine ⟨fun _ => Hv9349.pk [8, 9], ?_⟩
   refine q_t 9 ?_
   refine m_g 11 0 4 (u64s (sL (mL (sL c d) (aL a b)) (mL (aL c d) (sL a b)))) (u64s (sL (mL (sL c d) (aL a b)) (mL (aL c d) (sL a b)))) [.box bk11 (u64s x) 33, .box bk16 ((u64s (List.replicate 4 0)) ++ (u64s (List.replicate 4 0))) 37, .box bk21 ((u64s (List.replicate 4 0)) ++ (u64s (List.replicate 4 0))) 37, .box bk1020 (u64s (aL a b)) 33, .box bk1025 (u64s (sL a b)) 33, .box bk2370 (u64s (mL (aL a b) (aL a b))) 33, .box bk2375 (u64s (mL (sL a b) (sL a b))) 33, .box bk2739 (u64s (sL (mL (aL a b) (aL a b)) (mL (sL a b) (sL a b)))) 33, .box bk7521 (u64s (mL (sL c d) (aL a b))) 33, .box bk7526 (u64s (mL (aL c d) (sL a b))) 33, .box bk9195 (u64s (aL (mL (sL c d) (aL a b)) (mL (aL c d) (sL a b)))) 33, .box bk9341 (u64s (sL (mL (sL c d) (aL a b)) (mL (aL c d) (sL a b)))) 33] En9348 Hv9349 rfl (u64s_lenh (sL_len _ _)) (by rw [(u64s_lenh (List.length_replicate))]; decide) (u64s_one _) (store_whole (u64s_lenh (List.length_replicate))) rfl fun ac9350 wo9351 En9352 Hv9353 => ?_
   refine ⟨fun _ => Hv9353.pk [8, 9], ?_⟩
   exact h_e ⟨bk9195, bk9341, En9352.sb, Hv9353.pk [0, 1, 2, 3, 4, 5, 6, 7, 8, 9, 10, 11]⟩
  have nd9354 : ∀ (ac : Act) (wo : World) (bk9213 : Nat), Env ac 76 [(5, pt bk11), (6, pt bk16), (7, pt bk21), (8, pt bk1020), (9, pt bk1025), (10, pt bk2370), (11, pt bk2375), (12, pt bk2739), (13, pt bk7521), (14, pt bk7526), (16, pt bk9213), (52, .agg (List.toArray (u64s (aL (mL (sL c d) (aL a b)) (mL (aL c d) (sL a b)))))), (55, .agg (List.toArray (u64s (sL (mL (sL c d) (aL a b)) (mL (aL c d) (sL a b))))))] → Ev w [] wo [.box bk11 (u64s x) 33, .box bk16 ((u64s (List.replicate 4 0)) ++ (u64s (List.replicate 4 0))) 37, .box bk21 ((u64s (List.replicate 4 0)) ++ (u64s (List.replicate 4 0))) 37, .box bk1020 (u64s (aL a b)) 33, .box bk1025 (u64s (sL a b)) 33, .box bk2370 (u64s (mL (aL a b) (aL a b))) 33, .box bk2375 (u64s (mL (sL a b) (sL a b))) 33, .box bk2739 (u64s (sL (mL (aL a b) (aL a b)) (mL (sL a b) (sL a b)))) 33, .box bk7521 (u64s (mL (sL c d) (aL a b))) 33, .box bk7526 (u64s (mL (aL c d) (sL a b))) 33, .box bk9213 (u64s (List.replicate 4 0)) 33] → G 3 #[true, true, true, true, true, true, false, true, false, false] ac wo := by
   intro ac9355 wo9356 bk9213 En9357 Hv9358
   refine h_from hG ?_
   refine q_t 6 ?_
   refine m_z 33 (u64s (List.replicate 4 0)) En9357 Hv9358 fun ac9360 wo9361 bk9359 En9362 Hv9363 => ?_
   refine ⟨fun _ => Hv9363.pk [8, 9], ?_⟩
   refine q_t 8 ?_
   refine m_g 11 0 4 (u64s (aL (mL (sL c d) (aL a b)) (mL (aL c d) (sL a b)))) (u64s (aL (mL (sL c d) (aL a b)) (mL (aL c d) (sL a b)))) [.box bk11 (u64s x) 33, .box bk16 ((u64s (List.replicate 4 0)) ++ (u64s (List.replicate 4 0))) 37, .box bk21 ((u64s (List.replicate 4 0)) ++ (u64s (List.replicate 4 0))) 37, .box bk1020 (u64s (aL a b)) 33, .box bk1025 (u64s (sL a b)) 33, .box bk2370 (u64s (mL (aL a b) (aL a b))) 33, .box bk2375 (u64s (mL (sL a b) (sL a b))) 33, .box bk2739 (u64s (sL (mL (aL a b) (aL a b)) (mL (sL a b) (sL a b)))) 33, .box bk7521 (u64s (mL (sL c d) (aL a b))) 33, .box bk7526 (u64s (mL (aL c d) (sL a b))) 33, .box bk9213 (u64s (List.replicate 4 0)) 33, .box bk9359 (u64s (aL (mL (sL c d) (aL a b)) (mL (aL c d) (sL a b)))) 33] En9362 Hv9363 rfl (u64s_lenh (aL_len _ _)) (by rw [(u64s_lenh (List.length_replicate))]; decide) (u64s_one _) (store_whole (u64s_lenh (List.length_replicate))) rfl fun ac9364 wo9365 En9366 Hv9367 => ?_
   refine ⟨fun _ => Hv9367.pk [8, 9], ?_⟩
   refine q_t 9 ?_
   refine m_g 10 0 4 (u64s (sL (mL (sL c d) (aL a b)) (mL (aL c d) (sL a b)))) (u64s (sL (mL (sL c d) (aL a b)) (mL (aL c d) (sL a b)))) [.box bk11 (u64s x) 33, .box bk16 ((u64s (List.replicate 4 0)) ++ (u64s (List.replicate 4 0))) 37, .box bk21 ((u64s (List.replicate 4 0)) ++ (u64s (List.replicate 4 0))) 37, .box bk1020 (u64s (aL a b)) 33, .box bk1025 (u64s (sL a b)) 33, .box bk2370 (u64s (mL (aL a b) (aL a b))) 33, .box bk2375 (u64s (mL (sL a b) (sL a b))) 33, .box bk2739 (u64s (sL (mL (aL a b) (aL a b)) (mL (sL a b) (sL a b)))) 33, .box bk7521 (u64s (mL (sL c d) (aL a b))) 33, .box bk7526 (u64s (mL (aL c d) (sL a b))) 33, .box bk9213 (u64s (sL (mL (sL c d) (aL a b)) (mL (aL c d) (sL a b)))) 33, .box bk9359 (u64s (aL (mL (sL c d) (aL a b)) (mL (aL c d) (sL a b)))) 33] En9366 Hv9367 rfl (u64s_lenh (sL_len _ _)) (by rw [(u64s_lenh (List.length_replicate))]; decide) (u64s_one _) (store_whole (u64s_lenh (List.length_replicate))) rfl fun ac9368 wo9369 En9370 Hv9371 => ?_
   refine ⟨fun _ => Hv9371.pk [8, 9], ?_⟩
   exact h_e ⟨bk9359, bk9213, En9370.sb, Hv9371.pk [0, 1, 2, 3, 4, 5, 6, 7, 8, 9, 11, 10]⟩
  have nd9372 : ∀ (ac : Act) (wo : World) (bk9231 : Nat) (bk9243 : Nat), Env ac 76 [(5, pt bk11), (6, pt bk16), (7, pt bk21), (8, pt bk1020), (9, pt bk1025), (10, pt bk2370), (11, pt bk2375), (12, pt bk2739), (13, pt bk7521), (14, pt bk7526), (15, pt bk9231), (16, pt bk9243), (52, .agg (List.toArray (u64s (aL (mL (sL c d) (aL a b)) (mL (aL c d) (sL a b)))))), (53, .agg (List.toArray (u64s (mL (sL c d) (aL a b))))), (54, .agg (List.toArray (u64s (mL (aL c d) (sL a b)))))] → Ev w [] wo [.box bk11 (u64s x) 33, .box bk16 ((u64s (List.replicate 4 0)) ++ (u64s (List.replicate 4 0))) 37, .box bk21 ((u64s (List.replicate 4 0)) ++ (u64s (List.replicate 4 0))) 37, .box bk1020 (u64s (aL a b)) 33, .box bk1025 (u64s (sL a b)) 33, .box bk2370 (u64s (mL (aL a b) (aL a b))) 33, .box bk2375 (u64s (mL (sL a b) (sL a b))) 33, .box bk2739 (u64s (sL (mL (aL a b) (aL a b)) (mL (sL a b) (sL a b)))) 33, .box bk7521 (u64s (mL (sL c d) (aL a b))) 33, .box bk7526 (u64s (mL (aL c d) (sL a b))) 33, .box bk9231 (u64s (List.replicate 4 0)) 33, .box bk9243 (u64s (List.replicate 4 0)) 33] → G 3 #[true, true, true, true, true, false, true, true, false, false] ac wo := by
   intro ac9373 wo9374 bk9231 bk9243 En9375 Hv9376
   refine h_from hG ?_
   refine q_t 5 ?_
   refine c_p En9375 Hv9376 (xdif_go _ (mL (sL c d) (aL a b)) (mL (aL c d) (sL a b)) (mL_len _ _) (mL_len _ _)) fun ac9381 wo9378 En9382 Hv9383 => ?_
   refine ⟨fun _ => Hv9383.pk [8, 9], ?_⟩
   refine q_t 8 ?_
   refine m_g 10 0 4 (u64s (aL (mL (sL c d) (aL a b)) (mL (aL c d) (sL a b)))) (u64s (aL (mL (sL c d) (aL a b)) (mL (aL c d) (sL a b)))) [.box bk11 (u64s x) 33, .box bk16 ((u64s (List.replicate 4 0)) ++ (u64s (List.replicate 4 0))) 37, .box bk21 ((u64s (List.replicate 4 0)) ++ (u64s (List.replicate 4 0))) 37, .box bk1020 (u64s (aL a b)) 33, .box bk1025 (u64s (sL a b)) 33, .box bk2370 (u64s (mL (aL a b) (aL a b))) 33, .box bk2375 (u64s (mL (sL a b) (sL a b))) 33, .box bk2739 (u64s (sL (mL (aL a b) (aL a b)) (mL (sL a b) (sL a b)))) 33, .box bk7521 (u64s (mL (sL c d) (aL a b))) 33, .box bk7526 (u64s (mL (aL c d) (sL a b))) 33, .box bk9231 (u64s (aL (mL (sL c d) (aL a b)) (mL (aL c d) (sL a b)))) 33, .box bk9243 (u64s (List.replicate 4 0)) 33] En9382 Hv9383 rfl (u64s_lenh (aL_len _ _)) (by rw [(u64s_lenh (List.length_replicate))]; decide) (u64s_one _) (store_whole (u64s_lenh (List.length_replicate))) rfl fun ac9384 wo9385 En9386 Hv9387 => ?_
   refine ⟨fun _ => Hv9387.pk [8, 9], ?_⟩
   refine q_t 9 ?_
   refine m_g 11 0 4 (u64s (sL (mL (sL c d) (aL a b)) (mL (aL c d) (sL a b)))) (u64s (sL (mL (sL c d) (aL a b)) (mL (aL c d) (sL a b)))) [.box bk11 (u64s x) 33, .box bk16 ((u64s (List.replicate 4 0)) ++ (u64s (List.replicate 4 0))) 37, .box bk21 ((u64s (List.replicate 4 0)) ++ (u64s (List.replicate 4 0))) 37, .box bk1020 (u64s (aL a b)) 33, .box bk1025 (u64s (sL a b)) 33, .box bk2370 (u64s (mL (aL a b) (aL a b))) 33, .box bk2375 (u64s (mL (sL a b) (sL a b))) 33, .box bk2739 (u64s (sL (mL (aL a b) (aL a b)) (mL (sL a b) (sL a b)))) 33, .box bk7521 (u64s (mL (sL c d) (aL a b))) 33, .box bk7526 (u64s (mL (aL c d) (sL a b))) 33, .box bk9231 (u64s (aL (mL (sL c d) (aL a b)) (mL (aL c d) (sL a b)))) 33, .box bk9243 (u64s (sL (mL (sL c d) (aL a b)) (mL (aL c d) (sL a b)))) 33] En9386 Hv9387 rfl (u64s_lenh (sL_len _ _)) (by rw [(u64s_lenh (List.length_replicate))]; decide) (u64s_one _) (store_whole (u64s_lenh (List.length_replicate))) rfl fun ac9388 wo9389 En9390 Hv9391 => ?_
   refine ⟨fun _ => Hv9391.pk [8, 9], ?_⟩
   exact h_e ⟨bk9231, bk9243, En9390.sb, Hv9391.pk [0, 1, 2, 3, 4, 5, 6, 7, 8, 9, 10, 11]⟩
  have nd9392 : ∀ (ac : Act) (wo : World), Env ac 76 [(5, pt bk11), (6, pt bk16), (7, pt bk21), (8, pt bk1020), (9, pt bk1025), (10, pt bk2370), (11, pt bk2375), (12, pt bk2739), (13, pt bk7521), (14, pt bk7526), (52, .agg (List.toArray (u64s (aL (mL (sL c d) (aL a b)) (mL (aL c d) (sL a b)))))), (55, .agg (List.toArray (u64s (sL (mL (sL c d) (aL a b)) (mL (aL c d) (sL a b))))))] → Ev w [] wo [.box bk11 (u64s x) 33, .box bk16 ((u64s (List.replicate 4 0)) ++ (u64s (List.replicate 4 0))) 37, .box bk21 ((u64s (List.replicate 4 0)) ++ (u64s (List.replicate 4 0))) 37, .box bk1020 (u64s (aL a b)) 33, .box bk1025 (u64s (sL a b)) 33, .box bk2370 (u64s (mL (aL a b) (aL a b))) 33, .box bk2375 (u64s (mL (sL a b) (sL a b))) 33, .box bk2739 (u64s (sL (mL (aL a b) (aL a b)) (mL (sL a b) (sL a b)))) 33, .box bk7521 (u64s (mL (sL c d) (aL a b))) 33, .box bk7526 (u64s (mL (aL c d) (sL a b))) 33] → G 4 #[true, true, true, true, true, true, false, false, false, false] ac wo := by
   intro ac9393 wo9394 En9395 Hv9396
   refine h_from hG ?_
   refine h_ways [6, 7] (by kernel_rfl) rfl ?_
   refine ⟨?_, ?_, trivial⟩
   ·
    rintro _ rfl
    refine m_z 33 (u64s (List.replicate 4 0)) En9395 Hv9396 fun ac9398 wo9399 bk9397 En9400 Hv9401 => ?_
    refine ⟨fun _ => Hv9401.pk [8, 9], ?_⟩
    exact h_to hG (by kernel_rfl) (nd9336 _ _ bk9397 (En9400.sb) (Hv9401.pk [0, 1, 2, 3, 4, 5, 6, 7, 8, 9, 10]))
   ·
    rintro _ rfl
    refine m_z 33 (u64s (List.replicate 4 0)) En9395 Hv9396 fun ac9403 wo9404 bk9402 En9405 Hv9406 => ?_
    refine ⟨fun _ => Hv9406.pk [8, 9], ?_⟩
    exact h_to hG (by kernel_rfl) (nd9354 _ _ bk9402 (En9405.sb) (Hv9406.pk [0, 1, 2, 3, 4, 5, 6, 7, 8, 9, 10]))
  have nd9407 : ∀ (ac : Act) (wo : World) (bk9231 : Nat), Env ac 76 [(5, pt bk11), (6, pt bk16), (7, pt bk21), (8, pt bk1020), (9, pt bk1025), (10, pt bk2370), (11, pt bk2375), (12, pt bk2739), (13, pt bk7521), (14, pt bk7526), (15, pt bk9231), (52, .agg (List.toArray (u64s (aL (mL (sL c d) (aL a b)) (mL (aL c d) (sL a b)))))), (53, .agg (List.toArray (u64s (mL (sL c d) (aL a b))))), (54, .agg (List.toArray (u64s (mL (aL c d) (sL a b)))))] → Ev w [] wo [.box bk11 (u64s x) 33, .box bk16 ((u64s (List.replicate 4 0)) ++ (u64s (List.replicate 4 0))) 37, .box bk21 ((u64s (List.replicate 4 0)) ++ (u64s (List.replicate 4 0))) 37, .box bk1020 (u64s (aL a b)) 33, .box bk1025 (u64s (sL a b)) 33, .box bk2370 (u64s (mL (aL a b) (aL a b))) 33, .box bk2375 (u64s (mL (sL a b) (sL a b))) 33, .box bk2739 (u64s (sL (mL (aL a b) (aL a b)) (mL (sL a b) (sL a b)))) 33, .box bk7521 (u64s (mL (sL c d) (aL a b))) 33, .box bk7526 (u64s (mL (aL c d) (sL a b))) 33, .box bk9231 (u64s (List.replicate 4 0)) 33] → G 4 #[true, true, true, true, true, false, true, false, false, false] ac wo := by
   intro ac9408 wo9409 bk9231 En9410 Hv9411
   refine h_from hG ?_
   refine h_ways [5, 7] (by kernel_rfl) rfl ?_
   refine ⟨?_, ?_, trivial⟩
   ·
    rintro _ rfl
    refine c_p En9410 Hv9411 (xdif_go _ (mL (sL c d) (aL a b)) (mL (aL c d) (sL a b)) (mL_len _ _) (mL_len _ _)) fun ac9416 wo9413 En9417 Hv9418 => ?_
    refine ⟨fun _ => Hv9418.pk [8, 9], ?_⟩
    exact h_to hG (by kernel_rfl) (nd9336 _ _ bk9231 (En9417.sb) (Hv9418.pk [0, 1, 2, 3, 4, 5, 6, 7, 8, 9, 10]))
   ·
    rintro _ rfl
    refine m_z 33 (u64s (List.replicate 4 0)) En9410 Hv9411 fun ac9420 wo9421 bk9419 En9422 Hv9423 => ?_
    refine ⟨fun _ => Hv9423.pk [8, 9], ?_⟩
    exact h_to hG (by kernel_rfl) (nd9372 _ _ bk9231 bk9419 (En9422.sb) (Hv9423.pk [0, 1, 2, 3, 4, 5, 6, 7, 8, 9, 10, 11]))
  have nd9424 : ∀ (ac : Act) (wo : World) (bk9263 : Nat), Env ac 76 [(5, pt bk11), (6, pt bk16), (7, pt bk21), (8, pt bk1020), (9, pt bk1025), (10, pt bk2370), (11, pt bk2375), (12, pt bk2739), (13, pt bk7521), (14, pt bk7526), (16, pt bk9263), (52, .agg (List.toArray (u64s (aL (mL (sL c d) (aL a b)) (mL (aL c d) (sL a b)))))), (53, .agg (List.toArray (u64s (mL (sL c d) (aL a b))))), (54, .agg (List.toArray (u64s (mL (aL c d) (sL a b)))))] → Ev w [] wo [.box bk11 (u64s x) 33, .box bk16 ((u64s (List.replicate 4 0)) ++ (u64s (List.replicate 4 0))) 37, .box bk21 ((u64s (List.replicate 4 0)) ++ (u64s (List.replicate 4 0))) 37, .box bk1020 (u64s (aL a b)) 33, .box bk1025 (u64s (sL a b)) 33, .box bk2370 (u64s (mL (aL a b) (aL a b))) 33, .box bk2375 (u64s (mL (sL a b) (sL a b))) 33, .box bk2739 (u64s (sL (mL (aL a b) (aL a b)) (mL (sL a b) (sL a b)))) 33, .box bk7521 (u64s (mL (sL c d) (aL a b))) 33, .box bk7526 (u64s (mL (aL c d) (sL a b))) 33, .box bk9263 (u64s (List.replicate 4 0)) 33] → G 4 #[true, true, true, true, true, false, false, true, false, false] ac wo := by
   intro ac9425 wo9426 bk9263 En9427 Hv9428
   refine h_from hG ?_
   refine h_ways [5, 6] (by kernel_rfl) rfl ?_
   refine ⟨?_, ?_, trivial⟩
   ·
    rintro _ rfl
    refine c_p En9427 Hv9428 (xdif_go _ (mL (sL c d) (aL a b)) (mL (aL c d) (sL a b)) (mL_len _ _) (mL_len _ _)) fun ac9433 wo9430 En9434 Hv9435 => ?_
    refine ⟨fun _ => Hv9435.pk [8, 9], ?_⟩
    exact h_to hG (by kernel_rfl) (nd9354 _ _ bk9263 (En9434.sb) (Hv9435.pk [0, 1, 2, 3, 4, 5, 6, 7, 8, 9, 10]))
   ·
    rintro _ rfl
    refine m_z 33 (u64s (List.replicate 4 0)) En9427 Hv9428 fun ac9437 wo9438 bk9436 En9439 Hv9440 => ?_
    refine ⟨fun _ => Hv9440.pk [8, 9], ?_⟩
    exact h_to hG (by kernel_rfl) (nd9372 _ _ bk9436 bk9263 (En9439.sb) (Hv9440.pk [0, 1, 2, 3, 4, 5, 6, 7, 8, 9, 11, 10]))
  have nd9441 : ∀ (ac : Act) (wo : World) (bk9280 : Nat) (bk9292 : Nat), Env ac 76 [(5, pt bk11), (6, pt bk16), (7, pt bk21), (8, pt bk1020), (9, pt bk1025), (10, pt bk2370), (11, pt bk2375), (12, pt bk2739), (13, pt bk7521), (14, pt bk7526), (15, pt bk9280), (16, pt bk9292), (50, .agg (List.toArray (u64s (mL (sL c d) (aL a b))))), (51, .agg (List.toArray (u64s (mL (aL c d) (sL a b))))), (53, .agg (List.toArray (u64s (mL (sL c d) (aL a b))))), (54, .agg (List.toArray (u64s (mL (aL c d) (sL a b)))))] → Ev w [] wo [.box bk11 (u64s x) 33, .box bk16 ((u64s (List.replicate 4 0)) ++ (u64s (List.replicate 4 0))) 37, .box bk21 ((u64s (List.replicate 4 0)) ++ (u64s (List.replicate 4 0))) 37, .box bk1020 (u64s (aL a b)) 33, .box bk1025 (u64s (sL a b)) 33, .box bk2370 (u64s (mL (aL a b) (aL a b))) 33, .box bk2375 (u64s (mL (sL a b) (sL a b))) 33, .box bk2739 (u64s (sL (mL (aL a b) (aL a b)) (mL (sL a b) (sL a b)))) 33, .box bk7521 (u64s (mL (sL c d) (aL a b))) 33, .box bk7526 (u64s (mL (aL c d) (sL a b))) 33, .box bk9280 (u64s (List.replicate 4 0)) 33, .box bk9292 (u64s (List.replicate 4 0)) 33] → G 4 #[true, true, false, true, true, false, true, true, false, false] ac wo := by
   intro ac9442 wo9443 bk9280 bk9292 En9444 Hv9445
   refine h_from hG ?_
   refine q_t 2 ?_
   refine c_p En9444 Hv9445 (xsum_go _ (mL (sL c d) (aL a b)) (mL (aL c d) (sL a b)) (mL_len _ _) (mL_len _ _)) fun ac9450 wo9447 En9451 Hv9452 => ?_
   refine ⟨fun _ => Hv9452.pk [8, 9], ?_⟩
   refine q_t 5 ?_
   refine c_p En9451 Hv9452 (xdif_go _ (mL (sL c d) (aL a b)) (mL (aL c d) (sL a b)) (mL_len _ _) (mL_len _ _)) fun ac9457 wo9454 En9458 Hv9459 => ?_
   refine ⟨fun _ => Hv9459.pk [8, 9], ?_⟩
   refine q_t 8 ?_
   refine m_g 10 0 4 (u64s (aL (mL (sL c d) (aL a b)) (mL (aL c d) (sL a b)))) (u64s (aL (mL (sL c d) (aL a b)) (mL (aL c d) (sL a b)))) [.box bk11 (u64s x) 33, .box bk16 ((u64s (List.replicate 4 0)) ++ (u64s (List.replicate 4 0))) 37, .box bk21 ((u64s (List.replicate 4 0)) ++ (u64s (List.replicate 4 0))) 37, .box bk1020 (u64s (aL a b)) 33, .box bk1025 (u64s (sL a b)) 33, .box bk2370 (u64s (mL (aL a b) (aL a b))) 33, .box bk2375 (u64s (mL (sL a b) (sL a b))) 33, .box bk2739 (u64s (sL (mL (aL a b) (aL a b)) (mL (sL a b) (sL a b)))) 33, .box bk7521 (u64s (mL (sL c d) (aL a b))) 33, .box bk7526 (u64s (mL (aL c d) (sL a b))) 33, .box bk9280 (u64s (aL (mL (sL c d) (aL a b)) (mL (aL c d) (sL a b)))) 33, .box bk9292 (u64s (List.replicate 4 0)) 33] En9458 Hv9459 rfl (u64s_lenh (aL_len _ _)) (by rw [(u64s_lenh (List.length_replicate))]; decide) (u64s_one _) (store_whole (u64s_lenh (List.length_replicate))) rfl fun ac9460 wo9461 En9462 Hv9463 => ?_
   refine ⟨fun _ => Hv9463.pk [8, 9], ?_⟩
   refine q_t 9 ?_
   refine m_g 11 0 4 (u64s (sL (mL (sL c d) (aL a b)) (mL (aL c d) (sL a b)))) (u64s (sL (mL (sL c d) (aL a b)) (mL (aL c d) (sL a b)))) [.box bk11 (u64s x) 33, .box bk16 ((u64s (List.replicate 4 0)) ++ (u64s (List.replicate 4 0))) 37, .box bk21 ((u64s (List.replicate 4 0)) ++ (u64s (List.replicate 4 0))) 37, .box bk1020 (u64s (aL a b)) 33, .box bk1025 (u64s (sL a b)) 33, .box bk2370 (u64s (mL (aL a b) (aL a b))) 33, .box bk2375 (u64s (mL (sL a b) (sL a b))) 33, .box bk2739 (u64s (sL (mL (aL a b) (aL a b)) (mL (sL a b) (sL a b)))) 33, .box bk7521 (u64s (mL (sL c d) (aL a b))) 33, .box bk7526 (u64s (mL (aL c d) (sL a b))) 33, .box bk9280 (u64s (aL (mL (sL c d) (aL a b)) (mL (aL c d) (sL a b)))) 33, .box bk9292 (u64s (sL (mL (sL c d) (aL a b)) (mL (aL c d) (sL a b)))) 33] En9462 Hv9463 rfl (u64s_lenh (sL_len _ _)) (by rw [(u64s_lenh (List.length_replicate))]; decide) (u64s_one _) (store_whole (u64s_lenh (List.length_replicate))) rfl fun ac9464 wo9465 En9466 Hv9467 => ?_
   refine ⟨fun _ => Hv9467.pk [8, 9], ?_⟩
   exact h_e ⟨bk9280, bk9292, En9466.sb, Hv9467.pk [0, 1, 2, 3, 4, 5, 6, 7, 8, 9, 10, 11]⟩
  have nd9468 : ∀ (ac : Act) (wo : World), Env ac 76 [(5, pt bk11), (6, pt bk16), (7, pt bk21), (8, pt bk1020), (9, pt bk1025), (10, pt bk2370), (11, pt bk2375), (12, pt bk2739), (13, pt bk7521), (14, pt bk7526), (52, .agg (List.toArray (u64s (aL (mL (sL c d) (aL a b)) (mL (aL c d) (sL a b)))))), (53, .agg (List.toArray (u64s (mL (sL c d) (aL a b))))), (54, .agg (List.toArray (u64s (mL (aL c d) (sL a b)))))] → Ev w [] wo [.box bk11 (u64s x) 33, .box bk16 ((u64s (List.replicate 4 0)) ++ (u64s (List.replicate 4 0))) 37, .box bk21 ((u64s (List.replicate 4 0)) ++ (u64s (List.replicate 4 0))) 37, .box bk1020 (u64s (aL a b)) 33, .box bk1025 (u64s (sL a b)) 33, .box bk2370 (u64s (mL (aL a b) (aL a b))) 33, .box bk2375 (u64s (mL (sL a b) (sL a b))) 33, .box bk2739 (u64s (sL (mL (aL a b) (aL a b)) (mL (sL a b) (sL a b)))) 33, .box bk7521 (u64s (mL (sL c d) (aL a b))) 33, .box bk7526 (u64s (mL (aL c d) (sL a b))) 33] → G 5 #[true, true, true, true, true, false, false, false, false, false] ac wo := by
   intro ac9469 wo9470 En9471 Hv9472
   refine h_from hG ?_
   refine h_ways [5, 6, 7] (by kernel_rfl) rfl ?_
   refine ⟨?_, ?_, ?_, trivial⟩
   ·
    rintro _ rfl
    refine c_p En9471 Hv9472 (xdif_go _ (mL (sL c d) (aL a b)) (mL (aL c d) (sL a b)) (mL_len _ _) (mL_len _ _)) fun ac9477 wo9474 En9478 Hv9479 => ?_
    refine ⟨fun _ => Hv9479.pk [8, 9], ?_⟩
    exact h_to hG (by kernel_rfl) (nd9392 _ _ (En9478.sb) (Hv9479.pk [0, 1, 2, 3, 4, 5, 6, 7, 8, 9]))
   ·
    rintro _ rfl
    refine m_z 33 (u64s (List.replicate 4 0)) En9471 Hv9472 fun ac9481 wo9482 bk9480 En9483 Hv9484 => ?_
    refine ⟨fun _ => Hv9484.pk [8, 9], ?_⟩
    exact h_to hG (by kernel_rfl) (nd9407 _ _ bk9480 (En9483.sb) (Hv9484.pk [0, 1, 2, 3, 4, 5, 6, 7, 8, 9, 10]))
   ·
    rintro _ rfl
    refine m_z 33 (u64s (List.replicate 4 0)) En9471 Hv9472 fun ac9486 wo9487 bk9485 En9488 Hv9489 => ?_
    refine ⟨fun _ => Hv9489.pk [8, 9], ?_⟩
    exact h_to hG (by kernel_rfl) (nd9424 _ _ bk9485 (En9488.sb) (Hv9489.pk [0, 1, 2, 3, 4, 5, 6, 7, 8, 9, 10]))
  have nd9490 : ∀ (ac : Act) (wo : World) (bk9280 : Nat), Env ac 76 [(5, pt bk11), (6, pt bk16), (7, pt bk21), (8, pt bk1020), (9, pt bk1025), (10, pt bk2370), (11, pt bk2375), (12, pt bk2739), (13, pt bk7521), (14, pt bk7526), (15, pt bk9280), (50, .agg (List.toArray (u64s (mL (sL c d) (aL a b))))), (51, .agg (List.toArray (u64s (mL (aL c d) (sL a b))))), (53, .agg (List.toArray (u64s (mL (sL c d) (aL a b))))), (54, .agg (List.toArray (u64s (mL (aL c d) (sL a b)))))] → Ev w [] wo [.box bk11 (u64s x) 33, .box bk16 ((u64s (List.replicate 4 0)) ++ (u64s (List.replicate 4 0))) 37, .box bk21 ((u64s (List.replicate 4 0)) ++ (u64s (List.replicate 4 0))) 37, .box bk1020 (u64s (aL a b)) 33, .box bk1025 (u64s (sL a b)) 33, .box bk2370 (u64s (mL (aL a b) (aL a b))) 33, .box bk2375 (u64s (mL (sL a b) (sL a b))) 33, .box bk2739 (u64s (sL (mL (aL a b) (aL a b)) (mL (sL a b) (sL a b)))) 33, .box bk7521 (u64s (mL (sL c d) (aL a b))) 33, .box bk7526 (u64s (mL (aL c d) (sL a b))) 33, .box bk9280 (u64s (List.replicate 4 0)) 33] → G 5 #[true, true, false, true, true, false, true, false, false, false] ac wo := by
   intro ac9491 wo9492 bk9280 En9493 Hv9494
   refine h_from hG ?_
   refine h_ways [2, 7] (by kernel_rfl) rfl ?_
   refine ⟨?_, ?_, trivial⟩
   ·
    rintro _ rfl
    refine c_p En9493 Hv9494 (xsum_go _ (mL (sL c d) (aL a b)) (mL (aL c d) (sL a b)) (mL_len _ _) (mL_len _ _)) fun ac9499 wo9496 En9500 Hv9501 => ?_
    refine ⟨fun _ => Hv9501.pk [8, 9], ?_⟩
    exact h_to hG (by kernel_rfl) (nd9407 _ _ bk9280 (En9500.sb) (Hv9501.pk [0, 1, 2, 3, 4, 5, 6, 7, 8, 9, 10]))
   ·
    rintro _ rfl
    refine m_z 33 (u64s (List.replicate 4 0)) En9493 Hv9494 fun ac9503 wo9504 bk9502 En9505 Hv9506 => ?_
    refine ⟨fun _ => Hv9506.pk [8, 9], ?_⟩
    exact h_to hG (by kernel_rfl) (nd9441 _ _ bk9280 bk9502 (En9505.sb) (Hv9506.pk [0, 1, 2, 3, 4, 5, 6, 7, 8, 9, 10, 11]))
  have nd9507 : ∀ (ac : Act) (wo : World) (bk9319 : Nat), Env ac 76 [(5, pt bk11), (6, pt bk16), (7, pt bk21), (8, pt bk1020), (9, pt bk1025), (10, pt bk2370), (11, pt bk2375), (12, pt bk2739), (13, pt bk7521), (14, pt bk7526), (16, pt bk9319), (50, .agg (List.toArray (u64s (mL (sL c d) (aL a b))))), (51, .agg (List.toArray (u64s (mL (aL c d) (sL a b))))), (53, .agg (List.toArray (u64s (mL (sL c d) (aL a b))))), (54, .agg (List.toArray (u64s (mL (aL c d) (sL a b)))))] → Ev w [] wo [.box bk11 (u64s x) 33, .box bk16 ((u64s (List.replicate 4 0)) ++ (u64s (List.replicate 4 0))) 37, .box bk21 ((u64s (List.replicate 4 0)) ++ (u64s (List.replicate 4 0))) 37, .box bk1020 (u64s (aL a b)) 33, .box bk1025 (u64s (sL a b)) 33, .box bk2370 (u64s (mL (aL a b) (aL a b))) 33, .box bk2375 (u64s (mL (sL a b) (sL a b))) 33, .box bk2739 (u64s (sL (mL (aL a b) (aL a b)) (mL (sL a b) (sL a b)))) 33, .box bk7521 (u64s (mL (sL c d) (aL a b))) 33, .box bk7526 (u64s (mL (aL c d) (sL a b))) 33, .box bk9319 (u64s (List.replicate 4 0)) 33] → G 5 #[true, true, false, true, true, false, false, true, false, false] ac wo := by
   intro ac9508 wo9509 bk9319 En9510 Hv9511
   refine h_from hG ?_
   refine h_ways [2, 6] (by kernel_rfl) rfl ?_
   refine ⟨?_, ?_, trivial⟩
   ·
    rintro _ rfl
    refine c_p En9510 Hv9511 (xsum_go _ (mL (sL c d) (aL a b)) (mL (aL c d) (sL a b)) (mL_len _ _) (mL_len _ _)) fun ac9516 wo9513 En9517 Hv9518 => ?_
    refine ⟨fun _ => Hv9518.pk [8, 9], ?_⟩
    exact h_to hG (by kernel_rfl) (nd9424 _ _ bk9319 (En9517.sb) (Hv9518.pk [0, 1, 2, 3, 4, 5, 6, 7, 8, 9, 10]))
   ·
    rintro _ rfl
    refine m_z 33 (u64s (List.replicate 4 0)) En9510 Hv9511 fun ac9520 wo9521 bk9519 En9522 Hv9523 => ?_
    refine ⟨fun _ => Hv9523.pk [8, 9], ?_⟩
    exact h_to hG (by kernel_rfl) (nd9441 _ _ bk9519 bk9319 (En9522.sb) (Hv9523.pk [0, 1, 2, 3, 4, 5, 6, 7, 8, 9, 11, 10]))
  refine h_from hG ?_
  refine q_r 0 (s := Instr.loadAt 33 (pt bk7521)) (v := .agg (List.toArray (u64s (mL (sL c d) (aL a b))))) En8209 (fun w hS => run_loadAgg2 (m := 4) (cs := u64s (mL (sL c d) (aL a b))) (u64s_lenh (mL_len _ _)) (by kernel_rfl) (by kernel_rfl) (hS.heap.cells (k := 0) (off := 0) (m := 4) rfl (load_whole (u64s_lenh (mL_len _ _))))) (wo8211.pk [8, 9]) fun ac9524 En9525 => ?_
  refine q_r 1 (s := Instr.loadAt 33 (pt bk7526)) (v := .agg (List.toArray (u64s (mL (aL c d) (sL a b))))) En9525 (fun w hS => run_loadAgg2 (m := 4) (cs := u64s (mL (aL c d) (sL a b))) (u64s_lenh (mL_len _ _)) (by kernel_rfl) (by kernel_rfl) (hS.heap.cells (k := 1) (off := 0) (m := 4) rfl (load_whole (u64s_lenh (mL_len _ _))))) (wo8211.pk [8, 9]) fun ac9526 En9527 => ?_
  refine q_r 3 (s := Instr.loadAt 33 (pt bk7521)) (v := .agg (List.toArray (u64s (mL (sL c d) (aL a b))))) En9527 (fun w hS => run_loadAgg2 (m := 4) (cs := u64s (mL (sL c d) (aL a b))) (u64s_lenh (mL_len _ _)) (by kernel_rfl) (by kernel_rfl) (hS.heap.cells (k := 0) (off := 0) (m := 4) rfl (load_whole (u64s_lenh (mL_len _ _))))) (wo8211.pk [8, 9]) fun ac9528 En9529 => ?_
  refine q_r 4 (s := Instr.loadAt 33 (pt bk7526)) (v := .agg (List.toArray (u64s (mL (aL c d) (sL a b))))) En9529 (fun w hS => run_loadAgg2 (m := 4) (cs := u64s (mL (aL c d) (sL a b))) (u64s_lenh (mL_len _ _)) (by kernel_rfl) (by kernel_rfl) (hS.heap.cells (k := 1) (off := 0) (m := 4) rfl (load_whole (u64s_lenh (mL_len _ _))))) (wo8211.pk [8, 9]) fun ac9530 En9531 => ?_
  refine h_ways [2, 6, 7] (by kernel_rfl) rfl ?_
  refine ⟨?_, ?_, ?_, trivial⟩
  ·
   rintro _ rfl
   refine c_p En9531 wo8211 (xsum_go _ (mL (sL c d) (aL a b)) (mL (aL c d) (sL a b)) (mL_len _ _) (mL_len _ _)) fun ac9536 wo9533 En9537 Hv9538 => ?_
   refine ⟨fun _ => Hv9538.pk [8, 9], ?_⟩
   exact h_to hG (by kernel_rfl) (nd9468 _ _ (En9537.sb) (Hv9538.pk [0, 1, 2, 3, 4, 5, 6, 7, 8, 9]))
  ·
   rintro _ rfl
   refine m_z 33 (u64s (List.replicate 4 0)) En9531 wo8211 fun ac9540 wo9541 bk9539 En9542 Hv9543 => ?_
   refine ⟨fun _ => Hv9543.pk [8, 9], ?_⟩
   exact h_to hG (by kernel_rfl) (nd9490 _ _ bk9539 (En9542.sb) (Hv9543.pk [0, 1, 2, 3, 4, 5, 6, 7, 8, 9, 10]))
  ·
   rintro _ rfl
   refine m_z 33 (u64s (List.replicate 4 0)) En9531 wo8211 fun ac9545 wo9546 bk9544 En9547 Hv9548 => ?_
   refine ⟨fun _ => Hv9548.pk [8, 9], ?_⟩
   exact h_to hG (by kernel_rfl) (nd9507 _ _ bk9544 (En9547.sb) (Hv9548.pk [0, 1, 2, 3, 4, 5, 6, 7, 8, 9, 10]))
 rintro ac9549 wo9550 ⟨bk9195, bk9200, En9551, Hv9552⟩
 refine then_normal ?_
 refine wp_seq ?_
 refine r_c (fun ac wo => Env ac 76 [(6, pt bk16), (7, pt bk21), (8, pt bk1020), (9, pt bk1025), (10, pt bk2370), (11, pt bk2375), (12, pt bk2739), (13, pt bk7521), (14, pt bk7526), (15, pt bk9195), (16, pt bk9200)] ∧ Ev w [] wo [.box bk16 ((u64s (mL (mL (aL a b) (aL a b)) (mL (sL a b) (sL a b)))) ++ (u64s (mL (sL (mL (aL a b) (aL a b)) (mL (sL a b) (sL a b))) (aL (mL (aL a b) (aL a b)) (mL ([121665, 0, 0, 0] : List UInt64) (sL (mL (aL a b) (aL a b)) (mL (sL a b) (sL a b)))))))) 37, .box bk21 ((u64s (mL (aL (mL (sL c d) (aL a b)) (mL (aL c d) (sL a b))) (aL (mL (sL c d) (aL a b)) (mL (aL c d) (sL a b))))) ++ (u64s (mL x (mL (sL (mL (sL c d) (aL a b)) (mL (aL c d) (sL a b))) (sL (mL (sL c d) (aL a b)) (mL (aL c d) (sL a b))))))) 37, .box bk1020 (u64s (aL a b)) 33, .box bk1025 (u64s (sL a b)) 33, .box bk2370 (u64s (mL (aL a b) (aL a b))) 33, .box bk2375 (u64s (mL (sL a b) (sL a b))) 33, .box bk2739 (u64s (sL (mL (aL a b) (aL a b)) (mL (sL a b) (sL a b)))) 33, .box bk7521 (u64s (mL (sL c d) (aL a b))) 33, .box bk7526 (u64s (mL (aL c d) (sL a b))) 33, .box bk9195 (u64s (aL (mL (sL c d) (aL a b)) (mL (aL c d) (sL a b)))) 33, .box bk9200 (u64s (sL (mL (sL c d) (aL a b)) (mL (aL c d) (sL a b)))) 33]) ?_ ?_
 ·
  refine h_s (fun wv => Ev w [] wv [.box bk11 (u64s x) 33, .box bk2370 (u64s (mL (aL a b) (aL a b))) 33, .box bk2375 (u64s (mL (sL a b) (sL a b))) 33, .box bk2739 (u64s (sL (mL (aL a b) (aL a b)) (mL (sL a b) (sL a b)))) 33, .box bk9195 (u64s (aL (mL (sL c d) (aL a b)) (mL (aL c d) (sL a b)))) 33, .box bk9200 (u64s (sL (mL (sL c d) (aL a b)) (mL (aL c d) (sL a b)))) 33]) [] 22 ?_
  have wo9553 := Hv9552.trans (Ev.drew Hv9552.heap)
  refine q_r 0 (s := Instr.loadAt 33 (pt bk2370)) (v := .agg (List.toArray (u64s (mL (aL a b) (aL a b))))) En9551 (fun w hS => run_loadAgg2 (m := 4) (cs := u64s (mL (aL a b) (aL a b))) (u64s_lenh (mL_len _ _)) (by kernel_rfl) (by kernel_rfl) (hS.heap.cells (k := 1) (off := 0) (m := 4) rfl (load_whole (u64s_lenh (mL_len _ _))))) (wo9553.pk [0, 5, 6, 7, 10, 11]) fun ac27751 En27752 => ?_
  refine q_r 1 (s := Instr.loadAt 33 (pt bk2375)) (v := .agg (List.toArray (u64s (mL (sL a b) (sL a b))))) En27752 (fun w hS => run_loadAgg2 (m := 4) (cs := u64s (mL (sL a b) (sL a b))) (u64s_lenh (mL_len _ _)) (by kernel_rfl) (by kernel_rfl) (hS.heap.cells (k := 2) (off := 0) (m := 4) rfl (load_whole (u64s_lenh (mL_len _ _))))) (wo9553.pk [0, 5, 6, 7, 10, 11]) fun ac27753 En27754 => ?_
  refine q_r 3 (s := Instr.loadAt 33 (pt bk2739)) (v := .agg (List.toArray (u64s (sL (mL (aL a b) (aL a b)) (mL (sL a b) (sL a b)))))) En27754 (fun w hS => run_loadAgg2 (m := 4) (cs := u64s (sL (mL (aL a b) (aL a b)) (mL (sL a b) (sL a b)))) (u64s_lenh (sL_len _ _)) (by kernel_rfl) (by kernel_rfl) (hS.heap.cells (k := 3) (off := 0) (m := 4) rfl (load_whole (u64s_lenh (sL_len _ _))))) (wo9553.pk [0, 5, 6, 7, 10, 11]) fun ac27755 En27756 => ?_
  refine q_r 4 (s := Instr.loadAt 33 (pt bk2370)) (v := .agg (List.toArray (u64s (mL (aL a b) (aL a b))))) En27756 (fun w hS => run_loadAgg2 (m := 4) (cs := u64s (mL (aL a b) (aL a b))) (u64s_lenh (mL_len _ _)) (by kernel_rfl) (by kernel_rfl) (hS.heap.cells (k := 1) (off := 0) (m := 4) rfl (load_whole (u64s_lenh (mL_len _ _))))) (wo9553.pk [0, 5, 6, 7, 10, 11]) fun ac27757 En27758 => ?_
  refine q_s [5] [] 17 En27758 (wo9553.pk [0, 5, 6, 7, 10, 11]) fun ac27759 En27760 => ?_
  refine q_r 6 (s := Instr.loadAt 33 (pt bk2739)) (v := .agg (List.toArray (u64s (sL (mL (aL a b) (aL a b)) (mL (sL a b) (sL a b)))))) En27760 (fun w hS => run_loadAgg2 (m := 4) (cs := u64s (sL (mL (aL a b) (aL a b)) (mL (sL a b) (sL a b)))) (u64s_lenh (sL_len _ _)) (by kernel_rfl) (by kernel_rfl) (hS.heap.cells (k := 3) (off := 0) (m := 4) rfl (load_whole (u64s_lenh (sL_len _ _))))) (wo9553.pk [0, 5, 6, 7, 10, 11]) fun ac27761 En27762 => ?_
  refine q_r 11 (s := Instr.loadAt 33 (pt bk9195)) (v := .agg (List.toArray (u64s (aL (mL (sL c d) (aL a b)) (mL (aL c d) (sL a b)))))) En27762 (fun w hS => run_loadAgg2 (m := 4) (cs := u64s (aL (mL (sL c d) (aL a b)) (mL (aL c d) (sL a b)))) (u64s_lenh (aL_len _ _)) (by kernel_rfl) (by kernel_rfl) (hS.heap.cells (k := 4) (off := 0) (m := 4) rfl (load_whole (u64s_lenh (aL_len _ _))))) (wo9553.pk [0, 5, 6, 7, 10, 11]) fun ac27763 En27764 => ?_
  refine q_r 12 (s := Instr.loadAt 33 (pt bk9195)) (v := .agg (List.toArray (u64s (aL (mL (sL c d) (aL a b)) (mL (aL c d) (sL a b)))))) En27764 (fun w hS => run_loadAgg2 (m := 4) (cs := u64s (aL (mL (sL c d) (aL a b)) (mL (aL c d) (sL a b)))) (u64s_lenh (aL_len _ _)) (by kernel_rfl) (by kernel_rfl) (hS.heap.cells (k := 4) (off := 0) (m := 4) rfl (load_whole (u64s_lenh (aL_len _ _))))) (wo9553.pk [0, 5, 6, 7, 10, 11]) fun ac27765 En27766 => ?_
  refine q_r 14 (s := Instr.loadAt 33 (pt bk11)) (v := .agg (List.toArray (u64s x))) En27766 (fun w hS => run_loadAgg2 (m := 4) (cs := u64s x) (u64s_lenh hx) (by kernel_rfl) (by kernel_rfl) (hS.heap.cells (k := 0) (off := 0) (m := 4) rfl (load_whole (u64s_lenh hx)))) (wo9553.pk [0, 5, 6, 7, 10, 11]) fun ac27767 En27768 => ?_
  refine q_r 15 (s := Instr.loadAt 33 (pt bk9200)) (v := .agg (List.toArray (u64s (sL (mL (sL c d) (aL a b)) (mL (aL c d) (sL a b)))))) En27768 (fun w hS => run_loadAgg2 (m := 4) (cs := u64s (sL (mL (sL c d) (aL a b)) (mL (aL c d) (sL a b)))) (u64s_lenh (sL_len _ _)) (by kernel_rfl) (by kernel_rfl) (hS.heap.cells (k := 5) (off := 0) (m := 4) rfl (load_whole (u64s_lenh (sL_len _ _))))) (wo9553.pk [0, 5, 6, 7, 10, 11]) fun ac27769 En27770 => ?_
  refine q_r 16 (s := Instr.loadAt 33 (pt bk9200)) (v := .agg (List.toArray (u64s (sL (mL (sL c d) (aL a b)) (mL (aL c d) (sL a b)))))) En27770 (fun w hS => run_loadAgg2 (m := 4) (cs := u64s (sL (mL (sL c d) (aL a b)) (mL (aL c d) (sL a b)))) (u64s_lenh (sL_len _ _)) (by kernel_rfl) (by kernel_rfl) (hS.heap.cells (k := 5) (off := 0) (m := 4) rfl (load_whole (u64s_lenh (sL_len _ _))))) (wo9553.pk [0, 5, 6, 7, 10, 11]) fun ac27771 En27772 => ?_
  refine q_t 2 ?_
  refine c_p En27772 wo9553 (xmul_go _ (mL (aL a b) (aL a b)) (mL (sL a b) (sL a b)) (mL_len _ _) (mL_len _ _)) fun ac27777 wo27774 En27778 Hv27779 => ?_
  refine ⟨fun _ => Hv27779.pk [0, 5, 6, 7, 10, 11], ?_⟩
  refine q_t 7 ?_
  refine c_p En27778 Hv27779 (xmul_go _ ([121665, 0, 0, 0] : List UInt64) (sL (mL (aL a b) (aL a b)) (mL (sL a b) (sL a b))) (show List.length ([121665, 0, 0, 0] : List UInt64) = 4 from rfl) (sL_len _ _)) fun ac27784 wo27781 En27785 Hv27786 => ?_
  refine ⟨fun _ => Hv27786.pk [0, 5, 6, 7, 10, 11], ?_⟩
  refine q_t 8 ?_
  refine c_p En27785 Hv27786 (xsum_go _ (mL (aL a b) (aL a b)) (mL ([121665, 0, 0, 0] : List UInt64) (sL (mL (aL a b) (aL a b)) (mL (sL a b) (sL a b)))) (mL_len _ _) (mL_len _ _)) fun ac27791 wo27788 En27792 Hv27793 => ?_
  refine ⟨fun _ => Hv27793.pk [0, 5, 6, 7, 10, 11], ?_⟩
  refine q_t 9 ?_
  refine c_p En27792 Hv27793 (xmul_go _ (sL (mL (aL a b) (aL a b)) (mL (sL a b) (sL a b))) (aL (mL (aL a b) (aL a b)) (mL ([121665, 0, 0, 0] : List UInt64) (sL (mL (aL a b) (aL a b)) (mL (sL a b) (sL a b))))) (sL_len _ _) (aL_len _ _)) fun ac27798 wo27795 En27799 Hv27800 => ?_
  refine ⟨fun _ => Hv27800.pk [0, 5, 6, 7, 10, 11], ?_⟩
  refine q_s [10] [] 6 En27799 (Hv27800.pk [0, 5, 6, 7, 10, 11]) fun ac27801 En27802 => ?_
  refine q_t 13 ?_
  refine c_p En27802 Hv27800 (xmul_go _ (aL (mL (sL c d) (aL a b)) (mL (aL c d) (sL a b))) (aL (mL (sL c d) (aL a b)) (mL (aL c d) (sL a b))) (aL_len _ _) (aL_len _ _)) fun ac27807 wo27804 En27808 Hv27809 => ?_
  refine ⟨fun _ => Hv27809.pk [0, 5, 6, 7, 10, 11], ?_⟩
  refine q_t 17 ?_
  refine c_p En27808 Hv27809 (xmul_go _ (sL (mL (sL c d) (aL a b)) (mL (aL c d) (sL a b))) (sL (mL (sL c d) (aL a b)) (mL (aL c d) (sL a b))) (sL_len _ _) (sL_len _ _)) fun ac27814 wo27811 En27815 Hv27816 => ?_
  refine ⟨fun _ => Hv27816.pk [0, 5, 6, 7, 10, 11], ?_⟩
  refine q_t 18 ?_
  refine c_p En27815 Hv27816 (xmul_go _ x (mL (sL (mL (sL c d) (aL a b)) (mL (aL c d) (sL a b))) (sL (mL (sL c d) (aL a b)) (mL (aL c d) (sL a b)))) hx (mL_len _ _)) fun ac27821 wo27818 En27822 Hv27823 => ?_
  refine ⟨fun _ => Hv27823.pk [0, 5, 6, 7, 10, 11], ?_⟩
  refine q_s [19] [] 2 En27822 (Hv27823.pk [0, 5, 6, 7, 10, 11]) fun ac27824 En27825 => ?_
  refine q_t 20 ?_
  refine m_g 1 0 8 ((u64s (mL (mL (aL a b) (aL a b)) (mL (sL a b) (sL a b)))) ++ (u64s (mL (sL (mL (aL a b) (aL a b)) (mL (sL a b) (sL a b))) (aL (mL (aL a b) (aL a b)) (mL ([121665, 0, 0, 0] : List UInt64) (sL (mL (aL a b) (aL a b)) (mL (sL a b) (sL a b)))))))) ((u64s (mL (mL (aL a b) (aL a b)) (mL (sL a b) (sL a b)))) ++ (u64s (mL (sL (mL (aL a b) (aL a b)) (mL (sL a b) (sL a b))) (aL (mL (aL a b) (aL a b)) (mL ([121665, 0, 0, 0] : List UInt64) (sL (mL (aL a b) (aL a b)) (mL (sL a b) (sL a b)))))))) [.box bk11 (u64s x) 33, .box bk16 ((u64s (mL (mL (aL a b) (aL a b)) (mL (sL a b) (sL a b)))) ++ (u64s (mL (sL (mL (aL a b) (aL a b)) (mL (sL a b) (sL a b))) (aL (mL (aL a b) (aL a b)) (mL ([121665, 0, 0, 0] : List UInt64) (sL (mL (aL a b) (aL a b)) (mL (sL a b) (sL a b)))))))) 37, .box bk21 ((u64s (List.replicate 4 0)) ++ (u64s (List.replicate 4 0))) 37, .box bk1020 (u64s (aL a b)) 33, .box bk1025 (u64s (sL a b)) 33, .box bk2370 (u64s (mL (aL a b) (aL a b))) 33, .box bk2375 (u64s (mL (sL a b) (sL a b))) 33, .box bk2739 (u64s (sL (mL (aL a b) (aL a b)) (mL (sL a b) (sL a b)))) 33, .box bk7521 (u64s (mL (sL c d) (aL a b))) 33, .box bk7526 (u64s (mL (aL c d) (sL a b))) 33, .box bk9195 (u64s (aL (mL (sL c d) (aL a b)) (mL (aL c d) (sL a b)))) 33, .box bk9200 (u64s (sL (mL (sL c d) (aL a b)) (mL (aL c d) (sL a b)))) 33] En27825 Hv27823 rfl (len_app (u64s_lenh (mL_len _ _)) (u64s_lenh (mL_len _ _))) (by rw [(len_app (u64s_lenh (List.length_replicate)) (u64s_lenh (List.length_replicate)))]; decide) (one_app (u64s_one _) (u64s_one _)) (store_whole (len_app (u64s_lenh (List.length_replicate)) (u64s_lenh (List.length_replicate)))) rfl fun ac27826 wo27827 En27828 Hv27829 => ?_
  refine ⟨fun _ => Hv27829.pk [0, 5, 6, 7, 10, 11], ?_⟩
  refine q_t 21 ?_
  refine m_g 2 0 8 ((u64s (mL (aL (mL (sL c d) (aL a b)) (mL (aL c d) (sL a b))) (aL (mL (sL c d) (aL a b)) (mL (aL c d) (sL a b))))) ++ (u64s (mL x (mL (sL (mL (sL c d) (aL a b)) (mL (aL c d) (sL a b))) (sL (mL (sL c d) (aL a b)) (mL (aL c d) (sL a b))))))) ((u64s (mL (aL (mL (sL c d) (aL a b)) (mL (aL c d) (sL a b))) (aL (mL (sL c d) (aL a b)) (mL (aL c d) (sL a b))))) ++ (u64s (mL x (mL (sL (mL (sL c d) (aL a b)) (mL (aL c d) (sL a b))) (sL (mL (sL c d) (aL a b)) (mL (aL c d) (sL a b))))))) [.box bk11 (u64s x) 33, .box bk16 ((u64s (mL (mL (aL a b) (aL a b)) (mL (sL a b) (sL a b)))) ++ (u64s (mL (sL (mL (aL a b) (aL a b)) (mL (sL a b) (sL a b))) (aL (mL (aL a b) (aL a b)) (mL ([121665, 0, 0, 0] : List UInt64) (sL (mL (aL a b) (aL a b)) (mL (sL a b) (sL a b)))))))) 37, .box bk21 ((u64s (mL (aL (mL (sL c d) (aL a b)) (mL (aL c d) (sL a b))) (aL (mL (sL c d) (aL a b)) (mL (aL c d) (sL a b))))) ++ (u64s (mL x (mL (sL (mL (sL c d) (aL a b)) (mL (aL c d) (sL a b))) (sL (mL (sL c d) (aL a b)) (mL (aL c d) (sL a b))))))) 37, .box bk1020 (u64s (aL a b)) 33, .box bk1025 (u64s (sL a b)) 33, .box bk2370 (u64s (mL (aL a b) (aL a b))) 33, .box bk2375 (u64s (mL (sL a b) (sL a b))) 33, .box bk2739 (u64s (sL (mL (aL a b) (aL a b)) (mL (sL a b) (sL a b)))) 33, .box bk7521 (u64s (mL (sL c d) (aL a b))) 33, .box bk7526 (u64s (mL (aL c d) (sL a b))) 33, .box bk9195 (u64s (aL (mL (sL c d) (aL a b)) (mL (aL c d) (sL a b)))) 33, .box bk9200 (u64s (sL (mL (sL c d) (aL a b)) (mL (aL c d) (sL a b)))) 33] En27828 Hv27829 rfl (len_app (u64s_lenh (mL_len _ _)) (u64s_lenh (mL_len _ _))) (by rw [(len_app (u64s_lenh (List.length_replicate)) (u64s_lenh (List.length_replicate)))]; decide) (one_app (u64s_one _) (u64s_one _)) (store_whole (len_app (u64s_lenh (List.length_replicate)) (u64s_lenh (List.length_replicate)))) rfl fun ac27830 wo27831 En27832 Hv27833 => ?_
  refine ⟨fun _ => Hv27833.pk [0, 5, 6, 7, 10, 11], ?_⟩
  exact h_e ⟨En27832.sb, Hv27833.pk [1, 2, 3, 4, 5, 6, 7, 8, 9, 10, 11]⟩
 rintro ac27834 wo27835 ⟨En27836, Hv27837⟩
 refine then_normal ?_
 refine wp_ret ?_
 refine d_cell2 (v := .agg (List.toArray ((u64s (mL (mL (aL a b) (aL a b)) (mL (sL a b) (sL a b)))) ++ (u64s (mL (sL (mL (aL a b) (aL a b)) (mL (sL a b) (sL a b))) (aL (mL (aL a b) (aL a b)) (mL ([121665, 0, 0, 0] : List UInt64) (sL (mL (aL a b) (aL a b)) (mL (sL a b) (sL a b)))))))))) (x := .agg (List.toArray ((u64s (mL (aL (mL (sL c d) (aL a b)) (mL (aL c d) (sL a b))) (aL (mL (sL c d) (aL a b)) (mL (aL c d) (sL a b))))) ++ (u64s (mL x (mL (sL (mL (sL c d) (aL a b)) (mL (aL c d) (sL a b))) (sL (mL (sL c d) (aL a b)) (mL (aL c d) (sL a b))))))))) (t := 6) (T := 37) (ad := ⟨bk16, 0, none⟩) (u := 7) (U := 37) (bd := ⟨bk21, 0, none⟩) En27836 (by kernel_rfl) (by kernel_rfl) (Ev.cellAgg (t := 37) (k := 0) (off := 0) (m := 8) (xs := (u64s (mL (mL (aL a b) (aL a b)) (mL (sL a b) (sL a b)))) ++ (u64s (mL (sL (mL (aL a b) (aL a b)) (mL (sL a b) (sL a b))) (aL (mL (aL a b) (aL a b)) (mL ([121665, 0, 0, 0] : List UInt64) (sL (mL (aL a b) (aL a b)) (mL (sL a b) (sL a b)))))))) Hv27837 rfl (load_whole (len_app (u64s_lenh (mL_len _ _)) (u64s_lenh (mL_len _ _)))) (len_app (u64s_lenh (mL_len _ _)) (u64s_lenh (mL_len _ _))) (by kernel_rfl) (by kernel_rfl)) (by kernel_rfl) (Ev.cellAgg (t := 37) (k := 1) (off := 0) (m := 8) (xs := (u64s (mL (aL (mL (sL c d) (aL a b)) (mL (aL c d) (sL a b))) (aL (mL (sL c d) (aL a b)) (mL (aL c d) (sL a b))))) ++ (u64s (mL x (mL (sL (mL (sL c d) (aL a b)) (mL (aL c d) (sL a b))) (sL (mL (sL c d) (aL a b)) (mL (aL c d) (sL a b))))))) Hv27837 rfl (load_whole (len_app (u64s_lenh (mL_len _ _)) (u64s_lenh (mL_len _ _)))) (len_app (u64s_lenh (mL_len _ _)) (u64s_lenh (mL_len _ _))) (by kernel_rfl) (by kernel_rfl)) ?_
 exact ⟨rfl, Hv27837.pk []⟩

end Go.Proofs.Yteainioaejnecaa
