/- Layer 4, the document: sums, differences, products, what bytes leave. -/
import Derived.Test.YtpfhmbbiadpbeaaF8
namespace Go.Proofs.Ytpfhmbbiadpbeaa
open Go.Dbr
set_option maxRecDepth 100000
set_option maxHeartbeats 2000000
set_option linter.unusedVariables false
set_option linter.unusedSimpArgs false

/-- what digits leave is told -/
def LeftOk (f : Int) : Prop := ∀ (w : World) (n : List UInt64), List.length n = 17 → DG n → dv 4294967296 n < 4294967296 ^ 16 → Calls Try.prog 50 #[.int .i64 f, .agg (List.toArray (u64s n))] w fun e w' => e = .returned (.agg (List.toArray (u64s (nd (dv 4294967296 n % mF f))))) ∧ Ev w [] w' []
theorem leftOk3 {f : Int} (h3 : f = 1 ∨ f = 2 ∨ f = 3) : LeftOk f := fun w n hn hd _ => left3_go w f h3 n hn hd
theorem left_at {f : Int} (hL : LeftOk f) (w : World) {n : List UInt64} (V : Nat) (hn : List.length n = 17) (hd : DG n) (hv : dv 4294967296 n = V) (hb : V < 4294967296 ^ 16) : Calls Try.prog 50 #[.int .i64 f, .agg (List.toArray (u64s n))] w fun e w' => e = .returned (.agg (List.toArray (u64s (nd (V % mF f))))) ∧ Ev w [] w' [] := by
  have h := hL w n hn hd (by rw [hv]; exact hb)
  rwa [hv] at h
theorem dv_n32 {n : Nat} (h : n < 4294967296 ^ 16) : dv 4294967296 (n32 17 n) = n := by rw [n32_val, Nat.mod_eq_of_lt (Nat.lt_of_lt_of_le h (by decide))]
theorem w256_32 : W256 = 4294967296 ^ 8 := by decide
theorem prod_lt {x y : Nat} (hx : x < W256) (hy : y < W256) : x * y < 4294967296 ^ 16 := by
  have h : x * y ≤ (W256 - 1) * (W256 - 1) := Nat.mul_le_mul (by omega) (by omega)
  refine Nat.lt_of_le_of_lt h (by decide)
theorem carry8 {x y : Nat} (hx : x < W256) (hy : y < W256) : dv 4294967296 (List.set (n32 17 (nv (nd (x + y)))) 8 (u1 (W256 ≤ x + y))) = x + y := by
  have h := dv_set 4294967296 (u1 (W256 ≤ x + y)) (n32 17 (nv (nd (x + y)))) 8 (by rw [n32_len]; decide)
  have g := n32_get 17 (nv (nd (x + y))) 8 (by decide)
  have e : nv (nd (x + y)) / 4294967296 ^ 8 = 0 := Nat.div_eq_of_lt (by rw [← w256_32]; exact nv_lt (nds_len _ _))
  rw [e, Nat.zero_mod] at g
  rw [g, Nat.zero_mul, Nat.add_zero, dv_n32 (Nat.lt_trans (nv_lt (nds_len _ _)) (by decide)), u1_val, ← w256_32] at h
  have k := nd_val (x + y)
  clear g e
  generalize dv 4294967296 (List.set (n32 17 (nv (nd (x + y)))) 8 (u1 (W256 ≤ x + y))) = G at *
  generalize nv (nd (x + y)) = Z at *
  simp only [W256] at *
  split at h <;> omega
theorem sum_lt {x y : Nat} (hx : x < W256) (hy : y < W256) : x + y < 4294967296 ^ 16 := by
  simp only [W256] at *
  have e : (4294967296 : Nat) ^ 16 = 13407807929942597099574024998205846127479365820592393377723561443721764030073546976801874298166903427690031858186486050853753882811946569946433649006084096 := by decide
  omega
theorem u1_dig (p : Prop) [Decidable p] : (u1 p).toNat < 4294967296 := Nat.lt_of_le_of_lt (u1_le p) (by decide)
theorem rsub_fin1 {x y M : Nat} (hx : x < M) (hy : y < M) (hM : M < W256) (h : nv (nd x) < nv (nd y)) : nd (nv (nd M) + W256 - nv (nd (nv (nd y) + W256 - nv (nd x)))) = nd ((x + M - y) % M) := by
  rw [nv_nd (by omega), nv_nd (by omega)] at h
  rw [nv_nd hM, nv_nd (n := y) (by omega), nv_nd (n := x) (by omega), nd_val, Nat.mod_eq_of_lt (a := x + M - y) (by omega), ← nd_mod, ← nd_mod (x + M - y)]
  congr 1
  simp only [W256] at *
  omega
theorem rsub_fin2 {x y M : Nat} (hx : x < M) (hy : y < M) (hM : M < W256) (h : ¬ nv (nd x) < nv (nd y)) : nd (nv (nd x) + W256 - nv (nd y)) = nd ((x + M - y) % M) := by
  rw [nv_nd (by omega), nv_nd (by omega)] at *
  exact sub_fin2 hx hy hM h
theorem radd_go (w : World) (f : Int) (hf : f = 1 ∨ f = 2 ∨ f = 3 ∨ f = 4) (hL : LeftOk f) (a b : List UInt64) (ha : List.length a = 4) (hb : List.length b = 4) : Calls Try.prog 20 #[.int .i64 f, .agg (List.toArray (u64s a)), .agg (List.toArray (u64s b))] w fun e w' => e = .returned (.agg (List.toArray (u64s (nd (addM f (nv a) (nv b)))))) ∧ Ev w [] w' [] := by
 refine d_0 [(0, .int .i64 f), (1, .agg (List.toArray (u64s a))), (2, .agg (List.toArray (u64s b)))] 29 Go.Proofs.Try.func20 Go.Proofs.Try.ntmps20 (Heap.nil _) fun act0 En0 Hv0 => ?_
 refine wp_seq ?_
 refine region_from ?_
 refine f_o ?_
 refine m_m 24 (u64s a) En0 Hv0 fun ac2 wo3 bk1 En4 Hv5 => ?_
 refine f_o ?_
 refine m_m 24 (u64s b) En4 Hv5 fun ac7 wo8 bk6 En9 Hv10 => ?_
 refine f_o ?_
 refine m_z 24 (u64s (List.replicate 4 0)) En9 Hv10 fun ac12 wo13 bk11 En14 Hv15 => ?_
 refine f_e ?_
 refine then_normal ?_
 refine wp_seq ?_
 refine region_from ?_
 refine d_k [0,4,5,6,11] [] 1 En14 fun ac16 En17 => ?_
 refine f_o ?_
 refine c_p En17 Hv15 (ris_go_yes _ f hf) fun ac22 wo19 En23 Hv24 => ?_
 refine d_e [0,4,5,6,7] [] En23 fun ac25 En26 => ?_
 refine then_normal ?_
 refine wp_seq ?_
 refine d_s [0,4,5,6,14] [] En26 fun ac27 En28 => ?_
 refine c_f En28 ?_
 refine wp_skip ?_
 refine then_normal ?_
 refine wp_seq ?_
 refine region_from ?_
 refine f_o ?_
 refine m_a 0 0 4 (u64s a) En28 Hv24 rfl (load_whole (u64s_lenh ha)) (u64s_lenh ha) fun ac29 En30 => ?_
 refine f_o ?_
 refine m_a 1 0 4 (u64s b) En30 Hv24 rfl (load_whole (u64s_lenh hb)) (u64s_lenh hb) fun ac31 En32 => ?_
 refine f_o ?_
 refine c_p En32 Hv24 (rplus_go _ a b ha hb) fun ac37 wo34 En38 Hv39 => ?_
 refine d_k [0,6,20,21] [] 6 En38 fun ac40 En41 => ?_
 refine f_o ?_
 refine m_z 24 (u64s (List.replicate 4 0)) En41 Hv39 fun ac43 wo44 bk42 En45 Hv46 => ?_
 refine f_o ?_
 refine m_g 3 0 4 (u64s (nd (nv a + nv b))) (u64s (nd (nv a + nv b))) [.box bk1 (u64s a) 24, .box bk6 (u64s b) 24, .box bk11 (u64s (List.replicate 4 0)) 24, .box bk42 (u64s (nd (nv a + nv b))) 24] En45 Hv46 rfl (u64s_lenh (nds_len _ _)) (by rw [(u64s_lenh (List.length_replicate))]; decide) (u64s_one _) (store_whole (u64s_lenh (List.length_replicate))) rfl fun ac47 wo48 En49 Hv50 => ?_
 refine d_e [0,6,8,9] [] En49 fun ac51 En52 => ?_
 refine then_normal ?_
 refine wp_seq ?_
 refine region_from ?_
 refine f_o ?_
 refine m_a 3 0 4 (u64s (nd (nv a + nv b))) En52 Hv50 rfl (load_whole (u64s_lenh (nds_len _ _))) (u64s_lenh (nds_len _ _)) fun ac53 En54 => ?_
 refine f_o ?_
 refine c_p En54 Hv50 (digits_go _ (nd (nv a + nv b)) (nds_len _ _)) fun ac59 wo56 En60 Hv61 => ?_
 refine f_o ?_
 refine m_z 70 (u64s (List.replicate 17 0)) En60 Hv61 fun ac63 wo64 bk62 En65 Hv66 => ?_
 refine f_o ?_
 refine m_g 4 0 17 (u64s (n32 17 (nv (nd (nv a + nv b))))) (u64s (n32 17 (nv (nd (nv a + nv b))))) [.box bk1 (u64s a) 24, .box bk6 (u64s b) 24, .box bk11 (u64s (List.replicate 4 0)) 24, .box bk42 (u64s (nd (nv a + nv b))) 24, .box bk62 (u64s (n32 17 (nv (nd (nv a + nv b))))) 70] En65 Hv66 rfl (u64s_lenh (n32_len _ _)) (by rw [(u64s_lenh (List.length_replicate))]; decide) (u64s_one _) (store_whole (u64s_lenh (List.length_replicate))) rfl fun ac67 wo68 En69 Hv70 => ?_
 refine f_e ?_
 refine then_normal ?_
 refine wp_seq ?_
 refine region_from ?_
 refine d_k [0,6,8,10,24,25] [] 2 En69 fun ac71 En72 => ?_
 refine f_o ?_
 have hb73 : 8 < List.length (n32 17 (nv (nd (nv a + nv b)))) := by rw [(n32_len _ _)]; omega
 refine m_t 4 8 (uv64 (u1 (W256 ≤ nv a + nv b))) [.box bk1 (u64s a) 24, .box bk6 (u64s b) 24, .box bk11 (u64s (List.replicate 4 0)) 24, .box bk42 (u64s (nd (nv a + nv b))) 24, .box bk62 (u64s (List.set (n32 17 (nv (nd (nv a + nv b)))) 8 (u1 (W256 ≤ nv a + nv b)))) 70] En72 Hv70 rfl (u64s_getD hb73) (u64s_set _ _ _) rfl fun ac74 wo75 En76 Hv77 => ?_
 refine f_e ?_
 refine then_normal ?_
 refine wp_seq ?_
 refine region_from ?_
 refine d_k [0,6,8,10,26] [] 1 En76 fun ac78 En79 => ?_
 refine f_o ?_
 refine m_a 4 0 17 (u64s (List.set (n32 17 (nv (nd (nv a + nv b)))) 8 (u1 (W256 ≤ nv a + nv b)))) En79 Hv77 rfl (load_whole (u64s_lenh (List.length_set.trans (n32_len _ _)))) (u64s_lenh (List.length_set.trans (n32_len _ _))) fun ac80 En81 => ?_
 refine f_o ?_
 refine c_p En81 Hv77 (left_at hL _ (nv a + nv b) (List.length_set.trans (n32_len _ _)) ((n32_dig _ _).set (u1_dig _)) (carry8 (nv_lt ha) (nv_lt hb)) (sum_lt (nv_lt ha) (nv_lt hb))) fun ac86 wo83 En87 Hv88 => ?_
 refine f_o ?_
 refine m_g 2 0 4 (u64s (nd ((nv a + nv b) % mF f))) (u64s (nd ((nv a + nv b) % mF f))) [.box bk1 (u64s a) 24, .box bk6 (u64s b) 24, .box bk11 (u64s (nd ((nv a + nv b) % mF f))) 24, .box bk42 (u64s (nd (nv a + nv b))) 24, .box bk62 (u64s (List.set (n32 17 (nv (nd (nv a + nv b)))) 8 (u1 (W256 ≤ nv a + nv b)))) 70] En87 Hv88 rfl (u64s_lenh (nds_len _ _)) (by rw [(u64s_lenh (List.length_replicate))]; decide) (u64s_one _) (store_whole (u64s_lenh (List.length_replicate))) rfl fun ac89 wo90 En91 Hv92 => ?_
 refine f_e ?_
 refine then_normal ?_
 refine wp_ret ?_
 refine d_cell1 (v := .agg (List.toArray (u64s (nd ((nv a + nv b) % mF f))))) (t := 6) (T := 24) (ad := ⟨bk11, 0, none⟩) En91 (by kernel_rfl) (by kernel_rfl) (Ev.cellAgg (t := 24) (k := 2) (off := 0) (m := 4) (xs := u64s (nd ((nv a + nv b) % mF f))) Hv92 rfl (load_whole (u64s_lenh (nds_len _ _))) (u64s_lenh (nds_len _ _)) (by kernel_rfl) (by kernel_rfl)) ?_
 exact ⟨rfl, Hv92.pk []⟩

theorem rmul_go (w : World) (f : Int) (hf : f = 1 ∨ f = 2 ∨ f = 3 ∨ f = 4) (hL : LeftOk f) (a b : List UInt64) (ha : List.length a = 4) (hb : List.length b = 4) : Calls Try.prog 67 #[.int .i64 f, .agg (List.toArray (u64s a)), .agg (List.toArray (u64s b))] w fun e w' => e = .returned (.agg (List.toArray (u64s (nd (mulM f (nv a) (nv b)))))) ∧ Ev w [] w' [] := by
 refine d_0 [(0, .int .i64 f), (1, .agg (List.toArray (u64s a))), (2, .agg (List.toArray (u64s b)))] 18 Go.Proofs.Try.func67 Go.Proofs.Try.ntmps67 (Heap.nil _) fun act0 En0 Hv0 => ?_
 refine wp_seq ?_
 refine region_from ?_
 refine f_o ?_
 refine m_m 24 (u64s a) En0 Hv0 fun ac2 wo3 bk1 En4 Hv5 => ?_
 refine f_o ?_
 refine m_m 24 (u64s b) En4 Hv5 fun ac7 wo8 bk6 En9 Hv10 => ?_
 refine f_o ?_
 refine m_z 24 (u64s (List.replicate 4 0)) En9 Hv10 fun ac12 wo13 bk11 En14 Hv15 => ?_
 refine f_e ?_
 refine then_normal ?_
 refine wp_seq ?_
 refine region_from ?_
 refine d_k [0,4,5,6,8] [] 1 En14 fun ac16 En17 => ?_
 refine f_o ?_
 refine c_p En17 Hv15 (ris_go_yes _ f hf) fun ac22 wo19 En23 Hv24 => ?_
 refine d_e [0,4,5,6,7] [] En23 fun ac25 En26 => ?_
 refine then_normal ?_
 refine wp_seq ?_
 refine d_s [0,4,5,6,11] [] En26 fun ac27 En28 => ?_
 refine c_f En28 ?_
 refine wp_skip ?_
 refine then_normal ?_
 refine wp_seq ?_
 refine region_from ?_
 refine d_k [0,4,5,6,13] [] 1 En28 fun ac29 En30 => ?_
 refine f_o ?_
 refine m_a 0 0 4 (u64s a) En30 Hv24 rfl (load_whole (u64s_lenh ha)) (u64s_lenh ha) fun ac31 En32 => ?_
 refine f_o ?_
 refine m_a 1 0 4 (u64s b) En32 Hv24 rfl (load_whole (u64s_lenh hb)) (u64s_lenh hb) fun ac33 En34 => ?_
 refine f_o ?_
 refine c_p En34 Hv24 (times_go _ a b ha hb) fun ac39 wo36 En40 Hv41 => ?_
 refine f_o ?_
 refine c_p En40 Hv41 (left_at hL _ (nv a * nv b) (n32_len _ _) (n32_dig _ _) (dv_n32 (by first | exact prod_lt (nv_lt ha) (nv_lt hb) | exact Nat.lt_trans (nv_lt ha) (by decide) | exact Nat.lt_trans (nv_lt hb) (by decide))) (by first | exact prod_lt (nv_lt ha) (nv_lt hb) | exact Nat.lt_trans (nv_lt ha) (by decide) | exact Nat.lt_trans (nv_lt hb) (by decide))) fun ac46 wo43 En47 Hv48 => ?_
 refine f_o ?_
 refine m_g 2 0 4 (u64s (nd ((nv a * nv b) % mF f))) (u64s (nd ((nv a * nv b) % mF f))) [.box bk1 (u64s a) 24, .box bk6 (u64s b) 24, .box bk11 (u64s (nd ((nv a * nv b) % mF f))) 24] En47 Hv48 rfl (u64s_lenh (nds_len _ _)) (by rw [(u64s_lenh (List.length_replicate))]; decide) (u64s_one _) (store_whole (u64s_lenh (List.length_replicate))) rfl fun ac49 wo50 En51 Hv52 => ?_
 refine f_e ?_
 refine then_normal ?_
 refine wp_ret ?_
 refine d_cell1 (v := .agg (List.toArray (u64s (nd ((nv a * nv b) % mF f))))) (t := 6) (T := 24) (ad := ⟨bk11, 0, none⟩) En51 (by kernel_rfl) (by kernel_rfl) (Ev.cellAgg (t := 24) (k := 2) (off := 0) (m := 4) (xs := u64s (nd ((nv a * nv b) % mF f))) Hv52 rfl (load_whole (u64s_lenh (nds_len _ _))) (u64s_lenh (nds_len _ _)) (by kernel_rfl) (by kernel_rfl)) ?_
 exact ⟨rfl, Hv52.pk []⟩

theorem rsub_go (w : World) (f : Int) (hf : f = 1 ∨ f = 2 ∨ f = 3 ∨ f = 4) (hL : LeftOk f) (a b : List UInt64) (ha : List.length a = 4) (hb : List.length b = 4) : Calls Try.prog 46 #[.int .i64 f, .agg (List.toArray (u64s a)), .agg (List.toArray (u64s b))] w fun e w' => e = .returned (.agg (List.toArray (u64s (nd (subM f (nv a) (nv b)))))) ∧ Ev w [] w' [] := by
 have hla : nv a % mF f < mF f := Nat.mod_lt _ (Nat.lt_trans Nat.zero_lt_one (mF_pos hf))
 have hlb : nv b % mF f < mF f := Nat.mod_lt _ (Nat.lt_trans Nat.zero_lt_one (mF_pos hf))
 have hmw := mF_lt f
 refine d_0 [(0, .int .i64 f), (1, .agg (List.toArray (u64s a))), (2, .agg (List.toArray (u64s b)))] 35 Go.Proofs.Try.func46 Go.Proofs.Try.ntmps46 (Heap.nil _) fun act0 En0 Hv0 => ?_
 refine wp_seq ?_
 refine region_from ?_
 refine f_o ?_
 refine m_m 24 (u64s a) En0 Hv0 fun ac2 wo3 bk1 En4 Hv5 => ?_
 refine f_o ?_
 refine m_m 24 (u64s b) En4 Hv5 fun ac7 wo8 bk6 En9 Hv10 => ?_
 refine f_o ?_
 refine m_z 24 (u64s (List.replicate 4 0)) En9 Hv10 fun ac12 wo13 bk11 En14 Hv15 => ?_
 refine f_e ?_
 refine then_normal ?_
 refine wp_seq ?_
 refine region_from ?_
 refine d_k [0,4,5,6,10] [] 1 En14 fun ac16 En17 => ?_
 refine f_o ?_
 refine c_p En17 Hv15 (ris_go_yes _ f hf) fun ac22 wo19 En23 Hv24 => ?_
 refine d_e [0,4,5,6,7] [] En23 fun ac25 En26 => ?_
 refine then_normal ?_
 refine wp_seq ?_
 refine d_s [0,4,5,6,13] [] En26 fun ac27 En28 => ?_
 refine c_f En28 ?_
 refine wp_skip ?_
 refine then_normal ?_
 refine wp_seq ?_
 refine region_from ?_
 refine d_k [0,4,5,6,15] [] 1 En28 fun ac29 En30 => ?_
 refine f_o ?_
 refine m_a 0 0 4 (u64s a) En30 Hv24 rfl (load_whole (u64s_lenh ha)) (u64s_lenh ha) fun ac31 En32 => ?_
 refine f_o ?_
 refine c_p En32 Hv24 (digits_go _ a ha) fun ac37 wo34 En38 Hv39 => ?_
 refine f_o ?_
 refine c_p En38 Hv39 (left_at hL _ (nv a) (n32_len _ _) (n32_dig _ _) (dv_n32 (by first | exact prod_lt (nv_lt ha) (nv_lt hb) | exact Nat.lt_trans (nv_lt ha) (by decide) | exact Nat.lt_trans (nv_lt hb) (by decide))) (by first | exact prod_lt (nv_lt ha) (nv_lt hb) | exact Nat.lt_trans (nv_lt ha) (by decide) | exact Nat.lt_trans (nv_lt hb) (by decide))) fun ac44 wo41 En45 Hv46 => ?_
 refine f_o ?_
 refine m_z 24 (u64s (List.replicate 4 0)) En45 Hv46 fun ac48 wo49 bk47 En50 Hv51 => ?_
 refine f_o ?_
 refine m_g 3 0 4 (u64s (nd ((nv a) % mF f))) (u64s (nd ((nv a) % mF f))) [.box bk1 (u64s a) 24, .box bk6 (u64s b) 24, .box bk11 (u64s (List.replicate 4 0)) 24, .box bk47 (u64s (nd ((nv a) % mF f))) 24] En50 Hv51 rfl (u64s_lenh (nds_len _ _)) (by rw [(u64s_lenh (List.length_replicate))]; decide) (u64s_one _) (store_whole (u64s_lenh (List.length_replicate))) rfl fun ac52 wo53 En54 Hv55 => ?_
 refine f_e ?_
 refine then_normal ?_
 refine wp_seq ?_
 refine region_from ?_
 refine d_k [0,5,6,8,19] [] 1 En54 fun ac56 En57 => ?_
 refine f_o ?_
 refine m_a 1 0 4 (u64s b) En57 Hv55 rfl (load_whole (u64s_lenh hb)) (u64s_lenh hb) fun ac58 En59 => ?_
 refine f_o ?_
 refine c_p En59 Hv55 (digits_go _ b hb) fun ac64 wo61 En65 Hv66 => ?_
 refine f_o ?_
 refine c_p En65 Hv66 (left_at hL _ (nv b) (n32_len _ _) (n32_dig _ _) (dv_n32 (by first | exact prod_lt (nv_lt ha) (nv_lt hb) | exact Nat.lt_trans (nv_lt ha) (by decide) | exact Nat.lt_trans (nv_lt hb) (by decide))) (by first | exact prod_lt (nv_lt ha) (nv_lt hb) | exact Nat.lt_trans (nv_lt ha) (by decide) | exact Nat.lt_trans (nv_lt hb) (by decide))) fun ac71 wo68 En72 Hv73 => ?_
 refine f_o ?_
 refine m_z 24 (u64s (List.replicate 4 0)) En72 Hv73 fun ac75 wo76 bk74 En77 Hv78 => ?_
 refine f_o ?_
 refine m_g 4 0 4 (u64s (nd ((nv b) % mF f))) (u64s (nd ((nv b) % mF f))) [.box bk1 (u64s a) 24, .box bk6 (u64s b) 24, .box bk11 (u64s (List.replicate 4 0)) 24, .box bk47 (u64s (nd ((nv a) % mF f))) 24, .box bk74 (u64s (nd ((nv b) % mF f))) 24] En77 Hv78 rfl (u64s_lenh (nds_len _ _)) (by rw [(u64s_lenh (List.length_replicate))]; decide) (u64s_one _) (store_whole (u64s_lenh (List.length_replicate))) rfl fun ac79 wo80 En81 Hv82 => ?_
 refine f_e ?_
 refine then_normal ?_
 refine wp_seq ?_
 refine wp_seq ?_
 refine region_from ?_
 refine f_o ?_
 refine m_a 3 0 4 (u64s (nd ((nv a) % mF f))) En81 Hv82 rfl (load_whole (u64s_lenh (nds_len _ _))) (u64s_lenh (nds_len _ _)) fun ac83 En84 => ?_
 refine f_o ?_
 refine m_a 4 0 4 (u64s (nd ((nv b) % mF f))) En84 Hv82 rfl (load_whole (u64s_lenh (nds_len _ _))) (u64s_lenh (nds_len _ _)) fun ac85 En86 => ?_
 refine f_o ?_
 refine c_p En86 Hv82 (rless_go _ (nd ((nv a) % mF f)) (nd ((nv b) % mF f)) (nds_len _ _) (nds_len _ _)) fun ac91 wo88 En92 Hv93 => ?_
 refine f_e ?_
 refine then_normal ?_
 refine c_d (nv (nd ((nv a) % mF f)) < nv (nd ((nv b) % mF f))) En92 (fun hc94 => ?_) (fun hc94 => ?_)
 ·
  refine wp_seq ?_
  refine r_c (fun ac wo => Env ac 35 [(0, .int .i64 f), (6, pt bk11), (8, pt bk47), (9, pt bk74)] ∧ Ev w [] wo [.box bk11 (u64s (nd (nv (nd (mF f)) + W256 - nv (nd (nv (nd ((nv b) % mF f)) + W256 - nv (nd ((nv a) % mF f))))))) 24, .box bk47 (u64s (nd ((nv a) % mF f))) 24, .box bk74 (u64s (nd ((nv b) % mF f))) 24]) ?_ ?_
  ·
   refine h_s (fun wv => Ev w [] wv [.box bk47 (u64s (nd ((nv a) % mF f))) 24, .box bk74 (u64s (nd ((nv b) % mF f))) 24]) [] 7 ?_
   have wo95 := Hv93.trans (Ev.drew Hv93.heap)
   refine q_s [0] [] 6 En92 (wo95.pk [3, 4]) fun ac227 En228 => ?_
   refine q_r 2 (s := Instr.loadAt 24 (pt bk74)) (v := .agg (List.toArray (u64s (nd ((nv b) % mF f))))) En228 (fun w hS => run_loadAgg2 (m := 4) (cs := u64s (nd ((nv b) % mF f))) (u64s_lenh (nds_len _ _)) (by kernel_rfl) (by kernel_rfl) (hS.heap.cells (k := 1) (off := 0) (m := 4) rfl (load_whole (u64s_lenh (nds_len _ _))))) (wo95.pk [3, 4]) fun ac229 En230 => ?_
   refine q_r 3 (s := Instr.loadAt 24 (pt bk47)) (v := .agg (List.toArray (u64s (nd ((nv a) % mF f))))) En230 (fun w hS => run_loadAgg2 (m := 4) (cs := u64s (nd ((nv a) % mF f))) (u64s_lenh (nds_len _ _)) (by kernel_rfl) (by kernel_rfl) (hS.heap.cells (k := 0) (off := 0) (m := 4) rfl (load_whole (u64s_lenh (nds_len _ _))))) (wo95.pk [3, 4]) fun ac231 En232 => ?_
   refine q_t 1 ?_
   refine c_p En232 wo95 (rmodulus_go _ f) fun ac237 wo234 En238 Hv239 => ?_
   refine ⟨fun _ => Hv239.pk [3, 4], ?_⟩
   refine q_t 4 ?_
   refine c_p En238 Hv239 (rminus_go _ (nd ((nv b) % mF f)) (nd ((nv a) % mF f)) (nds_len _ _) (nds_len _ _)) fun ac244 wo241 En245 Hv246 => ?_
   refine ⟨fun _ => Hv246.pk [3, 4], ?_⟩
   refine q_t 5 ?_
   refine c_p En245 Hv246 (rminus_go _ (nd (mF f)) (nd (nv (nd ((nv b) % mF f)) + W256 - nv (nd ((nv a) % mF f)))) (nds_len _ _) (nds_len _ _)) fun ac251 wo248 En252 Hv253 => ?_
   refine ⟨fun _ => Hv253.pk [3, 4], ?_⟩
   refine q_t 6 ?_
   refine m_g 2 0 4 (u64s (nd (nv (nd (mF f)) + W256 - nv (nd (nv (nd ((nv b) % mF f)) + W256 - nv (nd ((nv a) % mF f))))))) (u64s (nd (nv (nd (mF f)) + W256 - nv (nd (nv (nd ((nv b) % mF f)) + W256 - nv (nd ((nv a) % mF f))))))) [.box bk1 (u64s a) 24, .box bk6 (u64s b) 24, .box bk11 (u64s (nd (nv (nd (mF f)) + W256 - nv (nd (nv (nd ((nv b) % mF f)) + W256 - nv (nd ((nv a) % mF f))))))) 24, .box bk47 (u64s (nd ((nv a) % mF f))) 24, .box bk74 (u64s (nd ((nv b) % mF f))) 24] En252 Hv253 rfl (u64s_lenh (nds_len _ _)) (by rw [(u64s_lenh (List.length_replicate))]; decide) (u64s_one _) (store_whole (u64s_lenh (List.length_replicate))) rfl fun ac254 wo255 En256 Hv257 => ?_
   refine ⟨fun _ => Hv257.pk [3, 4], ?_⟩
   exact h_e ⟨En256.sb, Hv257.pk [2, 3, 4]⟩
  rintro ac258 wo259 ⟨En260, Hv261⟩
  refine then_normal ?_
  refine wp_ret ?_
  refine then_ret ?_
  refine d_cell1 (v := .agg (List.toArray (u64s (nd (nv (nd (mF f)) + W256 - nv (nd (nv (nd ((nv b) % mF f)) + W256 - nv (nd ((nv a) % mF f))))))))) (t := 6) (T := 24) (ad := ⟨bk11, 0, none⟩) En260 (by kernel_rfl) (by kernel_rfl) (Ev.cellAgg (t := 24) (k := 0) (off := 0) (m := 4) (xs := u64s (nd (nv (nd (mF f)) + W256 - nv (nd (nv (nd ((nv b) % mF f)) + W256 - nv (nd ((nv a) % mF f))))))) Hv261 rfl (load_whole (u64s_lenh (nds_len _ _))) (u64s_lenh (nds_len _ _)) (by kernel_rfl) (by kernel_rfl)) ?_
  have e : nd (nv (nd (mF f)) + W256 - nv (nd (nv (nd ((nv b) % mF f)) + W256 - nv (nd ((nv a) % mF f))))) = nd (subM f (nv a) (nv b)) := rsub_fin1 hla hlb hmw (by assumption)
  exact ⟨by rw [e], Hv261.pk []⟩
 ·
  refine wp_skip ?_
  refine then_normal ?_
  refine wp_seq ?_
  refine region_from ?_
  refine f_o ?_
  refine m_a 3 0 4 (u64s (nd ((nv a) % mF f))) En92 Hv93 rfl (load_whole (u64s_lenh (nds_len _ _))) (u64s_lenh (nds_len _ _)) fun ac262 En263 => ?_
  refine f_o ?_
  refine m_a 4 0 4 (u64s (nd ((nv b) % mF f))) En263 Hv93 rfl (load_whole (u64s_lenh (nds_len _ _))) (u64s_lenh (nds_len _ _)) fun ac264 En265 => ?_
  refine f_o ?_
  refine c_p En265 Hv93 (rminus_go _ (nd ((nv a) % mF f)) (nd ((nv b) % mF f)) (nds_len _ _) (nds_len _ _)) fun ac270 wo267 En271 Hv272 => ?_
  refine f_o ?_
  refine m_g 2 0 4 (u64s (nd (nv (nd ((nv a) % mF f)) + W256 - nv (nd ((nv b) % mF f))))) (u64s (nd (nv (nd ((nv a) % mF f)) + W256 - nv (nd ((nv b) % mF f))))) [.box bk1 (u64s a) 24, .box bk6 (u64s b) 24, .box bk11 (u64s (nd (nv (nd ((nv a) % mF f)) + W256 - nv (nd ((nv b) % mF f))))) 24, .box bk47 (u64s (nd ((nv a) % mF f))) 24, .box bk74 (u64s (nd ((nv b) % mF f))) 24] En271 Hv272 rfl (u64s_lenh (nds_len _ _)) (by rw [(u64s_lenh (List.length_replicate))]; decide) (u64s_one _) (store_whole (u64s_lenh (List.length_replicate))) rfl fun ac273 wo274 En275 Hv276 => ?_
  refine f_e ?_
  refine then_normal ?_
  refine wp_ret ?_
  refine d_cell1 (v := .agg (List.toArray (u64s (nd (nv (nd ((nv a) % mF f)) + W256 - nv (nd ((nv b) % mF f))))))) (t := 6) (T := 24) (ad := ⟨bk11, 0, none⟩) En275 (by kernel_rfl) (by kernel_rfl) (Ev.cellAgg (t := 24) (k := 2) (off := 0) (m := 4) (xs := u64s (nd (nv (nd ((nv a) % mF f)) + W256 - nv (nd ((nv b) % mF f))))) Hv276 rfl (load_whole (u64s_lenh (nds_len _ _))) (u64s_lenh (nds_len _ _)) (by kernel_rfl) (by kernel_rfl)) ?_
  have e : nd (nv (nd ((nv a) % mF f)) + W256 - nv (nd ((nv b) % mF f))) = nd (subM f (nv a) (nv b)) := rsub_fin2 hla hlb hmw (by assumption)
  exact ⟨by rw [e], Hv276.pk []⟩

end Go.Proofs.Ytpfhmbbiadpbeaa
