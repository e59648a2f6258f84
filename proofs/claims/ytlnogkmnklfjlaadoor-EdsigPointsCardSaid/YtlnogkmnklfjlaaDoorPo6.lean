import Derived.Test.YtlnogkmnklfjlaaDoorPo5
import Derived.Test.YtlnogkmnklfjlaaDoorPo2
open UInt64 renaming ofNat → za, toNat → zt, toNat_shiftRight → Z3, toNat_and → QW
open Go.Dbr renaming u64s_lenh → zb, then_normal → zg, u64s → zh, region_from → zm, load_whole → zn, store_whole → zo, u64s_one → zu, block_normal → zv, then_exit → zy, u64s_getD → zE, run_loadAgg2 → zP, block_exit → zV, d_cell1 → z5, loop_m → Qa
open List renaming replicate → zc, length_replicate → zd, length → ze, getD → zf, toArray → zi, set → zp, take → zr, drop → zs, length_take → zI, length_drop → zS, length_append → z4, append_assoc → Qb, map_take → Yl, map_drop → Jx
open Go.Proofs.YtlnogkmnklfjlaaDoor renaming nds_len → zk, mulM → zq, W256 → zH, subM → zJ, nv_lt → ZL, nv_nd → Qu, n32_len → Ya, mF_pos → YA, rminus_go → Jc, digits_go → JC, n32_dig → JL, ris_go_yes → JM
open Go.Dbr.Ev renaming cellAgg → zx, drew → zQ
open Nat renaming mod_eq_of_lt → zB, pow_succ → z6, lt_trans → z8, div_div_eq_div_mul → Zt, mod_lt → Zw, pow_add → Zy, shiftRight_eq_div_pow → ZF, pow_zero → ZK, pow_mul → Z6, zero_lt_one → Qh, testBit → Yd, lt_of_le_of_lt → YB, div_one → Y3, div_eq_of_lt → JD
/- Layer 4, the document: sums, differences, products, what bytes leave. -/

namespace Go.Proofs.YtlnogkmnklfjlaaDoor
open Go.Dbr
set_option maxRecDepth 100000
set_option maxHeartbeats 2000000
set_option linter.unusedVariables false
set_option linter.unusedSimpArgs false

/-- what digits leave is told -/
def LeftOk (f : Int) : Prop := ∀ (w : World) (n : List UInt64), ze n = 17 → DG n → dv 4294967296 n < 4294967296 ^ 16 → Calls Tryd.prog 83 #[.int .i64 f, .agg (zi (zh n))] w fun e w' => e = .returned (.agg (zi (zh (nd (dv 4294967296 n % mF f))))) ∧ Ev w [] w' []
theorem leftOk3 {f : Int} (h3 : f = 1 ∨ f = 2 ∨ f = 3) : LeftOk f := fun w n hn hd _ => left3_go w f h3 n hn hd
theorem left_at {f : Int} (hL : LeftOk f) (w : World) {n : List UInt64} (V : Nat) (hn : ze n = 17) (hd : DG n) (hv : dv 4294967296 n = V) (hb : V < 4294967296 ^ 16) : Calls Tryd.prog 83 #[.int .i64 f, .agg (zi (zh n))] w fun e w' => e = .returned (.agg (zi (zh (nd (V % mF f))))) ∧ Ev w [] w' [] := by
  have h := hL w n hn hd (by rw [hv]; exact hb)
  rwa [hv] at h
theorem dv_n32 {n : Nat} (h : n < 4294967296 ^ 16) : dv 4294967296 (n32 17 n) = n := by rw [n32_val, zB (Nat.lt_of_lt_of_le h (by decide))]
theorem w256_32 : zH = 4294967296 ^ 8 := by decide
theorem prod_lt {x y : Nat} (hx : x < zH) (hy : y < zH) : x * y < 4294967296 ^ 16 := by
  have h : x * y ≤ (zH - 1) * (zH - 1) := Nat.mul_le_mul (by omega) (by omega)
  refine YB h (by decide)
theorem carry8 {x y : Nat} (hx : x < zH) (hy : y < zH) : dv 4294967296 (zp (n32 17 (nv (nd (x + y)))) 8 (u1 (zH ≤ x + y))) = x + y := by
  have h := dv_set 4294967296 (u1 (zH ≤ x + y)) (n32 17 (nv (nd (x + y)))) 8 (by rw [Ya]; decide)
  have g := n32_get 17 (nv (nd (x + y))) 8 (by decide)
  have e : nv (nd (x + y)) / 4294967296 ^ 8 = 0 := JD (by rw [← w256_32]; exact ZL (zk _ _))
  rw [e, Nat.zero_mod] at g
  rw [g, Nat.zero_mul, Nat.add_zero, dv_n32 (z8 (ZL (zk _ _)) (by decide)), u1_val, ← w256_32] at h
  have k := nd_val (x + y)
  clear g e
  generalize dv 4294967296 (zp (n32 17 (nv (nd (x + y)))) 8 (u1 (zH ≤ x + y))) = G at *
  generalize nv (nd (x + y)) = Z at *
  simp only [zH] at *
  split at h <;> omega
theorem sum_lt {x y : Nat} (hx : x < zH) (hy : y < zH) : x + y < 4294967296 ^ 16 := by
  simp only [zH] at *
  have e : (4294967296 : Nat) ^ 16 = 13407807929942597099574024998205846127479365820592393377723561443721764030073546976801874298166903427690031858186486050853753882811946569946433649006084096 := by decide
  omega
theorem u1_dig (p : Prop) [Decidable p] : (u1 p).toNat < 4294967296 := YB (u1_le p) (by decide)
theorem rsub_fin1 {x y M : Nat} (hx : x < M) (hy : y < M) (hM : M < zH) (h : nv (nd x) < nv (nd y)) : nd (nv (nd M) + zH - nv (nd (nv (nd y) + zH - nv (nd x)))) = nd ((x + M - y) % M) := by
  rw [Qu (by omega), Qu (by omega)] at h
  rw [Qu hM, Qu (n := y) (by omega), Qu (n := x) (by omega), nd_val, zB (a := x + M - y) (by omega), ← nd_mod, ← nd_mod (x + M - y)]
  congr 1
  simp only [zH] at *
  omega
theorem rsub_fin2 {x y M : Nat} (hx : x < M) (hy : y < M) (hM : M < zH) (h : ¬ nv (nd x) < nv (nd y)) : nd (nv (nd x) + zH - nv (nd y)) = nd ((x + M - y) % M) := by
  rw [Qu (by omega), Qu (by omega)] at *
  exact sub_fin2 hx hy hM h
theorem radd_go (w : World) (f : Int) (hf : f = 1 ∨ f = 2 ∨ f = 3 ∨ f = 4) (hL : LeftOk f) (a b : List UInt64) (ha : ze a = 4) (hb : ze b = 4) : Calls Tryd.prog 77 #[.int .i64 f, .agg (zi (zh a)), .agg (zi (zh b))] w fun e w' => e = .returned (.agg (zi (zh (nd (addM f (nv a) (nv b)))))) ∧ Ev w [] w' [] := by
 refine d_0 [(0, .int .i64 f), (1, .agg (zi (zh a))), (2, .agg (zi (zh b)))] 29 Go.Proofs.Tryd.func77 Go.Proofs.Tryd.ntmps77 (Heap.nil _) fun act0 En0 Hv0 => ?_
 refine wp_seq <| zm <| f_o <| m_m 34 (zh a) En0 Hv0 fun _ _ bk1 En4 Hv5 => ?_
 refine f_o <| m_m 34 (zh b) En4 Hv5 fun _ _ bk6 En9 Hv10 => ?_
 refine f_o <| m_z 34 (zh (zc 4 0)) En9 Hv10 fun _ _ bk11 En14 Hv15 => ?_
 refine f_e <| zg <| wp_seq <| zm <| d_k [0,4,5,6,11] [] 1 En14 fun _ En17 => ?_
 refine f_o <| c_p En17 Hv15 (JM _ f hf) fun _ _ En23 Hv24 => ?_
 refine d_e [0,4,5,6,7] [] En23 fun _ En26 => ?_
 refine zg <| wp_seq <| d_s [0,4,5,6,14] [] En26 fun _ En28 => ?_
 refine c_f En28 ?_
 refine wp_skip <| zg <| wp_seq <| zm <| f_o <| m_a 0 0 4 (zh a) En28 Hv24 rfl (zn (zb ha)) (zb ha) fun _ En30 => ?_
 refine f_o <| m_a 1 0 4 (zh b) En30 Hv24 rfl (zn (zb hb)) (zb hb) fun _ En32 => ?_
 refine f_o <| c_p En32 Hv24 (rplus_go _ a b ha hb) fun _ _ En38 Hv39 => ?_
 refine d_k [0,6,20,21] [] 6 En38 fun _ En41 => ?_
 refine f_o <| m_z 34 (zh (zc 4 0)) En41 Hv39 fun _ _ bk42 En45 Hv46 => ?_
 refine f_o <| m_g 3 0 4 (zh (nd (nv a + nv b))) _ [.box bk1 (zh a) 34, .box bk6 (zh b) 34, .box bk11 (zh (zc 4 0)) 34, .box bk42 (zh (nd (nv a + nv b))) 34] En45 Hv46 rfl (zb (zk _ _)) (by rw [(zb (zd))]; first | decide | (simp; done)) (zu _) (zo (zb (zd))) rfl fun _ _ En49 Hv50 => ?_
 refine d_e [0,6,8,9] [] En49 fun _ En52 => ?_
 refine zg <| wp_seq <| zm <| f_o <| m_a 3 0 4 (zh (nd (nv a + nv b))) En52 Hv50 rfl (zn (zb (zk _ _))) (zb (zk _ _)) fun _ En54 => ?_
 refine f_o <| c_p En54 Hv50 (JC _ (nd (nv a + nv b)) (zk _ _)) fun _ _ En60 Hv61 => ?_
 refine f_o <| m_z 100 (zh (zc 17 0)) En60 Hv61 fun _ _ bk62 En65 Hv66 => ?_
 refine f_o <| m_g 4 0 17 (zh (n32 17 (nv (nd (nv a + nv b))))) _ [.box bk1 (zh a) 34, .box bk6 (zh b) 34, .box bk11 (zh (zc 4 0)) 34, .box bk42 (zh (nd (nv a + nv b))) 34, .box bk62 (zh (n32 17 (nv (nd (nv a + nv b))))) 100] En65 Hv66 rfl (zb (Ya _ _)) (by rw [(zb (zd))]; first | decide | (simp; done)) (zu _) (zo (zb (zd))) rfl fun _ _ En69 Hv70 => ?_
 refine f_e <| zg <| wp_seq <| zm <| d_k [0,6,8,10,24,25] [] 2 En69 fun _ En72 => ?_
 refine f_o ?_
 have hb73 : 8 < ze (n32 17 (nv (nd (nv a + nv b)))) := by rw [(Ya _ _)]; omega
 refine m_t 4 8 (uv64 (u1 (zH ≤ nv a + nv b))) [.box bk1 (zh a) 34, .box bk6 (zh b) 34, .box bk11 (zh (zc 4 0)) 34, .box bk42 (zh (nd (nv a + nv b))) 34, .box bk62 (zh (zp (n32 17 (nv (nd (nv a + nv b)))) 8 (u1 (zH ≤ nv a + nv b)))) 100] En72 Hv70 rfl (zE hb73) (u64s_set _ _ _) rfl fun _ _ En76 Hv77 => ?_
 refine f_e <| zg <| wp_seq <| zm <| d_k [0,6,8,10,26] [] 1 En76 fun _ En79 => ?_
 refine f_o <| m_a 4 0 17 (zh (zp (n32 17 (nv (nd (nv a + nv b)))) 8 (u1 (zH ≤ nv a + nv b)))) En79 Hv77 rfl (zn (zb (List.length_set.trans (Ya _ _)))) (zb (List.length_set.trans (Ya _ _))) fun _ En81 => ?_
 refine f_o <| c_p En81 Hv77 (left_at hL _ (nv a + nv b) (List.length_set.trans (Ya _ _)) ((JL _ _).set (u1_dig _)) (carry8 (ZL ha) (ZL hb)) (sum_lt (ZL ha) (ZL hb))) fun _ _ En87 Hv88 => ?_
 refine f_o <| m_g 2 0 4 (zh (nd ((nv a + nv b) % mF f))) _ [.box bk1 (zh a) 34, .box bk6 (zh b) 34, .box bk11 (zh (nd ((nv a + nv b) % mF f))) 34, .box bk42 (zh (nd (nv a + nv b))) 34, .box bk62 (zh (zp (n32 17 (nv (nd (nv a + nv b)))) 8 (u1 (zH ≤ nv a + nv b)))) 100] En87 Hv88 rfl (zb (zk _ _)) (by rw [(zb (zd))]; first | decide | (simp; done)) (zu _) (zo (zb (zd))) rfl fun _ _ En91 Hv92 => ?_
 refine f_e <| zg <| wp_ret <| z5 (v := .agg (zi (zh (nd ((nv a + nv b) % mF f))))) (t := 6) (T := 34) (ad := ⟨bk11, 0, none⟩) En91 (by kernel_rfl) (by kernel_rfl) (zx (t := 34) (k := 2) (off := 0) (m := 4) (xs := zh (nd ((nv a + nv b) % mF f))) Hv92 rfl (zn (zb (zk _ _))) (zb (zk _ _)) (by kernel_rfl) (by kernel_rfl)) ?_
 exact ⟨rfl, Hv92.pk []⟩

theorem rmul_go (w : World) (f : Int) (hf : f = 1 ∨ f = 2 ∨ f = 3 ∨ f = 4) (hL : LeftOk f) (a b : List UInt64) (ha : ze a = 4) (hb : ze b = 4) : Calls Tryd.prog 61 #[.int .i64 f, .agg (zi (zh a)), .agg (zi (zh b))] w fun e w' => e = .returned (.agg (zi (zh (nd (zq f (nv a) (nv b)))))) ∧ Ev w [] w' [] := by
 refine d_0 [(0, .int .i64 f), (1, .agg (zi (zh a))), (2, .agg (zi (zh b)))] 18 Go.Proofs.Tryd.func61 Go.Proofs.Tryd.ntmps61 (Heap.nil _) fun act0 En0 Hv0 => ?_
 refine wp_seq <| zm <| f_o <| m_m 34 (zh a) En0 Hv0 fun _ _ bk1 En4 Hv5 => ?_
 refine f_o <| m_m 34 (zh b) En4 Hv5 fun _ _ bk6 En9 Hv10 => ?_
 refine f_o <| m_z 34 (zh (zc 4 0)) En9 Hv10 fun _ _ bk11 En14 Hv15 => ?_
 refine f_e <| zg <| wp_seq <| zm <| d_k [0,4,5,6,8] [] 1 En14 fun _ En17 => ?_
 refine f_o <| c_p En17 Hv15 (JM _ f hf) fun _ _ En23 Hv24 => ?_
 refine d_e [0,4,5,6,7] [] En23 fun _ En26 => ?_
 refine zg <| wp_seq <| d_s [0,4,5,6,11] [] En26 fun _ En28 => ?_
 refine c_f En28 ?_
 refine wp_skip <| zg <| wp_seq <| zm <| d_k [0,4,5,6,13] [] 1 En28 fun _ En30 => ?_
 refine f_o <| m_a 0 0 4 (zh a) En30 Hv24 rfl (zn (zb ha)) (zb ha) fun _ En32 => ?_
 refine f_o <| m_a 1 0 4 (zh b) En32 Hv24 rfl (zn (zb hb)) (zb hb) fun _ En34 => ?_
 refine f_o <| c_p En34 Hv24 (times_go _ a b ha hb) fun _ _ En40 Hv41 => ?_
 refine f_o <| c_p En40 Hv41 (left_at hL _ (nv a * nv b) (Ya _ _) (JL _ _) (dv_n32 (by first | exact prod_lt (ZL ha) (ZL hb) | exact z8 (ZL ha) (by decide) | exact z8 (ZL hb) (by decide))) (by first | exact prod_lt (ZL ha) (ZL hb) | exact z8 (ZL ha) (by decide) | exact z8 (ZL hb) (by decide))) fun _ _ En47 Hv48 => ?_
 refine f_o <| m_g 2 0 4 (zh (nd ((nv a * nv b) % mF f))) _ [.box bk1 (zh a) 34, .box bk6 (zh b) 34, .box bk11 (zh (nd ((nv a * nv b) % mF f))) 34] En47 Hv48 rfl (zb (zk _ _)) (by rw [(zb (zd))]; first | decide | (simp; done)) (zu _) (zo (zb (zd))) rfl fun _ _ En51 Hv52 => ?_
 refine f_e <| zg <| wp_ret <| z5 (v := .agg (zi (zh (nd ((nv a * nv b) % mF f))))) (t := 6) (T := 34) (ad := ⟨bk11, 0, none⟩) En51 (by kernel_rfl) (by kernel_rfl) (zx (t := 34) (k := 2) (off := 0) (m := 4) (xs := zh (nd ((nv a * nv b) % mF f))) Hv52 rfl (zn (zb (zk _ _))) (zb (zk _ _)) (by kernel_rfl) (by kernel_rfl)) ?_
 exact ⟨rfl, Hv52.pk []⟩

theorem rsub_go (w : World) (f : Int) (hf : f = 1 ∨ f = 2 ∨ f = 3 ∨ f = 4) (hL : LeftOk f) (a b : List UInt64) (ha : ze a = 4) (hb : ze b = 4) : Calls Tryd.prog 62 #[.int .i64 f, .agg (zi (zh a)), .agg (zi (zh b))] w fun e w' => e = .returned (.agg (zi (zh (nd (zJ f (nv a) (nv b)))))) ∧ Ev w [] w' [] := by
 have hla : nv a % mF f < mF f := Zw _ (z8 Qh (YA hf))
 have hlb : nv b % mF f < mF f := Zw _ (z8 Qh (YA hf))
 have hmw := mF_lt f
 refine d_0 [(0, .int .i64 f), (1, .agg (zi (zh a))), (2, .agg (zi (zh b)))] 35 Go.Proofs.Tryd.func62 Go.Proofs.Tryd.ntmps62 (Heap.nil _) fun act0 En0 Hv0 => ?_
 refine wp_seq <| zm <| f_o <| m_m 34 (zh a) En0 Hv0 fun _ _ bk1 En4 Hv5 => ?_
 refine f_o <| m_m 34 (zh b) En4 Hv5 fun _ _ bk6 En9 Hv10 => ?_
 refine f_o <| m_z 34 (zh (zc 4 0)) En9 Hv10 fun _ _ bk11 En14 Hv15 => ?_
 refine f_e <| zg <| wp_seq <| zm <| d_k [0,4,5,6,10] [] 1 En14 fun _ En17 => ?_
 refine f_o <| c_p En17 Hv15 (JM _ f hf) fun _ _ En23 Hv24 => ?_
 refine d_e [0,4,5,6,7] [] En23 fun _ En26 => ?_
 refine zg <| wp_seq <| d_s [0,4,5,6,13] [] En26 fun _ En28 => ?_
 refine c_f En28 ?_
 refine wp_skip <| zg <| wp_seq <| zm <| d_k [0,4,5,6,15] [] 1 En28 fun _ En30 => ?_
 refine f_o <| m_a 0 0 4 (zh a) En30 Hv24 rfl (zn (zb ha)) (zb ha) fun _ En32 => ?_
 refine f_o <| c_p En32 Hv24 (JC _ a ha) fun _ _ En38 Hv39 => ?_
 refine f_o <| c_p En38 Hv39 (left_at hL _ (nv a) (Ya _ _) (JL _ _) (dv_n32 (by first | exact prod_lt (ZL ha) (ZL hb) | exact z8 (ZL ha) (by decide) | exact z8 (ZL hb) (by decide))) (by first | exact prod_lt (ZL ha) (ZL hb) | exact z8 (ZL ha) (by decide) | exact z8 (ZL hb) (by decide))) fun _ _ En45 Hv46 => ?_
 refine f_o <| m_z 34 (zh (zc 4 0)) En45 Hv46 fun _ _ bk47 En50 Hv51 => ?_
 refine f_o <| m_g 3 0 4 (zh (nd ((nv a) % mF f))) _ [.box bk1 (zh a) 34, .box bk6 (zh b) 34, .box bk11 (zh (zc 4 0)) 34, .box bk47 (zh (nd ((nv a) % mF f))) 34] En50 Hv51 rfl (zb (zk _ _)) (by rw [(zb (zd))]; first | decide | (simp; done)) (zu _) (zo (zb (zd))) rfl fun _ _ En54 Hv55 => ?_
 refine f_e <| zg <| wp_seq <| zm <| d_k [0,5,6,8,19] [] 1 En54 fun _ En57 => ?_
 refine f_o <| m_a 1 0 4 (zh b) En57 Hv55 rfl (zn (zb hb)) (zb hb) fun _ En59 => ?_
 refine f_o <| c_p En59 Hv55 (JC _ b hb) fun _ _ En65 Hv66 => ?_
 refine f_o <| c_p En65 Hv66 (left_at hL _ (nv b) (Ya _ _) (JL _ _) (dv_n32 (by first | exact prod_lt (ZL ha) (ZL hb) | exact z8 (ZL ha) (by decide) | exact z8 (ZL hb) (by decide))) (by first | exact prod_lt (ZL ha) (ZL hb) | exact z8 (ZL ha) (by decide) | exact z8 (ZL hb) (by decide))) fun _ _ En72 Hv73 => ?_
 refine f_o <| m_z 34 (zh (zc 4 0)) En72 Hv73 fun _ _ bk74 En77 Hv78 => ?_
 refine f_o <| m_g 4 0 4 (zh (nd ((nv b) % mF f))) _ [.box bk1 (zh a) 34, .box bk6 (zh b) 34, .box bk11 (zh (zc 4 0)) 34, .box bk47 (zh (nd ((nv a) % mF f))) 34, .box bk74 (zh (nd ((nv b) % mF f))) 34] En77 Hv78 rfl (zb (zk _ _)) (by rw [(zb (zd))]; first | decide | (simp; done)) (zu _) (zo (zb (zd))) rfl fun _ _ En81 Hv82 => ?_
 refine f_e <| zg <| wp_seq <| wp_seq <| zm <| f_o <| m_a 3 0 4 (zh (nd ((nv a) % mF f))) En81 Hv82 rfl (zn (zb (zk _ _))) (zb (zk _ _)) fun _ En84 => ?_
 refine f_o <| m_a 4 0 4 (zh (nd ((nv b) % mF f))) En84 Hv82 rfl (zn (zb (zk _ _))) (zb (zk _ _)) fun _ En86 => ?_
 refine f_o <| c_p En86 Hv82 (rless_go _ (nd ((nv a) % mF f)) (nd ((nv b) % mF f)) (zk _ _) (zk _ _)) fun _ _ En92 Hv93 => ?_
 refine f_e <| zg <| c_d (nv (nd ((nv a) % mF f)) < nv (nd ((nv b) % mF f))) En92 (fun hc94 => ?_) (fun hc94 => ?_)
 ·
  refine wp_seq <| r_c (fun ac wo => Env ac 35 [(0, .int .i64 f), (6, pt bk11), (8, pt bk47), (9, pt bk74)] ∧ Ev w [] wo [.box bk11 (zh (nd (nv (nd (mF f)) + zH - nv (nd (nv (nd ((nv b) % mF f)) + zH - nv (nd ((nv a) % mF f))))))) 34, .box bk47 (zh (nd ((nv a) % mF f))) 34, .box bk74 (zh (nd ((nv b) % mF f))) 34]) ?_ ?_
  ·
   refine h_s (fun wv => Ev w [] wv [.box bk47 (zh (nd ((nv a) % mF f))) 34, .box bk74 (zh (nd ((nv b) % mF f))) 34]) [] 7 ?_
   have wo95 := Hv93.trans (zQ Hv93.heap)
   refine q_s [0] [] 6 En92 (wo95.pk [3, 4]) fun _ En228 => ?_
   refine q_r 2 (s := Instr.loadAt 34 (pt bk74)) (v := .agg (zi (zh (nd ((nv b) % mF f))))) En228 (fun w hS => zP (m := 4) (cs := zh (nd ((nv b) % mF f))) (zb (zk _ _)) (by kernel_rfl) (by kernel_rfl) (hS.heap.cells (k := 1) (off := 0) (m := 4) rfl (zn (zb (zk _ _))))) (wo95.pk [3, 4]) fun _ En230 => ?_
   refine q_r 3 (s := Instr.loadAt 34 (pt bk47)) (v := .agg (zi (zh (nd ((nv a) % mF f))))) En230 (fun w hS => zP (m := 4) (cs := zh (nd ((nv a) % mF f))) (zb (zk _ _)) (by kernel_rfl) (by kernel_rfl) (hS.heap.cells (k := 0) (off := 0) (m := 4) rfl (zn (zb (zk _ _))))) (wo95.pk [3, 4]) fun _ En232 => ?_
   refine q_t 1 ?_
   refine c_p En232 wo95 (rmodulus_go _ f) fun _ _ En238 Hv239 => ?_
   refine ⟨fun _ => Hv239.pk [3, 4], ?_⟩
   refine q_t 4 ?_
   refine c_p En238 Hv239 (Jc _ (nd ((nv b) % mF f)) (nd ((nv a) % mF f)) (zk _ _) (zk _ _)) fun _ _ En245 Hv246 => ?_
   refine ⟨fun _ => Hv246.pk [3, 4], ?_⟩
   refine q_t 5 ?_
   refine c_p En245 Hv246 (Jc _ (nd (mF f)) (nd (nv (nd ((nv b) % mF f)) + zH - nv (nd ((nv a) % mF f)))) (zk _ _) (zk _ _)) fun _ _ En252 Hv253 => ?_
   refine ⟨fun _ => Hv253.pk [3, 4], ?_⟩
   refine q_t 6 ?_
   refine m_g 2 0 4 (zh (nd (nv (nd (mF f)) + zH - nv (nd (nv (nd ((nv b) % mF f)) + zH - nv (nd ((nv a) % mF f))))))) _ [.box bk1 (zh a) 34, .box bk6 (zh b) 34, .box bk11 (zh (nd (nv (nd (mF f)) + zH - nv (nd (nv (nd ((nv b) % mF f)) + zH - nv (nd ((nv a) % mF f))))))) 34, .box bk47 (zh (nd ((nv a) % mF f))) 34, .box bk74 (zh (nd ((nv b) % mF f))) 34] En252 Hv253 rfl (zb (zk _ _)) (by rw [(zb (zd))]; first | decide | (simp; done)) (zu _) (zo (zb (zd))) rfl fun _ _ En256 Hv257 => ?_
   refine ⟨fun _ => Hv257.pk [3, 4], ?_⟩
   exact h_e ⟨En256.sb, Hv257.pk [2, 3, 4]⟩
  rintro _ _ ⟨En260, Hv261⟩
  refine zg <| wp_ret <| then_ret <| z5 (v := .agg (zi (zh (nd (nv (nd (mF f)) + zH - nv (nd (nv (nd ((nv b) % mF f)) + zH - nv (nd ((nv a) % mF f))))))))) (t := 6) (T := 34) (ad := ⟨bk11, 0, none⟩) En260 (by kernel_rfl) (by kernel_rfl) (zx (t := 34) (k := 0) (off := 0) (m := 4) (xs := zh (nd (nv (nd (mF f)) + zH - nv (nd (nv (nd ((nv b) % mF f)) + zH - nv (nd ((nv a) % mF f))))))) Hv261 rfl (zn (zb (zk _ _))) (zb (zk _ _)) (by kernel_rfl) (by kernel_rfl)) ?_
  have e : nd (nv (nd (mF f)) + zH - nv (nd (nv (nd ((nv b) % mF f)) + zH - nv (nd ((nv a) % mF f))))) = nd (zJ f (nv a) (nv b)) := rsub_fin1 hla hlb hmw (by assumption)
  exact ⟨by rw [e], Hv261.pk []⟩
 refine wp_skip <| zg <| wp_seq <| zm <| f_o <| m_a 3 0 4 (zh (nd ((nv a) % mF f))) En92 Hv93 rfl (zn (zb (zk _ _))) (zb (zk _ _)) fun _ En263 => ?_
 refine f_o <| m_a 4 0 4 (zh (nd ((nv b) % mF f))) En263 Hv93 rfl (zn (zb (zk _ _))) (zb (zk _ _)) fun _ En265 => ?_
 refine f_o <| c_p En265 Hv93 (Jc _ (nd ((nv a) % mF f)) (nd ((nv b) % mF f)) (zk _ _) (zk _ _)) fun _ _ En271 Hv272 => ?_
 refine f_o <| m_g 2 0 4 (zh (nd (nv (nd ((nv a) % mF f)) + zH - nv (nd ((nv b) % mF f))))) _ [.box bk1 (zh a) 34, .box bk6 (zh b) 34, .box bk11 (zh (nd (nv (nd ((nv a) % mF f)) + zH - nv (nd ((nv b) % mF f))))) 34, .box bk47 (zh (nd ((nv a) % mF f))) 34, .box bk74 (zh (nd ((nv b) % mF f))) 34] En271 Hv272 rfl (zb (zk _ _)) (by rw [(zb (zd))]; first | decide | (simp; done)) (zu _) (zo (zb (zd))) rfl fun _ _ En275 Hv276 => ?_
 refine f_e <| zg <| wp_ret <| z5 (v := .agg (zi (zh (nd (nv (nd ((nv a) % mF f)) + zH - nv (nd ((nv b) % mF f))))))) (t := 6) (T := 34) (ad := ⟨bk11, 0, none⟩) En275 (by kernel_rfl) (by kernel_rfl) (zx (t := 34) (k := 2) (off := 0) (m := 4) (xs := zh (nd (nv (nd ((nv a) % mF f)) + zH - nv (nd ((nv b) % mF f))))) Hv276 rfl (zn (zb (zk _ _))) (zb (zk _ _)) (by kernel_rfl) (by kernel_rfl)) ?_
 have e : nd (nv (nd ((nv a) % mF f)) + zH - nv (nd ((nv b) % mF f))) = nd (zJ f (nv a) (nv b)) := rsub_fin2 hla hlb hmw (by assumption)
 exact ⟨by rw [e], Hv276.pk []⟩

theorem rneg_go (w : World) (f : Int) (hf : (f = 1 ∨ f = 2 ∨ f = 3 ∨ f = 4)) (hL : LeftOk f) (a : List UInt64) (ha : ze a = 4) : Calls Tryd.prog 81 #[.int .i64 f, .agg (zi (zh a))] w fun e w' => e = .returned (.agg (zi (zh (nd (zJ f 0 (nv a)))))) ∧ Ev w [] w' [] := by
 refine d_0 [(0, .int .i64 f), (1, .agg (zi (zh a)))] 9 Go.Proofs.Tryd.func81 Go.Proofs.Tryd.ntmps81 (Heap.nil _) fun act0 En0 Hv0 => ?_
 refine wp_seq <| zm <| f_o <| m_m 34 (zh a) En0 Hv0 fun _ _ bk1 En4 Hv5 => ?_
 refine f_o <| m_z 34 (zh (zc 4 0)) En4 Hv5 fun _ _ bk6 En9 Hv10 => ?_
 refine f_e <| zg <| wp_seq <| zm <| d_k [3,4,5,6] [] 2 En9 fun _ En12 => ?_
 refine f_o <| m_a 0 0 4 (zh a) En12 Hv10 rfl (zn (zb ha)) (zb ha) fun _ En14 => ?_
 refine f_o <| c_p En14 Hv10 (rsub_go _ f hf hL ([0, 0, 0, 0] : List UInt64) a (show ze ([0, 0, 0, 0] : List UInt64) = 4 from rfl) ha) fun _ _ En20 Hv21 => ?_
 refine f_o <| m_g 1 0 4 (zh (nd (zJ f (nv ([0, 0, 0, 0] : List UInt64)) (nv a)))) _ [.box bk1 (zh a) 34, .box bk6 (zh (nd (zJ f (nv ([0, 0, 0, 0] : List UInt64)) (nv a)))) 34] En20 Hv21 rfl (zb (zk _ _)) (by rw [(zb (zd))]; first | decide | (simp; done)) (zu _) (zo (zb (zd))) rfl fun _ _ En24 Hv25 => ?_
 refine f_e <| zg <| wp_ret <| z5 (v := .agg (zi (zh (nd (zJ f (nv ([0, 0, 0, 0] : List UInt64)) (nv a)))))) (t := 4) (T := 34) (ad := ⟨bk6, 0, none⟩) En24 (by kernel_rfl) (by kernel_rfl) (zx (t := 34) (k := 1) (off := 0) (m := 4) (xs := zh (nd (zJ f (nv ([0, 0, 0, 0] : List UInt64)) (nv a)))) Hv25 rfl (zn (zb (zk _ _))) (zb (zk _ _)) (by kernel_rfl) (by kernel_rfl)) ?_
 exact ⟨rfl, Hv25.pk []⟩

end Go.Proofs.YtlnogkmnklfjlaaDoor

/- Layer 4: powers. -/

namespace Go.Proofs.YtlnogkmnklfjlaaDoor
open Go.Dbr
set_option maxRecDepth 100000
set_option maxHeartbeats 2000000
set_option linter.unusedVariables false
set_option linter.unusedSimpArgs false

/-- a power -/
def powM (f : Int) (x n : Nat) : Nat := x ^ n % mF f
theorem powM_lt {f : Int} (hf : f = 1 ∨ f = 2 ∨ f = 3 ∨ f = 4) (x n : Nat) : powM f x n < zH := mod_lt_w hf
theorem powM_zero {f : Int} (hf : f = 1 ∨ f = 2 ∨ f = 3 ∨ f = 4) (x : Nat) : powM f x 0 = 1 := by rw [powM, ZK, zB (YA hf)]
theorem powM_add (f : Int) (x m n : Nat) : zq f (powM f x m) (powM f x n) = powM f x (m + n) := by rw [zq, powM, powM, ← Nat.mul_mod, ← Zy, powM]
theorem powM_succ (f : Int) (x n : Nat) : zq f (powM f x n) x = powM f x (n + 1) := by rw [zq, powM, Nat.mod_mul_mod, ← z6, powM]
theorem nv_pow {f : Int} (hf : f = 1 ∨ f = 2 ∨ f = 3 ∨ f = 4) (x n : Nat) : nv (nd (powM f x n)) = powM f x n := Qu (powM_lt hf x n)
/-- products are told -/
def MulOk (f : Int) : Prop := ∀ (w : World) (a b : List UInt64), ze a = 4 → ze b = 4 → Calls Tryd.prog 30 #[.int .i64 f, .agg (zi (zh a)), .agg (zi (zh b))] w fun e w' => e = .returned (.agg (zi (zh (nd (zq f (nv a) (nv b)))))) ∧ Ev w [] w' []
def RMulOk (f : Int) : Prop := ∀ (w : World) (a b : List UInt64), ze a = 4 → ze b = 4 → Calls Tryd.prog 61 #[.int .i64 f, .agg (zi (zh a)), .agg (zi (zh b))] w fun e w' => e = .returned (.agg (zi (zh (nd (zq f (nv a) (nv b)))))) ∧ Ev w [] w' []
theorem rmulOk {f : Int} (hf : f = 1 ∨ f = 2 ∨ f = 3 ∨ f = 4) (hL : LeftOk f) : RMulOk f := fun w a b ha hb => rmul_go w f hf hL a b ha hb
theorem bits_at {e : List UInt64} {j s t : Nat} (h : s + t ≤ 64) (h0 : s < 64) : (zf e j 0 >>> za s).toNat % 2 ^ t = nv e / 2 ^ (64 * j + s) % 2 ^ t := by
  have hs : (za s).toNat % 64 = s := by rw [ofNat_val]; omega
  have hp : (2 : Nat) ^ (64 * j + s) = 18446744073709551616 ^ j * 2 ^ s := by rw [Zy, Z6]
  rw [Z3, hs, dv_dig, ZF, hp, ← Zt]
  show _ = dv _ _ / _ / _ % _
  generalize dv 18446744073709551616 e / 18446744073709551616 ^ j = d
  have hB : 18446744073709551616 = 2 ^ s * 2 ^ (64 - s) := by rw [← Zy, show s + (64 - s) = 64 by omega]
  conv => lhs; rw [hB]
  rw [Nat.mod_mul_right_div_self, Nat.mod_mod_of_dvd]
  exact ⟨2 ^ (64 - s - t), by rw [← Zy]; congr 1; omega⟩
theorem bit_at (e : List UInt64) (i : Nat) : (zf e (i / 64) 0 >>> za (i % 64) &&& 1).toNat = nv e / 2 ^ i % 2 := by
  have h := bits_at (e := e) (j := i / 64) (s := i % 64) (t := 1) (by omega) (by omega)
  rw [show 64 * (i / 64) + i % 64 = i by omega] at h
  rw [QW, show (1 : UInt64).toNat = 1 from rfl, Nat.and_one_is_mod]
  exact h
theorem nib_at (e : List UInt64) (i : Nat) : (zf e (i / 16) 0 >>> za (4 * (i % 16)) &&& 15).toNat = nv e / 16 ^ i % 16 := by
  have h := bits_at (e := e) (j := i / 16) (s := 4 * (i % 16)) (t := 4) (by omega) (by omega)
  rw [show 64 * (i / 16) + 4 * (i % 16) = 4 * i by omega, Z6] at h
  rw [QW, show (15 : UInt64).toNat = 2 ^ 4 - 1 from rfl, Nat.and_two_pow_sub_one_eq_mod]
  exact h
theorem half_step (n : Nat) {i : Nat} (h : 1 ≤ i) : n / 2 ^ (i - 1) = 2 * (n / 2 ^ i) + n / 2 ^ (i - 1) % 2 := by
  have e : 2 ^ i = 2 ^ (i - 1) * 2 := by rw [← z6]; congr 1; omega
  rw [e, ← Zt]
  omega
theorem nib_step (n : Nat) {i : Nat} (h : 1 ≤ i) : n / 16 ^ (i - 1) = 2 ^ 4 * (n / 16 ^ i) + n / 16 ^ (i - 1) % 16 := by
  have e : 16 ^ i = 16 ^ (i - 1) * 16 := by rw [← z6]; congr 1; omega
  rw [e, ← Zt]
  omega
theorem bit_no {f : Int} (hf : f = 1 ∨ f = 2 ∨ f = 3 ∨ f = 4) {A E q : Nat} {b : UInt64} (hq : 1 ≤ q) (hb : b.toNat = E / 2 ^ (q - 1) % 2) (hc : ¬ ((b.toNat : Nat) : Int) = (1 : Int)) : nd (zq f (nv (nd (powM f A (E / 2 ^ q)))) (nv (nd (powM f A (E / 2 ^ q))))) = nd (powM f A (E / 2 ^ (q - 1))) := by
  rw [nv_pow hf, powM_add, half_step E hq]
  congr 2
  omega
theorem bit_yes {f : Int} (hf : f = 1 ∨ f = 2 ∨ f = 3 ∨ f = 4) {a : List UInt64} {E q : Nat} {b : UInt64} (hq : 1 ≤ q) (hb : b.toNat = E / 2 ^ (q - 1) % 2) (hc : ((b.toNat : Nat) : Int) = (1 : Int)) : nd (zq f (nv (nd (zq f (nv (nd (powM f (nv a) (E / 2 ^ q)))) (nv (nd (powM f (nv a) (E / 2 ^ q))))))) (nv a)) = nd (powM f (nv a) (E / 2 ^ (q - 1))) := by
  rw [nv_pow hf, powM_add, nv_pow hf, powM_succ, half_step E hq]
  congr 2
  omega
theorem nib_no {f : Int} {A E q : Nat} {b : UInt64} (hq : 1 ≤ q) (hb : b.toNat = E / 16 ^ (q - 1) % 16) (hc : ((b.toNat : Nat) : Int) = (0 : Int)) : nd (powM f A (2 ^ 4 * (E / 16 ^ q))) = nd (powM f A (E / 16 ^ (q - 1))) := by
  rw [nib_step E hq]
  congr 2
  omega
theorem nib_yes {f : Int} (hf : f = 1 ∨ f = 2 ∨ f = 3 ∨ f = 4) {A E q : Nat} {b : UInt64} (hq : 1 ≤ q) (hb : b.toNat = E / 16 ^ (q - 1) % 16) {L : List UInt64} (hT : ∀ j, j < 16 → zr 4 (zs (j * 4) L) = nd (powM f A j)) : nd (zq f (nv (nd (powM f A (2 ^ 4 * (E / 16 ^ q))))) (nv (zr 4 (zs (b.toNat * 4) L)))) = nd (powM f A (E / 16 ^ (q - 1))) := by
  rw [hT _ (by omega), nv_pow hf, nv_pow hf, powM_add, nib_step E hq]
  congr 2
  omega
theorem sq_step {f : Int} (hf : f = 1 ∨ f = 2 ∨ f = 3 ∨ f = 4) {A N k : Nat} : nd (zq f (nv (nd (powM f A (2 ^ k * N)))) (nv (nd (powM f A (2 ^ k * N))))) = nd (powM f A (2 ^ (k + 1) * N)) := by
  rw [nv_pow hf, powM_add, z6]
  congr 2
  rw [Nat.mul_right_comm]
  omega
/-! parts of an array -/
theorem u64s_sub (m o : Nat) (l : List UInt64) : ((zh l).drop o).take m = zh (zr m (zs o l)) := by simp [zh, Yl, Jx]
theorem u64s_put (m o : Nat) (l x : List UInt64) : (zh l).take o ++ zh x ++ (zh l).drop (o + m) = zh (zr o l ++ x ++ zs (o + m) l) := by simp [zh, Yl, Jx]
theorem sub_len {α : Type} {l : List α} {n m o : Nat} (h : l.length = n) (h2 : o + m ≤ n) : (zr m (zs o l)).length = m := by rw [zI, zS]; omega
theorem put_len {α : Type} {l x : List α} {n m o : Nat} (h : l.length = n) (hx : x.length = m) (h2 : o + m ≤ n) : (zr o l ++ x ++ zs (o + m) l).length = n := by rw [z4, z4, zI, zS]; omega
theorem tab_new {α : Type} {l x : List α} {i : Nat} (hx : x.length = 4) (h : i * 4 + 4 ≤ l.length) : zr 4 (zs (i * 4) (zr (i * 4) l ++ x ++ zs (i * 4 + 4) l)) = x := by
  rw [Qb, List.drop_left' (by rw [zI]; omega), List.take_left' hx]
theorem tab_old {α : Type} {l x : List α} {i j : Nat} (hj : j < i) (h : i * 4 + 4 ≤ l.length) : zr 4 (zs (j * 4) (zr (i * 4) l ++ x ++ zs (i * 4 + 4) l)) = zr 4 (zs (j * 4) l) := by
  rw [Qb, List.drop_append_of_le_length (by rw [zI]; omega), List.take_append_of_le_length (by rw [zS, zI]; omega), List.drop_take, List.take_take, Nat.min_eq_left (by omega)]
theorem tab_first {f : Int} (hf : f = 1 ∨ f = 2 ∨ f = 3 ∨ f = 4) {A : Nat} {x : List UInt64} (hx : x = [1, 0, 0, 0]) : ∀ j, j < 1 → zr 4 (zs (j * 4) (zr 0 (zc 64 (0 : UInt64)) ++ x ++ zs (0 + 4) (zc 64 (0 : UInt64)))) = nd (powM f A j) := by
  intro j hj
  have e : j = 0 := by omega
  subst e
  rw [powM_zero hf, hx]
  decide
theorem tab_step {f : Int} (hf : f = 1 ∨ f = 2 ∨ f = 3 ∨ f = 4) {a L : List UInt64} {i : Nat} (h1 : 1 ≤ i) (hL : L.length = 64) (hi : i < 16) (hT : ∀ j, j < i → zr 4 (zs (j * 4) L) = nd (powM f (nv a) j)) : ∀ j, j < i + 1 → zr 4 (zs (j * 4) (zr (i * 4) L ++ nd (zq f (nv (zr 4 (zs ((i - 1) * 4) L))) (nv a)) ++ zs (i * 4 + 4) L)) = nd (powM f (nv a) j) := by
  intro j hj
  by_cases e : j = i
  · subst e
    rw [tab_new (zk _ _) (by omega), hT (j - 1) (by omega), nv_pow hf, powM_succ]
    congr 2
    omega
  · rw [tab_old (by omega) (by omega), hT j (by omega)]
theorem div_top {e : List UInt64} (he : e.length = 4) : nv e / 2 ^ 256 = 0 := JD (ZL he)
theorem div_top4 {e : List UInt64} (he : e.length = 4) : nv e / 16 ^ 64 = 0 := by rw [show (16 : Nat) ^ 64 = 2 ^ 256 by decide]; exact div_top he
theorem inv_e {f : Int} (hf : f = 1 ∨ f = 2 ∨ f = 3 ∨ f = 4) : nv (nd (nv (nd (mF f)) + zH - nv [2, 0, 0, 0])) = mF f - 2 := by
  have h1 := YA hf
  have h2 := mF_lt f
  rw [nv_mF, nd_val, show nv [2, 0, 0, 0] = 2 from rfl]
  simp only [zH] at *
  omega

theorem rexp_go (w : World) (f : Int) (hf : f = 1 ∨ f = 2 ∨ f = 3 ∨ f = 4) (hR : RMulOk f) (a g : List UInt64) (ha : ze a = 4) (hg : ze g = 4) : Calls Tryd.prog 78 #[.int .i64 f, .agg (zi (zh a)), .agg (zi (zh g))] w fun e w' => e = .returned (.agg (zi (zh (nd (powM f (nv a) (nv g)))))) ∧ Ev w [] w' [] := by
 refine d_0 [(0, .int .i64 f), (1, .agg (zi (zh a))), (2, .agg (zi (zh g)))] 38 Go.Proofs.Tryd.func78 Go.Proofs.Tryd.ntmps78 (Heap.nil _) fun act0 En0 Hv0 => ?_
 refine wp_seq <| zm <| f_o <| m_m 34 (zh a) En0 Hv0 fun _ _ bk1 En4 Hv5 => ?_
 refine f_o <| m_m 34 (zh g) En4 Hv5 fun _ _ bk6 En9 Hv10 => ?_
 refine f_o <| m_z 34 (zh (zc 4 0)) En9 Hv10 fun _ _ bk11 En14 Hv15 => ?_
 refine f_e <| zg <| wp_seq <| zm <| d_k [0,4,5,6,10] [] 1 En14 fun _ En17 => ?_
 refine f_o <| c_p En17 Hv15 (JM _ f hf) fun _ _ En23 Hv24 => ?_
 refine d_e [0,4,5,6,7] [] En23 fun _ En26 => ?_
 refine zg <| wp_seq <| wp_seq <| d_r [0,4,5,6,13] [] En26 fun _ En28 => ?_
 refine zg <| c_f En28 ?_
 refine wp_skip <| zg <| wp_seq <| zm <| d_k [0,4,5,6,15] [] 1 En28 fun _ En30 => ?_
 refine f_o <| m_z 34 (zh (zc 4 0)) En30 Hv24 fun _ _ bk31 En34 Hv35 => ?_
 refine f_o <| m_g 3 0 4 (zh ([1, 0, 0, 0] : List UInt64)) _ [.box bk1 (zh a) 34, .box bk6 (zh g) 34, .box bk11 (zh (zc 4 0)) 34, .box bk31 (zh ([1, 0, 0, 0] : List UInt64)) 34] En34 Hv35 rfl (zb (show ze ([1, 0, 0, 0] : List UInt64) = 4 from rfl)) (by rw [(zb (zd))]; first | decide | (simp; done)) (zu _) (zo (zb (zd))) rfl fun _ _ En38 Hv39 => ?_
 refine f_e <| zg <| wp_seq <| wp_seq <| d_r [0,4,5,6,8,9] [] En38 fun _ En41 => ?_
 refine zg <| wp_block <| Qa (fun ms42 ac wo => ∃ (q : Nat) (x : List UInt64), ms42 = (q + 1 : Nat) ∧ Env ac 38 [(0, .int .i64 f), (4, pt bk1), (5, pt bk6), (6, pt bk11), (8, pt bk31), (9, .int .i64 (((q : Nat) : Int) - (1 : Int)))] ∧ Ev w [] wo [.box bk31 (zh x) 34, .box bk1 (zh a) 34, .box bk6 (zh g) 34, .box bk11 (zh (zc 4 0)) 34] ∧ (q ≤ 256) ∧ (ze x = 4) ∧ (x = nd (powM f (nv a) (nv g / 2 ^ q)))) ⟨_, 256, ([1, 0, 0, 0] : List UInt64), rfl, En41.sb, Hv39.pk [3, 0, 1, 2], by omega, by rfl, by rw [div_top hg, powM_zero hf]; decide⟩ ?_
 rintro mm48 _ _ ⟨q, x, rfl, En46, Hv47, hq, hx, hxe⟩
 refine wp_seq <| wp_seq <| d_r [0,4,5,6,8,9,17] [] En46 fun _ En50 => ?_
 refine zg <| c_d (((q : Nat) : Int) - (1 : Int) ≥ (0 : Int)) En50 (fun hc51 => ?_) (fun hc51 => ?_)
 ·
  refine wp_skip <| zg <| wp_seq <| wp_block <| wp_seq ?_
  have En52 := Env.fx (t := 9) (v := .int .i64 (((q : Nat) : Int) - (1 : Int))) (u := ni (q - 1)) En50 (congrArg (Value.int .i64) (show ((q : Nat) : Int) - (1 : Int) = ((q - 1 : Nat) : Int) by omega))
  have hbv := bit_at g (q - 1)
  rw [hxe] at Hv47
  refine zm <| d_k [0,4,5,6,8,9,20] [] 1 En52 fun _ En54 => ?_
  refine f_o <| m_a 0 0 4 (zh (nd (powM f (nv a) (nv g / 2 ^ q)))) En54 Hv47 rfl (zn (zb (zk _ _))) (zb (zk _ _)) fun _ En56 => ?_
  refine f_o <| m_a 0 0 4 (zh (nd (powM f (nv a) (nv g / 2 ^ q)))) En56 Hv47 rfl (zn (zb (zk _ _))) (zb (zk _ _)) fun _ En58 => ?_
  refine f_o <| c_p En58 Hv47 (hR _ (nd (powM f (nv a) (nv g / 2 ^ q))) (nd (powM f (nv a) (nv g / 2 ^ q))) (zk _ _) (zk _ _)) fun _ _ En64 Hv65 => ?_
  refine f_o <| m_g 0 0 4 (zh (nd (zq f (nv (nd (powM f (nv a) (nv g / 2 ^ q)))) (nv (nd (powM f (nv a) (nv g / 2 ^ q))))))) _ [.box bk31 (zh (nd (zq f (nv (nd (powM f (nv a) (nv g / 2 ^ q)))) (nv (nd (powM f (nv a) (nv g / 2 ^ q))))))) 34, .box bk1 (zh a) 34, .box bk6 (zh g) 34, .box bk11 (zh (zc 4 0)) 34] En64 Hv65 rfl (zb (zk _ _)) (by rw [(zb (zk _ _))]; first | decide | (simp; done)) (zu _) (zo (zb (zk _ _))) rfl fun _ _ En68 Hv69 => ?_
  refine f_e <| zg <| wp_seq <| zm <| d_k [0,4,5,6,8,9,25] [(1, g_i .i64 (show IntKind.wrap .i64 (Int.tdiv ((q - 1 : Nat) : Int) (64 : Int)) = (((q - 1) / 64 : Nat) : Int) from Go.Dbr.i64_quo_nat (a := ((q - 1 : Nat) : Int)) (n := q - 1) (m := 64) rfl (by omega)))] 2 En68 fun _ En71 => ?_
  refine f_o <| q_v (x := Instr.indexAt 34 (pt bk6) (ni ((q - 1) / 64))) (v := .pointer (some ⟨bk6, (q - 1) / 64, none⟩)) En71 (Go.Dbr.run_indexarr (e := 32) (sz := 1) (m := 4) (j := (q - 1) / 64) (o := (q - 1) / 64) (by kernel_rfl) (by kernel_rfl) (by omega) (by omega) (by omega) _) fun _ En73 => ?_
  refine f_o ?_
  have hb74 : (q - 1) / 64 < ze g := by rw [hg]; omega
  refine m_v 2 ((q - 1) / 64) (uv64 (zf g ((q - 1) / 64) 0)) En73 Hv69 rfl (zE hb74) fun _ En76 => ?_
  refine d_k [0,4,5,6,8,9,27,29] [(5, g_i .i64 (show Int.tmod ((q - 1 : Nat) : Int) (64 : Int) = (((q - 1) % 64 : Nat) : Int) from Go.Dbr.i64_rem_nat (a := ((q - 1 : Nat) : Int)) (n := q - 1) (m := 64) rfl (by omega)))] 6 En76 fun _ En78 => ?_
  refine f_o <| q_v En78 (Go.Dbr.run_shr_u64 (zf g ((q - 1) / 64) 0) .i64 ((q - 1) % 64) (by omega) _) fun _ En80 => ?_
  refine d_e [0,4,5,6,8,9,32] [(7, g_i .u64 (Go.Dbr.u64_and (x := (zf g ((q - 1) / 64) 0) >>> za ((q - 1) % 64)) (y := (1 : UInt64)) rfl rfl))] En80 fun _ En82 => ?_
  refine zg <| c_e ((zt (((zf g ((q - 1) / 64) 0) >>> za ((q - 1) % 64)) &&& (1 : UInt64)) : Nat) : Int) (1 : Int) En82 (fun hc83 => ?_) (fun hc83 => ?_)
  ·
   refine zm <| d_k [0,4,5,6,8,9,33] [] 1 En82 fun _ En85 => ?_
   refine f_o <| m_a 0 0 4 (zh (nd (zq f (nv (nd (powM f (nv a) (nv g / 2 ^ q)))) (nv (nd (powM f (nv a) (nv g / 2 ^ q))))))) En85 Hv69 rfl (zn (zb (zk _ _))) (zb (zk _ _)) fun _ En87 => ?_
   refine f_o <| m_a 1 0 4 (zh a) En87 Hv69 rfl (zn (zb ha)) (zb ha) fun _ En89 => ?_
   refine f_o <| c_p En89 Hv69 (hR _ (nd (zq f (nv (nd (powM f (nv a) (nv g / 2 ^ q)))) (nv (nd (powM f (nv a) (nv g / 2 ^ q)))))) a (zk _ _) ha) fun _ _ En95 Hv96 => ?_
   refine f_o <| m_g 0 0 4 (zh (nd (zq f (nv (nd (zq f (nv (nd (powM f (nv a) (nv g / 2 ^ q)))) (nv (nd (powM f (nv a) (nv g / 2 ^ q))))))) (nv a)))) _ [.box bk31 (zh (nd (zq f (nv (nd (zq f (nv (nd (powM f (nv a) (nv g / 2 ^ q)))) (nv (nd (powM f (nv a) (nv g / 2 ^ q))))))) (nv a)))) 34, .box bk1 (zh a) 34, .box bk6 (zh g) 34, .box bk11 (zh (zc 4 0)) 34] En95 Hv96 rfl (zb (zk _ _)) (by rw [(zb (zk _ _))]; first | decide | (simp; done)) (zu _) (zo (zb (zk _ _))) rfl fun _ _ En99 Hv100 => ?_
   refine f_e <| zv <| zg <| d_r [0,4,5,6,8,9] [(1, g_n (w_r (e := ((q - 1 : Nat) : Int) - (1 : Int)) (x := ((q - 1 : Nat) : Int) - (1 : Int)) (by omega)))] En99 fun _ En102 => ?_
   refine zg <| ⟨_, ⟨q - 1, (nd (zq f (nv (nd (zq f (nv (nd (powM f (nv a) (nv g / 2 ^ q)))) (nv (nd (powM f (nv a) (nv g / 2 ^ q))))))) (nv a))), rfl, En102.sb, Hv100.pk [0, 1, 2, 3], by omega, (zk _ _), bit_yes hf (by omega) hbv (by assumption)⟩, ?_⟩
   omega
  refine wp_skip <| zv <| zg <| d_r [0,4,5,6,8,9] [(1, g_n (w_r (e := ((q - 1 : Nat) : Int) - (1 : Int)) (x := ((q - 1 : Nat) : Int) - (1 : Int)) (by omega)))] En82 fun _ En104 => ?_
  refine zg <| ⟨_, ⟨q - 1, (nd (zq f (nv (nd (powM f (nv a) (nv g / 2 ^ q)))) (nv (nd (powM f (nv a) (nv g / 2 ^ q)))))), rfl, En104.sb, Hv69.pk [0, 1, 2, 3], by omega, (zk _ _), bit_no hf (by omega) hbv (by assumption)⟩, ?_⟩
  omega
 refine wp_exit <| zy <| zy <| zV <| zg <| wp_seq ?_
 rw [hxe] at Hv47
 refine zm <| f_o <| m_a 0 0 4 (zh (nd (powM f (nv a) (nv g / 2 ^ q)))) En50 Hv47 rfl (zn (zb (zk _ _))) (zb (zk _ _)) fun _ En106 => ?_
 refine f_o <| m_g 3 0 4 (zh (nd (powM f (nv a) (nv g / 2 ^ q)))) _ [.box bk31 (zh (nd (powM f (nv a) (nv g / 2 ^ q)))) 34, .box bk1 (zh a) 34, .box bk6 (zh g) 34, .box bk11 (zh (nd (powM f (nv a) (nv g / 2 ^ q)))) 34] En106 Hv47 rfl (zb (zk _ _)) (by rw [(zb (zd))]; first | decide | (simp; done)) (zu _) (zo (zb (zd))) rfl fun _ _ En109 Hv110 => ?_
 refine f_e <| zg <| wp_ret <| z5 (v := .agg (zi (zh (nd (powM f (nv a) (nv g / 2 ^ q)))))) (t := 6) (T := 34) (ad := ⟨bk11, 0, none⟩) En109 (by kernel_rfl) (by kernel_rfl) (zx (t := 34) (k := 3) (off := 0) (m := 4) (xs := zh (nd (powM f (nv a) (nv g / 2 ^ q)))) Hv110 rfl (zn (zb (zk _ _))) (zb (zk _ _)) (by kernel_rfl) (by kernel_rfl)) ?_
 have hq0 : q = 0 := by omega
 subst hq0
 have eq : nd (powM f (nv a) (nv g / 2 ^ 0)) = nd (powM f (nv a) (nv g)) := by rw [ZK, Y3]
 exact ⟨by rw [eq], Hv110.pk []⟩

theorem exp_go (w : World) (f : Int) (hf : f = 1 ∨ f = 2 ∨ f = 3 ∨ f = 4) (hM : MulOk f) (a g : List UInt64) (ha : ze a = 4) (hg : ze g = 4) : Calls Tryd.prog 56 #[.int .i64 f, .agg (zi (zh a)), .agg (zi (zh g))] w fun e w' => e = .returned (.agg (zi (zh (nd (powM f (nv a) (nv g)))))) ∧ Ev w [] w' [] := by
 refine d_0 [(0, .int .i64 f), (1, .agg (zi (zh a))), (2, .agg (zi (zh g)))] 62 Go.Proofs.Tryd.func56 Go.Proofs.Tryd.ntmps56 (Heap.nil _) fun act0 En0 Hv0 => ?_
 refine wp_seq <| zm <| f_o <| m_m 34 (zh a) En0 Hv0 fun _ _ bk1 En4 Hv5 => ?_
 refine f_o <| m_m 34 (zh g) En4 Hv5 fun _ _ bk6 En9 Hv10 => ?_
 refine f_o <| m_z 34 (zh (zc 4 0)) En9 Hv10 fun _ _ bk11 En14 Hv15 => ?_
 refine f_e <| zg <| wp_seq <| wp_seq <| zm <| d_k [0,4,5,6,12] [] 1 En14 fun _ En17 => ?_
 refine f_o <| c_p En17 Hv15 (is_go_yes _ f hf) fun _ _ En23 Hv24 => ?_
 refine d_e [0,4,5,6,14] [] En23 fun _ En26 => ?_
 refine zg <| c_f En26 ?_
 refine wp_skip <| zg <| wp_seq <| zm <| f_o <| m_z 97 (zh (zc 64 0)) En26 Hv24 fun _ _ bk27 En30 Hv31 => ?_
 refine f_e <| zg <| wp_seq <| zm <| d_k [0,4,5,6,7,16,17] [] 2 En30 fun _ En33 => ?_
 refine f_o <| m_g 3 0 4 (zh ([1, 0, 0, 0] : List UInt64)) (zh (zr 0 (zc 64 0) ++ ([1, 0, 0, 0] : List UInt64) ++ zs (0 + 4) (zc 64 0))) [.box bk1 (zh a) 34, .box bk6 (zh g) 34, .box bk11 (zh (zc 4 0)) 34, .box bk27 (zh (zr 0 (zc 64 0) ++ ([1, 0, 0, 0] : List UInt64) ++ zs (0 + 4) (zc 64 0))) 97] En33 Hv31 rfl (zb (show ze ([1, 0, 0, 0] : List UInt64) = 4 from rfl)) (by rw [(zb (zd))]; first | decide | (simp; done)) (zu _) (u64s_put _ _ _ _) rfl fun _ _ En36 Hv37 => ?_
 refine f_e <| zg <| wp_seq <| wp_seq <| d_r [0,4,5,6,7,8] [] En36 fun _ En39 => ?_
 refine zg <| wp_block <| Qa (fun ms40 ac wo => ∃ (i : Nat) (L : List UInt64), ms40 = (17 - i : Nat) ∧ Env ac 62 [(0, .int .i64 f), (4, pt bk1), (5, pt bk6), (6, pt bk11), (7, pt bk27), (8, ni i)] ∧ Ev w [] wo [.box bk27 (zh L) 97, .box bk1 (zh a) 34, .box bk6 (zh g) 34, .box bk11 (zh (zc 4 0)) 34] ∧ (1 ≤ i) ∧ (i ≤ 16) ∧ (ze L = 64) ∧ (∀ j, j < i → zr 4 (zs (j * 4) L) = nd (powM f (nv a) j))) ⟨_, 1, (zr 0 (zc 64 0) ++ ([1, 0, 0, 0] : List UInt64) ++ zs (0 + 4) (zc 64 0)), rfl, En39.sb, Hv37.pk [3, 0, 1, 2], by omega, by omega, by rfl, tab_first hf rfl⟩ ?_
 rintro mm46 _ _ ⟨i, L, rfl, En44, Hv45, h1, hi, hL, hT⟩
 refine wp_seq <| wp_seq <| d_r [0,4,5,6,7,8,19] [] En44 fun _ En48 => ?_
 refine zg <| c_d (((i : Nat) : Int) < (16 : Int)) En48 (fun hc49 => ?_) (fun hc49 => ?_)
 ·
  refine wp_skip <| zg <| wp_seq <| wp_block <| r_c (fun ac wo => Env ac 62 [(0, .int .i64 f), (4, pt bk1), (5, pt bk6), (6, pt bk11), (7, pt bk27), (8, ni i)] ∧ Ev w [] wo [.box bk27 (zh (zr (i * 4) L ++ (nd (zq f (nv (zr 4 (zs ((i - 1) * 4) L))) (nv a))) ++ zs ((i * 4) + 4) L)) 97, .box bk1 (zh a) 34, .box bk6 (zh g) 34, .box bk11 (zh (zc 4 0)) 34]) ?_ ?_
  ·
   refine h_s (fun wv => Ev w [] wv [.box bk27 (zh L) 97, .box bk1 (zh a) 34]) [9] 10 ?_
   have wo50 := Hv45.trans (zQ Hv45.heap)
   refine q_s [0,1,2,3] [(3, g_n (w_r (e := ((i : Nat) : Int) - (1 : Int)) (x := ((i - 1 : Nat) : Int)) (by omega)))] 6 En48 (wo50.pk [0, 1]) fun _ En111 => ?_
   refine q_f 4 (s := Instr.indexAt 97 (pt bk27) (ni (i - 1))) (v := .pointer (some ⟨bk27, (i - 1) * 4, none⟩)) En111 (fun _ => Go.Dbr.run_indexarr (e := 34) (sz := 4) (m := 16) (j := i - 1) (o := (i - 1) * 4) (by kernel_rfl) (by kernel_rfl) (by omega) (by omega) (by omega) _) (fun _ => wo50.pk [0, 1]) fun _ En113 => ?_
   refine q_r 5 (s := Instr.loadAt 34 (.pointer (some ⟨bk27, (i - 1) * 4, none⟩))) (v := .agg (zi (zh (zr 4 (zs ((i - 1) * 4) L))))) En113 (fun w hS => zP (m := 4) (cs := zh (zr 4 (zs ((i - 1) * 4) L))) (zb (sub_len hL (by omega))) (by kernel_rfl) (by kernel_rfl) (hS.heap.cells (k := 0) (off := (i - 1) * 4) (m := 4) rfl (u64s_sub _ _ _))) (wo50.pk [0, 1]) fun _ En115 => ?_
   refine q_r 6 (s := Instr.loadAt 34 (pt bk1)) (v := .agg (zi (zh a))) En115 (fun w hS => zP (m := 4) (cs := zh a) (zb ha) (by kernel_rfl) (by kernel_rfl) (hS.heap.cells (k := 1) (off := 0) (m := 4) rfl (zn (zb ha)))) (wo50.pk [0, 1]) fun _ En117 => ?_
   refine q_t 7 ?_
   refine c_p En117 wo50 (hM _ (zr 4 (zs ((i - 1) * 4) L)) a (sub_len hL (by omega)) ha) fun _ _ En123 Hv124 => ?_
   refine ⟨fun _ => Hv124.pk [0, 1], ?_⟩
   refine q_f 8 (s := Instr.indexAt 97 (pt bk27) (ni i)) (v := .pointer (some ⟨bk27, i * 4, none⟩)) En123 (fun _ => Go.Dbr.run_indexarr (e := 34) (sz := 4) (m := 16) (j := i) (o := i * 4) (by kernel_rfl) (by kernel_rfl) (by omega) (by omega) (by omega) _) (fun _ => Hv124.pk [0, 1]) fun _ En126 => ?_
   refine q_t 9 ?_
   refine m_g 0 (i * 4) 4 (zh (nd (zq f (nv (zr 4 (zs ((i - 1) * 4) L))) (nv a)))) (zh (zr (i * 4) L ++ (nd (zq f (nv (zr 4 (zs ((i - 1) * 4) L))) (nv a))) ++ zs ((i * 4) + 4) L)) [.box bk27 (zh (zr (i * 4) L ++ (nd (zq f (nv (zr 4 (zs ((i - 1) * 4) L))) (nv a))) ++ zs ((i * 4) + 4) L)) 97, .box bk1 (zh a) 34, .box bk6 (zh g) 34, .box bk11 (zh (zc 4 0)) 34] En126 Hv124 rfl (zb (zk _ _)) (by rw [(zb hL)]; omega) (zu _) (u64s_put _ _ _ _) rfl fun _ _ En129 Hv130 => ?_
   refine ⟨q_y, ?_⟩
   exact h_e ⟨En129.sb, Hv130.pk [0, 1, 2, 3]⟩
  rintro _ _ ⟨En133, Hv134⟩
  refine zv <| zg <| d_r [0,4,5,6,7,8] [(1, g_n (w_a i 1))] En133 fun _ En136 => ?_
  refine zg <| ⟨_, ⟨i + 1, (zr (i * 4) L ++ (nd (zq f (nv (zr 4 (zs ((i - 1) * 4) L))) (nv a))) ++ zs ((i * 4) + 4) L), rfl, En136.sb, Hv134.pk [0, 1, 2, 3], by omega, by omega, (put_len hL (zk _ _) (by omega)), tab_step hf h1 hL (by omega) hT⟩, ?_⟩
  omega
 refine wp_exit <| zy <| zy <| zV <| zg <| wp_seq ?_
 have hT16 : ∀ j, j < 16 → zr 4 (zs (j * 4) L) = nd (powM f (nv a) j) := fun j hj => hT j (by omega)
 refine zm <| d_k [0,4,5,6,7,8,31] [] 1 En48 fun _ En138 => ?_
 refine f_o <| m_a 0 0 4 (zh (zr 4 L)) En138 Hv45 rfl (by simp [zh, Yl]) (zb (by rw [zI, hL]; decide)) fun _ En140 => ?_
 refine f_o <| m_z 34 (zh (zc 4 0)) En140 Hv45 fun _ _ bk141 En144 Hv145 => ?_
 refine f_o <| m_g 4 0 4 (zh (zr 4 L)) _ [.box bk27 (zh L) 97, .box bk1 (zh a) 34, .box bk6 (zh g) 34, .box bk11 (zh (zc 4 0)) 34, .box bk141 (zh (zr 4 L)) 34] En144 Hv145 rfl (zb (by rw [zI, hL]; decide)) (by rw [(zb (zd))]; first | decide | (simp; done)) (zu _) (zo (zb (zd))) rfl fun _ _ En148 Hv149 => ?_
 refine f_e <| zg <| wp_seq <| wp_seq <| d_r [0,4,5,6,7,8,9,10] [] En148 fun _ En151 => ?_
 refine zg <| wp_block <| Qa (fun ms152 ac wo => ∃ (q : Nat) (x : List UInt64), ms152 = (q + 1 : Nat) ∧ Env ac 62 [(0, .int .i64 f), (4, pt bk1), (5, pt bk6), (6, pt bk11), (7, pt bk27), (8, ni i), (9, pt bk141), (10, .int .i64 (((q : Nat) : Int) - (1 : Int)))] ∧ Ev w [] wo [.box bk141 (zh x) 34, .box bk27 (zh L) 97, .box bk1 (zh a) 34, .box bk6 (zh g) 34, .box bk11 (zh (zc 4 0)) 34] ∧ (q ≤ 64) ∧ (ze x = 4) ∧ (x = nd (powM f (nv a) (nv g / 16 ^ q)))) ⟨_, 64, (zr 4 L), rfl, En151.sb, Hv149.pk [4, 0, 1, 2, 3], by omega, (by rw [zI, hL]; decide), by rw [div_top4 hg]; exact hT16 0 (by omega)⟩ ?_
 rintro mm158 _ _ ⟨q, x, rfl, En156, Hv157, hq, hx, hxe⟩
 refine wp_seq <| wp_seq <| d_r [0,4,5,6,7,8,9,10,34] [] En156 fun _ En160 => ?_
 refine zg <| c_d (((q : Nat) : Int) - (1 : Int) ≥ (0 : Int)) En160 (fun hc161 => ?_) (fun hc161 => ?_)
 ·
  refine wp_skip <| zg <| wp_seq <| wp_block <| wp_seq <| wp_seq ?_
  have En162 := Env.fx (t := 10) (v := .int .i64 (((q : Nat) : Int) - (1 : Int))) (u := ni (q - 1)) En160 (congrArg (Value.int .i64) (show ((q : Nat) : Int) - (1 : Int) = ((q - 1 : Nat) : Int) by omega))
  have hbv := nib_at g (q - 1)
  have hb16 : (zf g ((q - 1) / 16) 0 >>> za (4 * ((q - 1) % 16)) &&& 15).toNat < 16 := by rw [hbv]; omega
  refine d_r [0,4,5,6,7,8,9,10,37] [] En162 fun _ En164 => ?_
  refine zg <| wp_block <| Qa (fun ms165 ac wo => ∃ (k : Nat) (y : List UInt64), ms165 = (5 - k : Nat) ∧ Env ac 62 [(0, .int .i64 f), (4, pt bk1), (5, pt bk6), (6, pt bk11), (7, pt bk27), (8, ni i), (9, pt bk141), (10, ni (q - 1)), (37, ni k)] ∧ Ev w [] wo [.box bk141 (zh y) 34, .box bk27 (zh L) 97, .box bk1 (zh a) 34, .box bk6 (zh g) 34, .box bk11 (zh (zc 4 0)) 34] ∧ (k ≤ 4) ∧ (ze y = 4) ∧ (y = nd (powM f (nv a) (2 ^ k * (nv g / 16 ^ q))))) ⟨_, 0, x, rfl, En164.sb, Hv157.pk [0, 1, 2, 3, 4], by omega, hx, by rw [hxe, ZK, Nat.one_mul]⟩ ?_
  rintro mm171 _ _ ⟨k, y, rfl, En169, Hv170, hk, hy, hye⟩
  refine wp_seq <| d_r [0,4,5,6,7,8,9,10,37,38] [] En169 fun _ En173 => ?_
  refine zg <| wp_seq <| c_d (((k : Nat) : Int) < (4 : Int)) En173 (fun hc174 => ?_) (fun hc174 => ?_)
  ·
   refine wp_skip <| zg <| wp_seq <| wp_block ?_
   rw [hye] at Hv170
   refine zm <| d_k [0,4,5,6,7,8,9,10,37,39] [] 1 En173 fun _ En176 => ?_
   refine f_o <| m_a 0 0 4 (zh (nd (powM f (nv a) (2 ^ k * (nv g / 16 ^ q))))) En176 Hv170 rfl (zn (zb (zk _ _))) (zb (zk _ _)) fun _ En178 => ?_
   refine f_o <| m_a 0 0 4 (zh (nd (powM f (nv a) (2 ^ k * (nv g / 16 ^ q))))) En178 Hv170 rfl (zn (zb (zk _ _))) (zb (zk _ _)) fun _ En180 => ?_
   refine f_o <| c_p En180 Hv170 (hM _ (nd (powM f (nv a) (2 ^ k * (nv g / 16 ^ q)))) (nd (powM f (nv a) (2 ^ k * (nv g / 16 ^ q)))) (zk _ _) (zk _ _)) fun _ _ En186 Hv187 => ?_
   refine f_o <| m_g 0 0 4 (zh (nd (zq f (nv (nd (powM f (nv a) (2 ^ k * (nv g / 16 ^ q))))) (nv (nd (powM f (nv a) (2 ^ k * (nv g / 16 ^ q)))))))) _ [.box bk141 (zh (nd (zq f (nv (nd (powM f (nv a) (2 ^ k * (nv g / 16 ^ q))))) (nv (nd (powM f (nv a) (2 ^ k * (nv g / 16 ^ q)))))))) 34, .box bk27 (zh L) 97, .box bk1 (zh a) 34, .box bk6 (zh g) 34, .box bk11 (zh (zc 4 0)) 34] En186 Hv187 rfl (zb (zk _ _)) (by rw [(zb (zk _ _))]; first | decide | (simp; done)) (zu _) (zo (zb (zk _ _))) rfl fun _ _ En190 Hv191 => ?_
   refine f_e <| zv <| zg <| d_r [0,4,5,6,7,8,9,10,37] [(0, g_n (w_a k 1))] En190 fun _ En193 => ?_
   refine zg <| ⟨_, ⟨k + 1, (nd (zq f (nv (nd (powM f (nv a) (2 ^ k * (nv g / 16 ^ q))))) (nv (nd (powM f (nv a) (2 ^ k * (nv g / 16 ^ q))))))), rfl, En193.sb, Hv191.pk [0, 1, 2, 3, 4], by omega, (zk _ _), sq_step hf⟩, ?_⟩
   omega
  refine wp_exit <| zy <| zy <| zV <| zg <| wp_seq ?_
  have hk4 : k = 4 := by omega
  rw [hye, hk4] at Hv170
  refine zm <| d_k [0,4,5,6,7,8,9,10,37,45] [(1, g_i .i64 (show IntKind.wrap .i64 (Int.tdiv ((q - 1 : Nat) : Int) (16 : Int)) = (((q - 1) / 16 : Nat) : Int) from Go.Dbr.i64_quo_nat (a := ((q - 1 : Nat) : Int)) (n := q - 1) (m := 16) rfl (by omega)))] 2 En173 fun _ En195 => ?_
  refine f_o <| q_v (x := Instr.indexAt 34 (pt bk6) (ni ((q - 1) / 16))) (v := .pointer (some ⟨bk6, (q - 1) / 16, none⟩)) En195 (Go.Dbr.run_indexarr (e := 32) (sz := 1) (m := 4) (j := (q - 1) / 16) (o := (q - 1) / 16) (by kernel_rfl) (by kernel_rfl) (by omega) (by omega) (by omega) _) fun _ En197 => ?_
  refine f_o ?_
  have hb198 : (q - 1) / 16 < ze g := by rw [hg]; omega
  refine m_v 3 ((q - 1) / 16) (uv64 (zf g ((q - 1) / 16) 0)) En197 Hv170 rfl (zE hb198) fun _ En200 => ?_
  refine d_k [0,4,5,6,7,8,9,10,37,47,50] [(5, g_i .i64 (show Int.tmod ((q - 1 : Nat) : Int) (16 : Int) = (((q - 1) % 16 : Nat) : Int) from Go.Dbr.i64_rem_nat (a := ((q - 1 : Nat) : Int)) (n := q - 1) (m := 16) rfl (by omega))), (6, g_n (w_m 4 ((q - 1) % 16)))] 7 En200 fun _ En202 => ?_
  refine f_o <| q_v En202 (Go.Dbr.run_shr_u64 (zf g ((q - 1) / 16) 0) .i64 (4 * ((q - 1) % 16)) (by omega) _) fun _ En204 => ?_
  refine d_e [0,4,5,6,7,8,9,10,11,37] [(8, g_i .u64 (Go.Dbr.u64_and (x := (zf g ((q - 1) / 16) 0) >>> za (4 * ((q - 1) % 16))) (y := (15 : UInt64)) rfl rfl))] En204 fun _ En206 => ?_
  refine zg <| wp_seq <| d_r [0,4,5,6,7,8,9,10,11,37,54] [] En206 fun _ En208 => ?_
  refine zg <| c_n ((zt (((zf g ((q - 1) / 16) 0) >>> za (4 * ((q - 1) % 16))) &&& (15 : UInt64)) : Nat) : Int) (0 : Int) En208 (fun hc209 => ?_) (fun hc209 => ?_)
  ·
   refine r_c (fun ac wo => Env ac 62 [(0, .int .i64 f), (4, pt bk1), (5, pt bk6), (6, pt bk11), (7, pt bk27), (8, ni i), (9, pt bk141), (10, ni (q - 1)), (11, uv64 (((zf g ((q - 1) / 16) 0) >>> za (4 * ((q - 1) % 16))) &&& (15 : UInt64))), (37, ni k)] ∧ Ev w [] wo [.box bk141 (zh (nd (zq f (nv (nd (powM f (nv a) (2 ^ 4 * (nv g / 16 ^ q))))) (nv (zr 4 (zs ((zt (((zf g ((q - 1) / 16) 0) >>> za (4 * ((q - 1) % 16))) &&& (15 : UInt64))) * 4) L)))))) 34, .box bk27 (zh L) 97, .box bk1 (zh a) 34, .box bk6 (zh g) 34, .box bk11 (zh (zc 4 0)) 34]) ?_ ?_
   ·
    refine h_s (fun wv => Ev w [] wv [.box bk141 (zh (nd (powM f (nv a) (2 ^ 4 * (nv g / 16 ^ q))))) 34, .box bk27 (zh L) 97]) [6] 7 ?_
    have wo210 := Hv170.trans (zQ Hv170.heap)
    refine q_s [0] [] 6 En208 (wo210.pk [0, 1]) fun _ En267 => ?_
    refine q_r 1 (s := Instr.loadAt 34 (pt bk141)) (v := .agg (zi (zh (nd (powM f (nv a) (2 ^ 4 * (nv g / 16 ^ q))))))) En267 (fun w hS => zP (m := 4) (cs := zh (nd (powM f (nv a) (2 ^ 4 * (nv g / 16 ^ q))))) (zb (zk _ _)) (by kernel_rfl) (by kernel_rfl) (hS.heap.cells (k := 0) (off := 0) (m := 4) rfl (zn (zb (zk _ _))))) (wo210.pk [0, 1]) fun _ En269 => ?_
    refine q_s [2] [] 4 En269 (wo210.pk [0, 1]) fun _ En271 => ?_
    refine q_f 3 (s := Instr.indexAt 97 (pt bk27) (uv64 (((zf g ((q - 1) / 16) 0) >>> za (4 * ((q - 1) % 16))) &&& (15 : UInt64)))) (v := .pointer (some ⟨bk27, (zt (((zf g ((q - 1) / 16) 0) >>> za (4 * ((q - 1) % 16))) &&& (15 : UInt64))) * 4, none⟩)) En271 (fun _ => Go.Dbr.run_indexarr (e := 34) (sz := 4) (m := 16) (j := zt (((zf g ((q - 1) / 16) 0) >>> za (4 * ((q - 1) % 16))) &&& (15 : UInt64))) (o := (zt (((zf g ((q - 1) / 16) 0) >>> za (4 * ((q - 1) % 16))) &&& (15 : UInt64))) * 4) (by kernel_rfl) (by kernel_rfl) (by omega) (by omega) (by omega) _) (fun _ => wo210.pk [0, 1]) fun _ En273 => ?_
    refine q_r 4 (s := Instr.loadAt 34 (.pointer (some ⟨bk27, (zt (((zf g ((q - 1) / 16) 0) >>> za (4 * ((q - 1) % 16))) &&& (15 : UInt64))) * 4, none⟩))) (v := .agg (zi (zh (zr 4 (zs ((zt (((zf g ((q - 1) / 16) 0) >>> za (4 * ((q - 1) % 16))) &&& (15 : UInt64))) * 4) L))))) En273 (fun w hS => zP (m := 4) (cs := zh (zr 4 (zs ((zt (((zf g ((q - 1) / 16) 0) >>> za (4 * ((q - 1) % 16))) &&& (15 : UInt64))) * 4) L))) (zb (sub_len hL (by omega))) (by kernel_rfl) (by kernel_rfl) (hS.heap.cells (k := 1) (off := (zt (((zf g ((q - 1) / 16) 0) >>> za (4 * ((q - 1) % 16))) &&& (15 : UInt64))) * 4) (m := 4) rfl (u64s_sub _ _ _))) (wo210.pk [0, 1]) fun _ En275 => ?_
    refine q_t 5 ?_
    refine c_p En275 wo210 (hM _ (nd (powM f (nv a) (2 ^ 4 * (nv g / 16 ^ q)))) (zr 4 (zs ((zt (((zf g ((q - 1) / 16) 0) >>> za (4 * ((q - 1) % 16))) &&& (15 : UInt64))) * 4) L)) (zk _ _) (sub_len hL (by omega))) fun _ _ En281 Hv282 => ?_
    refine ⟨fun _ => Hv282.pk [0, 1], ?_⟩
    refine q_t 6 ?_
    refine m_g 0 0 4 (zh (nd (zq f (nv (nd (powM f (nv a) (2 ^ 4 * (nv g / 16 ^ q))))) (nv (zr 4 (zs ((zt (((zf g ((q - 1) / 16) 0) >>> za (4 * ((q - 1) % 16))) &&& (15 : UInt64))) * 4) L)))))) _ [.box bk141 (zh (nd (zq f (nv (nd (powM f (nv a) (2 ^ 4 * (nv g / 16 ^ q))))) (nv (zr 4 (zs ((zt (((zf g ((q - 1) / 16) 0) >>> za (4 * ((q - 1) % 16))) &&& (15 : UInt64))) * 4) L)))))) 34, .box bk27 (zh L) 97, .box bk1 (zh a) 34, .box bk6 (zh g) 34, .box bk11 (zh (zc 4 0)) 34] En281 Hv282 rfl (zb (zk _ _)) (by rw [(zb (zk _ _))]; first | decide | (simp; done)) (zu _) (zo (zb (zk _ _))) rfl fun _ _ En285 Hv286 => ?_
    refine ⟨q_y, ?_⟩
    exact h_e ⟨En285.sb, Hv286.pk [0, 1, 2, 3, 4]⟩
   rintro _ _ ⟨En289, Hv290⟩
   refine zv <| zg <| d_r [0,4,5,6,7,8,9,10,11,37] [(1, g_n (w_r (e := ((q - 1 : Nat) : Int) - (1 : Int)) (x := ((q - 1 : Nat) : Int) - (1 : Int)) (by omega)))] En289 fun _ En292 => ?_
   refine zg <| ⟨_, ⟨q - 1, (nd (zq f (nv (nd (powM f (nv a) (2 ^ 4 * (nv g / 16 ^ q))))) (nv (zr 4 (zs ((zt (((zf g ((q - 1) / 16) 0) >>> za (4 * ((q - 1) % 16))) &&& (15 : UInt64))) * 4) L))))), rfl, En292.sb, Hv290.pk [0, 1, 2, 3, 4], by omega, (zk _ _), nib_yes hf (by omega) hbv hT16⟩, ?_⟩
   omega
  refine wp_skip <| zv <| zg <| d_r [0,4,5,6,7,8,9,10,11,37] [(1, g_n (w_r (e := ((q - 1 : Nat) : Int) - (1 : Int)) (x := ((q - 1 : Nat) : Int) - (1 : Int)) (by omega)))] En208 fun _ En294 => ?_
  refine zg <| ⟨_, ⟨q - 1, (nd (powM f (nv a) (2 ^ 4 * (nv g / 16 ^ q)))), rfl, En294.sb, Hv170.pk [0, 1, 2, 3, 4], by omega, (zk _ _), nib_no (by omega) hbv (by assumption)⟩, ?_⟩
  omega
 refine wp_exit <| zy <| zy <| zV <| zg <| wp_seq ?_
 rw [hxe] at Hv157
 refine zm <| f_o <| m_a 0 0 4 (zh (nd (powM f (nv a) (nv g / 16 ^ q)))) En160 Hv157 rfl (zn (zb (zk _ _))) (zb (zk _ _)) fun _ En296 => ?_
 refine f_o <| m_g 4 0 4 (zh (nd (powM f (nv a) (nv g / 16 ^ q)))) _ [.box bk141 (zh (nd (powM f (nv a) (nv g / 16 ^ q)))) 34, .box bk27 (zh L) 97, .box bk1 (zh a) 34, .box bk6 (zh g) 34, .box bk11 (zh (nd (powM f (nv a) (nv g / 16 ^ q)))) 34] En296 Hv157 rfl (zb (zk _ _)) (by rw [(zb (zd))]; first | decide | (simp; done)) (zu _) (zo (zb (zd))) rfl fun _ _ En299 Hv300 => ?_
 refine f_e <| zg <| wp_ret <| z5 (v := .agg (zi (zh (nd (powM f (nv a) (nv g / 16 ^ q)))))) (t := 6) (T := 34) (ad := ⟨bk11, 0, none⟩) En299 (by kernel_rfl) (by kernel_rfl) (zx (t := 34) (k := 4) (off := 0) (m := 4) (xs := zh (nd (powM f (nv a) (nv g / 16 ^ q)))) Hv300 rfl (zn (zb (zk _ _))) (zb (zk _ _)) (by kernel_rfl) (by kernel_rfl)) ?_
 have hq0 : q = 0 := by omega
 subst hq0
 have eq : nd (powM f (nv a) (nv g / 16 ^ 0)) = nd (powM f (nv a) (nv g)) := by rw [ZK, Y3]
 exact ⟨by rw [eq], Hv300.pk []⟩

theorem inv_go (w : World) (f : Int) (hf : (f = 1 ∨ f = 2 ∨ f = 3 ∨ f = 4)) (hM : MulOk f) (a : List UInt64) (ha : ze a = 4) : Calls Tryd.prog 33 #[.int .i64 f, .agg (zi (zh a))] w fun e w' => e = .returned (.agg (zi (zh (nd (powM f (nv a) (mF f - 2)))))) ∧ Ev w [] w' [] := by
 refine d_0 [(0, .int .i64 f), (1, .agg (zi (zh a)))] 18 Go.Proofs.Tryd.func33 Go.Proofs.Tryd.ntmps33 (Heap.nil _) fun act0 En0 Hv0 => ?_
 refine wp_seq <| zm <| f_o <| m_m 34 (zh a) En0 Hv0 fun _ _ bk1 En4 Hv5 => ?_
 refine f_o <| m_z 34 (zh (zc 4 0)) En4 Hv5 fun _ _ bk6 En9 Hv10 => ?_
 refine f_e <| zg <| wp_seq <| zm <| d_k [0,3,4,8] [] 1 En9 fun _ En12 => ?_
 refine f_o <| c_p En12 Hv10 (modulus_go _ f) fun _ _ En18 Hv19 => ?_
 refine d_k [0,3,4,9,10] [] 3 En18 fun _ En21 => ?_
 refine f_o <| c_p En21 Hv19 (minus_go _ (nd (mF f)) ([2, 0, 0, 0] : List UInt64) (zk _ _) (show ze ([2, 0, 0, 0] : List UInt64) = 4 from rfl)) fun _ _ En27 Hv28 => ?_
 refine d_k [0,3,4,12,13] [] 7 En27 fun _ En30 => ?_
 refine f_o <| m_z 34 (zh (zc 4 0)) En30 Hv28 fun _ _ bk31 En34 Hv35 => ?_
 refine f_o <| m_g 2 0 4 (zh (nd (nv (nd (mF f)) + zH - nv ([2, 0, 0, 0] : List UInt64)))) _ [.box bk1 (zh a) 34, .box bk6 (zh (zc 4 0)) 34, .box bk31 (zh (nd (nv (nd (mF f)) + zH - nv ([2, 0, 0, 0] : List UInt64)))) 34] En34 Hv35 rfl (zb (zk _ _)) (by rw [(zb (zd))]; first | decide | (simp; done)) (zu _) (zo (zb (zd))) rfl fun _ _ En38 Hv39 => ?_
 refine d_e [0,3,4,5] [] En38 fun _ En41 => ?_
 refine zg <| wp_seq <| zm <| d_k [0,3,4,5,14] [] 1 En41 fun _ En43 => ?_
 refine f_o <| m_a 0 0 4 (zh a) En43 Hv39 rfl (zn (zb ha)) (zb ha) fun _ En45 => ?_
 refine f_o <| m_a 2 0 4 (zh (nd (nv (nd (mF f)) + zH - nv ([2, 0, 0, 0] : List UInt64)))) En45 Hv39 rfl (zn (zb (zk _ _))) (zb (zk _ _)) fun _ En47 => ?_
 refine f_o <| c_p En47 Hv39 (exp_go _ f hf hM a (nd (nv (nd (mF f)) + zH - nv ([2, 0, 0, 0] : List UInt64))) ha (zk _ _)) fun _ _ En53 Hv54 => ?_
 refine f_o <| m_g 1 0 4 (zh (nd (powM f (nv a) (nv (nd (nv (nd (mF f)) + zH - nv ([2, 0, 0, 0] : List UInt64))))))) _ [.box bk1 (zh a) 34, .box bk6 (zh (nd (powM f (nv a) (nv (nd (nv (nd (mF f)) + zH - nv ([2, 0, 0, 0] : List UInt64))))))) 34, .box bk31 (zh (nd (nv (nd (mF f)) + zH - nv ([2, 0, 0, 0] : List UInt64)))) 34] En53 Hv54 rfl (zb (zk _ _)) (by rw [(zb (zd))]; first | decide | (simp; done)) (zu _) (zo (zb (zd))) rfl fun _ _ En57 Hv58 => ?_
 refine f_e <| zg <| wp_ret <| z5 (v := .agg (zi (zh (nd (powM f (nv a) (nv (nd (nv (nd (mF f)) + zH - nv ([2, 0, 0, 0] : List UInt64))))))))) (t := 4) (T := 34) (ad := ⟨bk6, 0, none⟩) En57 (by kernel_rfl) (by kernel_rfl) (zx (t := 34) (k := 1) (off := 0) (m := 4) (xs := zh (nd (powM f (nv a) (nv (nd (nv (nd (mF f)) + zH - nv ([2, 0, 0, 0] : List UInt64))))))) Hv58 rfl (zn (zb (zk _ _))) (zb (zk _ _)) (by kernel_rfl) (by kernel_rfl)) ?_
 have eq : nd (powM f (nv a) (nv (nd (nv (nd (mF f)) + zH - nv ([2, 0, 0, 0] : List UInt64))))) = nd (powM f (nv a) (mF f - 2)) := by rw [inv_e hf]
 exact ⟨by rw [eq], Hv58.pk []⟩

theorem rinv_go (w : World) (f : Int) (hf : (f = 1 ∨ f = 2 ∨ f = 3 ∨ f = 4)) (hR : RMulOk f) (a : List UInt64) (ha : ze a = 4) : Calls Tryd.prog 63 #[.int .i64 f, .agg (zi (zh a))] w fun e w' => e = .returned (.agg (zi (zh (nd (powM f (nv a) (mF f - 2)))))) ∧ Ev w [] w' [] := by
 refine d_0 [(0, .int .i64 f), (1, .agg (zi (zh a)))] 12 Go.Proofs.Tryd.func63 Go.Proofs.Tryd.ntmps63 (Heap.nil _) fun act0 En0 Hv0 => ?_
 refine wp_seq <| zm <| f_o <| m_m 34 (zh a) En0 Hv0 fun _ _ bk1 En4 Hv5 => ?_
 refine f_o <| m_z 34 (zh (zc 4 0)) En4 Hv5 fun _ _ bk6 En9 Hv10 => ?_
 refine f_e <| zg <| wp_seq <| r_c (fun ac wo => Env ac 12 [(4, pt bk6)] ∧ Ev w [] wo [.box bk6 (zh (nd (powM f (nv a) (nv (nd (nv (nd (mF f)) + zH - nv ([2, 0, 0, 0] : List UInt64))))))) 34]) ?_ ?_
 ·
  refine h_s (fun wv => Ev w [] wv [.box bk1 (zh a) 34]) [] 8 ?_
  have wo11 := Hv10.trans (zQ Hv10.heap)
  refine q_s [0] [] 7 En9 (wo11.pk [0]) fun _ En120 => ?_
  refine q_r 1 (s := Instr.loadAt 34 (pt bk1)) (v := .agg (zi (zh a))) En120 (fun w hS => zP (m := 4) (cs := zh a) (zb ha) (by kernel_rfl) (by kernel_rfl) (hS.heap.cells (k := 0) (off := 0) (m := 4) rfl (zn (zb ha)))) (wo11.pk [0]) fun _ En122 => ?_
  refine q_s [2,4] [] 4 En122 (wo11.pk [0]) fun _ En124 => ?_
  refine q_t 3 ?_
  refine c_p En124 wo11 (rmodulus_go _ f) fun _ _ En130 Hv131 => ?_
  refine ⟨fun _ => Hv131.pk [0], ?_⟩
  refine q_t 5 ?_
  refine c_p En130 Hv131 (Jc _ (nd (mF f)) ([2, 0, 0, 0] : List UInt64) (zk _ _) (show ze ([2, 0, 0, 0] : List UInt64) = 4 from rfl)) fun _ _ En137 Hv138 => ?_
  refine ⟨fun _ => Hv138.pk [0], ?_⟩
  refine q_t 6 ?_
  refine c_p En137 Hv138 (rexp_go _ f hf hR a (nd (nv (nd (mF f)) + zH - nv ([2, 0, 0, 0] : List UInt64))) ha (zk _ _)) fun _ _ En144 Hv145 => ?_
  refine ⟨fun _ => Hv145.pk [0], ?_⟩
  refine q_t 7 ?_
  refine m_g 1 0 4 (zh (nd (powM f (nv a) (nv (nd (nv (nd (mF f)) + zH - nv ([2, 0, 0, 0] : List UInt64))))))) _ [.box bk1 (zh a) 34, .box bk6 (zh (nd (powM f (nv a) (nv (nd (nv (nd (mF f)) + zH - nv ([2, 0, 0, 0] : List UInt64))))))) 34] En144 Hv145 rfl (zb (zk _ _)) (by rw [(zb (zd))]; first | decide | (simp; done)) (zu _) (zo (zb (zd))) rfl fun _ _ En148 Hv149 => ?_
  refine ⟨fun _ => Hv149.pk [0], ?_⟩
  exact h_e ⟨En148.sb, Hv149.pk [1]⟩
 rintro _ _ ⟨En152, Hv153⟩
 refine zg <| wp_ret <| z5 (v := .agg (zi (zh (nd (powM f (nv a) (nv (nd (nv (nd (mF f)) + zH - nv ([2, 0, 0, 0] : List UInt64))))))))) (t := 4) (T := 34) (ad := ⟨bk6, 0, none⟩) En152 (by kernel_rfl) (by kernel_rfl) (zx (t := 34) (k := 0) (off := 0) (m := 4) (xs := zh (nd (powM f (nv a) (nv (nd (nv (nd (mF f)) + zH - nv ([2, 0, 0, 0] : List UInt64))))))) Hv153 rfl (zn (zb (zk _ _))) (zb (zk _ _)) (by kernel_rfl) (by kernel_rfl)) ?_
 have eq : nd (powM f (nv a) (nv (nd (nv (nd (mF f)) + zH - nv ([2, 0, 0, 0] : List UInt64))))) = nd (powM f (nv a) (mF f - 2)) := by rw [inv_e hf]
 exact ⟨by rw [eq], Hv153.pk []⟩

end Go.Proofs.YtlnogkmnklfjlaaDoor

/- Layer 4: products of the two orders. -/

namespace Go.Proofs.YtlnogkmnklfjlaaDoor
open Go.Dbr
set_option maxRecDepth 100000
set_option maxHeartbeats 2000000
set_option linter.unusedVariables false
set_option linter.unusedSimpArgs false

end Go.Proofs.YtlnogkmnklfjlaaDoor

/- Long drawn regions: that the operations don't disturb each other is checked once. -/

namespace Go.Dbr
open Go Go.RowKit
set_option linter.unusedSimpArgs false

def nodupO : List Oper → Nat → Bool
  | [], _ => true
  | o :: r, m => match o.dst with
    | some d => !Yd m d && nodupO r (m ||| 2 ^ d)
    | none => nodupO r m
theorem nodupO_spec : ∀ (l : List Oper) (m : Nat), nodupO l m = true → (∀ (i : Nat) (o : Oper) (d : Nat), l[i]? = some o → o.dst = some d → Yd m d = false) ∧ (∀ (i j : Nat) (o q : Oper) (d : Nat), l[i]? = some o → l[j]? = some q → o.dst = some d → q.dst = some d → i = j)
  | [], m, _ => ⟨fun i o d h => by simp at h, fun i j o q d h => by simp at h⟩
  | x :: r, m, h => by
    unfold nodupO at h
    cases hd : x.dst with
    | none =>
      rw [hd] at h
      obtain ⟨h1, h2⟩ := nodupO_spec r m h
      constructor
      · intro i o d hi ho
        cases i with
        | zero => simp at hi; subst hi; rw [hd] at ho; cases ho
        | succ i => exact h1 i o d (by simpa using hi) ho
      · intro i j o q d hi hj ho hq
        cases i with
        | zero => simp at hi; subst hi; rw [hd] at ho; cases ho
        | succ i =>
          cases j with
          | zero => simp at hj; subst hj; rw [hd] at hq; cases hq
          | succ j => rw [h2 i j o q d (by simpa using hi) (by simpa using hj) ho hq]
    | some c =>
      rw [hd] at h
      simp only [Bool.and_eq_true, Bool.not_eq_true'] at h
      obtain ⟨h1, h2⟩ := nodupO_spec r _ h.2
      have key : ∀ (i : Nat) (o : Oper) (d : Nat), r[i]? = some o → o.dst = some d → Yd m d = false ∧ c ≠ d := fun i o d hi ho => by
        have := h1 i o d hi ho
        rw [Nat.testBit_or, Bool.or_eq_false_iff] at this
        refine ⟨this.1, fun e => ?_⟩
        subst e
        rw [Nat.testBit_two_pow_self] at this
        cases this.2
      constructor
      · intro i o d hi ho
        cases i with
        | zero => simp at hi; subst hi; rw [hd] at ho; cases ho; exact h.1
        | succ i => exact (key i o d (by simpa using hi) ho).1
      · intro i j o q d hi hj ho hq
        cases i with
        | zero =>
          cases j with
          | zero => rfl
          | succ j => simp at hi; subst hi; rw [hd] at ho; cases ho; exact absurd rfl (key j q _ (by simpa using hj) hq).2
        | succ i =>
          cases j with
          | zero => simp at hj; subst hj; rw [hd] at hq; cases hq; exact absurd rfl (key i o _ (by simpa using hi) ho).2
          | succ j => rw [h2 i j o q d (by simpa using hi) (by simpa using hj) ho hq]
section
variable {P : Program} {ops : Array Oper} {Q : Exit → Act → World → Prop} {S : World → Prop} {n i : Nat} {l : List (Nat × Value)} {a : Act} {w : World}
end
end Go.Dbr

/- Layer 4: products modulo the prime of P-256. -/


namespace Go.Proofs.YtlnogkmnklfjlaaDoor
open Go.Dbr
set_option maxRecDepth 100000
set_option maxHeartbeats 2000000
set_option linter.unusedVariables false
set_option linter.unusedSimpArgs false

theorem mul1_go (w : World) (a b : List UInt64) (ha : ze a = 4) (hb : ze b = 4) : Calls Tryd.prog 30 #[.int .i64 1, .agg (zi (zh a)), .agg (zi (zh b))] w fun e w' => e = .returned (.agg (zi (zh (nd (zq 1 (nv a) (nv b)))))) ∧ Ev w [] w' [] := by
 refine d_0 [(0, .int .i64 1), (1, .agg (zi (zh a))), (2, .agg (zi (zh b)))] 45 Go.Proofs.Tryd.func30 Go.Proofs.Tryd.ntmps30 (Heap.nil _) fun act0 En0 Hv0 => ?_
 refine wp_seq <| zm <| f_o <| m_m 34 (zh a) En0 Hv0 fun _ _ bk1 En4 Hv5 => ?_
 refine f_o <| m_m 34 (zh b) En4 Hv5 fun _ _ bk6 En9 Hv10 => ?_
 refine f_o <| m_z 34 (zh (zc 4 0)) En9 Hv10 fun _ _ bk11 En14 Hv15 => ?_
 refine f_e <| zg <| wp_seq <| d_s [0,4,5,6,9] [] En14 fun _ En17 => ?_
 refine wp_block <| d_s [0,4,5,6,9,10] [] En17 fun _ En19 => ?_
 refine c_t En19 ?_
 refine wp_seq <| zm <| f_o <| m_a 0 0 4 (zh a) En19 Hv15 rfl (zn (zb ha)) (zb ha) fun _ En21 => ?_
 refine f_o <| m_a 1 0 4 (zh b) En21 Hv15 rfl (zn (zb hb)) (zb hb) fun _ En23 => ?_
 refine f_o <| c_p En23 Hv15 (mul25_go _ a b ha hb) fun _ _ En29 Hv30 => ?_
 refine f_o <| m_g 2 0 4 (zh (nd ((nv a * nv b) % mF 1))) _ [.box bk1 (zh a) 34, .box bk6 (zh b) 34, .box bk11 (zh (nd ((nv a * nv b) % mF 1))) 34] En29 Hv30 rfl (zb (zk _ _)) (by rw [(zb (zd))]; first | decide | (simp; done)) (zu _) (zo (zb (zd))) rfl fun _ _ En33 Hv34 => ?_
 refine f_e <| zg <| wp_ret <| block_ret <| then_ret <| z5 (v := .agg (zi (zh (nd ((nv a * nv b) % mF 1))))) (t := 6) (T := 34) (ad := ⟨bk11, 0, none⟩) En33 (by kernel_rfl) (by kernel_rfl) (zx (t := 34) (k := 2) (off := 0) (m := 4) (xs := zh (nd ((nv a * nv b) % mF 1))) Hv34 rfl (zn (zb (zk _ _))) (zb (zk _ _)) (by kernel_rfl) (by kernel_rfl)) ?_
 exact ⟨rfl, Hv34.pk []⟩

theorem hM1 : MulOk 1 := mul1_go
end Go.Proofs.YtlnogkmnklfjlaaDoor

/- Layer 4, the document: what digits leave modulo the order of Ed25519. -/

namespace Go.Proofs.YtlnogkmnklfjlaaDoor
open Go.Dbr
set_option maxRecDepth 100000
set_option maxHeartbeats 2000000
set_option linter.unusedVariables false
set_option linter.unusedSimpArgs false

theorem shr_n (x : UInt64) {n : Nat} (h : n < 64) : (x >>> za n).toNat = x.toNat / 2 ^ n := by
  rw [Z3, ZF, ofNat_val, zB (a := n) (by omega), zB h]
end Go.Proofs.YtlnogkmnklfjlaaDoor

/- Layer 4, the document: what digits leave modulo the order of Ed25519. -/

namespace Go.Proofs.YtlnogkmnklfjlaaDoor
open Go.Dbr
set_option maxRecDepth 100000
set_option maxHeartbeats 2000000
set_option linter.unusedVariables false
set_option linter.unusedSimpArgs false

end Go.Proofs.YtlnogkmnklfjlaaDoor
