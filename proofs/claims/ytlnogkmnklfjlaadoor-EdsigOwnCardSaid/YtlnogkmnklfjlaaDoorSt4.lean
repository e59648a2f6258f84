import Derived.Test.YtlnogkmnklfjlaaDoorSt3
open List renaming length → za, getD → zb, replicate → ze, length_replicate → zf, toArray → zi, take → zk, length_take → zp, set → zy, take_of_length_le → Zk, length_cons → Zu, getD_cons_succ → Ya, take_succ_cons → Xj
open Go.Dbr renaming u64s_lenh → zc, then_normal → zg, u64s → zh, region_from → zm, uv64 → zn, load_whole → zq, store_whole → zs, u64s_one → zv, block_normal → zA, bys_lenh → zC, addHi → zH, then_exit → zI, run_loadAgg2 → zR, u64s_getD → zY, loop_once → z7, block_exit → z9, h_from → Zi, d_cell1 → Zj, run_load1 → ZO, then_ret → Z0, bys_getD → Qa, h_ways → Qc, h_to → Qe, loop_m → Qh, block_ret → QC, region_cut → Q8, addHi_le → Yp, addHi_val → Jf
open UInt64 renaming ofNat → zd, toUInt8 → zj, toNat → zB, toNat_add → ZH, toNat_inj → QR
open Go.Proofs.YtlnogkmnklfjlaaDoor renaming nds_len → zl, W256 → zZ, mod_lt_w → ZU, nv_nd → Qd, minus_go → Jm, mF_pos → Jz, nd_mod → Xc
open UInt8 renaming ofNat → zF, toUInt64 → Zr
open Nat renaming mod_eq_of_lt → zK, mul_comm → z5, pow_succ → Zl, mod_lt → ZB, div_div_eq_div_mul → ZT, shiftLeft_eq → ZW, lt_trans → Z4, pow_add → Z6, pow_zero → Qf, pow_mul → Qk, zero_lt_one → QZ, mod_eq_sub_mod → Yk, pow_le_pow_right → YE, lt_of_lt_of_le → YT
open Go.Dbr.Ev renaming cellAgg → zM, drew → z4
open Bool renaming eq_false_or_eq_true → ZC
open Int renaming tdiv → Y4, tmod → Jk
/- Layer 4: the modulus; sums, differences. -/

namespace Go.Proofs.YtlnogkmnklfjlaaDoor
open Go.Dbr
set_option maxRecDepth 100000
set_option maxHeartbeats 2000000
set_option linter.unusedVariables false
set_option linter.unusedSimpArgs false

theorem mod_1 (w : World)  : Calls Tryd.prog 43 #[.int .i64 1] w fun e w' => e = .returned (.agg (zi (zh (nd (mF 1))))) ∧ Ev w [] w' [] := by
 refine d_0 [(0, .int .i64 1)] 19 Go.Proofs.Tryd.func43 Go.Proofs.Tryd.ntmps43 (Heap.nil _) fun act0 En0 Hv0 => ?_
 refine wp_seq <| zm <| f_o <| m_z 34 (zh (ze 4 0)) En0 Hv0 fun _ _ bk1 En4 Hv5 => ?_
 refine f_e <| zg <| wp_seq <| d_s [2,3] [] En4 fun _ En7 => ?_
 refine wp_block <| d_s [2,3,4] [] En7 fun _ En9 => ?_
 refine c_t En9 ?_
 refine wp_seq <| zm <| f_o <| c_p En9 Hv5 (prime1_go _) fun _ _ En15 Hv16 => ?_
 refine f_o <| m_g 0 0 4 (zh (nd (mF 1))) _ [.box bk1 (zh (nd (mF 1))) 34] En15 Hv16 rfl (zc (zl _ _)) (by rw [(zc (zf))]; first | decide | (simp; done)) (zv _) (zs (zc (zf))) rfl fun _ _ En19 Hv20 => ?_
 refine f_e <| zg <| wp_ret <| QC <| Z0 <| Zj (v := .agg (zi (zh (nd (mF 1))))) (t := 2) (T := 34) (ad := ⟨bk1, 0, none⟩) En19 (by kernel_rfl) (by kernel_rfl) (zM (t := 34) (k := 0) (off := 0) (m := 4) (xs := zh (nd (mF 1))) Hv20 rfl (zq (zc (zl _ _))) (zc (zl _ _)) (by kernel_rfl) (by kernel_rfl)) ?_
 exact ⟨rfl, Hv20.pk []⟩

theorem mod_2 (w : World)  : Calls Tryd.prog 43 #[.int .i64 2] w fun e w' => e = .returned (.agg (zi (zh (nd (mF 2))))) ∧ Ev w [] w' [] := by
 refine d_0 [(0, .int .i64 2)] 19 Go.Proofs.Tryd.func43 Go.Proofs.Tryd.ntmps43 (Heap.nil _) fun act0 En0 Hv0 => ?_
 refine wp_seq <| zm <| f_o <| m_z 34 (zh (ze 4 0)) En0 Hv0 fun _ _ bk1 En4 Hv5 => ?_
 refine f_e <| zg <| wp_seq <| d_s [2,3] [] En4 fun _ En7 => ?_
 refine wp_block <| d_s [2,3,4] [] En7 fun _ En9 => ?_
 refine c_f En9 ?_
 refine d_s [2,3,7] [] En9 fun _ En11 => ?_
 refine c_t En11 ?_
 refine wp_seq <| zm <| f_o <| c_p En11 Hv5 (prime2_go _) fun _ _ En17 Hv18 => ?_
 refine f_o <| m_g 0 0 4 (zh (nd (mF 2))) _ [.box bk1 (zh (nd (mF 2))) 34] En17 Hv18 rfl (zc (zl _ _)) (by rw [(zc (zf))]; first | decide | (simp; done)) (zv _) (zs (zc (zf))) rfl fun _ _ En21 Hv22 => ?_
 refine f_e <| zg <| wp_ret <| QC <| Z0 <| Zj (v := .agg (zi (zh (nd (mF 2))))) (t := 2) (T := 34) (ad := ⟨bk1, 0, none⟩) En21 (by kernel_rfl) (by kernel_rfl) (zM (t := 34) (k := 0) (off := 0) (m := 4) (xs := zh (nd (mF 2))) Hv22 rfl (zq (zc (zl _ _))) (zc (zl _ _)) (by kernel_rfl) (by kernel_rfl)) ?_
 exact ⟨rfl, Hv22.pk []⟩

theorem mod_3 (w : World)  : Calls Tryd.prog 43 #[.int .i64 3] w fun e w' => e = .returned (.agg (zi (zh (nd (mF 3))))) ∧ Ev w [] w' [] := by
 refine d_0 [(0, .int .i64 3)] 19 Go.Proofs.Tryd.func43 Go.Proofs.Tryd.ntmps43 (Heap.nil _) fun act0 En0 Hv0 => ?_
 refine wp_seq <| zm <| f_o <| m_z 34 (zh (ze 4 0)) En0 Hv0 fun _ _ bk1 En4 Hv5 => ?_
 refine f_e <| zg <| wp_seq <| d_s [2,3] [] En4 fun _ En7 => ?_
 refine wp_block <| d_s [2,3,4] [] En7 fun _ En9 => ?_
 refine c_f En9 ?_
 refine d_s [2,3,7] [] En9 fun _ En11 => ?_
 refine c_f En11 ?_
 refine d_s [2,3,10] [] En11 fun _ En13 => ?_
 refine c_t En13 ?_
 refine wp_seq <| zm <| d_k [2,3,12] [] 1 En13 fun _ En15 => ?_
 refine f_o <| c_p En15 Hv5 (prime3_go _) fun _ _ En21 Hv22 => ?_
 refine f_o <| m_g 0 0 4 (zh (nd (mF 3))) _ [.box bk1 (zh (nd (mF 3))) 34] En21 Hv22 rfl (zc (zl _ _)) (by rw [(zc (zf))]; first | decide | (simp; done)) (zv _) (zs (zc (zf))) rfl fun _ _ En25 Hv26 => ?_
 refine f_e <| zg <| wp_ret <| QC <| Z0 <| Zj (v := .agg (zi (zh (nd (mF 3))))) (t := 2) (T := 34) (ad := ⟨bk1, 0, none⟩) En25 (by kernel_rfl) (by kernel_rfl) (zM (t := 34) (k := 0) (off := 0) (m := 4) (xs := zh (nd (mF 3))) Hv26 rfl (zq (zc (zl _ _))) (zc (zl _ _)) (by kernel_rfl) (by kernel_rfl)) ?_
 exact ⟨rfl, Hv26.pk []⟩

theorem mod_4 (w : World)  : Calls Tryd.prog 43 #[.int .i64 4] w fun e w' => e = .returned (.agg (zi (zh (nd (mF 4))))) ∧ Ev w [] w' [] := by
 refine d_0 [(0, .int .i64 4)] 19 Go.Proofs.Tryd.func43 Go.Proofs.Tryd.ntmps43 (Heap.nil _) fun act0 En0 Hv0 => ?_
 refine wp_seq <| zm <| f_o <| m_z 34 (zh (ze 4 0)) En0 Hv0 fun _ _ bk1 En4 Hv5 => ?_
 refine f_e <| zg <| wp_seq <| d_s [2,3] [] En4 fun _ En7 => ?_
 refine wp_block <| d_s [2,3,4] [] En7 fun _ En9 => ?_
 refine c_f En9 ?_
 refine d_s [2,3,7] [] En9 fun _ En11 => ?_
 refine c_f En11 ?_
 refine d_s [2,3,10] [] En11 fun _ En13 => ?_
 refine c_f En13 ?_
 refine d_s [2,3,14] [] En13 fun _ En15 => ?_
 refine c_t En15 ?_
 refine wp_seq <| zm <| d_k [2,3,16] [] 1 En15 fun _ En17 => ?_
 refine f_o <| c_p En17 Hv5 (prime4_go _) fun _ _ En23 Hv24 => ?_
 refine f_o <| m_g 0 0 4 (zh (nd (mF 4))) _ [.box bk1 (zh (nd (mF 4))) 34] En23 Hv24 rfl (zc (zl _ _)) (by rw [(zc (zf))]; first | decide | (simp; done)) (zv _) (zs (zc (zf))) rfl fun _ _ En27 Hv28 => ?_
 refine f_e <| zg <| wp_ret <| QC <| Z0 <| Zj (v := .agg (zi (zh (nd (mF 4))))) (t := 2) (T := 34) (ad := ⟨bk1, 0, none⟩) En27 (by kernel_rfl) (by kernel_rfl) (zM (t := 34) (k := 0) (off := 0) (m := 4) (xs := zh (nd (mF 4))) Hv28 rfl (zq (zc (zl _ _))) (zc (zl _ _)) (by kernel_rfl) (by kernel_rfl)) ?_
 exact ⟨rfl, Hv28.pk []⟩

theorem mod_0 (w : World) (f : Int)  (hf : ¬ (f = 1 ∨ f = 2 ∨ f = 3 ∨ f = 4)) : Calls Tryd.prog 43 #[.int .i64 f] w fun e w' => e = .returned (.agg (zi (zh (nd (mF 0))))) ∧ Ev w [] w' [] := by
 refine d_0 [(0, .int .i64 f)] 19 Go.Proofs.Tryd.func43 Go.Proofs.Tryd.ntmps43 (Heap.nil _) fun act0 En0 Hv0 => ?_
 refine wp_seq <| zm <| f_o <| m_z 34 (zh (ze 4 0)) En0 Hv0 fun _ _ bk1 En4 Hv5 => ?_
 refine f_e <| zg <| wp_seq <| d_s [2,3] [] En4 fun _ En7 => ?_
 refine wp_block <| d_s [2,3,4] [] En7 fun _ En9 => ?_
 refine c_e f (1 : Int) En9 (fun hc10 => ?_) (fun hc10 => ?_)
 ·
  exact absurd hc10 (by omega)
 refine d_s [2,3,7] [] En9 fun _ En12 => ?_
 refine c_e f (2 : Int) En12 (fun hc13 => ?_) (fun hc13 => ?_)
 ·
  exact absurd hc13 (by omega)
 refine d_s [2,3,10] [] En12 fun _ En15 => ?_
 refine c_e f (3 : Int) En15 (fun hc16 => ?_) (fun hc16 => ?_)
 ·
  exact absurd hc16 (by omega)
 refine d_s [2,3,14] [] En15 fun _ En18 => ?_
 refine c_e f (4 : Int) En18 (fun hc19 => ?_) (fun hc19 => ?_)
 ·
  exact absurd hc19 (by omega)
 refine wp_skip <| zA <| zg <| wp_seq <| zm <| d_k [2,3,18] [] 1 En18 fun _ En21 => ?_
 refine f_o <| m_g 0 0 4 (zh ([0, 0, 0, 0] : List UInt64)) _ [.box bk1 (zh ([0, 0, 0, 0] : List UInt64)) 34] En21 Hv5 rfl (zc (show za ([0, 0, 0, 0] : List UInt64) = 4 from rfl)) (by rw [(zc (zf))]; first | decide | (simp; done)) (zv _) (zs (zc (zf))) rfl fun _ _ En24 Hv25 => ?_
 refine f_e <| zg <| wp_ret <| Zj (v := .agg (zi (zh ([0, 0, 0, 0] : List UInt64)))) (t := 2) (T := 34) (ad := ⟨bk1, 0, none⟩) En24 (by kernel_rfl) (by kernel_rfl) (zM (t := 34) (k := 0) (off := 0) (m := 4) (xs := zh ([0, 0, 0, 0] : List UInt64)) Hv25 rfl (zq (zc (show za ([0, 0, 0, 0] : List UInt64) = 4 from rfl))) (zc (show za ([0, 0, 0, 0] : List UInt64) = 4 from rfl)) (by kernel_rfl) (by kernel_rfl)) ?_
 exact ⟨by kernel_rfl, Hv25.pk []⟩

theorem mF_none {f : Int} (hf : ¬ (f = 1 ∨ f = 2 ∨ f = 3 ∨ f = 4)) : mF f = 0 := by
  unfold mF
  rw [if_neg (by omega), if_neg (by omega), if_neg (by omega), if_neg (by omega)]
theorem modulus_go (w : World) (f : Int) : Calls Tryd.prog 43 #[.int .i64 f] w fun e w' => e = .returned (.agg (zi (zh (nd (mF f))))) ∧ Ev w [] w' [] := by
  by_cases hf : f = 1 ∨ f = 2 ∨ f = 3 ∨ f = 4
  · rcases hf with rfl | rfl | rfl | rfl
    · exact mod_1 w
    · exact mod_2 w
    · exact mod_3 w
    · exact mod_4 w
  · rw [mF_none hf]
    exact mod_0 w f hf

theorem is_go (w : World) (f : Int) : Calls Tryd.prog 48 #[.int .i64 f] w fun e w' => e = .returned (.bool (decide (f = 1 ∨ f = 2 ∨ f = 3 ∨ f = 4))) ∧ Ev w [] w' [] := by
 refine d_0 [(0, .int .i64 f)] 9 Go.Proofs.Tryd.func48 Go.Proofs.Tryd.ntmps48 (Heap.nil _) fun act0 En0 Hv0 => ?_
 refine d_s [0,2] [] En0 fun _ En2 => ?_
 refine wp_seq <| zm <| d_k [0,2,5] [] 3 En2 fun _ En4 => ?_
 rcases ZC (decide (f ≥ (1 : Int))) with hb5 | hb5
 ·
  have En6 := En4.fx (t := 5) (congrArg Value.bool hb5)
  have hp7 : f ≥ (1 : Int) := of_decide_eq_true hb5
  refine d_e [2] [] En6 fun _ En9 => ?_
  refine zg <| wp_ret <| d_ret1 (t := 2) (v := .bool (decide (f ≤ (4 : Int)))) En9 (by kernel_rfl) (by kernel_rfl) ?_
  have e : (decide (f ≤ (4 : Int))) = decide (f = 1 ∨ f = 2 ∨ f = 3 ∨ f = 4) := by
   by_cases hq : f = 1 ∨ f = 2 ∨ f = 3 ∨ f = 4
   · rw [decide_eq_true hq] <;> first | rfl | exact decide_eq_true (by omega) | (exfalso; omega)
   · rw [decide_eq_false hq] <;> first | rfl | exact decide_eq_false (by omega) | (exfalso; omega)
  exact ⟨by rw [e], Hv0.pk []⟩
 have En10 := En4.fx (t := 5) (congrArg Value.bool hb5)
 have hp11 : ¬ (f ≥ (1 : Int)) := of_decide_eq_false hb5
 refine d_e [2] [] En10 fun _ En13 => ?_
 refine zg <| wp_ret <| d_ret1 (t := 2) (v := .bool false) En13 (by kernel_rfl) (by kernel_rfl) ?_
 have e : (false) = decide (f = 1 ∨ f = 2 ∨ f = 3 ∨ f = 4) := by
  by_cases hq : f = 1 ∨ f = 2 ∨ f = 3 ∨ f = 4
  · rw [decide_eq_true hq] <;> first | rfl | exact decide_eq_true (by omega) | (exfalso; omega)
  · rw [decide_eq_false hq] <;> first | rfl | exact decide_eq_false (by omega) | (exfalso; omega)
 exact ⟨by rw [e], Hv0.pk []⟩

theorem is_go_yes (w : World) (f : Int) (hf : f = 1 ∨ f = 2 ∨ f = 3 ∨ f = 4) : Calls Tryd.prog 48 #[.int .i64 f] w fun e w' => e = .returned (.bool true) ∧ Ev w [] w' [] := by
  have h := is_go w f
  rwa [decide_eq_true hf] at h
theorem right_mF (w : World) (f : Int) (hf : f = 1 ∨ f = 2 ∨ f = 3 ∨ f = 4) (a : List UInt64) (ha : za a = 4) : Calls Tryd.prog 50 #[.agg (zi (zh a)), .agg (zi (zh (nd (mF f))))] w fun e w' => e = .returned (.agg (zi (zh (nd (nv a % mF f))))) ∧ Ev w [] w' [] := by
  have h := right_go w a (nd (mF f)) ha (zl _ _) (by rw [nv_mF]; exact Z4 QZ (Jz hf))
  rw [nv_mF] at h
  exact h
theorem plus_nd_go (w : World) (x y : Nat) (hx : x < zZ) (hy : y < zZ) : Calls Tryd.prog 49 #[.agg (zi (zh (nd x))), .agg (zi (zh (nd y)))] w fun e w' => e = .returned (.tuple #[.agg (zi (zh (nd (x + y)))), zn (u1 (zZ ≤ x + y))]) ∧ Ev w [] w' [] := by
  have h := plus_go w (nd x) (nd y) (zl _ _) (zl _ _)
  rw [Qd hx, Qd hy] at h
  exact h
theorem minus_nd_go (w : World) (x y : Nat) (hx : x < zZ) (hy : y < zZ) : Calls Tryd.prog 51 #[.agg (zi (zh (nd x))), .agg (zi (zh (nd y)))] w fun e w' => e = .returned (.tuple #[.agg (zi (zh (nd (x + zZ - y)))), zn (u1 (x < y))]) ∧ Ev w [] w' [] := by
  have h := Jm w (nd x) (nd y) (zl _ _) (zl _ _)
  rw [Qd hx, Qd hy] at h
  exact h
theorem add_fin1 {x y M : Nat} (hx : x < M) (hy : y < M) (hM : M < zZ) (h : zZ ≤ x + y ∨ ¬ nv (nd (x + y)) < nv (nd M)) : nd (nv (nd (x + y)) + zZ - nv (nd M)) = nd ((x + y) % M) := by
  rw [Qd hM, nd_val] at *
  have e : (x + y) % M = x + y - M := by
    rw [Yk (by simp only [zZ] at *; omega), zK (by omega)]
  rw [e, ← Xc, ← Xc (x + y - M)]
  congr 1
  simp only [zZ] at *
  omega
theorem add_fin2 {x y M : Nat} (hM : M < zZ) (h1 : ¬ zZ ≤ x + y) (h : nv (nd (x + y)) < nv (nd M)) : nd (x + y) = nd ((x + y) % M) := by
  rw [Qd hM, Qd (by omega)] at h
  rw [zK h]
theorem sub_fin1 {x y M : Nat} (hx : x < M) (hy : y < M) (hM : M < zZ) (h : x < y) : nd (nv (nd (x + zZ - y)) + nv (nd M)) = nd ((x + M - y) % M) := by
  rw [Qd hM, nd_val, zK (a := x + M - y) (by omega), ← Xc, ← Xc (x + M - y)]
  congr 1
  simp only [zZ] at *
  omega
theorem sub_fin2 {x y M : Nat} (hx : x < M) (hy : y < M) (hM : M < zZ) (h : ¬ x < y) : nd (x + zZ - y) = nd ((x + M - y) % M) := by
  rw [Yk (by omega), zK (by omega), ← Xc, ← Xc (x + M - y - M)]
  congr 1
  simp only [zZ] at *
  omega
/-- numbers of a field -/
def addM (f : Int) (x y : Nat) : Nat := (x + y) % mF f
def subM (f : Int) (x y : Nat) : Nat := (x % mF f + mF f - y % mF f) % mF f
def mulM (f : Int) (x y : Nat) : Nat := (x * y) % mF f
theorem add_mM (f : Int) (x y : Nat) : (x % mF f + y % mF f) % mF f = addM f x y := (Nat.add_mod _ _ _).symm
theorem addM_lt {f : Int} (hf : f = 1 ∨ f = 2 ∨ f = 3 ∨ f = 4) (x y : Nat) : addM f x y < zZ := ZU hf
theorem subM_lt {f : Int} (hf : f = 1 ∨ f = 2 ∨ f = 3 ∨ f = 4) (x y : Nat) : subM f x y < zZ := ZU hf
theorem mulM_lt {f : Int} (hf : f = 1 ∨ f = 2 ∨ f = 3 ∨ f = 4) (x y : Nat) : mulM f x y < zZ := ZU hf

theorem add_go (w : World) (f : Int) (hf : f = 1 ∨ f = 2 ∨ f = 3 ∨ f = 4) (a b : List UInt64) (ha : za a = 4) (hb : za b = 4) : Calls Tryd.prog 29 #[.int .i64 f, .agg (zi (zh a)), .agg (zi (zh b))] w fun e w' => e = .returned (.agg (zi (zh (nd (addM f (nv a) (nv b)))))) ∧ Ev w [] w' [] := by
 have hla : nv a % mF f < mF f := ZB _ (Z4 QZ (Jz hf))
 have hlb : nv b % mF f < mF f := ZB _ (Z4 QZ (Jz hf))
 have hmw := mF_lt f
 refine d_0 [(0, .int .i64 f), (1, .agg (zi (zh a))), (2, .agg (zi (zh b)))] 39 Go.Proofs.Tryd.func29 Go.Proofs.Tryd.ntmps29 (Heap.nil _) fun act0 En0 Hv0 => ?_
 refine wp_seq <| zm <| f_o <| m_m 34 (zh a) En0 Hv0 fun _ _ bk1 En4 Hv5 => ?_
 refine f_o <| m_m 34 (zh b) En4 Hv5 fun _ _ bk6 En9 Hv10 => ?_
 refine f_o <| m_z 34 (zh (ze 4 0)) En9 Hv10 fun _ _ bk11 En14 Hv15 => ?_
 refine f_e <| zg <| wp_seq <| wp_seq <| zm <| d_k [0,4,5,6,10] [] 1 En14 fun _ En17 => ?_
 refine f_o <| c_p En17 Hv15 (is_go_yes _ f hf) fun _ _ En23 Hv24 => ?_
 refine d_e [0,4,5,6,12] [] En23 fun _ En26 => ?_
 refine zg <| c_f En26 ?_
 refine wp_skip <| zg <| wp_seq <| zm <| d_k [0,4,5,6,14] [] 1 En26 fun _ En28 => ?_
 refine f_o <| c_p En28 Hv24 (modulus_go _ f) fun _ _ En34 Hv35 => ?_
 refine f_o <| m_z 34 (zh (ze 4 0)) En34 Hv35 fun _ _ bk36 En39 Hv40 => ?_
 refine f_o <| m_g 3 0 4 (zh (nd (mF f))) _ [.box bk1 (zh a) 34, .box bk6 (zh b) 34, .box bk11 (zh (ze 4 0)) 34, .box bk36 (zh (nd (mF f))) 34] En39 Hv40 rfl (zc (zl _ _)) (by rw [(zc (zf))]; first | decide | (simp; done)) (zv _) (zs (zc (zf))) rfl fun _ _ En43 Hv44 => ?_
 refine f_e <| zg <| wp_seq <| r_c (fun ac wo => ∃ (bk570 : Nat), Env ac 39 [(0, .int .i64 f), (6, pt bk11), (7, pt bk36), (8, pt bk570), (9, zn (u1 (zZ ≤ nv a % mF f + nv b % mF f)))] ∧ Ev w [] wo [.box bk11 (zh (ze 4 0)) 34, .box bk36 (zh (nd (mF f))) 34, .box bk570 (zh (nd (nv a % mF f + nv b % mF f))) 34]) ?_ ?_
 ·
  refine h_s (fun wv => Ev w [] wv [.box bk1 (zh a) 34, .box bk6 (zh b) 34, .box bk36 (zh (nd (mF f))) 34]) [] 13 ?_
  have wo45 := Hv44.trans (z4 Hv44.heap)
  refine h_name fun G hG => ?_
  have nd662 : ∀ (ac : Act) (wo : World), Env ac 39 [(0, .int .i64 f), (6, pt bk11), (7, pt bk36), (23, .tuple #[.agg (zi (zh (nd (nv a % mF f + nv b % mF f)))), zn (u1 (zZ ≤ nv a % mF f + nv b % mF f))])] → Ev w [] wo [.box bk1 (zh a) 34, .box bk6 (zh b) 34, .box bk11 (zh (ze 4 0)) 34, .box bk36 (zh (nd (mF f))) 34] → G 6 #[true, true, true, true, true, true, true, false, false, false, false, false, false] ac wo := by
   intro _ _ En665 Hv666
   refine Zi hG ?_
   refine q_s [7,8,9] [] 3 En665 (Hv666.pk [0, 1, 3]) fun _ En668 => ?_
   refine q_t 10 ?_
   refine m_z 34 (zh (ze 4 0)) En668 Hv666 fun _ _ bk669 En672 Hv673 => ?_
   refine ⟨fun _ => Hv673.pk [0, 1, 3], ?_⟩
   refine q_t 11 ?_
   refine m_g 4 0 4 (zh (nd (nv a % mF f + nv b % mF f))) _ [.box bk1 (zh a) 34, .box bk6 (zh b) 34, .box bk11 (zh (ze 4 0)) 34, .box bk36 (zh (nd (mF f))) 34, .box bk669 (zh (nd (nv a % mF f + nv b % mF f))) 34] En672 Hv673 rfl (zc (zl _ _)) (by rw [(zc (zf))]; first | decide | (simp; done)) (zv _) (zs (zc (zf))) rfl fun _ _ En676 Hv677 => ?_
   refine ⟨fun _ => Hv677.pk [0, 1, 3], ?_⟩
   refine q_s [12] [] 0 En676 (Hv677.pk [0, 1, 3]) fun _ En679 => ?_
   exact h_e ⟨bk669, En679.sb, Hv677.pk [2, 3, 4]⟩
  have nd680 : ∀ (ac : Act) (wo : World) (bk581 : Nat), Env ac 39 [(0, .int .i64 f), (6, pt bk11), (7, pt bk36), (8, pt bk581), (19, .agg (zi (zh (nd (nv a % mF f))))), (22, .agg (zi (zh (nd (nv b % mF f)))))] → Ev w [] wo [.box bk1 (zh a) 34, .box bk6 (zh b) 34, .box bk11 (zh (ze 4 0)) 34, .box bk36 (zh (nd (mF f))) 34, .box bk581 (zh (ze 4 0)) 34] → G 6 #[true, true, true, true, true, true, false, false, false, false, true, false, false] ac wo := by
   intro _ _ bk581 En683 Hv684
   refine Zi hG ?_
   refine q_t 6 ?_
   refine c_p En683 Hv684 (plus_nd_go _ (nv a % mF f) (nv b % mF f) (ZU hf) (ZU hf)) fun _ _ En690 Hv691 => ?_
   refine ⟨fun _ => Hv691.pk [0, 1, 3], ?_⟩
   refine q_s [7,8,9] [] 2 En690 (Hv691.pk [0, 1, 3]) fun _ En693 => ?_
   refine q_t 11 ?_
   refine m_g 4 0 4 (zh (nd (nv a % mF f + nv b % mF f))) _ [.box bk1 (zh a) 34, .box bk6 (zh b) 34, .box bk11 (zh (ze 4 0)) 34, .box bk36 (zh (nd (mF f))) 34, .box bk581 (zh (nd (nv a % mF f + nv b % mF f))) 34] En693 Hv691 rfl (zc (zl _ _)) (by rw [(zc (zf))]; first | decide | (simp; done)) (zv _) (zs (zc (zf))) rfl fun _ _ En696 Hv697 => ?_
   refine ⟨fun _ => Hv697.pk [0, 1, 3], ?_⟩
   refine q_s [12] [] 0 En696 (Hv697.pk [0, 1, 3]) fun _ En699 => ?_
   exact h_e ⟨bk581, En699.sb, Hv697.pk [2, 3, 4]⟩
  have nd700 : ∀ (ac : Act) (wo : World), Env ac 39 [(0, .int .i64 f), (6, pt bk11), (7, pt bk36), (19, .agg (zi (zh (nd (nv a % mF f))))), (22, .agg (zi (zh (nd (nv b % mF f)))))] → Ev w [] wo [.box bk1 (zh a) 34, .box bk6 (zh b) 34, .box bk11 (zh (ze 4 0)) 34, .box bk36 (zh (nd (mF f))) 34] → G 7 #[true, true, true, true, true, true, false, false, false, false, false, false, false] ac wo := by
   intro _ _ En703 Hv704
   refine Zi hG ?_
   refine Qc [6, 10] (by kernel_rfl) rfl ?_
   refine ⟨?_, ?_, trivial⟩
   ·
    rintro _ rfl
    refine c_p En703 Hv704 (plus_nd_go _ (nv a % mF f) (nv b % mF f) (ZU hf) (ZU hf)) fun _ _ En710 Hv711 => ?_
    refine ⟨fun _ => Hv711.pk [0, 1, 3], ?_⟩
    exact Qe hG (by kernel_rfl) (nd662 _ _ (En710.sb) (Hv711.pk [0, 1, 2, 3]))
   rintro _ rfl
   refine m_z 34 (zh (ze 4 0)) En703 Hv704 fun _ _ bk712 En715 Hv716 => ?_
   refine ⟨fun _ => Hv716.pk [0, 1, 3], ?_⟩
   exact Qe hG (by kernel_rfl) (nd680 _ _ bk712 (En715.sb) (Hv716.pk [0, 1, 2, 3, 4]))
  have nd717 : ∀ (ac : Act) (wo : World) (bk601 : Nat), Env ac 39 [(0, .int .i64 f), (6, pt bk11), (7, pt bk36), (8, pt bk601), (19, .agg (zi (zh (nd (nv a % mF f))))), (20, .agg (zi (zh b))), (21, .agg (zi (zh (nd (mF f)))))] → Ev w [] wo [.box bk1 (zh a) 34, .box bk6 (zh b) 34, .box bk11 (zh (ze 4 0)) 34, .box bk36 (zh (nd (mF f))) 34, .box bk601 (zh (ze 4 0)) 34] → G 7 #[true, true, true, true, true, false, false, false, false, false, true, false, false] ac wo := by
   intro _ _ bk601 En720 Hv721
   refine Zi hG ?_
   refine q_t 5 ?_
   refine c_p En720 Hv721 (right_mF _ f hf b hb) fun _ _ En727 Hv728 => ?_
   refine ⟨fun _ => Hv728.pk [0, 1, 3], ?_⟩
   refine q_t 6 ?_
   refine c_p En727 Hv728 (plus_nd_go _ (nv a % mF f) (nv b % mF f) (ZU hf) (ZU hf)) fun _ _ En734 Hv735 => ?_
   refine ⟨fun _ => Hv735.pk [0, 1, 3], ?_⟩
   refine q_s [7,8,9] [] 2 En734 (Hv735.pk [0, 1, 3]) fun _ En737 => ?_
   refine q_t 11 ?_
   refine m_g 4 0 4 (zh (nd (nv a % mF f + nv b % mF f))) _ [.box bk1 (zh a) 34, .box bk6 (zh b) 34, .box bk11 (zh (ze 4 0)) 34, .box bk36 (zh (nd (mF f))) 34, .box bk601 (zh (nd (nv a % mF f + nv b % mF f))) 34] En737 Hv735 rfl (zc (zl _ _)) (by rw [(zc (zf))]; first | decide | (simp; done)) (zv _) (zs (zc (zf))) rfl fun _ _ En740 Hv741 => ?_
   refine ⟨fun _ => Hv741.pk [0, 1, 3], ?_⟩
   refine q_s [12] [] 0 En740 (Hv741.pk [0, 1, 3]) fun _ En743 => ?_
   exact h_e ⟨bk601, En743.sb, Hv741.pk [2, 3, 4]⟩
  have nd744 : ∀ (ac : Act) (wo : World), Env ac 39 [(0, .int .i64 f), (6, pt bk11), (7, pt bk36), (19, .agg (zi (zh (nd (nv a % mF f))))), (20, .agg (zi (zh b))), (21, .agg (zi (zh (nd (mF f)))))] → Ev w [] wo [.box bk1 (zh a) 34, .box bk6 (zh b) 34, .box bk11 (zh (ze 4 0)) 34, .box bk36 (zh (nd (mF f))) 34] → G 8 #[true, true, true, true, true, false, false, false, false, false, false, false, false] ac wo := by
   intro _ _ En747 Hv748
   refine Zi hG ?_
   refine Qc [5, 10] (by kernel_rfl) rfl ?_
   refine ⟨?_, ?_, trivial⟩
   ·
    rintro _ rfl
    refine c_p En747 Hv748 (right_mF _ f hf b hb) fun _ _ En754 Hv755 => ?_
    refine ⟨fun _ => Hv755.pk [0, 1, 3], ?_⟩
    exact Qe hG (by kernel_rfl) (nd700 _ _ (En754.sb) (Hv755.pk [0, 1, 2, 3]))
   rintro _ rfl
   refine m_z 34 (zh (ze 4 0)) En747 Hv748 fun _ _ bk756 En759 Hv760 => ?_
   refine ⟨fun _ => Hv760.pk [0, 1, 3], ?_⟩
   exact Qe hG (by kernel_rfl) (nd717 _ _ bk756 (En759.sb) (Hv760.pk [0, 1, 2, 3, 4]))
  have nd761 : ∀ (ac : Act) (wo : World) (bk628 : Nat), Env ac 39 [(0, .int .i64 f), (6, pt bk11), (7, pt bk36), (8, pt bk628), (17, .agg (zi (zh a))), (18, .agg (zi (zh (nd (mF f))))), (20, .agg (zi (zh b))), (21, .agg (zi (zh (nd (mF f)))))] → Ev w [] wo [.box bk1 (zh a) 34, .box bk6 (zh b) 34, .box bk11 (zh (ze 4 0)) 34, .box bk36 (zh (nd (mF f))) 34, .box bk628 (zh (ze 4 0)) 34] → G 8 #[true, true, false, true, true, false, false, false, false, false, true, false, false] ac wo := by
   intro _ _ bk628 En764 Hv765
   refine Zi hG ?_
   refine q_t 2 ?_
   refine c_p En764 Hv765 (right_mF _ f hf a ha) fun _ _ En771 Hv772 => ?_
   refine ⟨fun _ => Hv772.pk [0, 1, 3], ?_⟩
   refine q_t 5 ?_
   refine c_p En771 Hv772 (right_mF _ f hf b hb) fun _ _ En778 Hv779 => ?_
   refine ⟨fun _ => Hv779.pk [0, 1, 3], ?_⟩
   refine q_t 6 ?_
   refine c_p En778 Hv779 (plus_nd_go _ (nv a % mF f) (nv b % mF f) (ZU hf) (ZU hf)) fun _ _ En785 Hv786 => ?_
   refine ⟨fun _ => Hv786.pk [0, 1, 3], ?_⟩
   refine q_s [7,8,9] [] 2 En785 (Hv786.pk [0, 1, 3]) fun _ En788 => ?_
   refine q_t 11 ?_
   refine m_g 4 0 4 (zh (nd (nv a % mF f + nv b % mF f))) _ [.box bk1 (zh a) 34, .box bk6 (zh b) 34, .box bk11 (zh (ze 4 0)) 34, .box bk36 (zh (nd (mF f))) 34, .box bk628 (zh (nd (nv a % mF f + nv b % mF f))) 34] En788 Hv786 rfl (zc (zl _ _)) (by rw [(zc (zf))]; first | decide | (simp; done)) (zv _) (zs (zc (zf))) rfl fun _ _ En791 Hv792 => ?_
   refine ⟨fun _ => Hv792.pk [0, 1, 3], ?_⟩
   refine q_s [12] [] 0 En791 (Hv792.pk [0, 1, 3]) fun _ En794 => ?_
   exact h_e ⟨bk628, En794.sb, Hv792.pk [2, 3, 4]⟩
  refine Zi hG ?_
  refine q_r 0 (s := Instr.loadAt 34 (pt bk1)) (v := .agg (zi (zh a))) En43 (fun w hS => zR (m := 4) (cs := zh a) (zc ha) (by kernel_rfl) (by kernel_rfl) (hS.heap.cells (k := 0) (off := 0) (m := 4) rfl (zq (zc ha)))) (wo45.pk [0, 1, 3]) fun _ En796 => ?_
  refine q_r 1 (s := Instr.loadAt 34 (pt bk36)) (v := .agg (zi (zh (nd (mF f))))) En796 (fun w hS => zR (m := 4) (cs := zh (nd (mF f))) (zc (zl _ _)) (by kernel_rfl) (by kernel_rfl) (hS.heap.cells (k := 2) (off := 0) (m := 4) rfl (zq (zc (zl _ _))))) (wo45.pk [0, 1, 3]) fun _ En798 => ?_
  refine q_r 3 (s := Instr.loadAt 34 (pt bk6)) (v := .agg (zi (zh b))) En798 (fun w hS => zR (m := 4) (cs := zh b) (zc hb) (by kernel_rfl) (by kernel_rfl) (hS.heap.cells (k := 1) (off := 0) (m := 4) rfl (zq (zc hb)))) (wo45.pk [0, 1, 3]) fun _ En800 => ?_
  refine q_r 4 (s := Instr.loadAt 34 (pt bk36)) (v := .agg (zi (zh (nd (mF f))))) En800 (fun w hS => zR (m := 4) (cs := zh (nd (mF f))) (zc (zl _ _)) (by kernel_rfl) (by kernel_rfl) (hS.heap.cells (k := 2) (off := 0) (m := 4) rfl (zq (zc (zl _ _))))) (wo45.pk [0, 1, 3]) fun _ En802 => ?_
  refine Qc [2, 10] (by kernel_rfl) rfl ?_
  refine ⟨?_, ?_, trivial⟩
  ·
   rintro _ rfl
   refine c_p En802 wo45 (right_mF _ f hf a ha) fun _ _ En808 Hv809 => ?_
   refine ⟨fun _ => Hv809.pk [0, 1, 3], ?_⟩
   exact Qe hG (by kernel_rfl) (nd744 _ _ (En808.sb) (Hv809.pk [0, 1, 2, 3]))
  rintro _ rfl
  refine m_z 34 (zh (ze 4 0)) En802 wo45 fun _ _ bk810 En813 Hv814 => ?_
  refine ⟨fun _ => Hv814.pk [0, 1, 3], ?_⟩
  exact Qe hG (by kernel_rfl) (nd761 _ _ bk810 (En813.sb) (Hv814.pk [0, 1, 2, 3, 4]))
 rintro _ _ ⟨bk570, En817, Hv818⟩
 refine zg <| wp_seq <| wp_seq <| zm <| d_k [0,6,7,8,28] [(1, g_b (show (((zB (u1 (zZ ≤ nv a % mF f + nv b % mF f)) : Nat) : Int) == (1 : Int)) = decide (zZ ≤ nv a % mF f + nv b % mF f) from u1_one _))] 3 En817 fun _ En820 => ?_
 rcases ZC (decide (zZ ≤ nv a % mF f + nv b % mF f)) with hb821 | hb821
 ·
  have En822 := En820.fx (t := 28) (congrArg Value.bool hb821)
  have hp823 : zZ ≤ nv a % mF f + nv b % mF f := of_decide_eq_true hb821
  refine d_e [0,6,7,8,31] [] En822 fun _ En825 => ?_
  refine zg <| c_t En825 ?_
  refine zm <| f_o <| m_a 2 0 4 (zh (nd (nv a % mF f + nv b % mF f))) En825 Hv818 rfl (zq (zc (zl _ _))) (zc (zl _ _)) fun _ En827 => ?_
  refine f_o <| m_a 1 0 4 (zh (nd (mF f))) En827 Hv818 rfl (zq (zc (zl _ _))) (zc (zl _ _)) fun _ En829 => ?_
  refine f_o <| c_p En829 Hv818 (Jm _ (nd (nv a % mF f + nv b % mF f)) (nd (mF f)) (zl _ _) (zl _ _)) fun _ _ En835 Hv836 => ?_
  refine d_k [0,6,7,8,36] [] 6 En835 fun _ En838 => ?_
  refine f_o <| m_g 2 0 4 (zh (nd (nv (nd (nv a % mF f + nv b % mF f)) + zZ - nv (nd (mF f))))) _ [.box bk11 (zh (ze 4 0)) 34, .box bk36 (zh (nd (mF f))) 34, .box bk570 (zh (nd (nv (nd (nv a % mF f + nv b % mF f)) + zZ - nv (nd (mF f))))) 34] En838 Hv836 rfl (zc (zl _ _)) (by rw [(zc (zl _ _))]; first | decide | (simp; done)) (zv _) (zs (zc (zl _ _))) rfl fun _ _ En841 Hv842 => ?_
  refine f_e <| zg <| wp_seq <| zm <| f_o <| m_a 2 0 4 (zh (nd (nv (nd (nv a % mF f + nv b % mF f)) + zZ - nv (nd (mF f))))) En841 Hv842 rfl (zq (zc (zl _ _))) (zc (zl _ _)) fun _ En844 => ?_
  refine f_o <| m_g 0 0 4 (zh (nd (nv (nd (nv a % mF f + nv b % mF f)) + zZ - nv (nd (mF f))))) _ [.box bk11 (zh (nd (nv (nd (nv a % mF f + nv b % mF f)) + zZ - nv (nd (mF f))))) 34, .box bk36 (zh (nd (mF f))) 34, .box bk570 (zh (nd (nv (nd (nv a % mF f + nv b % mF f)) + zZ - nv (nd (mF f))))) 34] En844 Hv842 rfl (zc (zl _ _)) (by rw [(zc (zf))]; first | decide | (simp; done)) (zv _) (zs (zc (zf))) rfl fun _ _ En847 Hv848 => ?_
  refine f_e <| zg <| wp_ret <| Zj (v := .agg (zi (zh (nd (nv (nd (nv a % mF f + nv b % mF f)) + zZ - nv (nd (mF f))))))) (t := 6) (T := 34) (ad := ⟨bk11, 0, none⟩) En847 (by kernel_rfl) (by kernel_rfl) (zM (t := 34) (k := 0) (off := 0) (m := 4) (xs := zh (nd (nv (nd (nv a % mF f + nv b % mF f)) + zZ - nv (nd (mF f))))) Hv848 rfl (zq (zc (zl _ _))) (zc (zl _ _)) (by kernel_rfl) (by kernel_rfl)) ?_
  have e : nd (nv (nd (nv a % mF f + nv b % mF f)) + zZ - nv (nd (mF f))) = nd (addM f (nv a) (nv b)) := by rw [← add_mM]; first | exact add_fin1 hla hlb hmw (by first | (left; assumption) | (right; assumption)) | exact add_fin2 hmw (by assumption) (by assumption)
  exact ⟨by rw [e], Hv848.pk []⟩
 have En849 := En820.fx (t := 28) (congrArg Value.bool hb821)
 have hp850 : ¬ (zZ ≤ nv a % mF f + nv b % mF f) := of_decide_eq_false hb821
 refine f_o <| c_l [2,1] (M := [.box bk570 (zh (nd (nv a % mF f + nv b % mF f))) 34, .box bk36 (zh (nd (mF f))) 34]) En849 Hv818 (fun hM851 => less_go _ bk570 bk36 (nd (nv a % mF f + nv b % mF f)) (nd (mF f)) (zl _ _) (zl _ _) hM851) ?_
 rintro _ _ ⟨rfl, he853⟩
 refine ⟨_, _, [.box bk570 (zh (nd (nv a % mF f + nv b % mF f))) 34, .box bk36 (zh (nd (mF f))) 34, .box bk11 (zh (ze 4 0)) 34], rfl, he853, by kernel_rfl, fun _ En856 Hv857 => ?_⟩
 refine d_e [0,6,7,8,31] [] En856 fun _ En859 => ?_
 refine zg <| cond_at En859 (t := !(decide (nv (nd (nv a % mF f + nv b % mF f)) < nv (nd (mF f))))) (by kernel_rfl) (fun hc860 => ?_) (fun hc860 => ?_)
 ·
  replace hc860 : ¬ (nv (nd (nv a % mF f + nv b % mF f)) < nv (nd (mF f))) := by simpa using hc860
  refine zm <| f_o <| m_a 0 0 4 (zh (nd (nv a % mF f + nv b % mF f))) En859 Hv857 rfl (zq (zc (zl _ _))) (zc (zl _ _)) fun _ En862 => ?_
  refine f_o <| m_a 1 0 4 (zh (nd (mF f))) En862 Hv857 rfl (zq (zc (zl _ _))) (zc (zl _ _)) fun _ En864 => ?_
  refine f_o <| c_p En864 Hv857 (Jm _ (nd (nv a % mF f + nv b % mF f)) (nd (mF f)) (zl _ _) (zl _ _)) fun _ _ En870 Hv871 => ?_
  refine d_k [0,6,7,8,36] [] 6 En870 fun _ En873 => ?_
  refine f_o <| m_g 0 0 4 (zh (nd (nv (nd (nv a % mF f + nv b % mF f)) + zZ - nv (nd (mF f))))) _ [.box bk570 (zh (nd (nv (nd (nv a % mF f + nv b % mF f)) + zZ - nv (nd (mF f))))) 34, .box bk36 (zh (nd (mF f))) 34, .box bk11 (zh (ze 4 0)) 34] En873 Hv871 rfl (zc (zl _ _)) (by rw [(zc (zl _ _))]; first | decide | (simp; done)) (zv _) (zs (zc (zl _ _))) rfl fun _ _ En876 Hv877 => ?_
  refine f_e <| zg <| wp_seq <| zm <| f_o <| m_a 0 0 4 (zh (nd (nv (nd (nv a % mF f + nv b % mF f)) + zZ - nv (nd (mF f))))) En876 Hv877 rfl (zq (zc (zl _ _))) (zc (zl _ _)) fun _ En879 => ?_
  refine f_o <| m_g 2 0 4 (zh (nd (nv (nd (nv a % mF f + nv b % mF f)) + zZ - nv (nd (mF f))))) _ [.box bk570 (zh (nd (nv (nd (nv a % mF f + nv b % mF f)) + zZ - nv (nd (mF f))))) 34, .box bk36 (zh (nd (mF f))) 34, .box bk11 (zh (nd (nv (nd (nv a % mF f + nv b % mF f)) + zZ - nv (nd (mF f))))) 34] En879 Hv877 rfl (zc (zl _ _)) (by rw [(zc (zf))]; first | decide | (simp; done)) (zv _) (zs (zc (zf))) rfl fun _ _ En882 Hv883 => ?_
  refine f_e <| zg <| wp_ret <| Zj (v := .agg (zi (zh (nd (nv (nd (nv a % mF f + nv b % mF f)) + zZ - nv (nd (mF f))))))) (t := 6) (T := 34) (ad := ⟨bk11, 0, none⟩) En882 (by kernel_rfl) (by kernel_rfl) (zM (t := 34) (k := 2) (off := 0) (m := 4) (xs := zh (nd (nv (nd (nv a % mF f + nv b % mF f)) + zZ - nv (nd (mF f))))) Hv883 rfl (zq (zc (zl _ _))) (zc (zl _ _)) (by kernel_rfl) (by kernel_rfl)) ?_
  have e : nd (nv (nd (nv a % mF f + nv b % mF f)) + zZ - nv (nd (mF f))) = nd (addM f (nv a) (nv b)) := by rw [← add_mM]; first | exact add_fin1 hla hlb hmw (by first | (left; assumption) | (right; assumption)) | exact add_fin2 hmw (by assumption) (by assumption)
  exact ⟨by rw [e], Hv883.pk []⟩
 replace hc860 : nv (nd (nv a % mF f + nv b % mF f)) < nv (nd (mF f)) := by simpa using hc860
 refine wp_skip <| zg <| wp_seq <| zm <| f_o <| m_a 0 0 4 (zh (nd (nv a % mF f + nv b % mF f))) En859 Hv857 rfl (zq (zc (zl _ _))) (zc (zl _ _)) fun _ En885 => ?_
 refine f_o <| m_g 2 0 4 (zh (nd (nv a % mF f + nv b % mF f))) _ [.box bk570 (zh (nd (nv a % mF f + nv b % mF f))) 34, .box bk36 (zh (nd (mF f))) 34, .box bk11 (zh (nd (nv a % mF f + nv b % mF f))) 34] En885 Hv857 rfl (zc (zl _ _)) (by rw [(zc (zf))]; first | decide | (simp; done)) (zv _) (zs (zc (zf))) rfl fun _ _ En888 Hv889 => ?_
 refine f_e <| zg <| wp_ret <| Zj (v := .agg (zi (zh (nd (nv a % mF f + nv b % mF f))))) (t := 6) (T := 34) (ad := ⟨bk11, 0, none⟩) En888 (by kernel_rfl) (by kernel_rfl) (zM (t := 34) (k := 2) (off := 0) (m := 4) (xs := zh (nd (nv a % mF f + nv b % mF f))) Hv889 rfl (zq (zc (zl _ _))) (zc (zl _ _)) (by kernel_rfl) (by kernel_rfl)) ?_
 have e : nd (nv a % mF f + nv b % mF f) = nd (addM f (nv a) (nv b)) := by rw [← add_mM]; first | exact add_fin1 hla hlb hmw (by first | (left; assumption) | (right; assumption)) | exact add_fin2 hmw (by assumption) (by assumption)
 exact ⟨by rw [e], Hv889.pk []⟩

theorem sub_go (w : World) (f : Int) (hf : f = 1 ∨ f = 2 ∨ f = 3 ∨ f = 4) (a b : List UInt64) (ha : za a = 4) (hb : za b = 4) : Calls Tryd.prog 58 #[.int .i64 f, .agg (zi (zh a)), .agg (zi (zh b))] w fun e w' => e = .returned (.agg (zi (zh (nd (subM f (nv a) (nv b)))))) ∧ Ev w [] w' [] := by
 have hla : nv a % mF f < mF f := ZB _ (Z4 QZ (Jz hf))
 have hlb : nv b % mF f < mF f := ZB _ (Z4 QZ (Jz hf))
 have hmw := mF_lt f
 refine d_0 [(0, .int .i64 f), (1, .agg (zi (zh a))), (2, .agg (zi (zh b)))] 35 Go.Proofs.Tryd.func58 Go.Proofs.Tryd.ntmps58 (Heap.nil _) fun act0 En0 Hv0 => ?_
 refine wp_seq <| zm <| f_o <| m_m 34 (zh a) En0 Hv0 fun _ _ bk1 En4 Hv5 => ?_
 refine f_o <| m_m 34 (zh b) En4 Hv5 fun _ _ bk6 En9 Hv10 => ?_
 refine f_o <| m_z 34 (zh (ze 4 0)) En9 Hv10 fun _ _ bk11 En14 Hv15 => ?_
 refine f_e <| zg <| wp_seq <| wp_seq <| zm <| d_k [0,4,5,6,10] [] 1 En14 fun _ En17 => ?_
 refine f_o <| c_p En17 Hv15 (is_go_yes _ f hf) fun _ _ En23 Hv24 => ?_
 refine d_e [0,4,5,6,12] [] En23 fun _ En26 => ?_
 refine zg <| c_f En26 ?_
 refine wp_skip <| zg <| wp_seq <| zm <| d_k [0,4,5,6,14] [] 1 En26 fun _ En28 => ?_
 refine f_o <| c_p En28 Hv24 (modulus_go _ f) fun _ _ En34 Hv35 => ?_
 refine f_o <| m_z 34 (zh (ze 4 0)) En34 Hv35 fun _ _ bk36 En39 Hv40 => ?_
 refine f_o <| m_g 3 0 4 (zh (nd (mF f))) _ [.box bk1 (zh a) 34, .box bk6 (zh b) 34, .box bk11 (zh (ze 4 0)) 34, .box bk36 (zh (nd (mF f))) 34] En39 Hv40 rfl (zc (zl _ _)) (by rw [(zc (zf))]; first | decide | (simp; done)) (zv _) (zs (zc (zf))) rfl fun _ _ En43 Hv44 => ?_
 refine f_e <| zg <| wp_seq <| r_c (fun ac wo => ∃ (bk570 : Nat), Env ac 35 [(0, .int .i64 f), (6, pt bk11), (7, pt bk36), (8, pt bk570), (9, zn (u1 (nv a % mF f < nv b % mF f)))] ∧ Ev w [] wo [.box bk11 (zh (ze 4 0)) 34, .box bk36 (zh (nd (mF f))) 34, .box bk570 (zh (nd (nv a % mF f + zZ - (nv b % mF f)))) 34]) ?_ ?_
 ·
  refine h_s (fun wv => Ev w [] wv [.box bk1 (zh a) 34, .box bk6 (zh b) 34, .box bk36 (zh (nd (mF f))) 34]) [] 13 ?_
  have wo45 := Hv44.trans (z4 Hv44.heap)
  refine h_name fun G hG => ?_
  have nd662 : ∀ (ac : Act) (wo : World), Env ac 35 [(0, .int .i64 f), (6, pt bk11), (7, pt bk36), (23, .tuple #[.agg (zi (zh (nd (nv a % mF f + zZ - (nv b % mF f))))), zn (u1 (nv a % mF f < nv b % mF f))])] → Ev w [] wo [.box bk1 (zh a) 34, .box bk6 (zh b) 34, .box bk11 (zh (ze 4 0)) 34, .box bk36 (zh (nd (mF f))) 34] → G 6 #[true, true, true, true, true, true, true, false, false, false, false, false, false] ac wo := by
   intro _ _ En665 Hv666
   refine Zi hG ?_
   refine q_s [7,8,9] [] 3 En665 (Hv666.pk [0, 1, 3]) fun _ En668 => ?_
   refine q_t 10 ?_
   refine m_z 34 (zh (ze 4 0)) En668 Hv666 fun _ _ bk669 En672 Hv673 => ?_
   refine ⟨fun _ => Hv673.pk [0, 1, 3], ?_⟩
   refine q_t 11 ?_
   refine m_g 4 0 4 (zh (nd (nv a % mF f + zZ - (nv b % mF f)))) _ [.box bk1 (zh a) 34, .box bk6 (zh b) 34, .box bk11 (zh (ze 4 0)) 34, .box bk36 (zh (nd (mF f))) 34, .box bk669 (zh (nd (nv a % mF f + zZ - (nv b % mF f)))) 34] En672 Hv673 rfl (zc (zl _ _)) (by rw [(zc (zf))]; first | decide | (simp; done)) (zv _) (zs (zc (zf))) rfl fun _ _ En676 Hv677 => ?_
   refine ⟨fun _ => Hv677.pk [0, 1, 3], ?_⟩
   refine q_s [12] [] 0 En676 (Hv677.pk [0, 1, 3]) fun _ En679 => ?_
   exact h_e ⟨bk669, En679.sb, Hv677.pk [2, 3, 4]⟩
  have nd680 : ∀ (ac : Act) (wo : World) (bk581 : Nat), Env ac 35 [(0, .int .i64 f), (6, pt bk11), (7, pt bk36), (8, pt bk581), (19, .agg (zi (zh (nd (nv a % mF f))))), (22, .agg (zi (zh (nd (nv b % mF f)))))] → Ev w [] wo [.box bk1 (zh a) 34, .box bk6 (zh b) 34, .box bk11 (zh (ze 4 0)) 34, .box bk36 (zh (nd (mF f))) 34, .box bk581 (zh (ze 4 0)) 34] → G 6 #[true, true, true, true, true, true, false, false, false, false, true, false, false] ac wo := by
   intro _ _ bk581 En683 Hv684
   refine Zi hG ?_
   refine q_t 6 ?_
   refine c_p En683 Hv684 (minus_nd_go _ (nv a % mF f) (nv b % mF f) (ZU hf) (ZU hf)) fun _ _ En690 Hv691 => ?_
   refine ⟨fun _ => Hv691.pk [0, 1, 3], ?_⟩
   refine q_s [7,8,9] [] 2 En690 (Hv691.pk [0, 1, 3]) fun _ En693 => ?_
   refine q_t 11 ?_
   refine m_g 4 0 4 (zh (nd (nv a % mF f + zZ - (nv b % mF f)))) _ [.box bk1 (zh a) 34, .box bk6 (zh b) 34, .box bk11 (zh (ze 4 0)) 34, .box bk36 (zh (nd (mF f))) 34, .box bk581 (zh (nd (nv a % mF f + zZ - (nv b % mF f)))) 34] En693 Hv691 rfl (zc (zl _ _)) (by rw [(zc (zf))]; first | decide | (simp; done)) (zv _) (zs (zc (zf))) rfl fun _ _ En696 Hv697 => ?_
   refine ⟨fun _ => Hv697.pk [0, 1, 3], ?_⟩
   refine q_s [12] [] 0 En696 (Hv697.pk [0, 1, 3]) fun _ En699 => ?_
   exact h_e ⟨bk581, En699.sb, Hv697.pk [2, 3, 4]⟩
  have nd700 : ∀ (ac : Act) (wo : World), Env ac 35 [(0, .int .i64 f), (6, pt bk11), (7, pt bk36), (19, .agg (zi (zh (nd (nv a % mF f))))), (22, .agg (zi (zh (nd (nv b % mF f)))))] → Ev w [] wo [.box bk1 (zh a) 34, .box bk6 (zh b) 34, .box bk11 (zh (ze 4 0)) 34, .box bk36 (zh (nd (mF f))) 34] → G 7 #[true, true, true, true, true, true, false, false, false, false, false, false, false] ac wo := by
   intro _ _ En703 Hv704
   refine Zi hG ?_
   refine Qc [6, 10] (by kernel_rfl) rfl ?_
   refine ⟨?_, ?_, trivial⟩
   ·
    rintro _ rfl
    refine c_p En703 Hv704 (minus_nd_go _ (nv a % mF f) (nv b % mF f) (ZU hf) (ZU hf)) fun _ _ En710 Hv711 => ?_
    refine ⟨fun _ => Hv711.pk [0, 1, 3], ?_⟩
    exact Qe hG (by kernel_rfl) (nd662 _ _ (En710.sb) (Hv711.pk [0, 1, 2, 3]))
   rintro _ rfl
   refine m_z 34 (zh (ze 4 0)) En703 Hv704 fun _ _ bk712 En715 Hv716 => ?_
   refine ⟨fun _ => Hv716.pk [0, 1, 3], ?_⟩
   exact Qe hG (by kernel_rfl) (nd680 _ _ bk712 (En715.sb) (Hv716.pk [0, 1, 2, 3, 4]))
  have nd717 : ∀ (ac : Act) (wo : World) (bk601 : Nat), Env ac 35 [(0, .int .i64 f), (6, pt bk11), (7, pt bk36), (8, pt bk601), (19, .agg (zi (zh (nd (nv a % mF f))))), (20, .agg (zi (zh b))), (21, .agg (zi (zh (nd (mF f)))))] → Ev w [] wo [.box bk1 (zh a) 34, .box bk6 (zh b) 34, .box bk11 (zh (ze 4 0)) 34, .box bk36 (zh (nd (mF f))) 34, .box bk601 (zh (ze 4 0)) 34] → G 7 #[true, true, true, true, true, false, false, false, false, false, true, false, false] ac wo := by
   intro _ _ bk601 En720 Hv721
   refine Zi hG ?_
   refine q_t 5 ?_
   refine c_p En720 Hv721 (right_mF _ f hf b hb) fun _ _ En727 Hv728 => ?_
   refine ⟨fun _ => Hv728.pk [0, 1, 3], ?_⟩
   refine q_t 6 ?_
   refine c_p En727 Hv728 (minus_nd_go _ (nv a % mF f) (nv b % mF f) (ZU hf) (ZU hf)) fun _ _ En734 Hv735 => ?_
   refine ⟨fun _ => Hv735.pk [0, 1, 3], ?_⟩
   refine q_s [7,8,9] [] 2 En734 (Hv735.pk [0, 1, 3]) fun _ En737 => ?_
   refine q_t 11 ?_
   refine m_g 4 0 4 (zh (nd (nv a % mF f + zZ - (nv b % mF f)))) _ [.box bk1 (zh a) 34, .box bk6 (zh b) 34, .box bk11 (zh (ze 4 0)) 34, .box bk36 (zh (nd (mF f))) 34, .box bk601 (zh (nd (nv a % mF f + zZ - (nv b % mF f)))) 34] En737 Hv735 rfl (zc (zl _ _)) (by rw [(zc (zf))]; first | decide | (simp; done)) (zv _) (zs (zc (zf))) rfl fun _ _ En740 Hv741 => ?_
   refine ⟨fun _ => Hv741.pk [0, 1, 3], ?_⟩
   refine q_s [12] [] 0 En740 (Hv741.pk [0, 1, 3]) fun _ En743 => ?_
   exact h_e ⟨bk601, En743.sb, Hv741.pk [2, 3, 4]⟩
  have nd744 : ∀ (ac : Act) (wo : World), Env ac 35 [(0, .int .i64 f), (6, pt bk11), (7, pt bk36), (19, .agg (zi (zh (nd (nv a % mF f))))), (20, .agg (zi (zh b))), (21, .agg (zi (zh (nd (mF f)))))] → Ev w [] wo [.box bk1 (zh a) 34, .box bk6 (zh b) 34, .box bk11 (zh (ze 4 0)) 34, .box bk36 (zh (nd (mF f))) 34] → G 8 #[true, true, true, true, true, false, false, false, false, false, false, false, false] ac wo := by
   intro _ _ En747 Hv748
   refine Zi hG ?_
   refine Qc [5, 10] (by kernel_rfl) rfl ?_
   refine ⟨?_, ?_, trivial⟩
   ·
    rintro _ rfl
    refine c_p En747 Hv748 (right_mF _ f hf b hb) fun _ _ En754 Hv755 => ?_
    refine ⟨fun _ => Hv755.pk [0, 1, 3], ?_⟩
    exact Qe hG (by kernel_rfl) (nd700 _ _ (En754.sb) (Hv755.pk [0, 1, 2, 3]))
   rintro _ rfl
   refine m_z 34 (zh (ze 4 0)) En747 Hv748 fun _ _ bk756 En759 Hv760 => ?_
   refine ⟨fun _ => Hv760.pk [0, 1, 3], ?_⟩
   exact Qe hG (by kernel_rfl) (nd717 _ _ bk756 (En759.sb) (Hv760.pk [0, 1, 2, 3, 4]))
  have nd761 : ∀ (ac : Act) (wo : World) (bk628 : Nat), Env ac 35 [(0, .int .i64 f), (6, pt bk11), (7, pt bk36), (8, pt bk628), (17, .agg (zi (zh a))), (18, .agg (zi (zh (nd (mF f))))), (20, .agg (zi (zh b))), (21, .agg (zi (zh (nd (mF f)))))] → Ev w [] wo [.box bk1 (zh a) 34, .box bk6 (zh b) 34, .box bk11 (zh (ze 4 0)) 34, .box bk36 (zh (nd (mF f))) 34, .box bk628 (zh (ze 4 0)) 34] → G 8 #[true, true, false, true, true, false, false, false, false, false, true, false, false] ac wo := by
   intro _ _ bk628 En764 Hv765
   refine Zi hG ?_
   refine q_t 2 ?_
   refine c_p En764 Hv765 (right_mF _ f hf a ha) fun _ _ En771 Hv772 => ?_
   refine ⟨fun _ => Hv772.pk [0, 1, 3], ?_⟩
   refine q_t 5 ?_
   refine c_p En771 Hv772 (right_mF _ f hf b hb) fun _ _ En778 Hv779 => ?_
   refine ⟨fun _ => Hv779.pk [0, 1, 3], ?_⟩
   refine q_t 6 ?_
   refine c_p En778 Hv779 (minus_nd_go _ (nv a % mF f) (nv b % mF f) (ZU hf) (ZU hf)) fun _ _ En785 Hv786 => ?_
   refine ⟨fun _ => Hv786.pk [0, 1, 3], ?_⟩
   refine q_s [7,8,9] [] 2 En785 (Hv786.pk [0, 1, 3]) fun _ En788 => ?_
   refine q_t 11 ?_
   refine m_g 4 0 4 (zh (nd (nv a % mF f + zZ - (nv b % mF f)))) _ [.box bk1 (zh a) 34, .box bk6 (zh b) 34, .box bk11 (zh (ze 4 0)) 34, .box bk36 (zh (nd (mF f))) 34, .box bk628 (zh (nd (nv a % mF f + zZ - (nv b % mF f)))) 34] En788 Hv786 rfl (zc (zl _ _)) (by rw [(zc (zf))]; first | decide | (simp; done)) (zv _) (zs (zc (zf))) rfl fun _ _ En791 Hv792 => ?_
   refine ⟨fun _ => Hv792.pk [0, 1, 3], ?_⟩
   refine q_s [12] [] 0 En791 (Hv792.pk [0, 1, 3]) fun _ En794 => ?_
   exact h_e ⟨bk628, En794.sb, Hv792.pk [2, 3, 4]⟩
  refine Zi hG ?_
  refine q_r 0 (s := Instr.loadAt 34 (pt bk1)) (v := .agg (zi (zh a))) En43 (fun w hS => zR (m := 4) (cs := zh a) (zc ha) (by kernel_rfl) (by kernel_rfl) (hS.heap.cells (k := 0) (off := 0) (m := 4) rfl (zq (zc ha)))) (wo45.pk [0, 1, 3]) fun _ En796 => ?_
  refine q_r 1 (s := Instr.loadAt 34 (pt bk36)) (v := .agg (zi (zh (nd (mF f))))) En796 (fun w hS => zR (m := 4) (cs := zh (nd (mF f))) (zc (zl _ _)) (by kernel_rfl) (by kernel_rfl) (hS.heap.cells (k := 2) (off := 0) (m := 4) rfl (zq (zc (zl _ _))))) (wo45.pk [0, 1, 3]) fun _ En798 => ?_
  refine q_r 3 (s := Instr.loadAt 34 (pt bk6)) (v := .agg (zi (zh b))) En798 (fun w hS => zR (m := 4) (cs := zh b) (zc hb) (by kernel_rfl) (by kernel_rfl) (hS.heap.cells (k := 1) (off := 0) (m := 4) rfl (zq (zc hb)))) (wo45.pk [0, 1, 3]) fun _ En800 => ?_
  refine q_r 4 (s := Instr.loadAt 34 (pt bk36)) (v := .agg (zi (zh (nd (mF f))))) En800 (fun w hS => zR (m := 4) (cs := zh (nd (mF f))) (zc (zl _ _)) (by kernel_rfl) (by kernel_rfl) (hS.heap.cells (k := 2) (off := 0) (m := 4) rfl (zq (zc (zl _ _))))) (wo45.pk [0, 1, 3]) fun _ En802 => ?_
  refine Qc [2, 10] (by kernel_rfl) rfl ?_
  refine ⟨?_, ?_, trivial⟩
  ·
   rintro _ rfl
   refine c_p En802 wo45 (right_mF _ f hf a ha) fun _ _ En808 Hv809 => ?_
   refine ⟨fun _ => Hv809.pk [0, 1, 3], ?_⟩
   exact Qe hG (by kernel_rfl) (nd744 _ _ (En808.sb) (Hv809.pk [0, 1, 2, 3]))
  rintro _ rfl
  refine m_z 34 (zh (ze 4 0)) En802 wo45 fun _ _ bk810 En813 Hv814 => ?_
  refine ⟨fun _ => Hv814.pk [0, 1, 3], ?_⟩
  exact Qe hG (by kernel_rfl) (nd761 _ _ bk810 (En813.sb) (Hv814.pk [0, 1, 2, 3, 4]))
 rintro _ _ ⟨bk570, En817, Hv818⟩
 refine zg <| wp_seq <| d_s [0,6,7,8,27] [(1, g_b (show (((zB (u1 (nv a % mF f < nv b % mF f)) : Nat) : Int) == (1 : Int)) = decide (nv a % mF f < nv b % mF f) from u1_one _))] En817 fun _ En820 => ?_
 refine c_d (nv a % mF f < nv b % mF f) En820 (fun hc821 => ?_) (fun hc821 => ?_)
 ·
  refine zm <| f_o <| m_a 2 0 4 (zh (nd (nv a % mF f + zZ - (nv b % mF f)))) En820 Hv818 rfl (zq (zc (zl _ _))) (zc (zl _ _)) fun _ En823 => ?_
  refine f_o <| m_a 1 0 4 (zh (nd (mF f))) En823 Hv818 rfl (zq (zc (zl _ _))) (zc (zl _ _)) fun _ En825 => ?_
  refine f_o <| c_p En825 Hv818 (plus_go _ (nd (nv a % mF f + zZ - (nv b % mF f))) (nd (mF f)) (zl _ _) (zl _ _)) fun _ _ En831 Hv832 => ?_
  refine d_k [0,6,7,8,32] [] 6 En831 fun _ En834 => ?_
  refine f_o <| m_g 2 0 4 (zh (nd (nv (nd (nv a % mF f + zZ - (nv b % mF f))) + nv (nd (mF f))))) _ [.box bk11 (zh (ze 4 0)) 34, .box bk36 (zh (nd (mF f))) 34, .box bk570 (zh (nd (nv (nd (nv a % mF f + zZ - (nv b % mF f))) + nv (nd (mF f))))) 34] En834 Hv832 rfl (zc (zl _ _)) (by rw [(zc (zl _ _))]; first | decide | (simp; done)) (zv _) (zs (zc (zl _ _))) rfl fun _ _ En837 Hv838 => ?_
  refine f_e <| zg <| wp_seq <| zm <| f_o <| m_a 2 0 4 (zh (nd (nv (nd (nv a % mF f + zZ - (nv b % mF f))) + nv (nd (mF f))))) En837 Hv838 rfl (zq (zc (zl _ _))) (zc (zl _ _)) fun _ En840 => ?_
  refine f_o <| m_g 0 0 4 (zh (nd (nv (nd (nv a % mF f + zZ - (nv b % mF f))) + nv (nd (mF f))))) _ [.box bk11 (zh (nd (nv (nd (nv a % mF f + zZ - (nv b % mF f))) + nv (nd (mF f))))) 34, .box bk36 (zh (nd (mF f))) 34, .box bk570 (zh (nd (nv (nd (nv a % mF f + zZ - (nv b % mF f))) + nv (nd (mF f))))) 34] En840 Hv838 rfl (zc (zl _ _)) (by rw [(zc (zf))]; first | decide | (simp; done)) (zv _) (zs (zc (zf))) rfl fun _ _ En843 Hv844 => ?_
  refine f_e <| zg <| wp_ret <| Zj (v := .agg (zi (zh (nd (nv (nd (nv a % mF f + zZ - (nv b % mF f))) + nv (nd (mF f))))))) (t := 6) (T := 34) (ad := ⟨bk11, 0, none⟩) En843 (by kernel_rfl) (by kernel_rfl) (zM (t := 34) (k := 0) (off := 0) (m := 4) (xs := zh (nd (nv (nd (nv a % mF f + zZ - (nv b % mF f))) + nv (nd (mF f))))) Hv844 rfl (zq (zc (zl _ _))) (zc (zl _ _)) (by kernel_rfl) (by kernel_rfl)) ?_
  have e : nd (nv (nd (nv a % mF f + zZ - (nv b % mF f))) + nv (nd (mF f))) = nd (subM f (nv a) (nv b)) := by first | exact sub_fin1 hla hlb hmw (by assumption) | exact sub_fin2 hla hlb hmw (by assumption)
  exact ⟨by rw [e], Hv844.pk []⟩
 refine wp_skip <| zg <| wp_seq <| zm <| f_o <| m_a 2 0 4 (zh (nd (nv a % mF f + zZ - (nv b % mF f)))) En820 Hv818 rfl (zq (zc (zl _ _))) (zc (zl _ _)) fun _ En846 => ?_
 refine f_o <| m_g 0 0 4 (zh (nd (nv a % mF f + zZ - (nv b % mF f)))) _ [.box bk11 (zh (nd (nv a % mF f + zZ - (nv b % mF f)))) 34, .box bk36 (zh (nd (mF f))) 34, .box bk570 (zh (nd (nv a % mF f + zZ - (nv b % mF f)))) 34] En846 Hv818 rfl (zc (zl _ _)) (by rw [(zc (zf))]; first | decide | (simp; done)) (zv _) (zs (zc (zf))) rfl fun _ _ En849 Hv850 => ?_
 refine f_e <| zg <| wp_ret <| Zj (v := .agg (zi (zh (nd (nv a % mF f + zZ - (nv b % mF f)))))) (t := 6) (T := 34) (ad := ⟨bk11, 0, none⟩) En849 (by kernel_rfl) (by kernel_rfl) (zM (t := 34) (k := 0) (off := 0) (m := 4) (xs := zh (nd (nv a % mF f + zZ - (nv b % mF f)))) Hv850 rfl (zq (zc (zl _ _))) (zc (zl _ _)) (by kernel_rfl) (by kernel_rfl)) ?_
 have e : nd (nv a % mF f + zZ - (nv b % mF f)) = nd (subM f (nv a) (nv b)) := by first | exact sub_fin1 hla hlb hmw (by assumption) | exact sub_fin2 hla hlb hmw (by assumption)
 exact ⟨by rw [e], Hv850.pk []⟩

theorem neg_go (w : World) (f : Int) (hf : (f = 1 ∨ f = 2 ∨ f = 3 ∨ f = 4)) (a : List UInt64) (ha : za a = 4) : Calls Tryd.prog 37 #[.int .i64 f, .agg (zi (zh a))] w fun e w' => e = .returned (.agg (zi (zh (nd (subM f 0 (nv a)))))) ∧ Ev w [] w' [] := by
 refine d_0 [(0, .int .i64 f), (1, .agg (zi (zh a)))] 9 Go.Proofs.Tryd.func37 Go.Proofs.Tryd.ntmps37 (Heap.nil _) fun act0 En0 Hv0 => ?_
 refine wp_seq <| zm <| f_o <| m_m 34 (zh a) En0 Hv0 fun _ _ bk1 En4 Hv5 => ?_
 refine f_o <| m_z 34 (zh (ze 4 0)) En4 Hv5 fun _ _ bk6 En9 Hv10 => ?_
 refine f_e <| zg <| wp_seq <| zm <| d_k [3,4,5,6] [] 2 En9 fun _ En12 => ?_
 refine f_o <| m_a 0 0 4 (zh a) En12 Hv10 rfl (zq (zc ha)) (zc ha) fun _ En14 => ?_
 refine f_o <| c_p En14 Hv10 (sub_go _ f hf ([0, 0, 0, 0] : List UInt64) a (show za ([0, 0, 0, 0] : List UInt64) = 4 from rfl) ha) fun _ _ En20 Hv21 => ?_
 refine f_o <| m_g 1 0 4 (zh (nd (subM f (nv ([0, 0, 0, 0] : List UInt64)) (nv a)))) _ [.box bk1 (zh a) 34, .box bk6 (zh (nd (subM f (nv ([0, 0, 0, 0] : List UInt64)) (nv a)))) 34] En20 Hv21 rfl (zc (zl _ _)) (by rw [(zc (zf))]; first | decide | (simp; done)) (zv _) (zs (zc (zf))) rfl fun _ _ En24 Hv25 => ?_
 refine f_e <| zg <| wp_ret <| Zj (v := .agg (zi (zh (nd (subM f (nv ([0, 0, 0, 0] : List UInt64)) (nv a)))))) (t := 4) (T := 34) (ad := ⟨bk6, 0, none⟩) En24 (by kernel_rfl) (by kernel_rfl) (zM (t := 34) (k := 1) (off := 0) (m := 4) (xs := zh (nd (subM f (nv ([0, 0, 0, 0] : List UInt64)) (nv a)))) Hv25 rfl (zq (zc (zl _ _))) (zc (zl _ _)) (by kernel_rfl) (by kernel_rfl)) ?_
 exact ⟨rfl, Hv25.pk []⟩

theorem rightq_go (w : World) (f : Int) (a : List UInt64) (ha : za a = 4) : Calls Tryd.prog 20 #[.int .i64 f, .agg (zi (zh a))] w fun e w' => e = .returned (.bool (decide (nv a < mF f))) ∧ Ev w [] w' [] := by
 refine d_0 [(0, .int .i64 f), (1, .agg (zi (zh a)))] 9 Go.Proofs.Tryd.func20 Go.Proofs.Tryd.ntmps20 (Heap.nil _) fun act0 En0 Hv0 => ?_
 refine wp_seq <| zm <| f_o <| m_m 34 (zh a) En0 Hv0 fun _ _ bk1 En4 Hv5 => ?_
 refine d_e [0,3,4] [] En4 fun _ En7 => ?_
 refine zg <| wp_seq <| zm <| d_k [3,4,6] [] 1 En7 fun _ En9 => ?_
 refine f_o <| c_p En9 Hv5 (modulus_go _ f) fun _ _ En15 Hv16 => ?_
 refine f_o <| m_z 34 (zh (ze 4 0)) En15 Hv16 fun _ _ bk17 En20 Hv21 => ?_
 refine f_o <| m_g 1 0 4 (zh (nd (mF f))) _ [.box bk1 (zh a) 34, .box bk17 (zh (nd (mF f))) 34] En20 Hv21 rfl (zc (zl _ _)) (by rw [(zc (zf))]; first | decide | (simp; done)) (zv _) (zs (zc (zf))) rfl fun _ _ En24 Hv25 => ?_
 refine f_e <| zg <| wp_seq <| zm <| f_o <| c_l [0,1] (M := [.box bk1 (zh a) 34, .box bk17 (zh (nd (mF f))) 34]) En24 Hv25 (fun hM26 => less_go _ bk1 bk17 a (nd (mF f)) ha (zl _ _) hM26) ?_
 rintro _ _ ⟨rfl, he28⟩
 refine ⟨_, _, [.box bk1 (zh a) 34, .box bk17 (zh (nd (mF f))) 34], rfl, he28, by kernel_rfl, fun _ En31 Hv32 => ?_⟩
 refine d_e [4,5] [] En31 fun _ En34 => ?_
 refine zg <| wp_ret <| d_ret1 (t := 4) (v := .bool (decide (nv a < nv (nd (mF f))))) En34 (by kernel_rfl) (by kernel_rfl) ?_
 exact ⟨by rw [nv_mF], Hv32.pk []⟩

end Go.Proofs.YtlnogkmnklfjlaaDoor

/- Layer 4, the document: compared, sums, differences, digits. -/

namespace Go.Proofs.YtlnogkmnklfjlaaDoor
open Go.Dbr
set_option maxRecDepth 100000
set_option maxHeartbeats 2000000
set_option linter.unusedVariables false
set_option linter.unusedSimpArgs false

theorem carry1 {x y : UInt64} : (if (x + y).toNat < x.toNat then (1 : UInt64) else 0) = zH x y 0 := by
  apply QR.1
  rw [Jf]
  have := lt64 x; have := lt64 y
  rw [ZH, show (0 : UInt64).toNat = 0 from rfl]
  split
  · rw [show (1 : UInt64).toNat = 1 from rfl]; omega
  · rw [show (0 : UInt64).toNat = 0 from rfl]; omega
theorem carry2 {x y c : UInt64} (h : c.toNat ≤ 1) : (if (x + y + c).toNat < (x + y).toNat then (1 : UInt64) else zH x y 0) = zH x y c := by
  apply QR.1
  have := lt64 x; have := lt64 y
  split
  · rename_i q
    rw [Jf, show (1 : UInt64).toNat = 1 from rfl]
    rw [ZH (x + y), ZH] at q
    omega
  · rename_i q
    rw [Jf, Jf, show (0 : UInt64).toNat = 0 from rfl]
    rw [ZH (x + y), ZH] at q
    omega

theorem rplus4 (w : World) (a0 a1 a2 a3 b0 b1 b2 b3 : UInt64) : Calls Tryd.prog 13 #[.agg #[zn a0, zn a1, zn a2, zn a3], .agg #[zn b0, zn b1, zn b2, zn b3]] w fun e w' => e = .returned (.tuple #[.agg (zi (zh (plusL [a0, a1, a2, a3] [b0, b1, b2, b3]))), zn (adF [a0, a1, a2, a3] [b0, b1, b2, b3] 4)]) ∧ Ev w [] w' [] := by
 refine d_0 [(0, .agg #[zn a0, zn a1, zn a2, zn a3]), (1, .agg #[zn b0, zn b1, zn b2, zn b3])] 39 Go.Proofs.Tryd.func13 Go.Proofs.Tryd.ntmps13 (Heap.nil _) fun act0 En0 Hv0 => ?_
 refine wp_seq <| zm <| f_o <| m_m 34 [zn a0, zn a1, zn a2, zn a3] En0 Hv0 fun _ _ bk1 En4 Hv5 => ?_
 refine f_o <| m_m 34 [zn b0, zn b1, zn b2, zn b3] En4 Hv5 fun _ _ bk6 En9 Hv10 => ?_
 refine f_o <| m_z 34 (zh (ze 4 0)) En9 Hv10 fun _ _ bk11 En14 Hv15 => ?_
 refine d_e [2,3,4,5] [] En14 fun _ En17 => ?_
 refine zg <| d_s [2,3,4,5,6] [] En17 fun _ En19 => ?_
 refine wp_seq <| d_s [2,3,4,5,6,7] [] En19 fun _ En21 => ?_
 refine wp_block <| loop_enter ?_
 refine z7 <| wp_seq <| d_s [2,3,4,5,6,7,12] [] En21 fun _ En23 => ?_
 refine c_t En23 ?_
 refine wp_skip <| zg <| wp_seq <| wp_block <| wp_seq <| r_c (fun ac wo => Env ac 39 [(2, pt bk1), (3, pt bk6), (4, pt bk11), (5, .int .u64 0), (6, .int .u64 0), (7, .int .i64 0), (8, zn (a0 + b0))] ∧ Ev w [] wo [.box bk1 [zn a0, zn a1, zn a2, zn a3] 34, .box bk6 [zn b0, zn b1, zn b2, zn b3] 34, .box bk11 (zh (ze 4 0)) 34]) ?_ ?_
 ·
  refine h_s (fun wv => Ev w [] wv [.box bk1 [zn a0, zn a1, zn a2, zn a3] 34, .box bk6 [zn b0, zn b1, zn b2, zn b3] 34]) [] 8 ?_
  have wo24 := Hv15.trans (z4 Hv15.heap)
  refine q_s [0,1] [] 6 En23 (wo24.pk [0, 1]) fun _ En50 => ?_
  refine q_l 0 2 En50 (wo24.pk [0, 1]) fun _ En52 => ?_
  refine q_s [3,4] [] 3 En52 (wo24.pk [0, 1]) fun _ En54 => ?_
  refine q_l 1 5 En54 (wo24.pk [0, 1]) fun _ En56 => ?_
  refine q_s [6,7] [(6, g_i .u64 (Go.Dbr.u64_add (x := a0) (y := b0) rfl rfl))] 0 En56 (wo24.pk [0, 1]) fun _ En58 => ?_
  exact h_e ⟨En58.sb, wo24.pk [0, 1, 2]⟩
 rintro _ _ ⟨En61, Hv62⟩
 refine zg <| d_s [2,3,4,5,6,7,8,9] [] En61 fun _ En64 => ?_
 refine wp_seq <| wp_seq <| zm <| d_k [2,3,4,5,6,7,8,9,22,24] [] 3 En64 fun _ En66 => ?_
 refine f_o <| m_l 0 En66 Hv62 fun _ En68 => ?_
 refine d_e [2,3,4,5,6,7,8,9,26] [] En68 fun _ En70 => ?_
 refine zg <| Q8 (F := fun ac wo => ∃ (c1_0 : UInt64), Env ac 39 [(2, pt bk1), (3, pt bk6), (4, pt bk11), (5, .int .u64 0), (6, .int .u64 0), (7, .int .i64 0), (8, zn (a0 + b0)), (9, zn c1_0)] ∧ Ev w [] wo [.box bk1 [zn a0, zn a1, zn a2, zn a3] 34, .box bk6 [zn b0, zn b1, zn b2, zn b3] 34, .box bk11 (zh (ze 4 0)) 34] ∧ (c1_0 = zH a0 b0 0)) ?_ ?_
 ·
  refine c_d (((zB (a0 + b0) : Nat) : Int) < ((zB a0 : Nat) : Int)) En70 (fun hc71 => ?_) (fun hc71 => ?_)
  ·
   refine d_r [2,3,4,5,6,7,8,9] [] En70 fun _ En73 => ?_
   exact ⟨rfl, ⟨(1 : UInt64), En73.sb, Hv62.pk [0, 1, 2], by rw [← carry1]; first | exact (if_pos (by omega)).symm | exact (if_neg (by omega)).symm⟩⟩
  refine wp_skip ?_
  exact ⟨rfl, ⟨(0 : UInt64), En70.sb, Hv62.pk [0, 1, 2], by rw [← carry1]; first | exact (if_pos (by omega)).symm | exact (if_neg (by omega)).symm⟩⟩
 rintro _ _ ⟨c1_0, En76, Hv77, hc1_0⟩
 refine zg <| d_s [2,3,4,5,6,7,8,9,10] [(2, g_i .u64 (Go.Dbr.u64_add (x := a0 + b0) (y := (0 : UInt64)) rfl rfl))] En76 fun _ En79 => ?_
 refine wp_seq <| d_s [2,3,4,5,6,7,8,9,10,32] [] En79 fun _ En81 => ?_
 have hle0 : zB (0 : UInt64) ≤ 1 := (by decide)
 refine Q8 (F := fun ac wo => ∃ (c2_0 : UInt64), Env ac 39 [(2, pt bk1), (3, pt bk6), (4, pt bk11), (5, .int .u64 0), (6, .int .u64 0), (7, .int .i64 0), (8, zn (a0 + b0)), (9, zn c2_0), (10, zn ((a0 + b0) + (0 : UInt64)))] ∧ Ev w [] wo [.box bk1 [zn a0, zn a1, zn a2, zn a3] 34, .box bk6 [zn b0, zn b1, zn b2, zn b3] 34, .box bk11 (zh (ze 4 0)) 34] ∧ (c2_0 = zH a0 b0 (0 : UInt64))) ?_ ?_
 ·
  refine c_d (((zB ((a0 + b0) + (0 : UInt64)) : Nat) : Int) < ((zB (a0 + b0) : Nat) : Int)) En81 (fun hc82 => ?_) (fun hc82 => ?_)
  ·
   refine d_r [2,3,4,5,6,7,8,9,10] [] En81 fun _ En84 => ?_
   exact ⟨rfl, ⟨(1 : UInt64), En84.sb, Hv77.pk [0, 1, 2], by rw [← carry2 hle0]; first | exact (if_pos (by omega)).symm | exact hc1_0.trans (if_neg (by omega)).symm⟩⟩
  refine wp_skip ?_
  exact ⟨rfl, ⟨c1_0, En81.sb, Hv77.pk [0, 1, 2], by rw [← carry2 hle0]; first | exact (if_pos (by omega)).symm | exact hc1_0.trans (if_neg (by omega)).symm⟩⟩
 rintro _ _ ⟨c2_0, En87, Hv88, hc2_0⟩
 refine zg <| wp_seq <| zm <| d_k [2,3,4,5,6,7,8,9,10,34,35] [] 3 En87 fun _ En90 => ?_
 refine f_o <| m_s 0 [.box bk1 [zn ((a0 + b0) + (0 : UInt64)), zn a1, zn a2, zn a3] 34, .box bk6 [zn b0, zn b1, zn b2, zn b3] 34, .box bk11 (zh (ze 4 0)) 34] En90 Hv88 fun _ _ En93 Hv94 => ?_
 refine f_e <| zg <| d_r [2,3,4,5,6,7,8,10] [] En93 fun _ En96 => ?_
 refine zA <| zg <| d_r [2,3,4,5,6,7,8,10] [] En96 fun _ En98 => ?_
 refine zg <| z7 <| wp_seq <| d_s [2,3,4,5,6,7,8,10,12] [] En98 fun _ En100 => ?_
 refine c_t En100 ?_
 refine wp_skip <| zg <| wp_seq <| wp_block <| wp_seq <| r_c (fun ac wo => Env ac 39 [(2, pt bk1), (3, pt bk6), (4, pt bk11), (5, .int .u64 0), (6, zn c2_0), (7, .int .i64 1), (8, zn (a1 + b1)), (10, zn ((a0 + b0) + (0 : UInt64)))] ∧ Ev w [] wo [.box bk1 [zn ((a0 + b0) + (0 : UInt64)), zn a1, zn a2, zn a3] 34, .box bk6 [zn b0, zn b1, zn b2, zn b3] 34, .box bk11 (zh (ze 4 0)) 34]) ?_ ?_
 ·
  refine h_s (fun wv => Ev w [] wv [.box bk1 [zn ((a0 + b0) + (0 : UInt64)), zn a1, zn a2, zn a3] 34, .box bk6 [zn b0, zn b1, zn b2, zn b3] 34]) [] 8 ?_
  have wo101 := Hv94.trans (z4 Hv94.heap)
  refine q_s [0,1] [] 6 En100 (wo101.pk [0, 1]) fun _ En127 => ?_
  refine q_l 0 2 En127 (wo101.pk [0, 1]) fun _ En129 => ?_
  refine q_s [3,4] [] 3 En129 (wo101.pk [0, 1]) fun _ En131 => ?_
  refine q_l 1 5 En131 (wo101.pk [0, 1]) fun _ En133 => ?_
  refine q_s [6,7] [(6, g_i .u64 (Go.Dbr.u64_add (x := a1) (y := b1) rfl rfl))] 0 En133 (wo101.pk [0, 1]) fun _ En135 => ?_
  exact h_e ⟨En135.sb, wo101.pk [0, 1, 2]⟩
 rintro _ _ ⟨En138, Hv139⟩
 refine zg <| d_s [2,3,4,5,6,7,8,9,10] [] En138 fun _ En141 => ?_
 refine wp_seq <| wp_seq <| zm <| d_k [2,3,4,5,6,7,8,9,10,22,24] [] 3 En141 fun _ En143 => ?_
 refine f_o <| m_l 0 En143 Hv139 fun _ En145 => ?_
 refine d_e [2,3,4,5,6,7,8,9,10,26] [] En145 fun _ En147 => ?_
 refine zg <| Q8 (F := fun ac wo => ∃ (c1_1 : UInt64), Env ac 39 [(2, pt bk1), (3, pt bk6), (4, pt bk11), (5, .int .u64 0), (6, zn c2_0), (7, .int .i64 1), (8, zn (a1 + b1)), (9, zn c1_1), (10, zn ((a0 + b0) + (0 : UInt64)))] ∧ Ev w [] wo [.box bk1 [zn ((a0 + b0) + (0 : UInt64)), zn a1, zn a2, zn a3] 34, .box bk6 [zn b0, zn b1, zn b2, zn b3] 34, .box bk11 (zh (ze 4 0)) 34] ∧ (c1_1 = zH a1 b1 0)) ?_ ?_
 ·
  refine c_d (((zB (a1 + b1) : Nat) : Int) < ((zB a1 : Nat) : Int)) En147 (fun hc148 => ?_) (fun hc148 => ?_)
  ·
   refine d_r [2,3,4,5,6,7,8,9,10] [] En147 fun _ En150 => ?_
   exact ⟨rfl, ⟨(1 : UInt64), En150.sb, Hv139.pk [0, 1, 2], by rw [← carry1]; first | exact (if_pos (by omega)).symm | exact (if_neg (by omega)).symm⟩⟩
  refine wp_skip ?_
  exact ⟨rfl, ⟨(0 : UInt64), En147.sb, Hv139.pk [0, 1, 2], by rw [← carry1]; first | exact (if_pos (by omega)).symm | exact (if_neg (by omega)).symm⟩⟩
 rintro _ _ ⟨c1_1, En153, Hv154, hc1_1⟩
 refine zg <| d_s [2,3,4,5,6,7,8,9,10] [(2, g_i .u64 (Go.Dbr.u64_add (x := a1 + b1) (y := c2_0) rfl rfl))] En153 fun _ En156 => ?_
 refine wp_seq <| d_s [2,3,4,5,6,7,8,9,10,32] [] En156 fun _ En158 => ?_
 have hle1 : zB c2_0 ≤ 1 := (by rw [hc2_0]; exact Yp hle0)
 refine Q8 (F := fun ac wo => ∃ (c2_1 : UInt64), Env ac 39 [(2, pt bk1), (3, pt bk6), (4, pt bk11), (5, .int .u64 0), (6, zn c2_0), (7, .int .i64 1), (8, zn (a1 + b1)), (9, zn c2_1), (10, zn ((a1 + b1) + c2_0))] ∧ Ev w [] wo [.box bk1 [zn ((a0 + b0) + (0 : UInt64)), zn a1, zn a2, zn a3] 34, .box bk6 [zn b0, zn b1, zn b2, zn b3] 34, .box bk11 (zh (ze 4 0)) 34] ∧ (c2_1 = zH a1 b1 c2_0)) ?_ ?_
 ·
  refine c_d (((zB ((a1 + b1) + c2_0) : Nat) : Int) < ((zB (a1 + b1) : Nat) : Int)) En158 (fun hc159 => ?_) (fun hc159 => ?_)
  ·
   refine d_r [2,3,4,5,6,7,8,9,10] [] En158 fun _ En161 => ?_
   exact ⟨rfl, ⟨(1 : UInt64), En161.sb, Hv154.pk [0, 1, 2], by rw [← carry2 hle1]; first | exact (if_pos (by omega)).symm | exact hc1_1.trans (if_neg (by omega)).symm⟩⟩
  refine wp_skip ?_
  exact ⟨rfl, ⟨c1_1, En158.sb, Hv154.pk [0, 1, 2], by rw [← carry2 hle1]; first | exact (if_pos (by omega)).symm | exact hc1_1.trans (if_neg (by omega)).symm⟩⟩
 rintro _ _ ⟨c2_1, En164, Hv165, hc2_1⟩
 refine zg <| wp_seq <| zm <| d_k [2,3,4,5,6,7,8,9,10,34,35] [] 3 En164 fun _ En167 => ?_
 refine f_o <| m_s 0 [.box bk1 [zn ((a0 + b0) + (0 : UInt64)), zn ((a1 + b1) + c2_0), zn a2, zn a3] 34, .box bk6 [zn b0, zn b1, zn b2, zn b3] 34, .box bk11 (zh (ze 4 0)) 34] En167 Hv165 fun _ _ En170 Hv171 => ?_
 refine f_e <| zg <| d_r [2,3,4,5,6,7,8,10] [] En170 fun _ En173 => ?_
 refine zA <| zg <| d_r [2,3,4,5,6,7,8,10] [] En173 fun _ En175 => ?_
 refine zg <| z7 <| wp_seq <| d_s [2,3,4,5,6,7,8,10,12] [] En175 fun _ En177 => ?_
 refine c_t En177 ?_
 refine wp_skip <| zg <| wp_seq <| wp_block <| wp_seq <| r_c (fun ac wo => Env ac 39 [(2, pt bk1), (3, pt bk6), (4, pt bk11), (5, .int .u64 0), (6, zn c2_1), (7, .int .i64 2), (8, zn (a2 + b2)), (10, zn ((a1 + b1) + c2_0))] ∧ Ev w [] wo [.box bk1 [zn ((a0 + b0) + (0 : UInt64)), zn ((a1 + b1) + c2_0), zn a2, zn a3] 34, .box bk6 [zn b0, zn b1, zn b2, zn b3] 34, .box bk11 (zh (ze 4 0)) 34]) ?_ ?_
 ·
  refine h_s (fun wv => Ev w [] wv [.box bk1 [zn ((a0 + b0) + (0 : UInt64)), zn ((a1 + b1) + c2_0), zn a2, zn a3] 34, .box bk6 [zn b0, zn b1, zn b2, zn b3] 34]) [] 8 ?_
  have wo178 := Hv171.trans (z4 Hv171.heap)
  refine q_s [0,1] [] 6 En177 (wo178.pk [0, 1]) fun _ En204 => ?_
  refine q_l 0 2 En204 (wo178.pk [0, 1]) fun _ En206 => ?_
  refine q_s [3,4] [] 3 En206 (wo178.pk [0, 1]) fun _ En208 => ?_
  refine q_l 1 5 En208 (wo178.pk [0, 1]) fun _ En210 => ?_
  refine q_s [6,7] [(6, g_i .u64 (Go.Dbr.u64_add (x := a2) (y := b2) rfl rfl))] 0 En210 (wo178.pk [0, 1]) fun _ En212 => ?_
  exact h_e ⟨En212.sb, wo178.pk [0, 1, 2]⟩
 rintro _ _ ⟨En215, Hv216⟩
 refine zg <| d_s [2,3,4,5,6,7,8,9,10] [] En215 fun _ En218 => ?_
 refine wp_seq <| wp_seq <| zm <| d_k [2,3,4,5,6,7,8,9,10,22,24] [] 3 En218 fun _ En220 => ?_
 refine f_o <| m_l 0 En220 Hv216 fun _ En222 => ?_
 refine d_e [2,3,4,5,6,7,8,9,10,26] [] En222 fun _ En224 => ?_
 refine zg <| Q8 (F := fun ac wo => ∃ (c1_2 : UInt64), Env ac 39 [(2, pt bk1), (3, pt bk6), (4, pt bk11), (5, .int .u64 0), (6, zn c2_1), (7, .int .i64 2), (8, zn (a2 + b2)), (9, zn c1_2), (10, zn ((a1 + b1) + c2_0))] ∧ Ev w [] wo [.box bk1 [zn ((a0 + b0) + (0 : UInt64)), zn ((a1 + b1) + c2_0), zn a2, zn a3] 34, .box bk6 [zn b0, zn b1, zn b2, zn b3] 34, .box bk11 (zh (ze 4 0)) 34] ∧ (c1_2 = zH a2 b2 0)) ?_ ?_
 ·
  refine c_d (((zB (a2 + b2) : Nat) : Int) < ((zB a2 : Nat) : Int)) En224 (fun hc225 => ?_) (fun hc225 => ?_)
  ·
   refine d_r [2,3,4,5,6,7,8,9,10] [] En224 fun _ En227 => ?_
   exact ⟨rfl, ⟨(1 : UInt64), En227.sb, Hv216.pk [0, 1, 2], by rw [← carry1]; first | exact (if_pos (by omega)).symm | exact (if_neg (by omega)).symm⟩⟩
  refine wp_skip ?_
  exact ⟨rfl, ⟨(0 : UInt64), En224.sb, Hv216.pk [0, 1, 2], by rw [← carry1]; first | exact (if_pos (by omega)).symm | exact (if_neg (by omega)).symm⟩⟩
 rintro _ _ ⟨c1_2, En230, Hv231, hc1_2⟩
 refine zg <| d_s [2,3,4,5,6,7,8,9,10] [(2, g_i .u64 (Go.Dbr.u64_add (x := a2 + b2) (y := c2_1) rfl rfl))] En230 fun _ En233 => ?_
 refine wp_seq <| d_s [2,3,4,5,6,7,8,9,10,32] [] En233 fun _ En235 => ?_
 have hle2 : zB c2_1 ≤ 1 := (by rw [hc2_1]; exact Yp hle1)
 refine Q8 (F := fun ac wo => ∃ (c2_2 : UInt64), Env ac 39 [(2, pt bk1), (3, pt bk6), (4, pt bk11), (5, .int .u64 0), (6, zn c2_1), (7, .int .i64 2), (8, zn (a2 + b2)), (9, zn c2_2), (10, zn ((a2 + b2) + c2_1))] ∧ Ev w [] wo [.box bk1 [zn ((a0 + b0) + (0 : UInt64)), zn ((a1 + b1) + c2_0), zn a2, zn a3] 34, .box bk6 [zn b0, zn b1, zn b2, zn b3] 34, .box bk11 (zh (ze 4 0)) 34] ∧ (c2_2 = zH a2 b2 c2_1)) ?_ ?_
 ·
  refine c_d (((zB ((a2 + b2) + c2_1) : Nat) : Int) < ((zB (a2 + b2) : Nat) : Int)) En235 (fun hc236 => ?_) (fun hc236 => ?_)
  ·
   refine d_r [2,3,4,5,6,7,8,9,10] [] En235 fun _ En238 => ?_
   exact ⟨rfl, ⟨(1 : UInt64), En238.sb, Hv231.pk [0, 1, 2], by rw [← carry2 hle2]; first | exact (if_pos (by omega)).symm | exact hc1_2.trans (if_neg (by omega)).symm⟩⟩
  refine wp_skip ?_
  exact ⟨rfl, ⟨c1_2, En235.sb, Hv231.pk [0, 1, 2], by rw [← carry2 hle2]; first | exact (if_pos (by omega)).symm | exact hc1_2.trans (if_neg (by omega)).symm⟩⟩
 rintro _ _ ⟨c2_2, En241, Hv242, hc2_2⟩
 refine zg <| wp_seq <| zm <| d_k [2,3,4,5,6,7,8,9,10,34,35] [] 3 En241 fun _ En244 => ?_
 refine f_o <| m_s 0 [.box bk1 [zn ((a0 + b0) + (0 : UInt64)), zn ((a1 + b1) + c2_0), zn ((a2 + b2) + c2_1), zn a3] 34, .box bk6 [zn b0, zn b1, zn b2, zn b3] 34, .box bk11 (zh (ze 4 0)) 34] En244 Hv242 fun _ _ En247 Hv248 => ?_
 refine f_e <| zg <| d_r [2,3,4,5,6,7,8,10] [] En247 fun _ En250 => ?_
 refine zA <| zg <| d_r [2,3,4,5,6,7,8,10] [] En250 fun _ En252 => ?_
 refine zg <| z7 <| wp_seq <| d_s [2,3,4,5,6,7,8,10,12] [] En252 fun _ En254 => ?_
 refine c_t En254 ?_
 refine wp_skip <| zg <| wp_seq <| wp_block <| wp_seq <| r_c (fun ac wo => Env ac 39 [(2, pt bk1), (3, pt bk6), (4, pt bk11), (5, .int .u64 0), (6, zn c2_2), (7, .int .i64 3), (8, zn (a3 + b3)), (10, zn ((a2 + b2) + c2_1))] ∧ Ev w [] wo [.box bk1 [zn ((a0 + b0) + (0 : UInt64)), zn ((a1 + b1) + c2_0), zn ((a2 + b2) + c2_1), zn a3] 34, .box bk6 [zn b0, zn b1, zn b2, zn b3] 34, .box bk11 (zh (ze 4 0)) 34]) ?_ ?_
 ·
  refine h_s (fun wv => Ev w [] wv [.box bk1 [zn ((a0 + b0) + (0 : UInt64)), zn ((a1 + b1) + c2_0), zn ((a2 + b2) + c2_1), zn a3] 34, .box bk6 [zn b0, zn b1, zn b2, zn b3] 34]) [] 8 ?_
  have wo255 := Hv248.trans (z4 Hv248.heap)
  refine q_s [0,1] [] 6 En254 (wo255.pk [0, 1]) fun _ En281 => ?_
  refine q_l 0 2 En281 (wo255.pk [0, 1]) fun _ En283 => ?_
  refine q_s [3,4] [] 3 En283 (wo255.pk [0, 1]) fun _ En285 => ?_
  refine q_l 1 5 En285 (wo255.pk [0, 1]) fun _ En287 => ?_
  refine q_s [6,7] [(6, g_i .u64 (Go.Dbr.u64_add (x := a3) (y := b3) rfl rfl))] 0 En287 (wo255.pk [0, 1]) fun _ En289 => ?_
  exact h_e ⟨En289.sb, wo255.pk [0, 1, 2]⟩
 rintro _ _ ⟨En292, Hv293⟩
 refine zg <| d_s [2,3,4,5,6,7,8,9,10] [] En292 fun _ En295 => ?_
 refine wp_seq <| wp_seq <| zm <| d_k [2,3,4,5,6,7,8,9,10,22,24] [] 3 En295 fun _ En297 => ?_
 refine f_o <| m_l 0 En297 Hv293 fun _ En299 => ?_
 refine d_e [2,3,4,5,6,7,8,9,10,26] [] En299 fun _ En301 => ?_
 refine zg <| Q8 (F := fun ac wo => ∃ (c1_3 : UInt64), Env ac 39 [(2, pt bk1), (3, pt bk6), (4, pt bk11), (5, .int .u64 0), (6, zn c2_2), (7, .int .i64 3), (8, zn (a3 + b3)), (9, zn c1_3), (10, zn ((a2 + b2) + c2_1))] ∧ Ev w [] wo [.box bk1 [zn ((a0 + b0) + (0 : UInt64)), zn ((a1 + b1) + c2_0), zn ((a2 + b2) + c2_1), zn a3] 34, .box bk6 [zn b0, zn b1, zn b2, zn b3] 34, .box bk11 (zh (ze 4 0)) 34] ∧ (c1_3 = zH a3 b3 0)) ?_ ?_
 ·
  refine c_d (((zB (a3 + b3) : Nat) : Int) < ((zB a3 : Nat) : Int)) En301 (fun hc302 => ?_) (fun hc302 => ?_)
  ·
   refine d_r [2,3,4,5,6,7,8,9,10] [] En301 fun _ En304 => ?_
   exact ⟨rfl, ⟨(1 : UInt64), En304.sb, Hv293.pk [0, 1, 2], by rw [← carry1]; first | exact (if_pos (by omega)).symm | exact (if_neg (by omega)).symm⟩⟩
  refine wp_skip ?_
  exact ⟨rfl, ⟨(0 : UInt64), En301.sb, Hv293.pk [0, 1, 2], by rw [← carry1]; first | exact (if_pos (by omega)).symm | exact (if_neg (by omega)).symm⟩⟩
 rintro _ _ ⟨c1_3, En307, Hv308, hc1_3⟩
 refine zg <| d_s [2,3,4,5,6,7,8,9,10] [(2, g_i .u64 (Go.Dbr.u64_add (x := a3 + b3) (y := c2_2) rfl rfl))] En307 fun _ En310 => ?_
 refine wp_seq <| d_s [2,3,4,5,6,7,8,9,10,32] [] En310 fun _ En312 => ?_
 have hle3 : zB c2_2 ≤ 1 := (by rw [hc2_2]; exact Yp hle2)
 refine Q8 (F := fun ac wo => ∃ (c2_3 : UInt64), Env ac 39 [(2, pt bk1), (3, pt bk6), (4, pt bk11), (5, .int .u64 0), (6, zn c2_2), (7, .int .i64 3), (8, zn (a3 + b3)), (9, zn c2_3), (10, zn ((a3 + b3) + c2_2))] ∧ Ev w [] wo [.box bk1 [zn ((a0 + b0) + (0 : UInt64)), zn ((a1 + b1) + c2_0), zn ((a2 + b2) + c2_1), zn a3] 34, .box bk6 [zn b0, zn b1, zn b2, zn b3] 34, .box bk11 (zh (ze 4 0)) 34] ∧ (c2_3 = zH a3 b3 c2_2)) ?_ ?_
 ·
  refine c_d (((zB ((a3 + b3) + c2_2) : Nat) : Int) < ((zB (a3 + b3) : Nat) : Int)) En312 (fun hc313 => ?_) (fun hc313 => ?_)
  ·
   refine d_r [2,3,4,5,6,7,8,9,10] [] En312 fun _ En315 => ?_
   exact ⟨rfl, ⟨(1 : UInt64), En315.sb, Hv308.pk [0, 1, 2], by rw [← carry2 hle3]; first | exact (if_pos (by omega)).symm | exact hc1_3.trans (if_neg (by omega)).symm⟩⟩
  refine wp_skip ?_
  exact ⟨rfl, ⟨c1_3, En312.sb, Hv308.pk [0, 1, 2], by rw [← carry2 hle3]; first | exact (if_pos (by omega)).symm | exact hc1_3.trans (if_neg (by omega)).symm⟩⟩
 rintro _ _ ⟨c2_3, En318, Hv319, hc2_3⟩
 refine zg <| wp_seq <| zm <| d_k [2,3,4,5,6,7,8,9,10,34,35] [] 3 En318 fun _ En321 => ?_
 refine f_o <| m_s 0 [.box bk1 [zn ((a0 + b0) + (0 : UInt64)), zn ((a1 + b1) + c2_0), zn ((a2 + b2) + c2_1), zn ((a3 + b3) + c2_2)] 34, .box bk6 [zn b0, zn b1, zn b2, zn b3] 34, .box bk11 (zh (ze 4 0)) 34] En321 Hv319 fun _ _ En324 Hv325 => ?_
 refine f_e <| zg <| d_r [2,3,4,5,6,7,8,10] [] En324 fun _ En327 => ?_
 refine zA <| zg <| d_r [2,3,4,5,6,7,8,10] [] En327 fun _ En329 => ?_
 refine zg <| z7 <| wp_seq <| d_s [2,3,4,5,6,7,8,10,12] [] En329 fun _ En331 => ?_
 refine c_f En331 ?_
 refine wp_exit <| zI <| zI <| z9 <| zg <| wp_seq <| zm <| f_o <| m_a 0 0 4 [zn ((a0 + b0) + (0 : UInt64)), zn ((a1 + b1) + c2_0), zn ((a2 + b2) + c2_1), zn ((a3 + b3) + c2_2)] En331 Hv325 rfl rfl rfl fun _ En333 => ?_
 refine d_k [2,3,4,5,6,7,8,10,37,38] [] 2 En333 fun _ En335 => ?_
 refine f_o <| m_g 2 0 4 [zn ((a0 + b0) + (0 : UInt64)), zn ((a1 + b1) + c2_0), zn ((a2 + b2) + c2_1), zn ((a3 + b3) + c2_2)] _ [.box bk1 [zn ((a0 + b0) + (0 : UInt64)), zn ((a1 + b1) + c2_0), zn ((a2 + b2) + c2_1), zn ((a3 + b3) + c2_2)] 34, .box bk6 [zn b0, zn b1, zn b2, zn b3] 34, .box bk11 [zn ((a0 + b0) + (0 : UInt64)), zn ((a1 + b1) + c2_0), zn ((a2 + b2) + c2_1), zn ((a3 + b3) + c2_2)] 34] En335 Hv325 rfl rfl (by rw [(zc (zf))]; first | decide | (simp; done)) (one_all (by kernel_rfl)) (zs (zc (zf))) rfl fun _ _ En338 Hv339 => ?_
 refine d_e [2,3,4,5,6,7,8,10] [] En338 fun _ En341 => ?_
 refine zg <| wp_ret <| d_cell_tmp (v := .agg #[zn ((a0 + b0) + (0 : UInt64)), zn ((a1 + b1) + c2_0), zn ((a2 + b2) + c2_1), zn ((a3 + b3) + c2_2)]) (x := zn c2_3) (t := 4) (T := 34) (ad := ⟨bk11, 0, none⟩) (u := 5) En341 (by kernel_rfl) (by kernel_rfl) (zM (t := 34) (k := 2) (off := 0) (m := 4) (xs := [zn ((a0 + b0) + (0 : UInt64)), zn ((a1 + b1) + c2_0), zn ((a2 + b2) + c2_1), zn ((a3 + b3) + c2_2)]) Hv339 rfl rfl rfl (by kernel_rfl) (by kernel_rfl)) (by kernel_rfl) ?_
 subst hc2_0
 subst hc2_1
 subst hc2_2
 subst hc2_3
 exact ⟨rfl, Hv339.pk []⟩

theorem rplus_go (w : World) (a b : List UInt64) (ha : za a = 4) (hb : za b = 4) : Calls Tryd.prog 13 #[.agg (zi (zh a)), .agg (zi (zh b))] w fun e w' => e = .returned (.tuple #[.agg (zi (zh (nd (nv a + nv b)))), zn (u1 (zZ ≤ nv a + nv b))]) ∧ Ev w [] w' [] := by
  rw [← plus_nd ha hb, ← ad_nd ha hb]
  match a, ha, b, hb with
  | [a0, a1, a2, a3], _, [b0, b1, b2, b3], _ => exact rplus4 w a0 a1 a2 a3 b0 b1 b2 b3

theorem rmod_1 (w : World)  : Calls Tryd.prog 14 #[.int .i64 1] w fun e w' => e = .returned (.agg (zi (zh (nd (mF 1))))) ∧ Ev w [] w' [] := by
 refine d_0 [(0, .int .i64 1)] 17 Go.Proofs.Tryd.func14 Go.Proofs.Tryd.ntmps14 (Heap.nil _) fun act0 En0 Hv0 => ?_
 refine wp_seq <| zm <| f_o <| m_z 34 (zh (ze 4 0)) En0 Hv0 fun _ _ bk1 En4 Hv5 => ?_
 refine f_e <| zg <| wp_seq <| d_s [2,3] [] En4 fun _ En7 => ?_
 refine wp_block <| d_s [2,3,4] [] En7 fun _ En9 => ?_
 refine c_t En9 ?_
 refine wp_seq <| zm <| d_k [2,3,6] [] 1 En9 fun _ En11 => ?_
 refine f_o <| m_g 0 0 4 (zh ([18446744073709551597, 18446744073709551615, 18446744073709551615, 9223372036854775807] : List UInt64)) _ [.box bk1 (zh ([18446744073709551597, 18446744073709551615, 18446744073709551615, 9223372036854775807] : List UInt64)) 34] En11 Hv5 rfl (zc (show za ([18446744073709551597, 18446744073709551615, 18446744073709551615, 9223372036854775807] : List UInt64) = 4 from rfl)) (by rw [(zc (zf))]; first | decide | (simp; done)) (zv _) (zs (zc (zf))) rfl fun _ _ En14 Hv15 => ?_
 refine f_e <| zg <| wp_ret <| QC <| Z0 <| Zj (v := .agg (zi (zh ([18446744073709551597, 18446744073709551615, 18446744073709551615, 9223372036854775807] : List UInt64)))) (t := 2) (T := 34) (ad := ⟨bk1, 0, none⟩) En14 (by kernel_rfl) (by kernel_rfl) (zM (t := 34) (k := 0) (off := 0) (m := 4) (xs := zh ([18446744073709551597, 18446744073709551615, 18446744073709551615, 9223372036854775807] : List UInt64)) Hv15 rfl (zq (zc (show za ([18446744073709551597, 18446744073709551615, 18446744073709551615, 9223372036854775807] : List UInt64) = 4 from rfl))) (zc (show za ([18446744073709551597, 18446744073709551615, 18446744073709551615, 9223372036854775807] : List UInt64) = 4 from rfl)) (by kernel_rfl) (by kernel_rfl)) ?_
 exact ⟨by kernel_rfl, Hv15.pk []⟩

theorem rmod_2 (w : World)  : Calls Tryd.prog 14 #[.int .i64 2] w fun e w' => e = .returned (.agg (zi (zh (nd (mF 2))))) ∧ Ev w [] w' [] := by
 refine d_0 [(0, .int .i64 2)] 17 Go.Proofs.Tryd.func14 Go.Proofs.Tryd.ntmps14 (Heap.nil _) fun act0 En0 Hv0 => ?_
 refine wp_seq <| zm <| f_o <| m_z 34 (zh (ze 4 0)) En0 Hv0 fun _ _ bk1 En4 Hv5 => ?_
 refine f_e <| zg <| wp_seq <| d_s [2,3] [] En4 fun _ En7 => ?_
 refine wp_block <| d_s [2,3,4] [] En7 fun _ En9 => ?_
 refine c_f En9 ?_
 refine d_s [2,3,7] [] En9 fun _ En11 => ?_
 refine c_t En11 ?_
 refine wp_seq <| zm <| d_k [2,3,9] [] 1 En11 fun _ En13 => ?_
 refine f_o <| m_g 0 0 4 (zh ([18446744073709551615, 4294967295, 0, 18446744069414584321] : List UInt64)) _ [.box bk1 (zh ([18446744073709551615, 4294967295, 0, 18446744069414584321] : List UInt64)) 34] En13 Hv5 rfl (zc (show za ([18446744073709551615, 4294967295, 0, 18446744069414584321] : List UInt64) = 4 from rfl)) (by rw [(zc (zf))]; first | decide | (simp; done)) (zv _) (zs (zc (zf))) rfl fun _ _ En16 Hv17 => ?_
 refine f_e <| zg <| wp_ret <| QC <| Z0 <| Zj (v := .agg (zi (zh ([18446744073709551615, 4294967295, 0, 18446744069414584321] : List UInt64)))) (t := 2) (T := 34) (ad := ⟨bk1, 0, none⟩) En16 (by kernel_rfl) (by kernel_rfl) (zM (t := 34) (k := 0) (off := 0) (m := 4) (xs := zh ([18446744073709551615, 4294967295, 0, 18446744069414584321] : List UInt64)) Hv17 rfl (zq (zc (show za ([18446744073709551615, 4294967295, 0, 18446744069414584321] : List UInt64) = 4 from rfl))) (zc (show za ([18446744073709551615, 4294967295, 0, 18446744069414584321] : List UInt64) = 4 from rfl)) (by kernel_rfl) (by kernel_rfl)) ?_
 exact ⟨by kernel_rfl, Hv17.pk []⟩

theorem rmod_3 (w : World)  : Calls Tryd.prog 14 #[.int .i64 3] w fun e w' => e = .returned (.agg (zi (zh (nd (mF 3))))) ∧ Ev w [] w' [] := by
 refine d_0 [(0, .int .i64 3)] 17 Go.Proofs.Tryd.func14 Go.Proofs.Tryd.ntmps14 (Heap.nil _) fun act0 En0 Hv0 => ?_
 refine wp_seq <| zm <| f_o <| m_z 34 (zh (ze 4 0)) En0 Hv0 fun _ _ bk1 En4 Hv5 => ?_
 refine f_e <| zg <| wp_seq <| d_s [2,3] [] En4 fun _ En7 => ?_
 refine wp_block <| d_s [2,3,4] [] En7 fun _ En9 => ?_
 refine c_f En9 ?_
 refine d_s [2,3,7] [] En9 fun _ En11 => ?_
 refine c_f En11 ?_
 refine d_s [2,3,10] [] En11 fun _ En13 => ?_
 refine c_t En13 ?_
 refine wp_seq <| zm <| d_k [2,3,12] [] 1 En13 fun _ En15 => ?_
 refine f_o <| m_g 0 0 4 (zh ([17562291160714782033, 13611842547513532036, 18446744073709551615, 18446744069414584320] : List UInt64)) _ [.box bk1 (zh ([17562291160714782033, 13611842547513532036, 18446744073709551615, 18446744069414584320] : List UInt64)) 34] En15 Hv5 rfl (zc (show za ([17562291160714782033, 13611842547513532036, 18446744073709551615, 18446744069414584320] : List UInt64) = 4 from rfl)) (by rw [(zc (zf))]; first | decide | (simp; done)) (zv _) (zs (zc (zf))) rfl fun _ _ En18 Hv19 => ?_
 refine f_e <| zg <| wp_ret <| QC <| Z0 <| Zj (v := .agg (zi (zh ([17562291160714782033, 13611842547513532036, 18446744073709551615, 18446744069414584320] : List UInt64)))) (t := 2) (T := 34) (ad := ⟨bk1, 0, none⟩) En18 (by kernel_rfl) (by kernel_rfl) (zM (t := 34) (k := 0) (off := 0) (m := 4) (xs := zh ([17562291160714782033, 13611842547513532036, 18446744073709551615, 18446744069414584320] : List UInt64)) Hv19 rfl (zq (zc (show za ([17562291160714782033, 13611842547513532036, 18446744073709551615, 18446744069414584320] : List UInt64) = 4 from rfl))) (zc (show za ([17562291160714782033, 13611842547513532036, 18446744073709551615, 18446744069414584320] : List UInt64) = 4 from rfl)) (by kernel_rfl) (by kernel_rfl)) ?_
 exact ⟨by kernel_rfl, Hv19.pk []⟩

theorem rmod_4 (w : World)  : Calls Tryd.prog 14 #[.int .i64 4] w fun e w' => e = .returned (.agg (zi (zh (nd (mF 4))))) ∧ Ev w [] w' [] := by
 refine d_0 [(0, .int .i64 4)] 17 Go.Proofs.Tryd.func14 Go.Proofs.Tryd.ntmps14 (Heap.nil _) fun act0 En0 Hv0 => ?_
 refine wp_seq <| zm <| f_o <| m_z 34 (zh (ze 4 0)) En0 Hv0 fun _ _ bk1 En4 Hv5 => ?_
 refine f_e <| zg <| wp_seq <| d_s [2,3] [] En4 fun _ En7 => ?_
 refine wp_block <| d_s [2,3,4] [] En7 fun _ En9 => ?_
 refine c_f En9 ?_
 refine d_s [2,3,7] [] En9 fun _ En11 => ?_
 refine c_f En11 ?_
 refine d_s [2,3,10] [] En11 fun _ En13 => ?_
 refine c_f En13 ?_
 refine d_s [2,3,13] [] En13 fun _ En15 => ?_
 refine c_t En15 ?_
 refine wp_seq <| zm <| d_k [2,3,15] [] 1 En15 fun _ En17 => ?_
 refine f_o <| m_g 0 0 4 (zh ([6346243789798364141, 1503914060200516822, 0, 1152921504606846976] : List UInt64)) _ [.box bk1 (zh ([6346243789798364141, 1503914060200516822, 0, 1152921504606846976] : List UInt64)) 34] En17 Hv5 rfl (zc (show za ([6346243789798364141, 1503914060200516822, 0, 1152921504606846976] : List UInt64) = 4 from rfl)) (by rw [(zc (zf))]; first | decide | (simp; done)) (zv _) (zs (zc (zf))) rfl fun _ _ En20 Hv21 => ?_
 refine f_e <| zg <| wp_ret <| QC <| Z0 <| Zj (v := .agg (zi (zh ([6346243789798364141, 1503914060200516822, 0, 1152921504606846976] : List UInt64)))) (t := 2) (T := 34) (ad := ⟨bk1, 0, none⟩) En20 (by kernel_rfl) (by kernel_rfl) (zM (t := 34) (k := 0) (off := 0) (m := 4) (xs := zh ([6346243789798364141, 1503914060200516822, 0, 1152921504606846976] : List UInt64)) Hv21 rfl (zq (zc (show za ([6346243789798364141, 1503914060200516822, 0, 1152921504606846976] : List UInt64) = 4 from rfl))) (zc (show za ([6346243789798364141, 1503914060200516822, 0, 1152921504606846976] : List UInt64) = 4 from rfl)) (by kernel_rfl) (by kernel_rfl)) ?_
 exact ⟨by kernel_rfl, Hv21.pk []⟩

theorem rmod_0 (w : World) (f : Int)  (hf : ¬ (f = 1 ∨ f = 2 ∨ f = 3 ∨ f = 4)) : Calls Tryd.prog 14 #[.int .i64 f] w fun e w' => e = .returned (.agg (zi (zh (nd (mF 0))))) ∧ Ev w [] w' [] := by
 refine d_0 [(0, .int .i64 f)] 17 Go.Proofs.Tryd.func14 Go.Proofs.Tryd.ntmps14 (Heap.nil _) fun act0 En0 Hv0 => ?_
 refine wp_seq <| zm <| f_o <| m_z 34 (zh (ze 4 0)) En0 Hv0 fun _ _ bk1 En4 Hv5 => ?_
 refine f_e <| zg <| wp_seq <| d_s [2,3] [] En4 fun _ En7 => ?_
 refine wp_block <| d_s [2,3,4] [] En7 fun _ En9 => ?_
 refine c_e f (1 : Int) En9 (fun hc10 => ?_) (fun hc10 => ?_)
 ·
  exact absurd hc10 (by omega)
 refine d_s [2,3,7] [] En9 fun _ En12 => ?_
 refine c_e f (2 : Int) En12 (fun hc13 => ?_) (fun hc13 => ?_)
 ·
  exact absurd hc13 (by omega)
 refine d_s [2,3,10] [] En12 fun _ En15 => ?_
 refine c_e f (3 : Int) En15 (fun hc16 => ?_) (fun hc16 => ?_)
 ·
  exact absurd hc16 (by omega)
 refine d_s [2,3,13] [] En15 fun _ En18 => ?_
 refine c_e f (4 : Int) En18 (fun hc19 => ?_) (fun hc19 => ?_)
 ·
  exact absurd hc19 (by omega)
 refine wp_skip <| zA <| zg <| wp_seq <| zm <| d_k [2,3,16] [] 1 En18 fun _ En21 => ?_
 refine f_o <| m_g 0 0 4 (zh ([0, 0, 0, 0] : List UInt64)) _ [.box bk1 (zh ([0, 0, 0, 0] : List UInt64)) 34] En21 Hv5 rfl (zc (show za ([0, 0, 0, 0] : List UInt64) = 4 from rfl)) (by rw [(zc (zf))]; first | decide | (simp; done)) (zv _) (zs (zc (zf))) rfl fun _ _ En24 Hv25 => ?_
 refine f_e <| zg <| wp_ret <| Zj (v := .agg (zi (zh ([0, 0, 0, 0] : List UInt64)))) (t := 2) (T := 34) (ad := ⟨bk1, 0, none⟩) En24 (by kernel_rfl) (by kernel_rfl) (zM (t := 34) (k := 0) (off := 0) (m := 4) (xs := zh ([0, 0, 0, 0] : List UInt64)) Hv25 rfl (zq (zc (show za ([0, 0, 0, 0] : List UInt64) = 4 from rfl))) (zc (show za ([0, 0, 0, 0] : List UInt64) = 4 from rfl)) (by kernel_rfl) (by kernel_rfl)) ?_
 exact ⟨by kernel_rfl, Hv25.pk []⟩

theorem rmodulus_go (w : World) (f : Int) : Calls Tryd.prog 14 #[.int .i64 f] w fun e w' => e = .returned (.agg (zi (zh (nd (mF f))))) ∧ Ev w [] w' [] := by
  by_cases hf : f = 1 ∨ f = 2 ∨ f = 3 ∨ f = 4
  · rcases hf with rfl | rfl | rfl | rfl
    · exact rmod_1 w
    · exact rmod_2 w
    · exact rmod_3 w
    · exact rmod_4 w
  · rw [mF_none hf]
    exact rmod_0 w f hf

end Go.Proofs.YtlnogkmnklfjlaaDoor

/- Layer 4, the document: products of digits, what they leave. -/

namespace Go.Proofs.YtlnogkmnklfjlaaDoor
open Go.Dbr
set_option maxRecDepth 100000
set_option maxHeartbeats 2000000
set_option linter.unusedVariables false
set_option linter.unusedSimpArgs false

end Go.Proofs.YtlnogkmnklfjlaaDoor

/- Layer 4, the document: what digits leave. -/

namespace Go.Proofs.YtlnogkmnklfjlaaDoor
open Go.Dbr
set_option maxRecDepth 100000
set_option maxHeartbeats 2000000
set_option linter.unusedVariables false
set_option linter.unusedSimpArgs false

theorem add32 {p c : UInt64} (hp : p.toNat < 4294967296) (hc : c.toNat < 4294967296) : (p + c).toNat = p.toNat + c.toNat := by
  rw [ZH]
  omega

end Go.Proofs.YtlnogkmnklfjlaaDoor

/- Layer 4: bytes of numbers. -/

namespace Go.Proofs.YtlnogkmnklfjlaaDoor
open Go.Dbr
set_option maxRecDepth 100000
set_option maxHeartbeats 2000000
set_option linter.unusedVariables false
set_option linter.unusedSimpArgs false

/-- the number of bytes, the lowest first -/
def lv : List UInt8 → Nat
  | [] => 0
  | x :: r => x.toNat + 256 * lv r
theorem lv_lt : ∀ l, lv l < 256 ^ l.length
  | [] => by decide
  | x :: r => by
    have h1 := lv_lt r
    have h2 : x.toNat < 256 := x.toNat_lt
    rw [lv, Zu, Zl]
    generalize 256 ^ r.length = q at *
    omega
theorem lv_take_succ : ∀ (l : List UInt8) (i : Nat), i < l.length → lv (zk (i + 1) l) = lv (zk i l) + (zb l i 0).toNat * 256 ^ i
  | x :: r, 0, _ => by simp [lv]
  | x :: r, i + 1, h => by
    have e := lv_take_succ r i (by simpa using h)
    rw [Xj, Xj, lv, lv, e, Ya, Zl, Nat.mul_add, Nat.add_assoc]
    congr 2
    ac_rfl
/-- bytes of a number, the lowest first -/
def lb : Nat → Nat → List UInt8
  | 0, _ => []
  | k + 1, n => zF n :: lb k (n / 256)
theorem lb_len : ∀ (k n : Nat), (lb k n).length = k
  | 0, _ => rfl
  | k + 1, n => by rw [lb, Zu, lb_len k]
theorem ofNat8_val (n : Nat) : (zF n).toNat = n % 256 := by
  show (BitVec.ofNat 8 n).toNat = n % 256
  rw [BitVec.toNat_ofNat]
theorem lb_val : ∀ (k n : Nat), lv (lb k n) = n % 256 ^ k
  | 0, n => by rw [Qf, Nat.mod_one]; rfl
  | k + 1, n => by rw [lb, lv, lb_val k, ofNat8_val, Zl, z5 (256 ^ k), Nat.mod_mul]
theorem lb_snoc : ∀ (k n : Nat), lb (k + 1) n = lb k n ++ [zF (n / 256 ^ k)]
  | 0, n => by simp [lb]
  | k + 1, n => by rw [lb, lb_snoc k (n / 256), lb, List.cons_append, ZT, Zl, z5 256]
theorem dv_dig : ∀ (l : List UInt64) (j : Nat), (zb l j 0).toNat = dv 18446744073709551616 l / 18446744073709551616 ^ j % 18446744073709551616
  | [], j => by simp [dv]
  | x :: r, 0 => by have := lt64 x; rw [List.getD_cons_zero, dv_cons, Qf, Nat.div_one]; omega
  | x :: r, j + 1 => by
    have := lt64 x
    rw [Ya, dv_dig r j, dv_cons, Zl, z5 (_ ^ j), ← ZT]
    congr 2
    omega
theorem p64 : 18446744073709551616 = 256 ^ 8 := by decide
theorem or_at {a : List UInt64} (ha : a.length = 4) {i : Nat} (hi : i < 32) (h : nv a < 256 ^ i) (x : UInt8) : nv (zy a (i / 8) (zb a (i / 8) 0 ||| (Zr x <<< zd (8 * (i % 8))))) = nv a + x.toNat * 256 ^ i := by
  have hx : x.toNat < 256 := x.toNat_lt
  have hd := dv_dig a (i / 8)
  have hp : 256 ^ i = 256 ^ (i % 8) * 18446744073709551616 ^ (i / 8) := by rw [p64, ← Qk, ← Z6]; congr 1; omega
  have hq : (zb a (i / 8) 0).toNat < 256 ^ (i % 8) := by
    rw [hd]
    refine Nat.lt_of_le_of_lt (Nat.mod_le _ _) ((Nat.div_lt_iff_lt_mul (Nat.pow_pos (by decide))).2 ?_)
    rw [← hp]; exact h
  have hr : 256 ^ (i % 8) = 2 ^ (8 * (i % 8)) := by rw [show (256 : Nat) = 2 ^ 8 from rfl, ← Qk]
  have h64 : x.toNat * 2 ^ (8 * (i % 8)) < 18446744073709551616 := by
    have e1 : 2 ^ (8 * (i % 8)) ≤ 2 ^ 56 := YE (by decide) (by omega)
    have e2 : x.toNat * 2 ^ (8 * (i % 8)) ≤ 255 * 2 ^ 56 := Nat.mul_le_mul (by omega) e1
    omega
  have e : (zb a (i / 8) 0 ||| (Zr x <<< zd (8 * (i % 8)))).toNat = (zb a (i / 8) 0).toNat + x.toNat * 256 ^ (i % 8) := by
    have hs : (zd (8 * (i % 8))).toNat % 64 = 8 * (i % 8) := by rw [ofNat_val]; omega
    rw [UInt64.toNat_or, UInt64.toNat_shiftLeft, hs, UInt8.toNat_toUInt64, ZW, zK h64, Nat.or_comm, ← ZW, ← Nat.shiftLeft_add_eq_or_of_lt (by rw [← hr]; exact hq), ZW, hr]
    omega
  have hs := dv_set 18446744073709551616 (zb a (i / 8) 0 ||| (Zr x <<< zd (8 * (i % 8)))) a (i / 8) (by omega)
  rw [e, Nat.add_mul, Nat.mul_assoc, ← hp] at hs
  show dv _ _ = dv _ _ + _
  omega
theorem take_set_succ {α : Type} {l : List α} {i : Nat} {x : α} (h : i < l.length) : zk (i + 1) (zy l i x) = zk i l ++ [x] := by
  rw [List.take_add_one, List.take_set_of_le (Nat.le_refl i), List.getElem?_set_self h]
  rfl
theorem byte_at {a : List UInt64} (ha : a.length = 4) {i : Nat} (hi : i < 32) : zj (zb a (i / 8) 0 >>> zd (8 * (i % 8))) = zF (nv a / 256 ^ i) := by
  apply UInt8.toNat_inj.1
  have hs : (zd (8 * (i % 8))).toNat % 64 = 8 * (i % 8) := by rw [ofNat_val]; omega
  have hp : 256 ^ i = 18446744073709551616 ^ (i / 8) * 256 ^ (i % 8) := by rw [p64, ← Qk, ← Z6]; congr 1; omega
  rw [UInt64.toNat_toUInt8, UInt64.toNat_shiftRight, hs, ofNat8_val, dv_dig, Nat.shiftRight_eq_div_pow, hp, ← ZT]
  show _ = dv _ _ / _ / _ % _
  generalize dv 18446744073709551616 a / 18446744073709551616 ^ (i / 8) = d
  have hr : 2 ^ (8 * (i % 8)) = 256 ^ (i % 8) := by rw [show (256 : Nat) = 2 ^ 8 from rfl, ← Qk]
  have hB : 18446744073709551616 = 256 ^ (i % 8) * 256 ^ (8 - i % 8) := by rw [p64, ← Z6]; congr 1; omega
  rw [hr]
  conv => lhs; rw [hB]
  rw [Nat.mod_mul_right_div_self, Nat.mod_mod_of_dvd]
  exact ⟨256 ^ (8 - i % 8 - 1), by rw [← Nat.pow_succ']; congr 1; omega⟩

theorem fromle_go (w : World) (b : List UInt8) (hb : za b = 32) : Calls Tryd.prog 19 #[.agg (zi (bys b))] w fun e w' => e = .returned (.agg (zi (zh (nd (lv b))))) ∧ Ev w [] w' [] := by
 refine d_0 [(0, .agg (zi (bys b)))] 24 Go.Proofs.Tryd.func19 Go.Proofs.Tryd.ntmps19 (Heap.nil _) fun act0 En0 Hv0 => ?_
 refine wp_seq <| zm <| f_o <| m_m 22 (bys b) En0 Hv0 fun _ _ bk1 En4 Hv5 => ?_
 refine f_o <| m_z 34 (zh (ze 4 0)) En4 Hv5 fun _ _ bk6 En9 Hv10 => ?_
 refine f_e <| zg <| wp_seq <| zm <| f_o <| m_z 34 (zh (ze 4 0)) En9 Hv10 fun _ _ bk11 En14 Hv15 => ?_
 refine f_e <| zg <| wp_seq <| d_s [1,2,3,5] [] En14 fun _ En17 => ?_
 refine wp_block <| Qh (fun ms18 ac wo => ∃ (i : Nat) (x : List UInt64), ms18 = (33 - i : Nat) ∧ Env ac 24 [(1, pt bk1), (2, pt bk6), (3, pt bk11), (5, ni i)] ∧ Ev w [] wo [.box bk11 (zh x) 34, .box bk1 (bys b) 22, .box bk6 (zh (ze 4 0)) 34] ∧ (i ≤ 32) ∧ (za x = 4) ∧ (nv x = lv (zk i b))) ⟨_, 0, ze 4 0, rfl, En17.sb, Hv15.pk [2, 0, 1], by omega, zf, rfl⟩ ?_
 rintro mm24 _ _ ⟨i, x, rfl, En22, Hv23, hi, hx, hxv⟩
 refine d_s [1,2,3,5,6] [] En22 fun _ En26 => ?_
 refine wp_seq <| c_d (((i : Nat) : Int) < (32 : Int)) En26 (fun hc27 => ?_) (fun hc27 => ?_)
 ·
  refine wp_skip <| zg <| wp_seq <| wp_block <| d_s [1,2,3,4,5] [] En26 fun _ En29 => ?_
  refine r_c (fun ac wo => Env ac 24 [(1, pt bk1), (2, pt bk6), (3, pt bk11), (5, ni i)] ∧ Ev w [] wo [.box bk11 (zh (zy x (i / 8) ((zb x (i / 8) 0) ||| ((Zr (zb b i 0)) <<< zd (8 * (i % 8)))))) 34, .box bk1 (bys b) 22, .box bk6 (zh (ze 4 0)) 34]) ?_ ?_
  ·
   refine h_s (fun wv => Ev w [] wv [.box bk11 (zh x) 34, .box bk1 (bys b) 22]) [14] 15 ?_
   have wo30 := Hv23.trans (z4 Hv23.heap)
   refine q_s [0,1] [(1, g_i .i64 (show IntKind.wrap .i64 (Y4 ((i : Nat) : Int) (8 : Int)) = ((i / 8 : Nat) : Int) from Go.Dbr.i64_quo_nat (a := ((i : Nat) : Int)) (n := i) (m := 8) rfl (by omega)))] 13 En29 (wo30.pk [0, 1]) fun _ En107 => ?_
   refine q_f 2 (s := Instr.indexAt 34 (pt bk11) (ni (i / 8))) (v := .pointer (some ⟨bk11, i / 8, none⟩)) En107 (fun _ => Go.Dbr.run_indexarr (e := 32) (sz := 1) (m := 4) (j := i / 8) (o := i / 8) (by kernel_rfl) (by kernel_rfl) (by omega) (by omega) (by omega) _) (fun _ => wo30.pk [0, 1]) fun _ En109 => ?_
   have hb110 : i / 8 < za x := by rw [hx]; omega
   refine q_r 3 (s := Instr.loadAt 32 (.pointer (some ⟨bk11, i / 8, none⟩))) (v := zn (zb x (i / 8) 0)) En109 (fun w hS => ZO (by kernel_rfl) (hS.heap.cell (k := 0) rfl (zY hb110))) (wo30.pk [0, 1]) fun _ En112 => ?_
   refine q_s [4] [] 10 En112 (wo30.pk [0, 1]) fun _ En114 => ?_
   refine q_f 5 (s := Instr.indexAt 22 (pt bk1) (ni i)) (v := .pointer (some ⟨bk1, i, none⟩)) En114 (fun _ => Go.Dbr.run_indexarr (e := 5) (sz := 1) (m := 32) (j := i) (o := i) (by kernel_rfl) (by kernel_rfl) (by omega) (by omega) (by omega) _) (fun _ => wo30.pk [0, 1]) fun _ En116 => ?_
   have hb117 : i < za b := by rw [hb]; omega
   refine q_r 6 (s := Instr.loadAt 5 (.pointer (some ⟨bk1, i, none⟩))) (v := bv (zb b i 0)) En116 (fun w hS => ZO (by kernel_rfl) (hS.heap.cell (k := 1) rfl (Qa hb117))) (wo30.pk [0, 1]) fun _ En119 => ?_
   refine q_s [7,8,9,10] [(7, g_i .u64 (Go.Dbr.u8_to_u64 (x := zb b i 0) rfl)), (9, g_i .i64 (show Jk ((i : Nat) : Int) (8 : Int) = ((i % 8 : Nat) : Int) from Go.Dbr.i64_rem_nat (a := ((i : Nat) : Int)) (n := i) (m := 8) rfl (by omega))), (10, g_n (w_m 8 (i % 8)))] 4 En119 (wo30.pk [0, 1]) fun _ En121 => ?_
   refine q_f 11 En121 (fun _ => Go.Dbr.run_shl_u64 (Zr (zb b i 0)) .i64 (8 * (i % 8)) (by omega) _) (fun _ => wo30.pk [0, 1]) fun _ En123 => ?_
   refine q_s [12] [(12, g_i .u64 (Go.Dbr.u64_or (x := zb x (i / 8) 0) (y := (Zr (zb b i 0)) <<< zd (8 * (i % 8))) rfl rfl))] 2 En123 (wo30.pk [0, 1]) fun _ En125 => ?_
   refine q_f 13 (s := Instr.indexAt 34 (pt bk11) (ni (i / 8))) (v := .pointer (some ⟨bk11, i / 8, none⟩)) En125 (fun _ => Go.Dbr.run_indexarr (e := 32) (sz := 1) (m := 4) (j := i / 8) (o := i / 8) (by kernel_rfl) (by kernel_rfl) (by omega) (by omega) (by omega) _) (fun _ => wo30.pk [0, 1]) fun _ En127 => ?_
   refine q_t 14 ?_
   have hb128 : i / 8 < za x := by rw [hx]; omega
   refine m_t 0 (i / 8) (zn ((zb x (i / 8) 0) ||| ((Zr (zb b i 0)) <<< zd (8 * (i % 8))))) [.box bk11 (zh (zy x (i / 8) ((zb x (i / 8) 0) ||| ((Zr (zb b i 0)) <<< zd (8 * (i % 8)))))) 34, .box bk1 (bys b) 22, .box bk6 (zh (ze 4 0)) 34] En127 wo30 rfl (zY hb128) (u64s_set _ _ _) rfl fun _ _ En131 Hv132 => ?_
   refine ⟨q_y, ?_⟩
   exact h_e ⟨En131.sb, Hv132.pk [0, 1, 2]⟩
  rintro _ _ ⟨En135, Hv136⟩
  refine zA <| zg <| d_r [1,2,3,5] [(0, g_n (w_a i 1))] En135 fun _ En138 => ?_
  refine zg <| ⟨_, ⟨i + 1, (zy x (i / 8) ((zb x (i / 8) 0) ||| ((Zr (zb b i 0)) <<< zd (8 * (i % 8))))), rfl, En138.sb, Hv136.pk [0, 1, 2], by omega, (List.length_set.trans hx), (or_at hx (by omega) (by rw [hxv]; exact YT (lv_lt _) (YE (by decide) (by rw [zp]; omega))) _).trans (by rw [hxv, ← lv_take_succ _ _ (by omega)])⟩, ?_⟩
  omega
 refine wp_exit <| zI <| zI <| z9 <| zg <| wp_seq <| zm <| f_o <| m_a 0 0 4 (zh x) En26 Hv23 rfl (zq (zc hx)) (zc hx) fun _ En140 => ?_
 refine f_o <| m_g 2 0 4 (zh x) _ [.box bk11 (zh x) 34, .box bk1 (bys b) 22, .box bk6 (zh x) 34] En140 Hv23 rfl (zc hx) (by rw [(zc (zf))]; first | decide | (simp; done)) (zv _) (zs (zc (zf))) rfl fun _ _ En143 Hv144 => ?_
 refine f_e <| zg <| wp_ret <| Zj (v := .agg (zi (zh x))) (t := 2) (T := 34) (ad := ⟨bk6, 0, none⟩) En143 (by kernel_rfl) (by kernel_rfl) (zM (t := 34) (k := 2) (off := 0) (m := 4) (xs := zh x) Hv144 rfl (zq (zc hx)) (zc hx) (by kernel_rfl) (by kernel_rfl)) ?_
 have hi32 : i = 32 := by omega
 have hxe : x = nd (lv b) := nd_of hx (by rw [hxv, hi32, Zk (by omega)])
 subst hxe
 exact ⟨rfl, Hv144.pk []⟩

theorem tole_go (w : World) (a : List UInt64) (ha : za a = 4) : Calls Tryd.prog 28 #[.agg (zi (zh a))] w fun e w' => e = .returned (.agg (zi (bys (lb 32 (nv a))))) ∧ Ev w [] w' [] := by
 refine d_0 [(0, .agg (zi (zh a)))] 21 Go.Proofs.Tryd.func28 Go.Proofs.Tryd.ntmps28 (Heap.nil _) fun act0 En0 Hv0 => ?_
 refine wp_seq <| zm <| f_o <| m_m 34 (zh a) En0 Hv0 fun _ _ bk1 En4 Hv5 => ?_
 refine f_o <| m_z 22 (bys (ze 32 0)) En4 Hv5 fun _ _ bk6 En9 Hv10 => ?_
 refine f_e <| zg <| wp_seq <| zm <| f_o <| m_z 22 (bys (ze 32 0)) En9 Hv10 fun _ _ bk11 En14 Hv15 => ?_
 refine f_e <| zg <| wp_seq <| d_s [1,2,3,5] [] En14 fun _ En17 => ?_
 refine wp_block <| Qh (fun ms18 ac wo => ∃ (i : Nat) (x : List UInt8), ms18 = (33 - i : Nat) ∧ Env ac 21 [(1, pt bk1), (2, pt bk6), (3, pt bk11), (5, ni i)] ∧ Ev w [] wo [.box bk11 (bys x) 22, .box bk1 (zh a) 34, .box bk6 (bys (ze 32 0)) 22] ∧ (i ≤ 32) ∧ (za x = 32) ∧ (zk i x = lb i (nv a))) ⟨_, 0, ze 32 0, rfl, En17.sb, Hv15.pk [2, 0, 1], by omega, zf, rfl⟩ ?_
 rintro mm24 _ _ ⟨i, x, rfl, En22, Hv23, hi, hx, hxv⟩
 refine d_s [1,2,3,5,6] [] En22 fun _ En26 => ?_
 refine wp_seq <| c_d (((i : Nat) : Int) < (32 : Int)) En26 (fun hc27 => ?_) (fun hc27 => ?_)
 ·
  refine wp_skip <| zg <| wp_seq <| wp_block <| d_s [1,2,3,4,5] [] En26 fun _ En29 => ?_
  refine zm <| d_k [1,2,3,4,5,8,10] [(2, g_i .i64 (show IntKind.wrap .i64 (Y4 ((i : Nat) : Int) (8 : Int)) = ((i / 8 : Nat) : Int) from Go.Dbr.i64_quo_nat (a := ((i : Nat) : Int)) (n := i) (m := 8) rfl (by omega)))] 3 En29 fun _ En31 => ?_
  refine f_o <| q_v (x := Instr.indexAt 34 (pt bk1) (ni (i / 8))) (v := .pointer (some ⟨bk1, i / 8, none⟩)) En31 (Go.Dbr.run_indexarr (e := 32) (sz := 1) (m := 4) (j := i / 8) (o := i / 8) (by kernel_rfl) (by kernel_rfl) (by omega) (by omega) (by omega) _) fun _ En33 => ?_
  refine f_o ?_
  have hb34 : i / 8 < za a := by rw [ha]; omega
  refine m_v 1 (i / 8) (zn (zb a (i / 8) 0)) En33 Hv23 rfl (zY hb34) fun _ En36 => ?_
  refine d_k [1,2,3,5,8,12,15] [(6, g_i .i64 (show Jk ((i : Nat) : Int) (8 : Int) = ((i % 8 : Nat) : Int) from Go.Dbr.i64_rem_nat (a := ((i : Nat) : Int)) (n := i) (m := 8) rfl (by omega))), (7, g_n (w_m 8 (i % 8)))] 8 En36 fun _ En38 => ?_
  refine f_o <| q_v En38 (Go.Dbr.run_shr_u64 (zb a (i / 8) 0) .i64 (8 * (i % 8)) (by omega) _) fun _ En40 => ?_
  refine d_k [1,2,3,5,8,17] [(9, g_i .u8 (Go.Dbr.u64_to_u8 (x := (zb a (i / 8) 0) >>> zd (8 * (i % 8))) rfl))] 10 En40 fun _ En42 => ?_
  refine f_o <| q_v (x := Instr.indexAt 22 (pt bk11) (ni i)) (v := .pointer (some ⟨bk11, i, none⟩)) En42 (Go.Dbr.run_indexarr (e := 5) (sz := 1) (m := 32) (j := i) (o := i) (by kernel_rfl) (by kernel_rfl) (by omega) (by omega) (by omega) _) fun _ En44 => ?_
  refine f_o ?_
  have hb45 : i < za x := by rw [hx]; omega
  refine m_t 0 i (bv (zj ((zb a (i / 8) 0) >>> zd (8 * (i % 8))))) [.box bk11 (bys (zy x i (zj ((zb a (i / 8) 0) >>> zd (8 * (i % 8)))))) 22, .box bk1 (zh a) 34, .box bk6 (bys (ze 32 0)) 22] En44 Hv23 rfl (Qa hb45) (bys_set _ _ _) rfl fun _ _ En48 Hv49 => ?_
  refine f_e <| zA <| zg <| d_r [1,2,3,5] [(0, g_n (w_a i 1))] En48 fun _ En51 => ?_
  refine zg <| ⟨_, ⟨i + 1, (zy x i (zj ((zb a (i / 8) 0) >>> zd (8 * (i % 8))))), rfl, En51.sb, Hv49.pk [0, 1, 2], by omega, (List.length_set.trans hx), by rw [take_set_succ (by omega), hxv, byte_at ha (by omega), lb_snoc]⟩, ?_⟩
  omega
 refine wp_exit <| zI <| zI <| z9 <| zg <| wp_seq <| zm <| f_o <| m_a 0 0 32 (bys x) En26 Hv23 rfl (zq (zC hx)) (zC hx) fun _ En53 => ?_
 refine f_o <| m_g 2 0 32 (bys x) _ [.box bk11 (bys x) 22, .box bk1 (zh a) 34, .box bk6 (bys x) 22] En53 Hv23 rfl (zC hx) (by rw [(zC (zf))]; first | decide | (simp; done)) (bys_one _) (zs (zC (zf))) rfl fun _ _ En56 Hv57 => ?_
 refine f_e <| zg <| wp_ret <| Zj (v := .agg (zi (bys x))) (t := 2) (T := 22) (ad := ⟨bk6, 0, none⟩) En56 (by kernel_rfl) (by kernel_rfl) (zM (t := 22) (k := 2) (off := 0) (m := 32) (xs := bys x) Hv57 rfl (zq (zC hx)) (zC hx) (by kernel_rfl) (by kernel_rfl)) ?_
 have hi32 : i = 32 := by omega
 have hxe : x = lb 32 (nv a) := by rw [hi32, Zk (by omega)] at hxv; exact hxv
 subst hxe
 exact ⟨rfl, Hv57.pk []⟩

theorem rfromle_go (w : World) (b : List UInt8) (hb : za b = 32) : Calls Tryd.prog 12 #[.agg (zi (bys b))] w fun e w' => e = .returned (.agg (zi (zh (nd (lv b))))) ∧ Ev w [] w' [] := by
 refine d_0 [(0, .agg (zi (bys b)))] 26 Go.Proofs.Tryd.func12 Go.Proofs.Tryd.ntmps12 (Heap.nil _) fun act0 En0 Hv0 => ?_
 refine wp_seq <| zm <| f_o <| m_m 22 (bys b) En0 Hv0 fun _ _ bk1 En4 Hv5 => ?_
 refine f_o <| m_z 34 (zh (ze 4 0)) En4 Hv5 fun _ _ bk6 En9 Hv10 => ?_
 refine f_e <| zg <| wp_seq <| zm <| f_o <| m_z 34 (zh (ze 4 0)) En9 Hv10 fun _ _ bk11 En14 Hv15 => ?_
 refine f_e <| zg <| wp_seq <| d_s [1,2,3,4] [] En14 fun _ En17 => ?_
 refine wp_block <| Qh (fun ms18 ac wo => ∃ (i : Nat) (x : List UInt64), ms18 = (33 - i : Nat) ∧ Env ac 26 [(1, pt bk1), (2, pt bk6), (3, pt bk11), (4, ni i)] ∧ Ev w [] wo [.box bk11 (zh x) 34, .box bk1 (bys b) 22, .box bk6 (zh (ze 4 0)) 34] ∧ (i ≤ 32) ∧ (za x = 4) ∧ (nv x = lv (zk i b))) ⟨_, 0, ze 4 0, rfl, En17.sb, Hv15.pk [2, 0, 1], by omega, zf, rfl⟩ ?_
 rintro mm24 _ _ ⟨i, x, rfl, En22, Hv23, hi, hx, hxv⟩
 refine wp_seq <| d_s [1,2,3,4,6] [] En22 fun _ En26 => ?_
 refine c_d (((i : Nat) : Int) < (32 : Int)) En26 (fun hc27 => ?_) (fun hc27 => ?_)
 ·
  refine wp_skip <| zg <| wp_seq <| wp_block <| r_c (fun ac wo => Env ac 26 [(1, pt bk1), (2, pt bk6), (3, pt bk11), (4, ni i)] ∧ Ev w [] wo [.box bk11 (zh (zy x (i / 8) ((zb x (i / 8) 0) ||| ((Zr (zb b i 0)) <<< zd (8 * (i % 8)))))) 34, .box bk1 (bys b) 22, .box bk6 (zh (ze 4 0)) 34]) ?_ ?_
  ·
   refine h_s (fun wv => Ev w [] wv [.box bk11 (zh x) 34, .box bk1 (bys b) 22]) [16] 17 ?_
   have wo28 := Hv23.trans (z4 Hv23.heap)
   refine q_s [0,1,2,3] [(1, g_i .i64 (show IntKind.wrap .i64 (Y4 ((i : Nat) : Int) (8 : Int)) = ((i / 8 : Nat) : Int) from Go.Dbr.i64_quo_nat (a := ((i : Nat) : Int)) (n := i) (m := 8) rfl (by omega))), (3, g_i .i64 (show IntKind.wrap .i64 (Y4 ((i : Nat) : Int) (8 : Int)) = ((i / 8 : Nat) : Int) from Go.Dbr.i64_quo_nat (a := ((i : Nat) : Int)) (n := i) (m := 8) rfl (by omega)))] 13 En26 (wo28.pk [0, 1]) fun _ En105 => ?_
   refine q_f 4 (s := Instr.indexAt 34 (pt bk11) (ni (i / 8))) (v := .pointer (some ⟨bk11, i / 8, none⟩)) En105 (fun _ => Go.Dbr.run_indexarr (e := 32) (sz := 1) (m := 4) (j := i / 8) (o := i / 8) (by kernel_rfl) (by kernel_rfl) (by omega) (by omega) (by omega) _) (fun _ => wo28.pk [0, 1]) fun _ En107 => ?_
   have hb108 : i / 8 < za x := by rw [hx]; omega
   refine q_r 5 (s := Instr.loadAt 32 (.pointer (some ⟨bk11, i / 8, none⟩))) (v := zn (zb x (i / 8) 0)) En107 (fun w hS => ZO (by kernel_rfl) (hS.heap.cell (k := 0) rfl (zY hb108))) (wo28.pk [0, 1]) fun _ En110 => ?_
   refine q_s [6] [] 10 En110 (wo28.pk [0, 1]) fun _ En112 => ?_
   refine q_f 7 (s := Instr.indexAt 22 (pt bk1) (ni i)) (v := .pointer (some ⟨bk1, i, none⟩)) En112 (fun _ => Go.Dbr.run_indexarr (e := 5) (sz := 1) (m := 32) (j := i) (o := i) (by kernel_rfl) (by kernel_rfl) (by omega) (by omega) (by omega) _) (fun _ => wo28.pk [0, 1]) fun _ En114 => ?_
   have hb115 : i < za b := by rw [hb]; omega
   refine q_r 8 (s := Instr.loadAt 5 (.pointer (some ⟨bk1, i, none⟩))) (v := bv (zb b i 0)) En114 (fun w hS => ZO (by kernel_rfl) (hS.heap.cell (k := 1) rfl (Qa hb115))) (wo28.pk [0, 1]) fun _ En117 => ?_
   refine q_s [9,10,11,12] [(9, g_i .u64 (Go.Dbr.u8_to_u64 (x := zb b i 0) rfl)), (11, g_i .i64 (show Jk ((i : Nat) : Int) (8 : Int) = ((i % 8 : Nat) : Int) from Go.Dbr.i64_rem_nat (a := ((i : Nat) : Int)) (n := i) (m := 8) rfl (by omega))), (12, g_n (w_m 8 (i % 8)))] 4 En117 (wo28.pk [0, 1]) fun _ En119 => ?_
   refine q_f 13 En119 (fun _ => Go.Dbr.run_shl_u64 (Zr (zb b i 0)) .i64 (8 * (i % 8)) (by omega) _) (fun _ => wo28.pk [0, 1]) fun _ En121 => ?_
   refine q_s [14] [(14, g_i .u64 (Go.Dbr.u64_or (x := zb x (i / 8) 0) (y := (Zr (zb b i 0)) <<< zd (8 * (i % 8))) rfl rfl))] 2 En121 (wo28.pk [0, 1]) fun _ En123 => ?_
   refine q_f 15 (s := Instr.indexAt 34 (pt bk11) (ni (i / 8))) (v := .pointer (some ⟨bk11, i / 8, none⟩)) En123 (fun _ => Go.Dbr.run_indexarr (e := 32) (sz := 1) (m := 4) (j := i / 8) (o := i / 8) (by kernel_rfl) (by kernel_rfl) (by omega) (by omega) (by omega) _) (fun _ => wo28.pk [0, 1]) fun _ En125 => ?_
   refine q_t 16 ?_
   have hb126 : i / 8 < za x := by rw [hx]; omega
   refine m_t 0 (i / 8) (zn ((zb x (i / 8) 0) ||| ((Zr (zb b i 0)) <<< zd (8 * (i % 8))))) [.box bk11 (zh (zy x (i / 8) ((zb x (i / 8) 0) ||| ((Zr (zb b i 0)) <<< zd (8 * (i % 8)))))) 34, .box bk1 (bys b) 22, .box bk6 (zh (ze 4 0)) 34] En125 wo28 rfl (zY hb126) (u64s_set _ _ _) rfl fun _ _ En129 Hv130 => ?_
   refine ⟨q_y, ?_⟩
   exact h_e ⟨En129.sb, Hv130.pk [0, 1, 2]⟩
  rintro _ _ ⟨En133, Hv134⟩
  refine zA <| zg <| d_r [1,2,3,4] [(1, g_n (w_a i 1))] En133 fun _ En136 => ?_
  refine zg <| ⟨_, ⟨i + 1, (zy x (i / 8) ((zb x (i / 8) 0) ||| ((Zr (zb b i 0)) <<< zd (8 * (i % 8))))), rfl, En136.sb, Hv134.pk [0, 1, 2], by omega, (List.length_set.trans hx), (or_at hx (by omega) (by rw [hxv]; exact YT (lv_lt _) (YE (by decide) (by rw [zp]; omega))) _).trans (by rw [hxv, ← lv_take_succ _ _ (by omega)])⟩, ?_⟩
  omega
 refine wp_exit <| zI <| zI <| z9 <| zg <| wp_seq <| zm <| f_o <| m_a 0 0 4 (zh x) En26 Hv23 rfl (zq (zc hx)) (zc hx) fun _ En138 => ?_
 refine f_o <| m_g 2 0 4 (zh x) _ [.box bk11 (zh x) 34, .box bk1 (bys b) 22, .box bk6 (zh x) 34] En138 Hv23 rfl (zc hx) (by rw [(zc (zf))]; first | decide | (simp; done)) (zv _) (zs (zc (zf))) rfl fun _ _ En141 Hv142 => ?_
 refine f_e <| zg <| wp_ret <| Zj (v := .agg (zi (zh x))) (t := 2) (T := 34) (ad := ⟨bk6, 0, none⟩) En141 (by kernel_rfl) (by kernel_rfl) (zM (t := 34) (k := 2) (off := 0) (m := 4) (xs := zh x) Hv142 rfl (zq (zc hx)) (zc hx) (by kernel_rfl) (by kernel_rfl)) ?_
 have hi32 : i = 32 := by omega
 have hxe : x = nd (lv b) := nd_of hx (by rw [hxv, hi32, Zk (by omega)])
 subst hxe
 exact ⟨rfl, Hv142.pk []⟩

theorem rtole_go (w : World) (a : List UInt64) (ha : za a = 4) : Calls Tryd.prog 15 #[.agg (zi (zh a))] w fun e w' => e = .returned (.agg (zi (bys (lb 32 (nv a))))) ∧ Ev w [] w' [] := by
 refine d_0 [(0, .agg (zi (zh a)))] 21 Go.Proofs.Tryd.func15 Go.Proofs.Tryd.ntmps15 (Heap.nil _) fun act0 En0 Hv0 => ?_
 refine wp_seq <| zm <| f_o <| m_m 34 (zh a) En0 Hv0 fun _ _ bk1 En4 Hv5 => ?_
 refine f_o <| m_z 22 (bys (ze 32 0)) En4 Hv5 fun _ _ bk6 En9 Hv10 => ?_
 refine f_e <| zg <| wp_seq <| zm <| f_o <| m_z 22 (bys (ze 32 0)) En9 Hv10 fun _ _ bk11 En14 Hv15 => ?_
 refine f_e <| zg <| wp_seq <| d_s [1,2,3,4] [] En14 fun _ En17 => ?_
 refine wp_block <| Qh (fun ms18 ac wo => ∃ (i : Nat) (x : List UInt8), ms18 = (33 - i : Nat) ∧ Env ac 21 [(1, pt bk1), (2, pt bk6), (3, pt bk11), (4, ni i)] ∧ Ev w [] wo [.box bk11 (bys x) 22, .box bk1 (zh a) 34, .box bk6 (bys (ze 32 0)) 22] ∧ (i ≤ 32) ∧ (za x = 32) ∧ (zk i x = lb i (nv a))) ⟨_, 0, ze 32 0, rfl, En17.sb, Hv15.pk [2, 0, 1], by omega, zf, rfl⟩ ?_
 rintro mm24 _ _ ⟨i, x, rfl, En22, Hv23, hi, hx, hxv⟩
 refine wp_seq <| d_s [1,2,3,4,6] [] En22 fun _ En26 => ?_
 refine c_d (((i : Nat) : Int) < (32 : Int)) En26 (fun hc27 => ?_) (fun hc27 => ?_)
 ·
  refine wp_skip <| zg <| wp_seq <| wp_block <| zm <| d_k [1,2,3,4,9,11] [(2, g_i .i64 (show IntKind.wrap .i64 (Y4 ((i : Nat) : Int) (8 : Int)) = ((i / 8 : Nat) : Int) from Go.Dbr.i64_quo_nat (a := ((i : Nat) : Int)) (n := i) (m := 8) rfl (by omega)))] 3 En26 fun _ En29 => ?_
  refine f_o <| q_v (x := Instr.indexAt 34 (pt bk1) (ni (i / 8))) (v := .pointer (some ⟨bk1, i / 8, none⟩)) En29 (Go.Dbr.run_indexarr (e := 32) (sz := 1) (m := 4) (j := i / 8) (o := i / 8) (by kernel_rfl) (by kernel_rfl) (by omega) (by omega) (by omega) _) fun _ En31 => ?_
  refine f_o ?_
  have hb32 : i / 8 < za a := by rw [ha]; omega
  refine m_v 1 (i / 8) (zn (zb a (i / 8) 0)) En31 Hv23 rfl (zY hb32) fun _ En34 => ?_
  refine d_k [1,2,3,4,9,13,16] [(6, g_i .i64 (show Jk ((i : Nat) : Int) (8 : Int) = ((i % 8 : Nat) : Int) from Go.Dbr.i64_rem_nat (a := ((i : Nat) : Int)) (n := i) (m := 8) rfl (by omega))), (7, g_n (w_m 8 (i % 8)))] 8 En34 fun _ En36 => ?_
  refine f_o <| q_v En36 (Go.Dbr.run_shr_u64 (zb a (i / 8) 0) .i64 (8 * (i % 8)) (by omega) _) fun _ En38 => ?_
  refine d_k [1,2,3,4,9,18] [(9, g_i .u8 (Go.Dbr.u64_to_u8 (x := (zb a (i / 8) 0) >>> zd (8 * (i % 8))) rfl))] 10 En38 fun _ En40 => ?_
  refine f_o <| q_v (x := Instr.indexAt 22 (pt bk11) (ni i)) (v := .pointer (some ⟨bk11, i, none⟩)) En40 (Go.Dbr.run_indexarr (e := 5) (sz := 1) (m := 32) (j := i) (o := i) (by kernel_rfl) (by kernel_rfl) (by omega) (by omega) (by omega) _) fun _ En42 => ?_
  refine f_o ?_
  have hb43 : i < za x := by rw [hx]; omega
  refine m_t 0 i (bv (zj ((zb a (i / 8) 0) >>> zd (8 * (i % 8))))) [.box bk11 (bys (zy x i (zj ((zb a (i / 8) 0) >>> zd (8 * (i % 8)))))) 22, .box bk1 (zh a) 34, .box bk6 (bys (ze 32 0)) 22] En42 Hv23 rfl (Qa hb43) (bys_set _ _ _) rfl fun _ _ En46 Hv47 => ?_
  refine f_e <| zA <| zg <| d_r [1,2,3,4] [(1, g_n (w_a i 1))] En46 fun _ En49 => ?_
  refine zg <| ⟨_, ⟨i + 1, (zy x i (zj ((zb a (i / 8) 0) >>> zd (8 * (i % 8))))), rfl, En49.sb, Hv47.pk [0, 1, 2], by omega, (List.length_set.trans hx), by rw [take_set_succ (by omega), hxv, byte_at ha (by omega), lb_snoc]⟩, ?_⟩
  omega
 refine wp_exit <| zI <| zI <| z9 <| zg <| wp_seq <| zm <| f_o <| m_a 0 0 32 (bys x) En26 Hv23 rfl (zq (zC hx)) (zC hx) fun _ En51 => ?_
 refine f_o <| m_g 2 0 32 (bys x) _ [.box bk11 (bys x) 22, .box bk1 (zh a) 34, .box bk6 (bys x) 22] En51 Hv23 rfl (zC hx) (by rw [(zC (zf))]; first | decide | (simp; done)) (bys_one _) (zs (zC (zf))) rfl fun _ _ En54 Hv55 => ?_
 refine f_e <| zg <| wp_ret <| Zj (v := .agg (zi (bys x))) (t := 2) (T := 22) (ad := ⟨bk6, 0, none⟩) En54 (by kernel_rfl) (by kernel_rfl) (zM (t := 22) (k := 2) (off := 0) (m := 32) (xs := bys x) Hv55 rfl (zq (zC hx)) (zC hx) (by kernel_rfl) (by kernel_rfl)) ?_
 have hi32 : i = 32 := by omega
 have hxe : x = lb 32 (nv a) := by rw [hi32, Zk (by omega)] at hxv; exact hxv
 subst hxe
 exact ⟨rfl, Hv55.pk []⟩

end Go.Proofs.YtlnogkmnklfjlaaDoor

/- Layer 4, the document: sums, differences, products, what bytes leave. -/

namespace Go.Proofs.YtlnogkmnklfjlaaDoor
open Go.Dbr
set_option maxRecDepth 100000
set_option maxHeartbeats 2000000
set_option linter.unusedVariables false
set_option linter.unusedSimpArgs false

end Go.Proofs.YtlnogkmnklfjlaaDoor
