import Derived.Test.YtlnogkmnklfjlaaDoorPo3
open UInt64 renaming ofNat → za, toNat → zt, toNat_add → Zl, toNat_inj → Qk
open Go.Dbr renaming u64s_lenh → zb, then_normal → zg, u64s → zh, uv64 → zl, region_from → zm, load_whole → zn, store_whole → zo, u64s_one → zu, block_normal → zv, then_exit → zy, loop_once → zF, addHi → zK, run_loadAgg2 → zP, block_exit → zV, d_cell1 → z5, then_ret → Zg, h_from → Zs, lt64 → Zx, block_ret → ZB, d_ret1 → ZW, region_cut → Qj, loop_enter → Qv, h_ways → QF, h_to → QQ, addHi_le → Ym, addHi_val → YT
open List renaming replicate → zc, length_replicate → zd, length → ze, toArray → zi, getD_eq_getElem?_getD → zR, length_cons → Zj
open Go.Proofs.YtlnogkmnklfjlaaDoor renaming nds_len → zk, W256 → zH, mod_lt_w → Z5, nv_nd → Qu, mF_pos → YA, nd_mod → Jy, minus_go → JB
open Go.Dbr.Ev renaming cellAgg → zx, drew → zQ
open Nat renaming mod_eq_of_lt → zB, lt_trans → z8, shiftLeft_eq → Zk, mod_lt → Zw, zero_lt_one → Qh, mod_eq_sub_mod → Q3
open Bool renaming eq_false_or_eq_true → ZA
/- Layer 4: the modulus; sums, differences. -/

namespace Go.Proofs.YtlnogkmnklfjlaaDoor
open Go.Dbr
set_option maxRecDepth 100000
set_option maxHeartbeats 2000000
set_option linter.unusedVariables false
set_option linter.unusedSimpArgs false

theorem mod_1 (w : World)  : Calls Tryd.prog 43 #[.int .i64 1] w fun e w' => e = .returned (.agg (zi (zh (nd (mF 1))))) ∧ Ev w [] w' [] := by
 refine d_0 [(0, .int .i64 1)] 19 Go.Proofs.Tryd.func43 Go.Proofs.Tryd.ntmps43 (Heap.nil _) fun act0 En0 Hv0 => ?_
 refine wp_seq <| zm <| f_o <| m_z 34 (zh (zc 4 0)) En0 Hv0 fun _ _ bk1 En4 Hv5 => ?_
 refine f_e <| zg <| wp_seq <| d_s [2,3] [] En4 fun _ En7 => ?_
 refine wp_block <| d_s [2,3,4] [] En7 fun _ En9 => ?_
 refine c_t En9 ?_
 refine wp_seq <| zm <| f_o <| c_p En9 Hv5 (prime1_go _) fun _ _ En15 Hv16 => ?_
 refine f_o <| m_g 0 0 4 (zh (nd (mF 1))) _ [.box bk1 (zh (nd (mF 1))) 34] En15 Hv16 rfl (zb (zk _ _)) (by rw [(zb (zd))]; first | decide | (simp; done)) (zu _) (zo (zb (zd))) rfl fun _ _ En19 Hv20 => ?_
 refine f_e <| zg <| wp_ret <| ZB <| Zg <| z5 (v := .agg (zi (zh (nd (mF 1))))) (t := 2) (T := 34) (ad := ⟨bk1, 0, none⟩) En19 (by kernel_rfl) (by kernel_rfl) (zx (t := 34) (k := 0) (off := 0) (m := 4) (xs := zh (nd (mF 1))) Hv20 rfl (zn (zb (zk _ _))) (zb (zk _ _)) (by kernel_rfl) (by kernel_rfl)) ?_
 exact ⟨rfl, Hv20.pk []⟩

theorem mod_2 (w : World)  : Calls Tryd.prog 43 #[.int .i64 2] w fun e w' => e = .returned (.agg (zi (zh (nd (mF 2))))) ∧ Ev w [] w' [] := by
 refine d_0 [(0, .int .i64 2)] 19 Go.Proofs.Tryd.func43 Go.Proofs.Tryd.ntmps43 (Heap.nil _) fun act0 En0 Hv0 => ?_
 refine wp_seq <| zm <| f_o <| m_z 34 (zh (zc 4 0)) En0 Hv0 fun _ _ bk1 En4 Hv5 => ?_
 refine f_e <| zg <| wp_seq <| d_s [2,3] [] En4 fun _ En7 => ?_
 refine wp_block <| d_s [2,3,4] [] En7 fun _ En9 => ?_
 refine c_f En9 ?_
 refine d_s [2,3,7] [] En9 fun _ En11 => ?_
 refine c_t En11 ?_
 refine wp_seq <| zm <| f_o <| c_p En11 Hv5 (prime2_go _) fun _ _ En17 Hv18 => ?_
 refine f_o <| m_g 0 0 4 (zh (nd (mF 2))) _ [.box bk1 (zh (nd (mF 2))) 34] En17 Hv18 rfl (zb (zk _ _)) (by rw [(zb (zd))]; first | decide | (simp; done)) (zu _) (zo (zb (zd))) rfl fun _ _ En21 Hv22 => ?_
 refine f_e <| zg <| wp_ret <| ZB <| Zg <| z5 (v := .agg (zi (zh (nd (mF 2))))) (t := 2) (T := 34) (ad := ⟨bk1, 0, none⟩) En21 (by kernel_rfl) (by kernel_rfl) (zx (t := 34) (k := 0) (off := 0) (m := 4) (xs := zh (nd (mF 2))) Hv22 rfl (zn (zb (zk _ _))) (zb (zk _ _)) (by kernel_rfl) (by kernel_rfl)) ?_
 exact ⟨rfl, Hv22.pk []⟩

theorem mod_3 (w : World)  : Calls Tryd.prog 43 #[.int .i64 3] w fun e w' => e = .returned (.agg (zi (zh (nd (mF 3))))) ∧ Ev w [] w' [] := by
 refine d_0 [(0, .int .i64 3)] 19 Go.Proofs.Tryd.func43 Go.Proofs.Tryd.ntmps43 (Heap.nil _) fun act0 En0 Hv0 => ?_
 refine wp_seq <| zm <| f_o <| m_z 34 (zh (zc 4 0)) En0 Hv0 fun _ _ bk1 En4 Hv5 => ?_
 refine f_e <| zg <| wp_seq <| d_s [2,3] [] En4 fun _ En7 => ?_
 refine wp_block <| d_s [2,3,4] [] En7 fun _ En9 => ?_
 refine c_f En9 ?_
 refine d_s [2,3,7] [] En9 fun _ En11 => ?_
 refine c_f En11 ?_
 refine d_s [2,3,10] [] En11 fun _ En13 => ?_
 refine c_t En13 ?_
 refine wp_seq <| zm <| d_k [2,3,12] [] 1 En13 fun _ En15 => ?_
 refine f_o <| c_p En15 Hv5 (prime3_go _) fun _ _ En21 Hv22 => ?_
 refine f_o <| m_g 0 0 4 (zh (nd (mF 3))) _ [.box bk1 (zh (nd (mF 3))) 34] En21 Hv22 rfl (zb (zk _ _)) (by rw [(zb (zd))]; first | decide | (simp; done)) (zu _) (zo (zb (zd))) rfl fun _ _ En25 Hv26 => ?_
 refine f_e <| zg <| wp_ret <| ZB <| Zg <| z5 (v := .agg (zi (zh (nd (mF 3))))) (t := 2) (T := 34) (ad := ⟨bk1, 0, none⟩) En25 (by kernel_rfl) (by kernel_rfl) (zx (t := 34) (k := 0) (off := 0) (m := 4) (xs := zh (nd (mF 3))) Hv26 rfl (zn (zb (zk _ _))) (zb (zk _ _)) (by kernel_rfl) (by kernel_rfl)) ?_
 exact ⟨rfl, Hv26.pk []⟩

theorem mod_4 (w : World)  : Calls Tryd.prog 43 #[.int .i64 4] w fun e w' => e = .returned (.agg (zi (zh (nd (mF 4))))) ∧ Ev w [] w' [] := by
 refine d_0 [(0, .int .i64 4)] 19 Go.Proofs.Tryd.func43 Go.Proofs.Tryd.ntmps43 (Heap.nil _) fun act0 En0 Hv0 => ?_
 refine wp_seq <| zm <| f_o <| m_z 34 (zh (zc 4 0)) En0 Hv0 fun _ _ bk1 En4 Hv5 => ?_
 refine f_e <| zg <| wp_seq <| d_s [2,3] [] En4 fun _ En7 => ?_
 refine wp_block <| d_s [2,3,4] [] En7 fun _ En9 => ?_
 refine c_f En9 ?_
 refine d_s [2,3,7] [] En9 fun _ En11 => ?_
 refine c_f En11 ?_
 refine d_s [2,3,10] [] En11 fun _ En13 => ?_
 refine c_f En13 ?_
 refine d_s [2,3,14] [] En13 fun _ En15 => ?_
 refine c_t En15 ?_
 refine wp_seq <| zm <| d_k [2,3,16] [] 1 En15 fun _ En17 => ?_
 refine f_o <| c_p En17 Hv5 (prime4_go _) fun _ _ En23 Hv24 => ?_
 refine f_o <| m_g 0 0 4 (zh (nd (mF 4))) _ [.box bk1 (zh (nd (mF 4))) 34] En23 Hv24 rfl (zb (zk _ _)) (by rw [(zb (zd))]; first | decide | (simp; done)) (zu _) (zo (zb (zd))) rfl fun _ _ En27 Hv28 => ?_
 refine f_e <| zg <| wp_ret <| ZB <| Zg <| z5 (v := .agg (zi (zh (nd (mF 4))))) (t := 2) (T := 34) (ad := ⟨bk1, 0, none⟩) En27 (by kernel_rfl) (by kernel_rfl) (zx (t := 34) (k := 0) (off := 0) (m := 4) (xs := zh (nd (mF 4))) Hv28 rfl (zn (zb (zk _ _))) (zb (zk _ _)) (by kernel_rfl) (by kernel_rfl)) ?_
 exact ⟨rfl, Hv28.pk []⟩

theorem mod_0 (w : World) (f : Int)  (hf : ¬ (f = 1 ∨ f = 2 ∨ f = 3 ∨ f = 4)) : Calls Tryd.prog 43 #[.int .i64 f] w fun e w' => e = .returned (.agg (zi (zh (nd (mF 0))))) ∧ Ev w [] w' [] := by
 refine d_0 [(0, .int .i64 f)] 19 Go.Proofs.Tryd.func43 Go.Proofs.Tryd.ntmps43 (Heap.nil _) fun act0 En0 Hv0 => ?_
 refine wp_seq <| zm <| f_o <| m_z 34 (zh (zc 4 0)) En0 Hv0 fun _ _ bk1 En4 Hv5 => ?_
 refine f_e <| zg <| wp_seq <| d_s [2,3] [] En4 fun _ En7 => ?_
 refine wp_block <| d_s [2,3,4] [] En7 fun _ En9 => ?_
 refine c_e f (1 : Int) En9 (fun hc10 => ?_) (fun hc10 => ?_)
 ·
  exact absurd hc10 (by omega)
 refine d_s [2,3,7] [] En9 fun _ En12 => ?_
 refine c_e f (2 : Int) En12 (fun hc13 => ?_) (fun hc13 => ?_)
 ·
  exact absurd hc13 (by omega)
 refine d_s [2,3,10] [] En12 fun _ En15 => ?_
 refine c_e f (3 : Int) En15 (fun hc16 => ?_) (fun hc16 => ?_)
 ·
  exact absurd hc16 (by omega)
 refine d_s [2,3,14] [] En15 fun _ En18 => ?_
 refine c_e f (4 : Int) En18 (fun hc19 => ?_) (fun hc19 => ?_)
 ·
  exact absurd hc19 (by omega)
 refine wp_skip <| zv <| zg <| wp_seq <| zm <| d_k [2,3,18] [] 1 En18 fun _ En21 => ?_
 refine f_o <| m_g 0 0 4 (zh ([0, 0, 0, 0] : List UInt64)) _ [.box bk1 (zh ([0, 0, 0, 0] : List UInt64)) 34] En21 Hv5 rfl (zb (show ze ([0, 0, 0, 0] : List UInt64) = 4 from rfl)) (by rw [(zb (zd))]; first | decide | (simp; done)) (zu _) (zo (zb (zd))) rfl fun _ _ En24 Hv25 => ?_
 refine f_e <| zg <| wp_ret <| z5 (v := .agg (zi (zh ([0, 0, 0, 0] : List UInt64)))) (t := 2) (T := 34) (ad := ⟨bk1, 0, none⟩) En24 (by kernel_rfl) (by kernel_rfl) (zx (t := 34) (k := 0) (off := 0) (m := 4) (xs := zh ([0, 0, 0, 0] : List UInt64)) Hv25 rfl (zn (zb (show ze ([0, 0, 0, 0] : List UInt64) = 4 from rfl))) (zb (show ze ([0, 0, 0, 0] : List UInt64) = 4 from rfl)) (by kernel_rfl) (by kernel_rfl)) ?_
 exact ⟨by kernel_rfl, Hv25.pk []⟩

theorem mF_none {f : Int} (hf : ¬ (f = 1 ∨ f = 2 ∨ f = 3 ∨ f = 4)) : mF f = 0 := by
  unfold mF
  rw [if_neg (by omega), if_neg (by omega), if_neg (by omega), if_neg (by omega)]
theorem modulus_go (w : World) (f : Int) : Calls Tryd.prog 43 #[.int .i64 f] w fun e w' => e = .returned (.agg (zi (zh (nd (mF f))))) ∧ Ev w [] w' [] := by
  by_cases hf : f = 1 ∨ f = 2 ∨ f = 3 ∨ f = 4
  · rcases hf with rfl | rfl | rfl | rfl
    · exact mod_1 w
    · exact mod_2 w
    · exact mod_3 w
    · exact mod_4 w
  · rw [mF_none hf]
    exact mod_0 w f hf

theorem is_go (w : World) (f : Int) : Calls Tryd.prog 48 #[.int .i64 f] w fun e w' => e = .returned (.bool (decide (f = 1 ∨ f = 2 ∨ f = 3 ∨ f = 4))) ∧ Ev w [] w' [] := by
 refine d_0 [(0, .int .i64 f)] 9 Go.Proofs.Tryd.func48 Go.Proofs.Tryd.ntmps48 (Heap.nil _) fun act0 En0 Hv0 => ?_
 refine d_s [0,2] [] En0 fun _ En2 => ?_
 refine wp_seq <| zm <| d_k [0,2,5] [] 3 En2 fun _ En4 => ?_
 rcases ZA (decide (f ≥ (1 : Int))) with hb5 | hb5
 ·
  have En6 := En4.fx (t := 5) (congrArg Value.bool hb5)
  have hp7 : f ≥ (1 : Int) := of_decide_eq_true hb5
  refine d_e [2] [] En6 fun _ En9 => ?_
  refine zg <| wp_ret <| ZW (t := 2) (v := .bool (decide (f ≤ (4 : Int)))) En9 (by kernel_rfl) (by kernel_rfl) ?_
  have e : (decide (f ≤ (4 : Int))) = decide (f = 1 ∨ f = 2 ∨ f = 3 ∨ f = 4) := by
   by_cases hq : f = 1 ∨ f = 2 ∨ f = 3 ∨ f = 4
   · rw [decide_eq_true hq] <;> first | rfl | exact decide_eq_true (by omega) | (exfalso; omega)
   · rw [decide_eq_false hq] <;> first | rfl | exact decide_eq_false (by omega) | (exfalso; omega)
  exact ⟨by rw [e], Hv0.pk []⟩
 have En10 := En4.fx (t := 5) (congrArg Value.bool hb5)
 have hp11 : ¬ (f ≥ (1 : Int)) := of_decide_eq_false hb5
 refine d_e [2] [] En10 fun _ En13 => ?_
 refine zg <| wp_ret <| ZW (t := 2) (v := .bool false) En13 (by kernel_rfl) (by kernel_rfl) ?_
 have e : (false) = decide (f = 1 ∨ f = 2 ∨ f = 3 ∨ f = 4) := by
  by_cases hq : f = 1 ∨ f = 2 ∨ f = 3 ∨ f = 4
  · rw [decide_eq_true hq] <;> first | rfl | exact decide_eq_true (by omega) | (exfalso; omega)
  · rw [decide_eq_false hq] <;> first | rfl | exact decide_eq_false (by omega) | (exfalso; omega)
 exact ⟨by rw [e], Hv0.pk []⟩

theorem is_go_yes (w : World) (f : Int) (hf : f = 1 ∨ f = 2 ∨ f = 3 ∨ f = 4) : Calls Tryd.prog 48 #[.int .i64 f] w fun e w' => e = .returned (.bool true) ∧ Ev w [] w' [] := by
  have h := is_go w f
  rwa [decide_eq_true hf] at h
theorem right_mF (w : World) (f : Int) (hf : f = 1 ∨ f = 2 ∨ f = 3 ∨ f = 4) (a : List UInt64) (ha : ze a = 4) : Calls Tryd.prog 50 #[.agg (zi (zh a)), .agg (zi (zh (nd (mF f))))] w fun e w' => e = .returned (.agg (zi (zh (nd (nv a % mF f))))) ∧ Ev w [] w' [] := by
  have h := right_go w a (nd (mF f)) ha (zk _ _) (by rw [nv_mF]; exact z8 Qh (YA hf))
  rw [nv_mF] at h
  exact h
theorem plus_nd_go (w : World) (x y : Nat) (hx : x < zH) (hy : y < zH) : Calls Tryd.prog 49 #[.agg (zi (zh (nd x))), .agg (zi (zh (nd y)))] w fun e w' => e = .returned (.tuple #[.agg (zi (zh (nd (x + y)))), zl (u1 (zH ≤ x + y))]) ∧ Ev w [] w' [] := by
  have h := plus_go w (nd x) (nd y) (zk _ _) (zk _ _)
  rw [Qu hx, Qu hy] at h
  exact h
theorem minus_nd_go (w : World) (x y : Nat) (hx : x < zH) (hy : y < zH) : Calls Tryd.prog 51 #[.agg (zi (zh (nd x))), .agg (zi (zh (nd y)))] w fun e w' => e = .returned (.tuple #[.agg (zi (zh (nd (x + zH - y)))), zl (u1 (x < y))]) ∧ Ev w [] w' [] := by
  have h := JB w (nd x) (nd y) (zk _ _) (zk _ _)
  rw [Qu hx, Qu hy] at h
  exact h
theorem add_fin1 {x y M : Nat} (hx : x < M) (hy : y < M) (hM : M < zH) (h : zH ≤ x + y ∨ ¬ nv (nd (x + y)) < nv (nd M)) : nd (nv (nd (x + y)) + zH - nv (nd M)) = nd ((x + y) % M) := by
  rw [Qu hM, nd_val] at *
  have e : (x + y) % M = x + y - M := by
    rw [Q3 (by simp only [zH] at *; omega), zB (by omega)]
  rw [e, ← Jy, ← Jy (x + y - M)]
  congr 1
  simp only [zH] at *
  omega
theorem add_fin2 {x y M : Nat} (hM : M < zH) (h1 : ¬ zH ≤ x + y) (h : nv (nd (x + y)) < nv (nd M)) : nd (x + y) = nd ((x + y) % M) := by
  rw [Qu hM, Qu (by omega)] at h
  rw [zB h]
theorem sub_fin1 {x y M : Nat} (hx : x < M) (hy : y < M) (hM : M < zH) (h : x < y) : nd (nv (nd (x + zH - y)) + nv (nd M)) = nd ((x + M - y) % M) := by
  rw [Qu hM, nd_val, zB (a := x + M - y) (by omega), ← Jy, ← Jy (x + M - y)]
  congr 1
  simp only [zH] at *
  omega
theorem sub_fin2 {x y M : Nat} (hx : x < M) (hy : y < M) (hM : M < zH) (h : ¬ x < y) : nd (x + zH - y) = nd ((x + M - y) % M) := by
  rw [Q3 (by omega), zB (by omega), ← Jy, ← Jy (x + M - y - M)]
  congr 1
  simp only [zH] at *
  omega
/-- numbers of a field -/
def addM (f : Int) (x y : Nat) : Nat := (x + y) % mF f
def subM (f : Int) (x y : Nat) : Nat := (x % mF f + mF f - y % mF f) % mF f
def mulM (f : Int) (x y : Nat) : Nat := (x * y) % mF f
theorem add_mM (f : Int) (x y : Nat) : (x % mF f + y % mF f) % mF f = addM f x y := (Nat.add_mod _ _ _).symm
theorem addM_lt {f : Int} (hf : f = 1 ∨ f = 2 ∨ f = 3 ∨ f = 4) (x y : Nat) : addM f x y < zH := Z5 hf
theorem subM_lt {f : Int} (hf : f = 1 ∨ f = 2 ∨ f = 3 ∨ f = 4) (x y : Nat) : subM f x y < zH := Z5 hf
theorem mulM_lt {f : Int} (hf : f = 1 ∨ f = 2 ∨ f = 3 ∨ f = 4) (x y : Nat) : mulM f x y < zH := Z5 hf

theorem add_go (w : World) (f : Int) (hf : f = 1 ∨ f = 2 ∨ f = 3 ∨ f = 4) (a b : List UInt64) (ha : ze a = 4) (hb : ze b = 4) : Calls Tryd.prog 29 #[.int .i64 f, .agg (zi (zh a)), .agg (zi (zh b))] w fun e w' => e = .returned (.agg (zi (zh (nd (addM f (nv a) (nv b)))))) ∧ Ev w [] w' [] := by
 have hla : nv a % mF f < mF f := Zw _ (z8 Qh (YA hf))
 have hlb : nv b % mF f < mF f := Zw _ (z8 Qh (YA hf))
 have hmw := mF_lt f
 refine d_0 [(0, .int .i64 f), (1, .agg (zi (zh a))), (2, .agg (zi (zh b)))] 39 Go.Proofs.Tryd.func29 Go.Proofs.Tryd.ntmps29 (Heap.nil _) fun act0 En0 Hv0 => ?_
 refine wp_seq <| zm <| f_o <| m_m 34 (zh a) En0 Hv0 fun _ _ bk1 En4 Hv5 => ?_
 refine f_o <| m_m 34 (zh b) En4 Hv5 fun _ _ bk6 En9 Hv10 => ?_
 refine f_o <| m_z 34 (zh (zc 4 0)) En9 Hv10 fun _ _ bk11 En14 Hv15 => ?_
 refine f_e <| zg <| wp_seq <| wp_seq <| zm <| d_k [0,4,5,6,10] [] 1 En14 fun _ En17 => ?_
 refine f_o <| c_p En17 Hv15 (is_go_yes _ f hf) fun _ _ En23 Hv24 => ?_
 refine d_e [0,4,5,6,12] [] En23 fun _ En26 => ?_
 refine zg <| c_f En26 ?_
 refine wp_skip <| zg <| wp_seq <| zm <| d_k [0,4,5,6,14] [] 1 En26 fun _ En28 => ?_
 refine f_o <| c_p En28 Hv24 (modulus_go _ f) fun _ _ En34 Hv35 => ?_
 refine f_o <| m_z 34 (zh (zc 4 0)) En34 Hv35 fun _ _ bk36 En39 Hv40 => ?_
 refine f_o <| m_g 3 0 4 (zh (nd (mF f))) _ [.box bk1 (zh a) 34, .box bk6 (zh b) 34, .box bk11 (zh (zc 4 0)) 34, .box bk36 (zh (nd (mF f))) 34] En39 Hv40 rfl (zb (zk _ _)) (by rw [(zb (zd))]; first | decide | (simp; done)) (zu _) (zo (zb (zd))) rfl fun _ _ En43 Hv44 => ?_
 refine f_e <| zg <| wp_seq <| r_c (fun ac wo => ∃ (bk570 : Nat), Env ac 39 [(0, .int .i64 f), (6, pt bk11), (7, pt bk36), (8, pt bk570), (9, zl (u1 (zH ≤ nv a % mF f + nv b % mF f)))] ∧ Ev w [] wo [.box bk11 (zh (zc 4 0)) 34, .box bk36 (zh (nd (mF f))) 34, .box bk570 (zh (nd (nv a % mF f + nv b % mF f))) 34]) ?_ ?_
 ·
  refine h_s (fun wv => Ev w [] wv [.box bk1 (zh a) 34, .box bk6 (zh b) 34, .box bk36 (zh (nd (mF f))) 34]) [] 13 ?_
  have wo45 := Hv44.trans (zQ Hv44.heap)
  refine h_name fun G hG => ?_
  have nd662 : ∀ (ac : Act) (wo : World), Env ac 39 [(0, .int .i64 f), (6, pt bk11), (7, pt bk36), (23, .tuple #[.agg (zi (zh (nd (nv a % mF f + nv b % mF f)))), zl (u1 (zH ≤ nv a % mF f + nv b % mF f))])] → Ev w [] wo [.box bk1 (zh a) 34, .box bk6 (zh b) 34, .box bk11 (zh (zc 4 0)) 34, .box bk36 (zh (nd (mF f))) 34] → G 6 #[true, true, true, true, true, true, true, false, false, false, false, false, false] ac wo := by
   intro _ _ En665 Hv666
   refine Zs hG ?_
   refine q_s [7,8,9] [] 3 En665 (Hv666.pk [0, 1, 3]) fun _ En668 => ?_
   refine q_t 10 ?_
   refine m_z 34 (zh (zc 4 0)) En668 Hv666 fun _ _ bk669 En672 Hv673 => ?_
   refine ⟨fun _ => Hv673.pk [0, 1, 3], ?_⟩
   refine q_t 11 ?_
   refine m_g 4 0 4 (zh (nd (nv a % mF f + nv b % mF f))) _ [.box bk1 (zh a) 34, .box bk6 (zh b) 34, .box bk11 (zh (zc 4 0)) 34, .box bk36 (zh (nd (mF f))) 34, .box bk669 (zh (nd (nv a % mF f + nv b % mF f))) 34] En672 Hv673 rfl (zb (zk _ _)) (by rw [(zb (zd))]; first | decide | (simp; done)) (zu _) (zo (zb (zd))) rfl fun _ _ En676 Hv677 => ?_
   refine ⟨fun _ => Hv677.pk [0, 1, 3], ?_⟩
   refine q_s [12] [] 0 En676 (Hv677.pk [0, 1, 3]) fun _ En679 => ?_
   exact h_e ⟨bk669, En679.sb, Hv677.pk [2, 3, 4]⟩
  have nd680 : ∀ (ac : Act) (wo : World) (bk581 : Nat), Env ac 39 [(0, .int .i64 f), (6, pt bk11), (7, pt bk36), (8, pt bk581), (19, .agg (zi (zh (nd (nv a % mF f))))), (22, .agg (zi (zh (nd (nv b % mF f)))))] → Ev w [] wo [.box bk1 (zh a) 34, .box bk6 (zh b) 34, .box bk11 (zh (zc 4 0)) 34, .box bk36 (zh (nd (mF f))) 34, .box bk581 (zh (zc 4 0)) 34] → G 6 #[true, true, true, true, true, true, false, false, false, false, true, false, false] ac wo := by
   intro _ _ bk581 En683 Hv684
   refine Zs hG ?_
   refine q_t 6 ?_
   refine c_p En683 Hv684 (plus_nd_go _ (nv a % mF f) (nv b % mF f) (Z5 hf) (Z5 hf)) fun _ _ En690 Hv691 => ?_
   refine ⟨fun _ => Hv691.pk [0, 1, 3], ?_⟩
   refine q_s [7,8,9] [] 2 En690 (Hv691.pk [0, 1, 3]) fun _ En693 => ?_
   refine q_t 11 ?_
   refine m_g 4 0 4 (zh (nd (nv a % mF f + nv b % mF f))) _ [.box bk1 (zh a) 34, .box bk6 (zh b) 34, .box bk11 (zh (zc 4 0)) 34, .box bk36 (zh (nd (mF f))) 34, .box bk581 (zh (nd (nv a % mF f + nv b % mF f))) 34] En693 Hv691 rfl (zb (zk _ _)) (by rw [(zb (zd))]; first | decide | (simp; done)) (zu _) (zo (zb (zd))) rfl fun _ _ En696 Hv697 => ?_
   refine ⟨fun _ => Hv697.pk [0, 1, 3], ?_⟩
   refine q_s [12] [] 0 En696 (Hv697.pk [0, 1, 3]) fun _ En699 => ?_
   exact h_e ⟨bk581, En699.sb, Hv697.pk [2, 3, 4]⟩
  have nd700 : ∀ (ac : Act) (wo : World), Env ac 39 [(0, .int .i64 f), (6, pt bk11), (7, pt bk36), (19, .agg (zi (zh (nd (nv a % mF f))))), (22, .agg (zi (zh (nd (nv b % mF f)))))] → Ev w [] wo [.box bk1 (zh a) 34, .box bk6 (zh b) 34, .box bk11 (zh (zc 4 0)) 34, .box bk36 (zh (nd (mF f))) 34] → G 7 #[true, true, true, true, true, true, false, false, false, false, false, false, false] ac wo := by
   intro _ _ En703 Hv704
   refine Zs hG ?_
   refine QF [6, 10] (by kernel_rfl) rfl ?_
   refine ⟨?_, ?_, trivial⟩
   ·
    rintro _ rfl
    refine c_p En703 Hv704 (plus_nd_go _ (nv a % mF f) (nv b % mF f) (Z5 hf) (Z5 hf)) fun _ _ En710 Hv711 => ?_
    refine ⟨fun _ => Hv711.pk [0, 1, 3], ?_⟩
    exact QQ hG (by kernel_rfl) (nd662 _ _ (En710.sb) (Hv711.pk [0, 1, 2, 3]))
   rintro _ rfl
   refine m_z 34 (zh (zc 4 0)) En703 Hv704 fun _ _ bk712 En715 Hv716 => ?_
   refine ⟨fun _ => Hv716.pk [0, 1, 3], ?_⟩
   exact QQ hG (by kernel_rfl) (nd680 _ _ bk712 (En715.sb) (Hv716.pk [0, 1, 2, 3, 4]))
  have nd717 : ∀ (ac : Act) (wo : World) (bk601 : Nat), Env ac 39 [(0, .int .i64 f), (6, pt bk11), (7, pt bk36), (8, pt bk601), (19, .agg (zi (zh (nd (nv a % mF f))))), (20, .agg (zi (zh b))), (21, .agg (zi (zh (nd (mF f)))))] → Ev w [] wo [.box bk1 (zh a) 34, .box bk6 (zh b) 34, .box bk11 (zh (zc 4 0)) 34, .box bk36 (zh (nd (mF f))) 34, .box bk601 (zh (zc 4 0)) 34] → G 7 #[true, true, true, true, true, false, false, false, false, false, true, false, false] ac wo := by
   intro _ _ bk601 En720 Hv721
   refine Zs hG ?_
   refine q_t 5 ?_
   refine c_p En720 Hv721 (right_mF _ f hf b hb) fun _ _ En727 Hv728 => ?_
   refine ⟨fun _ => Hv728.pk [0, 1, 3], ?_⟩
   refine q_t 6 ?_
   refine c_p En727 Hv728 (plus_nd_go _ (nv a % mF f) (nv b % mF f) (Z5 hf) (Z5 hf)) fun _ _ En734 Hv735 => ?_
   refine ⟨fun _ => Hv735.pk [0, 1, 3], ?_⟩
   refine q_s [7,8,9] [] 2 En734 (Hv735.pk [0, 1, 3]) fun _ En737 => ?_
   refine q_t 11 ?_
   refine m_g 4 0 4 (zh (nd (nv a % mF f + nv b % mF f))) _ [.box bk1 (zh a) 34, .box bk6 (zh b) 34, .box bk11 (zh (zc 4 0)) 34, .box bk36 (zh (nd (mF f))) 34, .box bk601 (zh (nd (nv a % mF f + nv b % mF f))) 34] En737 Hv735 rfl (zb (zk _ _)) (by rw [(zb (zd))]; first | decide | (simp; done)) (zu _) (zo (zb (zd))) rfl fun _ _ En740 Hv741 => ?_
   refine ⟨fun _ => Hv741.pk [0, 1, 3], ?_⟩
   refine q_s [12] [] 0 En740 (Hv741.pk [0, 1, 3]) fun _ En743 => ?_
   exact h_e ⟨bk601, En743.sb, Hv741.pk [2, 3, 4]⟩
  have nd744 : ∀ (ac : Act) (wo : World), Env ac 39 [(0, .int .i64 f), (6, pt bk11), (7, pt bk36), (19, .agg (zi (zh (nd (nv a % mF f))))), (20, .agg (zi (zh b))), (21, .agg (zi (zh (nd (mF f)))))] → Ev w [] wo [.box bk1 (zh a) 34, .box bk6 (zh b) 34, .box bk11 (zh (zc 4 0)) 34, .box bk36 (zh (nd (mF f))) 34] → G 8 #[true, true, true, true, true, false, false, false, false, false, false, false, false] ac wo := by
   intro _ _ En747 Hv748
   refine Zs hG ?_
   refine QF [5, 10] (by kernel_rfl) rfl ?_
   refine ⟨?_, ?_, trivial⟩
   ·
    rintro _ rfl
    refine c_p En747 Hv748 (right_mF _ f hf b hb) fun _ _ En754 Hv755 => ?_
    refine ⟨fun _ => Hv755.pk [0, 1, 3], ?_⟩
    exact QQ hG (by kernel_rfl) (nd700 _ _ (En754.sb) (Hv755.pk [0, 1, 2, 3]))
   rintro _ rfl
   refine m_z 34 (zh (zc 4 0)) En747 Hv748 fun _ _ bk756 En759 Hv760 => ?_
   refine ⟨fun _ => Hv760.pk [0, 1, 3], ?_⟩
   exact QQ hG (by kernel_rfl) (nd717 _ _ bk756 (En759.sb) (Hv760.pk [0, 1, 2, 3, 4]))
  have nd761 : ∀ (ac : Act) (wo : World) (bk628 : Nat), Env ac 39 [(0, .int .i64 f), (6, pt bk11), (7, pt bk36), (8, pt bk628), (17, .agg (zi (zh a))), (18, .agg (zi (zh (nd (mF f))))), (20, .agg (zi (zh b))), (21, .agg (zi (zh (nd (mF f)))))] → Ev w [] wo [.box bk1 (zh a) 34, .box bk6 (zh b) 34, .box bk11 (zh (zc 4 0)) 34, .box bk36 (zh (nd (mF f))) 34, .box bk628 (zh (zc 4 0)) 34] → G 8 #[true, true, false, true, true, false, false, false, false, false, true, false, false] ac wo := by
   intro _ _ bk628 En764 Hv765
   refine Zs hG ?_
   refine q_t 2 ?_
   refine c_p En764 Hv765 (right_mF _ f hf a ha) fun _ _ En771 Hv772 => ?_
   refine ⟨fun _ => Hv772.pk [0, 1, 3], ?_⟩
   refine q_t 5 ?_
   refine c_p En771 Hv772 (right_mF _ f hf b hb) fun _ _ En778 Hv779 => ?_
   refine ⟨fun _ => Hv779.pk [0, 1, 3], ?_⟩
   refine q_t 6 ?_
   refine c_p En778 Hv779 (plus_nd_go _ (nv a % mF f) (nv b % mF f) (Z5 hf) (Z5 hf)) fun _ _ En785 Hv786 => ?_
   refine ⟨fun _ => Hv786.pk [0, 1, 3], ?_⟩
   refine q_s [7,8,9] [] 2 En785 (Hv786.pk [0, 1, 3]) fun _ En788 => ?_
   refine q_t 11 ?_
   refine m_g 4 0 4 (zh (nd (nv a % mF f + nv b % mF f))) _ [.box bk1 (zh a) 34, .box bk6 (zh b) 34, .box bk11 (zh (zc 4 0)) 34, .box bk36 (zh (nd (mF f))) 34, .box bk628 (zh (nd (nv a % mF f + nv b % mF f))) 34] En788 Hv786 rfl (zb (zk _ _)) (by rw [(zb (zd))]; first | decide | (simp; done)) (zu _) (zo (zb (zd))) rfl fun _ _ En791 Hv792 => ?_
   refine ⟨fun _ => Hv792.pk [0, 1, 3], ?_⟩
   refine q_s [12] [] 0 En791 (Hv792.pk [0, 1, 3]) fun _ En794 => ?_
   exact h_e ⟨bk628, En794.sb, Hv792.pk [2, 3, 4]⟩
  refine Zs hG ?_
  refine q_r 0 (s := Instr.loadAt 34 (pt bk1)) (v := .agg (zi (zh a))) En43 (fun w hS => zP (m := 4) (cs := zh a) (zb ha) (by kernel_rfl) (by kernel_rfl) (hS.heap.cells (k := 0) (off := 0) (m := 4) rfl (zn (zb ha)))) (wo45.pk [0, 1, 3]) fun _ En796 => ?_
  refine q_r 1 (s := Instr.loadAt 34 (pt bk36)) (v := .agg (zi (zh (nd (mF f))))) En796 (fun w hS => zP (m := 4) (cs := zh (nd (mF f))) (zb (zk _ _)) (by kernel_rfl) (by kernel_rfl) (hS.heap.cells (k := 2) (off := 0) (m := 4) rfl (zn (zb (zk _ _))))) (wo45.pk [0, 1, 3]) fun _ En798 => ?_
  refine q_r 3 (s := Instr.loadAt 34 (pt bk6)) (v := .agg (zi (zh b))) En798 (fun w hS => zP (m := 4) (cs := zh b) (zb hb) (by kernel_rfl) (by kernel_rfl) (hS.heap.cells (k := 1) (off := 0) (m := 4) rfl (zn (zb hb)))) (wo45.pk [0, 1, 3]) fun _ En800 => ?_
  refine q_r 4 (s := Instr.loadAt 34 (pt bk36)) (v := .agg (zi (zh (nd (mF f))))) En800 (fun w hS => zP (m := 4) (cs := zh (nd (mF f))) (zb (zk _ _)) (by kernel_rfl) (by kernel_rfl) (hS.heap.cells (k := 2) (off := 0) (m := 4) rfl (zn (zb (zk _ _))))) (wo45.pk [0, 1, 3]) fun _ En802 => ?_
  refine QF [2, 10] (by kernel_rfl) rfl ?_
  refine ⟨?_, ?_, trivial⟩
  ·
   rintro _ rfl
   refine c_p En802 wo45 (right_mF _ f hf a ha) fun _ _ En808 Hv809 => ?_
   refine ⟨fun _ => Hv809.pk [0, 1, 3], ?_⟩
   exact QQ hG (by kernel_rfl) (nd744 _ _ (En808.sb) (Hv809.pk [0, 1, 2, 3]))
  rintro _ rfl
  refine m_z 34 (zh (zc 4 0)) En802 wo45 fun _ _ bk810 En813 Hv814 => ?_
  refine ⟨fun _ => Hv814.pk [0, 1, 3], ?_⟩
  exact QQ hG (by kernel_rfl) (nd761 _ _ bk810 (En813.sb) (Hv814.pk [0, 1, 2, 3, 4]))
 rintro _ _ ⟨bk570, En817, Hv818⟩
 refine zg <| wp_seq <| wp_seq <| zm <| d_k [0,6,7,8,28] [(1, g_b (show (((zt (u1 (zH ≤ nv a % mF f + nv b % mF f)) : Nat) : Int) == (1 : Int)) = decide (zH ≤ nv a % mF f + nv b % mF f) from u1_one _))] 3 En817 fun _ En820 => ?_
 rcases ZA (decide (zH ≤ nv a % mF f + nv b % mF f)) with hb821 | hb821
 ·
  have En822 := En820.fx (t := 28) (congrArg Value.bool hb821)
  have hp823 : zH ≤ nv a % mF f + nv b % mF f := of_decide_eq_true hb821
  refine d_e [0,6,7,8,31] [] En822 fun _ En825 => ?_
  refine zg <| c_t En825 ?_
  refine zm <| f_o <| m_a 2 0 4 (zh (nd (nv a % mF f + nv b % mF f))) En825 Hv818 rfl (zn (zb (zk _ _))) (zb (zk _ _)) fun _ En827 => ?_
  refine f_o <| m_a 1 0 4 (zh (nd (mF f))) En827 Hv818 rfl (zn (zb (zk _ _))) (zb (zk _ _)) fun _ En829 => ?_
  refine f_o <| c_p En829 Hv818 (JB _ (nd (nv a % mF f + nv b % mF f)) (nd (mF f)) (zk _ _) (zk _ _)) fun _ _ En835 Hv836 => ?_
  refine d_k [0,6,7,8,36] [] 6 En835 fun _ En838 => ?_
  refine f_o <| m_g 2 0 4 (zh (nd (nv (nd (nv a % mF f + nv b % mF f)) + zH - nv (nd (mF f))))) _ [.box bk11 (zh (zc 4 0)) 34, .box bk36 (zh (nd (mF f))) 34, .box bk570 (zh (nd (nv (nd (nv a % mF f + nv b % mF f)) + zH - nv (nd (mF f))))) 34] En838 Hv836 rfl (zb (zk _ _)) (by rw [(zb (zk _ _))]; first | decide | (simp; done)) (zu _) (zo (zb (zk _ _))) rfl fun _ _ En841 Hv842 => ?_
  refine f_e <| zg <| wp_seq <| zm <| f_o <| m_a 2 0 4 (zh (nd (nv (nd (nv a % mF f + nv b % mF f)) + zH - nv (nd (mF f))))) En841 Hv842 rfl (zn (zb (zk _ _))) (zb (zk _ _)) fun _ En844 => ?_
  refine f_o <| m_g 0 0 4 (zh (nd (nv (nd (nv a % mF f + nv b % mF f)) + zH - nv (nd (mF f))))) _ [.box bk11 (zh (nd (nv (nd (nv a % mF f + nv b % mF f)) + zH - nv (nd (mF f))))) 34, .box bk36 (zh (nd (mF f))) 34, .box bk570 (zh (nd (nv (nd (nv a % mF f + nv b % mF f)) + zH - nv (nd (mF f))))) 34] En844 Hv842 rfl (zb (zk _ _)) (by rw [(zb (zd))]; first | decide | (simp; done)) (zu _) (zo (zb (zd))) rfl fun _ _ En847 Hv848 => ?_
  refine f_e <| zg <| wp_ret <| z5 (v := .agg (zi (zh (nd (nv (nd (nv a % mF f + nv b % mF f)) + zH - nv (nd (mF f))))))) (t := 6) (T := 34) (ad := ⟨bk11, 0, none⟩) En847 (by kernel_rfl) (by kernel_rfl) (zx (t := 34) (k := 0) (off := 0) (m := 4) (xs := zh (nd (nv (nd (nv a % mF f + nv b % mF f)) + zH - nv (nd (mF f))))) Hv848 rfl (zn (zb (zk _ _))) (zb (zk _ _)) (by kernel_rfl) (by kernel_rfl)) ?_
  have e : nd (nv (nd (nv a % mF f + nv b % mF f)) + zH - nv (nd (mF f))) = nd (addM f (nv a) (nv b)) := by rw [← add_mM]; first | exact add_fin1 hla hlb hmw (by first | (left; assumption) | (right; assumption)) | exact add_fin2 hmw (by assumption) (by assumption)
  exact ⟨by rw [e], Hv848.pk []⟩
 have En849 := En820.fx (t := 28) (congrArg Value.bool hb821)
 have hp850 : ¬ (zH ≤ nv a % mF f + nv b % mF f) := of_decide_eq_false hb821
 refine f_o <| c_l [2,1] (M := [.box bk570 (zh (nd (nv a % mF f + nv b % mF f))) 34, .box bk36 (zh (nd (mF f))) 34]) En849 Hv818 (fun hM851 => less_go _ bk570 bk36 (nd (nv a % mF f + nv b % mF f)) (nd (mF f)) (zk _ _) (zk _ _) hM851) ?_
 rintro _ _ ⟨rfl, he853⟩
 refine ⟨_, _, [.box bk570 (zh (nd (nv a % mF f + nv b % mF f))) 34, .box bk36 (zh (nd (mF f))) 34, .box bk11 (zh (zc 4 0)) 34], rfl, he853, by kernel_rfl, fun _ En856 Hv857 => ?_⟩
 refine d_e [0,6,7,8,31] [] En856 fun _ En859 => ?_
 refine zg <| cond_at En859 (t := !(decide (nv (nd (nv a % mF f + nv b % mF f)) < nv (nd (mF f))))) (by kernel_rfl) (fun hc860 => ?_) (fun hc860 => ?_)
 ·
  replace hc860 : ¬ (nv (nd (nv a % mF f + nv b % mF f)) < nv (nd (mF f))) := by simpa using hc860
  refine zm <| f_o <| m_a 0 0 4 (zh (nd (nv a % mF f + nv b % mF f))) En859 Hv857 rfl (zn (zb (zk _ _))) (zb (zk _ _)) fun _ En862 => ?_
  refine f_o <| m_a 1 0 4 (zh (nd (mF f))) En862 Hv857 rfl (zn (zb (zk _ _))) (zb (zk _ _)) fun _ En864 => ?_
  refine f_o <| c_p En864 Hv857 (JB _ (nd (nv a % mF f + nv b % mF f)) (nd (mF f)) (zk _ _) (zk _ _)) fun _ _ En870 Hv871 => ?_
  refine d_k [0,6,7,8,36] [] 6 En870 fun _ En873 => ?_
  refine f_o <| m_g 0 0 4 (zh (nd (nv (nd (nv a % mF f + nv b % mF f)) + zH - nv (nd (mF f))))) _ [.box bk570 (zh (nd (nv (nd (nv a % mF f + nv b % mF f)) + zH - nv (nd (mF f))))) 34, .box bk36 (zh (nd (mF f))) 34, .box bk11 (zh (zc 4 0)) 34] En873 Hv871 rfl (zb (zk _ _)) (by rw [(zb (zk _ _))]; first | decide | (simp; done)) (zu _) (zo (zb (zk _ _))) rfl fun _ _ En876 Hv877 => ?_
  refine f_e <| zg <| wp_seq <| zm <| f_o <| m_a 0 0 4 (zh (nd (nv (nd (nv a % mF f + nv b % mF f)) + zH - nv (nd (mF f))))) En876 Hv877 rfl (zn (zb (zk _ _))) (zb (zk _ _)) fun _ En879 => ?_
  refine f_o <| m_g 2 0 4 (zh (nd (nv (nd (nv a % mF f + nv b % mF f)) + zH - nv (nd (mF f))))) _ [.box bk570 (zh (nd (nv (nd (nv a % mF f + nv b % mF f)) + zH - nv (nd (mF f))))) 34, .box bk36 (zh (nd (mF f))) 34, .box bk11 (zh (nd (nv (nd (nv a % mF f + nv b % mF f)) + zH - nv (nd (mF f))))) 34] En879 Hv877 rfl (zb (zk _ _)) (by rw [(zb (zd))]; first | decide | (simp; done)) (zu _) (zo (zb (zd))) rfl fun _ _ En882 Hv883 => ?_
  refine f_e <| zg <| wp_ret <| z5 (v := .agg (zi (zh (nd (nv (nd (nv a % mF f + nv b % mF f)) + zH - nv (nd (mF f))))))) (t := 6) (T := 34) (ad := ⟨bk11, 0, none⟩) En882 (by kernel_rfl) (by kernel_rfl) (zx (t := 34) (k := 2) (off := 0) (m := 4) (xs := zh (nd (nv (nd (nv a % mF f + nv b % mF f)) + zH - nv (nd (mF f))))) Hv883 rfl (zn (zb (zk _ _))) (zb (zk _ _)) (by kernel_rfl) (by kernel_rfl)) ?_
  have e : nd (nv (nd (nv a % mF f + nv b % mF f)) + zH - nv (nd (mF f))) = nd (addM f (nv a) (nv b)) := by rw [← add_mM]; first | exact add_fin1 hla hlb hmw (by first | (left; assumption) | (right; assumption)) | exact add_fin2 hmw (by assumption) (by assumption)
  exact ⟨by rw [e], Hv883.pk []⟩
 replace hc860 : nv (nd (nv a % mF f + nv b % mF f)) < nv (nd (mF f)) := by simpa using hc860
 refine wp_skip <| zg <| wp_seq <| zm <| f_o <| m_a 0 0 4 (zh (nd (nv a % mF f + nv b % mF f))) En859 Hv857 rfl (zn (zb (zk _ _))) (zb (zk _ _)) fun _ En885 => ?_
 refine f_o <| m_g 2 0 4 (zh (nd (nv a % mF f + nv b % mF f))) _ [.box bk570 (zh (nd (nv a % mF f + nv b % mF f))) 34, .box bk36 (zh (nd (mF f))) 34, .box bk11 (zh (nd (nv a % mF f + nv b % mF f))) 34] En885 Hv857 rfl (zb (zk _ _)) (by rw [(zb (zd))]; first | decide | (simp; done)) (zu _) (zo (zb (zd))) rfl fun _ _ En888 Hv889 => ?_
 refine f_e <| zg <| wp_ret <| z5 (v := .agg (zi (zh (nd (nv a % mF f + nv b % mF f))))) (t := 6) (T := 34) (ad := ⟨bk11, 0, none⟩) En888 (by kernel_rfl) (by kernel_rfl) (zx (t := 34) (k := 2) (off := 0) (m := 4) (xs := zh (nd (nv a % mF f + nv b % mF f))) Hv889 rfl (zn (zb (zk _ _))) (zb (zk _ _)) (by kernel_rfl) (by kernel_rfl)) ?_
 have e : nd (nv a % mF f + nv b % mF f) = nd (addM f (nv a) (nv b)) := by rw [← add_mM]; first | exact add_fin1 hla hlb hmw (by first | (left; assumption) | (right; assumption)) | exact add_fin2 hmw (by assumption) (by assumption)
 exact ⟨by rw [e], Hv889.pk []⟩

theorem sub_go (w : World) (f : Int) (hf : f = 1 ∨ f = 2 ∨ f = 3 ∨ f = 4) (a b : List UInt64) (ha : ze a = 4) (hb : ze b = 4) : Calls Tryd.prog 58 #[.int .i64 f, .agg (zi (zh a)), .agg (zi (zh b))] w fun e w' => e = .returned (.agg (zi (zh (nd (subM f (nv a) (nv b)))))) ∧ Ev w [] w' [] := by
 have hla : nv a % mF f < mF f := Zw _ (z8 Qh (YA hf))
 have hlb : nv b % mF f < mF f := Zw _ (z8 Qh (YA hf))
 have hmw := mF_lt f
 refine d_0 [(0, .int .i64 f), (1, .agg (zi (zh a))), (2, .agg (zi (zh b)))] 35 Go.Proofs.Tryd.func58 Go.Proofs.Tryd.ntmps58 (Heap.nil _) fun act0 En0 Hv0 => ?_
 refine wp_seq <| zm <| f_o <| m_m 34 (zh a) En0 Hv0 fun _ _ bk1 En4 Hv5 => ?_
 refine f_o <| m_m 34 (zh b) En4 Hv5 fun _ _ bk6 En9 Hv10 => ?_
 refine f_o <| m_z 34 (zh (zc 4 0)) En9 Hv10 fun _ _ bk11 En14 Hv15 => ?_
 refine f_e <| zg <| wp_seq <| wp_seq <| zm <| d_k [0,4,5,6,10] [] 1 En14 fun _ En17 => ?_
 refine f_o <| c_p En17 Hv15 (is_go_yes _ f hf) fun _ _ En23 Hv24 => ?_
 refine d_e [0,4,5,6,12] [] En23 fun _ En26 => ?_
 refine zg <| c_f En26 ?_
 refine wp_skip <| zg <| wp_seq <| zm <| d_k [0,4,5,6,14] [] 1 En26 fun _ En28 => ?_
 refine f_o <| c_p En28 Hv24 (modulus_go _ f) fun _ _ En34 Hv35 => ?_
 refine f_o <| m_z 34 (zh (zc 4 0)) En34 Hv35 fun _ _ bk36 En39 Hv40 => ?_
 refine f_o <| m_g 3 0 4 (zh (nd (mF f))) _ [.box bk1 (zh a) 34, .box bk6 (zh b) 34, .box bk11 (zh (zc 4 0)) 34, .box bk36 (zh (nd (mF f))) 34] En39 Hv40 rfl (zb (zk _ _)) (by rw [(zb (zd))]; first | decide | (simp; done)) (zu _) (zo (zb (zd))) rfl fun _ _ En43 Hv44 => ?_
 refine f_e <| zg <| wp_seq <| r_c (fun ac wo => ∃ (bk570 : Nat), Env ac 35 [(0, .int .i64 f), (6, pt bk11), (7, pt bk36), (8, pt bk570), (9, zl (u1 (nv a % mF f < nv b % mF f)))] ∧ Ev w [] wo [.box bk11 (zh (zc 4 0)) 34, .box bk36 (zh (nd (mF f))) 34, .box bk570 (zh (nd (nv a % mF f + zH - (nv b % mF f)))) 34]) ?_ ?_
 ·
  refine h_s (fun wv => Ev w [] wv [.box bk1 (zh a) 34, .box bk6 (zh b) 34, .box bk36 (zh (nd (mF f))) 34]) [] 13 ?_
  have wo45 := Hv44.trans (zQ Hv44.heap)
  refine h_name fun G hG => ?_
  have nd662 : ∀ (ac : Act) (wo : World), Env ac 35 [(0, .int .i64 f), (6, pt bk11), (7, pt bk36), (23, .tuple #[.agg (zi (zh (nd (nv a % mF f + zH - (nv b % mF f))))), zl (u1 (nv a % mF f < nv b % mF f))])] → Ev w [] wo [.box bk1 (zh a) 34, .box bk6 (zh b) 34, .box bk11 (zh (zc 4 0)) 34, .box bk36 (zh (nd (mF f))) 34] → G 6 #[true, true, true, true, true, true, true, false, false, false, false, false, false] ac wo := by
   intro _ _ En665 Hv666
   refine Zs hG ?_
   refine q_s [7,8,9] [] 3 En665 (Hv666.pk [0, 1, 3]) fun _ En668 => ?_
   refine q_t 10 ?_
   refine m_z 34 (zh (zc 4 0)) En668 Hv666 fun _ _ bk669 En672 Hv673 => ?_
   refine ⟨fun _ => Hv673.pk [0, 1, 3], ?_⟩
   refine q_t 11 ?_
   refine m_g 4 0 4 (zh (nd (nv a % mF f + zH - (nv b % mF f)))) _ [.box bk1 (zh a) 34, .box bk6 (zh b) 34, .box bk11 (zh (zc 4 0)) 34, .box bk36 (zh (nd (mF f))) 34, .box bk669 (zh (nd (nv a % mF f + zH - (nv b % mF f)))) 34] En672 Hv673 rfl (zb (zk _ _)) (by rw [(zb (zd))]; first | decide | (simp; done)) (zu _) (zo (zb (zd))) rfl fun _ _ En676 Hv677 => ?_
   refine ⟨fun _ => Hv677.pk [0, 1, 3], ?_⟩
   refine q_s [12] [] 0 En676 (Hv677.pk [0, 1, 3]) fun _ En679 => ?_
   exact h_e ⟨bk669, En679.sb, Hv677.pk [2, 3, 4]⟩
  have nd680 : ∀ (ac : Act) (wo : World) (bk581 : Nat), Env ac 35 [(0, .int .i64 f), (6, pt bk11), (7, pt bk36), (8, pt bk581), (19, .agg (zi (zh (nd (nv a % mF f))))), (22, .agg (zi (zh (nd (nv b % mF f)))))] → Ev w [] wo [.box bk1 (zh a) 34, .box bk6 (zh b) 34, .box bk11 (zh (zc 4 0)) 34, .box bk36 (zh (nd (mF f))) 34, .box bk581 (zh (zc 4 0)) 34] → G 6 #[true, true, true, true, true, true, false, false, false, false, true, false, false] ac wo := by
   intro _ _ bk581 En683 Hv684
   refine Zs hG ?_
   refine q_t 6 ?_
   refine c_p En683 Hv684 (minus_nd_go _ (nv a % mF f) (nv b % mF f) (Z5 hf) (Z5 hf)) fun _ _ En690 Hv691 => ?_
   refine ⟨fun _ => Hv691.pk [0, 1, 3], ?_⟩
   refine q_s [7,8,9] [] 2 En690 (Hv691.pk [0, 1, 3]) fun _ En693 => ?_
   refine q_t 11 ?_
   refine m_g 4 0 4 (zh (nd (nv a % mF f + zH - (nv b % mF f)))) _ [.box bk1 (zh a) 34, .box bk6 (zh b) 34, .box bk11 (zh (zc 4 0)) 34, .box bk36 (zh (nd (mF f))) 34, .box bk581 (zh (nd (nv a % mF f + zH - (nv b % mF f)))) 34] En693 Hv691 rfl (zb (zk _ _)) (by rw [(zb (zd))]; first | decide | (simp; done)) (zu _) (zo (zb (zd))) rfl fun _ _ En696 Hv697 => ?_
   refine ⟨fun _ => Hv697.pk [0, 1, 3], ?_⟩
   refine q_s [12] [] 0 En696 (Hv697.pk [0, 1, 3]) fun _ En699 => ?_
   exact h_e ⟨bk581, En699.sb, Hv697.pk [2, 3, 4]⟩
  have nd700 : ∀ (ac : Act) (wo : World), Env ac 35 [(0, .int .i64 f), (6, pt bk11), (7, pt bk36), (19, .agg (zi (zh (nd (nv a % mF f))))), (22, .agg (zi (zh (nd (nv b % mF f)))))] → Ev w [] wo [.box bk1 (zh a) 34, .box bk6 (zh b) 34, .box bk11 (zh (zc 4 0)) 34, .box bk36 (zh (nd (mF f))) 34] → G 7 #[true, true, true, true, true, true, false, false, false, false, false, false, false] ac wo := by
   intro _ _ En703 Hv704
   refine Zs hG ?_
   refine QF [6, 10] (by kernel_rfl) rfl ?_
   refine ⟨?_, ?_, trivial⟩
   ·
    rintro _ rfl
    refine c_p En703 Hv704 (minus_nd_go _ (nv a % mF f) (nv b % mF f) (Z5 hf) (Z5 hf)) fun _ _ En710 Hv711 => ?_
    refine ⟨fun _ => Hv711.pk [0, 1, 3], ?_⟩
    exact QQ hG (by kernel_rfl) (nd662 _ _ (En710.sb) (Hv711.pk [0, 1, 2, 3]))
   rintro _ rfl
   refine m_z 34 (zh (zc 4 0)) En703 Hv704 fun _ _ bk712 En715 Hv716 => ?_
   refine ⟨fun _ => Hv716.pk [0, 1, 3], ?_⟩
   exact QQ hG (by kernel_rfl) (nd680 _ _ bk712 (En715.sb) (Hv716.pk [0, 1, 2, 3, 4]))
  have nd717 : ∀ (ac : Act) (wo : World) (bk601 : Nat), Env ac 35 [(0, .int .i64 f), (6, pt bk11), (7, pt bk36), (8, pt bk601), (19, .agg (zi (zh (nd (nv a % mF f))))), (20, .agg (zi (zh b))), (21, .agg (zi (zh (nd (mF f)))))] → Ev w [] wo [.box bk1 (zh a) 34, .box bk6 (zh b) 34, .box bk11 (zh (zc 4 0)) 34, .box bk36 (zh (nd (mF f))) 34, .box bk601 (zh (zc 4 0)) 34] → G 7 #[true, true, true, true, true, false, false, false, false, false, true, false, false] ac wo := by
   intro _ _ bk601 En720 Hv721
   refine Zs hG ?_
   refine q_t 5 ?_
   refine c_p En720 Hv721 (right_mF _ f hf b hb) fun _ _ En727 Hv728 => ?_
   refine ⟨fun _ => Hv728.pk [0, 1, 3], ?_⟩
   refine q_t 6 ?_
   refine c_p En727 Hv728 (minus_nd_go _ (nv a % mF f) (nv b % mF f) (Z5 hf) (Z5 hf)) fun _ _ En734 Hv735 => ?_
   refine ⟨fun _ => Hv735.pk [0, 1, 3], ?_⟩
   refine q_s [7,8,9] [] 2 En734 (Hv735.pk [0, 1, 3]) fun _ En737 => ?_
   refine q_t 11 ?_
   refine m_g 4 0 4 (zh (nd (nv a % mF f + zH - (nv b % mF f)))) _ [.box bk1 (zh a) 34, .box bk6 (zh b) 34, .box bk11 (zh (zc 4 0)) 34, .box bk36 (zh (nd (mF f))) 34, .box bk601 (zh (nd (nv a % mF f + zH - (nv b % mF f)))) 34] En737 Hv735 rfl (zb (zk _ _)) (by rw [(zb (zd))]; first | decide | (simp; done)) (zu _) (zo (zb (zd))) rfl fun _ _ En740 Hv741 => ?_
   refine ⟨fun _ => Hv741.pk [0, 1, 3], ?_⟩
   refine q_s [12] [] 0 En740 (Hv741.pk [0, 1, 3]) fun _ En743 => ?_
   exact h_e ⟨bk601, En743.sb, Hv741.pk [2, 3, 4]⟩
  have nd744 : ∀ (ac : Act) (wo : World), Env ac 35 [(0, .int .i64 f), (6, pt bk11), (7, pt bk36), (19, .agg (zi (zh (nd (nv a % mF f))))), (20, .agg (zi (zh b))), (21, .agg (zi (zh (nd (mF f)))))] → Ev w [] wo [.box bk1 (zh a) 34, .box bk6 (zh b) 34, .box bk11 (zh (zc 4 0)) 34, .box bk36 (zh (nd (mF f))) 34] → G 8 #[true, true, true, true, true, false, false, false, false, false, false, false, false] ac wo := by
   intro _ _ En747 Hv748
   refine Zs hG ?_
   refine QF [5, 10] (by kernel_rfl) rfl ?_
   refine ⟨?_, ?_, trivial⟩
   ·
    rintro _ rfl
    refine c_p En747 Hv748 (right_mF _ f hf b hb) fun _ _ En754 Hv755 => ?_
    refine ⟨fun _ => Hv755.pk [0, 1, 3], ?_⟩
    exact QQ hG (by kernel_rfl) (nd700 _ _ (En754.sb) (Hv755.pk [0, 1, 2, 3]))
   rintro _ rfl
   refine m_z 34 (zh (zc 4 0)) En747 Hv748 fun _ _ bk756 En759 Hv760 => ?_
   refine ⟨fun _ => Hv760.pk [0, 1, 3], ?_⟩
   exact QQ hG (by kernel_rfl) (nd717 _ _ bk756 (En759.sb) (Hv760.pk [0, 1, 2, 3, 4]))
  have nd761 : ∀ (ac : Act) (wo : World) (bk628 : Nat), Env ac 35 [(0, .int .i64 f), (6, pt bk11), (7, pt bk36), (8, pt bk628), (17, .agg (zi (zh a))), (18, .agg (zi (zh (nd (mF f))))), (20, .agg (zi (zh b))), (21, .agg (zi (zh (nd (mF f)))))] → Ev w [] wo [.box bk1 (zh a) 34, .box bk6 (zh b) 34, .box bk11 (zh (zc 4 0)) 34, .box bk36 (zh (nd (mF f))) 34, .box bk628 (zh (zc 4 0)) 34] → G 8 #[true, true, false, true, true, false, false, false, false, false, true, false, false] ac wo := by
   intro _ _ bk628 En764 Hv765
   refine Zs hG ?_
   refine q_t 2 ?_
   refine c_p En764 Hv765 (right_mF _ f hf a ha) fun _ _ En771 Hv772 => ?_
   refine ⟨fun _ => Hv772.pk [0, 1, 3], ?_⟩
   refine q_t 5 ?_
   refine c_p En771 Hv772 (right_mF _ f hf b hb) fun _ _ En778 Hv779 => ?_
   refine ⟨fun _ => Hv779.pk [0, 1, 3], ?_⟩
   refine q_t 6 ?_
   refine c_p En778 Hv779 (minus_nd_go _ (nv a % mF f) (nv b % mF f) (Z5 hf) (Z5 hf)) fun _ _ En785 Hv786 => ?_
   refine ⟨fun _ => Hv786.pk [0, 1, 3], ?_⟩
   refine q_s [7,8,9] [] 2 En785 (Hv786.pk [0, 1, 3]) fun _ En788 => ?_
   refine q_t 11 ?_
   refine m_g 4 0 4 (zh (nd (nv a % mF f + zH - (nv b % mF f)))) _ [.box bk1 (zh a) 34, .box bk6 (zh b) 34, .box bk11 (zh (zc 4 0)) 34, .box bk36 (zh (nd (mF f))) 34, .box bk628 (zh (nd (nv a % mF f + zH - (nv b % mF f)))) 34] En788 Hv786 rfl (zb (zk _ _)) (by rw [(zb (zd))]; first | decide | (simp; done)) (zu _) (zo (zb (zd))) rfl fun _ _ En791 Hv792 => ?_
   refine ⟨fun _ => Hv792.pk [0, 1, 3], ?_⟩
   refine q_s [12] [] 0 En791 (Hv792.pk [0, 1, 3]) fun _ En794 => ?_
   exact h_e ⟨bk628, En794.sb, Hv792.pk [2, 3, 4]⟩
  refine Zs hG ?_
  refine q_r 0 (s := Instr.loadAt 34 (pt bk1)) (v := .agg (zi (zh a))) En43 (fun w hS => zP (m := 4) (cs := zh a) (zb ha) (by kernel_rfl) (by kernel_rfl) (hS.heap.cells (k := 0) (off := 0) (m := 4) rfl (zn (zb ha)))) (wo45.pk [0, 1, 3]) fun _ En796 => ?_
  refine q_r 1 (s := Instr.loadAt 34 (pt bk36)) (v := .agg (zi (zh (nd (mF f))))) En796 (fun w hS => zP (m := 4) (cs := zh (nd (mF f))) (zb (zk _ _)) (by kernel_rfl) (by kernel_rfl) (hS.heap.cells (k := 2) (off := 0) (m := 4) rfl (zn (zb (zk _ _))))) (wo45.pk [0, 1, 3]) fun _ En798 => ?_
  refine q_r 3 (s := Instr.loadAt 34 (pt bk6)) (v := .agg (zi (zh b))) En798 (fun w hS => zP (m := 4) (cs := zh b) (zb hb) (by kernel_rfl) (by kernel_rfl) (hS.heap.cells (k := 1) (off := 0) (m := 4) rfl (zn (zb hb)))) (wo45.pk [0, 1, 3]) fun _ En800 => ?_
  refine q_r 4 (s := Instr.loadAt 34 (pt bk36)) (v := .agg (zi (zh (nd (mF f))))) En800 (fun w hS => zP (m := 4) (cs := zh (nd (mF f))) (zb (zk _ _)) (by kernel_rfl) (by kernel_rfl) (hS.heap.cells (k := 2) (off := 0) (m := 4) rfl (zn (zb (zk _ _))))) (wo45.pk [0, 1, 3]) fun _ En802 => ?_
  refine QF [2, 10] (by kernel_rfl) rfl ?_
  refine ⟨?_, ?_, trivial⟩
  ·
   rintro _ rfl
   refine c_p En802 wo45 (right_mF _ f hf a ha) fun _ _ En808 Hv809 => ?_
   refine ⟨fun _ => Hv809.pk [0, 1, 3], ?_⟩
   exact QQ hG (by kernel_rfl) (nd744 _ _ (En808.sb) (Hv809.pk [0, 1, 2, 3]))
  rintro _ rfl
  refine m_z 34 (zh (zc 4 0)) En802 wo45 fun _ _ bk810 En813 Hv814 => ?_
  refine ⟨fun _ => Hv814.pk [0, 1, 3], ?_⟩
  exact QQ hG (by kernel_rfl) (nd761 _ _ bk810 (En813.sb) (Hv814.pk [0, 1, 2, 3, 4]))
 rintro _ _ ⟨bk570, En817, Hv818⟩
 refine zg <| wp_seq <| d_s [0,6,7,8,27] [(1, g_b (show (((zt (u1 (nv a % mF f < nv b % mF f)) : Nat) : Int) == (1 : Int)) = decide (nv a % mF f < nv b % mF f) from u1_one _))] En817 fun _ En820 => ?_
 refine c_d (nv a % mF f < nv b % mF f) En820 (fun hc821 => ?_) (fun hc821 => ?_)
 ·
  refine zm <| f_o <| m_a 2 0 4 (zh (nd (nv a % mF f + zH - (nv b % mF f)))) En820 Hv818 rfl (zn (zb (zk _ _))) (zb (zk _ _)) fun _ En823 => ?_
  refine f_o <| m_a 1 0 4 (zh (nd (mF f))) En823 Hv818 rfl (zn (zb (zk _ _))) (zb (zk _ _)) fun _ En825 => ?_
  refine f_o <| c_p En825 Hv818 (plus_go _ (nd (nv a % mF f + zH - (nv b % mF f))) (nd (mF f)) (zk _ _) (zk _ _)) fun _ _ En831 Hv832 => ?_
  refine d_k [0,6,7,8,32] [] 6 En831 fun _ En834 => ?_
  refine f_o <| m_g 2 0 4 (zh (nd (nv (nd (nv a % mF f + zH - (nv b % mF f))) + nv (nd (mF f))))) _ [.box bk11 (zh (zc 4 0)) 34, .box bk36 (zh (nd (mF f))) 34, .box bk570 (zh (nd (nv (nd (nv a % mF f + zH - (nv b % mF f))) + nv (nd (mF f))))) 34] En834 Hv832 rfl (zb (zk _ _)) (by rw [(zb (zk _ _))]; first | decide | (simp; done)) (zu _) (zo (zb (zk _ _))) rfl fun _ _ En837 Hv838 => ?_
  refine f_e <| zg <| wp_seq <| zm <| f_o <| m_a 2 0 4 (zh (nd (nv (nd (nv a % mF f + zH - (nv b % mF f))) + nv (nd (mF f))))) En837 Hv838 rfl (zn (zb (zk _ _))) (zb (zk _ _)) fun _ En840 => ?_
  refine f_o <| m_g 0 0 4 (zh (nd (nv (nd (nv a % mF f + zH - (nv b % mF f))) + nv (nd (mF f))))) _ [.box bk11 (zh (nd (nv (nd (nv a % mF f + zH - (nv b % mF f))) + nv (nd (mF f))))) 34, .box bk36 (zh (nd (mF f))) 34, .box bk570 (zh (nd (nv (nd (nv a % mF f + zH - (nv b % mF f))) + nv (nd (mF f))))) 34] En840 Hv838 rfl (zb (zk _ _)) (by rw [(zb (zd))]; first | decide | (simp; done)) (zu _) (zo (zb (zd))) rfl fun _ _ En843 Hv844 => ?_
  refine f_e <| zg <| wp_ret <| z5 (v := .agg (zi (zh (nd (nv (nd (nv a % mF f + zH - (nv b % mF f))) + nv (nd (mF f))))))) (t := 6) (T := 34) (ad := ⟨bk11, 0, none⟩) En843 (by kernel_rfl) (by kernel_rfl) (zx (t := 34) (k := 0) (off := 0) (m := 4) (xs := zh (nd (nv (nd (nv a % mF f + zH - (nv b % mF f))) + nv (nd (mF f))))) Hv844 rfl (zn (zb (zk _ _))) (zb (zk _ _)) (by kernel_rfl) (by kernel_rfl)) ?_
  have e : nd (nv (nd (nv a % mF f + zH - (nv b % mF f))) + nv (nd (mF f))) = nd (subM f (nv a) (nv b)) := by first | exact sub_fin1 hla hlb hmw (by assumption) | exact sub_fin2 hla hlb hmw (by assumption)
  exact ⟨by rw [e], Hv844.pk []⟩
 refine wp_skip <| zg <| wp_seq <| zm <| f_o <| m_a 2 0 4 (zh (nd (nv a % mF f + zH - (nv b % mF f)))) En820 Hv818 rfl (zn (zb (zk _ _))) (zb (zk _ _)) fun _ En846 => ?_
 refine f_o <| m_g 0 0 4 (zh (nd (nv a % mF f + zH - (nv b % mF f)))) _ [.box bk11 (zh (nd (nv a % mF f + zH - (nv b % mF f)))) 34, .box bk36 (zh (nd (mF f))) 34, .box bk570 (zh (nd (nv a % mF f + zH - (nv b % mF f)))) 34] En846 Hv818 rfl (zb (zk _ _)) (by rw [(zb (zd))]; first | decide | (simp; done)) (zu _) (zo (zb (zd))) rfl fun _ _ En849 Hv850 => ?_
 refine f_e <| zg <| wp_ret <| z5 (v := .agg (zi (zh (nd (nv a % mF f + zH - (nv b % mF f)))))) (t := 6) (T := 34) (ad := ⟨bk11, 0, none⟩) En849 (by kernel_rfl) (by kernel_rfl) (zx (t := 34) (k := 0) (off := 0) (m := 4) (xs := zh (nd (nv a % mF f + zH - (nv b % mF f)))) Hv850 rfl (zn (zb (zk _ _))) (zb (zk _ _)) (by kernel_rfl) (by kernel_rfl)) ?_
 have e : nd (nv a % mF f + zH - (nv b % mF f)) = nd (subM f (nv a) (nv b)) := by first | exact sub_fin1 hla hlb hmw (by assumption) | exact sub_fin2 hla hlb hmw (by assumption)
 exact ⟨by rw [e], Hv850.pk []⟩

theorem neg_go (w : World) (f : Int) (hf : (f = 1 ∨ f = 2 ∨ f = 3 ∨ f = 4)) (a : List UInt64) (ha : ze a = 4) : Calls Tryd.prog 37 #[.int .i64 f, .agg (zi (zh a))] w fun e w' => e = .returned (.agg (zi (zh (nd (subM f 0 (nv a)))))) ∧ Ev w [] w' [] := by
 refine d_0 [(0, .int .i64 f), (1, .agg (zi (zh a)))] 9 Go.Proofs.Tryd.func37 Go.Proofs.Tryd.ntmps37 (Heap.nil _) fun act0 En0 Hv0 => ?_
 refine wp_seq <| zm <| f_o <| m_m 34 (zh a) En0 Hv0 fun _ _ bk1 En4 Hv5 => ?_
 refine f_o <| m_z 34 (zh (zc 4 0)) En4 Hv5 fun _ _ bk6 En9 Hv10 => ?_
 refine f_e <| zg <| wp_seq <| zm <| d_k [3,4,5,6] [] 2 En9 fun _ En12 => ?_
 refine f_o <| m_a 0 0 4 (zh a) En12 Hv10 rfl (zn (zb ha)) (zb ha) fun _ En14 => ?_
 refine f_o <| c_p En14 Hv10 (sub_go _ f hf ([0, 0, 0, 0] : List UInt64) a (show ze ([0, 0, 0, 0] : List UInt64) = 4 from rfl) ha) fun _ _ En20 Hv21 => ?_
 refine f_o <| m_g 1 0 4 (zh (nd (subM f (nv ([0, 0, 0, 0] : List UInt64)) (nv a)))) _ [.box bk1 (zh a) 34, .box bk6 (zh (nd (subM f (nv ([0, 0, 0, 0] : List UInt64)) (nv a)))) 34] En20 Hv21 rfl (zb (zk _ _)) (by rw [(zb (zd))]; first | decide | (simp; done)) (zu _) (zo (zb (zd))) rfl fun _ _ En24 Hv25 => ?_
 refine f_e <| zg <| wp_ret <| z5 (v := .agg (zi (zh (nd (subM f (nv ([0, 0, 0, 0] : List UInt64)) (nv a)))))) (t := 4) (T := 34) (ad := ⟨bk6, 0, none⟩) En24 (by kernel_rfl) (by kernel_rfl) (zx (t := 34) (k := 1) (off := 0) (m := 4) (xs := zh (nd (subM f (nv ([0, 0, 0, 0] : List UInt64)) (nv a)))) Hv25 rfl (zn (zb (zk _ _))) (zb (zk _ _)) (by kernel_rfl) (by kernel_rfl)) ?_
 exact ⟨rfl, Hv25.pk []⟩

theorem rightq_go (w : World) (f : Int) (a : List UInt64) (ha : ze a = 4) : Calls Tryd.prog 20 #[.int .i64 f, .agg (zi (zh a))] w fun e w' => e = .returned (.bool (decide (nv a < mF f))) ∧ Ev w [] w' [] := by
 refine d_0 [(0, .int .i64 f), (1, .agg (zi (zh a)))] 9 Go.Proofs.Tryd.func20 Go.Proofs.Tryd.ntmps20 (Heap.nil _) fun act0 En0 Hv0 => ?_
 refine wp_seq <| zm <| f_o <| m_m 34 (zh a) En0 Hv0 fun _ _ bk1 En4 Hv5 => ?_
 refine d_e [0,3,4] [] En4 fun _ En7 => ?_
 refine zg <| wp_seq <| zm <| d_k [3,4,6] [] 1 En7 fun _ En9 => ?_
 refine f_o <| c_p En9 Hv5 (modulus_go _ f) fun _ _ En15 Hv16 => ?_
 refine f_o <| m_z 34 (zh (zc 4 0)) En15 Hv16 fun _ _ bk17 En20 Hv21 => ?_
 refine f_o <| m_g 1 0 4 (zh (nd (mF f))) _ [.box bk1 (zh a) 34, .box bk17 (zh (nd (mF f))) 34] En20 Hv21 rfl (zb (zk _ _)) (by rw [(zb (zd))]; first | decide | (simp; done)) (zu _) (zo (zb (zd))) rfl fun _ _ En24 Hv25 => ?_
 refine f_e <| zg <| wp_seq <| zm <| f_o <| c_l [0,1] (M := [.box bk1 (zh a) 34, .box bk17 (zh (nd (mF f))) 34]) En24 Hv25 (fun hM26 => less_go _ bk1 bk17 a (nd (mF f)) ha (zk _ _) hM26) ?_
 rintro _ _ ⟨rfl, he28⟩
 refine ⟨_, _, [.box bk1 (zh a) 34, .box bk17 (zh (nd (mF f))) 34], rfl, he28, by kernel_rfl, fun _ En31 Hv32 => ?_⟩
 refine d_e [4,5] [] En31 fun _ En34 => ?_
 refine zg <| wp_ret <| ZW (t := 4) (v := .bool (decide (nv a < nv (nd (mF f))))) En34 (by kernel_rfl) (by kernel_rfl) ?_
 exact ⟨by rw [nv_mF], Hv32.pk []⟩

end Go.Proofs.YtlnogkmnklfjlaaDoor

/- Layer 4, the document: compared, sums, differences, digits. -/

namespace Go.Proofs.YtlnogkmnklfjlaaDoor
open Go.Dbr
set_option maxRecDepth 100000
set_option maxHeartbeats 2000000
set_option linter.unusedVariables false
set_option linter.unusedSimpArgs false

/-- digits of 32 bits, the lowest first -/
def n32 : Nat → Nat → List UInt64
  | 0, _ => []
  | k + 1, n => za (n % 4294967296) :: n32 k (n / 4294967296)
theorem n32_len : ∀ (k n : Nat), (n32 k n).length = k
  | 0, _ => rfl
  | k + 1, n => by rw [n32, Zj, n32_len k]
theorem n32_hd (n : Nat) : (za (n % 4294967296)).toNat = n % 4294967296 := ofNat_toNat (by omega)
theorem n32_val : ∀ (k n : Nat), dv 4294967296 (n32 k n) = n % 4294967296 ^ k
  | 0, n => by rw [Nat.pow_zero, Nat.mod_one]; rfl
  | k + 1, n => by rw [n32, dv_cons, n32_val k, n32_hd, Nat.pow_succ, Nat.mul_comm (4294967296 ^ k), Nat.mod_mul]
def DG (l : List UInt64) : Prop := ∀ j, (List.getD l j 0).toNat < 4294967296
theorem DG.cons {x : UInt64} {r : List UInt64} : DG (x :: r) ↔ x.toNat < 4294967296 ∧ DG r := by
  constructor
  · intro h
    exact ⟨by have := h 0; simpa using this, fun j => by have := h (j + 1); simpa using this⟩
  · rintro ⟨h1, h2⟩ j
    cases j with
    | zero => simpa using h1
    | succ j => have := h2 j; simpa using this
theorem DG.nil : DG [] := fun j => by simp
theorem n32_dig : ∀ (k n : Nat), DG (n32 k n)
  | 0, n => DG.nil
  | k + 1, n => DG.cons.2 ⟨by rw [n32_hd]; omega, n32_dig k _⟩
theorem n32_dv : ∀ (l : List UInt64), DG l → n32 l.length (dv 4294967296 l) = l
  | [], _ => rfl
  | x :: r, h => by
    have hx := (DG.cons.1 h).1
    rw [Zj, n32, dv_cons]
    have h1 : (x.toNat + 4294967296 * dv 4294967296 r) / 4294967296 = dv 4294967296 r := by omega
    have h2 : za ((x.toNat + 4294967296 * dv 4294967296 r) % 4294967296) = x := by
      apply Qk.1
      rw [n32_hd]
      omega
    rw [h1, h2, n32_dv r (DG.cons.1 h).2]
theorem n32_of {l : List UInt64} {k n : Nat} (hl : l.length = k) (hd : DG l) (h : dv 4294967296 l = n) : l = n32 k n := by rw [← h, ← hl, n32_dv l hd]
theorem DG.set {l : List UInt64} (h : DG l) {i : Nat} {x : UInt64} (hx : x.toNat < 4294967296) : DG (List.set l i x) := fun j => by
  by_cases e : i = j
  · subst e
    by_cases hi : i < l.length
    · rw [zR, List.getElem?_set_self hi]; exact hx
    · rw [zR, List.getElem?_eq_none (by rw [List.length_set]; omega)]; decide
  · rw [getD_set_ne _ e]; exact h j
theorem low32 (t : UInt64) : (t &&& 4294967295).toNat < 4294967296 := by rw [and_low]; omega
theorem high32 (t : UInt64) : (t >>> za 32).toNat < 4294967296 := by rw [shr_high]; have := Zx t; omega
theorem low_high (t : UInt64) : (t &&& 4294967295).toNat + 4294967296 * (t >>> za 32).toNat = t.toNat := by rw [and_low, shr_high]; omega
theorem or_shl {x y : UInt64} (hx : x.toNat < 4294967296) (hy : y.toNat < 4294967296) : (x ||| (y <<< za 32)).toNat = x.toNat + 4294967296 * y.toNat := by
  rw [UInt64.toNat_or, UInt64.toNat_shiftLeft]
  have h : (za 32).toNat % 64 = 32 := by decide
  rw [h, zB (by rw [Zk]; omega), Nat.or_comm, ← Nat.shiftLeft_add_eq_or_of_lt (by omega), Zk]
  omega

theorem rless4 (w : World) (a0 a1 a2 a3 b0 b1 b2 b3 : UInt64) : Calls Tryd.prog 38 #[.agg #[zl a0, zl a1, zl a2, zl a3], .agg #[zl b0, zl b1, zl b2, zl b3]] w fun e w' => e = .returned (.bool (decide (nv [a0, a1, a2, a3] < nv [b0, b1, b2, b3]))) ∧ Ev w [] w' [] := by
 refine d_0 [(0, .agg #[zl a0, zl a1, zl a2, zl a3]), (1, .agg #[zl b0, zl b1, zl b2, zl b3])] 24 Go.Proofs.Tryd.func38 Go.Proofs.Tryd.ntmps38 (Heap.nil _) fun act0 En0 Hv0 => ?_
 refine wp_seq <| zm <| f_o <| m_m 34 [zl a0, zl a1, zl a2, zl a3] En0 Hv0 fun _ _ bk1 En4 Hv5 => ?_
 refine f_o <| m_m 34 [zl b0, zl b1, zl b2, zl b3] En4 Hv5 fun _ _ bk6 En9 Hv10 => ?_
 refine d_e [2,3,4] [] En9 fun _ En12 => ?_
 refine zg <| wp_seq <| d_s [2,3,4,5] [] En12 fun _ En14 => ?_
 refine wp_block <| Qv ?_
 refine zF <| wp_seq <| d_s [2,3,4,5,7] [] En14 fun _ En16 => ?_
 refine c_t En16 ?_
 refine wp_skip <| zg <| wp_seq <| wp_block <| wp_seq <| r_c (fun ac wo => Env ac 24 [(2, pt bk1), (3, pt bk6), (4, .bool false), (5, .int .i64 3), (16, .bool (((zt a3 : Nat) : Int) != ((zt b3 : Nat) : Int)))] ∧ Ev w [] wo [.box bk1 [zl a0, zl a1, zl a2, zl a3] 34, .box bk6 [zl b0, zl b1, zl b2, zl b3] 34]) ?_ ?_
 ·
  refine h_s (fun wv => Ev w [] wv [.box bk1 [zl a0, zl a1, zl a2, zl a3] 34, .box bk6 [zl b0, zl b1, zl b2, zl b3] 34]) [] 7 ?_
  have wo17 := Hv10.trans (zQ Hv10.heap)
  refine q_s [0,1] [] 5 En16 (wo17.pk [0, 1]) fun _ En43 => ?_
  refine q_l 0 2 En43 (wo17.pk [0, 1]) fun _ En45 => ?_
  refine q_s [3,4] [] 2 En45 (wo17.pk [0, 1]) fun _ En47 => ?_
  refine q_l 1 5 En47 (wo17.pk [0, 1]) fun _ En49 => ?_
  refine q_s [6] [] 0 En49 (wo17.pk [0, 1]) fun _ En51 => ?_
  exact h_e ⟨En51.sb, wo17.pk [0, 1]⟩
 rintro _ _ ⟨En54, Hv55⟩
 refine zg <| c_n ((zt a3 : Nat) : Int) ((zt b3 : Nat) : Int) En54 (fun hc56 => ?_) (fun hc56 => ?_)
 ·
  refine wp_seq <| r_c (fun ac wo => Env ac 24 [(2, pt bk1), (3, pt bk6), (4, .bool (decide (((zt a3 : Nat) : Int) < ((zt b3 : Nat) : Int)))), (5, .int .i64 3)] ∧ Ev w [] wo [.box bk1 [zl a0, zl a1, zl a2, zl a3] 34, .box bk6 [zl b0, zl b1, zl b2, zl b3] 34]) ?_ ?_
  ·
   refine h_s (fun wv => Ev w [] wv [.box bk1 [zl a0, zl a1, zl a2, zl a3] 34, .box bk6 [zl b0, zl b1, zl b2, zl b3] 34]) [] 8 ?_
   have wo57 := Hv55.trans (zQ Hv55.heap)
   refine q_s [0,1] [] 6 En54 (wo57.pk [0, 1]) fun _ En83 => ?_
   refine q_l 0 2 En83 (wo57.pk [0, 1]) fun _ En85 => ?_
   refine q_s [3,4] [] 3 En85 (wo57.pk [0, 1]) fun _ En87 => ?_
   refine q_l 1 5 En87 (wo57.pk [0, 1]) fun _ En89 => ?_
   refine q_s [6,7] [] 0 En89 (wo57.pk [0, 1]) fun _ En91 => ?_
   exact h_e ⟨En91.sb, wo57.pk [0, 1]⟩
  rintro _ _ ⟨En94, Hv95⟩
  refine zg <| wp_ret <| ZB <| Zg <| Zg <| ZB <| Zg <| ZW (t := 4) (v := .bool (decide (((zt a3 : Nat) : Int) < ((zt b3 : Nat) : Int)))) En94 (by kernel_rfl) (by kernel_rfl) ?_
  have e : (decide (((zt a3 : Nat) : Int) < ((zt b3 : Nat) : Int))) = decide (nv [a0, a1, a2, a3] < nv [b0, b1, b2, b3]) := by
   rw [nv4, nv4]
   have := Zx a0; have := Zx a1; have := Zx a2; have := Zx a3; have := Zx b0; have := Zx b1; have := Zx b2; have := Zx b3
   first | exact decide_eq_decide.2 (by omega) | exact (decide_eq_false (by omega)).symm
  exact ⟨by rw [e], Hv95.pk []⟩
 refine wp_skip <| zv <| zg <| d_r [2,3,4,5] [] En54 fun _ En97 => ?_
 refine zg <| zF <| wp_seq <| d_s [2,3,4,5,7] [] En97 fun _ En99 => ?_
 refine c_t En99 ?_
 refine wp_skip <| zg <| wp_seq <| wp_block <| wp_seq <| r_c (fun ac wo => Env ac 24 [(2, pt bk1), (3, pt bk6), (4, .bool false), (5, .int .i64 2), (16, .bool (((zt a2 : Nat) : Int) != ((zt b2 : Nat) : Int)))] ∧ Ev w [] wo [.box bk1 [zl a0, zl a1, zl a2, zl a3] 34, .box bk6 [zl b0, zl b1, zl b2, zl b3] 34]) ?_ ?_
 ·
  refine h_s (fun wv => Ev w [] wv [.box bk1 [zl a0, zl a1, zl a2, zl a3] 34, .box bk6 [zl b0, zl b1, zl b2, zl b3] 34]) [] 7 ?_
  have wo100 := Hv55.trans (zQ Hv55.heap)
  refine q_s [0,1] [] 5 En99 (wo100.pk [0, 1]) fun _ En126 => ?_
  refine q_l 0 2 En126 (wo100.pk [0, 1]) fun _ En128 => ?_
  refine q_s [3,4] [] 2 En128 (wo100.pk [0, 1]) fun _ En130 => ?_
  refine q_l 1 5 En130 (wo100.pk [0, 1]) fun _ En132 => ?_
  refine q_s [6] [] 0 En132 (wo100.pk [0, 1]) fun _ En134 => ?_
  exact h_e ⟨En134.sb, wo100.pk [0, 1]⟩
 rintro _ _ ⟨En137, Hv138⟩
 refine zg <| c_n ((zt a2 : Nat) : Int) ((zt b2 : Nat) : Int) En137 (fun hc139 => ?_) (fun hc139 => ?_)
 ·
  refine wp_seq <| r_c (fun ac wo => Env ac 24 [(2, pt bk1), (3, pt bk6), (4, .bool (decide (((zt a2 : Nat) : Int) < ((zt b2 : Nat) : Int)))), (5, .int .i64 2)] ∧ Ev w [] wo [.box bk1 [zl a0, zl a1, zl a2, zl a3] 34, .box bk6 [zl b0, zl b1, zl b2, zl b3] 34]) ?_ ?_
  ·
   refine h_s (fun wv => Ev w [] wv [.box bk1 [zl a0, zl a1, zl a2, zl a3] 34, .box bk6 [zl b0, zl b1, zl b2, zl b3] 34]) [] 8 ?_
   have wo140 := Hv138.trans (zQ Hv138.heap)
   refine q_s [0,1] [] 6 En137 (wo140.pk [0, 1]) fun _ En166 => ?_
   refine q_l 0 2 En166 (wo140.pk [0, 1]) fun _ En168 => ?_
   refine q_s [3,4] [] 3 En168 (wo140.pk [0, 1]) fun _ En170 => ?_
   refine q_l 1 5 En170 (wo140.pk [0, 1]) fun _ En172 => ?_
   refine q_s [6,7] [] 0 En172 (wo140.pk [0, 1]) fun _ En174 => ?_
   exact h_e ⟨En174.sb, wo140.pk [0, 1]⟩
  rintro _ _ ⟨En177, Hv178⟩
  refine zg <| wp_ret <| ZB <| Zg <| Zg <| ZB <| Zg <| ZW (t := 4) (v := .bool (decide (((zt a2 : Nat) : Int) < ((zt b2 : Nat) : Int)))) En177 (by kernel_rfl) (by kernel_rfl) ?_
  have e : (decide (((zt a2 : Nat) : Int) < ((zt b2 : Nat) : Int))) = decide (nv [a0, a1, a2, a3] < nv [b0, b1, b2, b3]) := by
   rw [nv4, nv4]
   have := Zx a0; have := Zx a1; have := Zx a2; have := Zx a3; have := Zx b0; have := Zx b1; have := Zx b2; have := Zx b3
   first | exact decide_eq_decide.2 (by omega) | exact (decide_eq_false (by omega)).symm
  exact ⟨by rw [e], Hv178.pk []⟩
 refine wp_skip <| zv <| zg <| d_r [2,3,4,5] [] En137 fun _ En180 => ?_
 refine zg <| zF <| wp_seq <| d_s [2,3,4,5,7] [] En180 fun _ En182 => ?_
 refine c_t En182 ?_
 refine wp_skip <| zg <| wp_seq <| wp_block <| wp_seq <| r_c (fun ac wo => Env ac 24 [(2, pt bk1), (3, pt bk6), (4, .bool false), (5, .int .i64 1), (16, .bool (((zt a1 : Nat) : Int) != ((zt b1 : Nat) : Int)))] ∧ Ev w [] wo [.box bk1 [zl a0, zl a1, zl a2, zl a3] 34, .box bk6 [zl b0, zl b1, zl b2, zl b3] 34]) ?_ ?_
 ·
  refine h_s (fun wv => Ev w [] wv [.box bk1 [zl a0, zl a1, zl a2, zl a3] 34, .box bk6 [zl b0, zl b1, zl b2, zl b3] 34]) [] 7 ?_
  have wo183 := Hv138.trans (zQ Hv138.heap)
  refine q_s [0,1] [] 5 En182 (wo183.pk [0, 1]) fun _ En209 => ?_
  refine q_l 0 2 En209 (wo183.pk [0, 1]) fun _ En211 => ?_
  refine q_s [3,4] [] 2 En211 (wo183.pk [0, 1]) fun _ En213 => ?_
  refine q_l 1 5 En213 (wo183.pk [0, 1]) fun _ En215 => ?_
  refine q_s [6] [] 0 En215 (wo183.pk [0, 1]) fun _ En217 => ?_
  exact h_e ⟨En217.sb, wo183.pk [0, 1]⟩
 rintro _ _ ⟨En220, Hv221⟩
 refine zg <| c_n ((zt a1 : Nat) : Int) ((zt b1 : Nat) : Int) En220 (fun hc222 => ?_) (fun hc222 => ?_)
 ·
  refine wp_seq <| r_c (fun ac wo => Env ac 24 [(2, pt bk1), (3, pt bk6), (4, .bool (decide (((zt a1 : Nat) : Int) < ((zt b1 : Nat) : Int)))), (5, .int .i64 1)] ∧ Ev w [] wo [.box bk1 [zl a0, zl a1, zl a2, zl a3] 34, .box bk6 [zl b0, zl b1, zl b2, zl b3] 34]) ?_ ?_
  ·
   refine h_s (fun wv => Ev w [] wv [.box bk1 [zl a0, zl a1, zl a2, zl a3] 34, .box bk6 [zl b0, zl b1, zl b2, zl b3] 34]) [] 8 ?_
   have wo223 := Hv221.trans (zQ Hv221.heap)
   refine q_s [0,1] [] 6 En220 (wo223.pk [0, 1]) fun _ En249 => ?_
   refine q_l 0 2 En249 (wo223.pk [0, 1]) fun _ En251 => ?_
   refine q_s [3,4] [] 3 En251 (wo223.pk [0, 1]) fun _ En253 => ?_
   refine q_l 1 5 En253 (wo223.pk [0, 1]) fun _ En255 => ?_
   refine q_s [6,7] [] 0 En255 (wo223.pk [0, 1]) fun _ En257 => ?_
   exact h_e ⟨En257.sb, wo223.pk [0, 1]⟩
  rintro _ _ ⟨En260, Hv261⟩
  refine zg <| wp_ret <| ZB <| Zg <| Zg <| ZB <| Zg <| ZW (t := 4) (v := .bool (decide (((zt a1 : Nat) : Int) < ((zt b1 : Nat) : Int)))) En260 (by kernel_rfl) (by kernel_rfl) ?_
  have e : (decide (((zt a1 : Nat) : Int) < ((zt b1 : Nat) : Int))) = decide (nv [a0, a1, a2, a3] < nv [b0, b1, b2, b3]) := by
   rw [nv4, nv4]
   have := Zx a0; have := Zx a1; have := Zx a2; have := Zx a3; have := Zx b0; have := Zx b1; have := Zx b2; have := Zx b3
   first | exact decide_eq_decide.2 (by omega) | exact (decide_eq_false (by omega)).symm
  exact ⟨by rw [e], Hv261.pk []⟩
 refine wp_skip <| zv <| zg <| d_r [2,3,4,5] [] En220 fun _ En263 => ?_
 refine zg <| zF <| wp_seq <| d_s [2,3,4,5,7] [] En263 fun _ En265 => ?_
 refine c_t En265 ?_
 refine wp_skip <| zg <| wp_seq <| wp_block <| wp_seq <| r_c (fun ac wo => Env ac 24 [(2, pt bk1), (3, pt bk6), (4, .bool false), (5, .int .i64 0), (16, .bool (((zt a0 : Nat) : Int) != ((zt b0 : Nat) : Int)))] ∧ Ev w [] wo [.box bk1 [zl a0, zl a1, zl a2, zl a3] 34, .box bk6 [zl b0, zl b1, zl b2, zl b3] 34]) ?_ ?_
 ·
  refine h_s (fun wv => Ev w [] wv [.box bk1 [zl a0, zl a1, zl a2, zl a3] 34, .box bk6 [zl b0, zl b1, zl b2, zl b3] 34]) [] 7 ?_
  have wo266 := Hv221.trans (zQ Hv221.heap)
  refine q_s [0,1] [] 5 En265 (wo266.pk [0, 1]) fun _ En292 => ?_
  refine q_l 0 2 En292 (wo266.pk [0, 1]) fun _ En294 => ?_
  refine q_s [3,4] [] 2 En294 (wo266.pk [0, 1]) fun _ En296 => ?_
  refine q_l 1 5 En296 (wo266.pk [0, 1]) fun _ En298 => ?_
  refine q_s [6] [] 0 En298 (wo266.pk [0, 1]) fun _ En300 => ?_
  exact h_e ⟨En300.sb, wo266.pk [0, 1]⟩
 rintro _ _ ⟨En303, Hv304⟩
 refine zg <| c_n ((zt a0 : Nat) : Int) ((zt b0 : Nat) : Int) En303 (fun hc305 => ?_) (fun hc305 => ?_)
 ·
  refine wp_seq <| r_c (fun ac wo => Env ac 24 [(2, pt bk1), (3, pt bk6), (4, .bool (decide (((zt a0 : Nat) : Int) < ((zt b0 : Nat) : Int)))), (5, .int .i64 0)] ∧ Ev w [] wo [.box bk1 [zl a0, zl a1, zl a2, zl a3] 34, .box bk6 [zl b0, zl b1, zl b2, zl b3] 34]) ?_ ?_
  ·
   refine h_s (fun wv => Ev w [] wv [.box bk1 [zl a0, zl a1, zl a2, zl a3] 34, .box bk6 [zl b0, zl b1, zl b2, zl b3] 34]) [] 8 ?_
   have wo306 := Hv304.trans (zQ Hv304.heap)
   refine q_s [0,1] [] 6 En303 (wo306.pk [0, 1]) fun _ En332 => ?_
   refine q_l 0 2 En332 (wo306.pk [0, 1]) fun _ En334 => ?_
   refine q_s [3,4] [] 3 En334 (wo306.pk [0, 1]) fun _ En336 => ?_
   refine q_l 1 5 En336 (wo306.pk [0, 1]) fun _ En338 => ?_
   refine q_s [6,7] [] 0 En338 (wo306.pk [0, 1]) fun _ En340 => ?_
   exact h_e ⟨En340.sb, wo306.pk [0, 1]⟩
  rintro _ _ ⟨En343, Hv344⟩
  refine zg <| wp_ret <| ZB <| Zg <| Zg <| ZB <| Zg <| ZW (t := 4) (v := .bool (decide (((zt a0 : Nat) : Int) < ((zt b0 : Nat) : Int)))) En343 (by kernel_rfl) (by kernel_rfl) ?_
  have e : (decide (((zt a0 : Nat) : Int) < ((zt b0 : Nat) : Int))) = decide (nv [a0, a1, a2, a3] < nv [b0, b1, b2, b3]) := by
   rw [nv4, nv4]
   have := Zx a0; have := Zx a1; have := Zx a2; have := Zx a3; have := Zx b0; have := Zx b1; have := Zx b2; have := Zx b3
   first | exact decide_eq_decide.2 (by omega) | exact (decide_eq_false (by omega)).symm
  exact ⟨by rw [e], Hv344.pk []⟩
 refine wp_skip <| zv <| zg <| d_r [2,3,4,5] [] En303 fun _ En346 => ?_
 refine zg <| zF <| wp_seq <| d_s [2,3,4,5,7] [] En346 fun _ En348 => ?_
 refine c_f En348 ?_
 refine wp_exit <| zy <| zy <| zV <| zg <| d_s [2,3,4,5] [] En348 fun _ En350 => ?_
 refine wp_ret <| ZW (t := 4) (v := .bool false) En350 (by kernel_rfl) (by kernel_rfl) ?_
 have e : (false) = decide (nv [a0, a1, a2, a3] < nv [b0, b1, b2, b3]) := by
  rw [nv4, nv4]
  have := Zx a0; have := Zx a1; have := Zx a2; have := Zx a3; have := Zx b0; have := Zx b1; have := Zx b2; have := Zx b3
  first | exact decide_eq_decide.2 (by omega) | exact (decide_eq_false (by omega)).symm
 exact ⟨by rw [e], Hv304.pk []⟩

theorem rless_go (w : World) (a b : List UInt64) (ha : ze a = 4) (hb : ze b = 4) : Calls Tryd.prog 38 #[.agg (zi (zh a)), .agg (zi (zh b))] w fun e w' => e = .returned (.bool (decide (nv a < nv b))) ∧ Ev w [] w' [] := by
  match a, ha, b, hb with
  | [a0, a1, a2, a3], _, [b0, b1, b2, b3], _ => exact rless4 w a0 a1 a2 a3 b0 b1 b2 b3

theorem carry1 {x y : UInt64} : (if (x + y).toNat < x.toNat then (1 : UInt64) else 0) = zK x y 0 := by
  apply Qk.1
  rw [YT]
  have := Zx x; have := Zx y
  rw [Zl, show (0 : UInt64).toNat = 0 from rfl]
  split
  · rw [show (1 : UInt64).toNat = 1 from rfl]; omega
  · rw [show (0 : UInt64).toNat = 0 from rfl]; omega
theorem carry2 {x y c : UInt64} (h : c.toNat ≤ 1) : (if (x + y + c).toNat < (x + y).toNat then (1 : UInt64) else zK x y 0) = zK x y c := by
  apply Qk.1
  have := Zx x; have := Zx y
  split
  · rename_i q
    rw [YT, show (1 : UInt64).toNat = 1 from rfl]
    rw [Zl (x + y), Zl] at q
    omega
  · rename_i q
    rw [YT, YT, show (0 : UInt64).toNat = 0 from rfl]
    rw [Zl (x + y), Zl] at q
    omega

theorem rplus4 (w : World) (a0 a1 a2 a3 b0 b1 b2 b3 : UInt64) : Calls Tryd.prog 13 #[.agg #[zl a0, zl a1, zl a2, zl a3], .agg #[zl b0, zl b1, zl b2, zl b3]] w fun e w' => e = .returned (.tuple #[.agg (zi (zh (plusL [a0, a1, a2, a3] [b0, b1, b2, b3]))), zl (adF [a0, a1, a2, a3] [b0, b1, b2, b3] 4)]) ∧ Ev w [] w' [] := by
 refine d_0 [(0, .agg #[zl a0, zl a1, zl a2, zl a3]), (1, .agg #[zl b0, zl b1, zl b2, zl b3])] 39 Go.Proofs.Tryd.func13 Go.Proofs.Tryd.ntmps13 (Heap.nil _) fun act0 En0 Hv0 => ?_
 refine wp_seq <| zm <| f_o <| m_m 34 [zl a0, zl a1, zl a2, zl a3] En0 Hv0 fun _ _ bk1 En4 Hv5 => ?_
 refine f_o <| m_m 34 [zl b0, zl b1, zl b2, zl b3] En4 Hv5 fun _ _ bk6 En9 Hv10 => ?_
 refine f_o <| m_z 34 (zh (zc 4 0)) En9 Hv10 fun _ _ bk11 En14 Hv15 => ?_
 refine d_e [2,3,4,5] [] En14 fun _ En17 => ?_
 refine zg <| d_s [2,3,4,5,6] [] En17 fun _ En19 => ?_
 refine wp_seq <| d_s [2,3,4,5,6,7] [] En19 fun _ En21 => ?_
 refine wp_block <| Qv ?_
 refine zF <| wp_seq <| d_s [2,3,4,5,6,7,12] [] En21 fun _ En23 => ?_
 refine c_t En23 ?_
 refine wp_skip <| zg <| wp_seq <| wp_block <| wp_seq <| r_c (fun ac wo => Env ac 39 [(2, pt bk1), (3, pt bk6), (4, pt bk11), (5, .int .u64 0), (6, .int .u64 0), (7, .int .i64 0), (8, zl (a0 + b0))] ∧ Ev w [] wo [.box bk1 [zl a0, zl a1, zl a2, zl a3] 34, .box bk6 [zl b0, zl b1, zl b2, zl b3] 34, .box bk11 (zh (zc 4 0)) 34]) ?_ ?_
 ·
  refine h_s (fun wv => Ev w [] wv [.box bk1 [zl a0, zl a1, zl a2, zl a3] 34, .box bk6 [zl b0, zl b1, zl b2, zl b3] 34]) [] 8 ?_
  have wo24 := Hv15.trans (zQ Hv15.heap)
  refine q_s [0,1] [] 6 En23 (wo24.pk [0, 1]) fun _ En50 => ?_
  refine q_l 0 2 En50 (wo24.pk [0, 1]) fun _ En52 => ?_
  refine q_s [3,4] [] 3 En52 (wo24.pk [0, 1]) fun _ En54 => ?_
  refine q_l 1 5 En54 (wo24.pk [0, 1]) fun _ En56 => ?_
  refine q_s [6,7] [(6, g_i .u64 (Go.Dbr.u64_add (x := a0) (y := b0) rfl rfl))] 0 En56 (wo24.pk [0, 1]) fun _ En58 => ?_
  exact h_e ⟨En58.sb, wo24.pk [0, 1, 2]⟩
 rintro _ _ ⟨En61, Hv62⟩
 refine zg <| d_s [2,3,4,5,6,7,8,9] [] En61 fun _ En64 => ?_
 refine wp_seq <| wp_seq <| zm <| d_k [2,3,4,5,6,7,8,9,22,24] [] 3 En64 fun _ En66 => ?_
 refine f_o <| m_l 0 En66 Hv62 fun _ En68 => ?_
 refine d_e [2,3,4,5,6,7,8,9,26] [] En68 fun _ En70 => ?_
 refine zg <| Qj (F := fun ac wo => ∃ (c1_0 : UInt64), Env ac 39 [(2, pt bk1), (3, pt bk6), (4, pt bk11), (5, .int .u64 0), (6, .int .u64 0), (7, .int .i64 0), (8, zl (a0 + b0)), (9, zl c1_0)] ∧ Ev w [] wo [.box bk1 [zl a0, zl a1, zl a2, zl a3] 34, .box bk6 [zl b0, zl b1, zl b2, zl b3] 34, .box bk11 (zh (zc 4 0)) 34] ∧ (c1_0 = zK a0 b0 0)) ?_ ?_
 ·
  refine c_d (((zt (a0 + b0) : Nat) : Int) < ((zt a0 : Nat) : Int)) En70 (fun hc71 => ?_) (fun hc71 => ?_)
  ·
   refine d_r [2,3,4,5,6,7,8,9] [] En70 fun _ En73 => ?_
   exact ⟨rfl, ⟨(1 : UInt64), En73.sb, Hv62.pk [0, 1, 2], by rw [← carry1]; first | exact (if_pos (by omega)).symm | exact (if_neg (by omega)).symm⟩⟩
  refine wp_skip ?_
  exact ⟨rfl, ⟨(0 : UInt64), En70.sb, Hv62.pk [0, 1, 2], by rw [← carry1]; first | exact (if_pos (by omega)).symm | exact (if_neg (by omega)).symm⟩⟩
 rintro _ _ ⟨c1_0, En76, Hv77, hc1_0⟩
 refine zg <| d_s [2,3,4,5,6,7,8,9,10] [(2, g_i .u64 (Go.Dbr.u64_add (x := a0 + b0) (y := (0 : UInt64)) rfl rfl))] En76 fun _ En79 => ?_
 refine wp_seq <| d_s [2,3,4,5,6,7,8,9,10,32] [] En79 fun _ En81 => ?_
 have hle0 : zt (0 : UInt64) ≤ 1 := (by decide)
 refine Qj (F := fun ac wo => ∃ (c2_0 : UInt64), Env ac 39 [(2, pt bk1), (3, pt bk6), (4, pt bk11), (5, .int .u64 0), (6, .int .u64 0), (7, .int .i64 0), (8, zl (a0 + b0)), (9, zl c2_0), (10, zl ((a0 + b0) + (0 : UInt64)))] ∧ Ev w [] wo [.box bk1 [zl a0, zl a1, zl a2, zl a3] 34, .box bk6 [zl b0, zl b1, zl b2, zl b3] 34, .box bk11 (zh (zc 4 0)) 34] ∧ (c2_0 = zK a0 b0 (0 : UInt64))) ?_ ?_
 ·
  refine c_d (((zt ((a0 + b0) + (0 : UInt64)) : Nat) : Int) < ((zt (a0 + b0) : Nat) : Int)) En81 (fun hc82 => ?_) (fun hc82 => ?_)
  ·
   refine d_r [2,3,4,5,6,7,8,9,10] [] En81 fun _ En84 => ?_
   exact ⟨rfl, ⟨(1 : UInt64), En84.sb, Hv77.pk [0, 1, 2], by rw [← carry2 hle0]; first | exact (if_pos (by omega)).symm | exact hc1_0.trans (if_neg (by omega)).symm⟩⟩
  refine wp_skip ?_
  exact ⟨rfl, ⟨c1_0, En81.sb, Hv77.pk [0, 1, 2], by rw [← carry2 hle0]; first | exact (if_pos (by omega)).symm | exact hc1_0.trans (if_neg (by omega)).symm⟩⟩
 rintro _ _ ⟨c2_0, En87, Hv88, hc2_0⟩
 refine zg <| wp_seq <| zm <| d_k [2,3,4,5,6,7,8,9,10,34,35] [] 3 En87 fun _ En90 => ?_
 refine f_o <| m_s 0 [.box bk1 [zl ((a0 + b0) + (0 : UInt64)), zl a1, zl a2, zl a3] 34, .box bk6 [zl b0, zl b1, zl b2, zl b3] 34, .box bk11 (zh (zc 4 0)) 34] En90 Hv88 fun _ _ En93 Hv94 => ?_
 refine f_e <| zg <| d_r [2,3,4,5,6,7,8,10] [] En93 fun _ En96 => ?_
 refine zv <| zg <| d_r [2,3,4,5,6,7,8,10] [] En96 fun _ En98 => ?_
 refine zg <| zF <| wp_seq <| d_s [2,3,4,5,6,7,8,10,12] [] En98 fun _ En100 => ?_
 refine c_t En100 ?_
 refine wp_skip <| zg <| wp_seq <| wp_block <| wp_seq <| r_c (fun ac wo => Env ac 39 [(2, pt bk1), (3, pt bk6), (4, pt bk11), (5, .int .u64 0), (6, zl c2_0), (7, .int .i64 1), (8, zl (a1 + b1)), (10, zl ((a0 + b0) + (0 : UInt64)))] ∧ Ev w [] wo [.box bk1 [zl ((a0 + b0) + (0 : UInt64)), zl a1, zl a2, zl a3] 34, .box bk6 [zl b0, zl b1, zl b2, zl b3] 34, .box bk11 (zh (zc 4 0)) 34]) ?_ ?_
 ·
  refine h_s (fun wv => Ev w [] wv [.box bk1 [zl ((a0 + b0) + (0 : UInt64)), zl a1, zl a2, zl a3] 34, .box bk6 [zl b0, zl b1, zl b2, zl b3] 34]) [] 8 ?_
  have wo101 := Hv94.trans (zQ Hv94.heap)
  refine q_s [0,1] [] 6 En100 (wo101.pk [0, 1]) fun _ En127 => ?_
  refine q_l 0 2 En127 (wo101.pk [0, 1]) fun _ En129 => ?_
  refine q_s [3,4] [] 3 En129 (wo101.pk [0, 1]) fun _ En131 => ?_
  refine q_l 1 5 En131 (wo101.pk [0, 1]) fun _ En133 => ?_
  refine q_s [6,7] [(6, g_i .u64 (Go.Dbr.u64_add (x := a1) (y := b1) rfl rfl))] 0 En133 (wo101.pk [0, 1]) fun _ En135 => ?_
  exact h_e ⟨En135.sb, wo101.pk [0, 1, 2]⟩
 rintro _ _ ⟨En138, Hv139⟩
 refine zg <| d_s [2,3,4,5,6,7,8,9,10] [] En138 fun _ En141 => ?_
 refine wp_seq <| wp_seq <| zm <| d_k [2,3,4,5,6,7,8,9,10,22,24] [] 3 En141 fun _ En143 => ?_
 refine f_o <| m_l 0 En143 Hv139 fun _ En145 => ?_
 refine d_e [2,3,4,5,6,7,8,9,10,26] [] En145 fun _ En147 => ?_
 refine zg <| Qj (F := fun ac wo => ∃ (c1_1 : UInt64), Env ac 39 [(2, pt bk1), (3, pt bk6), (4, pt bk11), (5, .int .u64 0), (6, zl c2_0), (7, .int .i64 1), (8, zl (a1 + b1)), (9, zl c1_1), (10, zl ((a0 + b0) + (0 : UInt64)))] ∧ Ev w [] wo [.box bk1 [zl ((a0 + b0) + (0 : UInt64)), zl a1, zl a2, zl a3] 34, .box bk6 [zl b0, zl b1, zl b2, zl b3] 34, .box bk11 (zh (zc 4 0)) 34] ∧ (c1_1 = zK a1 b1 0)) ?_ ?_
 ·
  refine c_d (((zt (a1 + b1) : Nat) : Int) < ((zt a1 : Nat) : Int)) En147 (fun hc148 => ?_) (fun hc148 => ?_)
  ·
   refine d_r [2,3,4,5,6,7,8,9,10] [] En147 fun _ En150 => ?_
   exact ⟨rfl, ⟨(1 : UInt64), En150.sb, Hv139.pk [0, 1, 2], by rw [← carry1]; first | exact (if_pos (by omega)).symm | exact (if_neg (by omega)).symm⟩⟩
  refine wp_skip ?_
  exact ⟨rfl, ⟨(0 : UInt64), En147.sb, Hv139.pk [0, 1, 2], by rw [← carry1]; first | exact (if_pos (by omega)).symm | exact (if_neg (by omega)).symm⟩⟩
 rintro _ _ ⟨c1_1, En153, Hv154, hc1_1⟩
 refine zg <| d_s [2,3,4,5,6,7,8,9,10] [(2, g_i .u64 (Go.Dbr.u64_add (x := a1 + b1) (y := c2_0) rfl rfl))] En153 fun _ En156 => ?_
 refine wp_seq <| d_s [2,3,4,5,6,7,8,9,10,32] [] En156 fun _ En158 => ?_
 have hle1 : zt c2_0 ≤ 1 := (by rw [hc2_0]; exact Ym hle0)
 refine Qj (F := fun ac wo => ∃ (c2_1 : UInt64), Env ac 39 [(2, pt bk1), (3, pt bk6), (4, pt bk11), (5, .int .u64 0), (6, zl c2_0), (7, .int .i64 1), (8, zl (a1 + b1)), (9, zl c2_1), (10, zl ((a1 + b1) + c2_0))] ∧ Ev w [] wo [.box bk1 [zl ((a0 + b0) + (0 : UInt64)), zl a1, zl a2, zl a3] 34, .box bk6 [zl b0, zl b1, zl b2, zl b3] 34, .box bk11 (zh (zc 4 0)) 34] ∧ (c2_1 = zK a1 b1 c2_0)) ?_ ?_
 ·
  refine c_d (((zt ((a1 + b1) + c2_0) : Nat) : Int) < ((zt (a1 + b1) : Nat) : Int)) En158 (fun hc159 => ?_) (fun hc159 => ?_)
  ·
   refine d_r [2,3,4,5,6,7,8,9,10] [] En158 fun _ En161 => ?_
   exact ⟨rfl, ⟨(1 : UInt64), En161.sb, Hv154.pk [0, 1, 2], by rw [← carry2 hle1]; first | exact (if_pos (by omega)).symm | exact hc1_1.trans (if_neg (by omega)).symm⟩⟩
  refine wp_skip ?_
  exact ⟨rfl, ⟨c1_1, En158.sb, Hv154.pk [0, 1, 2], by rw [← carry2 hle1]; first | exact (if_pos (by omega)).symm | exact hc1_1.trans (if_neg (by omega)).symm⟩⟩
 rintro _ _ ⟨c2_1, En164, Hv165, hc2_1⟩
 refine zg <| wp_seq <| zm <| d_k [2,3,4,5,6,7,8,9,10,34,35] [] 3 En164 fun _ En167 => ?_
 refine f_o <| m_s 0 [.box bk1 [zl ((a0 + b0) + (0 : UInt64)), zl ((a1 + b1) + c2_0), zl a2, zl a3] 34, .box bk6 [zl b0, zl b1, zl b2, zl b3] 34, .box bk11 (zh (zc 4 0)) 34] En167 Hv165 fun _ _ En170 Hv171 => ?_
 refine f_e <| zg <| d_r [2,3,4,5,6,7,8,10] [] En170 fun _ En173 => ?_
 refine zv <| zg <| d_r [2,3,4,5,6,7,8,10] [] En173 fun _ En175 => ?_
 refine zg <| zF <| wp_seq <| d_s [2,3,4,5,6,7,8,10,12] [] En175 fun _ En177 => ?_
 refine c_t En177 ?_
 refine wp_skip <| zg <| wp_seq <| wp_block <| wp_seq <| r_c (fun ac wo => Env ac 39 [(2, pt bk1), (3, pt bk6), (4, pt bk11), (5, .int .u64 0), (6, zl c2_1), (7, .int .i64 2), (8, zl (a2 + b2)), (10, zl ((a1 + b1) + c2_0))] ∧ Ev w [] wo [.box bk1 [zl ((a0 + b0) + (0 : UInt64)), zl ((a1 + b1) + c2_0), zl a2, zl a3] 34, .box bk6 [zl b0, zl b1, zl b2, zl b3] 34, .box bk11 (zh (zc 4 0)) 34]) ?_ ?_
 ·
  refine h_s (fun wv => Ev w [] wv [.box bk1 [zl ((a0 + b0) + (0 : UInt64)), zl ((a1 + b1) + c2_0), zl a2, zl a3] 34, .box bk6 [zl b0, zl b1, zl b2, zl b3] 34]) [] 8 ?_
  have wo178 := Hv171.trans (zQ Hv171.heap)
  refine q_s [0,1] [] 6 En177 (wo178.pk [0, 1]) fun _ En204 => ?_
  refine q_l 0 2 En204 (wo178.pk [0, 1]) fun _ En206 => ?_
  refine q_s [3,4] [] 3 En206 (wo178.pk [0, 1]) fun _ En208 => ?_
  refine q_l 1 5 En208 (wo178.pk [0, 1]) fun _ En210 => ?_
  refine q_s [6,7] [(6, g_i .u64 (Go.Dbr.u64_add (x := a2) (y := b2) rfl rfl))] 0 En210 (wo178.pk [0, 1]) fun _ En212 => ?_
  exact h_e ⟨En212.sb, wo178.pk [0, 1, 2]⟩
 rintro _ _ ⟨En215, Hv216⟩
 refine zg <| d_s [2,3,4,5,6,7,8,9,10] [] En215 fun _ En218 => ?_
 refine wp_seq <| wp_seq <| zm <| d_k [2,3,4,5,6,7,8,9,10,22,24] [] 3 En218 fun _ En220 => ?_
 refine f_o <| m_l 0 En220 Hv216 fun _ En222 => ?_
 refine d_e [2,3,4,5,6,7,8,9,10,26] [] En222 fun _ En224 => ?_
 refine zg <| Qj (F := fun ac wo => ∃ (c1_2 : UInt64), Env ac 39 [(2, pt bk1), (3, pt bk6), (4, pt bk11), (5, .int .u64 0), (6, zl c2_1), (7, .int .i64 2), (8, zl (a2 + b2)), (9, zl c1_2), (10, zl ((a1 + b1) + c2_0))] ∧ Ev w [] wo [.box bk1 [zl ((a0 + b0) + (0 : UInt64)), zl ((a1 + b1) + c2_0), zl a2, zl a3] 34, .box bk6 [zl b0, zl b1, zl b2, zl b3] 34, .box bk11 (zh (zc 4 0)) 34] ∧ (c1_2 = zK a2 b2 0)) ?_ ?_
 ·
  refine c_d (((zt (a2 + b2) : Nat) : Int) < ((zt a2 : Nat) : Int)) En224 (fun hc225 => ?_) (fun hc225 => ?_)
  ·
   refine d_r [2,3,4,5,6,7,8,9,10] [] En224 fun _ En227 => ?_
   exact ⟨rfl, ⟨(1 : UInt64), En227.sb, Hv216.pk [0, 1, 2], by rw [← carry1]; first | exact (if_pos (by omega)).symm | exact (if_neg (by omega)).symm⟩⟩
  refine wp_skip ?_
  exact ⟨rfl, ⟨(0 : UInt64), En224.sb, Hv216.pk [0, 1, 2], by rw [← carry1]; first | exact (if_pos (by omega)).symm | exact (if_neg (by omega)).symm⟩⟩
 rintro _ _ ⟨c1_2, En230, Hv231, hc1_2⟩
 refine zg <| d_s [2,3,4,5,6,7,8,9,10] [(2, g_i .u64 (Go.Dbr.u64_add (x := a2 + b2) (y := c2_1) rfl rfl))] En230 fun _ En233 => ?_
 refine wp_seq <| d_s [2,3,4,5,6,7,8,9,10,32] [] En233 fun _ En235 => ?_
 have hle2 : zt c2_1 ≤ 1 := (by rw [hc2_1]; exact Ym hle1)
 refine Qj (F := fun ac wo => ∃ (c2_2 : UInt64), Env ac 39 [(2, pt bk1), (3, pt bk6), (4, pt bk11), (5, .int .u64 0), (6, zl c2_1), (7, .int .i64 2), (8, zl (a2 + b2)), (9, zl c2_2), (10, zl ((a2 + b2) + c2_1))] ∧ Ev w [] wo [.box bk1 [zl ((a0 + b0) + (0 : UInt64)), zl ((a1 + b1) + c2_0), zl a2, zl a3] 34, .box bk6 [zl b0, zl b1, zl b2, zl b3] 34, .box bk11 (zh (zc 4 0)) 34] ∧ (c2_2 = zK a2 b2 c2_1)) ?_ ?_
 ·
  refine c_d (((zt ((a2 + b2) + c2_1) : Nat) : Int) < ((zt (a2 + b2) : Nat) : Int)) En235 (fun hc236 => ?_) (fun hc236 => ?_)
  ·
   refine d_r [2,3,4,5,6,7,8,9,10] [] En235 fun _ En238 => ?_
   exact ⟨rfl, ⟨(1 : UInt64), En238.sb, Hv231.pk [0, 1, 2], by rw [← carry2 hle2]; first | exact (if_pos (by omega)).symm | exact hc1_2.trans (if_neg (by omega)).symm⟩⟩
  refine wp_skip ?_
  exact ⟨rfl, ⟨c1_2, En235.sb, Hv231.pk [0, 1, 2], by rw [← carry2 hle2]; first | exact (if_pos (by omega)).symm | exact hc1_2.trans (if_neg (by omega)).symm⟩⟩
 rintro _ _ ⟨c2_2, En241, Hv242, hc2_2⟩
 refine zg <| wp_seq <| zm <| d_k [2,3,4,5,6,7,8,9,10,34,35] [] 3 En241 fun _ En244 => ?_
 refine f_o <| m_s 0 [.box bk1 [zl ((a0 + b0) + (0 : UInt64)), zl ((a1 + b1) + c2_0), zl ((a2 + b2) + c2_1), zl a3] 34, .box bk6 [zl b0, zl b1, zl b2, zl b3] 34, .box bk11 (zh (zc 4 0)) 34] En244 Hv242 fun _ _ En247 Hv248 => ?_
 refine f_e <| zg <| d_r [2,3,4,5,6,7,8,10] [] En247 fun _ En250 => ?_
 refine zv <| zg <| d_r [2,3,4,5,6,7,8,10] [] En250 fun _ En252 => ?_
 refine zg <| zF <| wp_seq <| d_s [2,3,4,5,6,7,8,10,12] [] En252 fun _ En254 => ?_
 refine c_t En254 ?_
 refine wp_skip <| zg <| wp_seq <| wp_block <| wp_seq <| r_c (fun ac wo => Env ac 39 [(2, pt bk1), (3, pt bk6), (4, pt bk11), (5, .int .u64 0), (6, zl c2_2), (7, .int .i64 3), (8, zl (a3 + b3)), (10, zl ((a2 + b2) + c2_1))] ∧ Ev w [] wo [.box bk1 [zl ((a0 + b0) + (0 : UInt64)), zl ((a1 + b1) + c2_0), zl ((a2 + b2) + c2_1), zl a3] 34, .box bk6 [zl b0, zl b1, zl b2, zl b3] 34, .box bk11 (zh (zc 4 0)) 34]) ?_ ?_
 ·
  refine h_s (fun wv => Ev w [] wv [.box bk1 [zl ((a0 + b0) + (0 : UInt64)), zl ((a1 + b1) + c2_0), zl ((a2 + b2) + c2_1), zl a3] 34, .box bk6 [zl b0, zl b1, zl b2, zl b3] 34]) [] 8 ?_
  have wo255 := Hv248.trans (zQ Hv248.heap)
  refine q_s [0,1] [] 6 En254 (wo255.pk [0, 1]) fun _ En281 => ?_
  refine q_l 0 2 En281 (wo255.pk [0, 1]) fun _ En283 => ?_
  refine q_s [3,4] [] 3 En283 (wo255.pk [0, 1]) fun _ En285 => ?_
  refine q_l 1 5 En285 (wo255.pk [0, 1]) fun _ En287 => ?_
  refine q_s [6,7] [(6, g_i .u64 (Go.Dbr.u64_add (x := a3) (y := b3) rfl rfl))] 0 En287 (wo255.pk [0, 1]) fun _ En289 => ?_
  exact h_e ⟨En289.sb, wo255.pk [0, 1, 2]⟩
 rintro _ _ ⟨En292, Hv293⟩
 refine zg <| d_s [2,3,4,5,6,7,8,9,10] [] En292 fun _ En295 => ?_
 refine wp_seq <| wp_seq <| zm <| d_k [2,3,4,5,6,7,8,9,10,22,24] [] 3 En295 fun _ En297 => ?_
 refine f_o <| m_l 0 En297 Hv293 fun _ En299 => ?_
 refine d_e [2,3,4,5,6,7,8,9,10,26] [] En299 fun _ En301 => ?_
 refine zg <| Qj (F := fun ac wo => ∃ (c1_3 : UInt64), Env ac 39 [(2, pt bk1), (3, pt bk6), (4, pt bk11), (5, .int .u64 0), (6, zl c2_2), (7, .int .i64 3), (8, zl (a3 + b3)), (9, zl c1_3), (10, zl ((a2 + b2) + c2_1))] ∧ Ev w [] wo [.box bk1 [zl ((a0 + b0) + (0 : UInt64)), zl ((a1 + b1) + c2_0), zl ((a2 + b2) + c2_1), zl a3] 34, .box bk6 [zl b0, zl b1, zl b2, zl b3] 34, .box bk11 (zh (zc 4 0)) 34] ∧ (c1_3 = zK a3 b3 0)) ?_ ?_
 ·
  refine c_d (((zt (a3 + b3) : Nat) : Int) < ((zt a3 : Nat) : Int)) En301 (fun hc302 => ?_) (fun hc302 => ?_)
  ·
   refine d_r [2,3,4,5,6,7,8,9,10] [] En301 fun _ En304 => ?_
   exact ⟨rfl, ⟨(1 : UInt64), En304.sb, Hv293.pk [0, 1, 2], by rw [← carry1]; first | exact (if_pos (by omega)).symm | exact (if_neg (by omega)).symm⟩⟩
  refine wp_skip ?_
  exact ⟨rfl, ⟨(0 : UInt64), En301.sb, Hv293.pk [0, 1, 2], by rw [← carry1]; first | exact (if_pos (by omega)).symm | exact (if_neg (by omega)).symm⟩⟩
 rintro _ _ ⟨c1_3, En307, Hv308, hc1_3⟩
 refine zg <| d_s [2,3,4,5,6,7,8,9,10] [(2, g_i .u64 (Go.Dbr.u64_add (x := a3 + b3) (y := c2_2) rfl rfl))] En307 fun _ En310 => ?_
 refine wp_seq <| d_s [2,3,4,5,6,7,8,9,10,32] [] En310 fun _ En312 => ?_
 have hle3 : zt c2_2 ≤ 1 := (by rw [hc2_2]; exact Ym hle2)
 refine Qj (F := fun ac wo => ∃ (c2_3 : UInt64), Env ac 39 [(2, pt bk1), (3, pt bk6), (4, pt bk11), (5, .int .u64 0), (6, zl c2_2), (7, .int .i64 3), (8, zl (a3 + b3)), (9, zl c2_3), (10, zl ((a3 + b3) + c2_2))] ∧ Ev w [] wo [.box bk1 [zl ((a0 + b0) + (0 : UInt64)), zl ((a1 + b1) + c2_0), zl ((a2 + b2) + c2_1), zl a3] 34, .box bk6 [zl b0, zl b1, zl b2, zl b3] 34, .box bk11 (zh (zc 4 0)) 34] ∧ (c2_3 = zK a3 b3 c2_2)) ?_ ?_
 ·
  refine c_d (((zt ((a3 + b3) + c2_2) : Nat) : Int) < ((zt (a3 + b3) : Nat) : Int)) En312 (fun hc313 => ?_) (fun hc313 => ?_)
  ·
   refine d_r [2,3,4,5,6,7,8,9,10] [] En312 fun _ En315 => ?_
   exact ⟨rfl, ⟨(1 : UInt64), En315.sb, Hv308.pk [0, 1, 2], by rw [← carry2 hle3]; first | exact (if_pos (by omega)).symm | exact hc1_3.trans (if_neg (by omega)).symm⟩⟩
  refine wp_skip ?_
  exact ⟨rfl, ⟨c1_3, En312.sb, Hv308.pk [0, 1, 2], by rw [← carry2 hle3]; first | exact (if_pos (by omega)).symm | exact hc1_3.trans (if_neg (by omega)).symm⟩⟩
 rintro _ _ ⟨c2_3, En318, Hv319, hc2_3⟩
 refine zg <| wp_seq <| zm <| d_k [2,3,4,5,6,7,8,9,10,34,35] [] 3 En318 fun _ En321 => ?_
 refine f_o <| m_s 0 [.box bk1 [zl ((a0 + b0) + (0 : UInt64)), zl ((a1 + b1) + c2_0), zl ((a2 + b2) + c2_1), zl ((a3 + b3) + c2_2)] 34, .box bk6 [zl b0, zl b1, zl b2, zl b3] 34, .box bk11 (zh (zc 4 0)) 34] En321 Hv319 fun _ _ En324 Hv325 => ?_
 refine f_e <| zg <| d_r [2,3,4,5,6,7,8,10] [] En324 fun _ En327 => ?_
 refine zv <| zg <| d_r [2,3,4,5,6,7,8,10] [] En327 fun _ En329 => ?_
 refine zg <| zF <| wp_seq <| d_s [2,3,4,5,6,7,8,10,12] [] En329 fun _ En331 => ?_
 refine c_f En331 ?_
 refine wp_exit <| zy <| zy <| zV <| zg <| wp_seq <| zm <| f_o <| m_a 0 0 4 [zl ((a0 + b0) + (0 : UInt64)), zl ((a1 + b1) + c2_0), zl ((a2 + b2) + c2_1), zl ((a3 + b3) + c2_2)] En331 Hv325 rfl rfl rfl fun _ En333 => ?_
 refine d_k [2,3,4,5,6,7,8,10,37,38] [] 2 En333 fun _ En335 => ?_
 refine f_o <| m_g 2 0 4 [zl ((a0 + b0) + (0 : UInt64)), zl ((a1 + b1) + c2_0), zl ((a2 + b2) + c2_1), zl ((a3 + b3) + c2_2)] _ [.box bk1 [zl ((a0 + b0) + (0 : UInt64)), zl ((a1 + b1) + c2_0), zl ((a2 + b2) + c2_1), zl ((a3 + b3) + c2_2)] 34, .box bk6 [zl b0, zl b1, zl b2, zl b3] 34, .box bk11 [zl ((a0 + b0) + (0 : UInt64)), zl ((a1 + b1) + c2_0), zl ((a2 + b2) + c2_1), zl ((a3 + b3) + c2_2)] 34] En335 Hv325 rfl rfl (by rw [(zb (zd))]; first | decide | (simp; done)) (one_all (by kernel_rfl)) (zo (zb (zd))) rfl fun _ _ En338 Hv339 => ?_
 refine d_e [2,3,4,5,6,7,8,10] [] En338 fun _ En341 => ?_
 refine zg <| wp_ret <| d_cell_tmp (v := .agg #[zl ((a0 + b0) + (0 : UInt64)), zl ((a1 + b1) + c2_0), zl ((a2 + b2) + c2_1), zl ((a3 + b3) + c2_2)]) (x := zl c2_3) (t := 4) (T := 34) (ad := ⟨bk11, 0, none⟩) (u := 5) En341 (by kernel_rfl) (by kernel_rfl) (zx (t := 34) (k := 2) (off := 0) (m := 4) (xs := [zl ((a0 + b0) + (0 : UInt64)), zl ((a1 + b1) + c2_0), zl ((a2 + b2) + c2_1), zl ((a3 + b3) + c2_2)]) Hv339 rfl rfl rfl (by kernel_rfl) (by kernel_rfl)) (by kernel_rfl) ?_
 subst hc2_0
 subst hc2_1
 subst hc2_2
 subst hc2_3
 exact ⟨rfl, Hv339.pk []⟩

theorem rplus_go (w : World) (a b : List UInt64) (ha : ze a = 4) (hb : ze b = 4) : Calls Tryd.prog 13 #[.agg (zi (zh a)), .agg (zi (zh b))] w fun e w' => e = .returned (.tuple #[.agg (zi (zh (nd (nv a + nv b)))), zl (u1 (zH ≤ nv a + nv b))]) ∧ Ev w [] w' [] := by
  rw [← plus_nd ha hb, ← ad_nd ha hb]
  match a, ha, b, hb with
  | [a0, a1, a2, a3], _, [b0, b1, b2, b3], _ => exact rplus4 w a0 a1 a2 a3 b0 b1 b2 b3

theorem compl_val (x : UInt64) : (~~~ x).toNat = 18446744073709551615 - x.toNat := by
  rw [UInt64.toNat_not]
  rfl
theorem rmin_eq (a0 a1 a2 a3 b0 b1 b2 b3 : UInt64) : nd (nv (nd (nv [a0, a1, a2, a3] + nv [~~~ b0, ~~~ b1, ~~~ b2, ~~~ b3])) + nv [(1 : UInt64), 0, 0, 0]) = nd (nv [a0, a1, a2, a3] + zH - nv [b0, b1, b2, b3]) := by
  have hb := nv_lt (l := [b0, b1, b2, b3]) rfl
  have hc : nv [~~~ b0, ~~~ b1, ~~~ b2, ~~~ b3] + nv [b0, b1, b2, b3] + 1 = zH := by
    rw [nv4, nv4, compl_val, compl_val, compl_val, compl_val]
    have := Zx b0; have := Zx b1; have := Zx b2; have := Zx b3
    simp only [zH]
    omega
  rw [nd_val, num1, show (1 : UInt64).toNat = 1 from rfl, ← Jy, ← Jy (_ - _)]
  congr 1
  simp only [zH] at *
  omega

theorem rminus4 (w : World) (a0 a1 a2 a3 b0 b1 b2 b3 : UInt64) : Calls Tryd.prog 80 #[.agg #[zl a0, zl a1, zl a2, zl a3], .agg #[zl b0, zl b1, zl b2, zl b3]] w fun e w' => e = .returned (.agg (zi (zh (nd (nv [a0, a1, a2, a3] + zH - nv [b0, b1, b2, b3]))))) ∧ Ev w [] w' [] := by
 refine d_0 [(0, .agg #[zl a0, zl a1, zl a2, zl a3]), (1, .agg #[zl b0, zl b1, zl b2, zl b3])] 33 Go.Proofs.Tryd.func80 Go.Proofs.Tryd.ntmps80 (Heap.nil _) fun act0 En0 Hv0 => ?_
 refine wp_seq <| zm <| f_o <| m_m 34 [zl a0, zl a1, zl a2, zl a3] En0 Hv0 fun _ _ bk1 En4 Hv5 => ?_
 refine f_o <| m_m 34 [zl b0, zl b1, zl b2, zl b3] En4 Hv5 fun _ _ bk6 En9 Hv10 => ?_
 refine f_o <| m_z 34 (zh (zc 4 0)) En9 Hv10 fun _ _ bk11 En14 Hv15 => ?_
 refine f_e <| zg <| wp_seq <| d_s [2,3,4,5] [] En14 fun _ En17 => ?_
 refine wp_block <| Qv ?_
 refine zF <| wp_seq <| d_s [2,3,4,5,11] [] En17 fun _ En19 => ?_
 refine c_t En19 ?_
 refine wp_skip <| zg <| wp_seq <| wp_block <| zm <| d_k [2,3,4,5,14,16] [] 3 En19 fun _ En21 => ?_
 refine f_o <| m_l 1 En21 Hv15 fun _ En23 => ?_
 refine d_k [2,3,4,5,18,19] [(4, g_i .u64 (Go.Dbr.u64_xor (x := 18446744073709551615) (y := b0) rfl rfl))] 6 En23 fun _ En25 => ?_
 refine f_o <| m_s 1 [.box bk1 [zl a0, zl a1, zl a2, zl a3] 34, .box bk6 [zl ((18446744073709551615 : UInt64) ^^^ b0), zl b1, zl b2, zl b3] 34, .box bk11 (zh (zc 4 0)) 34] En25 Hv15 fun _ _ En28 Hv29 => ?_
 refine f_e <| zv <| zg <| d_r [2,3,4,5] [] En28 fun _ En31 => ?_
 refine zg <| zF <| wp_seq <| d_s [2,3,4,5,11] [] En31 fun _ En33 => ?_
 refine c_t En33 ?_
 refine wp_skip <| zg <| wp_seq <| wp_block <| zm <| d_k [2,3,4,5,14,16] [] 3 En33 fun _ En35 => ?_
 refine f_o <| m_l 1 En35 Hv29 fun _ En37 => ?_
 refine d_k [2,3,4,5,18,19] [(4, g_i .u64 (Go.Dbr.u64_xor (x := 18446744073709551615) (y := b1) rfl rfl))] 6 En37 fun _ En39 => ?_
 refine f_o <| m_s 1 [.box bk1 [zl a0, zl a1, zl a2, zl a3] 34, .box bk6 [zl ((18446744073709551615 : UInt64) ^^^ b0), zl ((18446744073709551615 : UInt64) ^^^ b1), zl b2, zl b3] 34, .box bk11 (zh (zc 4 0)) 34] En39 Hv29 fun _ _ En42 Hv43 => ?_
 refine f_e <| zv <| zg <| d_r [2,3,4,5] [] En42 fun _ En45 => ?_
 refine zg <| zF <| wp_seq <| d_s [2,3,4,5,11] [] En45 fun _ En47 => ?_
 refine c_t En47 ?_
 refine wp_skip <| zg <| wp_seq <| wp_block <| zm <| d_k [2,3,4,5,14,16] [] 3 En47 fun _ En49 => ?_
 refine f_o <| m_l 1 En49 Hv43 fun _ En51 => ?_
 refine d_k [2,3,4,5,18,19] [(4, g_i .u64 (Go.Dbr.u64_xor (x := 18446744073709551615) (y := b2) rfl rfl))] 6 En51 fun _ En53 => ?_
 refine f_o <| m_s 1 [.box bk1 [zl a0, zl a1, zl a2, zl a3] 34, .box bk6 [zl ((18446744073709551615 : UInt64) ^^^ b0), zl ((18446744073709551615 : UInt64) ^^^ b1), zl ((18446744073709551615 : UInt64) ^^^ b2), zl b3] 34, .box bk11 (zh (zc 4 0)) 34] En53 Hv43 fun _ _ En56 Hv57 => ?_
 refine f_e <| zv <| zg <| d_r [2,3,4,5] [] En56 fun _ En59 => ?_
 refine zg <| zF <| wp_seq <| d_s [2,3,4,5,11] [] En59 fun _ En61 => ?_
 refine c_t En61 ?_
 refine wp_skip <| zg <| wp_seq <| wp_block <| zm <| d_k [2,3,4,5,14,16] [] 3 En61 fun _ En63 => ?_
 refine f_o <| m_l 1 En63 Hv57 fun _ En65 => ?_
 refine d_k [2,3,4,5,18,19] [(4, g_i .u64 (Go.Dbr.u64_xor (x := 18446744073709551615) (y := b3) rfl rfl))] 6 En65 fun _ En67 => ?_
 refine f_o <| m_s 1 [.box bk1 [zl a0, zl a1, zl a2, zl a3] 34, .box bk6 [zl ((18446744073709551615 : UInt64) ^^^ b0), zl ((18446744073709551615 : UInt64) ^^^ b1), zl ((18446744073709551615 : UInt64) ^^^ b2), zl ((18446744073709551615 : UInt64) ^^^ b3)] 34, .box bk11 (zh (zc 4 0)) 34] En67 Hv57 fun _ _ En70 Hv71 => ?_
 refine f_e <| zv <| zg <| d_r [2,3,4,5] [] En70 fun _ En73 => ?_
 refine zg <| zF <| wp_seq <| d_s [2,3,4,5,11] [] En73 fun _ En75 => ?_
 refine c_f En75 ?_
 refine wp_exit <| zy <| zy <| zV <| zg <| wp_seq <| zm <| f_o <| m_a 0 0 4 [zl a0, zl a1, zl a2, zl a3] En75 Hv71 rfl rfl rfl fun _ En77 => ?_
 refine f_o <| m_a 1 0 4 [zl ((18446744073709551615 : UInt64) ^^^ b0), zl ((18446744073709551615 : UInt64) ^^^ b1), zl ((18446744073709551615 : UInt64) ^^^ b2), zl ((18446744073709551615 : UInt64) ^^^ b3)] En77 Hv71 rfl rfl rfl fun _ En79 => ?_
 refine f_o <| c_p En79 Hv71 (rplus_go _ [a0, a1, a2, a3] [(18446744073709551615 : UInt64) ^^^ b0, (18446744073709551615 : UInt64) ^^^ b1, (18446744073709551615 : UInt64) ^^^ b2, (18446744073709551615 : UInt64) ^^^ b3] rfl rfl) fun _ _ En85 Hv86 => ?_
 refine d_k [3,4,5,24,25] [] 6 En85 fun _ En88 => ?_
 refine f_o <| m_z 34 (zh (zc 4 0)) En88 Hv86 fun _ _ bk89 En92 Hv93 => ?_
 refine f_o <| m_g 3 0 4 (zh (nd (nv [a0, a1, a2, a3] + nv [(18446744073709551615 : UInt64) ^^^ b0, (18446744073709551615 : UInt64) ^^^ b1, (18446744073709551615 : UInt64) ^^^ b2, (18446744073709551615 : UInt64) ^^^ b3]))) _ [.box bk1 [zl a0, zl a1, zl a2, zl a3] 34, .box bk6 [zl ((18446744073709551615 : UInt64) ^^^ b0), zl ((18446744073709551615 : UInt64) ^^^ b1), zl ((18446744073709551615 : UInt64) ^^^ b2), zl ((18446744073709551615 : UInt64) ^^^ b3)] 34, .box bk11 (zh (zc 4 0)) 34, .box bk89 (zh (nd (nv [a0, a1, a2, a3] + nv [(18446744073709551615 : UInt64) ^^^ b0, (18446744073709551615 : UInt64) ^^^ b1, (18446744073709551615 : UInt64) ^^^ b2, (18446744073709551615 : UInt64) ^^^ b3]))) 34] En92 Hv93 rfl (zb (zk _ _)) (by rw [(zb (zd))]; first | decide | (simp; done)) (zu _) (zo (zb (zd))) rfl fun _ _ En96 Hv97 => ?_
 refine d_e [3,4,5,6] [] En96 fun _ En99 => ?_
 refine zg <| wp_seq <| zm <| f_o <| m_a 3 0 4 (zh (nd (nv [a0, a1, a2, a3] + nv [(18446744073709551615 : UInt64) ^^^ b0, (18446744073709551615 : UInt64) ^^^ b1, (18446744073709551615 : UInt64) ^^^ b2, (18446744073709551615 : UInt64) ^^^ b3]))) En99 Hv97 rfl (zn (zb (zk _ _))) (zb (zk _ _)) fun _ En101 => ?_
 refine d_k [3,4,5,6,27,28] [] 2 En101 fun _ En103 => ?_
 refine f_o <| c_p En103 Hv97 (rplus_go _ (nd (nv [a0, a1, a2, a3] + nv [(18446744073709551615 : UInt64) ^^^ b0, (18446744073709551615 : UInt64) ^^^ b1, (18446744073709551615 : UInt64) ^^^ b2, (18446744073709551615 : UInt64) ^^^ b3])) ([1, 0, 0, 0] : List UInt64) (zk _ _) (show ze ([1, 0, 0, 0] : List UInt64) = 4 from rfl)) fun _ _ En109 Hv110 => ?_
 refine d_k [3,4,5,6,30,31] [] 6 En109 fun _ En112 => ?_
 refine f_o <| m_z 34 (zh (zc 4 0)) En112 Hv110 fun _ _ bk113 En116 Hv117 => ?_
 refine f_o <| m_g 4 0 4 (zh (nd (nv (nd (nv [a0, a1, a2, a3] + nv [(18446744073709551615 : UInt64) ^^^ b0, (18446744073709551615 : UInt64) ^^^ b1, (18446744073709551615 : UInt64) ^^^ b2, (18446744073709551615 : UInt64) ^^^ b3])) + nv ([1, 0, 0, 0] : List UInt64)))) _ [.box bk1 [zl a0, zl a1, zl a2, zl a3] 34, .box bk6 [zl ((18446744073709551615 : UInt64) ^^^ b0), zl ((18446744073709551615 : UInt64) ^^^ b1), zl ((18446744073709551615 : UInt64) ^^^ b2), zl ((18446744073709551615 : UInt64) ^^^ b3)] 34, .box bk11 (zh (zc 4 0)) 34, .box bk89 (zh (nd (nv [a0, a1, a2, a3] + nv [(18446744073709551615 : UInt64) ^^^ b0, (18446744073709551615 : UInt64) ^^^ b1, (18446744073709551615 : UInt64) ^^^ b2, (18446744073709551615 : UInt64) ^^^ b3]))) 34, .box bk113 (zh (nd (nv (nd (nv [a0, a1, a2, a3] + nv [(18446744073709551615 : UInt64) ^^^ b0, (18446744073709551615 : UInt64) ^^^ b1, (18446744073709551615 : UInt64) ^^^ b2, (18446744073709551615 : UInt64) ^^^ b3])) + nv ([1, 0, 0, 0] : List UInt64)))) 34] En116 Hv117 rfl (zb (zk _ _)) (by rw [(zb (zd))]; first | decide | (simp; done)) (zu _) (zo (zb (zd))) rfl fun _ _ En120 Hv121 => ?_
 refine d_e [3,4,5,6,8] [] En120 fun _ En123 => ?_
 refine zg <| wp_seq <| zm <| f_o <| m_a 4 0 4 (zh (nd (nv (nd (nv [a0, a1, a2, a3] + nv [(18446744073709551615 : UInt64) ^^^ b0, (18446744073709551615 : UInt64) ^^^ b1, (18446744073709551615 : UInt64) ^^^ b2, (18446744073709551615 : UInt64) ^^^ b3])) + nv ([1, 0, 0, 0] : List UInt64)))) En123 Hv121 rfl (zn (zb (zk _ _))) (zb (zk _ _)) fun _ En125 => ?_
 refine f_o <| m_g 2 0 4 (zh (nd (nv (nd (nv [a0, a1, a2, a3] + nv [(18446744073709551615 : UInt64) ^^^ b0, (18446744073709551615 : UInt64) ^^^ b1, (18446744073709551615 : UInt64) ^^^ b2, (18446744073709551615 : UInt64) ^^^ b3])) + nv ([1, 0, 0, 0] : List UInt64)))) _ [.box bk1 [zl a0, zl a1, zl a2, zl a3] 34, .box bk6 [zl ((18446744073709551615 : UInt64) ^^^ b0), zl ((18446744073709551615 : UInt64) ^^^ b1), zl ((18446744073709551615 : UInt64) ^^^ b2), zl ((18446744073709551615 : UInt64) ^^^ b3)] 34, .box bk11 (zh (nd (nv (nd (nv [a0, a1, a2, a3] + nv [(18446744073709551615 : UInt64) ^^^ b0, (18446744073709551615 : UInt64) ^^^ b1, (18446744073709551615 : UInt64) ^^^ b2, (18446744073709551615 : UInt64) ^^^ b3])) + nv ([1, 0, 0, 0] : List UInt64)))) 34, .box bk89 (zh (nd (nv [a0, a1, a2, a3] + nv [(18446744073709551615 : UInt64) ^^^ b0, (18446744073709551615 : UInt64) ^^^ b1, (18446744073709551615 : UInt64) ^^^ b2, (18446744073709551615 : UInt64) ^^^ b3]))) 34, .box bk113 (zh (nd (nv (nd (nv [a0, a1, a2, a3] + nv [(18446744073709551615 : UInt64) ^^^ b0, (18446744073709551615 : UInt64) ^^^ b1, (18446744073709551615 : UInt64) ^^^ b2, (18446744073709551615 : UInt64) ^^^ b3])) + nv ([1, 0, 0, 0] : List UInt64)))) 34] En125 Hv121 rfl (zb (zk _ _)) (by rw [(zb (zd))]; first | decide | (simp; done)) (zu _) (zo (zb (zd))) rfl fun _ _ En128 Hv129 => ?_
 refine f_e <| zg <| wp_ret <| z5 (v := .agg (zi (zh (nd (nv (nd (nv [a0, a1, a2, a3] + nv [(18446744073709551615 : UInt64) ^^^ b0, (18446744073709551615 : UInt64) ^^^ b1, (18446744073709551615 : UInt64) ^^^ b2, (18446744073709551615 : UInt64) ^^^ b3])) + nv ([1, 0, 0, 0] : List UInt64)))))) (t := 4) (T := 34) (ad := ⟨bk11, 0, none⟩) En128 (by kernel_rfl) (by kernel_rfl) (zx (t := 34) (k := 2) (off := 0) (m := 4) (xs := zh (nd (nv (nd (nv [a0, a1, a2, a3] + nv [(18446744073709551615 : UInt64) ^^^ b0, (18446744073709551615 : UInt64) ^^^ b1, (18446744073709551615 : UInt64) ^^^ b2, (18446744073709551615 : UInt64) ^^^ b3])) + nv ([1, 0, 0, 0] : List UInt64)))) Hv129 rfl (zn (zb (zk _ _))) (zb (zk _ _)) (by kernel_rfl) (by kernel_rfl)) ?_
 have e : nd (nv (nd (nv [a0, a1, a2, a3] + nv [(18446744073709551615 : UInt64) ^^^ b0, (18446744073709551615 : UInt64) ^^^ b1, (18446744073709551615 : UInt64) ^^^ b2, (18446744073709551615 : UInt64) ^^^ b3])) + nv ([1, 0, 0, 0] : List UInt64)) = nd (nv [a0, a1, a2, a3] + zH - nv [b0, b1, b2, b3]) := rmin_eq a0 a1 a2 a3 b0 b1 b2 b3
 rw [e]
 exact ⟨rfl, Hv129.pk []⟩

theorem rminus_go (w : World) (a b : List UInt64) (ha : ze a = 4) (hb : ze b = 4) : Calls Tryd.prog 80 #[.agg (zi (zh a)), .agg (zi (zh b))] w fun e w' => e = .returned (.agg (zi (zh (nd (nv a + zH - nv b))))) ∧ Ev w [] w' [] := by
  match a, ha, b, hb with
  | [a0, a1, a2, a3], _, [b0, b1, b2, b3], _ => exact rminus4 w a0 a1 a2 a3 b0 b1 b2 b3

theorem rmod_1 (w : World)  : Calls Tryd.prog 14 #[.int .i64 1] w fun e w' => e = .returned (.agg (zi (zh (nd (mF 1))))) ∧ Ev w [] w' [] := by
 refine d_0 [(0, .int .i64 1)] 17 Go.Proofs.Tryd.func14 Go.Proofs.Tryd.ntmps14 (Heap.nil _) fun act0 En0 Hv0 => ?_
 refine wp_seq <| zm <| f_o <| m_z 34 (zh (zc 4 0)) En0 Hv0 fun _ _ bk1 En4 Hv5 => ?_
 refine f_e <| zg <| wp_seq <| d_s [2,3] [] En4 fun _ En7 => ?_
 refine wp_block <| d_s [2,3,4] [] En7 fun _ En9 => ?_
 refine c_t En9 ?_
 refine wp_seq <| zm <| d_k [2,3,6] [] 1 En9 fun _ En11 => ?_
 refine f_o <| m_g 0 0 4 (zh ([18446744073709551597, 18446744073709551615, 18446744073709551615, 9223372036854775807] : List UInt64)) _ [.box bk1 (zh ([18446744073709551597, 18446744073709551615, 18446744073709551615, 9223372036854775807] : List UInt64)) 34] En11 Hv5 rfl (zb (show ze ([18446744073709551597, 18446744073709551615, 18446744073709551615, 9223372036854775807] : List UInt64) = 4 from rfl)) (by rw [(zb (zd))]; first | decide | (simp; done)) (zu _) (zo (zb (zd))) rfl fun _ _ En14 Hv15 => ?_
 refine f_e <| zg <| wp_ret <| ZB <| Zg <| z5 (v := .agg (zi (zh ([18446744073709551597, 18446744073709551615, 18446744073709551615, 9223372036854775807] : List UInt64)))) (t := 2) (T := 34) (ad := ⟨bk1, 0, none⟩) En14 (by kernel_rfl) (by kernel_rfl) (zx (t := 34) (k := 0) (off := 0) (m := 4) (xs := zh ([18446744073709551597, 18446744073709551615, 18446744073709551615, 9223372036854775807] : List UInt64)) Hv15 rfl (zn (zb (show ze ([18446744073709551597, 18446744073709551615, 18446744073709551615, 9223372036854775807] : List UInt64) = 4 from rfl))) (zb (show ze ([18446744073709551597, 18446744073709551615, 18446744073709551615, 9223372036854775807] : List UInt64) = 4 from rfl)) (by kernel_rfl) (by kernel_rfl)) ?_
 exact ⟨by kernel_rfl, Hv15.pk []⟩

theorem rmod_2 (w : World)  : Calls Tryd.prog 14 #[.int .i64 2] w fun e w' => e = .returned (.agg (zi (zh (nd (mF 2))))) ∧ Ev w [] w' [] := by
 refine d_0 [(0, .int .i64 2)] 17 Go.Proofs.Tryd.func14 Go.Proofs.Tryd.ntmps14 (Heap.nil _) fun act0 En0 Hv0 => ?_
 refine wp_seq <| zm <| f_o <| m_z 34 (zh (zc 4 0)) En0 Hv0 fun _ _ bk1 En4 Hv5 => ?_
 refine f_e <| zg <| wp_seq <| d_s [2,3] [] En4 fun _ En7 => ?_
 refine wp_block <| d_s [2,3,4] [] En7 fun _ En9 => ?_
 refine c_f En9 ?_
 refine d_s [2,3,7] [] En9 fun _ En11 => ?_
 refine c_t En11 ?_
 refine wp_seq <| zm <| d_k [2,3,9] [] 1 En11 fun _ En13 => ?_
 refine f_o <| m_g 0 0 4 (zh ([18446744073709551615, 4294967295, 0, 18446744069414584321] : List UInt64)) _ [.box bk1 (zh ([18446744073709551615, 4294967295, 0, 18446744069414584321] : List UInt64)) 34] En13 Hv5 rfl (zb (show ze ([18446744073709551615, 4294967295, 0, 18446744069414584321] : List UInt64) = 4 from rfl)) (by rw [(zb (zd))]; first | decide | (simp; done)) (zu _) (zo (zb (zd))) rfl fun _ _ En16 Hv17 => ?_
 refine f_e <| zg <| wp_ret <| ZB <| Zg <| z5 (v := .agg (zi (zh ([18446744073709551615, 4294967295, 0, 18446744069414584321] : List UInt64)))) (t := 2) (T := 34) (ad := ⟨bk1, 0, none⟩) En16 (by kernel_rfl) (by kernel_rfl) (zx (t := 34) (k := 0) (off := 0) (m := 4) (xs := zh ([18446744073709551615, 4294967295, 0, 18446744069414584321] : List UInt64)) Hv17 rfl (zn (zb (show ze ([18446744073709551615, 4294967295, 0, 18446744069414584321] : List UInt64) = 4 from rfl))) (zb (show ze ([18446744073709551615, 4294967295, 0, 18446744069414584321] : List UInt64) = 4 from rfl)) (by kernel_rfl) (by kernel_rfl)) ?_
 exact ⟨by kernel_rfl, Hv17.pk []⟩

theorem rmod_3 (w : World)  : Calls Tryd.prog 14 #[.int .i64 3] w fun e w' => e = .returned (.agg (zi (zh (nd (mF 3))))) ∧ Ev w [] w' [] := by
 refine d_0 [(0, .int .i64 3)] 17 Go.Proofs.Tryd.func14 Go.Proofs.Tryd.ntmps14 (Heap.nil _) fun act0 En0 Hv0 => ?_
 refine wp_seq <| zm <| f_o <| m_z 34 (zh (zc 4 0)) En0 Hv0 fun _ _ bk1 En4 Hv5 => ?_
 refine f_e <| zg <| wp_seq <| d_s [2,3] [] En4 fun _ En7 => ?_
 refine wp_block <| d_s [2,3,4] [] En7 fun _ En9 => ?_
 refine c_f En9 ?_
 refine d_s [2,3,7] [] En9 fun _ En11 => ?_
 refine c_f En11 ?_
 refine d_s [2,3,10] [] En11 fun _ En13 => ?_
 refine c_t En13 ?_
 refine wp_seq <| zm <| d_k [2,3,12] [] 1 En13 fun _ En15 => ?_
 refine f_o <| m_g 0 0 4 (zh ([17562291160714782033, 13611842547513532036, 18446744073709551615, 18446744069414584320] : List UInt64)) _ [.box bk1 (zh ([17562291160714782033, 13611842547513532036, 18446744073709551615, 18446744069414584320] : List UInt64)) 34] En15 Hv5 rfl (zb (show ze ([17562291160714782033, 13611842547513532036, 18446744073709551615, 18446744069414584320] : List UInt64) = 4 from rfl)) (by rw [(zb (zd))]; first | decide | (simp; done)) (zu _) (zo (zb (zd))) rfl fun _ _ En18 Hv19 => ?_
 refine f_e <| zg <| wp_ret <| ZB <| Zg <| z5 (v := .agg (zi (zh ([17562291160714782033, 13611842547513532036, 18446744073709551615, 18446744069414584320] : List UInt64)))) (t := 2) (T := 34) (ad := ⟨bk1, 0, none⟩) En18 (by kernel_rfl) (by kernel_rfl) (zx (t := 34) (k := 0) (off := 0) (m := 4) (xs := zh ([17562291160714782033, 13611842547513532036, 18446744073709551615, 18446744069414584320] : List UInt64)) Hv19 rfl (zn (zb (show ze ([17562291160714782033, 13611842547513532036, 18446744073709551615, 18446744069414584320] : List UInt64) = 4 from rfl))) (zb (show ze ([17562291160714782033, 13611842547513532036, 18446744073709551615, 18446744069414584320] : List UInt64) = 4 from rfl)) (by kernel_rfl) (by kernel_rfl)) ?_
 exact ⟨by kernel_rfl, Hv19.pk []⟩

theorem rmod_4 (w : World)  : Calls Tryd.prog 14 #[.int .i64 4] w fun e w' => e = .returned (.agg (zi (zh (nd (mF 4))))) ∧ Ev w [] w' [] := by
 refine d_0 [(0, .int .i64 4)] 17 Go.Proofs.Tryd.func14 Go.Proofs.Tryd.ntmps14 (Heap.nil _) fun act0 En0 Hv0 => ?_
 refine wp_seq <| zm <| f_o <| m_z 34 (zh (zc 4 0)) En0 Hv0 fun _ _ bk1 En4 Hv5 => ?_
 refine f_e <| zg <| wp_seq <| d_s [2,3] [] En4 fun _ En7 => ?_
 refine wp_block <| d_s [2,3,4] [] En7 fun _ En9 => ?_
 refine c_f En9 ?_
 refine d_s [2,3,7] [] En9 fun _ En11 => ?_
 refine c_f En11 ?_
 refine d_s [2,3,10] [] En11 fun _ En13 => ?_
 refine c_f En13 ?_
 refine d_s [2,3,13] [] En13 fun _ En15 => ?_
 refine c_t En15 ?_
 refine wp_seq <| zm <| d_k [2,3,15] [] 1 En15 fun _ En17 => ?_
 refine f_o <| m_g 0 0 4 (zh ([6346243789798364141, 1503914060200516822, 0, 1152921504606846976] : List UInt64)) _ [.box bk1 (zh ([6346243789798364141, 1503914060200516822, 0, 1152921504606846976] : List UInt64)) 34] En17 Hv5 rfl (zb (show ze ([6346243789798364141, 1503914060200516822, 0, 1152921504606846976] : List UInt64) = 4 from rfl)) (by rw [(zb (zd))]; first | decide | (simp; done)) (zu _) (zo (zb (zd))) rfl fun _ _ En20 Hv21 => ?_
 refine f_e <| zg <| wp_ret <| ZB <| Zg <| z5 (v := .agg (zi (zh ([6346243789798364141, 1503914060200516822, 0, 1152921504606846976] : List UInt64)))) (t := 2) (T := 34) (ad := ⟨bk1, 0, none⟩) En20 (by kernel_rfl) (by kernel_rfl) (zx (t := 34) (k := 0) (off := 0) (m := 4) (xs := zh ([6346243789798364141, 1503914060200516822, 0, 1152921504606846976] : List UInt64)) Hv21 rfl (zn (zb (show ze ([6346243789798364141, 1503914060200516822, 0, 1152921504606846976] : List UInt64) = 4 from rfl))) (zb (show ze ([6346243789798364141, 1503914060200516822, 0, 1152921504606846976] : List UInt64) = 4 from rfl)) (by kernel_rfl) (by kernel_rfl)) ?_
 exact ⟨by kernel_rfl, Hv21.pk []⟩

theorem rmod_0 (w : World) (f : Int)  (hf : ¬ (f = 1 ∨ f = 2 ∨ f = 3 ∨ f = 4)) : Calls Tryd.prog 14 #[.int .i64 f] w fun e w' => e = .returned (.agg (zi (zh (nd (mF 0))))) ∧ Ev w [] w' [] := by
 refine d_0 [(0, .int .i64 f)] 17 Go.Proofs.Tryd.func14 Go.Proofs.Tryd.ntmps14 (Heap.nil _) fun act0 En0 Hv0 => ?_
 refine wp_seq <| zm <| f_o <| m_z 34 (zh (zc 4 0)) En0 Hv0 fun _ _ bk1 En4 Hv5 => ?_
 refine f_e <| zg <| wp_seq <| d_s [2,3] [] En4 fun _ En7 => ?_
 refine wp_block <| d_s [2,3,4] [] En7 fun _ En9 => ?_
 refine c_e f (1 : Int) En9 (fun hc10 => ?_) (fun hc10 => ?_)
 ·
  exact absurd hc10 (by omega)
 refine d_s [2,3,7] [] En9 fun _ En12 => ?_
 refine c_e f (2 : Int) En12 (fun hc13 => ?_) (fun hc13 => ?_)
 ·
  exact absurd hc13 (by omega)
 refine d_s [2,3,10] [] En12 fun _ En15 => ?_
 refine c_e f (3 : Int) En15 (fun hc16 => ?_) (fun hc16 => ?_)
 ·
  exact absurd hc16 (by omega)
 refine d_s [2,3,13] [] En15 fun _ En18 => ?_
 refine c_e f (4 : Int) En18 (fun hc19 => ?_) (fun hc19 => ?_)
 ·
  exact absurd hc19 (by omega)
 refine wp_skip <| zv <| zg <| wp_seq <| zm <| d_k [2,3,16] [] 1 En18 fun _ En21 => ?_
 refine f_o <| m_g 0 0 4 (zh ([0, 0, 0, 0] : List UInt64)) _ [.box bk1 (zh ([0, 0, 0, 0] : List UInt64)) 34] En21 Hv5 rfl (zb (show ze ([0, 0, 0, 0] : List UInt64) = 4 from rfl)) (by rw [(zb (zd))]; first | decide | (simp; done)) (zu _) (zo (zb (zd))) rfl fun _ _ En24 Hv25 => ?_
 refine f_e <| zg <| wp_ret <| z5 (v := .agg (zi (zh ([0, 0, 0, 0] : List UInt64)))) (t := 2) (T := 34) (ad := ⟨bk1, 0, none⟩) En24 (by kernel_rfl) (by kernel_rfl) (zx (t := 34) (k := 0) (off := 0) (m := 4) (xs := zh ([0, 0, 0, 0] : List UInt64)) Hv25 rfl (zn (zb (show ze ([0, 0, 0, 0] : List UInt64) = 4 from rfl))) (zb (show ze ([0, 0, 0, 0] : List UInt64) = 4 from rfl)) (by kernel_rfl) (by kernel_rfl)) ?_
 exact ⟨by kernel_rfl, Hv25.pk []⟩

theorem rmodulus_go (w : World) (f : Int) : Calls Tryd.prog 14 #[.int .i64 f] w fun e w' => e = .returned (.agg (zi (zh (nd (mF f))))) ∧ Ev w [] w' [] := by
  by_cases hf : f = 1 ∨ f = 2 ∨ f = 3 ∨ f = 4
  · rcases hf with rfl | rfl | rfl | rfl
    · exact rmod_1 w
    · exact rmod_2 w
    · exact rmod_3 w
    · exact rmod_4 w
  · rw [mF_none hf]
    exact rmod_0 w f hf

theorem ris_go (w : World) (f : Int) : Calls Tryd.prog 82 #[.int .i64 f] w fun e w' => e = .returned (.bool (decide (f = 1 ∨ f = 2 ∨ f = 3 ∨ f = 4))) ∧ Ev w [] w' [] := by
 refine d_0 [(0, .int .i64 f)] 9 Go.Proofs.Tryd.func82 Go.Proofs.Tryd.ntmps82 (Heap.nil _) fun act0 En0 Hv0 => ?_
 refine d_s [0,2] [] En0 fun _ En2 => ?_
 refine wp_seq <| zm <| d_k [0,2,5] [] 3 En2 fun _ En4 => ?_
 rcases ZA (decide (f ≥ (1 : Int))) with hb5 | hb5
 ·
  have En6 := En4.fx (t := 5) (congrArg Value.bool hb5)
  have hp7 : f ≥ (1 : Int) := of_decide_eq_true hb5
  refine d_e [2] [] En6 fun _ En9 => ?_
  refine zg <| wp_ret <| ZW (t := 2) (v := .bool (decide (f ≤ (4 : Int)))) En9 (by kernel_rfl) (by kernel_rfl) ?_
  have e : (decide (f ≤ (4 : Int))) = decide (f = 1 ∨ f = 2 ∨ f = 3 ∨ f = 4) := by
   by_cases hq : f = 1 ∨ f = 2 ∨ f = 3 ∨ f = 4
   · rw [decide_eq_true hq] <;> first | rfl | exact decide_eq_true (by omega) | (exfalso; omega)
   · rw [decide_eq_false hq] <;> first | rfl | exact decide_eq_false (by omega) | (exfalso; omega)
  exact ⟨by rw [e], Hv0.pk []⟩
 have En10 := En4.fx (t := 5) (congrArg Value.bool hb5)
 have hp11 : ¬ (f ≥ (1 : Int)) := of_decide_eq_false hb5
 refine d_e [2] [] En10 fun _ En13 => ?_
 refine zg <| wp_ret <| ZW (t := 2) (v := .bool false) En13 (by kernel_rfl) (by kernel_rfl) ?_
 have e : (false) = decide (f = 1 ∨ f = 2 ∨ f = 3 ∨ f = 4) := by
  by_cases hq : f = 1 ∨ f = 2 ∨ f = 3 ∨ f = 4
  · rw [decide_eq_true hq] <;> first | rfl | exact decide_eq_true (by omega) | (exfalso; omega)
  · rw [decide_eq_false hq] <;> first | rfl | exact decide_eq_false (by omega) | (exfalso; omega)
 exact ⟨by rw [e], Hv0.pk []⟩

theorem ris_go_yes (w : World) (f : Int) (hf : f = 1 ∨ f = 2 ∨ f = 3 ∨ f = 4) : Calls Tryd.prog 82 #[.int .i64 f] w fun e w' => e = .returned (.bool true) ∧ Ev w [] w' [] := by
  have h := ris_go w f
  rwa [decide_eq_true hf] at h
end Go.Proofs.YtlnogkmnklfjlaaDoor
