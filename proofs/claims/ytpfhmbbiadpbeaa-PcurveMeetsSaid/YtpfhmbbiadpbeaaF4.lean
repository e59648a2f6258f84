/- Layer 4: the modulus; sums, differences. -/
import Derived.Test.YtpfhmbbiadpbeaaF3
namespace Go.Proofs.Ytpfhmbbiadpbeaa
open Go.Dbr
set_option maxRecDepth 100000
set_option maxHeartbeats 2000000
set_option linter.unusedVariables false
set_option linter.unusedSimpArgs false

theorem mod_1 (w : World)  : Calls Try.prog 65 #[.int .i64 1] w fun e w' => e = .returned (.agg (List.toArray (u64s (nd (mF 1))))) ∧ Ev w [] w' [] := by
 refine d_0 [(0, .int .i64 1)] 19 Go.Proofs.Try.func65 Go.Proofs.Try.ntmps65 (Heap.nil _) fun act0 En0 Hv0 => ?_
 refine wp_seq ?_
 refine region_from ?_
 refine f_o ?_
 refine m_z 24 (u64s (List.replicate 4 0)) En0 Hv0 fun ac2 wo3 bk1 En4 Hv5 => ?_
 refine f_e ?_
 refine then_normal ?_
 refine wp_seq ?_
 refine d_s [2,3] [] En4 fun ac6 En7 => ?_
 refine wp_block ?_
 refine d_s [2,3,4] [] En7 fun ac8 En9 => ?_
 refine c_t En9 ?_
 refine wp_seq ?_
 refine region_from ?_
 refine f_o ?_
 refine c_p En9 Hv5 (prime1_go _) fun ac14 wo11 En15 Hv16 => ?_
 refine f_o ?_
 refine m_g 0 0 4 (u64s (nd (mF 1))) (u64s (nd (mF 1))) [.box bk1 (u64s (nd (mF 1))) 24] En15 Hv16 rfl (u64s_lenh (nds_len _ _)) (by rw [(u64s_lenh (List.length_replicate))]; decide) (u64s_one _) (store_whole (u64s_lenh (List.length_replicate))) rfl fun ac17 wo18 En19 Hv20 => ?_
 refine f_e ?_
 refine then_normal ?_
 refine wp_ret ?_
 refine block_ret ?_
 refine then_ret ?_
 refine d_cell1 (v := .agg (List.toArray (u64s (nd (mF 1))))) (t := 2) (T := 24) (ad := ⟨bk1, 0, none⟩) En19 (by kernel_rfl) (by kernel_rfl) (Ev.cellAgg (t := 24) (k := 0) (off := 0) (m := 4) (xs := u64s (nd (mF 1))) Hv20 rfl (load_whole (u64s_lenh (nds_len _ _))) (u64s_lenh (nds_len _ _)) (by kernel_rfl) (by kernel_rfl)) ?_
 exact ⟨rfl, Hv20.pk []⟩

theorem mod_2 (w : World)  : Calls Try.prog 65 #[.int .i64 2] w fun e w' => e = .returned (.agg (List.toArray (u64s (nd (mF 2))))) ∧ Ev w [] w' [] := by
 refine d_0 [(0, .int .i64 2)] 19 Go.Proofs.Try.func65 Go.Proofs.Try.ntmps65 (Heap.nil _) fun act0 En0 Hv0 => ?_
 refine wp_seq ?_
 refine region_from ?_
 refine f_o ?_
 refine m_z 24 (u64s (List.replicate 4 0)) En0 Hv0 fun ac2 wo3 bk1 En4 Hv5 => ?_
 refine f_e ?_
 refine then_normal ?_
 refine wp_seq ?_
 refine d_s [2,3] [] En4 fun ac6 En7 => ?_
 refine wp_block ?_
 refine d_s [2,3,4] [] En7 fun ac8 En9 => ?_
 refine c_f En9 ?_
 refine d_s [2,3,7] [] En9 fun ac10 En11 => ?_
 refine c_t En11 ?_
 refine wp_seq ?_
 refine region_from ?_
 refine f_o ?_
 refine c_p En11 Hv5 (prime2_go _) fun ac16 wo13 En17 Hv18 => ?_
 refine f_o ?_
 refine m_g 0 0 4 (u64s (nd (mF 2))) (u64s (nd (mF 2))) [.box bk1 (u64s (nd (mF 2))) 24] En17 Hv18 rfl (u64s_lenh (nds_len _ _)) (by rw [(u64s_lenh (List.length_replicate))]; decide) (u64s_one _) (store_whole (u64s_lenh (List.length_replicate))) rfl fun ac19 wo20 En21 Hv22 => ?_
 refine f_e ?_
 refine then_normal ?_
 refine wp_ret ?_
 refine block_ret ?_
 refine then_ret ?_
 refine d_cell1 (v := .agg (List.toArray (u64s (nd (mF 2))))) (t := 2) (T := 24) (ad := ⟨bk1, 0, none⟩) En21 (by kernel_rfl) (by kernel_rfl) (Ev.cellAgg (t := 24) (k := 0) (off := 0) (m := 4) (xs := u64s (nd (mF 2))) Hv22 rfl (load_whole (u64s_lenh (nds_len _ _))) (u64s_lenh (nds_len _ _)) (by kernel_rfl) (by kernel_rfl)) ?_
 exact ⟨rfl, Hv22.pk []⟩

theorem mod_3 (w : World)  : Calls Try.prog 65 #[.int .i64 3] w fun e w' => e = .returned (.agg (List.toArray (u64s (nd (mF 3))))) ∧ Ev w [] w' [] := by
 refine d_0 [(0, .int .i64 3)] 19 Go.Proofs.Try.func65 Go.Proofs.Try.ntmps65 (Heap.nil _) fun act0 En0 Hv0 => ?_
 refine wp_seq ?_
 refine region_from ?_
 refine f_o ?_
 refine m_z 24 (u64s (List.replicate 4 0)) En0 Hv0 fun ac2 wo3 bk1 En4 Hv5 => ?_
 refine f_e ?_
 refine then_normal ?_
 refine wp_seq ?_
 refine d_s [2,3] [] En4 fun ac6 En7 => ?_
 refine wp_block ?_
 refine d_s [2,3,4] [] En7 fun ac8 En9 => ?_
 refine c_f En9 ?_
 refine d_s [2,3,7] [] En9 fun ac10 En11 => ?_
 refine c_f En11 ?_
 refine d_s [2,3,10] [] En11 fun ac12 En13 => ?_
 refine c_t En13 ?_
 refine wp_seq ?_
 refine region_from ?_
 refine d_k [2,3,12] [] 1 En13 fun ac14 En15 => ?_
 refine f_o ?_
 refine c_p En15 Hv5 (prime3_go _) fun ac20 wo17 En21 Hv22 => ?_
 refine f_o ?_
 refine m_g 0 0 4 (u64s (nd (mF 3))) (u64s (nd (mF 3))) [.box bk1 (u64s (nd (mF 3))) 24] En21 Hv22 rfl (u64s_lenh (nds_len _ _)) (by rw [(u64s_lenh (List.length_replicate))]; decide) (u64s_one _) (store_whole (u64s_lenh (List.length_replicate))) rfl fun ac23 wo24 En25 Hv26 => ?_
 refine f_e ?_
 refine then_normal ?_
 refine wp_ret ?_
 refine block_ret ?_
 refine then_ret ?_
 refine d_cell1 (v := .agg (List.toArray (u64s (nd (mF 3))))) (t := 2) (T := 24) (ad := ⟨bk1, 0, none⟩) En25 (by kernel_rfl) (by kernel_rfl) (Ev.cellAgg (t := 24) (k := 0) (off := 0) (m := 4) (xs := u64s (nd (mF 3))) Hv26 rfl (load_whole (u64s_lenh (nds_len _ _))) (u64s_lenh (nds_len _ _)) (by kernel_rfl) (by kernel_rfl)) ?_
 exact ⟨rfl, Hv26.pk []⟩

theorem mod_4 (w : World)  : Calls Try.prog 65 #[.int .i64 4] w fun e w' => e = .returned (.agg (List.toArray (u64s (nd (mF 4))))) ∧ Ev w [] w' [] := by
 refine d_0 [(0, .int .i64 4)] 19 Go.Proofs.Try.func65 Go.Proofs.Try.ntmps65 (Heap.nil _) fun act0 En0 Hv0 => ?_
 refine wp_seq ?_
 refine region_from ?_
 refine f_o ?_
 refine m_z 24 (u64s (List.replicate 4 0)) En0 Hv0 fun ac2 wo3 bk1 En4 Hv5 => ?_
 refine f_e ?_
 refine then_normal ?_
 refine wp_seq ?_
 refine d_s [2,3] [] En4 fun ac6 En7 => ?_
 refine wp_block ?_
 refine d_s [2,3,4] [] En7 fun ac8 En9 => ?_
 refine c_f En9 ?_
 refine d_s [2,3,7] [] En9 fun ac10 En11 => ?_
 refine c_f En11 ?_
 refine d_s [2,3,10] [] En11 fun ac12 En13 => ?_
 refine c_f En13 ?_
 refine d_s [2,3,14] [] En13 fun ac14 En15 => ?_
 refine c_t En15 ?_
 refine wp_seq ?_
 refine region_from ?_
 refine d_k [2,3,16] [] 1 En15 fun ac16 En17 => ?_
 refine f_o ?_
 refine c_p En17 Hv5 (prime4_go _) fun ac22 wo19 En23 Hv24 => ?_
 refine f_o ?_
 refine m_g 0 0 4 (u64s (nd (mF 4))) (u64s (nd (mF 4))) [.box bk1 (u64s (nd (mF 4))) 24] En23 Hv24 rfl (u64s_lenh (nds_len _ _)) (by rw [(u64s_lenh (List.length_replicate))]; decide) (u64s_one _) (store_whole (u64s_lenh (List.length_replicate))) rfl fun ac25 wo26 En27 Hv28 => ?_
 refine f_e ?_
 refine then_normal ?_
 refine wp_ret ?_
 refine block_ret ?_
 refine then_ret ?_
 refine d_cell1 (v := .agg (List.toArray (u64s (nd (mF 4))))) (t := 2) (T := 24) (ad := ⟨bk1, 0, none⟩) En27 (by kernel_rfl) (by kernel_rfl) (Ev.cellAgg (t := 24) (k := 0) (off := 0) (m := 4) (xs := u64s (nd (mF 4))) Hv28 rfl (load_whole (u64s_lenh (nds_len _ _))) (u64s_lenh (nds_len _ _)) (by kernel_rfl) (by kernel_rfl)) ?_
 exact ⟨rfl, Hv28.pk []⟩

theorem mod_0 (w : World) (f : Int)  (hf : ¬ (f = 1 ∨ f = 2 ∨ f = 3 ∨ f = 4)) : Calls Try.prog 65 #[.int .i64 f] w fun e w' => e = .returned (.agg (List.toArray (u64s (nd (mF 0))))) ∧ Ev w [] w' [] := by
 refine d_0 [(0, .int .i64 f)] 19 Go.Proofs.Try.func65 Go.Proofs.Try.ntmps65 (Heap.nil _) fun act0 En0 Hv0 => ?_
 refine wp_seq ?_
 refine region_from ?_
 refine f_o ?_
 refine m_z 24 (u64s (List.replicate 4 0)) En0 Hv0 fun ac2 wo3 bk1 En4 Hv5 => ?_
 refine f_e ?_
 refine then_normal ?_
 refine wp_seq ?_
 refine d_s [2,3] [] En4 fun ac6 En7 => ?_
 refine wp_block ?_
 refine d_s [2,3,4] [] En7 fun ac8 En9 => ?_
 refine c_e f (1 : Int) En9 (fun hc10 => ?_) (fun hc10 => ?_)
 ·
  exact absurd hc10 (by omega)
 ·
  refine d_s [2,3,7] [] En9 fun ac11 En12 => ?_
  refine c_e f (2 : Int) En12 (fun hc13 => ?_) (fun hc13 => ?_)
  ·
   exact absurd hc13 (by omega)
  ·
   refine d_s [2,3,10] [] En12 fun ac14 En15 => ?_
   refine c_e f (3 : Int) En15 (fun hc16 => ?_) (fun hc16 => ?_)
   ·
    exact absurd hc16 (by omega)
   ·
    refine d_s [2,3,14] [] En15 fun ac17 En18 => ?_
    refine c_e f (4 : Int) En18 (fun hc19 => ?_) (fun hc19 => ?_)
    ·
     exact absurd hc19 (by omega)
    ·
     refine wp_skip ?_
     refine block_normal ?_
     refine then_normal ?_
     refine wp_seq ?_
     refine region_from ?_
     refine d_k [2,3,18] [] 1 En18 fun ac20 En21 => ?_
     refine f_o ?_
     refine m_g 0 0 4 (u64s ([0, 0, 0, 0] : List UInt64)) (u64s ([0, 0, 0, 0] : List UInt64)) [.box bk1 (u64s ([0, 0, 0, 0] : List UInt64)) 24] En21 Hv5 rfl (u64s_lenh (show List.length ([0, 0, 0, 0] : List UInt64) = 4 from rfl)) (by rw [(u64s_lenh (List.length_replicate))]; decide) (u64s_one _) (store_whole (u64s_lenh (List.length_replicate))) rfl fun ac22 wo23 En24 Hv25 => ?_
     refine f_e ?_
     refine then_normal ?_
     refine wp_ret ?_
     refine d_cell1 (v := .agg (List.toArray (u64s ([0, 0, 0, 0] : List UInt64)))) (t := 2) (T := 24) (ad := ⟨bk1, 0, none⟩) En24 (by kernel_rfl) (by kernel_rfl) (Ev.cellAgg (t := 24) (k := 0) (off := 0) (m := 4) (xs := u64s ([0, 0, 0, 0] : List UInt64)) Hv25 rfl (load_whole (u64s_lenh (show List.length ([0, 0, 0, 0] : List UInt64) = 4 from rfl))) (u64s_lenh (show List.length ([0, 0, 0, 0] : List UInt64) = 4 from rfl)) (by kernel_rfl) (by kernel_rfl)) ?_
     exact ⟨by kernel_rfl, Hv25.pk []⟩

theorem mF_none {f : Int} (hf : ¬ (f = 1 ∨ f = 2 ∨ f = 3 ∨ f = 4)) : mF f = 0 := by
  unfold mF
  rw [if_neg (by omega), if_neg (by omega), if_neg (by omega), if_neg (by omega)]
theorem modulus_go (w : World) (f : Int) : Calls Try.prog 65 #[.int .i64 f] w fun e w' => e = .returned (.agg (List.toArray (u64s (nd (mF f))))) ∧ Ev w [] w' [] := by
  by_cases hf : f = 1 ∨ f = 2 ∨ f = 3 ∨ f = 4
  · rcases hf with rfl | rfl | rfl | rfl
    · exact mod_1 w
    · exact mod_2 w
    · exact mod_3 w
    · exact mod_4 w
  · rw [mF_none hf]
    exact mod_0 w f hf

theorem is_go (w : World) (f : Int) : Calls Try.prog 80 #[.int .i64 f] w fun e w' => e = .returned (.bool (decide (f = 1 ∨ f = 2 ∨ f = 3 ∨ f = 4))) ∧ Ev w [] w' [] := by
 refine d_0 [(0, .int .i64 f)] 9 Go.Proofs.Try.func80 Go.Proofs.Try.ntmps80 (Heap.nil _) fun act0 En0 Hv0 => ?_
 refine d_s [0,2] [] En0 fun ac1 En2 => ?_
 refine wp_seq ?_
 refine region_from ?_
 refine d_k [0,2,5] [] 3 En2 fun ac3 En4 => ?_
 rcases Bool.eq_false_or_eq_true (decide (f ≥ (1 : Int))) with hb5 | hb5
 ·
  have En6 := En4.fx (t := 5) (congrArg Value.bool hb5)
  have hp7 : f ≥ (1 : Int) := of_decide_eq_true hb5
  refine d_e [2] [] En6 fun ac8 En9 => ?_
  refine then_normal ?_
  refine wp_ret ?_
  refine d_ret1 (t := 2) (v := .bool (decide (f ≤ (4 : Int)))) En9 (by kernel_rfl) (by kernel_rfl) ?_
  have e : (decide (f ≤ (4 : Int))) = decide (f = 1 ∨ f = 2 ∨ f = 3 ∨ f = 4) := by
   by_cases hq : f = 1 ∨ f = 2 ∨ f = 3 ∨ f = 4
   · rw [decide_eq_true hq] <;> first | rfl | exact decide_eq_true (by omega) | (exfalso; omega)
   · rw [decide_eq_false hq] <;> first | rfl | exact decide_eq_false (by omega) | (exfalso; omega)
  exact ⟨by rw [e], Hv0.pk []⟩
 ·
  have En10 := En4.fx (t := 5) (congrArg Value.bool hb5)
  have hp11 : ¬ (f ≥ (1 : Int)) := of_decide_eq_false hb5
  refine d_e [2] [] En10 fun ac12 En13 => ?_
  refine then_normal ?_
  refine wp_ret ?_
  refine d_ret1 (t := 2) (v := .bool false) En13 (by kernel_rfl) (by kernel_rfl) ?_
  have e : (false) = decide (f = 1 ∨ f = 2 ∨ f = 3 ∨ f = 4) := by
   by_cases hq : f = 1 ∨ f = 2 ∨ f = 3 ∨ f = 4
   · rw [decide_eq_true hq] <;> first | rfl | exact decide_eq_true (by omega) | (exfalso; omega)
   · rw [decide_eq_false hq] <;> first | rfl | exact decide_eq_false (by omega) | (exfalso; omega)
  exact ⟨by rw [e], Hv0.pk []⟩

theorem is_go_yes (w : World) (f : Int) (hf : f = 1 ∨ f = 2 ∨ f = 3 ∨ f = 4) : Calls Try.prog 80 #[.int .i64 f] w fun e w' => e = .returned (.bool true) ∧ Ev w [] w' [] := by
  have h := is_go w f
  rwa [decide_eq_true hf] at h
theorem right_mF (w : World) (f : Int) (hf : f = 1 ∨ f = 2 ∨ f = 3 ∨ f = 4) (a : List UInt64) (ha : List.length a = 4) : Calls Try.prog 82 #[.agg (List.toArray (u64s a)), .agg (List.toArray (u64s (nd (mF f))))] w fun e w' => e = .returned (.agg (List.toArray (u64s (nd (nv a % mF f))))) ∧ Ev w [] w' [] := by
  have h := right_go w a (nd (mF f)) ha (nds_len _ _) (by rw [nv_mF]; exact Nat.lt_trans Nat.zero_lt_one (mF_pos hf))
  rw [nv_mF] at h
  exact h
theorem plus_nd_go (w : World) (x y : Nat) (hx : x < W256) (hy : y < W256) : Calls Try.prog 81 #[.agg (List.toArray (u64s (nd x))), .agg (List.toArray (u64s (nd y)))] w fun e w' => e = .returned (.tuple #[.agg (List.toArray (u64s (nd (x + y)))), uv64 (u1 (W256 ≤ x + y))]) ∧ Ev w [] w' [] := by
  have h := plus_go w (nd x) (nd y) (nds_len _ _) (nds_len _ _)
  rw [nv_nd hx, nv_nd hy] at h
  exact h
theorem minus_nd_go (w : World) (x y : Nat) (hx : x < W256) (hy : y < W256) : Calls Try.prog 77 #[.agg (List.toArray (u64s (nd x))), .agg (List.toArray (u64s (nd y)))] w fun e w' => e = .returned (.tuple #[.agg (List.toArray (u64s (nd (x + W256 - y)))), uv64 (u1 (x < y))]) ∧ Ev w [] w' [] := by
  have h := minus_go w (nd x) (nd y) (nds_len _ _) (nds_len _ _)
  rw [nv_nd hx, nv_nd hy] at h
  exact h
theorem add_fin1 {x y M : Nat} (hx : x < M) (hy : y < M) (hM : M < W256) (h : W256 ≤ x + y ∨ ¬ nv (nd (x + y)) < nv (nd M)) : nd (nv (nd (x + y)) + W256 - nv (nd M)) = nd ((x + y) % M) := by
  rw [nv_nd hM, nd_val] at *
  have e : (x + y) % M = x + y - M := by
    rw [Nat.mod_eq_sub_mod (by simp only [W256] at *; omega), Nat.mod_eq_of_lt (by omega)]
  rw [e, ← nd_mod, ← nd_mod (x + y - M)]
  congr 1
  simp only [W256] at *
  omega
theorem add_fin2 {x y M : Nat} (hM : M < W256) (h1 : ¬ W256 ≤ x + y) (h : nv (nd (x + y)) < nv (nd M)) : nd (x + y) = nd ((x + y) % M) := by
  rw [nv_nd hM, nv_nd (by omega)] at h
  rw [Nat.mod_eq_of_lt h]
theorem sub_fin1 {x y M : Nat} (hx : x < M) (hy : y < M) (hM : M < W256) (h : x < y) : nd (nv (nd (x + W256 - y)) + nv (nd M)) = nd ((x + M - y) % M) := by
  rw [nv_nd hM, nd_val, Nat.mod_eq_of_lt (a := x + M - y) (by omega), ← nd_mod, ← nd_mod (x + M - y)]
  congr 1
  simp only [W256] at *
  omega
theorem sub_fin2 {x y M : Nat} (hx : x < M) (hy : y < M) (hM : M < W256) (h : ¬ x < y) : nd (x + W256 - y) = nd ((x + M - y) % M) := by
  rw [Nat.mod_eq_sub_mod (by omega), Nat.mod_eq_of_lt (by omega), ← nd_mod, ← nd_mod (x + M - y - M)]
  congr 1
  simp only [W256] at *
  omega
/-- numbers of a field -/
def addM (f : Int) (x y : Nat) : Nat := (x + y) % mF f
def subM (f : Int) (x y : Nat) : Nat := (x % mF f + mF f - y % mF f) % mF f
def mulM (f : Int) (x y : Nat) : Nat := (x * y) % mF f
theorem add_mM (f : Int) (x y : Nat) : (x % mF f + y % mF f) % mF f = addM f x y := (Nat.add_mod _ _ _).symm
theorem addM_lt {f : Int} (hf : f = 1 ∨ f = 2 ∨ f = 3 ∨ f = 4) (x y : Nat) : addM f x y < W256 := mod_lt_w hf
theorem subM_lt {f : Int} (hf : f = 1 ∨ f = 2 ∨ f = 3 ∨ f = 4) (x y : Nat) : subM f x y < W256 := mod_lt_w hf
theorem mulM_lt {f : Int} (hf : f = 1 ∨ f = 2 ∨ f = 3 ∨ f = 4) (x y : Nat) : mulM f x y < W256 := mod_lt_w hf

theorem add_go (w : World) (f : Int) (hf : f = 1 ∨ f = 2 ∨ f = 3 ∨ f = 4) (a b : List UInt64) (ha : List.length a = 4) (hb : List.length b = 4) : Calls Try.prog 62 #[.int .i64 f, .agg (List.toArray (u64s a)), .agg (List.toArray (u64s b))] w fun e w' => e = .returned (.agg (List.toArray (u64s (nd (addM f (nv a) (nv b)))))) ∧ Ev w [] w' [] := by
 have hla : nv a % mF f < mF f := Nat.mod_lt _ (Nat.lt_trans Nat.zero_lt_one (mF_pos hf))
 have hlb : nv b % mF f < mF f := Nat.mod_lt _ (Nat.lt_trans Nat.zero_lt_one (mF_pos hf))
 have hmw := mF_lt f
 refine d_0 [(0, .int .i64 f), (1, .agg (List.toArray (u64s a))), (2, .agg (List.toArray (u64s b)))] 39 Go.Proofs.Try.func62 Go.Proofs.Try.ntmps62 (Heap.nil _) fun act0 En0 Hv0 => ?_
 refine wp_seq ?_
 refine region_from ?_
 refine f_o ?_
 refine m_m 24 (u64s a) En0 Hv0 fun ac2 wo3 bk1 En4 Hv5 => ?_
 refine f_o ?_
 refine m_m 24 (u64s b) En4 Hv5 fun ac7 wo8 bk6 En9 Hv10 => ?_
 refine f_o ?_
 refine m_z 24 (u64s (List.replicate 4 0)) En9 Hv10 fun ac12 wo13 bk11 En14 Hv15 => ?_
 refine f_e ?_
 refine then_normal ?_
 refine wp_seq ?_
 refine wp_seq ?_
 refine region_from ?_
 refine d_k [0,4,5,6,10] [] 1 En14 fun ac16 En17 => ?_
 refine f_o ?_
 refine c_p En17 Hv15 (is_go_yes _ f hf) fun ac22 wo19 En23 Hv24 => ?_
 refine d_e [0,4,5,6,12] [] En23 fun ac25 En26 => ?_
 refine then_normal ?_
 refine c_f En26 ?_
 refine wp_skip ?_
 refine then_normal ?_
 refine wp_seq ?_
 refine region_from ?_
 refine d_k [0,4,5,6,14] [] 1 En26 fun ac27 En28 => ?_
 refine f_o ?_
 refine c_p En28 Hv24 (modulus_go _ f) fun ac33 wo30 En34 Hv35 => ?_
 refine f_o ?_
 refine m_z 24 (u64s (List.replicate 4 0)) En34 Hv35 fun ac37 wo38 bk36 En39 Hv40 => ?_
 refine f_o ?_
 refine m_g 3 0 4 (u64s (nd (mF f))) (u64s (nd (mF f))) [.box bk1 (u64s a) 24, .box bk6 (u64s b) 24, .box bk11 (u64s (List.replicate 4 0)) 24, .box bk36 (u64s (nd (mF f))) 24] En39 Hv40 rfl (u64s_lenh (nds_len _ _)) (by rw [(u64s_lenh (List.length_replicate))]; decide) (u64s_one _) (store_whole (u64s_lenh (List.length_replicate))) rfl fun ac41 wo42 En43 Hv44 => ?_
 refine f_e ?_
 refine then_normal ?_
 refine wp_seq ?_
 refine r_c (fun ac wo => ∃ (bk570 : Nat), Env ac 39 [(0, .int .i64 f), (6, pt bk11), (7, pt bk36), (8, pt bk570), (9, uv64 (u1 (W256 ≤ nv a % mF f + nv b % mF f)))] ∧ Ev w [] wo [.box bk11 (u64s (List.replicate 4 0)) 24, .box bk36 (u64s (nd (mF f))) 24, .box bk570 (u64s (nd (nv a % mF f + nv b % mF f))) 24]) ?_ ?_
 ·
  refine h_s (fun wv => Ev w [] wv [.box bk1 (u64s a) 24, .box bk6 (u64s b) 24, .box bk36 (u64s (nd (mF f))) 24]) [] 13 ?_
  have wo45 := Hv44.trans (Ev.drew Hv44.heap)
  refine h_name fun G hG => ?_
  have nd662 : ∀ (ac : Act) (wo : World), Env ac 39 [(0, .int .i64 f), (6, pt bk11), (7, pt bk36), (23, .tuple #[.agg (List.toArray (u64s (nd (nv a % mF f + nv b % mF f)))), uv64 (u1 (W256 ≤ nv a % mF f + nv b % mF f))])] → Ev w [] wo [.box bk1 (u64s a) 24, .box bk6 (u64s b) 24, .box bk11 (u64s (List.replicate 4 0)) 24, .box bk36 (u64s (nd (mF f))) 24] → G 6 #[true, true, true, true, true, true, true, false, false, false, false, false, false] ac wo := by
   intro ac663 wo664 En665 Hv666
   refine h_from hG ?_
   refine q_s [7,8,9] [] 3 En665 (Hv666.pk [0, 1, 3]) fun ac667 En668 => ?_
   refine q_t 10 ?_
   refine m_z 24 (u64s (List.replicate 4 0)) En668 Hv666 fun ac670 wo671 bk669 En672 Hv673 => ?_
   refine ⟨fun _ => Hv673.pk [0, 1, 3], ?_⟩
   refine q_t 11 ?_
   refine m_g 4 0 4 (u64s (nd (nv a % mF f + nv b % mF f))) (u64s (nd (nv a % mF f + nv b % mF f))) [.box bk1 (u64s a) 24, .box bk6 (u64s b) 24, .box bk11 (u64s (List.replicate 4 0)) 24, .box bk36 (u64s (nd (mF f))) 24, .box bk669 (u64s (nd (nv a % mF f + nv b % mF f))) 24] En672 Hv673 rfl (u64s_lenh (nds_len _ _)) (by rw [(u64s_lenh (List.length_replicate))]; decide) (u64s_one _) (store_whole (u64s_lenh (List.length_replicate))) rfl fun ac674 wo675 En676 Hv677 => ?_
   refine ⟨fun _ => Hv677.pk [0, 1, 3], ?_⟩
   refine q_s [12] [] 0 En676 (Hv677.pk [0, 1, 3]) fun ac678 En679 => ?_
   exact h_e ⟨bk669, En679.sb, Hv677.pk [2, 3, 4]⟩
  have nd680 : ∀ (ac : Act) (wo : World) (bk581 : Nat), Env ac 39 [(0, .int .i64 f), (6, pt bk11), (7, pt bk36), (8, pt bk581), (19, .agg (List.toArray (u64s (nd (nv a % mF f))))), (22, .agg (List.toArray (u64s (nd (nv b % mF f)))))] → Ev w [] wo [.box bk1 (u64s a) 24, .box bk6 (u64s b) 24, .box bk11 (u64s (List.replicate 4 0)) 24, .box bk36 (u64s (nd (mF f))) 24, .box bk581 (u64s (List.replicate 4 0)) 24] → G 6 #[true, true, true, true, true, true, false, false, false, false, true, false, false] ac wo := by
   intro ac681 wo682 bk581 En683 Hv684
   refine h_from hG ?_
   refine q_t 6 ?_
   refine c_p En683 Hv684 (plus_nd_go _ (nv a % mF f) (nv b % mF f) (mod_lt_w hf) (mod_lt_w hf)) fun ac689 wo686 En690 Hv691 => ?_
   refine ⟨fun _ => Hv691.pk [0, 1, 3], ?_⟩
   refine q_s [7,8,9] [] 2 En690 (Hv691.pk [0, 1, 3]) fun ac692 En693 => ?_
   refine q_t 11 ?_
   refine m_g 4 0 4 (u64s (nd (nv a % mF f + nv b % mF f))) (u64s (nd (nv a % mF f + nv b % mF f))) [.box bk1 (u64s a) 24, .box bk6 (u64s b) 24, .box bk11 (u64s (List.replicate 4 0)) 24, .box bk36 (u64s (nd (mF f))) 24, .box bk581 (u64s (nd (nv a % mF f + nv b % mF f))) 24] En693 Hv691 rfl (u64s_lenh (nds_len _ _)) (by rw [(u64s_lenh (List.length_replicate))]; decide) (u64s_one _) (store_whole (u64s_lenh (List.length_replicate))) rfl fun ac694 wo695 En696 Hv697 => ?_
   refine ⟨fun _ => Hv697.pk [0, 1, 3], ?_⟩
   refine q_s [12] [] 0 En696 (Hv697.pk [0, 1, 3]) fun ac698 En699 => ?_
   exact h_e ⟨bk581, En699.sb, Hv697.pk [2, 3, 4]⟩
  have nd700 : ∀ (ac : Act) (wo : World), Env ac 39 [(0, .int .i64 f), (6, pt bk11), (7, pt bk36), (19, .agg (List.toArray (u64s (nd (nv a % mF f))))), (22, .agg (List.toArray (u64s (nd (nv b % mF f)))))] → Ev w [] wo [.box bk1 (u64s a) 24, .box bk6 (u64s b) 24, .box bk11 (u64s (List.replicate 4 0)) 24, .box bk36 (u64s (nd (mF f))) 24] → G 7 #[true, true, true, true, true, true, false, false, false, false, false, false, false] ac wo := by
   intro ac701 wo702 En703 Hv704
   refine h_from hG ?_
   refine h_ways [6, 10] (by kernel_rfl) rfl ?_
   refine ⟨?_, ?_, trivial⟩
   ·
    rintro _ rfl
    refine c_p En703 Hv704 (plus_nd_go _ (nv a % mF f) (nv b % mF f) (mod_lt_w hf) (mod_lt_w hf)) fun ac709 wo706 En710 Hv711 => ?_
    refine ⟨fun _ => Hv711.pk [0, 1, 3], ?_⟩
    exact h_to hG (by kernel_rfl) (nd662 _ _ (En710.sb) (Hv711.pk [0, 1, 2, 3]))
   ·
    rintro _ rfl
    refine m_z 24 (u64s (List.replicate 4 0)) En703 Hv704 fun ac713 wo714 bk712 En715 Hv716 => ?_
    refine ⟨fun _ => Hv716.pk [0, 1, 3], ?_⟩
    exact h_to hG (by kernel_rfl) (nd680 _ _ bk712 (En715.sb) (Hv716.pk [0, 1, 2, 3, 4]))
  have nd717 : ∀ (ac : Act) (wo : World) (bk601 : Nat), Env ac 39 [(0, .int .i64 f), (6, pt bk11), (7, pt bk36), (8, pt bk601), (19, .agg (List.toArray (u64s (nd (nv a % mF f))))), (20, .agg (List.toArray (u64s b))), (21, .agg (List.toArray (u64s (nd (mF f)))))] → Ev w [] wo [.box bk1 (u64s a) 24, .box bk6 (u64s b) 24, .box bk11 (u64s (List.replicate 4 0)) 24, .box bk36 (u64s (nd (mF f))) 24, .box bk601 (u64s (List.replicate 4 0)) 24] → G 7 #[true, true, true, true, true, false, false, false, false, false, true, false, false] ac wo := by
   intro ac718 wo719 bk601 En720 Hv721
   refine h_from hG ?_
   refine q_t 5 ?_
   refine c_p En720 Hv721 (right_mF _ f hf b hb) fun ac726 wo723 En727 Hv728 => ?_
   refine ⟨fun _ => Hv728.pk [0, 1, 3], ?_⟩
   refine q_t 6 ?_
   refine c_p En727 Hv728 (plus_nd_go _ (nv a % mF f) (nv b % mF f) (mod_lt_w hf) (mod_lt_w hf)) fun ac733 wo730 En734 Hv735 => ?_
   refine ⟨fun _ => Hv735.pk [0, 1, 3], ?_⟩
   refine q_s [7,8,9] [] 2 En734 (Hv735.pk [0, 1, 3]) fun ac736 En737 => ?_
   refine q_t 11 ?_
   refine m_g 4 0 4 (u64s (nd (nv a % mF f + nv b % mF f))) (u64s (nd (nv a % mF f + nv b % mF f))) [.box bk1 (u64s a) 24, .box bk6 (u64s b) 24, .box bk11 (u64s (List.replicate 4 0)) 24, .box bk36 (u64s (nd (mF f))) 24, .box bk601 (u64s (nd (nv a % mF f + nv b % mF f))) 24] En737 Hv735 rfl (u64s_lenh (nds_len _ _)) (by rw [(u64s_lenh (List.length_replicate))]; decide) (u64s_one _) (store_whole (u64s_lenh (List.length_replicate))) rfl fun ac738 wo739 En740 Hv741 => ?_
   refine ⟨fun _ => Hv741.pk [0, 1, 3], ?_⟩
   refine q_s [12] [] 0 En740 (Hv741.pk [0, 1, 3]) fun ac742 En743 => ?_
   exact h_e ⟨bk601, En743.sb, Hv741.pk [2, 3, 4]⟩
  have nd744 : ∀ (ac : Act) (wo : World), Env ac 39 [(0, .int .i64 f), (6, pt bk11), (7, pt bk36), (19, .agg (List.toArray (u64s (nd (nv a % mF f))))), (20, .agg (List.toArray (u64s b))), (21, .agg (List.toArray (u64s (nd (mF f)))))] → Ev w [] wo [.box bk1 (u64s a) 24, .box bk6 (u64s b) 24, .box bk11 (u64s (List.replicate 4 0)) 24, .box bk36 (u64s (nd (mF f))) 24] → G 8 #[true, true, true, true, true, false, false, false, false, false, false, false, false] ac wo := by
   intro ac745 wo746 En747 Hv748
   refine h_from hG ?_
   refine h_ways [5, 10] (by kernel_rfl) rfl ?_
   refine ⟨?_, ?_, trivial⟩
   ·
    rintro _ rfl
    refine c_p En747 Hv748 (right_mF _ f hf b hb) fun ac753 wo750 En754 Hv755 => ?_
    refine ⟨fun _ => Hv755.pk [0, 1, 3], ?_⟩
    exact h_to hG (by kernel_rfl) (nd700 _ _ (En754.sb) (Hv755.pk [0, 1, 2, 3]))
   ·
    rintro _ rfl
    refine m_z 24 (u64s (List.replicate 4 0)) En747 Hv748 fun ac757 wo758 bk756 En759 Hv760 => ?_
    refine ⟨fun _ => Hv760.pk [0, 1, 3], ?_⟩
    exact h_to hG (by kernel_rfl) (nd717 _ _ bk756 (En759.sb) (Hv760.pk [0, 1, 2, 3, 4]))
  have nd761 : ∀ (ac : Act) (wo : World) (bk628 : Nat), Env ac 39 [(0, .int .i64 f), (6, pt bk11), (7, pt bk36), (8, pt bk628), (17, .agg (List.toArray (u64s a))), (18, .agg (List.toArray (u64s (nd (mF f))))), (20, .agg (List.toArray (u64s b))), (21, .agg (List.toArray (u64s (nd (mF f)))))] → Ev w [] wo [.box bk1 (u64s a) 24, .box bk6 (u64s b) 24, .box bk11 (u64s (List.replicate 4 0)) 24, .box bk36 (u64s (nd (mF f))) 24, .box bk628 (u64s (List.replicate 4 0)) 24] → G 8 #[true, true, false, true, true, false, false, false, false, false, true, false, false] ac wo := by
   intro ac762 wo763 bk628 En764 Hv765
   refine h_from hG ?_
   refine q_t 2 ?_
   refine c_p En764 Hv765 (right_mF _ f hf a ha) fun ac770 wo767 En771 Hv772 => ?_
   refine ⟨fun _ => Hv772.pk [0, 1, 3], ?_⟩
   refine q_t 5 ?_
   refine c_p En771 Hv772 (right_mF _ f hf b hb) fun ac777 wo774 En778 Hv779 => ?_
   refine ⟨fun _ => Hv779.pk [0, 1, 3], ?_⟩
   refine q_t 6 ?_
   refine c_p En778 Hv779 (plus_nd_go _ (nv a % mF f) (nv b % mF f) (mod_lt_w hf) (mod_lt_w hf)) fun ac784 wo781 En785 Hv786 => ?_
   refine ⟨fun _ => Hv786.pk [0, 1, 3], ?_⟩
   refine q_s [7,8,9] [] 2 En785 (Hv786.pk [0, 1, 3]) fun ac787 En788 => ?_
   refine q_t 11 ?_
   refine m_g 4 0 4 (u64s (nd (nv a % mF f + nv b % mF f))) (u64s (nd (nv a % mF f + nv b % mF f))) [.box bk1 (u64s a) 24, .box bk6 (u64s b) 24, .box bk11 (u64s (List.replicate 4 0)) 24, .box bk36 (u64s (nd (mF f))) 24, .box bk628 (u64s (nd (nv a % mF f + nv b % mF f))) 24] En788 Hv786 rfl (u64s_lenh (nds_len _ _)) (by rw [(u64s_lenh (List.length_replicate))]; decide) (u64s_one _) (store_whole (u64s_lenh (List.length_replicate))) rfl fun ac789 wo790 En791 Hv792 => ?_
   refine ⟨fun _ => Hv792.pk [0, 1, 3], ?_⟩
   refine q_s [12] [] 0 En791 (Hv792.pk [0, 1, 3]) fun ac793 En794 => ?_
   exact h_e ⟨bk628, En794.sb, Hv792.pk [2, 3, 4]⟩
  refine h_from hG ?_
  refine q_r 0 (s := Instr.loadAt 24 (pt bk1)) (v := .agg (List.toArray (u64s a))) En43 (fun w hS => run_loadAgg2 (m := 4) (cs := u64s a) (u64s_lenh ha) (by kernel_rfl) (by kernel_rfl) (hS.heap.cells (k := 0) (off := 0) (m := 4) rfl (load_whole (u64s_lenh ha)))) (wo45.pk [0, 1, 3]) fun ac795 En796 => ?_
  refine q_r 1 (s := Instr.loadAt 24 (pt bk36)) (v := .agg (List.toArray (u64s (nd (mF f))))) En796 (fun w hS => run_loadAgg2 (m := 4) (cs := u64s (nd (mF f))) (u64s_lenh (nds_len _ _)) (by kernel_rfl) (by kernel_rfl) (hS.heap.cells (k := 2) (off := 0) (m := 4) rfl (load_whole (u64s_lenh (nds_len _ _))))) (wo45.pk [0, 1, 3]) fun ac797 En798 => ?_
  refine q_r 3 (s := Instr.loadAt 24 (pt bk6)) (v := .agg (List.toArray (u64s b))) En798 (fun w hS => run_loadAgg2 (m := 4) (cs := u64s b) (u64s_lenh hb) (by kernel_rfl) (by kernel_rfl) (hS.heap.cells (k := 1) (off := 0) (m := 4) rfl (load_whole (u64s_lenh hb)))) (wo45.pk [0, 1, 3]) fun ac799 En800 => ?_
  refine q_r 4 (s := Instr.loadAt 24 (pt bk36)) (v := .agg (List.toArray (u64s (nd (mF f))))) En800 (fun w hS => run_loadAgg2 (m := 4) (cs := u64s (nd (mF f))) (u64s_lenh (nds_len _ _)) (by kernel_rfl) (by kernel_rfl) (hS.heap.cells (k := 2) (off := 0) (m := 4) rfl (load_whole (u64s_lenh (nds_len _ _))))) (wo45.pk [0, 1, 3]) fun ac801 En802 => ?_
  refine h_ways [2, 10] (by kernel_rfl) rfl ?_
  refine ⟨?_, ?_, trivial⟩
  ·
   rintro _ rfl
   refine c_p En802 wo45 (right_mF _ f hf a ha) fun ac807 wo804 En808 Hv809 => ?_
   refine ⟨fun _ => Hv809.pk [0, 1, 3], ?_⟩
   exact h_to hG (by kernel_rfl) (nd744 _ _ (En808.sb) (Hv809.pk [0, 1, 2, 3]))
  ·
   rintro _ rfl
   refine m_z 24 (u64s (List.replicate 4 0)) En802 wo45 fun ac811 wo812 bk810 En813 Hv814 => ?_
   refine ⟨fun _ => Hv814.pk [0, 1, 3], ?_⟩
   exact h_to hG (by kernel_rfl) (nd761 _ _ bk810 (En813.sb) (Hv814.pk [0, 1, 2, 3, 4]))
 rintro ac815 wo816 ⟨bk570, En817, Hv818⟩
 refine then_normal ?_
 refine wp_seq ?_
 refine wp_seq ?_
 refine region_from ?_
 refine d_k [0,6,7,8,28] [(1, g_b (show (((UInt64.toNat (u1 (W256 ≤ nv a % mF f + nv b % mF f)) : Nat) : Int) == (1 : Int)) = decide (W256 ≤ nv a % mF f + nv b % mF f) from u1_one _))] 3 En817 fun ac819 En820 => ?_
 rcases Bool.eq_false_or_eq_true (decide (W256 ≤ nv a % mF f + nv b % mF f)) with hb821 | hb821
 ·
  have En822 := En820.fx (t := 28) (congrArg Value.bool hb821)
  have hp823 : W256 ≤ nv a % mF f + nv b % mF f := of_decide_eq_true hb821
  refine d_e [0,6,7,8,31] [] En822 fun ac824 En825 => ?_
  refine then_normal ?_
  refine c_t En825 ?_
  refine region_from ?_
  refine f_o ?_
  refine m_a 2 0 4 (u64s (nd (nv a % mF f + nv b % mF f))) En825 Hv818 rfl (load_whole (u64s_lenh (nds_len _ _))) (u64s_lenh (nds_len _ _)) fun ac826 En827 => ?_
  refine f_o ?_
  refine m_a 1 0 4 (u64s (nd (mF f))) En827 Hv818 rfl (load_whole (u64s_lenh (nds_len _ _))) (u64s_lenh (nds_len _ _)) fun ac828 En829 => ?_
  refine f_o ?_
  refine c_p En829 Hv818 (minus_go _ (nd (nv a % mF f + nv b % mF f)) (nd (mF f)) (nds_len _ _) (nds_len _ _)) fun ac834 wo831 En835 Hv836 => ?_
  refine d_k [0,6,7,8,36] [] 6 En835 fun ac837 En838 => ?_
  refine f_o ?_
  refine m_g 2 0 4 (u64s (nd (nv (nd (nv a % mF f + nv b % mF f)) + W256 - nv (nd (mF f))))) (u64s (nd (nv (nd (nv a % mF f + nv b % mF f)) + W256 - nv (nd (mF f))))) [.box bk11 (u64s (List.replicate 4 0)) 24, .box bk36 (u64s (nd (mF f))) 24, .box bk570 (u64s (nd (nv (nd (nv a % mF f + nv b % mF f)) + W256 - nv (nd (mF f))))) 24] En838 Hv836 rfl (u64s_lenh (nds_len _ _)) (by rw [(u64s_lenh (nds_len _ _))]; decide) (u64s_one _) (store_whole (u64s_lenh (nds_len _ _))) rfl fun ac839 wo840 En841 Hv842 => ?_
  refine f_e ?_
  refine then_normal ?_
  refine wp_seq ?_
  refine region_from ?_
  refine f_o ?_
  refine m_a 2 0 4 (u64s (nd (nv (nd (nv a % mF f + nv b % mF f)) + W256 - nv (nd (mF f))))) En841 Hv842 rfl (load_whole (u64s_lenh (nds_len _ _))) (u64s_lenh (nds_len _ _)) fun ac843 En844 => ?_
  refine f_o ?_
  refine m_g 0 0 4 (u64s (nd (nv (nd (nv a % mF f + nv b % mF f)) + W256 - nv (nd (mF f))))) (u64s (nd (nv (nd (nv a % mF f + nv b % mF f)) + W256 - nv (nd (mF f))))) [.box bk11 (u64s (nd (nv (nd (nv a % mF f + nv b % mF f)) + W256 - nv (nd (mF f))))) 24, .box bk36 (u64s (nd (mF f))) 24, .box bk570 (u64s (nd (nv (nd (nv a % mF f + nv b % mF f)) + W256 - nv (nd (mF f))))) 24] En844 Hv842 rfl (u64s_lenh (nds_len _ _)) (by rw [(u64s_lenh (List.length_replicate))]; decide) (u64s_one _) (store_whole (u64s_lenh (List.length_replicate))) rfl fun ac845 wo846 En847 Hv848 => ?_
  refine f_e ?_
  refine then_normal ?_
  refine wp_ret ?_
  refine d_cell1 (v := .agg (List.toArray (u64s (nd (nv (nd (nv a % mF f + nv b % mF f)) + W256 - nv (nd (mF f))))))) (t := 6) (T := 24) (ad := ⟨bk11, 0, none⟩) En847 (by kernel_rfl) (by kernel_rfl) (Ev.cellAgg (t := 24) (k := 0) (off := 0) (m := 4) (xs := u64s (nd (nv (nd (nv a % mF f + nv b % mF f)) + W256 - nv (nd (mF f))))) Hv848 rfl (load_whole (u64s_lenh (nds_len _ _))) (u64s_lenh (nds_len _ _)) (by kernel_rfl) (by kernel_rfl)) ?_
  have e : nd (nv (nd (nv a % mF f + nv b % mF f)) + W256 - nv (nd (mF f))) = nd (addM f (nv a) (nv b)) := by rw [← add_mM]; first | exact add_fin1 hla hlb hmw (by first | (left; assumption) | (right; assumption)) | exact add_fin2 hmw (by assumption) (by assumption)
  exact ⟨by rw [e], Hv848.pk []⟩
 ·
  have En849 := En820.fx (t := 28) (congrArg Value.bool hb821)
  have hp850 : ¬ (W256 ≤ nv a % mF f + nv b % mF f) := of_decide_eq_false hb821
  refine f_o ?_
  refine c_l [2,1] (M := [.box bk570 (u64s (nd (nv a % mF f + nv b % mF f))) 24, .box bk36 (u64s (nd (mF f))) 24]) En849 Hv818 (fun hM851 => less_go _ bk570 bk36 (nd (nv a % mF f + nv b % mF f)) (nd (mF f)) (nds_len _ _) (nds_len _ _) hM851) ?_
  rintro _ wo852 ⟨rfl, he853⟩
  refine ⟨_, _, [.box bk570 (u64s (nd (nv a % mF f + nv b % mF f))) 24, .box bk36 (u64s (nd (mF f))) 24, .box bk11 (u64s (List.replicate 4 0)) 24], rfl, he853, by kernel_rfl, fun ac855 En856 Hv857 => ?_⟩
  refine d_e [0,6,7,8,31] [] En856 fun ac858 En859 => ?_
  refine then_normal ?_
  refine cond_at En859 (t := !(decide (nv (nd (nv a % mF f + nv b % mF f)) < nv (nd (mF f))))) (by kernel_rfl) (fun hc860 => ?_) (fun hc860 => ?_)
  ·
   replace hc860 : ¬ (nv (nd (nv a % mF f + nv b % mF f)) < nv (nd (mF f))) := by simpa using hc860
   refine region_from ?_
   refine f_o ?_
   refine m_a 0 0 4 (u64s (nd (nv a % mF f + nv b % mF f))) En859 Hv857 rfl (load_whole (u64s_lenh (nds_len _ _))) (u64s_lenh (nds_len _ _)) fun ac861 En862 => ?_
   refine f_o ?_
   refine m_a 1 0 4 (u64s (nd (mF f))) En862 Hv857 rfl (load_whole (u64s_lenh (nds_len _ _))) (u64s_lenh (nds_len _ _)) fun ac863 En864 => ?_
   refine f_o ?_
   refine c_p En864 Hv857 (minus_go _ (nd (nv a % mF f + nv b % mF f)) (nd (mF f)) (nds_len _ _) (nds_len _ _)) fun ac869 wo866 En870 Hv871 => ?_
   refine d_k [0,6,7,8,36] [] 6 En870 fun ac872 En873 => ?_
   refine f_o ?_
   refine m_g 0 0 4 (u64s (nd (nv (nd (nv a % mF f + nv b % mF f)) + W256 - nv (nd (mF f))))) (u64s (nd (nv (nd (nv a % mF f + nv b % mF f)) + W256 - nv (nd (mF f))))) [.box bk570 (u64s (nd (nv (nd (nv a % mF f + nv b % mF f)) + W256 - nv (nd (mF f))))) 24, .box bk36 (u64s (nd (mF f))) 24, .box bk11 (u64s (List.replicate 4 0)) 24] En873 Hv871 rfl (u64s_lenh (nds_len _ _)) (by rw [(u64s_lenh (nds_len _ _))]; decide) (u64s_one _) (store_whole (u64s_lenh (nds_len _ _))) rfl fun ac874 wo875 En876 Hv877 => ?_
   refine f_e ?_
   refine then_normal ?_
   refine wp_seq ?_
   refine region_from ?_
   refine f_o ?_
   refine m_a 0 0 4 (u64s (nd (nv (nd (nv a % mF f + nv b % mF f)) + W256 - nv (nd (mF f))))) En876 Hv877 rfl (load_whole (u64s_lenh (nds_len _ _))) (u64s_lenh (nds_len _ _)) fun ac878 En879 => ?_
   refine f_o ?_
   refine m_g 2 0 4 (u64s (nd (nv (nd (nv a % mF f + nv b % mF f)) + W256 - nv (nd (mF f))))) (u64s (nd (nv (nd (nv a % mF f + nv b % mF f)) + W256 - nv (nd (mF f))))) [.box bk570 (u64s (nd (nv (nd (nv a % mF f + nv b % mF f)) + W256 - nv (nd (mF f))))) 24, .box bk36 (u64s (nd (mF f))) 24, .box bk11 (u64s (nd (nv (nd (nv a % mF f + nv b % mF f)) + W256 - nv (nd (mF f))))) 24] En879 Hv877 rfl (u64s_lenh (nds_len _ _)) (by rw [(u64s_lenh (List.length_replicate))]; decide) (u64s_one _) (store_whole (u64s_lenh (List.length_replicate))) rfl fun ac880 wo881 En882 Hv883 => ?_
   refine f_e ?_
   refine then_normal ?_
   refine wp_ret ?_
   refine d_cell1 (v := .agg (List.toArray (u64s (nd (nv (nd (nv a % mF f + nv b % mF f)) + W256 - nv (nd (mF f))))))) (t := 6) (T := 24) (ad := ⟨bk11, 0, none⟩) En882 (by kernel_rfl) (by kernel_rfl) (Ev.cellAgg (t := 24) (k := 2) (off := 0) (m := 4) (xs := u64s (nd (nv (nd (nv a % mF f + nv b % mF f)) + W256 - nv (nd (mF f))))) Hv883 rfl (load_whole (u64s_lenh (nds_len _ _))) (u64s_lenh (nds_len _ _)) (by kernel_rfl) (by kernel_rfl)) ?_
   have e : nd (nv (nd (nv a % mF f + nv b % mF f)) + W256 - nv (nd (mF f))) = nd (addM f (nv a) (nv b)) := by rw [← add_mM]; first | exact add_fin1 hla hlb hmw (by first | (left; assumption) | (right; assumption)) | exact add_fin2 hmw (by assumption) (by assumption)
   exact ⟨by rw [e], Hv883.pk []⟩
  ·
   replace hc860 : nv (nd (nv a % mF f + nv b % mF f)) < nv (nd (mF f)) := by simpa using hc860
   refine wp_skip ?_
   refine then_normal ?_
   refine wp_seq ?_
   refine region_from ?_
   refine f_o ?_
   refine m_a 0 0 4 (u64s (nd (nv a % mF f + nv b % mF f))) En859 Hv857 rfl (load_whole (u64s_lenh (nds_len _ _))) (u64s_lenh (nds_len _ _)) fun ac884 En885 => ?_
   refine f_o ?_
   refine m_g 2 0 4 (u64s (nd (nv a % mF f + nv b % mF f))) (u64s (nd (nv a % mF f + nv b % mF f))) [.box bk570 (u64s (nd (nv a % mF f + nv b % mF f))) 24, .box bk36 (u64s (nd (mF f))) 24, .box bk11 (u64s (nd (nv a % mF f + nv b % mF f))) 24] En885 Hv857 rfl (u64s_lenh (nds_len _ _)) (by rw [(u64s_lenh (List.length_replicate))]; decide) (u64s_one _) (store_whole (u64s_lenh (List.length_replicate))) rfl fun ac886 wo887 En888 Hv889 => ?_
   refine f_e ?_
   refine then_normal ?_
   refine wp_ret ?_
   refine d_cell1 (v := .agg (List.toArray (u64s (nd (nv a % mF f + nv b % mF f))))) (t := 6) (T := 24) (ad := ⟨bk11, 0, none⟩) En888 (by kernel_rfl) (by kernel_rfl) (Ev.cellAgg (t := 24) (k := 2) (off := 0) (m := 4) (xs := u64s (nd (nv a % mF f + nv b % mF f))) Hv889 rfl (load_whole (u64s_lenh (nds_len _ _))) (u64s_lenh (nds_len _ _)) (by kernel_rfl) (by kernel_rfl)) ?_
   have e : nd (nv a % mF f + nv b % mF f) = nd (addM f (nv a) (nv b)) := by rw [← add_mM]; first | exact add_fin1 hla hlb hmw (by first | (left; assumption) | (right; assumption)) | exact add_fin2 hmw (by assumption) (by assumption)
   exact ⟨by rw [e], Hv889.pk []⟩

theorem sub_go (w : World) (f : Int) (hf : f = 1 ∨ f = 2 ∨ f = 3 ∨ f = 4) (a b : List UInt64) (ha : List.length a = 4) (hb : List.length b = 4) : Calls Try.prog 63 #[.int .i64 f, .agg (List.toArray (u64s a)), .agg (List.toArray (u64s b))] w fun e w' => e = .returned (.agg (List.toArray (u64s (nd (subM f (nv a) (nv b)))))) ∧ Ev w [] w' [] := by
 have hla : nv a % mF f < mF f := Nat.mod_lt _ (Nat.lt_trans Nat.zero_lt_one (mF_pos hf))
 have hlb : nv b % mF f < mF f := Nat.mod_lt _ (Nat.lt_trans Nat.zero_lt_one (mF_pos hf))
 have hmw := mF_lt f
 refine d_0 [(0, .int .i64 f), (1, .agg (List.toArray (u64s a))), (2, .agg (List.toArray (u64s b)))] 35 Go.Proofs.Try.func63 Go.Proofs.Try.ntmps63 (Heap.nil _) fun act0 En0 Hv0 => ?_
 refine wp_seq ?_
 refine region_from ?_
 refine f_o ?_
 refine m_m 24 (u64s a) En0 Hv0 fun ac2 wo3 bk1 En4 Hv5 => ?_
 refine f_o ?_
 refine m_m 24 (u64s b) En4 Hv5 fun ac7 wo8 bk6 En9 Hv10 => ?_
 refine f_o ?_
 refine m_z 24 (u64s (List.replicate 4 0)) En9 Hv10 fun ac12 wo13 bk11 En14 Hv15 => ?_
 refine f_e ?_
 refine then_normal ?_
 refine wp_seq ?_
 refine wp_seq ?_
 refine region_from ?_
 refine d_k [0,4,5,6,10] [] 1 En14 fun ac16 En17 => ?_
 refine f_o ?_
 refine c_p En17 Hv15 (is_go_yes _ f hf) fun ac22 wo19 En23 Hv24 => ?_
 refine d_e [0,4,5,6,12] [] En23 fun ac25 En26 => ?_
 refine then_normal ?_
 refine c_f En26 ?_
 refine wp_skip ?_
 refine then_normal ?_
 refine wp_seq ?_
 refine region_from ?_
 refine d_k [0,4,5,6,14] [] 1 En26 fun ac27 En28 => ?_
 refine f_o ?_
 refine c_p En28 Hv24 (modulus_go _ f) fun ac33 wo30 En34 Hv35 => ?_
 refine f_o ?_
 refine m_z 24 (u64s (List.replicate 4 0)) En34 Hv35 fun ac37 wo38 bk36 En39 Hv40 => ?_
 refine f_o ?_
 refine m_g 3 0 4 (u64s (nd (mF f))) (u64s (nd (mF f))) [.box bk1 (u64s a) 24, .box bk6 (u64s b) 24, .box bk11 (u64s (List.replicate 4 0)) 24, .box bk36 (u64s (nd (mF f))) 24] En39 Hv40 rfl (u64s_lenh (nds_len _ _)) (by rw [(u64s_lenh (List.length_replicate))]; decide) (u64s_one _) (store_whole (u64s_lenh (List.length_replicate))) rfl fun ac41 wo42 En43 Hv44 => ?_
 refine f_e ?_
 refine then_normal ?_
 refine wp_seq ?_
 refine r_c (fun ac wo => ∃ (bk570 : Nat), Env ac 35 [(0, .int .i64 f), (6, pt bk11), (7, pt bk36), (8, pt bk570), (9, uv64 (u1 (nv a % mF f < nv b % mF f)))] ∧ Ev w [] wo [.box bk11 (u64s (List.replicate 4 0)) 24, .box bk36 (u64s (nd (mF f))) 24, .box bk570 (u64s (nd (nv a % mF f + W256 - (nv b % mF f)))) 24]) ?_ ?_
 ·
  refine h_s (fun wv => Ev w [] wv [.box bk1 (u64s a) 24, .box bk6 (u64s b) 24, .box bk36 (u64s (nd (mF f))) 24]) [] 13 ?_
  have wo45 := Hv44.trans (Ev.drew Hv44.heap)
  refine h_name fun G hG => ?_
  have nd662 : ∀ (ac : Act) (wo : World), Env ac 35 [(0, .int .i64 f), (6, pt bk11), (7, pt bk36), (23, .tuple #[.agg (List.toArray (u64s (nd (nv a % mF f + W256 - (nv b % mF f))))), uv64 (u1 (nv a % mF f < nv b % mF f))])] → Ev w [] wo [.box bk1 (u64s a) 24, .box bk6 (u64s b) 24, .box bk11 (u64s (List.replicate 4 0)) 24, .box bk36 (u64s (nd (mF f))) 24] → G 6 #[true, true, true, true, true, true, true, false, false, false, false, false, false] ac wo := by
   intro ac663 wo664 En665 Hv666
   refine h_from hG ?_
   refine q_s [7,8,9] [] 3 En665 (Hv666.pk [0, 1, 3]) fun ac667 En668 => ?_
   refine q_t 10 ?_
   refine m_z 24 (u64s (List.replicate 4 0)) En668 Hv666 fun ac670 wo671 bk669 En672 Hv673 => ?_
   refine ⟨fun _ => Hv673.pk [0, 1, 3], ?_⟩
   refine q_t 11 ?_
   refine m_g 4 0 4 (u64s (nd (nv a % mF f + W256 - (nv b % mF f)))) (u64s (nd (nv a % mF f + W256 - (nv b % mF f)))) [.box bk1 (u64s a) 24, .box bk6 (u64s b) 24, .box bk11 (u64s (List.replicate 4 0)) 24, .box bk36 (u64s (nd (mF f))) 24, .box bk669 (u64s (nd (nv a % mF f + W256 - (nv b % mF f)))) 24] En672 Hv673 rfl (u64s_lenh (nds_len _ _)) (by rw [(u64s_lenh (List.length_replicate))]; decide) (u64s_one _) (store_whole (u64s_lenh (List.length_replicate))) rfl fun ac674 wo675 En676 Hv677 => ?_
   refine ⟨fun _ => Hv677.pk [0, 1, 3], ?_⟩
   refine q_s [12] [] 0 En676 (Hv677.pk [0, 1, 3]) fun ac678 En679 => ?_
   exact h_e ⟨bk669, En679.sb, Hv677.pk [2, 3, 4]⟩
  have nd680 : ∀ (ac : Act) (wo : World) (bk581 : Nat), Env ac 35 [(0, .int .i64 f), (6, pt bk11), (7, pt bk36), (8, pt bk581), (19, .agg (List.toArray (u64s (nd (nv a % mF f))))), (22, .agg (List.toArray (u64s (nd (nv b % mF f)))))] → Ev w [] wo [.box bk1 (u64s a) 24, .box bk6 (u64s b) 24, .box bk11 (u64s (List.replicate 4 0)) 24, .box bk36 (u64s (nd (mF f))) 24, .box bk581 (u64s (List.replicate 4 0)) 24] → G 6 #[true, true, true, true, true, true, false, false, false, false, true, false, false] ac wo := by
   intro ac681 wo682 bk581 En683 Hv684
   refine h_from hG ?_
   refine q_t 6 ?_
   refine c_p En683 Hv684 (minus_nd_go _ (nv a % mF f) (nv b % mF f) (mod_lt_w hf) (mod_lt_w hf)) fun ac689 wo686 En690 Hv691 => ?_
   refine ⟨fun _ => Hv691.pk [0, 1, 3], ?_⟩
   refine q_s [7,8,9] [] 2 En690 (Hv691.pk [0, 1, 3]) fun ac692 En693 => ?_
   refine q_t 11 ?_
   refine m_g 4 0 4 (u64s (nd (nv a % mF f + W256 - (nv b % mF f)))) (u64s (nd (nv a % mF f + W256 - (nv b % mF f)))) [.box bk1 (u64s a) 24, .box bk6 (u64s b) 24, .box bk11 (u64s (List.replicate 4 0)) 24, .box bk36 (u64s (nd (mF f))) 24, .box bk581 (u64s (nd (nv a % mF f + W256 - (nv b % mF f)))) 24] En693 Hv691 rfl (u64s_lenh (nds_len _ _)) (by rw [(u64s_lenh (List.length_replicate))]; decide) (u64s_one _) (store_whole (u64s_lenh (List.length_replicate))) rfl fun ac694 wo695 En696 Hv697 => ?_
   refine ⟨fun _ => Hv697.pk [0, 1, 3], ?_⟩
   refine q_s [12] [] 0 En696 (Hv697.pk [0, 1, 3]) fun ac698 En699 => ?_
   exact h_e ⟨bk581, En699.sb, Hv697.pk [2, 3, 4]⟩
  have nd700 : ∀ (ac : Act) (wo : World), Env ac 35 [(0, .int .i64 f), (6, pt bk11), (7, pt bk36), (19, .agg (List.toArray (u64s (nd (nv a % mF f))))), (22, .agg (List.toArray (u64s (nd (nv b % mF f)))))] → Ev w [] wo [.box bk1 (u64s a) 24, .box bk6 (u64s b) 24, .box bk11 (u64s (List.replicate 4 0)) 24, .box bk36 (u64s (nd (mF f))) 24] → G 7 #[true, true, true, true, true, true, false, false, false, false, false, false, false] ac wo := by
   intro ac701 wo702 En703 Hv704
   refine h_from hG ?_
   refine h_ways [6, 10] (by kernel_rfl) rfl ?_
   refine ⟨?_, ?_, trivial⟩
   ·
    rintro _ rfl
    refine c_p En703 Hv704 (minus_nd_go _ (nv a % mF f) (nv b % mF f) (mod_lt_w hf) (mod_lt_w hf)) fun ac709 wo706 En710 Hv711 => ?_
    refine ⟨fun _ => Hv711.pk [0, 1, 3], ?_⟩
    exact h_to hG (by kernel_rfl) (nd662 _ _ (En710.sb) (Hv711.pk [0, 1, 2, 3]))
   ·
    rintro _ rfl
    refine m_z 24 (u64s (List.replicate 4 0)) En703 Hv704 fun ac713 wo714 bk712 En715 Hv716 => ?_
    refine ⟨fun _ => Hv716.pk [0, 1, 3], ?_⟩
    exact h_to hG (by kernel_rfl) (nd680 _ _ bk712 (En715.sb) (Hv716.pk [0, 1, 2, 3, 4]))
  have nd717 : ∀ (ac : Act) (wo : World) (bk601 : Nat), Env ac 35 [(0, .int .i64 f), (6, pt bk11), (7, pt bk36), (8, pt bk601), (19, .agg (List.toArray (u64s (nd (nv a % mF f))))), (20, .agg (List.toArray (u64s b))), (21, .agg (List.toArray (u64s (nd (mF f)))))] → Ev w [] wo [.box bk1 (u64s a) 24, .box bk6 (u64s b) 24, .box bk11 (u64s (List.replicate 4 0)) 24, .box bk36 (u64s (nd (mF f))) 24, .box bk601 (u64s (List.replicate 4 0)) 24] → G 7 #[true, true, true, true, true, false, false, false, false, false, true, false, false] ac wo := by
   intro ac718 wo719 bk601 En720 Hv721
   refine h_from hG ?_
   refine q_t 5 ?_
   refine c_p En720 Hv721 (right_mF _ f hf b hb) fun ac726 wo723 En727 Hv728 => ?_
   refine ⟨fun _ => Hv728.pk [0, 1, 3], ?_⟩
   refine q_t 6 ?_
   refine c_p En727 Hv728 (minus_nd_go _ (nv a % mF f) (nv b % mF f) (mod_lt_w hf) (mod_lt_w hf)) fun ac733 wo730 En734 Hv735 => ?_
   refine ⟨fun _ => Hv735.pk [0, 1, 3], ?_⟩
   refine q_s [7,8,9] [] 2 En734 (Hv735.pk [0, 1, 3]) fun ac736 En737 => ?_
   refine q_t 11 ?_
   refine m_g 4 0 4 (u64s (nd (nv a % mF f + W256 - (nv b % mF f)))) (u64s (nd (nv a % mF f + W256 - (nv b % mF f)))) [.box bk1 (u64s a) 24, .box bk6 (u64s b) 24, .box bk11 (u64s (List.replicate 4 0)) 24, .box bk36 (u64s (nd (mF f))) 24, .box bk601 (u64s (nd (nv a % mF f + W256 - (nv b % mF f)))) 24] En737 Hv735 rfl (u64s_lenh (nds_len _ _)) (by rw [(u64s_lenh (List.length_replicate))]; decide) (u64s_one _) (store_whole (u64s_lenh (List.length_replicate))) rfl fun ac738 wo739 En740 Hv741 => ?_
   refine ⟨fun _ => Hv741.pk [0, 1, 3], ?_⟩
   refine q_s [12] [] 0 En740 (Hv741.pk [0, 1, 3]) fun ac742 En743 => ?_
   exact h_e ⟨bk601, En743.sb, Hv741.pk [2, 3, 4]⟩
  have nd744 : ∀ (ac : Act) (wo : World), Env ac 35 [(0, .int .i64 f), (6, pt bk11), (7, pt bk36), (19, .agg (List.toArray (u64s (nd (nv a % mF f))))), (20, .agg (List.toArray (u64s b))), (21, .agg (List.toArray (u64s (nd (mF f)))))] → Ev w [] wo [.box bk1 (u64s a) 24, .box bk6 (u64s b) 24, .box bk11 (u64s (List.replicate 4 0)) 24, .box bk36 (u64s (nd (mF f))) 24] → G 8 #[true, true, true, true, true, false, false, false, false, false, false, false, false] ac wo := by
   intro ac745 wo746 En747 Hv748
   refine h_from hG ?_
   refine h_ways [5, 10] (by kernel_rfl) rfl ?_
   refine ⟨?_, ?_, trivial⟩
   ·
    rintro _ rfl
    refine c_p En747 Hv748 (right_mF _ f hf b hb) fun ac753 wo750 En754 Hv755 => ?_
    refine ⟨fun _ => Hv755.pk [0, 1, 3], ?_⟩
    exact h_to hG (by kernel_rfl) (nd700 _ _ (En754.sb) (Hv755.pk [0, 1, 2, 3]))
   ·
    rintro _ rfl
    refine m_z 24 (u64s (List.replicate 4 0)) En747 Hv748 fun ac757 wo758 bk756 En759 Hv760 => ?_
    refine ⟨fun _ => Hv760.pk [0, 1, 3], ?_⟩
    exact h_to hG (by kernel_rfl) (nd717 _ _ bk756 (En759.sb) (Hv760.pk [0, 1, 2, 3, 4]))
  have nd761 : ∀ (ac : Act) (wo : World) (bk628 : Nat), Env ac 35 [(0, .int .i64 f), (6, pt bk11), (7, pt bk36), (8, pt bk628), (17, .agg (List.toArray (u64s a))), (18, .agg (List.toArray (u64s (nd (mF f))))), (20, .agg (List.toArray (u64s b))), (21, .agg (List.toArray (u64s (nd (mF f)))))] → Ev w [] wo [.box bk1 (u64s a) 24, .box bk6 (u64s b) 24, .box bk11 (u64s (List.replicate 4 0)) 24, .box bk36 (u64s (nd (mF f))) 24, .box bk628 (u64s (List.replicate 4 0)) 24] → G 8 #[true, true, false, true, true, false, false, false, false, false, true, false, false] ac wo := by
   intro ac762 wo763 bk628 En764 Hv765
   refine h_from hG ?_
   refine q_t 2 ?_
   refine c_p En764 Hv765 (right_mF _ f hf a ha) fun ac770 wo767 En771 Hv772 => ?_
   refine ⟨fun _ => Hv772.pk [0, 1, 3], ?_⟩
   refine q_t 5 ?_
   refine c_p En771 Hv772 (right_mF _ f hf b hb) fun ac777 wo774 En778 Hv779 => ?_
   refine ⟨fun _ => Hv779.pk [0, 1, 3], ?_⟩
   refine q_t 6 ?_
   refine c_p En778 Hv779 (minus_nd_go _ (nv a % mF f) (nv b % mF f) (mod_lt_w hf) (mod_lt_w hf)) fun ac784 wo781 En785 Hv786 => ?_
   refine ⟨fun _ => Hv786.pk [0, 1, 3], ?_⟩
   refine q_s [7,8,9] [] 2 En785 (Hv786.pk [0, 1, 3]) fun ac787 En788 => ?_
   refine q_t 11 ?_
   refine m_g 4 0 4 (u64s (nd (nv a % mF f + W256 - (nv b % mF f)))) (u64s (nd (nv a % mF f + W256 - (nv b % mF f)))) [.box bk1 (u64s a) 24, .box bk6 (u64s b) 24, .box bk11 (u64s (List.replicate 4 0)) 24, .box bk36 (u64s (nd (mF f))) 24, .box bk628 (u64s (nd (nv a % mF f + W256 - (nv b % mF f)))) 24] En788 Hv786 rfl (u64s_lenh (nds_len _ _)) (by rw [(u64s_lenh (List.length_replicate))]; decide) (u64s_one _) (store_whole (u64s_lenh (List.length_replicate))) rfl fun ac789 wo790 En791 Hv792 => ?_
   refine ⟨fun _ => Hv792.pk [0, 1, 3], ?_⟩
   refine q_s [12] [] 0 En791 (Hv792.pk [0, 1, 3]) fun ac793 En794 => ?_
   exact h_e ⟨bk628, En794.sb, Hv792.pk [2, 3, 4]⟩
  refine h_from hG ?_
  refine q_r 0 (s := Instr.loadAt 24 (pt bk1)) (v := .agg (List.toArray (u64s a))) En43 (fun w hS => run_loadAgg2 (m := 4) (cs := u64s a) (u64s_lenh ha) (by kernel_rfl) (by kernel_rfl) (hS.heap.cells (k := 0) (off := 0) (m := 4) rfl (load_whole (u64s_lenh ha)))) (wo45.pk [0, 1, 3]) fun ac795 En796 => ?_
  refine q_r 1 (s := Instr.loadAt 24 (pt bk36)) (v := .agg (List.toArray (u64s (nd (mF f))))) En796 (fun w hS => run_loadAgg2 (m := 4) (cs := u64s (nd (mF f))) (u64s_lenh (nds_len _ _)) (by kernel_rfl) (by kernel_rfl) (hS.heap.cells (k := 2) (off := 0) (m := 4) rfl (load_whole (u64s_lenh (nds_len _ _))))) (wo45.pk [0, 1, 3]) fun ac797 En798 => ?_
  refine q_r 3 (s := Instr.loadAt 24 (pt bk6)) (v := .agg (List.toArray (u64s b))) En798 (fun w hS => run_loadAgg2 (m := 4) (cs := u64s b) (u64s_lenh hb) (by kernel_rfl) (by kernel_rfl) (hS.heap.cells (k := 1) (off := 0) (m := 4) rfl (load_whole (u64s_lenh hb)))) (wo45.pk [0, 1, 3]) fun ac799 En800 => ?_
  refine q_r 4 (s := Instr.loadAt 24 (pt bk36)) (v := .agg (List.toArray (u64s (nd (mF f))))) En800 (fun w hS => run_loadAgg2 (m := 4) (cs := u64s (nd (mF f))) (u64s_lenh (nds_len _ _)) (by kernel_rfl) (by kernel_rfl) (hS.heap.cells (k := 2) (off := 0) (m := 4) rfl (load_whole (u64s_lenh (nds_len _ _))))) (wo45.pk [0, 1, 3]) fun ac801 En802 => ?_
  refine h_ways [2, 10] (by kernel_rfl) rfl ?_
  refine ⟨?_, ?_, trivial⟩
  ·
   rintro _ rfl
   refine c_p En802 wo45 (right_mF _ f hf a ha) fun ac807 wo804 En808 Hv809 => ?_
   refine ⟨fun _ => Hv809.pk [0, 1, 3], ?_⟩
   exact h_to hG (by kernel_rfl) (nd744 _ _ (En808.sb) (Hv809.pk [0, 1, 2, 3]))
  ·
   rintro _ rfl
   refine m_z 24 (u64s (List.replicate 4 0)) En802 wo45 fun ac811 wo812 bk810 En813 Hv814 => ?_
   refine ⟨fun _ => Hv814.pk [0, 1, 3], ?_⟩
   exact h_to hG (by kernel_rfl) (nd761 _ _ bk810 (En813.sb) (Hv814.pk [0, 1, 2, 3, 4]))
 rintro ac815 wo816 ⟨bk570, En817, Hv818⟩
 refine then_normal ?_
 refine wp_seq ?_
 refine d_s [0,6,7,8,27] [(1, g_b (show (((UInt64.toNat (u1 (nv a % mF f < nv b % mF f)) : Nat) : Int) == (1 : Int)) = decide (nv a % mF f < nv b % mF f) from u1_one _))] En817 fun ac819 En820 => ?_
 refine c_d (nv a % mF f < nv b % mF f) En820 (fun hc821 => ?_) (fun hc821 => ?_)
 ·
  refine region_from ?_
  refine f_o ?_
  refine m_a 2 0 4 (u64s (nd (nv a % mF f + W256 - (nv b % mF f)))) En820 Hv818 rfl (load_whole (u64s_lenh (nds_len _ _))) (u64s_lenh (nds_len _ _)) fun ac822 En823 => ?_
  refine f_o ?_
  refine m_a 1 0 4 (u64s (nd (mF f))) En823 Hv818 rfl (load_whole (u64s_lenh (nds_len _ _))) (u64s_lenh (nds_len _ _)) fun ac824 En825 => ?_
  refine f_o ?_
  refine c_p En825 Hv818 (plus_go _ (nd (nv a % mF f + W256 - (nv b % mF f))) (nd (mF f)) (nds_len _ _) (nds_len _ _)) fun ac830 wo827 En831 Hv832 => ?_
  refine d_k [0,6,7,8,32] [] 6 En831 fun ac833 En834 => ?_
  refine f_o ?_
  refine m_g 2 0 4 (u64s (nd (nv (nd (nv a % mF f + W256 - (nv b % mF f))) + nv (nd (mF f))))) (u64s (nd (nv (nd (nv a % mF f + W256 - (nv b % mF f))) + nv (nd (mF f))))) [.box bk11 (u64s (List.replicate 4 0)) 24, .box bk36 (u64s (nd (mF f))) 24, .box bk570 (u64s (nd (nv (nd (nv a % mF f + W256 - (nv b % mF f))) + nv (nd (mF f))))) 24] En834 Hv832 rfl (u64s_lenh (nds_len _ _)) (by rw [(u64s_lenh (nds_len _ _))]; decide) (u64s_one _) (store_whole (u64s_lenh (nds_len _ _))) rfl fun ac835 wo836 En837 Hv838 => ?_
  refine f_e ?_
  refine then_normal ?_
  refine wp_seq ?_
  refine region_from ?_
  refine f_o ?_
  refine m_a 2 0 4 (u64s (nd (nv (nd (nv a % mF f + W256 - (nv b % mF f))) + nv (nd (mF f))))) En837 Hv838 rfl (load_whole (u64s_lenh (nds_len _ _))) (u64s_lenh (nds_len _ _)) fun ac839 En840 => ?_
  refine f_o ?_
  refine m_g 0 0 4 (u64s (nd (nv (nd (nv a % mF f + W256 - (nv b % mF f))) + nv (nd (mF f))))) (u64s (nd (nv (nd (nv a % mF f + W256 - (nv b % mF f))) + nv (nd (mF f))))) [.box bk11 (u64s (nd (nv (nd (nv a % mF f + W256 - (nv b % mF f))) + nv (nd (mF f))))) 24, .box bk36 (u64s (nd (mF f))) 24, .box bk570 (u64s (nd (nv (nd (nv a % mF f + W256 - (nv b % mF f))) + nv (nd (mF f))))) 24] En840 Hv838 rfl (u64s_lenh (nds_len _ _)) (by rw [(u64s_lenh (List.length_replicate))]; decide) (u64s_one _) (store_whole (u64s_lenh (List.length_replicate))) rfl fun ac841 wo842 En843 Hv844 => ?_
  refine f_e ?_
  refine then_normal ?_
  refine wp_ret ?_
  refine d_cell1 (v := .agg (List.toArray (u64s (nd (nv (nd (nv a % mF f + W256 - (nv b % mF f))) + nv (nd (mF f))))))) (t := 6) (T := 24) (ad := ⟨bk11, 0, none⟩) En843 (by kernel_rfl) (by kernel_rfl) (Ev.cellAgg (t := 24) (k := 0) (off := 0) (m := 4) (xs := u64s (nd (nv (nd (nv a % mF f + W256 - (nv b % mF f))) + nv (nd (mF f))))) Hv844 rfl (load_whole (u64s_lenh (nds_len _ _))) (u64s_lenh (nds_len _ _)) (by kernel_rfl) (by kernel_rfl)) ?_
  have e : nd (nv (nd (nv a % mF f + W256 - (nv b % mF f))) + nv (nd (mF f))) = nd (subM f (nv a) (nv b)) := by first | exact sub_fin1 hla hlb hmw (by assumption) | exact sub_fin2 hla hlb hmw (by assumption)
  exact ⟨by rw [e], Hv844.pk []⟩
 ·
  refine wp_skip ?_
  refine then_normal ?_
  refine wp_seq ?_
  refine region_from ?_
  refine f_o ?_
  refine m_a 2 0 4 (u64s (nd (nv a % mF f + W256 - (nv b % mF f)))) En820 Hv818 rfl (load_whole (u64s_lenh (nds_len _ _))) (u64s_lenh (nds_len _ _)) fun ac845 En846 => ?_
  refine f_o ?_
  refine m_g 0 0 4 (u64s (nd (nv a % mF f + W256 - (nv b % mF f)))) (u64s (nd (nv a % mF f + W256 - (nv b % mF f)))) [.box bk11 (u64s (nd (nv a % mF f + W256 - (nv b % mF f)))) 24, .box bk36 (u64s (nd (mF f))) 24, .box bk570 (u64s (nd (nv a % mF f + W256 - (nv b % mF f)))) 24] En846 Hv818 rfl (u64s_lenh (nds_len _ _)) (by rw [(u64s_lenh (List.length_replicate))]; decide) (u64s_one _) (store_whole (u64s_lenh (List.length_replicate))) rfl fun ac847 wo848 En849 Hv850 => ?_
  refine f_e ?_
  refine then_normal ?_
  refine wp_ret ?_
  refine d_cell1 (v := .agg (List.toArray (u64s (nd (nv a % mF f + W256 - (nv b % mF f)))))) (t := 6) (T := 24) (ad := ⟨bk11, 0, none⟩) En849 (by kernel_rfl) (by kernel_rfl) (Ev.cellAgg (t := 24) (k := 0) (off := 0) (m := 4) (xs := u64s (nd (nv a % mF f + W256 - (nv b % mF f)))) Hv850 rfl (load_whole (u64s_lenh (nds_len _ _))) (u64s_lenh (nds_len _ _)) (by kernel_rfl) (by kernel_rfl)) ?_
  have e : nd (nv a % mF f + W256 - (nv b % mF f)) = nd (subM f (nv a) (nv b)) := by first | exact sub_fin1 hla hlb hmw (by assumption) | exact sub_fin2 hla hlb hmw (by assumption)
  exact ⟨by rw [e], Hv850.pk []⟩

theorem rightq_go (w : World) (f : Int) (a : List UInt64) (ha : List.length a = 4) : Calls Try.prog 41 #[.int .i64 f, .agg (List.toArray (u64s a))] w fun e w' => e = .returned (.bool (decide (nv a < mF f))) ∧ Ev w [] w' [] := by
 refine d_0 [(0, .int .i64 f), (1, .agg (List.toArray (u64s a)))] 9 Go.Proofs.Try.func41 Go.Proofs.Try.ntmps41 (Heap.nil _) fun act0 En0 Hv0 => ?_
 refine wp_seq ?_
 refine region_from ?_
 refine f_o ?_
 refine m_m 24 (u64s a) En0 Hv0 fun ac2 wo3 bk1 En4 Hv5 => ?_
 refine d_e [0,3,4] [] En4 fun ac6 En7 => ?_
 refine then_normal ?_
 refine wp_seq ?_
 refine region_from ?_
 refine d_k [3,4,6] [] 1 En7 fun ac8 En9 => ?_
 refine f_o ?_
 refine c_p En9 Hv5 (modulus_go _ f) fun ac14 wo11 En15 Hv16 => ?_
 refine f_o ?_
 refine m_z 24 (u64s (List.replicate 4 0)) En15 Hv16 fun ac18 wo19 bk17 En20 Hv21 => ?_
 refine f_o ?_
 refine m_g 1 0 4 (u64s (nd (mF f))) (u64s (nd (mF f))) [.box bk1 (u64s a) 24, .box bk17 (u64s (nd (mF f))) 24] En20 Hv21 rfl (u64s_lenh (nds_len _ _)) (by rw [(u64s_lenh (List.length_replicate))]; decide) (u64s_one _) (store_whole (u64s_lenh (List.length_replicate))) rfl fun ac22 wo23 En24 Hv25 => ?_
 refine f_e ?_
 refine then_normal ?_
 refine wp_seq ?_
 refine region_from ?_
 refine f_o ?_
 refine c_l [0,1] (M := [.box bk1 (u64s a) 24, .box bk17 (u64s (nd (mF f))) 24]) En24 Hv25 (fun hM26 => less_go _ bk1 bk17 a (nd (mF f)) ha (nds_len _ _) hM26) ?_
 rintro _ wo27 ⟨rfl, he28⟩
 refine ⟨_, _, [.box bk1 (u64s a) 24, .box bk17 (u64s (nd (mF f))) 24], rfl, he28, by kernel_rfl, fun ac30 En31 Hv32 => ?_⟩
 refine d_e [4,5] [] En31 fun ac33 En34 => ?_
 refine then_normal ?_
 refine wp_ret ?_
 refine d_ret1 (t := 4) (v := .bool (decide (nv a < nv (nd (mF f))))) En34 (by kernel_rfl) (by kernel_rfl) ?_
 exact ⟨by rw [nv_mF], Hv32.pk []⟩

end Go.Proofs.Ytpfhmbbiadpbeaa
