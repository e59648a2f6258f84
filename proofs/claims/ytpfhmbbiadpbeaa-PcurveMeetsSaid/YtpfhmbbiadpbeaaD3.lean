/- Layer 13: points together, and so many times: the program's and the document's. -/
import Derived.Test.YtpfhmbbiadpbeaaD2
import Derived.Test.YtpfhmbbiadpbeaaT3
namespace Go.Proofs.Ytpfhmbbiadpbeaa
open Go.Dbr
set_option maxRecDepth 100000
set_option maxHeartbeats 2000000
set_option linter.unusedVariables false
set_option linter.unusedSimpArgs false

theorem bit_shr (x : UInt64) (m : Nat) (hm : m < 64) : ((x >>> UInt64.ofNat m) &&& 1).toNat = x.toNat / 2 ^ m % 2 := by
  rw [UInt64.toNat_and, UInt64.toNat_shiftRight, show (1 : UInt64).toNat = 2 ^ 1 - 1 from rfl, Nat.and_two_pow_sub_one_eq_mod, ofNat_val, Nat.mod_eq_of_lt (show m < 18446744073709551616 by omega), Nat.mod_eq_of_lt (show m < 64 by omega), Nat.shiftRight_eq_div_pow, Nat.pow_one]
theorem bit_u {k : L4} (hk : k.length = 4) {i : Nat} (hi : i < 256) : (((UInt64.toNat ((List.getD k (i / 64) 0 >>> UInt64.ofNat (i % 64)) &&& 1) : Nat) : Int) == (1 : Int)) = (bitN (nv k) i == 1) := by
  have e : (UInt64.toNat ((List.getD k (i / 64) 0 >>> UInt64.ofNat (i % 64)) &&& 1)) = bitN (nv k) i := by
    rw [bit_shr _ _ (by omega), dig_nv hk _ (by omega), bitN]
    have e : (2 : Nat) ^ i = 18446744073709551616 ^ (i / 64) * 2 ^ (i % 64) := by
      rw [show (18446744073709551616 : Nat) = 2 ^ 64 from rfl, ← Nat.pow_mul, ← Nat.pow_add]
      congr 1
      omega
    rw [e, ← Nat.div_div_eq_div_mul]
    generalize nv k / 18446744073709551616 ^ (i / 64) = q
    have e2 : (18446744073709551616 : Nat) = 2 ^ (i % 64) * (2 * 2 ^ (63 - i % 64)) := by
      rw [show (18446744073709551616 : Nat) = 2 ^ 64 from rfl, ← Nat.pow_succ', ← Nat.pow_add]
      congr 1
      omega
    rw [e2, Nat.mod_mul_right_div_self, Nat.mod_mul_right_mod]
  rw [e]
  generalize bitN (nv k) i = b
  by_cases h : b = 1
  · subst h; rfl
  · rw [beq_false_of_ne h, beq_false_of_ne (by omega)]
theorem mn_1 {p : T3} {k j : Nat} {o : T3} (he : o = mnF p k j) (h : bitN k (255 - j) = 1) : jpL (jtL o) p = mnF p k (j + 1) := by
  unfold mnF
  rw [h, ← he]
  rfl
theorem mn_0 {p : T3} {k j : Nat} {o : T3} (he : o = mnF p k j) (h : ¬ bitN k (255 - j) = 1) : jtL o = mnF p k (j + 1) := by
  unfold mnF
  rw [beq_false_of_ne h, ← he]
  rfl
theorem mulP_yes {k : Nat} {p : PZ} (h : onP p = true) : outP (Go.Wei.Cv.mul k (gO p)).1 = mulP k p := by rw [mulP, h]; rfl
theorem mulP_no {k : Nat} {p : PZ} (h : ¬ onP p = true) : zeroP = mulP k p := by rw [mulP, Bool.eq_false_iff.2 h]; rfl

theorem dmany_go (w : World) (k : List UInt64) (hk : List.length k = 4) (x y z : List UInt64) (hx : List.length x = 4) (hy : List.length y = 4) (hz : List.length z = 4) : Calls Try.prog 35 #[.agg (List.toArray (u64s k)), .agg (List.toArray ((u64s x) ++ ((u64s y) ++ (u64s z))))] w fun e w' => e = .returned (.agg (List.toArray ((u64s ((mnF (x, y, z) (nv k) 256).1)) ++ ((u64s ((mnF (x, y, z) (nv k) 256).2.1)) ++ (u64s ((mnF (x, y, z) (nv k) 256).2.2)))))) ∧ Ev w [] w' [] := by
 refine d_0 [(0, .agg (List.toArray (u64s k))), (1, .agg (List.toArray ((u64s x) ++ ((u64s y) ++ (u64s z)))))] 29 Go.Proofs.Try.func35 Go.Proofs.Try.ntmps35 (Heap.nil _) fun act0 En0 Hv0 => ?_
 refine wp_seq ?_
 refine region_from ?_
 refine f_o ?_
 refine m_m 24 (u64s k) En0 Hv0 fun ac2 wo3 bk1 En4 Hv5 => ?_
 refine f_o ?_
 refine m_m 57 ((u64s x) ++ ((u64s y) ++ (u64s z))) En4 Hv5 fun ac7 wo8 bk6 En9 Hv10 => ?_
 refine f_o ?_
 refine m_z 57 ((u64s (List.replicate 4 0)) ++ ((u64s (List.replicate 4 0)) ++ (u64s (List.replicate 4 0)))) En9 Hv10 fun ac12 wo13 bk11 En14 Hv15 => ?_
 refine f_e ?_
 refine then_normal ?_
 refine wp_seq ?_
 refine region_from ?_
 refine d_k [2,3,4,7,8] [] 2 En14 fun ac16 En17 => ?_
 refine f_o ?_
 refine q_v (x := Instr.build 57 #[(0, .agg (List.toArray (u64s ([1, 0, 0, 0] : List UInt64)))), (1, .agg (List.toArray (u64s ([1, 0, 0, 0] : List UInt64))))]) (v := .agg (List.toArray ((u64s ([1, 0, 0, 0] : List UInt64)) ++ ((u64s ([1, 0, 0, 0] : List UInt64)) ++ (u64s (List.replicate 4 0)))))) En17 (Go.Dbr.run_built [(0, 4), (4, 4), (8, 4)] [⟨4, u64s (List.replicate 4 0), some (0, .agg (List.toArray (u64s ([1, 0, 0, 0] : List UInt64))), u64s ([1, 0, 0, 0] : List UInt64))⟩, ⟨4, u64s (List.replicate 4 0), some (1, .agg (List.toArray (u64s ([1, 0, 0, 0] : List UInt64))), u64s ([1, 0, 0, 0] : List UInt64))⟩, ⟨4, u64s (List.replicate 4 0), none⟩] (fb_y (u64s_lenh (List.length_replicate)) (u64s_lenh (show List.length ([1, 0, 0, 0] : List UInt64) = 4 from rfl)) (fb_y (u64s_lenh (List.length_replicate)) (u64s_lenh (show List.length ([1, 0, 0, 0] : List UInt64) = 4 from rfl)) (fb_n (u64s_lenh (List.length_replicate)) trivial))) _) fun ac18 En19 => ?_
 refine f_o ?_
 refine m_z 57 ((u64s (List.replicate 4 0)) ++ ((u64s (List.replicate 4 0)) ++ (u64s (List.replicate 4 0)))) En19 Hv15 fun ac21 wo22 bk20 En23 Hv24 => ?_
 refine f_o ?_
 refine m_g 3 0 12 ((u64s ([1, 0, 0, 0] : List UInt64)) ++ ((u64s ([1, 0, 0, 0] : List UInt64)) ++ (u64s (List.replicate 4 0)))) ((u64s ([1, 0, 0, 0] : List UInt64)) ++ ((u64s ([1, 0, 0, 0] : List UInt64)) ++ (u64s (List.replicate 4 0)))) [.box bk1 (u64s k) 24, .box bk6 ((u64s x) ++ ((u64s y) ++ (u64s z))) 57, .box bk11 ((u64s (List.replicate 4 0)) ++ ((u64s (List.replicate 4 0)) ++ (u64s (List.replicate 4 0)))) 57, .box bk20 ((u64s ([1, 0, 0, 0] : List UInt64)) ++ ((u64s ([1, 0, 0, 0] : List UInt64)) ++ (u64s (List.replicate 4 0)))) 57] En23 Hv24 rfl (len_app (u64s_lenh (show List.length ([1, 0, 0, 0] : List UInt64) = 4 from rfl)) (len_app (u64s_lenh (show List.length ([1, 0, 0, 0] : List UInt64) = 4 from rfl)) (u64s_lenh (List.length_replicate)))) (by rw [(len_app (u64s_lenh (List.length_replicate)) (len_app (u64s_lenh (List.length_replicate)) (u64s_lenh (List.length_replicate))))]; decide) (one_app (u64s_one _) (one_app (u64s_one _) (u64s_one _))) (store_whole (len_app (u64s_lenh (List.length_replicate)) (len_app (u64s_lenh (List.length_replicate)) (u64s_lenh (List.length_replicate))))) rfl fun ac25 wo26 En27 Hv28 => ?_
 refine f_e ?_
 refine then_normal ?_
 refine wp_seq ?_
 refine d_s [2,3,4,5,6] [] En27 fun ac29 En30 => ?_
 refine wp_block ?_
 refine loop_m (fun ms31 ac wo => ∃ (j : Nat) (o : T3), ms31 = (256 - j : Nat) ∧ Env ac 29 [(2, pt bk1), (3, pt bk6), (4, pt bk11), (5, pt bk20), (6, .int .i64 ((255 : Int) - ((j : Nat) : Int)))] ∧ Ev w [] wo [.box bk20 ((u64s o.1) ++ ((u64s o.2.1) ++ (u64s o.2.2))) 57, .box bk1 (u64s k) 24, .box bk6 ((u64s x) ++ ((u64s y) ++ (u64s z))) 57, .box bk11 ((u64s (List.replicate 4 0)) ++ ((u64s (List.replicate 4 0)) ++ (u64s (List.replicate 4 0)))) 57] ∧ (j ≤ 256) ∧ (Len3 o) ∧ (o = mnF (x, y, z) (nv k) j)) ⟨_, 0, one3, rfl, En30.sb, Hv28.pk [3, 0, 1, 2], (by omega), one3_len, rfl⟩ ?_
 rintro mm37 ac33 wo34 ⟨j, o, rfl, En35, Hv36, hj, ho, he⟩
 refine wp_seq ?_
 refine d_s [2,3,4,5,6,11] [] En35 fun ac38 En39 => ?_
 refine c_d ((255 : Int) - ((j : Nat) : Int) ≥ (0 : Int)) En39 (fun hc40 => ?_) (fun hc40 => ?_)
 ·
  refine wp_skip ?_
  refine then_normal ?_
  refine wp_seq ?_
  refine wp_block ?_
  refine wp_seq ?_
  refine region_from ?_
  refine f_o ?_
  refine m_a 0 0 12 ((u64s o.1) ++ ((u64s o.2.1) ++ (u64s o.2.2))) En39 Hv36 rfl (load_whole (len_app (u64s_lenh ho.x) (len_app (u64s_lenh ho.y) (u64s_lenh ho.z)))) (len_app (u64s_lenh ho.x) (len_app (u64s_lenh ho.y) (u64s_lenh ho.z))) fun ac41 En42 => ?_
  refine f_o ?_
  refine c_p En42 Hv36 (dtwice_go _ o.1 o.2.1 o.2.2 ho.x ho.y ho.z) fun ac47 wo44 En48 Hv49 => ?_
  refine f_o ?_
  refine m_g 0 0 12 ((u64s ((jtL (o.1, o.2.1, o.2.2)).1)) ++ ((u64s ((jtL (o.1, o.2.1, o.2.2)).2.1)) ++ (u64s ((jtL (o.1, o.2.1, o.2.2)).2.2)))) ((u64s ((jtL (o.1, o.2.1, o.2.2)).1)) ++ ((u64s ((jtL (o.1, o.2.1, o.2.2)).2.1)) ++ (u64s ((jtL (o.1, o.2.1, o.2.2)).2.2)))) [.box bk20 ((u64s ((jtL (o.1, o.2.1, o.2.2)).1)) ++ ((u64s ((jtL (o.1, o.2.1, o.2.2)).2.1)) ++ (u64s ((jtL (o.1, o.2.1, o.2.2)).2.2)))) 57, .box bk1 (u64s k) 24, .box bk6 ((u64s x) ++ ((u64s y) ++ (u64s z))) 57, .box bk11 ((u64s (List.replicate 4 0)) ++ ((u64s (List.replicate 4 0)) ++ (u64s (List.replicate 4 0)))) 57] En48 Hv49 rfl (len_app (u64s_lenh (jtL_len (o.1, o.2.1, o.2.2)).x) (len_app (u64s_lenh (jtL_len (o.1, o.2.1, o.2.2)).y) (u64s_lenh (jtL_len (o.1, o.2.1, o.2.2)).z))) (by rw [(len_app (u64s_lenh ho.x) (len_app (u64s_lenh ho.y) (u64s_lenh ho.z)))]; decide) (one_app (u64s_one _) (one_app (u64s_one _) (u64s_one _))) (store_whole (len_app (u64s_lenh ho.x) (len_app (u64s_lenh ho.y) (u64s_lenh ho.z)))) rfl fun ac50 wo51 En52 Hv53 => ?_
  refine f_e ?_
  refine then_normal ?_
  refine wp_seq ?_
  refine region_from ?_
  refine d_k [2,3,4,5,6,17] [(0, g_i .i64 (show (255 : Int) - ((j : Nat) : Int) = ((255 - j : Nat) : Int) from by omega)), (1, g_i .i64 (show IntKind.wrap .i64 (Int.tdiv ((255 - j : Nat) : Int) (64 : Int)) = (((255 - j) / 64 : Nat) : Int) from Go.Dbr.i64_quo_nat (a := ((255 - j : Nat) : Int)) (n := 255 - j) (m := 64) rfl (by omega)))] 2 En52 fun ac54 En55 => ?_
  refine f_o ?_
  refine q_v (x := Instr.indexAt 24 (pt bk1) (ni ((255 - j) / 64))) (v := .pointer (some ⟨bk1, (255 - j) / 64, none⟩)) En55 (Go.Dbr.run_indexarr (e := 22) (sz := 1) (m := 4) (j := (255 - j) / 64) (o := (255 - j) / 64) (by kernel_rfl) (by kernel_rfl) (by omega) (by omega) (by omega) _) fun ac56 En57 => ?_
  refine f_o ?_
  have hb58 : (255 - j) / 64 < List.length k := by rw [hk]; omega
  refine m_v 1 ((255 - j) / 64) (uv64 (List.getD k ((255 - j) / 64) 0)) En57 Hv53 rfl (u64s_getD hb58) fun ac59 En60 => ?_
  refine d_k [2,3,4,5,6,19,21] [(4, g_i .i64 (show (255 : Int) - ((j : Nat) : Int) = ((255 - j : Nat) : Int) from by omega)), (5, g_i .i64 (show Int.tmod ((255 - j : Nat) : Int) (64 : Int) = (((255 - j) % 64 : Nat) : Int) from Go.Dbr.i64_rem_nat (a := ((255 - j : Nat) : Int)) (n := 255 - j) (m := 64) rfl (by omega)))] 6 En60 fun ac61 En62 => ?_
  refine f_o ?_
  refine q_v En62 (Go.Dbr.run_shr_u64 (List.getD k ((255 - j) / 64) 0) .i64 ((255 - j) % 64) (by omega) _) fun ac63 En64 => ?_
  refine d_e [2,3,4,5,6,24] [(7, g_i .u64 (Go.Dbr.u64_and (x := (List.getD k ((255 - j) / 64) 0) >>> UInt64.ofNat ((255 - j) % 64)) (y := (1 : UInt64)) rfl rfl)), (8, g_b (show (((UInt64.toNat (((List.getD k ((255 - j) / 64) 0) >>> UInt64.ofNat ((255 - j) % 64)) &&& (1 : UInt64)) : Nat) : Int) == (1 : Int)) = (bitN (nv k) (255 - j) == 1) from bit_u hk (by omega)))] En64 fun ac65 En66 => ?_
  refine then_normal ?_
  refine cond_at En66 (t := bitN (nv k) (255 - j) == 1) (by kernel_rfl) (fun hc67 => ?_) (fun hc67 => ?_)
  ·
   replace hc67 : bitN (nv k) (255 - j) = 1 := eq_of_beq hc67
   refine region_from ?_
   refine f_o ?_
   refine m_a 0 0 12 ((u64s ((jtL (o.1, o.2.1, o.2.2)).1)) ++ ((u64s ((jtL (o.1, o.2.1, o.2.2)).2.1)) ++ (u64s ((jtL (o.1, o.2.1, o.2.2)).2.2)))) En66 Hv53 rfl (load_whole (len_app (u64s_lenh (jtL_len (o.1, o.2.1, o.2.2)).x) (len_app (u64s_lenh (jtL_len (o.1, o.2.1, o.2.2)).y) (u64s_lenh (jtL_len (o.1, o.2.1, o.2.2)).z)))) (len_app (u64s_lenh (jtL_len (o.1, o.2.1, o.2.2)).x) (len_app (u64s_lenh (jtL_len (o.1, o.2.1, o.2.2)).y) (u64s_lenh (jtL_len (o.1, o.2.1, o.2.2)).z))) fun ac68 En69 => ?_
   refine f_o ?_
   refine m_a 2 0 12 ((u64s x) ++ ((u64s y) ++ (u64s z))) En69 Hv53 rfl (load_whole (len_app (u64s_lenh hx) (len_app (u64s_lenh hy) (u64s_lenh hz)))) (len_app (u64s_lenh hx) (len_app (u64s_lenh hy) (u64s_lenh hz))) fun ac70 En71 => ?_
   refine f_o ?_
   refine c_p En71 Hv53 (dplus_go _ ((jtL (o.1, o.2.1, o.2.2)).1) ((jtL (o.1, o.2.1, o.2.2)).2.1) ((jtL (o.1, o.2.1, o.2.2)).2.2) x y z (jtL_len (o.1, o.2.1, o.2.2)).x (jtL_len (o.1, o.2.1, o.2.2)).y (jtL_len (o.1, o.2.1, o.2.2)).z hx hy hz) fun ac76 wo73 En77 Hv78 => ?_
   refine f_o ?_
   refine m_g 0 0 12 ((u64s ((jpL ((jtL (o.1, o.2.1, o.2.2)).1, (jtL (o.1, o.2.1, o.2.2)).2.1, (jtL (o.1, o.2.1, o.2.2)).2.2) (x, y, z)).1)) ++ ((u64s ((jpL ((jtL (o.1, o.2.1, o.2.2)).1, (jtL (o.1, o.2.1, o.2.2)).2.1, (jtL (o.1, o.2.1, o.2.2)).2.2) (x, y, z)).2.1)) ++ (u64s ((jpL ((jtL (o.1, o.2.1, o.2.2)).1, (jtL (o.1, o.2.1, o.2.2)).2.1, (jtL (o.1, o.2.1, o.2.2)).2.2) (x, y, z)).2.2)))) ((u64s ((jpL ((jtL (o.1, o.2.1, o.2.2)).1, (jtL (o.1, o.2.1, o.2.2)).2.1, (jtL (o.1, o.2.1, o.2.2)).2.2) (x, y, z)).1)) ++ ((u64s ((jpL ((jtL (o.1, o.2.1, o.2.2)).1, (jtL (o.1, o.2.1, o.2.2)).2.1, (jtL (o.1, o.2.1, o.2.2)).2.2) (x, y, z)).2.1)) ++ (u64s ((jpL ((jtL (o.1, o.2.1, o.2.2)).1, (jtL (o.1, o.2.1, o.2.2)).2.1, (jtL (o.1, o.2.1, o.2.2)).2.2) (x, y, z)).2.2)))) [.box bk20 ((u64s ((jpL ((jtL (o.1, o.2.1, o.2.2)).1, (jtL (o.1, o.2.1, o.2.2)).2.1, (jtL (o.1, o.2.1, o.2.2)).2.2) (x, y, z)).1)) ++ ((u64s ((jpL ((jtL (o.1, o.2.1, o.2.2)).1, (jtL (o.1, o.2.1, o.2.2)).2.1, (jtL (o.1, o.2.1, o.2.2)).2.2) (x, y, z)).2.1)) ++ (u64s ((jpL ((jtL (o.1, o.2.1, o.2.2)).1, (jtL (o.1, o.2.1, o.2.2)).2.1, (jtL (o.1, o.2.1, o.2.2)).2.2) (x, y, z)).2.2)))) 57, .box bk1 (u64s k) 24, .box bk6 ((u64s x) ++ ((u64s y) ++ (u64s z))) 57, .box bk11 ((u64s (List.replicate 4 0)) ++ ((u64s (List.replicate 4 0)) ++ (u64s (List.replicate 4 0)))) 57] En77 Hv78 rfl (len_app (u64s_lenh (jpL_len ⟨(jtL_len (o.1, o.2.1, o.2.2)).x, (jtL_len (o.1, o.2.1, o.2.2)).y, (jtL_len (o.1, o.2.1, o.2.2)).z⟩ ⟨hx, hy, hz⟩).x) (len_app (u64s_lenh (jpL_len ⟨(jtL_len (o.1, o.2.1, o.2.2)).x, (jtL_len (o.1, o.2.1, o.2.2)).y, (jtL_len (o.1, o.2.1, o.2.2)).z⟩ ⟨hx, hy, hz⟩).y) (u64s_lenh (jpL_len ⟨(jtL_len (o.1, o.2.1, o.2.2)).x, (jtL_len (o.1, o.2.1, o.2.2)).y, (jtL_len (o.1, o.2.1, o.2.2)).z⟩ ⟨hx, hy, hz⟩).z))) (by rw [(len_app (u64s_lenh (jtL_len (o.1, o.2.1, o.2.2)).x) (len_app (u64s_lenh (jtL_len (o.1, o.2.1, o.2.2)).y) (u64s_lenh (jtL_len (o.1, o.2.1, o.2.2)).z)))]; decide) (one_app (u64s_one _) (one_app (u64s_one _) (u64s_one _))) (store_whole (len_app (u64s_lenh (jtL_len (o.1, o.2.1, o.2.2)).x) (len_app (u64s_lenh (jtL_len (o.1, o.2.1, o.2.2)).y) (u64s_lenh (jtL_len (o.1, o.2.1, o.2.2)).z)))) rfl fun ac79 wo80 En81 Hv82 => ?_
   refine f_e ?_
   refine block_normal ?_
   refine then_normal ?_
   refine d_r [2,3,4,5,6] [(1, g_n (w_r (e := ((255 : Int) - ((j : Nat) : Int)) - (1 : Int)) (x := (255 : Int) - ((j + 1 : Nat) : Int)) (by omega)))] En81 fun ac83 En84 => ?_
   refine then_normal ?_
   refine ⟨_, ⟨j + 1, jpL (jtL o) (x, y, z), rfl, En84.sb, Hv82.pk [0, 1, 2, 3], (by omega), (jpL_len (jtL_len _) ⟨hx, hy, hz⟩), (mn_1 he hc67)⟩, ?_⟩
   omega
  ·
   replace hc67 : ¬ (bitN (nv k) (255 - j) = 1) := ne_of_beq_false hc67
   refine wp_skip ?_
   refine block_normal ?_
   refine then_normal ?_
   refine d_r [2,3,4,5,6] [(1, g_n (w_r (e := ((255 : Int) - ((j : Nat) : Int)) - (1 : Int)) (x := (255 : Int) - ((j + 1 : Nat) : Int)) (by omega)))] En66 fun ac85 En86 => ?_
   refine then_normal ?_
   refine ⟨_, ⟨j + 1, jtL o, rfl, En86.sb, Hv53.pk [0, 1, 2, 3], (by omega), (jtL_len _), (mn_0 he hc67)⟩, ?_⟩
   omega
 ·
  refine wp_exit ?_
  refine then_exit ?_
  refine then_exit ?_
  refine block_exit ?_
  refine then_normal ?_
  refine wp_seq ?_
  refine region_from ?_
  refine f_o ?_
  refine m_a 0 0 12 ((u64s o.1) ++ ((u64s o.2.1) ++ (u64s o.2.2))) En39 Hv36 rfl (load_whole (len_app (u64s_lenh ho.x) (len_app (u64s_lenh ho.y) (u64s_lenh ho.z)))) (len_app (u64s_lenh ho.x) (len_app (u64s_lenh ho.y) (u64s_lenh ho.z))) fun ac87 En88 => ?_
  refine f_o ?_
  refine m_g 3 0 12 ((u64s o.1) ++ ((u64s o.2.1) ++ (u64s o.2.2))) ((u64s o.1) ++ ((u64s o.2.1) ++ (u64s o.2.2))) [.box bk20 ((u64s o.1) ++ ((u64s o.2.1) ++ (u64s o.2.2))) 57, .box bk1 (u64s k) 24, .box bk6 ((u64s x) ++ ((u64s y) ++ (u64s z))) 57, .box bk11 ((u64s o.1) ++ ((u64s o.2.1) ++ (u64s o.2.2))) 57] En88 Hv36 rfl (len_app (u64s_lenh ho.x) (len_app (u64s_lenh ho.y) (u64s_lenh ho.z))) (by rw [(len_app (u64s_lenh (List.length_replicate)) (len_app (u64s_lenh (List.length_replicate)) (u64s_lenh (List.length_replicate))))]; decide) (one_app (u64s_one _) (one_app (u64s_one _) (u64s_one _))) (store_whole (len_app (u64s_lenh (List.length_replicate)) (len_app (u64s_lenh (List.length_replicate)) (u64s_lenh (List.length_replicate))))) rfl fun ac89 wo90 En91 Hv92 => ?_
  refine f_e ?_
  refine then_normal ?_
  refine wp_ret ?_
  refine d_cell1 (v := .agg (List.toArray ((u64s o.1) ++ ((u64s o.2.1) ++ (u64s o.2.2))))) (t := 4) (T := 57) (ad := ⟨bk11, 0, none⟩) En91 (by kernel_rfl) (by kernel_rfl) (Ev.cellAgg (t := 57) (k := 3) (off := 0) (m := 12) (xs := (u64s o.1) ++ ((u64s o.2.1) ++ (u64s o.2.2))) Hv92 rfl (load_whole (len_app (u64s_lenh ho.x) (len_app (u64s_lenh ho.y) (u64s_lenh ho.z)))) (len_app (u64s_lenh ho.x) (len_app (u64s_lenh ho.y) (u64s_lenh ho.z))) (by kernel_rfl) (by kernel_rfl)) ?_
  have hj4 : j = 256 := by omega
  exact ⟨by rw [he, hj4], Hv92.pk []⟩

theorem pmult_go (w : World) (k : List UInt64) (hk : List.length k = 4) (z : Bool) (x y : List UInt64) (hx : List.length x = 4) (hy : List.length y = 4) : Calls Try.prog 12 #[.agg (List.toArray (u64s k)), .agg (List.toArray (([.bool z] : List Value) ++ ((u64s x) ++ (u64s y))))] w fun e w' => e = .returned (.agg (List.toArray (([.bool ((mulP (nv k) (z, x, y)).1)] : List Value) ++ ((u64s ((mulP (nv k) (z, x, y)).2.1)) ++ (u64s ((mulP (nv k) (z, x, y)).2.2)))))) ∧ Ev w [] w' [] := by
 refine d_0 [(0, .agg (List.toArray (u64s k))), (1, .agg (List.toArray (([.bool z] : List Value) ++ ((u64s x) ++ (u64s y)))))] 14 Go.Proofs.Try.func12 Go.Proofs.Try.ntmps12 (Heap.nil _) fun act0 En0 Hv0 => ?_
 refine wp_seq ?_
 refine region_from ?_
 refine f_o ?_
 refine m_m 24 (u64s k) En0 Hv0 fun ac2 wo3 bk1 En4 Hv5 => ?_
 refine f_o ?_
 refine m_m 26 (([.bool z] : List Value) ++ ((u64s x) ++ (u64s y))) En4 Hv5 fun ac7 wo8 bk6 En9 Hv10 => ?_
 refine f_o ?_
 refine m_z 26 (([.bool false] : List Value) ++ ((u64s (List.replicate 4 0)) ++ (u64s (List.replicate 4 0)))) En9 Hv10 fun ac12 wo13 bk11 En14 Hv15 => ?_
 refine f_e ?_
 refine then_normal ?_
 refine wp_seq ?_
 refine wp_seq ?_
 refine region_from ?_
 refine f_o ?_
 refine m_a 1 0 9 (([.bool z] : List Value) ++ ((u64s x) ++ (u64s y))) En14 Hv15 rfl (load_whole (len_app rfl (len_app (u64s_lenh hx) (u64s_lenh hy)))) (len_app rfl (len_app (u64s_lenh hx) (u64s_lenh hy))) fun ac16 En17 => ?_
 refine f_o ?_
 refine c_p En17 Hv15 (on_go _ z x y hx hy) fun ac22 wo19 En23 Hv24 => ?_
 refine d_e [2,3,4,7] [] En23 fun ac25 En26 => ?_
 refine then_normal ?_
 refine cond_at En26 (t := !(onN z x y)) (by kernel_rfl) (fun hc27 => ?_) (fun hc27 => ?_)
 ·
  replace hc27 : ¬ (onN z x y = true) := by simpa using hc27
  refine wp_seq ?_
  refine region_from ?_
  refine f_o ?_
  refine q_v (x := Instr.build 26 #[(0, .bool true)]) (v := .agg (List.toArray (([.bool true] : List Value) ++ ((u64s (List.replicate 4 0)) ++ (u64s (List.replicate 4 0)))))) En26 (Go.Dbr.run_built [(0, 1), (1, 4), (5, 4)] [⟨1, [.bool false], some (0, .bool true, [.bool true])⟩, ⟨4, u64s (List.replicate 4 0), none⟩, ⟨4, u64s (List.replicate 4 0), none⟩] (fb_y rfl rfl (fb_n (u64s_lenh (List.length_replicate)) (fb_n (u64s_lenh (List.length_replicate)) trivial))) _) fun ac28 En29 => ?_
  refine f_o ?_
  refine m_g 2 0 9 (([.bool true] : List Value) ++ ((u64s (List.replicate 4 0)) ++ (u64s (List.replicate 4 0)))) (([.bool true] : List Value) ++ ((u64s (List.replicate 4 0)) ++ (u64s (List.replicate 4 0)))) [.box bk1 (u64s k) 24, .box bk6 (([.bool z] : List Value) ++ ((u64s x) ++ (u64s y))) 26, .box bk11 (([.bool true] : List Value) ++ ((u64s (List.replicate 4 0)) ++ (u64s (List.replicate 4 0)))) 26] En29 Hv24 rfl (len_app rfl (len_app (u64s_lenh (List.length_replicate)) (u64s_lenh (List.length_replicate)))) (by rw [(len_app rfl (len_app (u64s_lenh (List.length_replicate)) (u64s_lenh (List.length_replicate))))]; decide) (one_app (one_all (by kernel_rfl)) (one_app (u64s_one _) (u64s_one _))) (store_whole (len_app rfl (len_app (u64s_lenh (List.length_replicate)) (u64s_lenh (List.length_replicate))))) rfl fun ac30 wo31 En32 Hv33 => ?_
  refine f_e ?_
  refine then_normal ?_
  refine wp_ret ?_
  refine then_ret ?_
  refine d_cell1 (v := .agg (List.toArray (([.bool true] : List Value) ++ ((u64s (List.replicate 4 0)) ++ (u64s (List.replicate 4 0)))))) (t := 4) (T := 26) (ad := ⟨bk11, 0, none⟩) En32 (by kernel_rfl) (by kernel_rfl) (Ev.cellAgg (t := 26) (k := 2) (off := 0) (m := 9) (xs := ([.bool true] : List Value) ++ ((u64s (List.replicate 4 0)) ++ (u64s (List.replicate 4 0)))) Hv33 rfl (load_whole (len_app rfl (len_app (u64s_lenh (List.length_replicate)) (u64s_lenh (List.length_replicate))))) (len_app rfl (len_app (u64s_lenh (List.length_replicate)) (u64s_lenh (List.length_replicate)))) (by kernel_rfl) (by kernel_rfl)) ?_
  exact ⟨ret_pz (a := (true, z4, z4)) (b := mulP (nv k) (z, x, y)) (mulP_no hc27), Hv33.pk []⟩
 ·
  replace hc27 : onN z x y = true := by simpa using hc27
  refine wp_skip ?_
  refine then_normal ?_
  refine wp_seq ?_
  refine r_c (fun ac wo => Env ac 14 [(3, pt bk6), (4, pt bk11)] ∧ Ev w [] wo [.box bk6 (([.bool z] : List Value) ++ ((u64s x) ++ (u64s y))) 26, .box bk11 (([.bool (bZ (List.drop 8 (tmF (of12 z x y) (nv k) 64)))] : List Value) ++ ((u64s (bX (List.take 4 (tmF (of12 z x y) (nv k) 64)) (List.drop 8 (tmF (of12 z x y) (nv k) 64)))) ++ (u64s (bX (List.take 4 (List.drop 4 (tmF (of12 z x y) (nv k) 64))) (List.drop 8 (tmF (of12 z x y) (nv k) 64)))))) 26]) ?_ ?_
  ·
   refine s_g0 [(2, pt bk1), (3, pt bk6), (4, pt bk11)] [0,1,2,3,4] [(9, .agg (List.toArray (([.bool z] : List Value) ++ ((u64s x) ++ (u64s y))))), (10, .agg (List.toArray (u64s (of12 z x y)))), (11, .agg (List.toArray (u64s k))), (12, .agg (List.toArray (u64s (tmF (of12 z x y) (nv k) 64)))), (13, .agg (List.toArray (([.bool (bZ (List.drop 8 (tmF (of12 z x y) (nv k) 64)))] : List Value) ++ ((u64s (bX (List.take 4 (tmF (of12 z x y) (nv k) 64)) (List.drop 8 (tmF (of12 z x y) (nv k) 64)))) ++ (u64s (bX (List.take 4 (List.drop 4 (tmF (of12 z x y) (nv k) 64))) (List.drop 8 (tmF (of12 z x y) (nv k) 64))))))))] 1 [(3, pt bk6), (4, pt bk11), (13, .agg (List.toArray (([.bool (bZ (List.drop 8 (tmF (of12 z x y) (nv k) 64)))] : List Value) ++ ((u64s (bX (List.take 4 (tmF (of12 z x y) (nv k) 64)) (List.drop 8 (tmF (of12 z x y) (nv k) 64)))) ++ (u64s (bX (List.take 4 (List.drop 4 (tmF (of12 z x y) (nv k) 64))) (List.drop 8 (tmF (of12 z x y) (nv k) 64))))))))] (En26.sb) (Hv24.trans (Ev.drew Hv24.heap)) ?_ fun ac71 wo72 En73 Hv74 => ?_
   ·
    refine s_a 1 0 9 (([.bool z] : List Value) ++ ((u64s x) ++ (u64s y))) rfl (load_whole (len_app rfl (len_app (u64s_lenh hx) (u64s_lenh hy)))) (len_app rfl (len_app (u64s_lenh hx) (u64s_lenh hy))) ?_
    refine s_f (fun _ => of12_go _ z x y hx hy) ?_
    refine s_a 0 0 4 (u64s k) rfl (load_whole (u64s_lenh hk)) (u64s_lenh hk) ?_
    refine s_f (fun _ => times12_go _ (of12 z x y) k (of12_len hx hy) hk) ?_
    refine s_f (fun _ => back12_go _ (tmF (of12 z x y) (nv k) 64) (tmF_len _ _ _)) ?_
    exact s_n
   refine q_u 5 ?_
   refine m_g 2 0 9 (([.bool (bZ (List.drop 8 (tmF (of12 z x y) (nv k) 64)))] : List Value) ++ ((u64s (bX (List.take 4 (tmF (of12 z x y) (nv k) 64)) (List.drop 8 (tmF (of12 z x y) (nv k) 64)))) ++ (u64s (bX (List.take 4 (List.drop 4 (tmF (of12 z x y) (nv k) 64))) (List.drop 8 (tmF (of12 z x y) (nv k) 64)))))) (([.bool (bZ (List.drop 8 (tmF (of12 z x y) (nv k) 64)))] : List Value) ++ ((u64s (bX (List.take 4 (tmF (of12 z x y) (nv k) 64)) (List.drop 8 (tmF (of12 z x y) (nv k) 64)))) ++ (u64s (bX (List.take 4 (List.drop 4 (tmF (of12 z x y) (nv k) 64))) (List.drop 8 (tmF (of12 z x y) (nv k) 64)))))) [.box bk1 (u64s k) 24, .box bk6 (([.bool z] : List Value) ++ ((u64s x) ++ (u64s y))) 26, .box bk11 (([.bool (bZ (List.drop 8 (tmF (of12 z x y) (nv k) 64)))] : List Value) ++ ((u64s (bX (List.take 4 (tmF (of12 z x y) (nv k) 64)) (List.drop 8 (tmF (of12 z x y) (nv k) 64)))) ++ (u64s (bX (List.take 4 (List.drop 4 (tmF (of12 z x y) (nv k) 64))) (List.drop 8 (tmF (of12 z x y) (nv k) 64)))))) 26] En73 Hv74 rfl (len_app rfl (len_app (u64s_lenh bX_len) (u64s_lenh bX_len))) (by rw [(len_app rfl (len_app (u64s_lenh (List.length_replicate)) (u64s_lenh (List.length_replicate))))]; decide) (one_app (one_all (by kernel_rfl)) (one_app (u64s_one _) (u64s_one _))) (store_whole (len_app rfl (len_app (u64s_lenh (List.length_replicate)) (u64s_lenh (List.length_replicate))))) rfl fun ac79 wo80 En81 Hv82 => ?_
   exact a_e ⟨En81.sb, Hv82.pk [1, 2]⟩
  rintro ac83 wo84 ⟨En85, Hv86⟩
  refine then_normal ?_
  refine wp_ret ?_
  refine d_cell1 (v := .agg (List.toArray (([.bool (bZ (List.drop 8 (tmF (of12 z x y) (nv k) 64)))] : List Value) ++ ((u64s (bX (List.take 4 (tmF (of12 z x y) (nv k) 64)) (List.drop 8 (tmF (of12 z x y) (nv k) 64)))) ++ (u64s (bX (List.take 4 (List.drop 4 (tmF (of12 z x y) (nv k) 64))) (List.drop 8 (tmF (of12 z x y) (nv k) 64)))))))) (t := 4) (T := 26) (ad := ⟨bk11, 0, none⟩) En85 (by kernel_rfl) (by kernel_rfl) (Ev.cellAgg (t := 26) (k := 1) (off := 0) (m := 9) (xs := ([.bool (bZ (List.drop 8 (tmF (of12 z x y) (nv k) 64)))] : List Value) ++ ((u64s (bX (List.take 4 (tmF (of12 z x y) (nv k) 64)) (List.drop 8 (tmF (of12 z x y) (nv k) 64)))) ++ (u64s (bX (List.take 4 (List.drop 4 (tmF (of12 z x y) (nv k) 64))) (List.drop 8 (tmF (of12 z x y) (nv k) 64)))))) Hv86 rfl (load_whole (len_app rfl (len_app (u64s_lenh bX_len) (u64s_lenh bX_len)))) (len_app rfl (len_app (u64s_lenh bX_len) (u64s_lenh bX_len))) (by kernel_rfl) (by kernel_rfl)) ?_
  exact ⟨ret_pz (a := (bZ (List.drop 8 (tmF (of12 z x y) (nv k) 64)), bX (List.take 4 (tmF (of12 z x y) (nv k) 64)) (List.drop 8 (tmF (of12 z x y) (nv k) 64)), bX (List.take 4 (List.drop 4 (tmF (of12 z x y) (nv k) 64))) (List.drop 8 (tmF (of12 z x y) (nv k) 64)))) (b := mulP (nv k) (z, x, y)) ((back_ok (rep_times (rep_of hx hy hc27) (nv_lt hk))).trans (mulP_yes hc27)), Hv86.pk []⟩

theorem dpmult_go (w : World) (k : List UInt64) (hk : List.length k = 4) (z : Bool) (x y : List UInt64) (hx : List.length x = 4) (hy : List.length y = 4) : Calls Try.prog 13 #[.agg (List.toArray (u64s k)), .agg (List.toArray (([.bool z] : List Value) ++ ((u64s x) ++ (u64s y))))] w fun e w' => e = .returned (.agg (List.toArray (([.bool ((mulP (nv k) (z, x, y)).1)] : List Value) ++ ((u64s ((mulP (nv k) (z, x, y)).2.1)) ++ (u64s ((mulP (nv k) (z, x, y)).2.2)))))) ∧ Ev w [] w' [] := by
 refine d_0 [(0, .agg (List.toArray (u64s k))), (1, .agg (List.toArray (([.bool z] : List Value) ++ ((u64s x) ++ (u64s y)))))] 16 Go.Proofs.Try.func13 Go.Proofs.Try.ntmps13 (Heap.nil _) fun act0 En0 Hv0 => ?_
 refine wp_seq ?_
 refine region_from ?_
 refine f_o ?_
 refine m_m 24 (u64s k) En0 Hv0 fun ac2 wo3 bk1 En4 Hv5 => ?_
 refine f_o ?_
 refine m_m 26 (([.bool z] : List Value) ++ ((u64s x) ++ (u64s y))) En4 Hv5 fun ac7 wo8 bk6 En9 Hv10 => ?_
 refine f_o ?_
 refine m_z 26 (([.bool false] : List Value) ++ ((u64s (List.replicate 4 0)) ++ (u64s (List.replicate 4 0)))) En9 Hv10 fun ac12 wo13 bk11 En14 Hv15 => ?_
 refine f_e ?_
 refine then_normal ?_
 refine wp_seq ?_
 refine region_from ?_
 refine f_o ?_
 refine m_a 1 0 9 (([.bool z] : List Value) ++ ((u64s x) ++ (u64s y))) En14 Hv15 rfl (load_whole (len_app rfl (len_app (u64s_lenh hx) (u64s_lenh hy)))) (len_app rfl (len_app (u64s_lenh hx) (u64s_lenh hy))) fun ac16 En17 => ?_
 refine f_o ?_
 refine c_p En17 Hv15 (don_go _ z x y hx hy) fun ac22 wo19 En23 Hv24 => ?_
 refine d_e [2,3,4,5] [] En23 fun ac25 En26 => ?_
 refine then_normal ?_
 refine wp_seq ?_
 refine d_s [2,3,4,9] [] En26 fun ac27 En28 => ?_
 refine cond_at En28 (t := !(onN z x y)) (by kernel_rfl) (fun hc29 => ?_) (fun hc29 => ?_)
 ·
  replace hc29 : ¬ (onN z x y = true) := by simpa using hc29
  refine wp_seq ?_
  refine region_from ?_
  refine f_o ?_
  refine q_v (x := Instr.build 26 #[(0, .bool true)]) (v := .agg (List.toArray (([.bool true] : List Value) ++ ((u64s (List.replicate 4 0)) ++ (u64s (List.replicate 4 0)))))) En28 (Go.Dbr.run_built [(0, 1), (1, 4), (5, 4)] [⟨1, [.bool false], some (0, .bool true, [.bool true])⟩, ⟨4, u64s (List.replicate 4 0), none⟩, ⟨4, u64s (List.replicate 4 0), none⟩] (fb_y rfl rfl (fb_n (u64s_lenh (List.length_replicate)) (fb_n (u64s_lenh (List.length_replicate)) trivial))) _) fun ac30 En31 => ?_
  refine f_o ?_
  refine m_g 2 0 9 (([.bool true] : List Value) ++ ((u64s (List.replicate 4 0)) ++ (u64s (List.replicate 4 0)))) (([.bool true] : List Value) ++ ((u64s (List.replicate 4 0)) ++ (u64s (List.replicate 4 0)))) [.box bk1 (u64s k) 24, .box bk6 (([.bool z] : List Value) ++ ((u64s x) ++ (u64s y))) 26, .box bk11 (([.bool true] : List Value) ++ ((u64s (List.replicate 4 0)) ++ (u64s (List.replicate 4 0)))) 26] En31 Hv24 rfl (len_app rfl (len_app (u64s_lenh (List.length_replicate)) (u64s_lenh (List.length_replicate)))) (by rw [(len_app rfl (len_app (u64s_lenh (List.length_replicate)) (u64s_lenh (List.length_replicate))))]; decide) (one_app (one_all (by kernel_rfl)) (one_app (u64s_one _) (u64s_one _))) (store_whole (len_app rfl (len_app (u64s_lenh (List.length_replicate)) (u64s_lenh (List.length_replicate))))) rfl fun ac32 wo33 En34 Hv35 => ?_
  refine f_e ?_
  refine then_normal ?_
  refine wp_ret ?_
  refine then_ret ?_
  refine d_cell1 (v := .agg (List.toArray (([.bool true] : List Value) ++ ((u64s (List.replicate 4 0)) ++ (u64s (List.replicate 4 0)))))) (t := 4) (T := 26) (ad := ⟨bk11, 0, none⟩) En34 (by kernel_rfl) (by kernel_rfl) (Ev.cellAgg (t := 26) (k := 2) (off := 0) (m := 9) (xs := ([.bool true] : List Value) ++ ((u64s (List.replicate 4 0)) ++ (u64s (List.replicate 4 0)))) Hv35 rfl (load_whole (len_app rfl (len_app (u64s_lenh (List.length_replicate)) (u64s_lenh (List.length_replicate))))) (len_app rfl (len_app (u64s_lenh (List.length_replicate)) (u64s_lenh (List.length_replicate)))) (by kernel_rfl) (by kernel_rfl)) ?_
  exact ⟨ret_pz (a := (true, z4, z4)) (b := mulP (nv k) (z, x, y)) (mulP_no hc29), Hv35.pk []⟩
 ·
  replace hc29 : onN z x y = true := by simpa using hc29
  refine wp_skip ?_
  refine then_normal ?_
  refine wp_seq ?_
  refine r_c (fun ac wo => Env ac 16 [(3, pt bk6), (4, pt bk11)] ∧ Ev w [] wo [.box bk6 (([.bool z] : List Value) ++ ((u64s x) ++ (u64s y))) 26, .box bk11 (([.bool ((bkJ ((mnF ((ofJ z x y).1, (ofJ z x y).2.1, (ofJ z x y).2.2) (nv k) 256).1, (mnF ((ofJ z x y).1, (ofJ z x y).2.1, (ofJ z x y).2.2) (nv k) 256).2.1, (mnF ((ofJ z x y).1, (ofJ z x y).2.1, (ofJ z x y).2.2) (nv k) 256).2.2)).1)] : List Value) ++ ((u64s ((bkJ ((mnF ((ofJ z x y).1, (ofJ z x y).2.1, (ofJ z x y).2.2) (nv k) 256).1, (mnF ((ofJ z x y).1, (ofJ z x y).2.1, (ofJ z x y).2.2) (nv k) 256).2.1, (mnF ((ofJ z x y).1, (ofJ z x y).2.1, (ofJ z x y).2.2) (nv k) 256).2.2)).2.1)) ++ (u64s ((bkJ ((mnF ((ofJ z x y).1, (ofJ z x y).2.1, (ofJ z x y).2.2) (nv k) 256).1, (mnF ((ofJ z x y).1, (ofJ z x y).2.1, (ofJ z x y).2.2) (nv k) 256).2.1, (mnF ((ofJ z x y).1, (ofJ z x y).2.1, (ofJ z x y).2.2) (nv k) 256).2.2)).2.2)))) 26]) ?_ ?_
  ·
   refine s_g0 [(2, pt bk1), (3, pt bk6), (4, pt bk11)] [0,1,2,3,4] [(11, .agg (List.toArray (u64s k))), (12, .agg (List.toArray (([.bool z] : List Value) ++ ((u64s x) ++ (u64s y))))), (13, .agg (List.toArray ((u64s ((ofJ z x y).1)) ++ ((u64s ((ofJ z x y).2.1)) ++ (u64s ((ofJ z x y).2.2)))))), (14, .agg (List.toArray ((u64s ((mnF ((ofJ z x y).1, (ofJ z x y).2.1, (ofJ z x y).2.2) (nv k) 256).1)) ++ ((u64s ((mnF ((ofJ z x y).1, (ofJ z x y).2.1, (ofJ z x y).2.2) (nv k) 256).2.1)) ++ (u64s ((mnF ((ofJ z x y).1, (ofJ z x y).2.1, (ofJ z x y).2.2) (nv k) 256).2.2)))))), (15, .agg (List.toArray (([.bool ((bkJ ((mnF ((ofJ z x y).1, (ofJ z x y).2.1, (ofJ z x y).2.2) (nv k) 256).1, (mnF ((ofJ z x y).1, (ofJ z x y).2.1, (ofJ z x y).2.2) (nv k) 256).2.1, (mnF ((ofJ z x y).1, (ofJ z x y).2.1, (ofJ z x y).2.2) (nv k) 256).2.2)).1)] : List Value) ++ ((u64s ((bkJ ((mnF ((ofJ z x y).1, (ofJ z x y).2.1, (ofJ z x y).2.2) (nv k) 256).1, (mnF ((ofJ z x y).1, (ofJ z x y).2.1, (ofJ z x y).2.2) (nv k) 256).2.1, (mnF ((ofJ z x y).1, (ofJ z x y).2.1, (ofJ z x y).2.2) (nv k) 256).2.2)).2.1)) ++ (u64s ((bkJ ((mnF ((ofJ z x y).1, (ofJ z x y).2.1, (ofJ z x y).2.2) (nv k) 256).1, (mnF ((ofJ z x y).1, (ofJ z x y).2.1, (ofJ z x y).2.2) (nv k) 256).2.1, (mnF ((ofJ z x y).1, (ofJ z x y).2.1, (ofJ z x y).2.2) (nv k) 256).2.2)).2.2))))))] 1 [(3, pt bk6), (4, pt bk11), (15, .agg (List.toArray (([.bool ((bkJ ((mnF ((ofJ z x y).1, (ofJ z x y).2.1, (ofJ z x y).2.2) (nv k) 256).1, (mnF ((ofJ z x y).1, (ofJ z x y).2.1, (ofJ z x y).2.2) (nv k) 256).2.1, (mnF ((ofJ z x y).1, (ofJ z x y).2.1, (ofJ z x y).2.2) (nv k) 256).2.2)).1)] : List Value) ++ ((u64s ((bkJ ((mnF ((ofJ z x y).1, (ofJ z x y).2.1, (ofJ z x y).2.2) (nv k) 256).1, (mnF ((ofJ z x y).1, (ofJ z x y).2.1, (ofJ z x y).2.2) (nv k) 256).2.1, (mnF ((ofJ z x y).1, (ofJ z x y).2.1, (ofJ z x y).2.2) (nv k) 256).2.2)).2.1)) ++ (u64s ((bkJ ((mnF ((ofJ z x y).1, (ofJ z x y).2.1, (ofJ z x y).2.2) (nv k) 256).1, (mnF ((ofJ z x y).1, (ofJ z x y).2.1, (ofJ z x y).2.2) (nv k) 256).2.1, (mnF ((ofJ z x y).1, (ofJ z x y).2.1, (ofJ z x y).2.2) (nv k) 256).2.2)).2.2))))))] (En28.sb) (Hv24.trans (Ev.drew Hv24.heap)) ?_ fun ac73 wo74 En75 Hv76 => ?_
   ·
    refine s_a 0 0 4 (u64s k) rfl (load_whole (u64s_lenh hk)) (u64s_lenh hk) ?_
    refine s_a 1 0 9 (([.bool z] : List Value) ++ ((u64s x) ++ (u64s y))) rfl (load_whole (len_app rfl (len_app (u64s_lenh hx) (u64s_lenh hy)))) (len_app rfl (len_app (u64s_lenh hx) (u64s_lenh hy))) ?_
    refine s_f (fun _ => dof_go _ z x y hx hy) ?_
    refine s_f (fun _ => dmany_go _ k hk ((ofJ z x y).1) ((ofJ z x y).2.1) ((ofJ z x y).2.2) (ofJ_len hx hy).x (ofJ_len hx hy).y (ofJ_len hx hy).z) ?_
    refine s_f (fun _ => dback_go _ ((mnF ((ofJ z x y).1, (ofJ z x y).2.1, (ofJ z x y).2.2) (nv k) 256).1) ((mnF ((ofJ z x y).1, (ofJ z x y).2.1, (ofJ z x y).2.2) (nv k) 256).2.1) ((mnF ((ofJ z x y).1, (ofJ z x y).2.1, (ofJ z x y).2.2) (nv k) 256).2.2) (mnF_len ⟨(ofJ_len hx hy).x, (ofJ_len hx hy).y, (ofJ_len hx hy).z⟩ _ _).x (mnF_len ⟨(ofJ_len hx hy).x, (ofJ_len hx hy).y, (ofJ_len hx hy).z⟩ _ _).y (mnF_len ⟨(ofJ_len hx hy).x, (ofJ_len hx hy).y, (ofJ_len hx hy).z⟩ _ _).z) ?_
    exact s_n
   refine q_u 5 ?_
   refine m_g 2 0 9 (([.bool ((bkJ ((mnF ((ofJ z x y).1, (ofJ z x y).2.1, (ofJ z x y).2.2) (nv k) 256).1, (mnF ((ofJ z x y).1, (ofJ z x y).2.1, (ofJ z x y).2.2) (nv k) 256).2.1, (mnF ((ofJ z x y).1, (ofJ z x y).2.1, (ofJ z x y).2.2) (nv k) 256).2.2)).1)] : List Value) ++ ((u64s ((bkJ ((mnF ((ofJ z x y).1, (ofJ z x y).2.1, (ofJ z x y).2.2) (nv k) 256).1, (mnF ((ofJ z x y).1, (ofJ z x y).2.1, (ofJ z x y).2.2) (nv k) 256).2.1, (mnF ((ofJ z x y).1, (ofJ z x y).2.1, (ofJ z x y).2.2) (nv k) 256).2.2)).2.1)) ++ (u64s ((bkJ ((mnF ((ofJ z x y).1, (ofJ z x y).2.1, (ofJ z x y).2.2) (nv k) 256).1, (mnF ((ofJ z x y).1, (ofJ z x y).2.1, (ofJ z x y).2.2) (nv k) 256).2.1, (mnF ((ofJ z x y).1, (ofJ z x y).2.1, (ofJ z x y).2.2) (nv k) 256).2.2)).2.2)))) (([.bool ((bkJ ((mnF ((ofJ z x y).1, (ofJ z x y).2.1, (ofJ z x y).2.2) (nv k) 256).1, (mnF ((ofJ z x y).1, (ofJ z x y).2.1, (ofJ z x y).2.2) (nv k) 256).2.1, (mnF ((ofJ z x y).1, (ofJ z x y).2.1, (ofJ z x y).2.2) (nv k) 256).2.2)).1)] : List Value) ++ ((u64s ((bkJ ((mnF ((ofJ z x y).1, (ofJ z x y).2.1, (ofJ z x y).2.2) (nv k) 256).1, (mnF ((ofJ z x y).1, (ofJ z x y).2.1, (ofJ z x y).2.2) (nv k) 256).2.1, (mnF ((ofJ z x y).1, (ofJ z x y).2.1, (ofJ z x y).2.2) (nv k) 256).2.2)).2.1)) ++ (u64s ((bkJ ((mnF ((ofJ z x y).1, (ofJ z x y).2.1, (ofJ z x y).2.2) (nv k) 256).1, (mnF ((ofJ z x y).1, (ofJ z x y).2.1, (ofJ z x y).2.2) (nv k) 256).2.1, (mnF ((ofJ z x y).1, (ofJ z x y).2.1, (ofJ z x y).2.2) (nv k) 256).2.2)).2.2)))) [.box bk1 (u64s k) 24, .box bk6 (([.bool z] : List Value) ++ ((u64s x) ++ (u64s y))) 26, .box bk11 (([.bool ((bkJ ((mnF ((ofJ z x y).1, (ofJ z x y).2.1, (ofJ z x y).2.2) (nv k) 256).1, (mnF ((ofJ z x y).1, (ofJ z x y).2.1, (ofJ z x y).2.2) (nv k) 256).2.1, (mnF ((ofJ z x y).1, (ofJ z x y).2.1, (ofJ z x y).2.2) (nv k) 256).2.2)).1)] : List Value) ++ ((u64s ((bkJ ((mnF ((ofJ z x y).1, (ofJ z x y).2.1, (ofJ z x y).2.2) (nv k) 256).1, (mnF ((ofJ z x y).1, (ofJ z x y).2.1, (ofJ z x y).2.2) (nv k) 256).2.1, (mnF ((ofJ z x y).1, (ofJ z x y).2.1, (ofJ z x y).2.2) (nv k) 256).2.2)).2.1)) ++ (u64s ((bkJ ((mnF ((ofJ z x y).1, (ofJ z x y).2.1, (ofJ z x y).2.2) (nv k) 256).1, (mnF ((ofJ z x y).1, (ofJ z x y).2.1, (ofJ z x y).2.2) (nv k) 256).2.1, (mnF ((ofJ z x y).1, (ofJ z x y).2.1, (ofJ z x y).2.2) (nv k) 256).2.2)).2.2)))) 26] En75 Hv76 rfl (len_app rfl (len_app (u64s_lenh (bkJ_len ((mnF ((ofJ z x y).1, (ofJ z x y).2.1, (ofJ z x y).2.2) (nv k) 256).1, (mnF ((ofJ z x y).1, (ofJ z x y).2.1, (ofJ z x y).2.2) (nv k) 256).2.1, (mnF ((ofJ z x y).1, (ofJ z x y).2.1, (ofJ z x y).2.2) (nv k) 256).2.2)).1) (u64s_lenh (bkJ_len ((mnF ((ofJ z x y).1, (ofJ z x y).2.1, (ofJ z x y).2.2) (nv k) 256).1, (mnF ((ofJ z x y).1, (ofJ z x y).2.1, (ofJ z x y).2.2) (nv k) 256).2.1, (mnF ((ofJ z x y).1, (ofJ z x y).2.1, (ofJ z x y).2.2) (nv k) 256).2.2)).2))) (by rw [(len_app rfl (len_app (u64s_lenh (List.length_replicate)) (u64s_lenh (List.length_replicate))))]; decide) (one_app (one_all (by kernel_rfl)) (one_app (u64s_one _) (u64s_one _))) (store_whole (len_app rfl (len_app (u64s_lenh (List.length_replicate)) (u64s_lenh (List.length_replicate))))) rfl fun ac81 wo82 En83 Hv84 => ?_
   exact a_e ⟨En83.sb, Hv84.pk [1, 2]⟩
  rintro ac85 wo86 ⟨En87, Hv88⟩
  refine then_normal ?_
  refine wp_ret ?_
  refine d_cell1 (v := .agg (List.toArray (([.bool ((bkJ ((mnF ((ofJ z x y).1, (ofJ z x y).2.1, (ofJ z x y).2.2) (nv k) 256).1, (mnF ((ofJ z x y).1, (ofJ z x y).2.1, (ofJ z x y).2.2) (nv k) 256).2.1, (mnF ((ofJ z x y).1, (ofJ z x y).2.1, (ofJ z x y).2.2) (nv k) 256).2.2)).1)] : List Value) ++ ((u64s ((bkJ ((mnF ((ofJ z x y).1, (ofJ z x y).2.1, (ofJ z x y).2.2) (nv k) 256).1, (mnF ((ofJ z x y).1, (ofJ z x y).2.1, (ofJ z x y).2.2) (nv k) 256).2.1, (mnF ((ofJ z x y).1, (ofJ z x y).2.1, (ofJ z x y).2.2) (nv k) 256).2.2)).2.1)) ++ (u64s ((bkJ ((mnF ((ofJ z x y).1, (ofJ z x y).2.1, (ofJ z x y).2.2) (nv k) 256).1, (mnF ((ofJ z x y).1, (ofJ z x y).2.1, (ofJ z x y).2.2) (nv k) 256).2.1, (mnF ((ofJ z x y).1, (ofJ z x y).2.1, (ofJ z x y).2.2) (nv k) 256).2.2)).2.2)))))) (t := 4) (T := 26) (ad := ⟨bk11, 0, none⟩) En87 (by kernel_rfl) (by kernel_rfl) (Ev.cellAgg (t := 26) (k := 1) (off := 0) (m := 9) (xs := ([.bool ((bkJ ((mnF ((ofJ z x y).1, (ofJ z x y).2.1, (ofJ z x y).2.2) (nv k) 256).1, (mnF ((ofJ z x y).1, (ofJ z x y).2.1, (ofJ z x y).2.2) (nv k) 256).2.1, (mnF ((ofJ z x y).1, (ofJ z x y).2.1, (ofJ z x y).2.2) (nv k) 256).2.2)).1)] : List Value) ++ ((u64s ((bkJ ((mnF ((ofJ z x y).1, (ofJ z x y).2.1, (ofJ z x y).2.2) (nv k) 256).1, (mnF ((ofJ z x y).1, (ofJ z x y).2.1, (ofJ z x y).2.2) (nv k) 256).2.1, (mnF ((ofJ z x y).1, (ofJ z x y).2.1, (ofJ z x y).2.2) (nv k) 256).2.2)).2.1)) ++ (u64s ((bkJ ((mnF ((ofJ z x y).1, (ofJ z x y).2.1, (ofJ z x y).2.2) (nv k) 256).1, (mnF ((ofJ z x y).1, (ofJ z x y).2.1, (ofJ z x y).2.2) (nv k) 256).2.1, (mnF ((ofJ z x y).1, (ofJ z x y).2.1, (ofJ z x y).2.2) (nv k) 256).2.2)).2.2)))) Hv88 rfl (load_whole (len_app rfl (len_app (u64s_lenh (bkJ_len ((mnF ((ofJ z x y).1, (ofJ z x y).2.1, (ofJ z x y).2.2) (nv k) 256).1, (mnF ((ofJ z x y).1, (ofJ z x y).2.1, (ofJ z x y).2.2) (nv k) 256).2.1, (mnF ((ofJ z x y).1, (ofJ z x y).2.1, (ofJ z x y).2.2) (nv k) 256).2.2)).1) (u64s_lenh (bkJ_len ((mnF ((ofJ z x y).1, (ofJ z x y).2.1, (ofJ z x y).2.2) (nv k) 256).1, (mnF ((ofJ z x y).1, (ofJ z x y).2.1, (ofJ z x y).2.2) (nv k) 256).2.1, (mnF ((ofJ z x y).1, (ofJ z x y).2.1, (ofJ z x y).2.2) (nv k) 256).2.2)).2)))) (len_app rfl (len_app (u64s_lenh (bkJ_len ((mnF ((ofJ z x y).1, (ofJ z x y).2.1, (ofJ z x y).2.2) (nv k) 256).1, (mnF ((ofJ z x y).1, (ofJ z x y).2.1, (ofJ z x y).2.2) (nv k) 256).2.1, (mnF ((ofJ z x y).1, (ofJ z x y).2.1, (ofJ z x y).2.2) (nv k) 256).2.2)).1) (u64s_lenh (bkJ_len ((mnF ((ofJ z x y).1, (ofJ z x y).2.1, (ofJ z x y).2.2) (nv k) 256).1, (mnF ((ofJ z x y).1, (ofJ z x y).2.1, (ofJ z x y).2.2) (nv k) 256).2.1, (mnF ((ofJ z x y).1, (ofJ z x y).2.1, (ofJ z x y).2.2) (nv k) 256).2.2)).2))) (by kernel_rfl) (by kernel_rfl)) ?_
  exact ⟨ret_pz (a := ((bkJ ((mnF ((ofJ z x y).1, (ofJ z x y).2.1, (ofJ z x y).2.2) (nv k) 256).1, (mnF ((ofJ z x y).1, (ofJ z x y).2.1, (ofJ z x y).2.2) (nv k) 256).2.1, (mnF ((ofJ z x y).1, (ofJ z x y).2.1, (ofJ z x y).2.2) (nv k) 256).2.2)).1, (bkJ ((mnF ((ofJ z x y).1, (ofJ z x y).2.1, (ofJ z x y).2.2) (nv k) 256).1, (mnF ((ofJ z x y).1, (ofJ z x y).2.1, (ofJ z x y).2.2) (nv k) 256).2.1, (mnF ((ofJ z x y).1, (ofJ z x y).2.1, (ofJ z x y).2.2) (nv k) 256).2.2)).2.1, (bkJ ((mnF ((ofJ z x y).1, (ofJ z x y).2.1, (ofJ z x y).2.2) (nv k) 256).1, (mnF ((ofJ z x y).1, (ofJ z x y).2.1, (ofJ z x y).2.2) (nv k) 256).2.1, (mnF ((ofJ z x y).1, (ofJ z x y).2.1, (ofJ z x y).2.2) (nv k) 256).2.2)).2.2)) (b := mulP (nv k) (z, x, y)) ((bkJ_ok (rep_many (rep_ofJ hx hy hc29) (nv_lt hk))).trans (mulP_yes hc29)), Hv88.pk []⟩

theorem pbase_go (w : World) : Calls Try.prog 16 #[] w fun e w' => e = .returned (.agg (List.toArray (([.bool false] : List Value) ++ ((u64s (nd GX)) ++ (u64s (nd GY)))))) ∧ Ev w [] w' [] := by
 refine d_0 [] 4 Go.Proofs.Try.func16 Go.Proofs.Try.ntmps16 (Heap.nil _) fun act0 En0 Hv0 => ?_
 refine wp_seq ?_
 refine region_from ?_
 refine f_o ?_
 refine m_z 26 (([.bool false] : List Value) ++ ((u64s (List.replicate 4 0)) ++ (u64s (List.replicate 4 0)))) En0 Hv0 fun ac2 wo3 bk1 En4 Hv5 => ?_
 refine f_e ?_
 refine then_normal ?_
 refine wp_seq ?_
 refine region_from ?_
 refine d_k [0,1,2] [] 2 En4 fun ac6 En7 => ?_
 refine f_o ?_
 refine q_v (x := Instr.build 26 #[(1, .agg (List.toArray (u64s ([17627433388654248598, 8575836109218198432, 17923454489921339634, 7716867327612699207] : List UInt64)))), (2, .agg (List.toArray (u64s ([14678990851816772085, 3156516839386865358, 10297457778147434006, 5756518291402817435] : List UInt64))))]) (v := .agg (List.toArray (([.bool false] : List Value) ++ ((u64s ([17627433388654248598, 8575836109218198432, 17923454489921339634, 7716867327612699207] : List UInt64)) ++ (u64s ([14678990851816772085, 3156516839386865358, 10297457778147434006, 5756518291402817435] : List UInt64)))))) En7 (Go.Dbr.run_built [(0, 1), (1, 4), (5, 4)] [⟨1, [.bool false], none⟩, ⟨4, u64s (List.replicate 4 0), some (1, .agg (List.toArray (u64s ([17627433388654248598, 8575836109218198432, 17923454489921339634, 7716867327612699207] : List UInt64))), u64s ([17627433388654248598, 8575836109218198432, 17923454489921339634, 7716867327612699207] : List UInt64))⟩, ⟨4, u64s (List.replicate 4 0), some (2, .agg (List.toArray (u64s ([14678990851816772085, 3156516839386865358, 10297457778147434006, 5756518291402817435] : List UInt64))), u64s ([14678990851816772085, 3156516839386865358, 10297457778147434006, 5756518291402817435] : List UInt64))⟩] (fb_n rfl (fb_y (u64s_lenh (List.length_replicate)) (u64s_lenh (show List.length ([17627433388654248598, 8575836109218198432, 17923454489921339634, 7716867327612699207] : List UInt64) = 4 from rfl)) (fb_y (u64s_lenh (List.length_replicate)) (u64s_lenh (show List.length ([14678990851816772085, 3156516839386865358, 10297457778147434006, 5756518291402817435] : List UInt64) = 4 from rfl)) trivial))) _) fun ac8 En9 => ?_
 refine f_o ?_
 refine m_g 0 0 9 (([.bool false] : List Value) ++ ((u64s ([17627433388654248598, 8575836109218198432, 17923454489921339634, 7716867327612699207] : List UInt64)) ++ (u64s ([14678990851816772085, 3156516839386865358, 10297457778147434006, 5756518291402817435] : List UInt64)))) (([.bool false] : List Value) ++ ((u64s ([17627433388654248598, 8575836109218198432, 17923454489921339634, 7716867327612699207] : List UInt64)) ++ (u64s ([14678990851816772085, 3156516839386865358, 10297457778147434006, 5756518291402817435] : List UInt64)))) [.box bk1 (([.bool false] : List Value) ++ ((u64s ([17627433388654248598, 8575836109218198432, 17923454489921339634, 7716867327612699207] : List UInt64)) ++ (u64s ([14678990851816772085, 3156516839386865358, 10297457778147434006, 5756518291402817435] : List UInt64)))) 26] En9 Hv5 rfl (len_app rfl (len_app (u64s_lenh (show List.length ([17627433388654248598, 8575836109218198432, 17923454489921339634, 7716867327612699207] : List UInt64) = 4 from rfl)) (u64s_lenh (show List.length ([14678990851816772085, 3156516839386865358, 10297457778147434006, 5756518291402817435] : List UInt64) = 4 from rfl)))) (by rw [(len_app rfl (len_app (u64s_lenh (List.length_replicate)) (u64s_lenh (List.length_replicate))))]; decide) (one_app (one_all (by kernel_rfl)) (one_app (u64s_one _) (u64s_one _))) (store_whole (len_app rfl (len_app (u64s_lenh (List.length_replicate)) (u64s_lenh (List.length_replicate))))) rfl fun ac10 wo11 En12 Hv13 => ?_
 refine f_e ?_
 refine then_normal ?_
 refine wp_ret ?_
 refine d_cell1 (v := .agg (List.toArray (([.bool false] : List Value) ++ ((u64s ([17627433388654248598, 8575836109218198432, 17923454489921339634, 7716867327612699207] : List UInt64)) ++ (u64s ([14678990851816772085, 3156516839386865358, 10297457778147434006, 5756518291402817435] : List UInt64)))))) (t := 0) (T := 26) (ad := ⟨bk1, 0, none⟩) En12 (by kernel_rfl) (by kernel_rfl) (Ev.cellAgg (t := 26) (k := 0) (off := 0) (m := 9) (xs := ([.bool false] : List Value) ++ ((u64s ([17627433388654248598, 8575836109218198432, 17923454489921339634, 7716867327612699207] : List UInt64)) ++ (u64s ([14678990851816772085, 3156516839386865358, 10297457778147434006, 5756518291402817435] : List UInt64)))) Hv13 rfl (load_whole (len_app rfl (len_app (u64s_lenh (show List.length ([17627433388654248598, 8575836109218198432, 17923454489921339634, 7716867327612699207] : List UInt64) = 4 from rfl)) (u64s_lenh (show List.length ([14678990851816772085, 3156516839386865358, 10297457778147434006, 5756518291402817435] : List UInt64) = 4 from rfl))))) (len_app rfl (len_app (u64s_lenh (show List.length ([17627433388654248598, 8575836109218198432, 17923454489921339634, 7716867327612699207] : List UInt64) = 4 from rfl)) (u64s_lenh (show List.length ([14678990851816772085, 3156516839386865358, 10297457778147434006, 5756518291402817435] : List UInt64) = 4 from rfl)))) (by kernel_rfl) (by kernel_rfl)) ?_
 exact ⟨by kernel_rfl, Hv13.pk []⟩

theorem dbase_go (w : World) : Calls Try.prog 17 #[] w fun e w' => e = .returned (.agg (List.toArray (([.bool false] : List Value) ++ ((u64s (nd GX)) ++ (u64s (nd GY)))))) ∧ Ev w [] w' [] := by
 refine d_0 [] 4 Go.Proofs.Try.func17 Go.Proofs.Try.ntmps17 (Heap.nil _) fun act0 En0 Hv0 => ?_
 refine wp_seq ?_
 refine region_from ?_
 refine f_o ?_
 refine m_z 26 (([.bool false] : List Value) ++ ((u64s (List.replicate 4 0)) ++ (u64s (List.replicate 4 0)))) En0 Hv0 fun ac2 wo3 bk1 En4 Hv5 => ?_
 refine f_e ?_
 refine then_normal ?_
 refine wp_seq ?_
 refine region_from ?_
 refine d_k [0,1,2] [] 2 En4 fun ac6 En7 => ?_
 refine f_o ?_
 refine q_v (x := Instr.build 26 #[(1, .agg (List.toArray (u64s ([17627433388654248598, 8575836109218198432, 17923454489921339634, 7716867327612699207] : List UInt64)))), (2, .agg (List.toArray (u64s ([14678990851816772085, 3156516839386865358, 10297457778147434006, 5756518291402817435] : List UInt64))))]) (v := .agg (List.toArray (([.bool false] : List Value) ++ ((u64s ([17627433388654248598, 8575836109218198432, 17923454489921339634, 7716867327612699207] : List UInt64)) ++ (u64s ([14678990851816772085, 3156516839386865358, 10297457778147434006, 5756518291402817435] : List UInt64)))))) En7 (Go.Dbr.run_built [(0, 1), (1, 4), (5, 4)] [⟨1, [.bool false], none⟩, ⟨4, u64s (List.replicate 4 0), some (1, .agg (List.toArray (u64s ([17627433388654248598, 8575836109218198432, 17923454489921339634, 7716867327612699207] : List UInt64))), u64s ([17627433388654248598, 8575836109218198432, 17923454489921339634, 7716867327612699207] : List UInt64))⟩, ⟨4, u64s (List.replicate 4 0), some (2, .agg (List.toArray (u64s ([14678990851816772085, 3156516839386865358, 10297457778147434006, 5756518291402817435] : List UInt64))), u64s ([14678990851816772085, 3156516839386865358, 10297457778147434006, 5756518291402817435] : List UInt64))⟩] (fb_n rfl (fb_y (u64s_lenh (List.length_replicate)) (u64s_lenh (show List.length ([17627433388654248598, 8575836109218198432, 17923454489921339634, 7716867327612699207] : List UInt64) = 4 from rfl)) (fb_y (u64s_lenh (List.length_replicate)) (u64s_lenh (show List.length ([14678990851816772085, 3156516839386865358, 10297457778147434006, 5756518291402817435] : List UInt64) = 4 from rfl)) trivial))) _) fun ac8 En9 => ?_
 refine f_o ?_
 refine m_g 0 0 9 (([.bool false] : List Value) ++ ((u64s ([17627433388654248598, 8575836109218198432, 17923454489921339634, 7716867327612699207] : List UInt64)) ++ (u64s ([14678990851816772085, 3156516839386865358, 10297457778147434006, 5756518291402817435] : List UInt64)))) (([.bool false] : List Value) ++ ((u64s ([17627433388654248598, 8575836109218198432, 17923454489921339634, 7716867327612699207] : List UInt64)) ++ (u64s ([14678990851816772085, 3156516839386865358, 10297457778147434006, 5756518291402817435] : List UInt64)))) [.box bk1 (([.bool false] : List Value) ++ ((u64s ([17627433388654248598, 8575836109218198432, 17923454489921339634, 7716867327612699207] : List UInt64)) ++ (u64s ([14678990851816772085, 3156516839386865358, 10297457778147434006, 5756518291402817435] : List UInt64)))) 26] En9 Hv5 rfl (len_app rfl (len_app (u64s_lenh (show List.length ([17627433388654248598, 8575836109218198432, 17923454489921339634, 7716867327612699207] : List UInt64) = 4 from rfl)) (u64s_lenh (show List.length ([14678990851816772085, 3156516839386865358, 10297457778147434006, 5756518291402817435] : List UInt64) = 4 from rfl)))) (by rw [(len_app rfl (len_app (u64s_lenh (List.length_replicate)) (u64s_lenh (List.length_replicate))))]; decide) (one_app (one_all (by kernel_rfl)) (one_app (u64s_one _) (u64s_one _))) (store_whole (len_app rfl (len_app (u64s_lenh (List.length_replicate)) (u64s_lenh (List.length_replicate))))) rfl fun ac10 wo11 En12 Hv13 => ?_
 refine f_e ?_
 refine then_normal ?_
 refine wp_ret ?_
 refine d_cell1 (v := .agg (List.toArray (([.bool false] : List Value) ++ ((u64s ([17627433388654248598, 8575836109218198432, 17923454489921339634, 7716867327612699207] : List UInt64)) ++ (u64s ([14678990851816772085, 3156516839386865358, 10297457778147434006, 5756518291402817435] : List UInt64)))))) (t := 0) (T := 26) (ad := ⟨bk1, 0, none⟩) En12 (by kernel_rfl) (by kernel_rfl) (Ev.cellAgg (t := 26) (k := 0) (off := 0) (m := 9) (xs := ([.bool false] : List Value) ++ ((u64s ([17627433388654248598, 8575836109218198432, 17923454489921339634, 7716867327612699207] : List UInt64)) ++ (u64s ([14678990851816772085, 3156516839386865358, 10297457778147434006, 5756518291402817435] : List UInt64)))) Hv13 rfl (load_whole (len_app rfl (len_app (u64s_lenh (show List.length ([17627433388654248598, 8575836109218198432, 17923454489921339634, 7716867327612699207] : List UInt64) = 4 from rfl)) (u64s_lenh (show List.length ([14678990851816772085, 3156516839386865358, 10297457778147434006, 5756518291402817435] : List UInt64) = 4 from rfl))))) (len_app rfl (len_app (u64s_lenh (show List.length ([17627433388654248598, 8575836109218198432, 17923454489921339634, 7716867327612699207] : List UInt64) = 4 from rfl)) (u64s_lenh (show List.length ([14678990851816772085, 3156516839386865358, 10297457778147434006, 5756518291402817435] : List UInt64) = 4 from rfl)))) (by kernel_rfl) (by kernel_rfl)) ?_
 exact ⟨by kernel_rfl, Hv13.pk []⟩

end Go.Proofs.Ytpfhmbbiadpbeaa
