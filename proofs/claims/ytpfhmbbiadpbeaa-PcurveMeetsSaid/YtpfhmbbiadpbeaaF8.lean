/- Layer 4: bytes of numbers. -/
import Derived.Test.YtpfhmbbiadpbeaaF7
namespace Go.Proofs.Ytpfhmbbiadpbeaa
open Go.Dbr
set_option maxRecDepth 100000
set_option maxHeartbeats 2000000
set_option linter.unusedVariables false
set_option linter.unusedSimpArgs false

/-- bytes of a number, the lowest first -/
def lb : Nat → Nat → List UInt8
  | 0, _ => []
  | k + 1, n => UInt8.ofNat n :: lb k (n / 256)
theorem lb_len : ∀ (k n : Nat), (lb k n).length = k
  | 0, _ => rfl
  | k + 1, n => by rw [lb, List.length_cons, lb_len k]
theorem ofNat8_val (n : Nat) : (UInt8.ofNat n).toNat = n % 256 := by
  show (BitVec.ofNat 8 n).toNat = n % 256
  rw [BitVec.toNat_ofNat]
theorem lb_snoc : ∀ (k n : Nat), lb (k + 1) n = lb k n ++ [UInt8.ofNat (n / 256 ^ k)]
  | 0, n => by simp [lb]
  | k + 1, n => by rw [lb, lb_snoc k (n / 256), lb, List.cons_append, Nat.div_div_eq_div_mul, Nat.pow_succ, Nat.mul_comm 256]
theorem dv_dig : ∀ (l : List UInt64) (j : Nat), (List.getD l j 0).toNat = dv 18446744073709551616 l / 18446744073709551616 ^ j % 18446744073709551616
  | [], j => by simp [dv]
  | x :: r, 0 => by have := lt64 x; rw [List.getD_cons_zero, dv_cons, Nat.pow_zero, Nat.div_one]; omega
  | x :: r, j + 1 => by
    have := lt64 x
    rw [List.getD_cons_succ, dv_dig r j, dv_cons, Nat.pow_succ, Nat.mul_comm (_ ^ j), ← Nat.div_div_eq_div_mul]
    congr 2
    omega
theorem p64 : 18446744073709551616 = 256 ^ 8 := by decide
theorem take_set_succ {α : Type} {l : List α} {i : Nat} {x : α} (h : i < l.length) : List.take (i + 1) (List.set l i x) = List.take i l ++ [x] := by
  rw [List.take_add_one, List.take_set_of_le (Nat.le_refl i), List.getElem?_set_self h]
  rfl
theorem byte_at {a : List UInt64} (ha : a.length = 4) {i : Nat} (hi : i < 32) : UInt64.toUInt8 (List.getD a (i / 8) 0 >>> UInt64.ofNat (8 * (i % 8))) = UInt8.ofNat (nv a / 256 ^ i) := by
  apply UInt8.toNat_inj.1
  have hs : (UInt64.ofNat (8 * (i % 8))).toNat % 64 = 8 * (i % 8) := by rw [ofNat_val]; omega
  have hp : 256 ^ i = 18446744073709551616 ^ (i / 8) * 256 ^ (i % 8) := by rw [p64, ← Nat.pow_mul, ← Nat.pow_add]; congr 1; omega
  rw [UInt64.toNat_toUInt8, UInt64.toNat_shiftRight, hs, ofNat8_val, dv_dig, Nat.shiftRight_eq_div_pow, hp, ← Nat.div_div_eq_div_mul]
  show _ = dv _ _ / _ / _ % _
  generalize dv 18446744073709551616 a / 18446744073709551616 ^ (i / 8) = d
  have hr : 2 ^ (8 * (i % 8)) = 256 ^ (i % 8) := by rw [show (256 : Nat) = 2 ^ 8 from rfl, ← Nat.pow_mul]
  have hB : 18446744073709551616 = 256 ^ (i % 8) * 256 ^ (8 - i % 8) := by rw [p64, ← Nat.pow_add]; congr 1; omega
  rw [hr]
  conv => lhs; rw [hB]
  rw [Nat.mod_mul_right_div_self, Nat.mod_mod_of_dvd]
  exact ⟨256 ^ (8 - i % 8 - 1), by rw [← Nat.pow_succ']; congr 1; omega⟩

theorem tole_go (w : World) (a : List UInt64) (ha : List.length a = 4) : Calls Try.prog 72 #[.agg (List.toArray (u64s a))] w fun e w' => e = .returned (.agg (List.toArray (bys (lb 32 (nv a))))) ∧ Ev w [] w' [] := by
 refine d_0 [(0, .agg (List.toArray (u64s a)))] 21 Go.Proofs.Try.func72 Go.Proofs.Try.ntmps72 (Heap.nil _) fun act0 En0 Hv0 => ?_
 refine wp_seq ?_
 refine region_from ?_
 refine f_o ?_
 refine m_m 24 (u64s a) En0 Hv0 fun ac2 wo3 bk1 En4 Hv5 => ?_
 refine f_o ?_
 refine m_z 41 (bys (List.replicate 32 0)) En4 Hv5 fun ac7 wo8 bk6 En9 Hv10 => ?_
 refine f_e ?_
 refine then_normal ?_
 refine wp_seq ?_
 refine region_from ?_
 refine f_o ?_
 refine m_z 41 (bys (List.replicate 32 0)) En9 Hv10 fun ac12 wo13 bk11 En14 Hv15 => ?_
 refine f_e ?_
 refine then_normal ?_
 refine wp_seq ?_
 refine d_s [1,2,3,5] [] En14 fun ac16 En17 => ?_
 refine wp_block ?_
 refine loop_m (fun ms18 ac wo => ∃ (i : Nat) (x : List UInt8), ms18 = (33 - i : Nat) ∧ Env ac 21 [(1, pt bk1), (2, pt bk6), (3, pt bk11), (5, ni i)] ∧ Ev w [] wo [.box bk11 (bys x) 41, .box bk1 (u64s a) 24, .box bk6 (bys (List.replicate 32 0)) 41] ∧ (i ≤ 32) ∧ (List.length x = 32) ∧ (List.take i x = lb i (nv a))) ⟨_, 0, List.replicate 32 0, rfl, En17.sb, Hv15.pk [2, 0, 1], by omega, List.length_replicate, rfl⟩ ?_
 rintro mm24 ac20 wo21 ⟨i, x, rfl, En22, Hv23, hi, hx, hxv⟩
 refine d_s [1,2,3,5,6] [] En22 fun ac25 En26 => ?_
 refine wp_seq ?_
 refine c_d (((i : Nat) : Int) < (32 : Int)) En26 (fun hc27 => ?_) (fun hc27 => ?_)
 ·
  refine wp_skip ?_
  refine then_normal ?_
  refine wp_seq ?_
  refine wp_block ?_
  refine d_s [1,2,3,4,5] [] En26 fun ac28 En29 => ?_
  refine region_from ?_
  refine d_k [1,2,3,4,5,8,10] [(2, g_i .i64 (show IntKind.wrap .i64 (Int.tdiv ((i : Nat) : Int) (8 : Int)) = ((i / 8 : Nat) : Int) from Go.Dbr.i64_quo_nat (a := ((i : Nat) : Int)) (n := i) (m := 8) rfl (by omega)))] 3 En29 fun ac30 En31 => ?_
  refine f_o ?_
  refine q_v (x := Instr.indexAt 24 (pt bk1) (ni (i / 8))) (v := .pointer (some ⟨bk1, i / 8, none⟩)) En31 (Go.Dbr.run_indexarr (e := 22) (sz := 1) (m := 4) (j := i / 8) (o := i / 8) (by kernel_rfl) (by kernel_rfl) (by omega) (by omega) (by omega) _) fun ac32 En33 => ?_
  refine f_o ?_
  have hb34 : i / 8 < List.length a := by rw [ha]; omega
  refine m_v 1 (i / 8) (uv64 (List.getD a (i / 8) 0)) En33 Hv23 rfl (u64s_getD hb34) fun ac35 En36 => ?_
  refine d_k [1,2,3,5,8,12,15] [(6, g_i .i64 (show Int.tmod ((i : Nat) : Int) (8 : Int) = ((i % 8 : Nat) : Int) from Go.Dbr.i64_rem_nat (a := ((i : Nat) : Int)) (n := i) (m := 8) rfl (by omega))), (7, g_n (w_m 8 (i % 8)))] 8 En36 fun ac37 En38 => ?_
  refine f_o ?_
  refine q_v En38 (Go.Dbr.run_shr_u64 (List.getD a (i / 8) 0) .i64 (8 * (i % 8)) (by omega) _) fun ac39 En40 => ?_
  refine d_k [1,2,3,5,8,17] [(9, g_i .u8 (Go.Dbr.u64_to_u8 (x := (List.getD a (i / 8) 0) >>> UInt64.ofNat (8 * (i % 8))) rfl))] 10 En40 fun ac41 En42 => ?_
  refine f_o ?_
  refine q_v (x := Instr.indexAt 41 (pt bk11) (ni i)) (v := .pointer (some ⟨bk11, i, none⟩)) En42 (Go.Dbr.run_indexarr (e := 5) (sz := 1) (m := 32) (j := i) (o := i) (by kernel_rfl) (by kernel_rfl) (by omega) (by omega) (by omega) _) fun ac43 En44 => ?_
  refine f_o ?_
  have hb45 : i < List.length x := by rw [hx]; omega
  refine m_t 0 i (bv (UInt64.toUInt8 ((List.getD a (i / 8) 0) >>> UInt64.ofNat (8 * (i % 8))))) [.box bk11 (bys (List.set x i (UInt64.toUInt8 ((List.getD a (i / 8) 0) >>> UInt64.ofNat (8 * (i % 8)))))) 41, .box bk1 (u64s a) 24, .box bk6 (bys (List.replicate 32 0)) 41] En44 Hv23 rfl (bys_getD hb45) (bys_set _ _ _) rfl fun ac46 wo47 En48 Hv49 => ?_
  refine f_e ?_
  refine block_normal ?_
  refine then_normal ?_
  refine d_r [1,2,3,5] [(0, g_n (w_a i 1))] En48 fun ac50 En51 => ?_
  refine then_normal ?_
  refine ⟨_, ⟨i + 1, (List.set x i (UInt64.toUInt8 ((List.getD a (i / 8) 0) >>> UInt64.ofNat (8 * (i % 8))))), rfl, En51.sb, Hv49.pk [0, 1, 2], by omega, (List.length_set.trans hx), by rw [take_set_succ (by omega), hxv, byte_at ha (by omega), lb_snoc]⟩, ?_⟩
  omega
 ·
  refine wp_exit ?_
  refine then_exit ?_
  refine then_exit ?_
  refine block_exit ?_
  refine then_normal ?_
  refine wp_seq ?_
  refine region_from ?_
  refine f_o ?_
  refine m_a 0 0 32 (bys x) En26 Hv23 rfl (load_whole (bys_lenh hx)) (bys_lenh hx) fun ac52 En53 => ?_
  refine f_o ?_
  refine m_g 2 0 32 (bys x) (bys x) [.box bk11 (bys x) 41, .box bk1 (u64s a) 24, .box bk6 (bys x) 41] En53 Hv23 rfl (bys_lenh hx) (by rw [(bys_lenh (List.length_replicate))]; decide) (bys_one _) (store_whole (bys_lenh (List.length_replicate))) rfl fun ac54 wo55 En56 Hv57 => ?_
  refine f_e ?_
  refine then_normal ?_
  refine wp_ret ?_
  refine d_cell1 (v := .agg (List.toArray (bys x))) (t := 2) (T := 41) (ad := ⟨bk6, 0, none⟩) En56 (by kernel_rfl) (by kernel_rfl) (Ev.cellAgg (t := 41) (k := 2) (off := 0) (m := 32) (xs := bys x) Hv57 rfl (load_whole (bys_lenh hx)) (bys_lenh hx) (by kernel_rfl) (by kernel_rfl)) ?_
  have hi32 : i = 32 := by omega
  have hxe : x = lb 32 (nv a) := by rw [hi32, List.take_of_length_le (by omega)] at hxv; exact hxv
  subst hxe
  exact ⟨rfl, Hv57.pk []⟩

theorem rtole_go (w : World) (a : List UInt64) (ha : List.length a = 4) : Calls Try.prog 74 #[.agg (List.toArray (u64s a))] w fun e w' => e = .returned (.agg (List.toArray (bys (lb 32 (nv a))))) ∧ Ev w [] w' [] := by
 refine d_0 [(0, .agg (List.toArray (u64s a)))] 21 Go.Proofs.Try.func74 Go.Proofs.Try.ntmps74 (Heap.nil _) fun act0 En0 Hv0 => ?_
 refine wp_seq ?_
 refine region_from ?_
 refine f_o ?_
 refine m_m 24 (u64s a) En0 Hv0 fun ac2 wo3 bk1 En4 Hv5 => ?_
 refine f_o ?_
 refine m_z 41 (bys (List.replicate 32 0)) En4 Hv5 fun ac7 wo8 bk6 En9 Hv10 => ?_
 refine f_e ?_
 refine then_normal ?_
 refine wp_seq ?_
 refine region_from ?_
 refine f_o ?_
 refine m_z 41 (bys (List.replicate 32 0)) En9 Hv10 fun ac12 wo13 bk11 En14 Hv15 => ?_
 refine f_e ?_
 refine then_normal ?_
 refine wp_seq ?_
 refine d_s [1,2,3,4] [] En14 fun ac16 En17 => ?_
 refine wp_block ?_
 refine loop_m (fun ms18 ac wo => ∃ (i : Nat) (x : List UInt8), ms18 = (33 - i : Nat) ∧ Env ac 21 [(1, pt bk1), (2, pt bk6), (3, pt bk11), (4, ni i)] ∧ Ev w [] wo [.box bk11 (bys x) 41, .box bk1 (u64s a) 24, .box bk6 (bys (List.replicate 32 0)) 41] ∧ (i ≤ 32) ∧ (List.length x = 32) ∧ (List.take i x = lb i (nv a))) ⟨_, 0, List.replicate 32 0, rfl, En17.sb, Hv15.pk [2, 0, 1], by omega, List.length_replicate, rfl⟩ ?_
 rintro mm24 ac20 wo21 ⟨i, x, rfl, En22, Hv23, hi, hx, hxv⟩
 refine wp_seq ?_
 refine d_s [1,2,3,4,6] [] En22 fun ac25 En26 => ?_
 refine c_d (((i : Nat) : Int) < (32 : Int)) En26 (fun hc27 => ?_) (fun hc27 => ?_)
 ·
  refine wp_skip ?_
  refine then_normal ?_
  refine wp_seq ?_
  refine wp_block ?_
  refine region_from ?_
  refine d_k [1,2,3,4,9,11] [(2, g_i .i64 (show IntKind.wrap .i64 (Int.tdiv ((i : Nat) : Int) (8 : Int)) = ((i / 8 : Nat) : Int) from Go.Dbr.i64_quo_nat (a := ((i : Nat) : Int)) (n := i) (m := 8) rfl (by omega)))] 3 En26 fun ac28 En29 => ?_
  refine f_o ?_
  refine q_v (x := Instr.indexAt 24 (pt bk1) (ni (i / 8))) (v := .pointer (some ⟨bk1, i / 8, none⟩)) En29 (Go.Dbr.run_indexarr (e := 22) (sz := 1) (m := 4) (j := i / 8) (o := i / 8) (by kernel_rfl) (by kernel_rfl) (by omega) (by omega) (by omega) _) fun ac30 En31 => ?_
  refine f_o ?_
  have hb32 : i / 8 < List.length a := by rw [ha]; omega
  refine m_v 1 (i / 8) (uv64 (List.getD a (i / 8) 0)) En31 Hv23 rfl (u64s_getD hb32) fun ac33 En34 => ?_
  refine d_k [1,2,3,4,9,13,16] [(6, g_i .i64 (show Int.tmod ((i : Nat) : Int) (8 : Int) = ((i % 8 : Nat) : Int) from Go.Dbr.i64_rem_nat (a := ((i : Nat) : Int)) (n := i) (m := 8) rfl (by omega))), (7, g_n (w_m 8 (i % 8)))] 8 En34 fun ac35 En36 => ?_
  refine f_o ?_
  refine q_v En36 (Go.Dbr.run_shr_u64 (List.getD a (i / 8) 0) .i64 (8 * (i % 8)) (by omega) _) fun ac37 En38 => ?_
  refine d_k [1,2,3,4,9,18] [(9, g_i .u8 (Go.Dbr.u64_to_u8 (x := (List.getD a (i / 8) 0) >>> UInt64.ofNat (8 * (i % 8))) rfl))] 10 En38 fun ac39 En40 => ?_
  refine f_o ?_
  refine q_v (x := Instr.indexAt 41 (pt bk11) (ni i)) (v := .pointer (some ⟨bk11, i, none⟩)) En40 (Go.Dbr.run_indexarr (e := 5) (sz := 1) (m := 32) (j := i) (o := i) (by kernel_rfl) (by kernel_rfl) (by omega) (by omega) (by omega) _) fun ac41 En42 => ?_
  refine f_o ?_
  have hb43 : i < List.length x := by rw [hx]; omega
  refine m_t 0 i (bv (UInt64.toUInt8 ((List.getD a (i / 8) 0) >>> UInt64.ofNat (8 * (i % 8))))) [.box bk11 (bys (List.set x i (UInt64.toUInt8 ((List.getD a (i / 8) 0) >>> UInt64.ofNat (8 * (i % 8)))))) 41, .box bk1 (u64s a) 24, .box bk6 (bys (List.replicate 32 0)) 41] En42 Hv23 rfl (bys_getD hb43) (bys_set _ _ _) rfl fun ac44 wo45 En46 Hv47 => ?_
  refine f_e ?_
  refine block_normal ?_
  refine then_normal ?_
  refine d_r [1,2,3,4] [(1, g_n (w_a i 1))] En46 fun ac48 En49 => ?_
  refine then_normal ?_
  refine ⟨_, ⟨i + 1, (List.set x i (UInt64.toUInt8 ((List.getD a (i / 8) 0) >>> UInt64.ofNat (8 * (i % 8))))), rfl, En49.sb, Hv47.pk [0, 1, 2], by omega, (List.length_set.trans hx), by rw [take_set_succ (by omega), hxv, byte_at ha (by omega), lb_snoc]⟩, ?_⟩
  omega
 ·
  refine wp_exit ?_
  refine then_exit ?_
  refine then_exit ?_
  refine block_exit ?_
  refine then_normal ?_
  refine wp_seq ?_
  refine region_from ?_
  refine f_o ?_
  refine m_a 0 0 32 (bys x) En26 Hv23 rfl (load_whole (bys_lenh hx)) (bys_lenh hx) fun ac50 En51 => ?_
  refine f_o ?_
  refine m_g 2 0 32 (bys x) (bys x) [.box bk11 (bys x) 41, .box bk1 (u64s a) 24, .box bk6 (bys x) 41] En51 Hv23 rfl (bys_lenh hx) (by rw [(bys_lenh (List.length_replicate))]; decide) (bys_one _) (store_whole (bys_lenh (List.length_replicate))) rfl fun ac52 wo53 En54 Hv55 => ?_
  refine f_e ?_
  refine then_normal ?_
  refine wp_ret ?_
  refine d_cell1 (v := .agg (List.toArray (bys x))) (t := 2) (T := 41) (ad := ⟨bk6, 0, none⟩) En54 (by kernel_rfl) (by kernel_rfl) (Ev.cellAgg (t := 41) (k := 2) (off := 0) (m := 32) (xs := bys x) Hv55 rfl (load_whole (bys_lenh hx)) (bys_lenh hx) (by kernel_rfl) (by kernel_rfl)) ?_
  have hi32 : i = 32 := by omega
  have hxe : x = lb 32 (nv a) := by rw [hi32, List.take_of_length_le (by omega)] at hxv; exact hxv
  subst hxe
  exact ⟨rfl, Hv55.pk []⟩

end Go.Proofs.Ytpfhmbbiadpbeaa
