/- Layer 4: what a number leaves; products. -/
import Derived.Test.YtpfhmbbiadpbeaaF1
namespace Go.Proofs.Ytpfhmbbiadpbeaa
open Go.Dbr
set_option maxRecDepth 100000
set_option maxHeartbeats 2000000
set_option linter.unusedVariables false
set_option linter.unusedSimpArgs false

theorem sub_nd {x m : List UInt64} (hx : x.length = 4) (h : nv m ≤ nv x) : nv (nd (nv x + W256 - nv m)) = nv x - nv m := by
  have h1 := nv_lt hx
  rw [nd_val]
  simp only [W256] at *
  omega
theorem mac_val {x y t c : UInt64} : (addLo (addLo (x * y) t 0) c 0).toNat + 18446744073709551616 * (mulHi x y + addHi (x * y) t 0 + addHi (addLo (x * y) t 0) c 0).toNat = x.toNat * y.toNat + t.toNat + c.toNat := by
  have e1 := mul_val (x := x) (y := y)
  have e2 := add_val (x := x * y) (y := t) (c := 0)
  have e3 := add_val (x := addLo (x * y) t 0) (y := c) (c := 0)
  have b := mul_lt x y
  have h1 := lt64 t
  have h2 := lt64 c
  have z : (0 : UInt64).toNat = 0 := rfl
  rw [UInt64.toNat_add, UInt64.toNat_add]
  generalize x.toNat * y.toNat = p at *
  omega
/-- the number of the lowest digits -/
def dvk (l : List UInt64) : Nat → Nat
  | 0 => 0
  | k + 1 => dvk l k + (List.getD l k 0).toNat * 18446744073709551616 ^ k
theorem dvk_cons (x : UInt64) (r : List UInt64) : ∀ k, dvk (x :: r) (k + 1) = x.toNat + 18446744073709551616 * dvk r k
  | 0 => by simp [dvk]
  | k + 1 => by
    rw [dvk, dvk_cons x r k, dvk, List.getD_cons_succ, Nat.pow_succ, Nat.mul_add, Nat.add_assoc, ← Nat.mul_assoc, Nat.mul_comm _ 18446744073709551616]
theorem dvk_all : ∀ (l : List UInt64), dvk l l.length = dv 18446744073709551616 l
  | [] => rfl
  | x :: r => by rw [List.length_cons, dvk_cons, dvk_all r]; rfl
theorem dvk4 {l : List UInt64} (h : l.length = 4) : dvk l 4 = nv l := by rw [← h]; exact dvk_all l
theorem dvk8 {l : List UInt64} (h : l.length = 8) : dvk l 8 = dv 18446744073709551616 l := by rw [← h]; exact dvk_all l
theorem set_step {u : List UInt64} {j : Nat} {x y c : UInt64} {P : Nat} (hj : j < u.length) (hv : dv 18446744073709551616 u + c.toNat * 18446744073709551616 ^ j = P) :
    dv 18446744073709551616 (List.set u j (addLo (addLo (x * y) (List.getD u j 0) 0) c 0)) + (mulHi x y + addHi (x * y) (List.getD u j 0) 0 + addHi (addLo (x * y) (List.getD u j 0) 0) c 0).toNat * 18446744073709551616 ^ (j + 1) = P + x.toNat * y.toNat * 18446744073709551616 ^ j := by
  have e := dv_set 18446744073709551616 (addLo (addLo (x * y) (List.getD u j 0) 0) c 0) u j hj
  have m := mac_val (x := x) (y := y) (t := List.getD u j 0) (c := c)
  rw [Nat.pow_succ, Nat.mul_comm (18446744073709551616 ^ j), ← Nat.mul_assoc]
  have m2 := congrArg (· * 18446744073709551616 ^ j) m
  simp only [Nat.add_mul] at m2
  rw [Nat.mul_comm 18446744073709551616 (UInt64.toNat _)] at m2
  generalize 18446744073709551616 ^ j = q at *
  omega
theorem whole_in {a b u : List UInt64} {i k : Nat} {c : UInt64} (hlu : u.length = 8) (hj : i + k < 8)
    (hv : dv 18446744073709551616 u + c.toNat * 18446744073709551616 ^ (i + k) = nv a * dvk b i + dvk a k * (List.getD b i 0).toNat * 18446744073709551616 ^ i) :
    dv 18446744073709551616 (List.set u (i + k) (addLo (addLo (List.getD a k 0 * List.getD b i 0) (List.getD u (i + k) 0) 0) c 0)) + (mulHi (List.getD a k 0) (List.getD b i 0) + addHi (List.getD a k 0 * List.getD b i 0) (List.getD u (i + k) 0) 0 + addHi (addLo (List.getD a k 0 * List.getD b i 0) (List.getD u (i + k) 0) 0) c 0).toNat * 18446744073709551616 ^ (i + (k + 1)) = nv a * dvk b i + dvk a (k + 1) * (List.getD b i 0).toNat * 18446744073709551616 ^ i := by
  rw [← Nat.add_assoc, set_step (by omega) hv, dvk, Nat.add_mul, Nat.add_mul, Nat.add_assoc]
  congr 2
  rw [Nat.pow_add]
  ac_rfl
theorem whole_out {a b u : List UInt64} {i : Nat} {c : UInt64} (ha : a.length = 4) (hlu : u.length = 8) (hi : i < 4) (hz : List.getD u (i + 4) 0 = 0)
    (hv : dv 18446744073709551616 u + c.toNat * 18446744073709551616 ^ (i + 4) = nv a * dvk b i + dvk a 4 * (List.getD b i 0).toNat * 18446744073709551616 ^ i) :
    dv 18446744073709551616 (List.set u (i + 4) c) = nv a * dvk b (i + 1) := by
  have e := dv_set 18446744073709551616 c u (i + 4) (by omega)
  rw [hz, show (0 : UInt64).toNat = 0 from rfl, Nat.zero_mul, Nat.add_zero, hv, dvk4 ha] at e
  rw [e, dvk, Nat.mul_add, Nat.mul_assoc]
theorem getD_set_ne {u : List UInt64} {i j : Nat} (x : UInt64) (h : i ≠ j) : List.getD (List.set u i x) j 0 = List.getD u j 0 := by
  simp only [List.getD_eq_getElem?_getD]
  rw [List.getElem?_set_ne h]
theorem zeros8 (j : Nat) : List.getD (List.replicate 8 (0 : UInt64)) j 0 = 0 := by
  simp only [List.getD_eq_getElem?_getD, List.getElem?_replicate]
  split <;> rfl

theorem right_go (w : World) (a m : List UInt64) (ha : List.length a = 4) (hm : List.length m = 4) (h0 : 0 < nv m) : Calls Try.prog 82 #[.agg (List.toArray (u64s a)), .agg (List.toArray (u64s m))] w fun e w' => e = .returned (.agg (List.toArray (u64s (nd (nv a % nv m))))) ∧ Ev w [] w' [] := by
 refine d_0 [(0, .agg (List.toArray (u64s a))), (1, .agg (List.toArray (u64s m)))] 14 Go.Proofs.Try.func82 Go.Proofs.Try.ntmps82 (Heap.nil _) fun act0 En0 Hv0 => ?_
 refine wp_seq ?_
 refine region_from ?_
 refine f_o ?_
 refine m_m 24 (u64s a) En0 Hv0 fun ac2 wo3 bk1 En4 Hv5 => ?_
 refine f_o ?_
 refine m_m 24 (u64s m) En4 Hv5 fun ac7 wo8 bk6 En9 Hv10 => ?_
 refine f_o ?_
 refine m_z 24 (u64s (List.replicate 4 0)) En9 Hv10 fun ac12 wo13 bk11 En14 Hv15 => ?_
 refine f_e ?_
 refine then_normal ?_
 refine wp_seq ?_
 refine wp_block ?_
 refine loop_m (fun ms16 ac wo => ∃ (x : List UInt64), ms16 = (nv x : Nat) ∧ Env ac 14 [(2, pt bk1), (3, pt bk6), (4, pt bk11)] ∧ Ev w [] wo [.box bk1 (u64s x) 24, .box bk6 (u64s m) 24, .box bk11 (u64s (List.replicate 4 0)) 24] ∧ (List.length x = 4) ∧ (nv x % nv m = nv a % nv m)) ⟨_, a, rfl, En14.sb, Hv15.pk [0, 1, 2], ha, rfl⟩ ?_
 rintro mm22 ac18 wo19 ⟨x, rfl, En20, Hv21, hx, hxm⟩
 refine wp_seq ?_
 refine wp_seq ?_
 refine region_from ?_
 refine f_o ?_
 refine c_l [0,1] (M := [.box bk1 (u64s x) 24, .box bk6 (u64s m) 24]) En20 Hv21 (fun hM23 => less_go _ bk1 bk6 x m hx hm hM23) ?_
 rintro _ wo24 ⟨rfl, he25⟩
 refine ⟨_, _, [.box bk1 (u64s x) 24, .box bk6 (u64s m) 24, .box bk11 (u64s (List.replicate 4 0)) 24], rfl, he25, by kernel_rfl, fun ac27 En28 Hv29 => ?_⟩
 refine d_e [2,3,4,6] [] En28 fun ac30 En31 => ?_
 refine then_normal ?_
 refine cond_at En31 (t := !(decide (nv x < nv m))) (by kernel_rfl) (fun hc32 => ?_) (fun hc32 => ?_)
 ·
  replace hc32 : ¬ (nv x < nv m) := by simpa using hc32
  refine wp_skip ?_
  refine then_normal ?_
  refine wp_block ?_
  refine region_from ?_
  refine f_o ?_
  refine m_a 0 0 4 (u64s x) En31 Hv29 rfl (load_whole (u64s_lenh hx)) (u64s_lenh hx) fun ac33 En34 => ?_
  refine f_o ?_
  refine m_a 1 0 4 (u64s m) En34 Hv29 rfl (load_whole (u64s_lenh hm)) (u64s_lenh hm) fun ac35 En36 => ?_
  refine f_o ?_
  refine c_p En36 Hv29 (minus_go _ x m hx hm) fun ac41 wo38 En42 Hv43 => ?_
  refine d_k [2,3,4,11] [] 6 En42 fun ac44 En45 => ?_
  refine f_o ?_
  refine m_g 0 0 4 (u64s (nd (nv x + W256 - nv m))) (u64s (nd (nv x + W256 - nv m))) [.box bk1 (u64s (nd (nv x + W256 - nv m))) 24, .box bk6 (u64s m) 24, .box bk11 (u64s (List.replicate 4 0)) 24] En45 Hv43 rfl (u64s_lenh (nds_len _ _)) (by rw [(u64s_lenh hx)]; decide) (u64s_one _) (store_whole (u64s_lenh hx)) rfl fun ac46 wo47 En48 Hv49 => ?_
  refine f_e ?_
  refine block_normal ?_
  refine then_normal ?_
  refine ⟨_, ⟨(nd (nv x + W256 - nv m)), rfl, En48.sb, Hv49.pk [0, 1, 2], nds_len _ _, by rw [sub_nd hx (by omega), ← hxm]; exact (Nat.mod_eq_sub_mod (by omega)).symm⟩, ?_⟩
  rw [sub_nd hx (by omega)]; omega
 ·
  replace hc32 : nv x < nv m := by simpa using hc32
  refine wp_exit ?_
  refine then_exit ?_
  refine then_exit ?_
  refine block_exit ?_
  refine then_normal ?_
  refine wp_seq ?_
  refine region_from ?_
  refine f_o ?_
  refine m_a 0 0 4 (u64s x) En31 Hv29 rfl (load_whole (u64s_lenh hx)) (u64s_lenh hx) fun ac50 En51 => ?_
  refine f_o ?_
  refine m_g 2 0 4 (u64s x) (u64s x) [.box bk1 (u64s x) 24, .box bk6 (u64s m) 24, .box bk11 (u64s x) 24] En51 Hv29 rfl (u64s_lenh hx) (by rw [(u64s_lenh (List.length_replicate))]; decide) (u64s_one _) (store_whole (u64s_lenh (List.length_replicate))) rfl fun ac52 wo53 En54 Hv55 => ?_
  refine f_e ?_
  refine then_normal ?_
  refine wp_ret ?_
  refine d_cell1 (v := .agg (List.toArray (u64s x))) (t := 4) (T := 24) (ad := ⟨bk11, 0, none⟩) En54 (by kernel_rfl) (by kernel_rfl) (Ev.cellAgg (t := 24) (k := 2) (off := 0) (m := 4) (xs := u64s x) Hv55 rfl (load_whole (u64s_lenh hx)) (u64s_lenh hx) (by kernel_rfl) (by kernel_rfl)) ?_
  have hxe : x = nd (nv a % nv m) := nd_of hx (by rw [← hxm, Nat.mod_eq_of_lt (by omega)])
  subst hxe
  exact ⟨rfl, Hv55.pk []⟩

theorem mul_go (w : World) (x y : UInt64) : Calls Try.prog 97 #[uv64 x, uv64 y] w fun e w' => e = .returned (.tuple #[uv64 (mulHi x y), uv64 (x * y)]) ∧ Ev w [] w' [] := by
 refine d_0 [(0, uv64 x), (1, uv64 y)] 51 Go.Proofs.Try.func97 Go.Proofs.Try.ntmps97 (Heap.nil _) fun act0 En0 Hv0 => ?_
 refine d_s [0,1,4,5] [] En0 fun ac1 En2 => ?_
 refine d_s [0,1,4,5,6] [(1, g_i .u64 (Go.Dbr.u64_and (x := x) (y := (4294967295 : UInt64)) rfl rfl))] En2 fun ac3 En4 => ?_
 refine d_s [0,1,4,5,6,7] [(1, g_i .u64 (Go.Dbr.u64_shr (x := x) (n := 32) rfl (by decide)))] En4 fun ac5 En6 => ?_
 refine d_s [0,1,4,5,6,7,8] [(1, g_i .u64 (Go.Dbr.u64_and (x := y) (y := (4294967295 : UInt64)) rfl rfl))] En6 fun ac7 En8 => ?_
 refine d_s [0,1,4,5,6,7,8,9] [(1, g_i .u64 (Go.Dbr.u64_shr (x := y) (n := 32) rfl (by decide)))] En8 fun ac9 En10 => ?_
 refine d_s [0,1,4,5,6,7,8,9,10] [(2, g_i .u64 (Go.Dbr.u64_mul (x := x &&& (4294967295 : UInt64)) (y := y &&& (4294967295 : UInt64)) rfl rfl))] En10 fun ac11 En12 => ?_
 refine d_s [0,1,4,5,6,7,8,9,11] [(2, g_i .u64 (Go.Dbr.u64_mul (x := x >>> UInt64.ofNat 32) (y := y &&& (4294967295 : UInt64)) rfl rfl)), (4, g_i .u64 (Go.Dbr.u64_shr (x := (x &&& (4294967295 : UInt64)) * (y &&& (4294967295 : UInt64))) (n := 32) rfl (by decide))), (5, g_i .u64 (Go.Dbr.u64_add (x := (x >>> UInt64.ofNat 32) * (y &&& (4294967295 : UInt64))) (y := ((x &&& (4294967295 : UInt64)) * (y &&& (4294967295 : UInt64))) >>> UInt64.ofNat 32) rfl rfl))] En12 fun ac13 En14 => ?_
 refine d_s [0,1,4,5,6,7,8,9,11,12] [(1, g_i .u64 (Go.Dbr.u64_and (x := ((x >>> UInt64.ofNat 32) * (y &&& (4294967295 : UInt64))) + (((x &&& (4294967295 : UInt64)) * (y &&& (4294967295 : UInt64))) >>> UInt64.ofNat 32)) (y := (4294967295 : UInt64)) rfl rfl))] En14 fun ac15 En16 => ?_
 refine d_s [0,1,4,5,6,7,8,9,11,12,13] [(1, g_i .u64 (Go.Dbr.u64_shr (x := ((x >>> UInt64.ofNat 32) * (y &&& (4294967295 : UInt64))) + (((x &&& (4294967295 : UInt64)) * (y &&& (4294967295 : UInt64))) >>> UInt64.ofNat 32)) (n := 32) rfl (by decide)))] En16 fun ac17 En18 => ?_
 refine d_s [0,1,4,5,6,7,8,9,11,12,13] [(3, g_i .u64 (Go.Dbr.u64_mul (x := x &&& (4294967295 : UInt64)) (y := y >>> UInt64.ofNat 32) rfl rfl)), (4, g_i .u64 (Go.Dbr.u64_add (x := (((x >>> UInt64.ofNat 32) * (y &&& (4294967295 : UInt64))) + (((x &&& (4294967295 : UInt64)) * (y &&& (4294967295 : UInt64))) >>> UInt64.ofNat 32)) &&& (4294967295 : UInt64)) (y := (x &&& (4294967295 : UInt64)) * (y >>> UInt64.ofNat 32)) rfl rfl))] En18 fun ac19 En20 => ?_
 refine d_s [0,1,4,5,6,7,8,9,11,12] [(2, g_i .u64 (Go.Dbr.u64_mul (x := x >>> UInt64.ofNat 32) (y := y >>> UInt64.ofNat 32) rfl rfl)), (4, g_i .u64 (Go.Dbr.u64_add (x := (x >>> UInt64.ofNat 32) * (y >>> UInt64.ofNat 32)) (y := (((x >>> UInt64.ofNat 32) * (y &&& (4294967295 : UInt64))) + (((x &&& (4294967295 : UInt64)) * (y &&& (4294967295 : UInt64))) >>> UInt64.ofNat 32)) >>> UInt64.ofNat 32) rfl rfl)), (6, g_i .u64 (Go.Dbr.u64_shr (x := ((((x >>> UInt64.ofNat 32) * (y &&& (4294967295 : UInt64))) + (((x &&& (4294967295 : UInt64)) * (y &&& (4294967295 : UInt64))) >>> UInt64.ofNat 32)) &&& (4294967295 : UInt64)) + ((x &&& (4294967295 : UInt64)) * (y >>> UInt64.ofNat 32))) (n := 32) rfl (by decide))), (7, g_i .u64 (Go.Dbr.u64_add (x := ((x >>> UInt64.ofNat 32) * (y >>> UInt64.ofNat 32)) + ((((x >>> UInt64.ofNat 32) * (y &&& (4294967295 : UInt64))) + (((x &&& (4294967295 : UInt64)) * (y &&& (4294967295 : UInt64))) >>> UInt64.ofNat 32)) >>> UInt64.ofNat 32)) (y := (((((x >>> UInt64.ofNat 32) * (y &&& (4294967295 : UInt64))) + (((x &&& (4294967295 : UInt64)) * (y &&& (4294967295 : UInt64))) >>> UInt64.ofNat 32)) &&& (4294967295 : UInt64)) + ((x &&& (4294967295 : UInt64)) * (y >>> UInt64.ofNat 32))) >>> UInt64.ofNat 32) rfl rfl))] En20 fun ac21 En22 => ?_
 refine d_s [0,1,4,5,6,7,8,9,11,12] [(2, g_i .u64 (Go.Dbr.u64_mul (x := x) (y := y) rfl rfl))] En22 fun ac23 En24 => ?_
 refine wp_ret ?_
 refine d_ret2 (t := 4) (u := 5) (v := uv64 ((((x >>> UInt64.ofNat 32) * (y >>> UInt64.ofNat 32)) + ((((x >>> UInt64.ofNat 32) * (y &&& (4294967295 : UInt64))) + (((x &&& (4294967295 : UInt64)) * (y &&& (4294967295 : UInt64))) >>> UInt64.ofNat 32)) >>> UInt64.ofNat 32)) + ((((((x >>> UInt64.ofNat 32) * (y &&& (4294967295 : UInt64))) + (((x &&& (4294967295 : UInt64)) * (y &&& (4294967295 : UInt64))) >>> UInt64.ofNat 32)) &&& (4294967295 : UInt64)) + ((x &&& (4294967295 : UInt64)) * (y >>> UInt64.ofNat 32))) >>> UInt64.ofNat 32))) (x := uv64 (x * y)) En24 (by kernel_rfl) (by kernel_rfl) (by kernel_rfl) ?_
 have e : (((x >>> UInt64.ofNat 32) * (y >>> UInt64.ofNat 32)) + ((((x >>> UInt64.ofNat 32) * (y &&& (4294967295 : UInt64))) + (((x &&& (4294967295 : UInt64)) * (y &&& (4294967295 : UInt64))) >>> UInt64.ofNat 32)) >>> UInt64.ofNat 32)) + ((((((x >>> UInt64.ofNat 32) * (y &&& (4294967295 : UInt64))) + (((x &&& (4294967295 : UInt64)) * (y &&& (4294967295 : UInt64))) >>> UInt64.ofNat 32)) &&& (4294967295 : UInt64)) + ((x &&& (4294967295 : UInt64)) * (y >>> UInt64.ofNat 32))) >>> UInt64.ofNat 32) = mulHi x y := mul_high x y
 exact ⟨by rw [e], Hv0.pk []⟩

theorem whole_go (w : World) (ba bb : Nat) (a b : List UInt64) (ha : List.length a = 4) (hb : List.length b = 4) (hH : Heap w [.box ba (u64s a) 24, .box bb (u64s b) 24]) : Calls Try.prog 96 #[pt ba, pt bb] w fun e w' => e = .returned (.agg (List.toArray (u64s (nds 8 (nv a * nv b))))) ∧ Ev w [.box ba (u64s a) 24, .box bb (u64s b) 24] w' [.box ba (u64s a) 24, .box bb (u64s b) 24] := by
 refine d_0 [(0, pt ba), (1, pt bb)] 66 Go.Proofs.Try.func96 Go.Proofs.Try.ntmps96 (hH) fun act0 En0 Hv0 => ?_
 refine wp_seq ?_
 refine region_from ?_
 refine f_o ?_
 refine m_z 84 (u64s (List.replicate 8 0)) En0 Hv0 fun ac2 wo3 bk1 En4 Hv5 => ?_
 refine f_e ?_
 refine then_normal ?_
 refine wp_seq ?_
 refine region_from ?_
 refine f_o ?_
 refine m_z 84 (u64s (List.replicate 8 0)) En4 Hv5 fun ac7 wo8 bk6 En9 Hv10 => ?_
 refine f_e ?_
 refine then_normal ?_
 refine wp_seq ?_
 refine wp_seq ?_
 refine d_r [0,1,4,5,13] [] En9 fun ac11 En12 => ?_
 refine then_normal ?_
 refine wp_block ?_
 refine loop_m (fun ms13 ac wo => ∃ (i : Nat) (t : List UInt64), ms13 = (4 - i : Nat) ∧ Env ac 66 [(0, pt ba), (1, pt bb), (4, pt bk1), (5, pt bk6), (13, ni i)] ∧ Ev w [.box ba (u64s a) 24, .box bb (u64s b) 24] wo [.box bk6 (u64s t) 84, .box ba (u64s a) 24, .box bb (u64s b) 24, .box bk1 (u64s (List.replicate 8 0)) 84] ∧ (i ≤ 4) ∧ (List.length t = 8) ∧ (dv 18446744073709551616 t = nv a * dvk b i) ∧ (∀ j, i + 4 ≤ j → List.getD t j 0 = 0)) ⟨_, 0, List.replicate 8 0, rfl, En12.sb, Hv10.pk [3, 0, 1, 2], by omega, (List.length_replicate), rfl, fun j _ => zeros8 j⟩ ?_
 rintro mm19 ac15 wo16 ⟨i, t, rfl, En17, Hv18, hi, hlt, hv, hz⟩
 refine wp_seq ?_
 refine d_r [0,1,4,5,13,14] [] En17 fun ac20 En21 => ?_
 refine then_normal ?_
 refine wp_seq ?_
 refine c_d (((i : Nat) : Int) < (4 : Int)) En21 (fun hc22 => ?_) (fun hc22 => ?_)
 ·
  refine wp_skip ?_
  refine then_normal ?_
  refine wp_seq ?_
  refine wp_block ?_
  refine wp_seq ?_
  refine d_r [0,1,4,5,6,13] [] En21 fun ac23 En24 => ?_
  refine then_normal ?_
  refine wp_seq ?_
  refine d_r [0,1,4,5,6,7,13] [] En24 fun ac25 En26 => ?_
  refine then_normal ?_
  refine wp_seq ?_
  refine wp_seq ?_
  refine d_r [0,1,4,5,6,7,13,16] [] En26 fun ac27 En28 => ?_
  refine then_normal ?_
  refine wp_block ?_
  refine loop_m (fun ms29 ac wo => ∃ (k : Nat) (u : List UInt64) (c : UInt64), ms29 = (4 - k : Nat) ∧ Env ac 66 [(0, pt ba), (1, pt bb), (4, pt bk1), (5, pt bk6), (6, ni i), (7, uv64 c), (13, ni i), (16, ni k)] ∧ Ev w [.box ba (u64s a) 24, .box bb (u64s b) 24] wo [.box bk6 (u64s u) 84, .box ba (u64s a) 24, .box bb (u64s b) 24, .box bk1 (u64s (List.replicate 8 0)) 84] ∧ (k ≤ 4) ∧ (List.length u = 8) ∧ (dv 18446744073709551616 u + c.toNat * 18446744073709551616 ^ (i + k) = nv a * dvk b i + dvk a k * (List.getD b i 0).toNat * 18446744073709551616 ^ i) ∧ (∀ j, i + 4 ≤ j → List.getD u j 0 = 0)) ⟨_, 0, t, 0, rfl, En28.sb, Hv18.pk [0, 1, 2, 3], by omega, hlt, by rw [hv]; simp [dvk], hz⟩ ?_
  rintro mm35 ac31 wo32 ⟨k, u, c, rfl, En33, Hv34, hk, hlu, hv2, hz2⟩
  refine wp_seq ?_
  refine d_r [0,1,4,5,6,7,13,16,17] [] En33 fun ac36 En37 => ?_
  refine then_normal ?_
  refine wp_seq ?_
  refine c_d (((k : Nat) : Int) < (4 : Int)) En37 (fun hc38 => ?_) (fun hc38 => ?_)
  ·
   refine wp_skip ?_
   refine then_normal ?_
   refine wp_seq ?_
   refine wp_block ?_
   refine wp_seq ?_
   refine d_r [0,1,4,5,6,7,8,13,16] [] En37 fun ac39 En40 => ?_
   refine then_normal ?_
   refine wp_seq ?_
   refine r_c (fun ac wo => Env ac 66 [(0, pt ba), (1, pt bb), (4, pt bk1), (5, pt bk6), (6, ni i), (7, uv64 c), (8, ni k), (9, uv64 (mulHi (List.getD a k 0) (List.getD b i 0))), (10, uv64 ((List.getD a k 0) * (List.getD b i 0))), (13, ni i), (16, ni k)] ∧ Ev w [.box ba (u64s a) 24, .box bb (u64s b) 24] wo [.box bk6 (u64s u) 84, .box ba (u64s a) 24, .box bb (u64s b) 24, .box bk1 (u64s (List.replicate 8 0)) 84]) ?_ ?_
   ·
    refine h_s (fun wv => Ev w [.box ba (u64s a) 24, .box bb (u64s b) 24] wv [.box ba (u64s a) 24, .box bb (u64s b) 24]) [] 16 ?_
    have wo41 := Hv34.trans (Ev.drew Hv34.heap)
    refine q_s [0,1,2] [] 13 En40 (wo41.pk [1, 2]) fun ac103 En104 => ?_
    refine q_f 3 (s := Instr.indexAt 24 (pt ba) (ni k)) (v := .pointer (some ⟨ba, k, none⟩)) En104 (fun _ => Go.Dbr.run_indexarr (e := 22) (sz := 1) (m := 4) (j := k) (o := k) (by kernel_rfl) (by kernel_rfl) (by omega) (by omega) (by omega) _) (fun _ => wo41.pk [1, 2]) fun ac105 En106 => ?_
    have hb107 : k < List.length a := by rw [ha]; omega
    refine q_r 4 (s := Instr.loadAt 22 (.pointer (some ⟨ba, k, none⟩))) (v := uv64 (List.getD a k 0)) En106 (fun w hS => run_load1 (by kernel_rfl) (hS.heap.cell (k := 0) rfl (u64s_getD hb107))) (wo41.pk [1, 2]) fun ac108 En109 => ?_
    refine q_s [5,6,7] [] 8 En109 (wo41.pk [1, 2]) fun ac110 En111 => ?_
    refine q_f 8 (s := Instr.indexAt 24 (pt bb) (ni i)) (v := .pointer (some ⟨bb, i, none⟩)) En111 (fun _ => Go.Dbr.run_indexarr (e := 22) (sz := 1) (m := 4) (j := i) (o := i) (by kernel_rfl) (by kernel_rfl) (by omega) (by omega) (by omega) _) (fun _ => wo41.pk [1, 2]) fun ac112 En113 => ?_
    have hb114 : i < List.length b := by rw [hb]; omega
    refine q_r 9 (s := Instr.loadAt 22 (.pointer (some ⟨bb, i, none⟩))) (v := uv64 (List.getD b i 0)) En113 (fun w hS => run_load1 (by kernel_rfl) (hS.heap.cell (k := 1) rfl (u64s_getD hb114))) (wo41.pk [1, 2]) fun ac115 En116 => ?_
    refine q_t 10 ?_
    refine c_p En116 wo41 (mul_go _ (List.getD a k 0) (List.getD b i 0)) fun ac121 wo118 En122 Hv123 => ?_
    refine ⟨fun _ => Hv123.pk [1, 2], ?_⟩
    refine q_s [11,12,13,14,15] [] 0 En122 (Hv123.pk [1, 2]) fun ac124 En125 => ?_
    exact h_e ⟨En125.sb, Hv123.pk [0, 1, 2, 3]⟩
   rintro ac126 wo127 ⟨En128, Hv129⟩
   refine then_normal ?_
   refine wp_seq ?_
   refine region_from ?_
   refine d_k [0,1,4,5,6,7,8,9,10,13,16,34,37] [(3, g_n (w_a i k))] 4 En128 fun ac130 En131 => ?_
   refine f_o ?_
   refine q_v (x := Instr.indexAt 84 (pt bk6) (ni (i + k))) (v := .pointer (some ⟨bk6, i + k, none⟩)) En131 (Go.Dbr.run_indexarr (e := 22) (sz := 1) (m := 8) (j := i + k) (o := i + k) (by kernel_rfl) (by kernel_rfl) (by omega) (by omega) (by omega) _) fun ac132 En133 => ?_
   refine f_o ?_
   have hb134 : i + k < List.length u := by rw [hlu]; omega
   refine m_v 0 (i + k) (uv64 (List.getD u (i + k) 0)) En133 Hv129 rfl (u64s_getD hb134) fun ac135 En136 => ?_
   refine f_o ?_
   refine op_ext (d := some 40) (f := 95) (args := #[uv64 ((List.getD a k 0) * (List.getD b i 0)), uv64 (List.getD u (i + k) 0), uv64 (0 : UInt64)]) (v := .tuple #[uv64 (addLo ((List.getD a k 0) * (List.getD b i 0)) (List.getD u (i + k) 0) (0 : UInt64)), uv64 (addHi ((List.getD a k 0) * (List.getD b i 0)) (List.getD u (i + k) 0) (0 : UInt64))]) En136 (by kernel_rfl) (Go.Dbr.ext_add64 Go.Proofs.Try.func95 (by kernel_rfl) (by kernel_rfl) (by kernel_rfl) (by kernel_rfl) ((List.getD a k 0) * (List.getD b i 0)) (List.getD u (i + k) 0) (0 : UInt64) (by decide)) ?_
   intro ac137 En138
   refine d_e [0,1,4,5,6,7,8,9,10,11,13,16] [] En138 fun ac139 En140 => ?_
   refine then_normal ?_
   refine wp_seq ?_
   refine region_from ?_
   refine d_k [0,1,4,5,6,7,8,9,10,11,13,16,44,45] [] 2 En140 fun ac141 En142 => ?_
   refine f_o ?_
   refine op_ext (d := some 46) (f := 95) (args := #[uv64 (addLo ((List.getD a k 0) * (List.getD b i 0)) (List.getD u (i + k) 0) (0 : UInt64)), uv64 c, uv64 (0 : UInt64)]) (v := .tuple #[uv64 (addLo (addLo ((List.getD a k 0) * (List.getD b i 0)) (List.getD u (i + k) 0) (0 : UInt64)) c (0 : UInt64)), uv64 (addHi (addLo ((List.getD a k 0) * (List.getD b i 0)) (List.getD u (i + k) 0) (0 : UInt64)) c (0 : UInt64))]) En142 (by kernel_rfl) (Go.Dbr.ext_add64 Go.Proofs.Try.func95 (by kernel_rfl) (by kernel_rfl) (by kernel_rfl) (by kernel_rfl) (addLo ((List.getD a k 0) * (List.getD b i 0)) (List.getD u (i + k) 0) (0 : UInt64)) c (0 : UInt64) (by decide)) ?_
   intro ac143 En144
   refine d_e [0,1,4,5,6,7,8,9,10,11,12,13,16] [] En144 fun ac145 En146 => ?_
   refine then_normal ?_
   refine region_from ?_
   refine d_k [0,1,4,5,6,7,8,10,13,16,51,52,57] [(2, g_n (w_a i k)), (6, g_i .u64 (Go.Dbr.u64_add (x := mulHi (List.getD a k 0) (List.getD b i 0)) (y := addHi ((List.getD a k 0) * (List.getD b i 0)) (List.getD u (i + k) 0) (0 : UInt64)) rfl rfl)), (8, g_i .u64 (Go.Dbr.u64_add (x := (mulHi (List.getD a k 0) (List.getD b i 0)) + (addHi ((List.getD a k 0) * (List.getD b i 0)) (List.getD u (i + k) 0) (0 : UInt64))) (y := addHi (addLo ((List.getD a k 0) * (List.getD b i 0)) (List.getD u (i + k) 0) (0 : UInt64)) c (0 : UInt64)) rfl rfl))] 9 En146 fun ac147 En148 => ?_
   refine f_o ?_
   refine q_v (x := Instr.indexAt 84 (pt bk6) (ni (i + k))) (v := .pointer (some ⟨bk6, i + k, none⟩)) En148 (Go.Dbr.run_indexarr (e := 22) (sz := 1) (m := 8) (j := i + k) (o := i + k) (by kernel_rfl) (by kernel_rfl) (by omega) (by omega) (by omega) _) fun ac149 En150 => ?_
   refine f_o ?_
   have hb151 : i + k < List.length u := by rw [hlu]; omega
   refine m_t 0 (i + k) (uv64 (addLo (addLo ((List.getD a k 0) * (List.getD b i 0)) (List.getD u (i + k) 0) (0 : UInt64)) c (0 : UInt64))) [.box bk6 (u64s (List.set u (i + k) (addLo (addLo ((List.getD a k 0) * (List.getD b i 0)) (List.getD u (i + k) 0) (0 : UInt64)) c (0 : UInt64)))) 84, .box ba (u64s a) 24, .box bb (u64s b) 24, .box bk1 (u64s (List.replicate 8 0)) 84] En150 Hv129 rfl (u64s_getD hb151) (u64s_set _ _ _) rfl fun ac152 wo153 En154 Hv155 => ?_
   refine d_e [0,1,4,5,6,7,8,10,13,16] [] En154 fun ac156 En157 => ?_
   refine block_normal ?_
   refine then_normal ?_
   refine d_r [0,1,4,5,6,7,8,10,13,16] [(0, g_n (w_a k 1))] En157 fun ac158 En159 => ?_
   refine then_normal ?_
   refine ⟨_, ⟨k + 1, (List.set u (i + k) (addLo (addLo ((List.getD a k 0) * (List.getD b i 0)) (List.getD u (i + k) 0) (0 : UInt64)) c (0 : UInt64))), (((mulHi (List.getD a k 0) (List.getD b i 0)) + (addHi ((List.getD a k 0) * (List.getD b i 0)) (List.getD u (i + k) 0) (0 : UInt64))) + (addHi (addLo ((List.getD a k 0) * (List.getD b i 0)) (List.getD u (i + k) 0) (0 : UInt64)) c (0 : UInt64))), rfl, En159.sb, Hv155.pk [0, 1, 2, 3], by omega, by simp [hlu], whole_in hlu (by omega) hv2, fun j hj => by rw [getD_set_ne _ (by omega)]; exact hz2 j hj⟩, ?_⟩
   omega
  ·
   refine wp_exit ?_
   refine then_exit ?_
   refine then_exit ?_
   refine block_exit ?_
   refine then_normal ?_
   have hk4 : k = 4 := by omega
   refine region_from ?_
   refine d_k [0,1,4,5,6,7,13,16,61,62] [(1, g_n (w_a i 4))] 3 En37 fun ac160 En161 => ?_
   refine f_o ?_
   refine q_v (x := Instr.indexAt 84 (pt bk6) (ni (i + 4))) (v := .pointer (some ⟨bk6, i + 4, none⟩)) En161 (Go.Dbr.run_indexarr (e := 22) (sz := 1) (m := 8) (j := i + 4) (o := i + 4) (by kernel_rfl) (by kernel_rfl) (by omega) (by omega) (by omega) _) fun ac162 En163 => ?_
   refine f_o ?_
   have hb164 : i + 4 < List.length u := by rw [hlu]; omega
   refine m_t 0 (i + 4) (uv64 c) [.box bk6 (u64s (List.set u (i + 4) c)) 84, .box ba (u64s a) 24, .box bb (u64s b) 24, .box bk1 (u64s (List.replicate 8 0)) 84] En163 Hv34 rfl (u64s_getD hb164) (u64s_set _ _ _) rfl fun ac165 wo166 En167 Hv168 => ?_
   refine f_e ?_
   refine block_normal ?_
   refine then_normal ?_
   refine d_r [0,1,4,5,6,7,13,16] [(0, g_n (w_a i 1))] En167 fun ac169 En170 => ?_
   refine then_normal ?_
   refine ⟨_, ⟨i + 1, (List.set u (i + 4) c), rfl, En170.sb, Hv168.pk [0, 1, 2, 3], by omega, by simp [hlu], whole_out ha hlu (by omega) (hz2 _ (by omega)) (by rw [hk4] at hv2; exact hv2), fun j hj => by rw [getD_set_ne _ (by omega)]; exact hz2 j (by omega)⟩, ?_⟩
   omega
 ·
  refine wp_exit ?_
  refine then_exit ?_
  refine then_exit ?_
  refine block_exit ?_
  refine then_normal ?_
  refine wp_seq ?_
  refine region_from ?_
  refine f_o ?_
  refine m_a 0 0 8 (u64s t) En21 Hv18 rfl (load_whole (u64s_lenh hlt)) (u64s_lenh hlt) fun ac171 En172 => ?_
  refine f_o ?_
  refine m_g 3 0 8 (u64s t) (u64s t) [.box bk6 (u64s t) 84, .box ba (u64s a) 24, .box bb (u64s b) 24, .box bk1 (u64s t) 84] En172 Hv18 rfl (u64s_lenh hlt) (by rw [(u64s_lenh (List.length_replicate))]; decide) (u64s_one _) (store_whole (u64s_lenh (List.length_replicate))) rfl fun ac173 wo174 En175 Hv176 => ?_
  refine f_e ?_
  refine then_normal ?_
  refine wp_ret ?_
  refine d_cell1 (v := .agg (List.toArray (u64s t))) (t := 4) (T := 84) (ad := ⟨bk1, 0, none⟩) En175 (by kernel_rfl) (by kernel_rfl) (Ev.cellAgg (t := 84) (k := 3) (off := 0) (m := 8) (xs := u64s t) Hv176 rfl (load_whole (u64s_lenh hlt)) (u64s_lenh hlt) (by kernel_rfl) (by kernel_rfl)) ?_
  have hi4 : i = 4 := by omega
  have hte : t = nds 8 (nv a * nv b) := nds_of hlt (by rw [hv, hi4, dvk4 hb])
  subst hte
  exact ⟨rfl, Hv176.pk [1, 2]⟩

end Go.Proofs.Ytpfhmbbiadpbeaa
