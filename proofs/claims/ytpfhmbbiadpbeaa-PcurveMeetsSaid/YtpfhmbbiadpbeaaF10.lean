/- Layer 4: powers. -/
import Derived.Test.YtpfhmbbiadpbeaaF9
namespace Go.Proofs.Ytpfhmbbiadpbeaa
open Go.Dbr
set_option maxRecDepth 100000
set_option maxHeartbeats 2000000
set_option linter.unusedVariables false
set_option linter.unusedSimpArgs false

/-- a power -/
def powM (f : Int) (x n : Nat) : Nat := x ^ n % mF f
theorem powM_lt {f : Int} (hf : f = 1 ∨ f = 2 ∨ f = 3 ∨ f = 4) (x n : Nat) : powM f x n < W256 := mod_lt_w hf
theorem powM_zero {f : Int} (hf : f = 1 ∨ f = 2 ∨ f = 3 ∨ f = 4) (x : Nat) : powM f x 0 = 1 := by rw [powM, Nat.pow_zero, Nat.mod_eq_of_lt (mF_pos hf)]
theorem powM_add (f : Int) (x m n : Nat) : mulM f (powM f x m) (powM f x n) = powM f x (m + n) := by rw [mulM, powM, powM, ← Nat.mul_mod, ← Nat.pow_add, powM]
theorem powM_succ (f : Int) (x n : Nat) : mulM f (powM f x n) x = powM f x (n + 1) := by rw [mulM, powM, Nat.mod_mul_mod, ← Nat.pow_succ, powM]
theorem nv_pow {f : Int} (hf : f = 1 ∨ f = 2 ∨ f = 3 ∨ f = 4) (x n : Nat) : nv (nd (powM f x n)) = powM f x n := nv_nd (powM_lt hf x n)
/-- products are told -/
def MulOk (f : Int) : Prop := ∀ (w : World) (a b : List UInt64), List.length a = 4 → List.length b = 4 → Calls Try.prog 64 #[.int .i64 f, .agg (List.toArray (u64s a)), .agg (List.toArray (u64s b))] w fun e w' => e = .returned (.agg (List.toArray (u64s (nd (mulM f (nv a) (nv b)))))) ∧ Ev w [] w' []
def RMulOk (f : Int) : Prop := ∀ (w : World) (a b : List UInt64), List.length a = 4 → List.length b = 4 → Calls Try.prog 67 #[.int .i64 f, .agg (List.toArray (u64s a)), .agg (List.toArray (u64s b))] w fun e w' => e = .returned (.agg (List.toArray (u64s (nd (mulM f (nv a) (nv b)))))) ∧ Ev w [] w' []
theorem rmulOk {f : Int} (hf : f = 1 ∨ f = 2 ∨ f = 3 ∨ f = 4) (hL : LeftOk f) : RMulOk f := fun w a b ha hb => rmul_go w f hf hL a b ha hb
theorem bits_at {e : List UInt64} {j s t : Nat} (h : s + t ≤ 64) (h0 : s < 64) : (List.getD e j 0 >>> UInt64.ofNat s).toNat % 2 ^ t = nv e / 2 ^ (64 * j + s) % 2 ^ t := by
  have hs : (UInt64.ofNat s).toNat % 64 = s := by rw [ofNat_val]; omega
  have hp : (2 : Nat) ^ (64 * j + s) = 18446744073709551616 ^ j * 2 ^ s := by rw [Nat.pow_add, Nat.pow_mul]
  rw [UInt64.toNat_shiftRight, hs, dv_dig, Nat.shiftRight_eq_div_pow, hp, ← Nat.div_div_eq_div_mul]
  show _ = dv _ _ / _ / _ % _
  generalize dv 18446744073709551616 e / 18446744073709551616 ^ j = d
  have hB : 18446744073709551616 = 2 ^ s * 2 ^ (64 - s) := by rw [← Nat.pow_add, show s + (64 - s) = 64 by omega]
  conv => lhs; rw [hB]
  rw [Nat.mod_mul_right_div_self, Nat.mod_mod_of_dvd]
  exact ⟨2 ^ (64 - s - t), by rw [← Nat.pow_add]; congr 1; omega⟩
theorem bit_at (e : List UInt64) (i : Nat) : (List.getD e (i / 64) 0 >>> UInt64.ofNat (i % 64) &&& 1).toNat = nv e / 2 ^ i % 2 := by
  have h := bits_at (e := e) (j := i / 64) (s := i % 64) (t := 1) (by omega) (by omega)
  rw [show 64 * (i / 64) + i % 64 = i by omega] at h
  rw [UInt64.toNat_and, show (1 : UInt64).toNat = 1 from rfl, Nat.and_one_is_mod]
  exact h
theorem nib_at (e : List UInt64) (i : Nat) : (List.getD e (i / 16) 0 >>> UInt64.ofNat (4 * (i % 16)) &&& 15).toNat = nv e / 16 ^ i % 16 := by
  have h := bits_at (e := e) (j := i / 16) (s := 4 * (i % 16)) (t := 4) (by omega) (by omega)
  rw [show 64 * (i / 16) + 4 * (i % 16) = 4 * i by omega, Nat.pow_mul] at h
  rw [UInt64.toNat_and, show (15 : UInt64).toNat = 2 ^ 4 - 1 from rfl, Nat.and_two_pow_sub_one_eq_mod]
  exact h
theorem half_step (n : Nat) {i : Nat} (h : 1 ≤ i) : n / 2 ^ (i - 1) = 2 * (n / 2 ^ i) + n / 2 ^ (i - 1) % 2 := by
  have e : 2 ^ i = 2 ^ (i - 1) * 2 := by rw [← Nat.pow_succ]; congr 1; omega
  rw [e, ← Nat.div_div_eq_div_mul]
  omega
theorem nib_step (n : Nat) {i : Nat} (h : 1 ≤ i) : n / 16 ^ (i - 1) = 2 ^ 4 * (n / 16 ^ i) + n / 16 ^ (i - 1) % 16 := by
  have e : 16 ^ i = 16 ^ (i - 1) * 16 := by rw [← Nat.pow_succ]; congr 1; omega
  rw [e, ← Nat.div_div_eq_div_mul]
  omega
theorem bit_no {f : Int} (hf : f = 1 ∨ f = 2 ∨ f = 3 ∨ f = 4) {A E q : Nat} {b : UInt64} (hq : 1 ≤ q) (hb : b.toNat = E / 2 ^ (q - 1) % 2) (hc : ¬ ((b.toNat : Nat) : Int) = (1 : Int)) : nd (mulM f (nv (nd (powM f A (E / 2 ^ q)))) (nv (nd (powM f A (E / 2 ^ q))))) = nd (powM f A (E / 2 ^ (q - 1))) := by
  rw [nv_pow hf, powM_add, half_step E hq]
  congr 2
  omega
theorem bit_yes {f : Int} (hf : f = 1 ∨ f = 2 ∨ f = 3 ∨ f = 4) {a : List UInt64} {E q : Nat} {b : UInt64} (hq : 1 ≤ q) (hb : b.toNat = E / 2 ^ (q - 1) % 2) (hc : ((b.toNat : Nat) : Int) = (1 : Int)) : nd (mulM f (nv (nd (mulM f (nv (nd (powM f (nv a) (E / 2 ^ q)))) (nv (nd (powM f (nv a) (E / 2 ^ q))))))) (nv a)) = nd (powM f (nv a) (E / 2 ^ (q - 1))) := by
  rw [nv_pow hf, powM_add, nv_pow hf, powM_succ, half_step E hq]
  congr 2
  omega
theorem nib_no {f : Int} {A E q : Nat} {b : UInt64} (hq : 1 ≤ q) (hb : b.toNat = E / 16 ^ (q - 1) % 16) (hc : ((b.toNat : Nat) : Int) = (0 : Int)) : nd (powM f A (2 ^ 4 * (E / 16 ^ q))) = nd (powM f A (E / 16 ^ (q - 1))) := by
  rw [nib_step E hq]
  congr 2
  omega
theorem nib_yes {f : Int} (hf : f = 1 ∨ f = 2 ∨ f = 3 ∨ f = 4) {A E q : Nat} {b : UInt64} (hq : 1 ≤ q) (hb : b.toNat = E / 16 ^ (q - 1) % 16) {L : List UInt64} (hT : ∀ j, j < 16 → List.take 4 (List.drop (j * 4) L) = nd (powM f A j)) : nd (mulM f (nv (nd (powM f A (2 ^ 4 * (E / 16 ^ q))))) (nv (List.take 4 (List.drop (b.toNat * 4) L)))) = nd (powM f A (E / 16 ^ (q - 1))) := by
  rw [hT _ (by omega), nv_pow hf, nv_pow hf, powM_add, nib_step E hq]
  congr 2
  omega
theorem sq_step {f : Int} (hf : f = 1 ∨ f = 2 ∨ f = 3 ∨ f = 4) {A N k : Nat} : nd (mulM f (nv (nd (powM f A (2 ^ k * N)))) (nv (nd (powM f A (2 ^ k * N))))) = nd (powM f A (2 ^ (k + 1) * N)) := by
  rw [nv_pow hf, powM_add, Nat.pow_succ]
  congr 2
  rw [Nat.mul_right_comm]
  omega
/-! parts of an array -/
theorem u64s_sub (m o : Nat) (l : List UInt64) : ((u64s l).drop o).take m = u64s (List.take m (List.drop o l)) := by simp [u64s, List.map_take, List.map_drop]
theorem u64s_put (m o : Nat) (l x : List UInt64) : (u64s l).take o ++ u64s x ++ (u64s l).drop (o + m) = u64s (List.take o l ++ x ++ List.drop (o + m) l) := by simp [u64s, List.map_take, List.map_drop]
theorem sub_len {α : Type} {l : List α} {n m o : Nat} (h : l.length = n) (h2 : o + m ≤ n) : (List.take m (List.drop o l)).length = m := by rw [List.length_take, List.length_drop]; omega
theorem put_len {α : Type} {l x : List α} {n m o : Nat} (h : l.length = n) (hx : x.length = m) (h2 : o + m ≤ n) : (List.take o l ++ x ++ List.drop (o + m) l).length = n := by rw [List.length_append, List.length_append, List.length_take, List.length_drop]; omega
theorem tab_new {α : Type} {l x : List α} {i : Nat} (hx : x.length = 4) (h : i * 4 + 4 ≤ l.length) : List.take 4 (List.drop (i * 4) (List.take (i * 4) l ++ x ++ List.drop (i * 4 + 4) l)) = x := by
  rw [List.append_assoc, List.drop_left' (by rw [List.length_take]; omega), List.take_left' hx]
theorem tab_old {α : Type} {l x : List α} {i j : Nat} (hj : j < i) (h : i * 4 + 4 ≤ l.length) : List.take 4 (List.drop (j * 4) (List.take (i * 4) l ++ x ++ List.drop (i * 4 + 4) l)) = List.take 4 (List.drop (j * 4) l) := by
  rw [List.append_assoc, List.drop_append_of_le_length (by rw [List.length_take]; omega), List.take_append_of_le_length (by rw [List.length_drop, List.length_take]; omega), List.drop_take, List.take_take, Nat.min_eq_left (by omega)]
theorem tab_first {f : Int} (hf : f = 1 ∨ f = 2 ∨ f = 3 ∨ f = 4) {A : Nat} {x : List UInt64} (hx : x = [1, 0, 0, 0]) : ∀ j, j < 1 → List.take 4 (List.drop (j * 4) (List.take 0 (List.replicate 64 (0 : UInt64)) ++ x ++ List.drop (0 + 4) (List.replicate 64 (0 : UInt64)))) = nd (powM f A j) := by
  intro j hj
  have e : j = 0 := by omega
  subst e
  rw [powM_zero hf, hx]
  decide
theorem tab_step {f : Int} (hf : f = 1 ∨ f = 2 ∨ f = 3 ∨ f = 4) {a L : List UInt64} {i : Nat} (h1 : 1 ≤ i) (hL : L.length = 64) (hi : i < 16) (hT : ∀ j, j < i → List.take 4 (List.drop (j * 4) L) = nd (powM f (nv a) j)) : ∀ j, j < i + 1 → List.take 4 (List.drop (j * 4) (List.take (i * 4) L ++ nd (mulM f (nv (List.take 4 (List.drop ((i - 1) * 4) L))) (nv a)) ++ List.drop (i * 4 + 4) L)) = nd (powM f (nv a) j) := by
  intro j hj
  by_cases e : j = i
  · subst e
    rw [tab_new (nds_len _ _) (by omega), hT (j - 1) (by omega), nv_pow hf, powM_succ]
    congr 2
    omega
  · rw [tab_old (by omega) (by omega), hT j (by omega)]
theorem div_top {e : List UInt64} (he : e.length = 4) : nv e / 2 ^ 256 = 0 := Nat.div_eq_of_lt (nv_lt he)
theorem div_top4 {e : List UInt64} (he : e.length = 4) : nv e / 16 ^ 64 = 0 := by rw [show (16 : Nat) ^ 64 = 2 ^ 256 by decide]; exact div_top he
theorem inv_e {f : Int} (hf : f = 1 ∨ f = 2 ∨ f = 3 ∨ f = 4) : nv (nd (nv (nd (mF f)) + W256 - nv [2, 0, 0, 0])) = mF f - 2 := by
  have h1 := mF_pos hf
  have h2 := mF_lt f
  rw [nv_mF, nd_val, show nv [2, 0, 0, 0] = 2 from rfl]
  simp only [W256] at *
  omega

theorem rexp_go (w : World) (f : Int) (hf : f = 1 ∨ f = 2 ∨ f = 3 ∨ f = 4) (hR : RMulOk f) (a g : List UInt64) (ha : List.length a = 4) (hg : List.length g = 4) : Calls Try.prog 79 #[.int .i64 f, .agg (List.toArray (u64s a)), .agg (List.toArray (u64s g))] w fun e w' => e = .returned (.agg (List.toArray (u64s (nd (powM f (nv a) (nv g)))))) ∧ Ev w [] w' [] := by
 refine d_0 [(0, .int .i64 f), (1, .agg (List.toArray (u64s a))), (2, .agg (List.toArray (u64s g)))] 38 Go.Proofs.Try.func79 Go.Proofs.Try.ntmps79 (Heap.nil _) fun act0 En0 Hv0 => ?_
 refine wp_seq ?_
 refine region_from ?_
 refine f_o ?_
 refine m_m 24 (u64s a) En0 Hv0 fun ac2 wo3 bk1 En4 Hv5 => ?_
 refine f_o ?_
 refine m_m 24 (u64s g) En4 Hv5 fun ac7 wo8 bk6 En9 Hv10 => ?_
 refine f_o ?_
 refine m_z 24 (u64s (List.replicate 4 0)) En9 Hv10 fun ac12 wo13 bk11 En14 Hv15 => ?_
 refine f_e ?_
 refine then_normal ?_
 refine wp_seq ?_
 refine region_from ?_
 refine d_k [0,4,5,6,10] [] 1 En14 fun ac16 En17 => ?_
 refine f_o ?_
 refine c_p En17 Hv15 (ris_go_yes _ f hf) fun ac22 wo19 En23 Hv24 => ?_
 refine d_e [0,4,5,6,7] [] En23 fun ac25 En26 => ?_
 refine then_normal ?_
 refine wp_seq ?_
 refine wp_seq ?_
 refine d_r [0,4,5,6,13] [] En26 fun ac27 En28 => ?_
 refine then_normal ?_
 refine c_f En28 ?_
 refine wp_skip ?_
 refine then_normal ?_
 refine wp_seq ?_
 refine region_from ?_
 refine d_k [0,4,5,6,15] [] 1 En28 fun ac29 En30 => ?_
 refine f_o ?_
 refine m_z 24 (u64s (List.replicate 4 0)) En30 Hv24 fun ac32 wo33 bk31 En34 Hv35 => ?_
 refine f_o ?_
 refine m_g 3 0 4 (u64s ([1, 0, 0, 0] : List UInt64)) (u64s ([1, 0, 0, 0] : List UInt64)) [.box bk1 (u64s a) 24, .box bk6 (u64s g) 24, .box bk11 (u64s (List.replicate 4 0)) 24, .box bk31 (u64s ([1, 0, 0, 0] : List UInt64)) 24] En34 Hv35 rfl (u64s_lenh (show List.length ([1, 0, 0, 0] : List UInt64) = 4 from rfl)) (by rw [(u64s_lenh (List.length_replicate))]; decide) (u64s_one _) (store_whole (u64s_lenh (List.length_replicate))) rfl fun ac36 wo37 En38 Hv39 => ?_
 refine f_e ?_
 refine then_normal ?_
 refine wp_seq ?_
 refine wp_seq ?_
 refine d_r [0,4,5,6,8,9] [] En38 fun ac40 En41 => ?_
 refine then_normal ?_
 refine wp_block ?_
 refine loop_m (fun ms42 ac wo => ∃ (q : Nat) (x : List UInt64), ms42 = (q + 1 : Nat) ∧ Env ac 38 [(0, .int .i64 f), (4, pt bk1), (5, pt bk6), (6, pt bk11), (8, pt bk31), (9, .int .i64 (((q : Nat) : Int) - (1 : Int)))] ∧ Ev w [] wo [.box bk31 (u64s x) 24, .box bk1 (u64s a) 24, .box bk6 (u64s g) 24, .box bk11 (u64s (List.replicate 4 0)) 24] ∧ (q ≤ 256) ∧ (List.length x = 4) ∧ (x = nd (powM f (nv a) (nv g / 2 ^ q)))) ⟨_, 256, ([1, 0, 0, 0] : List UInt64), rfl, En41.sb, Hv39.pk [3, 0, 1, 2], by omega, by rfl, by rw [div_top hg, powM_zero hf]; decide⟩ ?_
 rintro mm48 ac44 wo45 ⟨q, x, rfl, En46, Hv47, hq, hx, hxe⟩
 refine wp_seq ?_
 refine wp_seq ?_
 refine d_r [0,4,5,6,8,9,17] [] En46 fun ac49 En50 => ?_
 refine then_normal ?_
 refine c_d (((q : Nat) : Int) - (1 : Int) ≥ (0 : Int)) En50 (fun hc51 => ?_) (fun hc51 => ?_)
 ·
  refine wp_skip ?_
  refine then_normal ?_
  refine wp_seq ?_
  refine wp_block ?_
  refine wp_seq ?_
  have En52 := Env.fx (t := 9) (v := .int .i64 (((q : Nat) : Int) - (1 : Int))) (u := ni (q - 1)) En50 (congrArg (Value.int .i64) (show ((q : Nat) : Int) - (1 : Int) = ((q - 1 : Nat) : Int) by omega))
  have hbv := bit_at g (q - 1)
  rw [hxe] at Hv47
  refine region_from ?_
  refine d_k [0,4,5,6,8,9,20] [] 1 En52 fun ac53 En54 => ?_
  refine f_o ?_
  refine m_a 0 0 4 (u64s (nd (powM f (nv a) (nv g / 2 ^ q)))) En54 Hv47 rfl (load_whole (u64s_lenh (nds_len _ _))) (u64s_lenh (nds_len _ _)) fun ac55 En56 => ?_
  refine f_o ?_
  refine m_a 0 0 4 (u64s (nd (powM f (nv a) (nv g / 2 ^ q)))) En56 Hv47 rfl (load_whole (u64s_lenh (nds_len _ _))) (u64s_lenh (nds_len _ _)) fun ac57 En58 => ?_
  refine f_o ?_
  refine c_p En58 Hv47 (hR _ (nd (powM f (nv a) (nv g / 2 ^ q))) (nd (powM f (nv a) (nv g / 2 ^ q))) (nds_len _ _) (nds_len _ _)) fun ac63 wo60 En64 Hv65 => ?_
  refine f_o ?_
  refine m_g 0 0 4 (u64s (nd (mulM f (nv (nd (powM f (nv a) (nv g / 2 ^ q)))) (nv (nd (powM f (nv a) (nv g / 2 ^ q))))))) (u64s (nd (mulM f (nv (nd (powM f (nv a) (nv g / 2 ^ q)))) (nv (nd (powM f (nv a) (nv g / 2 ^ q))))))) [.box bk31 (u64s (nd (mulM f (nv (nd (powM f (nv a) (nv g / 2 ^ q)))) (nv (nd (powM f (nv a) (nv g / 2 ^ q))))))) 24, .box bk1 (u64s a) 24, .box bk6 (u64s g) 24, .box bk11 (u64s (List.replicate 4 0)) 24] En64 Hv65 rfl (u64s_lenh (nds_len _ _)) (by rw [(u64s_lenh (nds_len _ _))]; decide) (u64s_one _) (store_whole (u64s_lenh (nds_len _ _))) rfl fun ac66 wo67 En68 Hv69 => ?_
  refine f_e ?_
  refine then_normal ?_
  refine wp_seq ?_
  refine region_from ?_
  refine d_k [0,4,5,6,8,9,25] [(1, g_i .i64 (show IntKind.wrap .i64 (Int.tdiv ((q - 1 : Nat) : Int) (64 : Int)) = (((q - 1) / 64 : Nat) : Int) from Go.Dbr.i64_quo_nat (a := ((q - 1 : Nat) : Int)) (n := q - 1) (m := 64) rfl (by omega)))] 2 En68 fun ac70 En71 => ?_
  refine f_o ?_
  refine q_v (x := Instr.indexAt 24 (pt bk6) (ni ((q - 1) / 64))) (v := .pointer (some ⟨bk6, (q - 1) / 64, none⟩)) En71 (Go.Dbr.run_indexarr (e := 22) (sz := 1) (m := 4) (j := (q - 1) / 64) (o := (q - 1) / 64) (by kernel_rfl) (by kernel_rfl) (by omega) (by omega) (by omega) _) fun ac72 En73 => ?_
  refine f_o ?_
  have hb74 : (q - 1) / 64 < List.length g := by rw [hg]; omega
  refine m_v 2 ((q - 1) / 64) (uv64 (List.getD g ((q - 1) / 64) 0)) En73 Hv69 rfl (u64s_getD hb74) fun ac75 En76 => ?_
  refine d_k [0,4,5,6,8,9,27,29] [(5, g_i .i64 (show Int.tmod ((q - 1 : Nat) : Int) (64 : Int) = (((q - 1) % 64 : Nat) : Int) from Go.Dbr.i64_rem_nat (a := ((q - 1 : Nat) : Int)) (n := q - 1) (m := 64) rfl (by omega)))] 6 En76 fun ac77 En78 => ?_
  refine f_o ?_
  refine q_v En78 (Go.Dbr.run_shr_u64 (List.getD g ((q - 1) / 64) 0) .i64 ((q - 1) % 64) (by omega) _) fun ac79 En80 => ?_
  refine d_e [0,4,5,6,8,9,32] [(7, g_i .u64 (Go.Dbr.u64_and (x := (List.getD g ((q - 1) / 64) 0) >>> UInt64.ofNat ((q - 1) % 64)) (y := (1 : UInt64)) rfl rfl))] En80 fun ac81 En82 => ?_
  refine then_normal ?_
  refine c_e ((UInt64.toNat (((List.getD g ((q - 1) / 64) 0) >>> UInt64.ofNat ((q - 1) % 64)) &&& (1 : UInt64)) : Nat) : Int) (1 : Int) En82 (fun hc83 => ?_) (fun hc83 => ?_)
  ·
   refine region_from ?_
   refine d_k [0,4,5,6,8,9,33] [] 1 En82 fun ac84 En85 => ?_
   refine f_o ?_
   refine m_a 0 0 4 (u64s (nd (mulM f (nv (nd (powM f (nv a) (nv g / 2 ^ q)))) (nv (nd (powM f (nv a) (nv g / 2 ^ q))))))) En85 Hv69 rfl (load_whole (u64s_lenh (nds_len _ _))) (u64s_lenh (nds_len _ _)) fun ac86 En87 => ?_
   refine f_o ?_
   refine m_a 1 0 4 (u64s a) En87 Hv69 rfl (load_whole (u64s_lenh ha)) (u64s_lenh ha) fun ac88 En89 => ?_
   refine f_o ?_
   refine c_p En89 Hv69 (hR _ (nd (mulM f (nv (nd (powM f (nv a) (nv g / 2 ^ q)))) (nv (nd (powM f (nv a) (nv g / 2 ^ q)))))) a (nds_len _ _) ha) fun ac94 wo91 En95 Hv96 => ?_
   refine f_o ?_
   refine m_g 0 0 4 (u64s (nd (mulM f (nv (nd (mulM f (nv (nd (powM f (nv a) (nv g / 2 ^ q)))) (nv (nd (powM f (nv a) (nv g / 2 ^ q))))))) (nv a)))) (u64s (nd (mulM f (nv (nd (mulM f (nv (nd (powM f (nv a) (nv g / 2 ^ q)))) (nv (nd (powM f (nv a) (nv g / 2 ^ q))))))) (nv a)))) [.box bk31 (u64s (nd (mulM f (nv (nd (mulM f (nv (nd (powM f (nv a) (nv g / 2 ^ q)))) (nv (nd (powM f (nv a) (nv g / 2 ^ q))))))) (nv a)))) 24, .box bk1 (u64s a) 24, .box bk6 (u64s g) 24, .box bk11 (u64s (List.replicate 4 0)) 24] En95 Hv96 rfl (u64s_lenh (nds_len _ _)) (by rw [(u64s_lenh (nds_len _ _))]; decide) (u64s_one _) (store_whole (u64s_lenh (nds_len _ _))) rfl fun ac97 wo98 En99 Hv100 => ?_
   refine f_e ?_
   refine block_normal ?_
   refine then_normal ?_
   refine d_r [0,4,5,6,8,9] [(1, g_n (w_r (e := ((q - 1 : Nat) : Int) - (1 : Int)) (x := ((q - 1 : Nat) : Int) - (1 : Int)) (by omega)))] En99 fun ac101 En102 => ?_
   refine then_normal ?_
   refine ⟨_, ⟨q - 1, (nd (mulM f (nv (nd (mulM f (nv (nd (powM f (nv a) (nv g / 2 ^ q)))) (nv (nd (powM f (nv a) (nv g / 2 ^ q))))))) (nv a))), rfl, En102.sb, Hv100.pk [0, 1, 2, 3], by omega, (nds_len _ _), bit_yes hf (by omega) hbv (by assumption)⟩, ?_⟩
   omega
  ·
   refine wp_skip ?_
   refine block_normal ?_
   refine then_normal ?_
   refine d_r [0,4,5,6,8,9] [(1, g_n (w_r (e := ((q - 1 : Nat) : Int) - (1 : Int)) (x := ((q - 1 : Nat) : Int) - (1 : Int)) (by omega)))] En82 fun ac103 En104 => ?_
   refine then_normal ?_
   refine ⟨_, ⟨q - 1, (nd (mulM f (nv (nd (powM f (nv a) (nv g / 2 ^ q)))) (nv (nd (powM f (nv a) (nv g / 2 ^ q)))))), rfl, En104.sb, Hv69.pk [0, 1, 2, 3], by omega, (nds_len _ _), bit_no hf (by omega) hbv (by assumption)⟩, ?_⟩
   omega
 ·
  refine wp_exit ?_
  refine then_exit ?_
  refine then_exit ?_
  refine block_exit ?_
  refine then_normal ?_
  refine wp_seq ?_
  rw [hxe] at Hv47
  refine region_from ?_
  refine f_o ?_
  refine m_a 0 0 4 (u64s (nd (powM f (nv a) (nv g / 2 ^ q)))) En50 Hv47 rfl (load_whole (u64s_lenh (nds_len _ _))) (u64s_lenh (nds_len _ _)) fun ac105 En106 => ?_
  refine f_o ?_
  refine m_g 3 0 4 (u64s (nd (powM f (nv a) (nv g / 2 ^ q)))) (u64s (nd (powM f (nv a) (nv g / 2 ^ q)))) [.box bk31 (u64s (nd (powM f (nv a) (nv g / 2 ^ q)))) 24, .box bk1 (u64s a) 24, .box bk6 (u64s g) 24, .box bk11 (u64s (nd (powM f (nv a) (nv g / 2 ^ q)))) 24] En106 Hv47 rfl (u64s_lenh (nds_len _ _)) (by rw [(u64s_lenh (List.length_replicate))]; decide) (u64s_one _) (store_whole (u64s_lenh (List.length_replicate))) rfl fun ac107 wo108 En109 Hv110 => ?_
  refine f_e ?_
  refine then_normal ?_
  refine wp_ret ?_
  refine d_cell1 (v := .agg (List.toArray (u64s (nd (powM f (nv a) (nv g / 2 ^ q)))))) (t := 6) (T := 24) (ad := ⟨bk11, 0, none⟩) En109 (by kernel_rfl) (by kernel_rfl) (Ev.cellAgg (t := 24) (k := 3) (off := 0) (m := 4) (xs := u64s (nd (powM f (nv a) (nv g / 2 ^ q)))) Hv110 rfl (load_whole (u64s_lenh (nds_len _ _))) (u64s_lenh (nds_len _ _)) (by kernel_rfl) (by kernel_rfl)) ?_
  have hq0 : q = 0 := by omega
  subst hq0
  have eq : nd (powM f (nv a) (nv g / 2 ^ 0)) = nd (powM f (nv a) (nv g)) := by rw [Nat.pow_zero, Nat.div_one]
  exact ⟨by rw [eq], Hv110.pk []⟩

theorem exp_go (w : World) (f : Int) (hf : f = 1 ∨ f = 2 ∨ f = 3 ∨ f = 4) (hM : MulOk f) (a g : List UInt64) (ha : List.length a = 4) (hg : List.length g = 4) : Calls Try.prog 78 #[.int .i64 f, .agg (List.toArray (u64s a)), .agg (List.toArray (u64s g))] w fun e w' => e = .returned (.agg (List.toArray (u64s (nd (powM f (nv a) (nv g)))))) ∧ Ev w [] w' [] := by
 refine d_0 [(0, .int .i64 f), (1, .agg (List.toArray (u64s a))), (2, .agg (List.toArray (u64s g)))] 62 Go.Proofs.Try.func78 Go.Proofs.Try.ntmps78 (Heap.nil _) fun act0 En0 Hv0 => ?_
 refine wp_seq ?_
 refine region_from ?_
 refine f_o ?_
 refine m_m 24 (u64s a) En0 Hv0 fun ac2 wo3 bk1 En4 Hv5 => ?_
 refine f_o ?_
 refine m_m 24 (u64s g) En4 Hv5 fun ac7 wo8 bk6 En9 Hv10 => ?_
 refine f_o ?_
 refine m_z 24 (u64s (List.replicate 4 0)) En9 Hv10 fun ac12 wo13 bk11 En14 Hv15 => ?_
 refine f_e ?_
 refine then_normal ?_
 refine wp_seq ?_
 refine wp_seq ?_
 refine region_from ?_
 refine d_k [0,4,5,6,12] [] 1 En14 fun ac16 En17 => ?_
 refine f_o ?_
 refine c_p En17 Hv15 (is_go_yes _ f hf) fun ac22 wo19 En23 Hv24 => ?_
 refine d_e [0,4,5,6,14] [] En23 fun ac25 En26 => ?_
 refine then_normal ?_
 refine c_f En26 ?_
 refine wp_skip ?_
 refine then_normal ?_
 refine wp_seq ?_
 refine region_from ?_
 refine f_o ?_
 refine m_z 101 (u64s (List.replicate 64 0)) En26 Hv24 fun ac28 wo29 bk27 En30 Hv31 => ?_
 refine f_e ?_
 refine then_normal ?_
 refine wp_seq ?_
 refine region_from ?_
 refine d_k [0,4,5,6,7,16,17] [] 2 En30 fun ac32 En33 => ?_
 refine f_o ?_
 refine m_g 3 0 4 (u64s ([1, 0, 0, 0] : List UInt64)) (u64s (List.take 0 (List.replicate 64 0) ++ ([1, 0, 0, 0] : List UInt64) ++ List.drop (0 + 4) (List.replicate 64 0))) [.box bk1 (u64s a) 24, .box bk6 (u64s g) 24, .box bk11 (u64s (List.replicate 4 0)) 24, .box bk27 (u64s (List.take 0 (List.replicate 64 0) ++ ([1, 0, 0, 0] : List UInt64) ++ List.drop (0 + 4) (List.replicate 64 0))) 101] En33 Hv31 rfl (u64s_lenh (show List.length ([1, 0, 0, 0] : List UInt64) = 4 from rfl)) (by rw [(u64s_lenh (List.length_replicate))]; decide) (u64s_one _) (u64s_put _ _ _ _) rfl fun ac34 wo35 En36 Hv37 => ?_
 refine f_e ?_
 refine then_normal ?_
 refine wp_seq ?_
 refine wp_seq ?_
 refine d_r [0,4,5,6,7,8] [] En36 fun ac38 En39 => ?_
 refine then_normal ?_
 refine wp_block ?_
 refine loop_m (fun ms40 ac wo => ∃ (i : Nat) (L : List UInt64), ms40 = (17 - i : Nat) ∧ Env ac 62 [(0, .int .i64 f), (4, pt bk1), (5, pt bk6), (6, pt bk11), (7, pt bk27), (8, ni i)] ∧ Ev w [] wo [.box bk27 (u64s L) 101, .box bk1 (u64s a) 24, .box bk6 (u64s g) 24, .box bk11 (u64s (List.replicate 4 0)) 24] ∧ (1 ≤ i) ∧ (i ≤ 16) ∧ (List.length L = 64) ∧ (∀ j, j < i → List.take 4 (List.drop (j * 4) L) = nd (powM f (nv a) j))) ⟨_, 1, (List.take 0 (List.replicate 64 0) ++ ([1, 0, 0, 0] : List UInt64) ++ List.drop (0 + 4) (List.replicate 64 0)), rfl, En39.sb, Hv37.pk [3, 0, 1, 2], by omega, by omega, by rfl, tab_first hf rfl⟩ ?_
 rintro mm46 ac42 wo43 ⟨i, L, rfl, En44, Hv45, h1, hi, hL, hT⟩
 refine wp_seq ?_
 refine wp_seq ?_
 refine d_r [0,4,5,6,7,8,19] [] En44 fun ac47 En48 => ?_
 refine then_normal ?_
 refine c_d (((i : Nat) : Int) < (16 : Int)) En48 (fun hc49 => ?_) (fun hc49 => ?_)
 ·
  refine wp_skip ?_
  refine then_normal ?_
  refine wp_seq ?_
  refine wp_block ?_
  refine r_c (fun ac wo => Env ac 62 [(0, .int .i64 f), (4, pt bk1), (5, pt bk6), (6, pt bk11), (7, pt bk27), (8, ni i)] ∧ Ev w [] wo [.box bk27 (u64s (List.take (i * 4) L ++ (nd (mulM f (nv (List.take 4 (List.drop ((i - 1) * 4) L))) (nv a))) ++ List.drop ((i * 4) + 4) L)) 101, .box bk1 (u64s a) 24, .box bk6 (u64s g) 24, .box bk11 (u64s (List.replicate 4 0)) 24]) ?_ ?_
  ·
   refine h_s (fun wv => Ev w [] wv [.box bk27 (u64s L) 101, .box bk1 (u64s a) 24]) [9] 10 ?_
   have wo50 := Hv45.trans (Ev.drew Hv45.heap)
   refine q_s [0,1,2,3] [(3, g_n (w_r (e := ((i : Nat) : Int) - (1 : Int)) (x := ((i - 1 : Nat) : Int)) (by omega)))] 6 En48 (wo50.pk [0, 1]) fun ac110 En111 => ?_
   refine q_f 4 (s := Instr.indexAt 101 (pt bk27) (ni (i - 1))) (v := .pointer (some ⟨bk27, (i - 1) * 4, none⟩)) En111 (fun _ => Go.Dbr.run_indexarr (e := 24) (sz := 4) (m := 16) (j := i - 1) (o := (i - 1) * 4) (by kernel_rfl) (by kernel_rfl) (by omega) (by omega) (by omega) _) (fun _ => wo50.pk [0, 1]) fun ac112 En113 => ?_
   refine q_r 5 (s := Instr.loadAt 24 (.pointer (some ⟨bk27, (i - 1) * 4, none⟩))) (v := .agg (List.toArray (u64s (List.take 4 (List.drop ((i - 1) * 4) L))))) En113 (fun w hS => run_loadAgg2 (m := 4) (cs := u64s (List.take 4 (List.drop ((i - 1) * 4) L))) (u64s_lenh (sub_len hL (by omega))) (by kernel_rfl) (by kernel_rfl) (hS.heap.cells (k := 0) (off := (i - 1) * 4) (m := 4) rfl (u64s_sub _ _ _))) (wo50.pk [0, 1]) fun ac114 En115 => ?_
   refine q_r 6 (s := Instr.loadAt 24 (pt bk1)) (v := .agg (List.toArray (u64s a))) En115 (fun w hS => run_loadAgg2 (m := 4) (cs := u64s a) (u64s_lenh ha) (by kernel_rfl) (by kernel_rfl) (hS.heap.cells (k := 1) (off := 0) (m := 4) rfl (load_whole (u64s_lenh ha)))) (wo50.pk [0, 1]) fun ac116 En117 => ?_
   refine q_t 7 ?_
   refine c_p En117 wo50 (hM _ (List.take 4 (List.drop ((i - 1) * 4) L)) a (sub_len hL (by omega)) ha) fun ac122 wo119 En123 Hv124 => ?_
   refine ⟨fun _ => Hv124.pk [0, 1], ?_⟩
   refine q_f 8 (s := Instr.indexAt 101 (pt bk27) (ni i)) (v := .pointer (some ⟨bk27, i * 4, none⟩)) En123 (fun _ => Go.Dbr.run_indexarr (e := 24) (sz := 4) (m := 16) (j := i) (o := i * 4) (by kernel_rfl) (by kernel_rfl) (by omega) (by omega) (by omega) _) (fun _ => Hv124.pk [0, 1]) fun ac125 En126 => ?_
   refine q_t 9 ?_
   refine m_g 0 (i * 4) 4 (u64s (nd (mulM f (nv (List.take 4 (List.drop ((i - 1) * 4) L))) (nv a)))) (u64s (List.take (i * 4) L ++ (nd (mulM f (nv (List.take 4 (List.drop ((i - 1) * 4) L))) (nv a))) ++ List.drop ((i * 4) + 4) L)) [.box bk27 (u64s (List.take (i * 4) L ++ (nd (mulM f (nv (List.take 4 (List.drop ((i - 1) * 4) L))) (nv a))) ++ List.drop ((i * 4) + 4) L)) 101, .box bk1 (u64s a) 24, .box bk6 (u64s g) 24, .box bk11 (u64s (List.replicate 4 0)) 24] En126 Hv124 rfl (u64s_lenh (nds_len _ _)) (by rw [(u64s_lenh hL)]; omega) (u64s_one _) (u64s_put _ _ _ _) rfl fun ac127 wo128 En129 Hv130 => ?_
   refine ⟨q_y, ?_⟩
   exact h_e ⟨En129.sb, Hv130.pk [0, 1, 2, 3]⟩
  rintro ac131 wo132 ⟨En133, Hv134⟩
  refine block_normal ?_
  refine then_normal ?_
  refine d_r [0,4,5,6,7,8] [(1, g_n (w_a i 1))] En133 fun ac135 En136 => ?_
  refine then_normal ?_
  refine ⟨_, ⟨i + 1, (List.take (i * 4) L ++ (nd (mulM f (nv (List.take 4 (List.drop ((i - 1) * 4) L))) (nv a))) ++ List.drop ((i * 4) + 4) L), rfl, En136.sb, Hv134.pk [0, 1, 2, 3], by omega, by omega, (put_len hL (nds_len _ _) (by omega)), tab_step hf h1 hL (by omega) hT⟩, ?_⟩
  omega
 ·
  refine wp_exit ?_
  refine then_exit ?_
  refine then_exit ?_
  refine block_exit ?_
  refine then_normal ?_
  refine wp_seq ?_
  have hT16 : ∀ j, j < 16 → List.take 4 (List.drop (j * 4) L) = nd (powM f (nv a) j) := fun j hj => hT j (by omega)
  refine region_from ?_
  refine d_k [0,4,5,6,7,8,31] [] 1 En48 fun ac137 En138 => ?_
  refine f_o ?_
  refine m_a 0 0 4 (u64s (List.take 4 L)) En138 Hv45 rfl (by simp [u64s, List.map_take]) (u64s_lenh (by rw [List.length_take, hL]; decide)) fun ac139 En140 => ?_
  refine f_o ?_
  refine m_z 24 (u64s (List.replicate 4 0)) En140 Hv45 fun ac142 wo143 bk141 En144 Hv145 => ?_
  refine f_o ?_
  refine m_g 4 0 4 (u64s (List.take 4 L)) (u64s (List.take 4 L)) [.box bk27 (u64s L) 101, .box bk1 (u64s a) 24, .box bk6 (u64s g) 24, .box bk11 (u64s (List.replicate 4 0)) 24, .box bk141 (u64s (List.take 4 L)) 24] En144 Hv145 rfl (u64s_lenh (by rw [List.length_take, hL]; decide)) (by rw [(u64s_lenh (List.length_replicate))]; decide) (u64s_one _) (store_whole (u64s_lenh (List.length_replicate))) rfl fun ac146 wo147 En148 Hv149 => ?_
  refine f_e ?_
  refine then_normal ?_
  refine wp_seq ?_
  refine wp_seq ?_
  refine d_r [0,4,5,6,7,8,9,10] [] En148 fun ac150 En151 => ?_
  refine then_normal ?_
  refine wp_block ?_
  refine loop_m (fun ms152 ac wo => ∃ (q : Nat) (x : List UInt64), ms152 = (q + 1 : Nat) ∧ Env ac 62 [(0, .int .i64 f), (4, pt bk1), (5, pt bk6), (6, pt bk11), (7, pt bk27), (8, ni i), (9, pt bk141), (10, .int .i64 (((q : Nat) : Int) - (1 : Int)))] ∧ Ev w [] wo [.box bk141 (u64s x) 24, .box bk27 (u64s L) 101, .box bk1 (u64s a) 24, .box bk6 (u64s g) 24, .box bk11 (u64s (List.replicate 4 0)) 24] ∧ (q ≤ 64) ∧ (List.length x = 4) ∧ (x = nd (powM f (nv a) (nv g / 16 ^ q)))) ⟨_, 64, (List.take 4 L), rfl, En151.sb, Hv149.pk [4, 0, 1, 2, 3], by omega, (by rw [List.length_take, hL]; decide), by rw [div_top4 hg]; exact hT16 0 (by omega)⟩ ?_
  rintro mm158 ac154 wo155 ⟨q, x, rfl, En156, Hv157, hq, hx, hxe⟩
  refine wp_seq ?_
  refine wp_seq ?_
  refine d_r [0,4,5,6,7,8,9,10,34] [] En156 fun ac159 En160 => ?_
  refine then_normal ?_
  refine c_d (((q : Nat) : Int) - (1 : Int) ≥ (0 : Int)) En160 (fun hc161 => ?_) (fun hc161 => ?_)
  ·
   refine wp_skip ?_
   refine then_normal ?_
   refine wp_seq ?_
   refine wp_block ?_
   refine wp_seq ?_
   refine wp_seq ?_
   have En162 := Env.fx (t := 10) (v := .int .i64 (((q : Nat) : Int) - (1 : Int))) (u := ni (q - 1)) En160 (congrArg (Value.int .i64) (show ((q : Nat) : Int) - (1 : Int) = ((q - 1 : Nat) : Int) by omega))
   have hbv := nib_at g (q - 1)
   have hb16 : (List.getD g ((q - 1) / 16) 0 >>> UInt64.ofNat (4 * ((q - 1) % 16)) &&& 15).toNat < 16 := by rw [hbv]; omega
   refine d_r [0,4,5,6,7,8,9,10,37] [] En162 fun ac163 En164 => ?_
   refine then_normal ?_
   refine wp_block ?_
   refine loop_m (fun ms165 ac wo => ∃ (k : Nat) (y : List UInt64), ms165 = (5 - k : Nat) ∧ Env ac 62 [(0, .int .i64 f), (4, pt bk1), (5, pt bk6), (6, pt bk11), (7, pt bk27), (8, ni i), (9, pt bk141), (10, ni (q - 1)), (37, ni k)] ∧ Ev w [] wo [.box bk141 (u64s y) 24, .box bk27 (u64s L) 101, .box bk1 (u64s a) 24, .box bk6 (u64s g) 24, .box bk11 (u64s (List.replicate 4 0)) 24] ∧ (k ≤ 4) ∧ (List.length y = 4) ∧ (y = nd (powM f (nv a) (2 ^ k * (nv g / 16 ^ q))))) ⟨_, 0, x, rfl, En164.sb, Hv157.pk [0, 1, 2, 3, 4], by omega, hx, by rw [hxe, Nat.pow_zero, Nat.one_mul]⟩ ?_
   rintro mm171 ac167 wo168 ⟨k, y, rfl, En169, Hv170, hk, hy, hye⟩
   refine wp_seq ?_
   refine d_r [0,4,5,6,7,8,9,10,37,38] [] En169 fun ac172 En173 => ?_
   refine then_normal ?_
   refine wp_seq ?_
   refine c_d (((k : Nat) : Int) < (4 : Int)) En173 (fun hc174 => ?_) (fun hc174 => ?_)
   ·
    refine wp_skip ?_
    refine then_normal ?_
    refine wp_seq ?_
    refine wp_block ?_
    rw [hye] at Hv170
    refine region_from ?_
    refine d_k [0,4,5,6,7,8,9,10,37,39] [] 1 En173 fun ac175 En176 => ?_
    refine f_o ?_
    refine m_a 0 0 4 (u64s (nd (powM f (nv a) (2 ^ k * (nv g / 16 ^ q))))) En176 Hv170 rfl (load_whole (u64s_lenh (nds_len _ _))) (u64s_lenh (nds_len _ _)) fun ac177 En178 => ?_
    refine f_o ?_
    refine m_a 0 0 4 (u64s (nd (powM f (nv a) (2 ^ k * (nv g / 16 ^ q))))) En178 Hv170 rfl (load_whole (u64s_lenh (nds_len _ _))) (u64s_lenh (nds_len _ _)) fun ac179 En180 => ?_
    refine f_o ?_
    refine c_p En180 Hv170 (hM _ (nd (powM f (nv a) (2 ^ k * (nv g / 16 ^ q)))) (nd (powM f (nv a) (2 ^ k * (nv g / 16 ^ q)))) (nds_len _ _) (nds_len _ _)) fun ac185 wo182 En186 Hv187 => ?_
    refine f_o ?_
    refine m_g 0 0 4 (u64s (nd (mulM f (nv (nd (powM f (nv a) (2 ^ k * (nv g / 16 ^ q))))) (nv (nd (powM f (nv a) (2 ^ k * (nv g / 16 ^ q)))))))) (u64s (nd (mulM f (nv (nd (powM f (nv a) (2 ^ k * (nv g / 16 ^ q))))) (nv (nd (powM f (nv a) (2 ^ k * (nv g / 16 ^ q)))))))) [.box bk141 (u64s (nd (mulM f (nv (nd (powM f (nv a) (2 ^ k * (nv g / 16 ^ q))))) (nv (nd (powM f (nv a) (2 ^ k * (nv g / 16 ^ q)))))))) 24, .box bk27 (u64s L) 101, .box bk1 (u64s a) 24, .box bk6 (u64s g) 24, .box bk11 (u64s (List.replicate 4 0)) 24] En186 Hv187 rfl (u64s_lenh (nds_len _ _)) (by rw [(u64s_lenh (nds_len _ _))]; decide) (u64s_one _) (store_whole (u64s_lenh (nds_len _ _))) rfl fun ac188 wo189 En190 Hv191 => ?_
    refine f_e ?_
    refine block_normal ?_
    refine then_normal ?_
    refine d_r [0,4,5,6,7,8,9,10,37] [(0, g_n (w_a k 1))] En190 fun ac192 En193 => ?_
    refine then_normal ?_
    refine ⟨_, ⟨k + 1, (nd (mulM f (nv (nd (powM f (nv a) (2 ^ k * (nv g / 16 ^ q))))) (nv (nd (powM f (nv a) (2 ^ k * (nv g / 16 ^ q))))))), rfl, En193.sb, Hv191.pk [0, 1, 2, 3, 4], by omega, (nds_len _ _), sq_step hf⟩, ?_⟩
    omega
   ·
    refine wp_exit ?_
    refine then_exit ?_
    refine then_exit ?_
    refine block_exit ?_
    refine then_normal ?_
    refine wp_seq ?_
    have hk4 : k = 4 := by omega
    rw [hye, hk4] at Hv170
    refine region_from ?_
    refine d_k [0,4,5,6,7,8,9,10,37,45] [(1, g_i .i64 (show IntKind.wrap .i64 (Int.tdiv ((q - 1 : Nat) : Int) (16 : Int)) = (((q - 1) / 16 : Nat) : Int) from Go.Dbr.i64_quo_nat (a := ((q - 1 : Nat) : Int)) (n := q - 1) (m := 16) rfl (by omega)))] 2 En173 fun ac194 En195 => ?_
    refine f_o ?_
    refine q_v (x := Instr.indexAt 24 (pt bk6) (ni ((q - 1) / 16))) (v := .pointer (some ⟨bk6, (q - 1) / 16, none⟩)) En195 (Go.Dbr.run_indexarr (e := 22) (sz := 1) (m := 4) (j := (q - 1) / 16) (o := (q - 1) / 16) (by kernel_rfl) (by kernel_rfl) (by omega) (by omega) (by omega) _) fun ac196 En197 => ?_
    refine f_o ?_
    have hb198 : (q - 1) / 16 < List.length g := by rw [hg]; omega
    refine m_v 3 ((q - 1) / 16) (uv64 (List.getD g ((q - 1) / 16) 0)) En197 Hv170 rfl (u64s_getD hb198) fun ac199 En200 => ?_
    refine d_k [0,4,5,6,7,8,9,10,37,47,50] [(5, g_i .i64 (show Int.tmod ((q - 1 : Nat) : Int) (16 : Int) = (((q - 1) % 16 : Nat) : Int) from Go.Dbr.i64_rem_nat (a := ((q - 1 : Nat) : Int)) (n := q - 1) (m := 16) rfl (by omega))), (6, g_n (w_m 4 ((q - 1) % 16)))] 7 En200 fun ac201 En202 => ?_
    refine f_o ?_
    refine q_v En202 (Go.Dbr.run_shr_u64 (List.getD g ((q - 1) / 16) 0) .i64 (4 * ((q - 1) % 16)) (by omega) _) fun ac203 En204 => ?_
    refine d_e [0,4,5,6,7,8,9,10,11,37] [(8, g_i .u64 (Go.Dbr.u64_and (x := (List.getD g ((q - 1) / 16) 0) >>> UInt64.ofNat (4 * ((q - 1) % 16))) (y := (15 : UInt64)) rfl rfl))] En204 fun ac205 En206 => ?_
    refine then_normal ?_
    refine wp_seq ?_
    refine d_r [0,4,5,6,7,8,9,10,11,37,54] [] En206 fun ac207 En208 => ?_
    refine then_normal ?_
    refine c_n ((UInt64.toNat (((List.getD g ((q - 1) / 16) 0) >>> UInt64.ofNat (4 * ((q - 1) % 16))) &&& (15 : UInt64)) : Nat) : Int) (0 : Int) En208 (fun hc209 => ?_) (fun hc209 => ?_)
    ·
     refine r_c (fun ac wo => Env ac 62 [(0, .int .i64 f), (4, pt bk1), (5, pt bk6), (6, pt bk11), (7, pt bk27), (8, ni i), (9, pt bk141), (10, ni (q - 1)), (11, uv64 (((List.getD g ((q - 1) / 16) 0) >>> UInt64.ofNat (4 * ((q - 1) % 16))) &&& (15 : UInt64))), (37, ni k)] ∧ Ev w [] wo [.box bk141 (u64s (nd (mulM f (nv (nd (powM f (nv a) (2 ^ 4 * (nv g / 16 ^ q))))) (nv (List.take 4 (List.drop ((UInt64.toNat (((List.getD g ((q - 1) / 16) 0) >>> UInt64.ofNat (4 * ((q - 1) % 16))) &&& (15 : UInt64))) * 4) L)))))) 24, .box bk27 (u64s L) 101, .box bk1 (u64s a) 24, .box bk6 (u64s g) 24, .box bk11 (u64s (List.replicate 4 0)) 24]) ?_ ?_
     ·
      refine h_s (fun wv => Ev w [] wv [.box bk141 (u64s (nd (powM f (nv a) (2 ^ 4 * (nv g / 16 ^ q))))) 24, .box bk27 (u64s L) 101]) [6] 7 ?_
      have wo210 := Hv170.trans (Ev.drew Hv170.heap)
      refine q_s [0] [] 6 En208 (wo210.pk [0, 1]) fun ac266 En267 => ?_
      refine q_r 1 (s := Instr.loadAt 24 (pt bk141)) (v := .agg (List.toArray (u64s (nd (powM f (nv a) (2 ^ 4 * (nv g / 16 ^ q))))))) En267 (fun w hS => run_loadAgg2 (m := 4) (cs := u64s (nd (powM f (nv a) (2 ^ 4 * (nv g / 16 ^ q))))) (u64s_lenh (nds_len _ _)) (by kernel_rfl) (by kernel_rfl) (hS.heap.cells (k := 0) (off := 0) (m := 4) rfl (load_whole (u64s_lenh (nds_len _ _))))) (wo210.pk [0, 1]) fun ac268 En269 => ?_
      refine q_s [2] [] 4 En269 (wo210.pk [0, 1]) fun ac270 En271 => ?_
      refine q_f 3 (s := Instr.indexAt 101 (pt bk27) (uv64 (((List.getD g ((q - 1) / 16) 0) >>> UInt64.ofNat (4 * ((q - 1) % 16))) &&& (15 : UInt64)))) (v := .pointer (some ⟨bk27, (UInt64.toNat (((List.getD g ((q - 1) / 16) 0) >>> UInt64.ofNat (4 * ((q - 1) % 16))) &&& (15 : UInt64))) * 4, none⟩)) En271 (fun _ => Go.Dbr.run_indexarr (e := 24) (sz := 4) (m := 16) (j := UInt64.toNat (((List.getD g ((q - 1) / 16) 0) >>> UInt64.ofNat (4 * ((q - 1) % 16))) &&& (15 : UInt64))) (o := (UInt64.toNat (((List.getD g ((q - 1) / 16) 0) >>> UInt64.ofNat (4 * ((q - 1) % 16))) &&& (15 : UInt64))) * 4) (by kernel_rfl) (by kernel_rfl) (by omega) (by omega) (by omega) _) (fun _ => wo210.pk [0, 1]) fun ac272 En273 => ?_
      refine q_r 4 (s := Instr.loadAt 24 (.pointer (some ⟨bk27, (UInt64.toNat (((List.getD g ((q - 1) / 16) 0) >>> UInt64.ofNat (4 * ((q - 1) % 16))) &&& (15 : UInt64))) * 4, none⟩))) (v := .agg (List.toArray (u64s (List.take 4 (List.drop ((UInt64.toNat (((List.getD g ((q - 1) / 16) 0) >>> UInt64.ofNat (4 * ((q - 1) % 16))) &&& (15 : UInt64))) * 4) L))))) En273 (fun w hS => run_loadAgg2 (m := 4) (cs := u64s (List.take 4 (List.drop ((UInt64.toNat (((List.getD g ((q - 1) / 16) 0) >>> UInt64.ofNat (4 * ((q - 1) % 16))) &&& (15 : UInt64))) * 4) L))) (u64s_lenh (sub_len hL (by omega))) (by kernel_rfl) (by kernel_rfl) (hS.heap.cells (k := 1) (off := (UInt64.toNat (((List.getD g ((q - 1) / 16) 0) >>> UInt64.ofNat (4 * ((q - 1) % 16))) &&& (15 : UInt64))) * 4) (m := 4) rfl (u64s_sub _ _ _))) (wo210.pk [0, 1]) fun ac274 En275 => ?_
      refine q_t 5 ?_
      refine c_p En275 wo210 (hM _ (nd (powM f (nv a) (2 ^ 4 * (nv g / 16 ^ q)))) (List.take 4 (List.drop ((UInt64.toNat (((List.getD g ((q - 1) / 16) 0) >>> UInt64.ofNat (4 * ((q - 1) % 16))) &&& (15 : UInt64))) * 4) L)) (nds_len _ _) (sub_len hL (by omega))) fun ac280 wo277 En281 Hv282 => ?_
      refine ⟨fun _ => Hv282.pk [0, 1], ?_⟩
      refine q_t 6 ?_
      refine m_g 0 0 4 (u64s (nd (mulM f (nv (nd (powM f (nv a) (2 ^ 4 * (nv g / 16 ^ q))))) (nv (List.take 4 (List.drop ((UInt64.toNat (((List.getD g ((q - 1) / 16) 0) >>> UInt64.ofNat (4 * ((q - 1) % 16))) &&& (15 : UInt64))) * 4) L)))))) (u64s (nd (mulM f (nv (nd (powM f (nv a) (2 ^ 4 * (nv g / 16 ^ q))))) (nv (List.take 4 (List.drop ((UInt64.toNat (((List.getD g ((q - 1) / 16) 0) >>> UInt64.ofNat (4 * ((q - 1) % 16))) &&& (15 : UInt64))) * 4) L)))))) [.box bk141 (u64s (nd (mulM f (nv (nd (powM f (nv a) (2 ^ 4 * (nv g / 16 ^ q))))) (nv (List.take 4 (List.drop ((UInt64.toNat (((List.getD g ((q - 1) / 16) 0) >>> UInt64.ofNat (4 * ((q - 1) % 16))) &&& (15 : UInt64))) * 4) L)))))) 24, .box bk27 (u64s L) 101, .box bk1 (u64s a) 24, .box bk6 (u64s g) 24, .box bk11 (u64s (List.replicate 4 0)) 24] En281 Hv282 rfl (u64s_lenh (nds_len _ _)) (by rw [(u64s_lenh (nds_len _ _))]; decide) (u64s_one _) (store_whole (u64s_lenh (nds_len _ _))) rfl fun ac283 wo284 En285 Hv286 => ?_
      refine ⟨q_y, ?_⟩
      exact h_e ⟨En285.sb, Hv286.pk [0, 1, 2, 3, 4]⟩
     rintro ac287 wo288 ⟨En289, Hv290⟩
     refine block_normal ?_
     refine then_normal ?_
     refine d_r [0,4,5,6,7,8,9,10,11,37] [(1, g_n (w_r (e := ((q - 1 : Nat) : Int) - (1 : Int)) (x := ((q - 1 : Nat) : Int) - (1 : Int)) (by omega)))] En289 fun ac291 En292 => ?_
     refine then_normal ?_
     refine ⟨_, ⟨q - 1, (nd (mulM f (nv (nd (powM f (nv a) (2 ^ 4 * (nv g / 16 ^ q))))) (nv (List.take 4 (List.drop ((UInt64.toNat (((List.getD g ((q - 1) / 16) 0) >>> UInt64.ofNat (4 * ((q - 1) % 16))) &&& (15 : UInt64))) * 4) L))))), rfl, En292.sb, Hv290.pk [0, 1, 2, 3, 4], by omega, (nds_len _ _), nib_yes hf (by omega) hbv hT16⟩, ?_⟩
     omega
    ·
     refine wp_skip ?_
     refine block_normal ?_
     refine then_normal ?_
     refine d_r [0,4,5,6,7,8,9,10,11,37] [(1, g_n (w_r (e := ((q - 1 : Nat) : Int) - (1 : Int)) (x := ((q - 1 : Nat) : Int) - (1 : Int)) (by omega)))] En208 fun ac293 En294 => ?_
     refine then_normal ?_
     refine ⟨_, ⟨q - 1, (nd (powM f (nv a) (2 ^ 4 * (nv g / 16 ^ q)))), rfl, En294.sb, Hv170.pk [0, 1, 2, 3, 4], by omega, (nds_len _ _), nib_no (by omega) hbv (by assumption)⟩, ?_⟩
     omega
  ·
   refine wp_exit ?_
   refine then_exit ?_
   refine then_exit ?_
   refine block_exit ?_
   refine then_normal ?_
   refine wp_seq ?_
   rw [hxe] at Hv157
   refine region_from ?_
   refine f_o ?_
   refine m_a 0 0 4 (u64s (nd (powM f (nv a) (nv g / 16 ^ q)))) En160 Hv157 rfl (load_whole (u64s_lenh (nds_len _ _))) (u64s_lenh (nds_len _ _)) fun ac295 En296 => ?_
   refine f_o ?_
   refine m_g 4 0 4 (u64s (nd (powM f (nv a) (nv g / 16 ^ q)))) (u64s (nd (powM f (nv a) (nv g / 16 ^ q)))) [.box bk141 (u64s (nd (powM f (nv a) (nv g / 16 ^ q)))) 24, .box bk27 (u64s L) 101, .box bk1 (u64s a) 24, .box bk6 (u64s g) 24, .box bk11 (u64s (nd (powM f (nv a) (nv g / 16 ^ q)))) 24] En296 Hv157 rfl (u64s_lenh (nds_len _ _)) (by rw [(u64s_lenh (List.length_replicate))]; decide) (u64s_one _) (store_whole (u64s_lenh (List.length_replicate))) rfl fun ac297 wo298 En299 Hv300 => ?_
   refine f_e ?_
   refine then_normal ?_
   refine wp_ret ?_
   refine d_cell1 (v := .agg (List.toArray (u64s (nd (powM f (nv a) (nv g / 16 ^ q)))))) (t := 6) (T := 24) (ad := ⟨bk11, 0, none⟩) En299 (by kernel_rfl) (by kernel_rfl) (Ev.cellAgg (t := 24) (k := 4) (off := 0) (m := 4) (xs := u64s (nd (powM f (nv a) (nv g / 16 ^ q)))) Hv300 rfl (load_whole (u64s_lenh (nds_len _ _))) (u64s_lenh (nds_len _ _)) (by kernel_rfl) (by kernel_rfl)) ?_
   have hq0 : q = 0 := by omega
   subst hq0
   have eq : nd (powM f (nv a) (nv g / 16 ^ 0)) = nd (powM f (nv a) (nv g)) := by rw [Nat.pow_zero, Nat.div_one]
   exact ⟨by rw [eq], Hv300.pk []⟩

theorem inv_go (w : World) (f : Int) (hf : (f = 1 ∨ f = 2 ∨ f = 3 ∨ f = 4)) (hM : MulOk f) (a : List UInt64) (ha : List.length a = 4) : Calls Try.prog 59 #[.int .i64 f, .agg (List.toArray (u64s a))] w fun e w' => e = .returned (.agg (List.toArray (u64s (nd (powM f (nv a) (mF f - 2)))))) ∧ Ev w [] w' [] := by
 refine d_0 [(0, .int .i64 f), (1, .agg (List.toArray (u64s a)))] 18 Go.Proofs.Try.func59 Go.Proofs.Try.ntmps59 (Heap.nil _) fun act0 En0 Hv0 => ?_
 refine wp_seq ?_
 refine region_from ?_
 refine f_o ?_
 refine m_m 24 (u64s a) En0 Hv0 fun ac2 wo3 bk1 En4 Hv5 => ?_
 refine f_o ?_
 refine m_z 24 (u64s (List.replicate 4 0)) En4 Hv5 fun ac7 wo8 bk6 En9 Hv10 => ?_
 refine f_e ?_
 refine then_normal ?_
 refine wp_seq ?_
 refine region_from ?_
 refine d_k [0,3,4,8] [] 1 En9 fun ac11 En12 => ?_
 refine f_o ?_
 refine c_p En12 Hv10 (modulus_go _ f) fun ac17 wo14 En18 Hv19 => ?_
 refine d_k [0,3,4,9,10] [] 3 En18 fun ac20 En21 => ?_
 refine f_o ?_
 refine c_p En21 Hv19 (minus_go _ (nd (mF f)) ([2, 0, 0, 0] : List UInt64) (nds_len _ _) (show List.length ([2, 0, 0, 0] : List UInt64) = 4 from rfl)) fun ac26 wo23 En27 Hv28 => ?_
 refine d_k [0,3,4,12,13] [] 7 En27 fun ac29 En30 => ?_
 refine f_o ?_
 refine m_z 24 (u64s (List.replicate 4 0)) En30 Hv28 fun ac32 wo33 bk31 En34 Hv35 => ?_
 refine f_o ?_
 refine m_g 2 0 4 (u64s (nd (nv (nd (mF f)) + W256 - nv ([2, 0, 0, 0] : List UInt64)))) (u64s (nd (nv (nd (mF f)) + W256 - nv ([2, 0, 0, 0] : List UInt64)))) [.box bk1 (u64s a) 24, .box bk6 (u64s (List.replicate 4 0)) 24, .box bk31 (u64s (nd (nv (nd (mF f)) + W256 - nv ([2, 0, 0, 0] : List UInt64)))) 24] En34 Hv35 rfl (u64s_lenh (nds_len _ _)) (by rw [(u64s_lenh (List.length_replicate))]; decide) (u64s_one _) (store_whole (u64s_lenh (List.length_replicate))) rfl fun ac36 wo37 En38 Hv39 => ?_
 refine d_e [0,3,4,5] [] En38 fun ac40 En41 => ?_
 refine then_normal ?_
 refine wp_seq ?_
 refine region_from ?_
 refine d_k [0,3,4,5,14] [] 1 En41 fun ac42 En43 => ?_
 refine f_o ?_
 refine m_a 0 0 4 (u64s a) En43 Hv39 rfl (load_whole (u64s_lenh ha)) (u64s_lenh ha) fun ac44 En45 => ?_
 refine f_o ?_
 refine m_a 2 0 4 (u64s (nd (nv (nd (mF f)) + W256 - nv ([2, 0, 0, 0] : List UInt64)))) En45 Hv39 rfl (load_whole (u64s_lenh (nds_len _ _))) (u64s_lenh (nds_len _ _)) fun ac46 En47 => ?_
 refine f_o ?_
 refine c_p En47 Hv39 (exp_go _ f hf hM a (nd (nv (nd (mF f)) + W256 - nv ([2, 0, 0, 0] : List UInt64))) ha (nds_len _ _)) fun ac52 wo49 En53 Hv54 => ?_
 refine f_o ?_
 refine m_g 1 0 4 (u64s (nd (powM f (nv a) (nv (nd (nv (nd (mF f)) + W256 - nv ([2, 0, 0, 0] : List UInt64))))))) (u64s (nd (powM f (nv a) (nv (nd (nv (nd (mF f)) + W256 - nv ([2, 0, 0, 0] : List UInt64))))))) [.box bk1 (u64s a) 24, .box bk6 (u64s (nd (powM f (nv a) (nv (nd (nv (nd (mF f)) + W256 - nv ([2, 0, 0, 0] : List UInt64))))))) 24, .box bk31 (u64s (nd (nv (nd (mF f)) + W256 - nv ([2, 0, 0, 0] : List UInt64)))) 24] En53 Hv54 rfl (u64s_lenh (nds_len _ _)) (by rw [(u64s_lenh (List.length_replicate))]; decide) (u64s_one _) (store_whole (u64s_lenh (List.length_replicate))) rfl fun ac55 wo56 En57 Hv58 => ?_
 refine f_e ?_
 refine then_normal ?_
 refine wp_ret ?_
 refine d_cell1 (v := .agg (List.toArray (u64s (nd (powM f (nv a) (nv (nd (nv (nd (mF f)) + W256 - nv ([2, 0, 0, 0] : List UInt64))))))))) (t := 4) (T := 24) (ad := ⟨bk6, 0, none⟩) En57 (by kernel_rfl) (by kernel_rfl) (Ev.cellAgg (t := 24) (k := 1) (off := 0) (m := 4) (xs := u64s (nd (powM f (nv a) (nv (nd (nv (nd (mF f)) + W256 - nv ([2, 0, 0, 0] : List UInt64))))))) Hv58 rfl (load_whole (u64s_lenh (nds_len _ _))) (u64s_lenh (nds_len _ _)) (by kernel_rfl) (by kernel_rfl)) ?_
 have eq : nd (powM f (nv a) (nv (nd (nv (nd (mF f)) + W256 - nv ([2, 0, 0, 0] : List UInt64))))) = nd (powM f (nv a) (mF f - 2)) := by rw [inv_e hf]
 exact ⟨by rw [eq], Hv58.pk []⟩

theorem rinv_go (w : World) (f : Int) (hf : (f = 1 ∨ f = 2 ∨ f = 3 ∨ f = 4)) (hR : RMulOk f) (a : List UInt64) (ha : List.length a = 4) : Calls Try.prog 60 #[.int .i64 f, .agg (List.toArray (u64s a))] w fun e w' => e = .returned (.agg (List.toArray (u64s (nd (powM f (nv a) (mF f - 2)))))) ∧ Ev w [] w' [] := by
 refine d_0 [(0, .int .i64 f), (1, .agg (List.toArray (u64s a)))] 12 Go.Proofs.Try.func60 Go.Proofs.Try.ntmps60 (Heap.nil _) fun act0 En0 Hv0 => ?_
 refine wp_seq ?_
 refine region_from ?_
 refine f_o ?_
 refine m_m 24 (u64s a) En0 Hv0 fun ac2 wo3 bk1 En4 Hv5 => ?_
 refine f_o ?_
 refine m_z 24 (u64s (List.replicate 4 0)) En4 Hv5 fun ac7 wo8 bk6 En9 Hv10 => ?_
 refine f_e ?_
 refine then_normal ?_
 refine wp_seq ?_
 refine r_c (fun ac wo => Env ac 12 [(4, pt bk6)] ∧ Ev w [] wo [.box bk6 (u64s (nd (powM f (nv a) (nv (nd (nv (nd (mF f)) + W256 - nv ([2, 0, 0, 0] : List UInt64))))))) 24]) ?_ ?_
 ·
  refine h_s (fun wv => Ev w [] wv [.box bk1 (u64s a) 24]) [] 8 ?_
  have wo11 := Hv10.trans (Ev.drew Hv10.heap)
  refine q_s [0] [] 7 En9 (wo11.pk [0]) fun ac119 En120 => ?_
  refine q_r 1 (s := Instr.loadAt 24 (pt bk1)) (v := .agg (List.toArray (u64s a))) En120 (fun w hS => run_loadAgg2 (m := 4) (cs := u64s a) (u64s_lenh ha) (by kernel_rfl) (by kernel_rfl) (hS.heap.cells (k := 0) (off := 0) (m := 4) rfl (load_whole (u64s_lenh ha)))) (wo11.pk [0]) fun ac121 En122 => ?_
  refine q_s [2,4] [] 4 En122 (wo11.pk [0]) fun ac123 En124 => ?_
  refine q_t 3 ?_
  refine c_p En124 wo11 (rmodulus_go _ f) fun ac129 wo126 En130 Hv131 => ?_
  refine ⟨fun _ => Hv131.pk [0], ?_⟩
  refine q_t 5 ?_
  refine c_p En130 Hv131 (rminus_go _ (nd (mF f)) ([2, 0, 0, 0] : List UInt64) (nds_len _ _) (show List.length ([2, 0, 0, 0] : List UInt64) = 4 from rfl)) fun ac136 wo133 En137 Hv138 => ?_
  refine ⟨fun _ => Hv138.pk [0], ?_⟩
  refine q_t 6 ?_
  refine c_p En137 Hv138 (rexp_go _ f hf hR a (nd (nv (nd (mF f)) + W256 - nv ([2, 0, 0, 0] : List UInt64))) ha (nds_len _ _)) fun ac143 wo140 En144 Hv145 => ?_
  refine ⟨fun _ => Hv145.pk [0], ?_⟩
  refine q_t 7 ?_
  refine m_g 1 0 4 (u64s (nd (powM f (nv a) (nv (nd (nv (nd (mF f)) + W256 - nv ([2, 0, 0, 0] : List UInt64))))))) (u64s (nd (powM f (nv a) (nv (nd (nv (nd (mF f)) + W256 - nv ([2, 0, 0, 0] : List UInt64))))))) [.box bk1 (u64s a) 24, .box bk6 (u64s (nd (powM f (nv a) (nv (nd (nv (nd (mF f)) + W256 - nv ([2, 0, 0, 0] : List UInt64))))))) 24] En144 Hv145 rfl (u64s_lenh (nds_len _ _)) (by rw [(u64s_lenh (List.length_replicate))]; decide) (u64s_one _) (store_whole (u64s_lenh (List.length_replicate))) rfl fun ac146 wo147 En148 Hv149 => ?_
  refine ⟨fun _ => Hv149.pk [0], ?_⟩
  exact h_e ⟨En148.sb, Hv149.pk [1]⟩
 rintro ac150 wo151 ⟨En152, Hv153⟩
 refine then_normal ?_
 refine wp_ret ?_
 refine d_cell1 (v := .agg (List.toArray (u64s (nd (powM f (nv a) (nv (nd (nv (nd (mF f)) + W256 - nv ([2, 0, 0, 0] : List UInt64))))))))) (t := 4) (T := 24) (ad := ⟨bk6, 0, none⟩) En152 (by kernel_rfl) (by kernel_rfl) (Ev.cellAgg (t := 24) (k := 0) (off := 0) (m := 4) (xs := u64s (nd (powM f (nv a) (nv (nd (nv (nd (mF f)) + W256 - nv ([2, 0, 0, 0] : List UInt64))))))) Hv153 rfl (load_whole (u64s_lenh (nds_len _ _))) (u64s_lenh (nds_len _ _)) (by kernel_rfl) (by kernel_rfl)) ?_
 have eq : nd (powM f (nv a) (nv (nd (nv (nd (mF f)) + W256 - nv ([2, 0, 0, 0] : List UInt64))))) = nd (powM f (nv a) (mF f - 2)) := by rw [inv_e hf]
 exact ⟨by rw [eq], Hv153.pk []⟩

end Go.Proofs.Ytpfhmbbiadpbeaa
