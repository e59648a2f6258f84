import Derived.Test.YtlnogkmnklfjlaaDoorSt4
import Derived.Test.YtlnogkmnklfjlaaDoorSt2
open List renaming length → za, getD → zb, replicate → ze, length_replicate → zf, toArray → zi, take → zk, drop → zo, length_take → zp, length_drop → zr, set → zy, length_append → zU, length_set → ZI, append_assoc → Qs, map_take → QG, map_drop → Yt
open Go.Dbr renaming u64s_lenh → zc, then_normal → zg, u64s → zh, region_from → zm, uv64 → zn, load_whole → zq, store_whole → zs, u64s_one → zv, block_normal → zA, addHi → zH, then_exit → zI, addLo → zL, run_loadAgg2 → zR, u64s_getD → zY, block_exit → z9, h_from → Zi, d_cell1 → Zj, then_ret → Z0, loop_m → Qh, mulHi → QX, u64s_set → Yn, op_ext → JK
open UInt64 renaming ofNat → zd, toNat → zB, toNat_shiftRight → Qi
open Go.Proofs.YtlnogkmnklfjlaaDoor renaming nds_len → zl, mulM → zt, W256 → zZ, mod_lt_w → ZU, nv_nd → Qd, getD_set_ne → QP, minus_go → Jm, nv_mF → JN
open Nat renaming mod_eq_of_lt → zK, mul_comm → z5, mul_assoc → Ze, pow_succ → Zl, add_mul → Zm, mul_one → Zo, mod_lt → ZB, le_refl → ZK, add_zero → ZM, zero_mul → ZN, shiftRight_eq_div_pow → ZS, div_div_eq_div_mul → ZT, mul_mod → ZY, pow_add → Z6, pow_zero → Qf, pow_mul → Qk, mul_zero → Qv, mul_add → Qz, mod_mod → QQ, mod_mul_mod → Yq, testBit → YF, add_mod → YX, mul_right_comm → Xr, zero_sub → XT
open Go.Dbr.Ev renaming cellAgg → zM, drew → z4
open Bool renaming and_eq_true → zX
/- Layer 4: powers. -/

namespace Go.Proofs.YtlnogkmnklfjlaaDoor
open Go.Dbr
set_option maxRecDepth 100000
set_option maxHeartbeats 2000000
set_option linter.unusedVariables false
set_option linter.unusedSimpArgs false

/-- a power -/
def powM (f : Int) (x n : Nat) : Nat := x ^ n % mF f
theorem powM_lt {f : Int} (hf : f = 1 ∨ f = 2 ∨ f = 3 ∨ f = 4) (x n : Nat) : powM f x n < zZ := ZU hf
theorem powM_zero {f : Int} (hf : f = 1 ∨ f = 2 ∨ f = 3 ∨ f = 4) (x : Nat) : powM f x 0 = 1 := by rw [powM, Qf, zK (mF_pos hf)]
theorem powM_add (f : Int) (x m n : Nat) : zt f (powM f x m) (powM f x n) = powM f x (m + n) := by rw [zt, powM, powM, ← ZY, ← Z6, powM]
theorem powM_succ (f : Int) (x n : Nat) : zt f (powM f x n) x = powM f x (n + 1) := by rw [zt, powM, Yq, ← Zl, powM]
theorem nv_pow {f : Int} (hf : f = 1 ∨ f = 2 ∨ f = 3 ∨ f = 4) (x n : Nat) : nv (nd (powM f x n)) = powM f x n := Qd (powM_lt hf x n)
/-- products are told -/
def MulOk (f : Int) : Prop := ∀ (w : World) (a b : List UInt64), za a = 4 → za b = 4 → Calls Tryd.prog 30 #[.int .i64 f, .agg (zi (zh a)), .agg (zi (zh b))] w fun e w' => e = .returned (.agg (zi (zh (nd (zt f (nv a) (nv b)))))) ∧ Ev w [] w' []
theorem bits_at {e : List UInt64} {j s t : Nat} (h : s + t ≤ 64) (h0 : s < 64) : (zb e j 0 >>> zd s).toNat % 2 ^ t = nv e / 2 ^ (64 * j + s) % 2 ^ t := by
  have hs : (zd s).toNat % 64 = s := by rw [ofNat_val]; omega
  have hp : (2 : Nat) ^ (64 * j + s) = 18446744073709551616 ^ j * 2 ^ s := by rw [Z6, Qk]
  rw [Qi, hs, dv_dig, ZS, hp, ← ZT]
  show _ = dv _ _ / _ / _ % _
  generalize dv 18446744073709551616 e / 18446744073709551616 ^ j = d
  have hB : 18446744073709551616 = 2 ^ s * 2 ^ (64 - s) := by rw [← Z6, show s + (64 - s) = 64 by omega]
  conv => lhs; rw [hB]
  rw [Nat.mod_mul_right_div_self, Nat.mod_mod_of_dvd]
  exact ⟨2 ^ (64 - s - t), by rw [← Z6]; congr 1; omega⟩
theorem nib_at (e : List UInt64) (i : Nat) : (zb e (i / 16) 0 >>> zd (4 * (i % 16)) &&& 15).toNat = nv e / 16 ^ i % 16 := by
  have h := bits_at (e := e) (j := i / 16) (s := 4 * (i % 16)) (t := 4) (by omega) (by omega)
  rw [show 64 * (i / 16) + 4 * (i % 16) = 4 * i by omega, Qk] at h
  rw [UInt64.toNat_and, show (15 : UInt64).toNat = 2 ^ 4 - 1 from rfl, Nat.and_two_pow_sub_one_eq_mod]
  exact h
theorem nib_step (n : Nat) {i : Nat} (h : 1 ≤ i) : n / 16 ^ (i - 1) = 2 ^ 4 * (n / 16 ^ i) + n / 16 ^ (i - 1) % 16 := by
  have e : 16 ^ i = 16 ^ (i - 1) * 16 := by rw [← Zl]; congr 1; omega
  rw [e, ← ZT]
  omega
theorem nib_no {f : Int} {A E q : Nat} {b : UInt64} (hq : 1 ≤ q) (hb : b.toNat = E / 16 ^ (q - 1) % 16) (hc : ((b.toNat : Nat) : Int) = (0 : Int)) : nd (powM f A (2 ^ 4 * (E / 16 ^ q))) = nd (powM f A (E / 16 ^ (q - 1))) := by
  rw [nib_step E hq]
  congr 2
  omega
theorem nib_yes {f : Int} (hf : f = 1 ∨ f = 2 ∨ f = 3 ∨ f = 4) {A E q : Nat} {b : UInt64} (hq : 1 ≤ q) (hb : b.toNat = E / 16 ^ (q - 1) % 16) {L : List UInt64} (hT : ∀ j, j < 16 → zk 4 (zo (j * 4) L) = nd (powM f A j)) : nd (zt f (nv (nd (powM f A (2 ^ 4 * (E / 16 ^ q))))) (nv (zk 4 (zo (b.toNat * 4) L)))) = nd (powM f A (E / 16 ^ (q - 1))) := by
  rw [hT _ (by omega), nv_pow hf, nv_pow hf, powM_add, nib_step E hq]
  congr 2
  omega
theorem sq_step {f : Int} (hf : f = 1 ∨ f = 2 ∨ f = 3 ∨ f = 4) {A N k : Nat} : nd (zt f (nv (nd (powM f A (2 ^ k * N)))) (nv (nd (powM f A (2 ^ k * N))))) = nd (powM f A (2 ^ (k + 1) * N)) := by
  rw [nv_pow hf, powM_add, Zl]
  congr 2
  rw [Xr]
  omega
/-! parts of an array -/
theorem u64s_sub (m o : Nat) (l : List UInt64) : ((zh l).drop o).take m = zh (zk m (zo o l)) := by simp [zh, QG, Yt]
theorem u64s_put (m o : Nat) (l x : List UInt64) : (zh l).take o ++ zh x ++ (zh l).drop (o + m) = zh (zk o l ++ x ++ zo (o + m) l) := by simp [zh, QG, Yt]
theorem sub_len {α : Type} {l : List α} {n m o : Nat} (h : l.length = n) (h2 : o + m ≤ n) : (zk m (zo o l)).length = m := by rw [zp, zr]; omega
theorem put_len {α : Type} {l x : List α} {n m o : Nat} (h : l.length = n) (hx : x.length = m) (h2 : o + m ≤ n) : (zk o l ++ x ++ zo (o + m) l).length = n := by rw [zU, zU, zp, zr]; omega
theorem tab_new {α : Type} {l x : List α} {i : Nat} (hx : x.length = 4) (h : i * 4 + 4 ≤ l.length) : zk 4 (zo (i * 4) (zk (i * 4) l ++ x ++ zo (i * 4 + 4) l)) = x := by
  rw [Qs, List.drop_left' (by rw [zp]; omega), List.take_left' hx]
theorem tab_old {α : Type} {l x : List α} {i j : Nat} (hj : j < i) (h : i * 4 + 4 ≤ l.length) : zk 4 (zo (j * 4) (zk (i * 4) l ++ x ++ zo (i * 4 + 4) l)) = zk 4 (zo (j * 4) l) := by
  rw [Qs, List.drop_append_of_le_length (by rw [zp]; omega), List.take_append_of_le_length (by rw [zr, zp]; omega), List.drop_take, List.take_take, Nat.min_eq_left (by omega)]
theorem tab_first {f : Int} (hf : f = 1 ∨ f = 2 ∨ f = 3 ∨ f = 4) {A : Nat} {x : List UInt64} (hx : x = [1, 0, 0, 0]) : ∀ j, j < 1 → zk 4 (zo (j * 4) (zk 0 (ze 64 (0 : UInt64)) ++ x ++ zo (0 + 4) (ze 64 (0 : UInt64)))) = nd (powM f A j) := by
  intro j hj
  have e : j = 0 := by omega
  subst e
  rw [powM_zero hf, hx]
  decide
theorem tab_step {f : Int} (hf : f = 1 ∨ f = 2 ∨ f = 3 ∨ f = 4) {a L : List UInt64} {i : Nat} (h1 : 1 ≤ i) (hL : L.length = 64) (hi : i < 16) (hT : ∀ j, j < i → zk 4 (zo (j * 4) L) = nd (powM f (nv a) j)) : ∀ j, j < i + 1 → zk 4 (zo (j * 4) (zk (i * 4) L ++ nd (zt f (nv (zk 4 (zo ((i - 1) * 4) L))) (nv a)) ++ zo (i * 4 + 4) L)) = nd (powM f (nv a) j) := by
  intro j hj
  by_cases e : j = i
  · subst e
    rw [tab_new (zl _ _) (by omega), hT (j - 1) (by omega), nv_pow hf, powM_succ]
    congr 2
    omega
  · rw [tab_old (by omega) (by omega), hT j (by omega)]
theorem div_top {e : List UInt64} (he : e.length = 4) : nv e / 2 ^ 256 = 0 := Nat.div_eq_of_lt (nv_lt he)
theorem div_top4 {e : List UInt64} (he : e.length = 4) : nv e / 16 ^ 64 = 0 := by rw [show (16 : Nat) ^ 64 = 2 ^ 256 by decide]; exact div_top he
theorem inv_e {f : Int} (hf : f = 1 ∨ f = 2 ∨ f = 3 ∨ f = 4) : nv (nd (nv (nd (mF f)) + zZ - nv [2, 0, 0, 0])) = mF f - 2 := by
  have h1 := mF_pos hf
  have h2 := mF_lt f
  rw [JN, nd_val, show nv [2, 0, 0, 0] = 2 from rfl]
  simp only [zZ] at *
  omega

theorem exp_go (w : World) (f : Int) (hf : f = 1 ∨ f = 2 ∨ f = 3 ∨ f = 4) (hM : MulOk f) (a g : List UInt64) (ha : za a = 4) (hg : za g = 4) : Calls Tryd.prog 56 #[.int .i64 f, .agg (zi (zh a)), .agg (zi (zh g))] w fun e w' => e = .returned (.agg (zi (zh (nd (powM f (nv a) (nv g)))))) ∧ Ev w [] w' [] := by
 refine d_0 [(0, .int .i64 f), (1, .agg (zi (zh a))), (2, .agg (zi (zh g)))] 62 Go.Proofs.Tryd.func56 Go.Proofs.Tryd.ntmps56 (Heap.nil _) fun act0 En0 Hv0 => ?_
 refine wp_seq <| zm <| f_o <| m_m 34 (zh a) En0 Hv0 fun _ _ bk1 En4 Hv5 => ?_
 refine f_o <| m_m 34 (zh g) En4 Hv5 fun _ _ bk6 En9 Hv10 => ?_
 refine f_o <| m_z 34 (zh (ze 4 0)) En9 Hv10 fun _ _ bk11 En14 Hv15 => ?_
 refine f_e <| zg <| wp_seq <| wp_seq <| zm <| d_k [0,4,5,6,12] [] 1 En14 fun _ En17 => ?_
 refine f_o <| c_p En17 Hv15 (is_go_yes _ f hf) fun _ _ En23 Hv24 => ?_
 refine d_e [0,4,5,6,14] [] En23 fun _ En26 => ?_
 refine zg <| c_f En26 ?_
 refine wp_skip <| zg <| wp_seq <| zm <| f_o <| m_z 97 (zh (ze 64 0)) En26 Hv24 fun _ _ bk27 En30 Hv31 => ?_
 refine f_e <| zg <| wp_seq <| zm <| d_k [0,4,5,6,7,16,17] [] 2 En30 fun _ En33 => ?_
 refine f_o <| m_g 3 0 4 (zh ([1, 0, 0, 0] : List UInt64)) (zh (zk 0 (ze 64 0) ++ ([1, 0, 0, 0] : List UInt64) ++ zo (0 + 4) (ze 64 0))) [.box bk1 (zh a) 34, .box bk6 (zh g) 34, .box bk11 (zh (ze 4 0)) 34, .box bk27 (zh (zk 0 (ze 64 0) ++ ([1, 0, 0, 0] : List UInt64) ++ zo (0 + 4) (ze 64 0))) 97] En33 Hv31 rfl (zc (show za ([1, 0, 0, 0] : List UInt64) = 4 from rfl)) (by rw [(zc (zf))]; first | decide | (simp; done)) (zv _) (u64s_put _ _ _ _) rfl fun _ _ En36 Hv37 => ?_
 refine f_e <| zg <| wp_seq <| wp_seq <| d_r [0,4,5,6,7,8] [] En36 fun _ En39 => ?_
 refine zg <| wp_block <| Qh (fun ms40 ac wo => ∃ (i : Nat) (L : List UInt64), ms40 = (17 - i : Nat) ∧ Env ac 62 [(0, .int .i64 f), (4, pt bk1), (5, pt bk6), (6, pt bk11), (7, pt bk27), (8, ni i)] ∧ Ev w [] wo [.box bk27 (zh L) 97, .box bk1 (zh a) 34, .box bk6 (zh g) 34, .box bk11 (zh (ze 4 0)) 34] ∧ (1 ≤ i) ∧ (i ≤ 16) ∧ (za L = 64) ∧ (∀ j, j < i → zk 4 (zo (j * 4) L) = nd (powM f (nv a) j))) ⟨_, 1, (zk 0 (ze 64 0) ++ ([1, 0, 0, 0] : List UInt64) ++ zo (0 + 4) (ze 64 0)), rfl, En39.sb, Hv37.pk [3, 0, 1, 2], by omega, by omega, by rfl, tab_first hf rfl⟩ ?_
 rintro mm46 _ _ ⟨i, L, rfl, En44, Hv45, h1, hi, hL, hT⟩
 refine wp_seq <| wp_seq <| d_r [0,4,5,6,7,8,19] [] En44 fun _ En48 => ?_
 refine zg <| c_d (((i : Nat) : Int) < (16 : Int)) En48 (fun hc49 => ?_) (fun hc49 => ?_)
 ·
  refine wp_skip <| zg <| wp_seq <| wp_block <| r_c (fun ac wo => Env ac 62 [(0, .int .i64 f), (4, pt bk1), (5, pt bk6), (6, pt bk11), (7, pt bk27), (8, ni i)] ∧ Ev w [] wo [.box bk27 (zh (zk (i * 4) L ++ (nd (zt f (nv (zk 4 (zo ((i - 1) * 4) L))) (nv a))) ++ zo ((i * 4) + 4) L)) 97, .box bk1 (zh a) 34, .box bk6 (zh g) 34, .box bk11 (zh (ze 4 0)) 34]) ?_ ?_
  ·
   refine h_s (fun wv => Ev w [] wv [.box bk27 (zh L) 97, .box bk1 (zh a) 34]) [9] 10 ?_
   have wo50 := Hv45.trans (z4 Hv45.heap)
   refine q_s [0,1,2,3] [(3, g_n (w_r (e := ((i : Nat) : Int) - (1 : Int)) (x := ((i - 1 : Nat) : Int)) (by omega)))] 6 En48 (wo50.pk [0, 1]) fun _ En111 => ?_
   refine q_f 4 (s := Instr.indexAt 97 (pt bk27) (ni (i - 1))) (v := .pointer (some ⟨bk27, (i - 1) * 4, none⟩)) En111 (fun _ => Go.Dbr.run_indexarr (e := 34) (sz := 4) (m := 16) (j := i - 1) (o := (i - 1) * 4) (by kernel_rfl) (by kernel_rfl) (by omega) (by omega) (by omega) _) (fun _ => wo50.pk [0, 1]) fun _ En113 => ?_
   refine q_r 5 (s := Instr.loadAt 34 (.pointer (some ⟨bk27, (i - 1) * 4, none⟩))) (v := .agg (zi (zh (zk 4 (zo ((i - 1) * 4) L))))) En113 (fun w hS => zR (m := 4) (cs := zh (zk 4 (zo ((i - 1) * 4) L))) (zc (sub_len hL (by omega))) (by kernel_rfl) (by kernel_rfl) (hS.heap.cells (k := 0) (off := (i - 1) * 4) (m := 4) rfl (u64s_sub _ _ _))) (wo50.pk [0, 1]) fun _ En115 => ?_
   refine q_r 6 (s := Instr.loadAt 34 (pt bk1)) (v := .agg (zi (zh a))) En115 (fun w hS => zR (m := 4) (cs := zh a) (zc ha) (by kernel_rfl) (by kernel_rfl) (hS.heap.cells (k := 1) (off := 0) (m := 4) rfl (zq (zc ha)))) (wo50.pk [0, 1]) fun _ En117 => ?_
   refine q_t 7 ?_
   refine c_p En117 wo50 (hM _ (zk 4 (zo ((i - 1) * 4) L)) a (sub_len hL (by omega)) ha) fun _ _ En123 Hv124 => ?_
   refine ⟨fun _ => Hv124.pk [0, 1], ?_⟩
   refine q_f 8 (s := Instr.indexAt 97 (pt bk27) (ni i)) (v := .pointer (some ⟨bk27, i * 4, none⟩)) En123 (fun _ => Go.Dbr.run_indexarr (e := 34) (sz := 4) (m := 16) (j := i) (o := i * 4) (by kernel_rfl) (by kernel_rfl) (by omega) (by omega) (by omega) _) (fun _ => Hv124.pk [0, 1]) fun _ En126 => ?_
   refine q_t 9 ?_
   refine m_g 0 (i * 4) 4 (zh (nd (zt f (nv (zk 4 (zo ((i - 1) * 4) L))) (nv a)))) (zh (zk (i * 4) L ++ (nd (zt f (nv (zk 4 (zo ((i - 1) * 4) L))) (nv a))) ++ zo ((i * 4) + 4) L)) [.box bk27 (zh (zk (i * 4) L ++ (nd (zt f (nv (zk 4 (zo ((i - 1) * 4) L))) (nv a))) ++ zo ((i * 4) + 4) L)) 97, .box bk1 (zh a) 34, .box bk6 (zh g) 34, .box bk11 (zh (ze 4 0)) 34] En126 Hv124 rfl (zc (zl _ _)) (by rw [(zc hL)]; omega) (zv _) (u64s_put _ _ _ _) rfl fun _ _ En129 Hv130 => ?_
   refine ⟨q_y, ?_⟩
   exact h_e ⟨En129.sb, Hv130.pk [0, 1, 2, 3]⟩
  rintro _ _ ⟨En133, Hv134⟩
  refine zA <| zg <| d_r [0,4,5,6,7,8] [(1, g_n (w_a i 1))] En133 fun _ En136 => ?_
  refine zg <| ⟨_, ⟨i + 1, (zk (i * 4) L ++ (nd (zt f (nv (zk 4 (zo ((i - 1) * 4) L))) (nv a))) ++ zo ((i * 4) + 4) L), rfl, En136.sb, Hv134.pk [0, 1, 2, 3], by omega, by omega, (put_len hL (zl _ _) (by omega)), tab_step hf h1 hL (by omega) hT⟩, ?_⟩
  omega
 refine wp_exit <| zI <| zI <| z9 <| zg <| wp_seq ?_
 have hT16 : ∀ j, j < 16 → zk 4 (zo (j * 4) L) = nd (powM f (nv a) j) := fun j hj => hT j (by omega)
 refine zm <| d_k [0,4,5,6,7,8,31] [] 1 En48 fun _ En138 => ?_
 refine f_o <| m_a 0 0 4 (zh (zk 4 L)) En138 Hv45 rfl (by simp [zh, QG]) (zc (by rw [zp, hL]; decide)) fun _ En140 => ?_
 refine f_o <| m_z 34 (zh (ze 4 0)) En140 Hv45 fun _ _ bk141 En144 Hv145 => ?_
 refine f_o <| m_g 4 0 4 (zh (zk 4 L)) _ [.box bk27 (zh L) 97, .box bk1 (zh a) 34, .box bk6 (zh g) 34, .box bk11 (zh (ze 4 0)) 34, .box bk141 (zh (zk 4 L)) 34] En144 Hv145 rfl (zc (by rw [zp, hL]; decide)) (by rw [(zc (zf))]; first | decide | (simp; done)) (zv _) (zs (zc (zf))) rfl fun _ _ En148 Hv149 => ?_
 refine f_e <| zg <| wp_seq <| wp_seq <| d_r [0,4,5,6,7,8,9,10] [] En148 fun _ En151 => ?_
 refine zg <| wp_block <| Qh (fun ms152 ac wo => ∃ (q : Nat) (x : List UInt64), ms152 = (q + 1 : Nat) ∧ Env ac 62 [(0, .int .i64 f), (4, pt bk1), (5, pt bk6), (6, pt bk11), (7, pt bk27), (8, ni i), (9, pt bk141), (10, .int .i64 (((q : Nat) : Int) - (1 : Int)))] ∧ Ev w [] wo [.box bk141 (zh x) 34, .box bk27 (zh L) 97, .box bk1 (zh a) 34, .box bk6 (zh g) 34, .box bk11 (zh (ze 4 0)) 34] ∧ (q ≤ 64) ∧ (za x = 4) ∧ (x = nd (powM f (nv a) (nv g / 16 ^ q)))) ⟨_, 64, (zk 4 L), rfl, En151.sb, Hv149.pk [4, 0, 1, 2, 3], by omega, (by rw [zp, hL]; decide), by rw [div_top4 hg]; exact hT16 0 (by omega)⟩ ?_
 rintro mm158 _ _ ⟨q, x, rfl, En156, Hv157, hq, hx, hxe⟩
 refine wp_seq <| wp_seq <| d_r [0,4,5,6,7,8,9,10,34] [] En156 fun _ En160 => ?_
 refine zg <| c_d (((q : Nat) : Int) - (1 : Int) ≥ (0 : Int)) En160 (fun hc161 => ?_) (fun hc161 => ?_)
 ·
  refine wp_skip <| zg <| wp_seq <| wp_block <| wp_seq <| wp_seq ?_
  have En162 := Env.fx (t := 10) (v := .int .i64 (((q : Nat) : Int) - (1 : Int))) (u := ni (q - 1)) En160 (congrArg (Value.int .i64) (show ((q : Nat) : Int) - (1 : Int) = ((q - 1 : Nat) : Int) by omega))
  have hbv := nib_at g (q - 1)
  have hb16 : (zb g ((q - 1) / 16) 0 >>> zd (4 * ((q - 1) % 16)) &&& 15).toNat < 16 := by rw [hbv]; omega
  refine d_r [0,4,5,6,7,8,9,10,37] [] En162 fun _ En164 => ?_
  refine zg <| wp_block <| Qh (fun ms165 ac wo => ∃ (k : Nat) (y : List UInt64), ms165 = (5 - k : Nat) ∧ Env ac 62 [(0, .int .i64 f), (4, pt bk1), (5, pt bk6), (6, pt bk11), (7, pt bk27), (8, ni i), (9, pt bk141), (10, ni (q - 1)), (37, ni k)] ∧ Ev w [] wo [.box bk141 (zh y) 34, .box bk27 (zh L) 97, .box bk1 (zh a) 34, .box bk6 (zh g) 34, .box bk11 (zh (ze 4 0)) 34] ∧ (k ≤ 4) ∧ (za y = 4) ∧ (y = nd (powM f (nv a) (2 ^ k * (nv g / 16 ^ q))))) ⟨_, 0, x, rfl, En164.sb, Hv157.pk [0, 1, 2, 3, 4], by omega, hx, by rw [hxe, Qf, Nat.one_mul]⟩ ?_
  rintro mm171 _ _ ⟨k, y, rfl, En169, Hv170, hk, hy, hye⟩
  refine wp_seq <| d_r [0,4,5,6,7,8,9,10,37,38] [] En169 fun _ En173 => ?_
  refine zg <| wp_seq <| c_d (((k : Nat) : Int) < (4 : Int)) En173 (fun hc174 => ?_) (fun hc174 => ?_)
  ·
   refine wp_skip <| zg <| wp_seq <| wp_block ?_
   rw [hye] at Hv170
   refine zm <| d_k [0,4,5,6,7,8,9,10,37,39] [] 1 En173 fun _ En176 => ?_
   refine f_o <| m_a 0 0 4 (zh (nd (powM f (nv a) (2 ^ k * (nv g / 16 ^ q))))) En176 Hv170 rfl (zq (zc (zl _ _))) (zc (zl _ _)) fun _ En178 => ?_
   refine f_o <| m_a 0 0 4 (zh (nd (powM f (nv a) (2 ^ k * (nv g / 16 ^ q))))) En178 Hv170 rfl (zq (zc (zl _ _))) (zc (zl _ _)) fun _ En180 => ?_
   refine f_o <| c_p En180 Hv170 (hM _ (nd (powM f (nv a) (2 ^ k * (nv g / 16 ^ q)))) (nd (powM f (nv a) (2 ^ k * (nv g / 16 ^ q)))) (zl _ _) (zl _ _)) fun _ _ En186 Hv187 => ?_
   refine f_o <| m_g 0 0 4 (zh (nd (zt f (nv (nd (powM f (nv a) (2 ^ k * (nv g / 16 ^ q))))) (nv (nd (powM f (nv a) (2 ^ k * (nv g / 16 ^ q)))))))) _ [.box bk141 (zh (nd (zt f (nv (nd (powM f (nv a) (2 ^ k * (nv g / 16 ^ q))))) (nv (nd (powM f (nv a) (2 ^ k * (nv g / 16 ^ q)))))))) 34, .box bk27 (zh L) 97, .box bk1 (zh a) 34, .box bk6 (zh g) 34, .box bk11 (zh (ze 4 0)) 34] En186 Hv187 rfl (zc (zl _ _)) (by rw [(zc (zl _ _))]; first | decide | (simp; done)) (zv _) (zs (zc (zl _ _))) rfl fun _ _ En190 Hv191 => ?_
   refine f_e <| zA <| zg <| d_r [0,4,5,6,7,8,9,10,37] [(0, g_n (w_a k 1))] En190 fun _ En193 => ?_
   refine zg <| ⟨_, ⟨k + 1, (nd (zt f (nv (nd (powM f (nv a) (2 ^ k * (nv g / 16 ^ q))))) (nv (nd (powM f (nv a) (2 ^ k * (nv g / 16 ^ q))))))), rfl, En193.sb, Hv191.pk [0, 1, 2, 3, 4], by omega, (zl _ _), sq_step hf⟩, ?_⟩
   omega
  refine wp_exit <| zI <| zI <| z9 <| zg <| wp_seq ?_
  have hk4 : k = 4 := by omega
  rw [hye, hk4] at Hv170
  refine zm <| d_k [0,4,5,6,7,8,9,10,37,45] [(1, g_i .i64 (show IntKind.wrap .i64 (Int.tdiv ((q - 1 : Nat) : Int) (16 : Int)) = (((q - 1) / 16 : Nat) : Int) from Go.Dbr.i64_quo_nat (a := ((q - 1 : Nat) : Int)) (n := q - 1) (m := 16) rfl (by omega)))] 2 En173 fun _ En195 => ?_
  refine f_o <| q_v (x := Instr.indexAt 34 (pt bk6) (ni ((q - 1) / 16))) (v := .pointer (some ⟨bk6, (q - 1) / 16, none⟩)) En195 (Go.Dbr.run_indexarr (e := 32) (sz := 1) (m := 4) (j := (q - 1) / 16) (o := (q - 1) / 16) (by kernel_rfl) (by kernel_rfl) (by omega) (by omega) (by omega) _) fun _ En197 => ?_
  refine f_o ?_
  have hb198 : (q - 1) / 16 < za g := by rw [hg]; omega
  refine m_v 3 ((q - 1) / 16) (zn (zb g ((q - 1) / 16) 0)) En197 Hv170 rfl (zY hb198) fun _ En200 => ?_
  refine d_k [0,4,5,6,7,8,9,10,37,47,50] [(5, g_i .i64 (show Int.tmod ((q - 1 : Nat) : Int) (16 : Int) = (((q - 1) % 16 : Nat) : Int) from Go.Dbr.i64_rem_nat (a := ((q - 1 : Nat) : Int)) (n := q - 1) (m := 16) rfl (by omega))), (6, g_n (w_m 4 ((q - 1) % 16)))] 7 En200 fun _ En202 => ?_
  refine f_o <| q_v En202 (Go.Dbr.run_shr_u64 (zb g ((q - 1) / 16) 0) .i64 (4 * ((q - 1) % 16)) (by omega) _) fun _ En204 => ?_
  refine d_e [0,4,5,6,7,8,9,10,11,37] [(8, g_i .u64 (Go.Dbr.u64_and (x := (zb g ((q - 1) / 16) 0) >>> zd (4 * ((q - 1) % 16))) (y := (15 : UInt64)) rfl rfl))] En204 fun _ En206 => ?_
  refine zg <| wp_seq <| d_r [0,4,5,6,7,8,9,10,11,37,54] [] En206 fun _ En208 => ?_
  refine zg <| c_n ((zB (((zb g ((q - 1) / 16) 0) >>> zd (4 * ((q - 1) % 16))) &&& (15 : UInt64)) : Nat) : Int) (0 : Int) En208 (fun hc209 => ?_) (fun hc209 => ?_)
  ·
   refine r_c (fun ac wo => Env ac 62 [(0, .int .i64 f), (4, pt bk1), (5, pt bk6), (6, pt bk11), (7, pt bk27), (8, ni i), (9, pt bk141), (10, ni (q - 1)), (11, zn (((zb g ((q - 1) / 16) 0) >>> zd (4 * ((q - 1) % 16))) &&& (15 : UInt64))), (37, ni k)] ∧ Ev w [] wo [.box bk141 (zh (nd (zt f (nv (nd (powM f (nv a) (2 ^ 4 * (nv g / 16 ^ q))))) (nv (zk 4 (zo ((zB (((zb g ((q - 1) / 16) 0) >>> zd (4 * ((q - 1) % 16))) &&& (15 : UInt64))) * 4) L)))))) 34, .box bk27 (zh L) 97, .box bk1 (zh a) 34, .box bk6 (zh g) 34, .box bk11 (zh (ze 4 0)) 34]) ?_ ?_
   ·
    refine h_s (fun wv => Ev w [] wv [.box bk141 (zh (nd (powM f (nv a) (2 ^ 4 * (nv g / 16 ^ q))))) 34, .box bk27 (zh L) 97]) [6] 7 ?_
    have wo210 := Hv170.trans (z4 Hv170.heap)
    refine q_s [0] [] 6 En208 (wo210.pk [0, 1]) fun _ En267 => ?_
    refine q_r 1 (s := Instr.loadAt 34 (pt bk141)) (v := .agg (zi (zh (nd (powM f (nv a) (2 ^ 4 * (nv g / 16 ^ q))))))) En267 (fun w hS => zR (m := 4) (cs := zh (nd (powM f (nv a) (2 ^ 4 * (nv g / 16 ^ q))))) (zc (zl _ _)) (by kernel_rfl) (by kernel_rfl) (hS.heap.cells (k := 0) (off := 0) (m := 4) rfl (zq (zc (zl _ _))))) (wo210.pk [0, 1]) fun _ En269 => ?_
    refine q_s [2] [] 4 En269 (wo210.pk [0, 1]) fun _ En271 => ?_
    refine q_f 3 (s := Instr.indexAt 97 (pt bk27) (zn (((zb g ((q - 1) / 16) 0) >>> zd (4 * ((q - 1) % 16))) &&& (15 : UInt64)))) (v := .pointer (some ⟨bk27, (zB (((zb g ((q - 1) / 16) 0) >>> zd (4 * ((q - 1) % 16))) &&& (15 : UInt64))) * 4, none⟩)) En271 (fun _ => Go.Dbr.run_indexarr (e := 34) (sz := 4) (m := 16) (j := zB (((zb g ((q - 1) / 16) 0) >>> zd (4 * ((q - 1) % 16))) &&& (15 : UInt64))) (o := (zB (((zb g ((q - 1) / 16) 0) >>> zd (4 * ((q - 1) % 16))) &&& (15 : UInt64))) * 4) (by kernel_rfl) (by kernel_rfl) (by omega) (by omega) (by omega) _) (fun _ => wo210.pk [0, 1]) fun _ En273 => ?_
    refine q_r 4 (s := Instr.loadAt 34 (.pointer (some ⟨bk27, (zB (((zb g ((q - 1) / 16) 0) >>> zd (4 * ((q - 1) % 16))) &&& (15 : UInt64))) * 4, none⟩))) (v := .agg (zi (zh (zk 4 (zo ((zB (((zb g ((q - 1) / 16) 0) >>> zd (4 * ((q - 1) % 16))) &&& (15 : UInt64))) * 4) L))))) En273 (fun w hS => zR (m := 4) (cs := zh (zk 4 (zo ((zB (((zb g ((q - 1) / 16) 0) >>> zd (4 * ((q - 1) % 16))) &&& (15 : UInt64))) * 4) L))) (zc (sub_len hL (by omega))) (by kernel_rfl) (by kernel_rfl) (hS.heap.cells (k := 1) (off := (zB (((zb g ((q - 1) / 16) 0) >>> zd (4 * ((q - 1) % 16))) &&& (15 : UInt64))) * 4) (m := 4) rfl (u64s_sub _ _ _))) (wo210.pk [0, 1]) fun _ En275 => ?_
    refine q_t 5 ?_
    refine c_p En275 wo210 (hM _ (nd (powM f (nv a) (2 ^ 4 * (nv g / 16 ^ q)))) (zk 4 (zo ((zB (((zb g ((q - 1) / 16) 0) >>> zd (4 * ((q - 1) % 16))) &&& (15 : UInt64))) * 4) L)) (zl _ _) (sub_len hL (by omega))) fun _ _ En281 Hv282 => ?_
    refine ⟨fun _ => Hv282.pk [0, 1], ?_⟩
    refine q_t 6 ?_
    refine m_g 0 0 4 (zh (nd (zt f (nv (nd (powM f (nv a) (2 ^ 4 * (nv g / 16 ^ q))))) (nv (zk 4 (zo ((zB (((zb g ((q - 1) / 16) 0) >>> zd (4 * ((q - 1) % 16))) &&& (15 : UInt64))) * 4) L)))))) _ [.box bk141 (zh (nd (zt f (nv (nd (powM f (nv a) (2 ^ 4 * (nv g / 16 ^ q))))) (nv (zk 4 (zo ((zB (((zb g ((q - 1) / 16) 0) >>> zd (4 * ((q - 1) % 16))) &&& (15 : UInt64))) * 4) L)))))) 34, .box bk27 (zh L) 97, .box bk1 (zh a) 34, .box bk6 (zh g) 34, .box bk11 (zh (ze 4 0)) 34] En281 Hv282 rfl (zc (zl _ _)) (by rw [(zc (zl _ _))]; first | decide | (simp; done)) (zv _) (zs (zc (zl _ _))) rfl fun _ _ En285 Hv286 => ?_
    refine ⟨q_y, ?_⟩
    exact h_e ⟨En285.sb, Hv286.pk [0, 1, 2, 3, 4]⟩
   rintro _ _ ⟨En289, Hv290⟩
   refine zA <| zg <| d_r [0,4,5,6,7,8,9,10,11,37] [(1, g_n (w_r (e := ((q - 1 : Nat) : Int) - (1 : Int)) (x := ((q - 1 : Nat) : Int) - (1 : Int)) (by omega)))] En289 fun _ En292 => ?_
   refine zg <| ⟨_, ⟨q - 1, (nd (zt f (nv (nd (powM f (nv a) (2 ^ 4 * (nv g / 16 ^ q))))) (nv (zk 4 (zo ((zB (((zb g ((q - 1) / 16) 0) >>> zd (4 * ((q - 1) % 16))) &&& (15 : UInt64))) * 4) L))))), rfl, En292.sb, Hv290.pk [0, 1, 2, 3, 4], by omega, (zl _ _), nib_yes hf (by omega) hbv hT16⟩, ?_⟩
   omega
  refine wp_skip <| zA <| zg <| d_r [0,4,5,6,7,8,9,10,11,37] [(1, g_n (w_r (e := ((q - 1 : Nat) : Int) - (1 : Int)) (x := ((q - 1 : Nat) : Int) - (1 : Int)) (by omega)))] En208 fun _ En294 => ?_
  refine zg <| ⟨_, ⟨q - 1, (nd (powM f (nv a) (2 ^ 4 * (nv g / 16 ^ q)))), rfl, En294.sb, Hv170.pk [0, 1, 2, 3, 4], by omega, (zl _ _), nib_no (by omega) hbv (by assumption)⟩, ?_⟩
  omega
 refine wp_exit <| zI <| zI <| z9 <| zg <| wp_seq ?_
 rw [hxe] at Hv157
 refine zm <| f_o <| m_a 0 0 4 (zh (nd (powM f (nv a) (nv g / 16 ^ q)))) En160 Hv157 rfl (zq (zc (zl _ _))) (zc (zl _ _)) fun _ En296 => ?_
 refine f_o <| m_g 4 0 4 (zh (nd (powM f (nv a) (nv g / 16 ^ q)))) _ [.box bk141 (zh (nd (powM f (nv a) (nv g / 16 ^ q)))) 34, .box bk27 (zh L) 97, .box bk1 (zh a) 34, .box bk6 (zh g) 34, .box bk11 (zh (nd (powM f (nv a) (nv g / 16 ^ q)))) 34] En296 Hv157 rfl (zc (zl _ _)) (by rw [(zc (zf))]; first | decide | (simp; done)) (zv _) (zs (zc (zf))) rfl fun _ _ En299 Hv300 => ?_
 refine f_e <| zg <| wp_ret <| Zj (v := .agg (zi (zh (nd (powM f (nv a) (nv g / 16 ^ q)))))) (t := 6) (T := 34) (ad := ⟨bk11, 0, none⟩) En299 (by kernel_rfl) (by kernel_rfl) (zM (t := 34) (k := 4) (off := 0) (m := 4) (xs := zh (nd (powM f (nv a) (nv g / 16 ^ q)))) Hv300 rfl (zq (zc (zl _ _))) (zc (zl _ _)) (by kernel_rfl) (by kernel_rfl)) ?_
 have hq0 : q = 0 := by omega
 subst hq0
 have eq : nd (powM f (nv a) (nv g / 16 ^ 0)) = nd (powM f (nv a) (nv g)) := by rw [Qf, Nat.div_one]
 exact ⟨by rw [eq], Hv300.pk []⟩

theorem inv_go (w : World) (f : Int) (hf : (f = 1 ∨ f = 2 ∨ f = 3 ∨ f = 4)) (hM : MulOk f) (a : List UInt64) (ha : za a = 4) : Calls Tryd.prog 33 #[.int .i64 f, .agg (zi (zh a))] w fun e w' => e = .returned (.agg (zi (zh (nd (powM f (nv a) (mF f - 2)))))) ∧ Ev w [] w' [] := by
 refine d_0 [(0, .int .i64 f), (1, .agg (zi (zh a)))] 18 Go.Proofs.Tryd.func33 Go.Proofs.Tryd.ntmps33 (Heap.nil _) fun act0 En0 Hv0 => ?_
 refine wp_seq <| zm <| f_o <| m_m 34 (zh a) En0 Hv0 fun _ _ bk1 En4 Hv5 => ?_
 refine f_o <| m_z 34 (zh (ze 4 0)) En4 Hv5 fun _ _ bk6 En9 Hv10 => ?_
 refine f_e <| zg <| wp_seq <| zm <| d_k [0,3,4,8] [] 1 En9 fun _ En12 => ?_
 refine f_o <| c_p En12 Hv10 (modulus_go _ f) fun _ _ En18 Hv19 => ?_
 refine d_k [0,3,4,9,10] [] 3 En18 fun _ En21 => ?_
 refine f_o <| c_p En21 Hv19 (Jm _ (nd (mF f)) ([2, 0, 0, 0] : List UInt64) (zl _ _) (show za ([2, 0, 0, 0] : List UInt64) = 4 from rfl)) fun _ _ En27 Hv28 => ?_
 refine d_k [0,3,4,12,13] [] 7 En27 fun _ En30 => ?_
 refine f_o <| m_z 34 (zh (ze 4 0)) En30 Hv28 fun _ _ bk31 En34 Hv35 => ?_
 refine f_o <| m_g 2 0 4 (zh (nd (nv (nd (mF f)) + zZ - nv ([2, 0, 0, 0] : List UInt64)))) _ [.box bk1 (zh a) 34, .box bk6 (zh (ze 4 0)) 34, .box bk31 (zh (nd (nv (nd (mF f)) + zZ - nv ([2, 0, 0, 0] : List UInt64)))) 34] En34 Hv35 rfl (zc (zl _ _)) (by rw [(zc (zf))]; first | decide | (simp; done)) (zv _) (zs (zc (zf))) rfl fun _ _ En38 Hv39 => ?_
 refine d_e [0,3,4,5] [] En38 fun _ En41 => ?_
 refine zg <| wp_seq <| zm <| d_k [0,3,4,5,14] [] 1 En41 fun _ En43 => ?_
 refine f_o <| m_a 0 0 4 (zh a) En43 Hv39 rfl (zq (zc ha)) (zc ha) fun _ En45 => ?_
 refine f_o <| m_a 2 0 4 (zh (nd (nv (nd (mF f)) + zZ - nv ([2, 0, 0, 0] : List UInt64)))) En45 Hv39 rfl (zq (zc (zl _ _))) (zc (zl _ _)) fun _ En47 => ?_
 refine f_o <| c_p En47 Hv39 (exp_go _ f hf hM a (nd (nv (nd (mF f)) + zZ - nv ([2, 0, 0, 0] : List UInt64))) ha (zl _ _)) fun _ _ En53 Hv54 => ?_
 refine f_o <| m_g 1 0 4 (zh (nd (powM f (nv a) (nv (nd (nv (nd (mF f)) + zZ - nv ([2, 0, 0, 0] : List UInt64))))))) _ [.box bk1 (zh a) 34, .box bk6 (zh (nd (powM f (nv a) (nv (nd (nv (nd (mF f)) + zZ - nv ([2, 0, 0, 0] : List UInt64))))))) 34, .box bk31 (zh (nd (nv (nd (mF f)) + zZ - nv ([2, 0, 0, 0] : List UInt64)))) 34] En53 Hv54 rfl (zc (zl _ _)) (by rw [(zc (zf))]; first | decide | (simp; done)) (zv _) (zs (zc (zf))) rfl fun _ _ En57 Hv58 => ?_
 refine f_e <| zg <| wp_ret <| Zj (v := .agg (zi (zh (nd (powM f (nv a) (nv (nd (nv (nd (mF f)) + zZ - nv ([2, 0, 0, 0] : List UInt64))))))))) (t := 4) (T := 34) (ad := ⟨bk6, 0, none⟩) En57 (by kernel_rfl) (by kernel_rfl) (zM (t := 34) (k := 1) (off := 0) (m := 4) (xs := zh (nd (powM f (nv a) (nv (nd (nv (nd (mF f)) + zZ - nv ([2, 0, 0, 0] : List UInt64))))))) Hv58 rfl (zq (zc (zl _ _))) (zc (zl _ _)) (by kernel_rfl) (by kernel_rfl)) ?_
 have eq : nd (powM f (nv a) (nv (nd (nv (nd (mF f)) + zZ - nv ([2, 0, 0, 0] : List UInt64))))) = nd (powM f (nv a) (mF f - 2)) := by rw [inv_e hf]
 exact ⟨by rw [eq], Hv58.pk []⟩

end Go.Proofs.YtlnogkmnklfjlaaDoor

/- Layer 4: products of the two orders. -/

namespace Go.Proofs.YtlnogkmnklfjlaaDoor
open Go.Dbr
set_option maxRecDepth 100000
set_option maxHeartbeats 2000000
set_option linter.unusedVariables false
set_option linter.unusedSimpArgs false

/-- a field without cells, of a variable without cells -/
def field0 (P : Program) (s : TypeId) (i : Nat) (T : TypeId) : Bool := match P.underlying s with
  | some (.struct fs) => (match fs[i]? with
    | some f => (match P.info? f.type with
      | some j => j.size == 0 && P.cellsOf T == 0 && f.offset == 0 && f.byteOffset == 0
      | none => false)
    | none => false)
  | _ => false
theorem _root_.Go.Dbr.Heap.shape0 {w : World} {L : List Ent} (h : Heap w L) {k b : Nat} {T : TypeId} (hk : L[k]? = some (.box b [] T)) : w.shape? b = some (T, 0) := by
  have hh : w.heap[b]? = some (.cells ([] : List Value).toArray T (0, 0)) := h.holds k _ hk
  unfold World.shape?
  rw [hh]
  rfl
theorem run_field0 {P : Program} {s T : TypeId} {b i : Nat} {w : World} (hsh : w.shape? b = some (T, 0)) (h : field0 P s i T = true) : (Instr.fieldAt s (pt b) i).run P w = .ok (pt b) w := by
  unfold field0 at h
  split at h
  · rename_i fs hu
    split at h
    · rename_i f hf
      split at h
      · rename_i j hj
        simp only [zX, beq_iff_eq] at h
        obtain ⟨⟨⟨h1, h2⟩, h3⟩, h4⟩ := h
        simp [Instr.fieldAt, run_underlying hu, hf, Instr.sureAddr, fieldPlace, sizeOf, typeInfo, hj, h1, partAt, byteOf, noView, viewAt, shape, Sem.run, hsh, h2, h3, h4]
      · cases h
    · cases h
  · cases h
theorem dvk_s (l : List UInt64) (k : Nat) : dvk l (k + 1) = dvk l k + (zb l k 0).toNat * 18446744073709551616 ^ k := rfl
theorem dvk_ge {l : List UInt64} {j : Nat} {x : UInt64} : ∀ n, n ≤ j → dvk (zy l j x) n = dvk l n
  | 0, _ => rfl
  | n + 1, h => by rw [dvk, dvk, dvk_ge n (by omega), QP _ (by omega)]
theorem getD_set_eq {l : List UInt64} {j : Nat} (x : UInt64) (h : j < l.length) : zb (zy l j x) j 0 = x := by rw [List.getD_eq_getElem?_getD, List.getElem?_set_self h]; rfl
theorem dvk_set {l : List UInt64} {j : Nat} {x : UInt64} (h : j < l.length) : ∀ n, j < n → dvk (zy l j x) n + (zb l j 0).toNat * 18446744073709551616 ^ j = dvk l n + x.toNat * 18446744073709551616 ^ j
  | 0, hn => by omega
  | n + 1, hn => by
    rw [dvk, dvk]
    by_cases e : j = n
    · subst e
      rw [dvk_ge _ (ZK _), getD_set_eq x h]
      omega
    · rw [QP _ e]
      have := dvk_set (x := x) h n (by omega)
      omega
theorem mont_in {a u : List UInt64} {b c : UInt64} {T k : Nat} (hl : u.length = 6) (hk : k < 4) (hv : dvk u 5 + c.toNat * 18446744073709551616 ^ k = T + dvk a k * b.toNat) :
    dvk (zy u k (zL (zL (zb a k 0 * b) (zb u k 0) 0) c 0)) 5 + (QX (zb a k 0) b + zH (zb a k 0 * b) (zb u k 0) 0 + zH (zL (zb a k 0 * b) (zb u k 0) 0) c 0).toNat * 18446744073709551616 ^ (k + 1) = T + dvk a (k + 1) * b.toNat := by
  have e := dvk_set (l := u) (x := zL (zL (zb a k 0 * b) (zb u k 0) 0) c 0) (j := k) (by omega) 5 (by omega)
  have m := mac_val (x := zb a k 0) (y := b) (t := zb u k 0) (c := c)
  have m2 := congrArg (· * 18446744073709551616 ^ k) m
  simp only [Zm] at m2
  rw [dvk_s a k, Zm, Zl, z5 (18446744073709551616 ^ k) 18446744073709551616, ← Ze, z5 (zB _) 18446744073709551616, Xr (zb a k 0).toNat]
  generalize 18446744073709551616 ^ k = q at *
  omega
theorem mont_mid {u : List UInt64} {c : UInt64} {P : Nat} (hl : u.length = 6) (hv : dvk u 5 + c.toNat * 18446744073709551616 ^ 4 = P) :
    dvk (zy (zy u 4 (zL (zb u 4 0) c 0)) 5 (zH (zb u 4 0) c 0)) 6 = P ∧ (zb (zy (zy u 4 (zL (zb u 4 0) c 0)) 5 (zH (zb u 4 0) c 0)) 5 0).toNat ≤ 1 := by
  rw [getD_set_eq _ (by rw [ZI]; omega)]
  refine ⟨?_, addHi_le (by decide)⟩
  rw [dvk_s _ 5, dvk_ge 5 (ZK _), getD_set_eq _ (by rw [ZI]; omega)]
  have e := dvk_set (l := u) (x := zL (zb u 4 0) c 0) (j := 4) (by omega) 5 (by decide)
  have m := add_val (x := zb u 4 0) (y := c) (c := 0)
  rw [show (0 : UInt64).toNat = 0 from rfl, ZM] at m
  have m2 := congrArg (· * 18446744073709551616 ^ 4) m
  simp only [Zm] at m2
  rw [show (18446744073709551616 : Nat) ^ 5 = 18446744073709551616 * 18446744073709551616 ^ 4 by decide, ← Ze, z5 (zB _) 18446744073709551616]
  generalize (18446744073709551616 : Nat) ^ 4 = q at *
  omega
theorem mont_first {v w m : List UInt64} {q c bk : UInt64} (hm : (bk.toNat * (zb m 0 0).toNat + 1) % 18446744073709551616 = 0) (hq : q = zb v 0 0 * bk) (hs : zb w 0 0 = zb v 0 0) (hc : c.toNat = 0) :
    18446744073709551616 * (dvk w 0 + (QX q (zb m 0 0) + zH (q * zb m 0 0) (zb w 0 0) 0 + zH (zL (q * zb m 0 0) (zb w 0 0) 0) c 0).toNat * 18446744073709551616 ^ 0) = dvk v 1 + q.toNat * dvk m 1 := by
  have e := mac_val (x := q) (y := zb m 0 0) (t := zb w 0 0) (c := c)
  have l1 := lt64 (zL (zL (q * zb m 0 0) (zb w 0 0) 0) c 0)
  simp only [dvk, Qf, Zo, Nat.zero_add]
  have hz : (q.toNat * (zb m 0 0).toNat + (zb v 0 0).toNat) % 18446744073709551616 = 0 := by
    rw [hq, UInt64.toNat_mul, YX, Yq, ← YX, Ze, show (2 : Nat) ^ 64 = 18446744073709551616 from rfl]
    have : (zb v 0 0).toNat * (bk.toNat * (zb m 0 0).toNat) + (zb v 0 0).toNat = (zb v 0 0).toNat * (bk.toNat * (zb m 0 0).toNat + 1) := by rw [Qz, Zo]
    rw [this, ZY, hm, Qv, Nat.zero_mod]
  rw [hs, hc] at e
  rw [hs] at l1 ⊢
  generalize q.toNat * (zb m 0 0).toNat = p at *
  omega
theorem dvk_rep : dvk (ze 6 0) 5 = 0 := by decide +kernel
theorem mont_i0 {T x : Nat} {a : List UInt64} : T + (0 : UInt64).toNat * 18446744073709551616 ^ 0 = T + dvk a 0 * x := by rw [dvk, ZN, show (0 : UInt64).toNat = 0 from rfl, ZN]
theorem mont_j0 {v m : List UInt64} {q : UInt64} : 18446744073709551616 * (dvk v (0 - 1) + (0 : UInt64).toNat * 18446744073709551616 ^ (0 - 1)) = dvk v 0 + q.toNat * dvk m 0 := by rw [XT, dvk, dvk, show (0 : UInt64).toNat = 0 from rfl, ZN, Qv, Qv]
theorem mont_c0 {v w m : List UInt64} {q c : UInt64} (hv : 18446744073709551616 * (dvk w (0 - 1) + c.toNat * 18446744073709551616 ^ (0 - 1)) = dvk v 0 + q.toNat * dvk m 0) : c.toNat = 0 := by
  simp only [dvk, XT, Qf, Qv] at hv
  omega
theorem mont_more {v w m : List UInt64} {q c : UInt64} {k : Nat} (hl : w.length = 6) (hk : k < 4) (h0 : 0 < k) (hs : zb w k 0 = zb v k 0) (hv : 18446744073709551616 * (dvk w (k - 1) + c.toNat * 18446744073709551616 ^ (k - 1)) = dvk v k + q.toNat * dvk m k) :
    18446744073709551616 * (dvk (zy w (k - 1) (zL (zL (q * zb m k 0) (zb w k 0) 0) c 0)) k + (QX q (zb m k 0) + zH (q * zb m k 0) (zb w k 0) 0 + zH (zL (q * zb m k 0) (zb w k 0) 0) c 0).toNat * 18446744073709551616 ^ k) = dvk v (k + 1) + q.toNat * dvk m (k + 1) := by
  obtain ⟨j, rfl⟩ : ∃ j, k = j + 1 := ⟨k - 1, by omega⟩
  rw [Nat.add_sub_cancel] at *
  have e := mac_val (x := q) (y := zb m (j + 1) 0) (t := zb w (j + 1) 0) (c := c)
  rw [dvk_s _ j, dvk_ge j (ZK _), getD_set_eq _ (by omega), dvk_s v (j + 1), dvk_s m (j + 1), Qz q.toNat, hs]
  rw [hs] at e
  have e2 := congrArg (· * 18446744073709551616 ^ (j + 1)) e
  simp only [Zm] at e2
  rw [← Ze q.toNat]
  rw [Zl] at *
  generalize q.toNat * (zb m (j + 1) 0).toNat = p at *
  generalize q.toNat * dvk m (j + 1) = p2 at *
  rw [z5 _ 18446744073709551616] at *
  simp only [← Ze, z5 _ 18446744073709551616] at *
  generalize 18446744073709551616 ^ j = z at *
  simp only [Ze] at *
  omega
theorem mont_out {v w : List UInt64} {c : UInt64} {N : Nat} (hl : w.length = 6) (h4 : zb w 4 0 = zb v 4 0) (h5 : zb w 5 0 = zb v 5 0) (h1 : (zb v 5 0).toNat ≤ 1) (hv : 18446744073709551616 * (dvk w 3 + c.toNat * 18446744073709551616 ^ 3) = dvk v 4 + N) :
    18446744073709551616 * dvk (zy (zy w 3 (zL (zb w 4 0) c 0)) 4 (zb (zy w 3 (zL (zb w 4 0) c 0)) 5 0 + zH (zb w 4 0) c 0)) 5 = dvk v 6 + N := by
  have m := add_val (x := zb v 4 0) (y := c) (c := 0)
  have o := addHi_le (x := zb v 4 0) (y := c) (c := 0) (by decide)
  rw [show (0 : UInt64).toNat = 0 from rfl, ZM] at m
  have ho : (zb v 5 0 + zH (zb v 4 0) c 0).toNat = (zb v 5 0).toNat + (zH (zb v 4 0) c 0).toNat := by
    rw [UInt64.toNat_add]
    omega
  rw [QP _ (by decide), h4, h5, dvk_s _ 4, dvk_ge 4 (ZK _), getD_set_eq _ (by rw [ZI]; omega), ho]
  rw [dvk_s _ 3, dvk_ge 3 (ZK _), getD_set_eq _ (by omega), dvk_s v 5, dvk_s v 4]
  have m2 := congrArg (· * 18446744073709551616 ^ 4) m
  simp only [Zm, Qz] at m2 hv ⊢
  rw [show (18446744073709551616 : Nat) ^ 5 = 18446744073709551616 * 18446744073709551616 ^ 4 by decide]
  simp only [show (18446744073709551616 : Nat) ^ 4 = 18446744073709551616 * 18446744073709551616 ^ 3 by decide] at *
  generalize (18446744073709551616 : Nat) ^ 3 = q at *
  simp only [Nat.mul_left_comm _ 18446744073709551616] at *
  simp only [ZN, ZM, Ze] at *
  omega
theorem mont_next {M A T T' i : Nat} {b : List UInt64} {q : UInt64} (hA : A < M) (hT : T < 2 * M) (hm : T * 18446744073709551616 ^ i % M = A * dvk b i % M) (h : 18446744073709551616 * T' = T + A * (zb b i 0).toNat + q.toNat * M) : T' < 2 * M ∧ T' * 18446744073709551616 ^ (i + 1) % M = A * dvk b (i + 1) % M := by
  constructor
  · have h1 := lt64 q
    have h2 := lt64 (zb b i 0)
    have h3 : q.toNat * M ≤ 18446744073709551615 * M := Nat.mul_le_mul_right _ (by omega)
    have h4 : A * (zb b i 0).toNat ≤ A * 18446744073709551615 := Nat.mul_le_mul_left _ (by omega)
    generalize q.toNat * M = x at *
    generalize A * (zb b i 0).toNat = y at *
    omega
  · have e : T' * 18446744073709551616 ^ (i + 1) = T * 18446744073709551616 ^ i + A * ((zb b i 0).toNat * 18446744073709551616 ^ i) + M * (q.toNat * 18446744073709551616 ^ i) := by
      rw [Zl, z5 (18446744073709551616 ^ i), ← Ze, z5 T', h, Zm, Zm, Ze A, z5 q.toNat M, Ze M]
    rw [e, Nat.add_mul_mod_self_left, YX, hm, ← YX, ← Qz, dvk]
/-- a product, divided by 2^256 -/
def montN (r M x y : Nat) : Nat := x * y * r % M
theorem mont_fin {M A T r : Nat} (h : T * zZ % M = A % M) (hr : zZ * r % M = 1) : T % M = A * r % M := by
  have e : T * (zZ * r) % M = A * r % M := by rw [← Ze, ZY, h, ← ZY]
  rw [ZY, hr, Zo, QQ] at e
  exact e
theorem mont_nv {t : List UInt64} : nv [zb t 0 0, zb t 1 0, zb t 2 0, zb t 3 0] = dvk t 4 := by
  rw [nv4]
  simp only [dvk, Nat.reducePow]
  omega
theorem mont_yes {M A r : Nat} {t : List UInt64} (hr : zZ * r % M = 1) (hm : dvk t 5 * 18446744073709551616 ^ 4 % M = A % M) (h1 : nv [zb t 0 0, zb t 1 0, zb t 2 0, zb t 3 0] < M) (h2 : (((zb t 4 0).toNat : Nat) : Int) = (0 : Int)) :
    [zb t 0 0, zb t 1 0, zb t 2 0, zb t 3 0] = nd (A * r % M) := by
  have e : dvk t 5 = nv [zb t 0 0, zb t 1 0, zb t 2 0, zb t 3 0] := by rw [dvk, mont_nv, show (zb t 4 0).toNat = 0 by omega, ZN, ZM]
  refine nd_of rfl ?_
  rw [← mont_fin (T := dvk t 5) hm hr, e, zK h1]
theorem mont_no {M A r : Nat} {t : List UInt64} (hM : M < zZ) (hr : zZ * r % M = 1) (hT : dvk t 5 < 2 * M) (hm : dvk t 5 * 18446744073709551616 ^ 4 % M = A % M) (h1 : ¬ nv [zb t 0 0, zb t 1 0, zb t 2 0, zb t 3 0] < M ∨ ¬ (((zb t 4 0).toNat : Nat) : Int) = (0 : Int)) :
    nd (nv [zb t 0 0, zb t 1 0, zb t 2 0, zb t 3 0] + zZ - M) = nd (A * r % M) := by
  have hn := nv_lt (l := [zb t 0 0, zb t 1 0, zb t 2 0, zb t 3 0]) rfl
  have e : dvk t 5 = nv [zb t 0 0, zb t 1 0, zb t 2 0, zb t 3 0] + (zb t 4 0).toNat * zZ := by rw [dvk, mont_nv]
  generalize nv [zb t 0 0, zb t 1 0, zb t 2 0, zb t 3 0] = N at *
  have e2 : A * r % M = dvk t 5 - M := by
    rw [← mont_fin (T := dvk t 5) hm hr, Nat.mod_eq_sub_mod (by simp only [zZ] at *; omega), zK (by omega)]
  rw [e2, ← nd_mod, ← nd_mod (dvk t 5 - M)]
  congr 1
  simp only [zZ] at *
  omega

theorem ri4 : zZ * 4458503529701987551646482192314240623644693141688353256590997718326214331684 % mF 4 = 1 := by decide +kernel
theorem bk4 : ((15183074304973897243 : UInt64).toNat * (zb (nd (mF 4)) 0 0).toNat + 1) % 18446744073709551616 = 0 := by decide +kernel
theorem nvm4 : dvk (nd (mF 4)) 4 = mF 4 := (dvk4 (zl _ _)).trans (JN _)
theorem two4 (a b : Nat) : montN 4458503529701987551646482192314240623644693141688353256590997718326214331684 (mF 4) (montN 4458503529701987551646482192314240623644693141688353256590997718326214331684 (mF 4) a 1627715501170711445284395025044413883736156588369414752970002579683115011841) b = a * b % mF 4 := by
  have h : 1627715501170711445284395025044413883736156588369414752970002579683115011841 * 4458503529701987551646482192314240623644693141688353256590997718326214331684 * 4458503529701987551646482192314240623644693141688353256590997718326214331684 % mF 4 = 1 := by decide +kernel
  have e : a * 1627715501170711445284395025044413883736156588369414752970002579683115011841 * 4458503529701987551646482192314240623644693141688353256590997718326214331684 * b * 4458503529701987551646482192314240623644693141688353256590997718326214331684 = a * b * (1627715501170711445284395025044413883736156588369414752970002579683115011841 * 4458503529701987551646482192314240623644693141688353256590997718326214331684 * 4458503529701987551646482192314240623644693141688353256590997718326214331684) := by ac_rfl
  rw [montN, montN, Ze, Yq, ← Ze, e, ZY, h, Zo, QQ]

theorem back4_go (w : World) : Calls Tryd.prog 120 #[.agg #[]] w fun e w' => e = .returned (.int .u64 15183074304973897243) ∧ Ev w [] w' [] := by
 refine d_0 [(0, .agg #[])] 3 Go.Proofs.Tryd.func120 Go.Proofs.Tryd.ntmps120 (Heap.nil _) fun act0 En0 Hv0 => ?_
 refine wp_seq <| zm <| f_o <| m_m 81 [] En0 Hv0 fun _ _ bk1 En4 Hv5 => ?_
 refine d_e [2] [] En4 fun _ En7 => ?_
 refine zg <| d_s [2] [] En7 fun _ En9 => ?_
 refine wp_ret <| d_ret1 (t := 2) (v := .int .u64 15183074304973897243) En9 (by kernel_rfl) (by kernel_rfl) ?_
 exact ⟨rfl, Hv5.pk []⟩

theorem square4_go (w : World) : Calls Tryd.prog 121 #[.agg #[]] w fun e w' => e = .returned (.agg (zi (zh (nd 1627715501170711445284395025044413883736156588369414752970002579683115011841)))) ∧ Ev w [] w' [] := by
 refine d_0 [(0, .agg #[])] 4 Go.Proofs.Tryd.func121 Go.Proofs.Tryd.ntmps121 (Heap.nil _) fun act0 En0 Hv0 => ?_
 refine wp_seq <| zm <| f_o <| m_m 81 [] En0 Hv0 fun _ _ bk1 En4 Hv5 => ?_
 refine f_o <| m_z 34 (zh (ze 4 0)) En4 Hv5 fun _ _ bk6 En9 Hv10 => ?_
 refine f_e <| zg <| wp_seq <| zm <| d_k [2,3] [] 1 En9 fun _ En12 => ?_
 refine f_o <| m_g 1 0 4 (zh ([11819153939886771969, 14991950615390032711, 14910419812499177061, 259310039853996605] : List UInt64)) _ [.box bk1 [] 81, .box bk6 (zh ([11819153939886771969, 14991950615390032711, 14910419812499177061, 259310039853996605] : List UInt64)) 34] En12 Hv10 rfl (zc (show za ([11819153939886771969, 14991950615390032711, 14910419812499177061, 259310039853996605] : List UInt64) = 4 from rfl)) (by rw [(zc (zf))]; first | decide | (simp; done)) (zv _) (zs (zc (zf))) rfl fun _ _ En15 Hv16 => ?_
 refine f_e <| zg <| wp_ret <| Zj (v := .agg (zi (zh ([11819153939886771969, 14991950615390032711, 14910419812499177061, 259310039853996605] : List UInt64)))) (t := 2) (T := 34) (ad := ⟨bk6, 0, none⟩) En15 (by kernel_rfl) (by kernel_rfl) (zM (t := 34) (k := 1) (off := 0) (m := 4) (xs := zh ([11819153939886771969, 14991950615390032711, 14910419812499177061, 259310039853996605] : List UInt64)) Hv16 rfl (zq (zc (show za ([11819153939886771969, 14991950615390032711, 14910419812499177061, 259310039853996605] : List UInt64) = 4 from rfl))) (zc (show za ([11819153939886771969, 14991950615390032711, 14910419812499177061, 259310039853996605] : List UInt64) = 4 from rfl)) (by kernel_rfl) (by kernel_rfl)) ?_
 exact ⟨by kernel_rfl, Hv16.pk []⟩

theorem mont4_go (w : World) (a b : List UInt64) (ha : za a = 4) (hb : za b = 4) (hAM : nv a < mF 4) : Calls Tryd.prog 76 #[.agg #[], .agg (zi (zh a)), .agg (zi (zh b))] w fun e w' => e = .returned (.agg (zi (zh (nd (montN 4458503529701987551646482192314240623644693141688353256590997718326214331684 (mF 4) (nv a) (nv b)))))) ∧ Ev w [] w' [] := by
 refine d_0 [(0, .agg #[]), (1, .agg (zi (zh a))), (2, .agg (zi (zh b)))] 159 Go.Proofs.Tryd.func76 Go.Proofs.Tryd.ntmps76 (Heap.nil _) fun act0 En0 Hv0 => ?_
 refine wp_seq <| zm <| f_o <| m_m 83 [] En0 Hv0 fun _ _ bk1 En4 Hv5 => ?_
 refine f_o <| m_m 34 (zh a) En4 Hv5 fun _ _ bk6 En9 Hv10 => ?_
 refine f_o <| m_m 34 (zh b) En9 Hv10 fun _ _ bk11 En14 Hv15 => ?_
 refine f_o <| m_z 34 (zh (ze 4 0)) En14 Hv15 fun _ _ bk16 En19 Hv20 => ?_
 refine f_e <| zg <| wp_seq <| r_c (fun ac wo => ∃ (bk485 : Nat), Env ac 159 [(4, pt bk6), (5, pt bk11), (6, pt bk16), (7, pt bk485), (8, .int .u64 15183074304973897243)] ∧ Ev w [] wo [.box bk6 (zh a) 34, .box bk11 (zh b) 34, .box bk16 (zh (ze 4 0)) 34, .box bk485 (zh (nd (mF 4))) 34]) ?_ ?_
 ·
  refine h_s (fun wv => Ev w [] wv [.box bk1 [] 83]) [] 11 ?_
  have wo21 := Hv20.trans (z4 Hv20.heap)
  refine h_name fun G hG => ?_
  have nd539 : ∀ (ac : Act) (wo : World), Env ac 159 [(4, pt bk6), (5, pt bk11), (6, pt bk16), (28, .agg (zi (zh (nd (mF 4))))), (32, .int .u64 15183074304973897243)] → Ev w [] wo [.box bk1 [] 83, .box bk6 (zh a) 34, .box bk11 (zh b) 34, .box bk16 (zh (ze 4 0)) 34] → G 3 #[true, true, true, true, true, true, true, true, false, false, false] ac wo := by
   intro _ _ En542 Hv543
   refine Zi hG ?_
   refine q_t 8 ?_
   refine m_z 34 (zh (ze 4 0)) En542 Hv543 fun _ _ bk544 En547 Hv548 => ?_
   refine ⟨fun _ => Hv548.pk [0], ?_⟩
   refine q_t 9 ?_
   refine m_g 4 0 4 (zh (nd (mF 4))) _ [.box bk1 [] 83, .box bk6 (zh a) 34, .box bk11 (zh b) 34, .box bk16 (zh (ze 4 0)) 34, .box bk544 (zh (nd (mF 4))) 34] En547 Hv548 rfl (zc (zl _ _)) (by rw [(zc (zf))]; first | decide | (simp; done)) (zv _) (zs (zc (zf))) rfl fun _ _ En551 Hv552 => ?_
   refine ⟨fun _ => Hv552.pk [0], ?_⟩
   refine q_s [10] [] 0 En551 (Hv552.pk [0]) fun _ En554 => ?_
   exact h_e ⟨bk544, En554.sb, Hv552.pk [1, 2, 3, 4]⟩
  have nd555 : ∀ (ac : Act) (wo : World) (bk496 : Nat), Env ac 159 [(4, pt bk6), (5, pt bk11), (6, pt bk16), (7, pt bk496), (28, .agg (zi (zh (nd (mF 4))))), (31, .iface 81 (.agg #[]))] → Ev w [] wo [.box bk1 [] 83, .box bk6 (zh a) 34, .box bk11 (zh b) 34, .box bk16 (zh (ze 4 0)) 34, .box bk496 (zh (ze 4 0)) 34] → G 3 #[true, true, true, true, true, true, true, false, true, false, false] ac wo := by
   intro _ _ bk496 En558 Hv559
   refine Zi hG ?_
   refine q_t 7 ?_
   refine c_p En558 Hv559 (back4_go _) fun _ _ En565 Hv566 => ?_
   refine ⟨fun _ => Hv566.pk [0], ?_⟩
   refine q_t 9 ?_
   refine m_g 4 0 4 (zh (nd (mF 4))) _ [.box bk1 [] 83, .box bk6 (zh a) 34, .box bk11 (zh b) 34, .box bk16 (zh (ze 4 0)) 34, .box bk496 (zh (nd (mF 4))) 34] En565 Hv566 rfl (zc (zl _ _)) (by rw [(zc (zf))]; first | decide | (simp; done)) (zv _) (zs (zc (zf))) rfl fun _ _ En569 Hv570 => ?_
   refine ⟨fun _ => Hv570.pk [0], ?_⟩
   refine q_s [10] [] 0 En569 (Hv570.pk [0]) fun _ En572 => ?_
   exact h_e ⟨bk496, En572.sb, Hv570.pk [1, 2, 3, 4]⟩
  have nd573 : ∀ (ac : Act) (wo : World), Env ac 159 [(4, pt bk6), (5, pt bk11), (6, pt bk16), (28, .agg (zi (zh (nd (mF 4))))), (31, .iface 81 (.agg #[]))] → Ev w [] wo [.box bk1 [] 83, .box bk6 (zh a) 34, .box bk11 (zh b) 34, .box bk16 (zh (ze 4 0)) 34] → G 4 #[true, true, true, true, true, true, true, false, false, false, false] ac wo := by
   intro _ _ En576 Hv577
   refine Zi hG ?_
   refine h_ways [7, 8] (by kernel_rfl) rfl ?_
   refine ⟨?_, ?_, trivial⟩
   ·
    rintro _ rfl
    refine c_p En576 Hv577 (back4_go _) fun _ _ En583 Hv584 => ?_
    refine ⟨fun _ => Hv584.pk [0], ?_⟩
    exact h_to hG (by kernel_rfl) (nd539 _ _ (En583.sb) (Hv584.pk [0, 1, 2, 3]))
   rintro _ rfl
   refine m_z 34 (zh (ze 4 0)) En576 Hv577 fun _ _ bk585 En588 Hv589 => ?_
   refine ⟨fun _ => Hv589.pk [0], ?_⟩
   exact h_to hG (by kernel_rfl) (nd555 _ _ bk585 (En588.sb) (Hv589.pk [0, 1, 2, 3, 4]))
  have nd590 : ∀ (ac : Act) (wo : World) (bk514 : Nat), Env ac 159 [(4, pt bk6), (5, pt bk11), (6, pt bk16), (7, pt bk514), (27, .iface 81 (.agg #[])), (31, .iface 81 (.agg #[]))] → Ev w [] wo [.box bk1 [] 83, .box bk6 (zh a) 34, .box bk11 (zh b) 34, .box bk16 (zh (ze 4 0)) 34, .box bk514 (zh (ze 4 0)) 34] → G 4 #[true, true, true, false, true, true, true, false, true, false, false] ac wo := by
   intro _ _ bk514 En593 Hv594
   refine Zi hG ?_
   refine q_t 3 ?_
   refine c_p En593 Hv594 (prime4_go _) fun _ _ En600 Hv601 => ?_
   refine ⟨fun _ => Hv601.pk [0], ?_⟩
   refine q_t 7 ?_
   refine c_p En600 Hv601 (back4_go _) fun _ _ En607 Hv608 => ?_
   refine ⟨fun _ => Hv608.pk [0], ?_⟩
   refine q_t 9 ?_
   refine m_g 4 0 4 (zh (nd (mF 4))) _ [.box bk1 [] 83, .box bk6 (zh a) 34, .box bk11 (zh b) 34, .box bk16 (zh (ze 4 0)) 34, .box bk514 (zh (nd (mF 4))) 34] En607 Hv608 rfl (zc (zl _ _)) (by rw [(zc (zf))]; first | decide | (simp; done)) (zv _) (zs (zc (zf))) rfl fun _ _ En611 Hv612 => ?_
   refine ⟨fun _ => Hv612.pk [0], ?_⟩
   refine q_s [10] [] 0 En611 (Hv612.pk [0]) fun _ En614 => ?_
   exact h_e ⟨bk514, En614.sb, Hv612.pk [1, 2, 3, 4]⟩
  refine Zi hG ?_
  refine q_r 0 (s := Instr.fieldAt 83 (pt bk1) 0) (v := pt bk1) En19 (fun w hS => run_field0 (hS.heap.shape0 (k := 0) rfl) (by kernel_rfl)) (wo21.pk [0]) fun _ En616 => ?_
  refine q_r 1 (s := Instr.loadAt 81 (pt bk1)) (v := .agg #[]) En616 (fun w hS => zR (m := 0) (cs := []) rfl (by kernel_rfl) (by kernel_rfl) (hS.heap.cells (k := 0) (off := 0) (m := 0) rfl rfl)) (wo21.pk [0]) fun _ En618 => ?_
  refine q_s [2] [] 8 En618 (wo21.pk [0]) fun _ En620 => ?_
  refine q_r 4 (s := Instr.fieldAt 83 (pt bk1) 0) (v := pt bk1) En620 (fun w hS => run_field0 (hS.heap.shape0 (k := 0) rfl) (by kernel_rfl)) (wo21.pk [0]) fun _ En622 => ?_
  refine q_r 5 (s := Instr.loadAt 81 (pt bk1)) (v := .agg #[]) En622 (fun w hS => zR (m := 0) (cs := []) rfl (by kernel_rfl) (by kernel_rfl) (hS.heap.cells (k := 0) (off := 0) (m := 0) rfl rfl)) (wo21.pk [0]) fun _ En624 => ?_
  refine q_s [6] [] 5 En624 (wo21.pk [0]) fun _ En626 => ?_
  refine h_ways [3, 8] (by kernel_rfl) rfl ?_
  refine ⟨?_, ?_, trivial⟩
  ·
   rintro _ rfl
   refine c_p En626 wo21 (prime4_go _) fun _ _ En632 Hv633 => ?_
   refine ⟨fun _ => Hv633.pk [0], ?_⟩
   exact h_to hG (by kernel_rfl) (nd573 _ _ (En632.sb) (Hv633.pk [0, 1, 2, 3]))
  rintro _ rfl
  refine m_z 34 (zh (ze 4 0)) En626 wo21 fun _ _ bk634 En637 Hv638 => ?_
  refine ⟨fun _ => Hv638.pk [0], ?_⟩
  exact h_to hG (by kernel_rfl) (nd590 _ _ bk634 (En637.sb) (Hv638.pk [0, 1, 2, 3, 4]))
 rintro _ _ ⟨bk485, En641, Hv642⟩
 refine zg <| wp_seq <| zm <| f_o <| m_z 124 (zh (ze 6 0)) En641 Hv642 fun _ _ bk643 En646 Hv647 => ?_
 refine f_e <| zg <| wp_seq <| wp_seq <| d_r [4,5,6,7,8,9,33] [] En646 fun _ En649 => ?_
 refine zg <| wp_block <| Qh (fun ms650 ac wo => ∃ (i : Nat) (t : List UInt64), ms650 = (5 - i : Nat) ∧ Env ac 159 [(4, pt bk6), (5, pt bk11), (6, pt bk16), (7, pt bk485), (8, .int .u64 15183074304973897243), (9, pt bk643), (33, ni i)] ∧ Ev w [] wo [.box bk643 (zh t) 124, .box bk6 (zh a) 34, .box bk11 (zh b) 34, .box bk16 (zh (ze 4 0)) 34, .box bk485 (zh (nd (mF 4))) 34] ∧ (i ≤ 4) ∧ (za t = 6) ∧ (dvk t 5 < 2 * mF 4) ∧ (dvk t 5 * 18446744073709551616 ^ i % mF 4 = nv a * dvk b i % mF 4)) ⟨_, 0, ze 6 0, rfl, En649.sb, Hv647.pk [4, 0, 1, 2, 3], by omega, (zf), (by rw [dvk_rep]; decide), (by rw [dvk_rep, dvk, ZN, Qv])⟩ ?_
 rintro mm656 _ _ ⟨i, t, rfl, En654, Hv655, hi, hlt, hT, hm⟩
 refine wp_seq <| d_r [4,5,6,7,8,9,33,34] [] En654 fun _ En658 => ?_
 refine zg <| wp_seq <| c_d (((i : Nat) : Int) < (4 : Int)) En658 (fun hc659 => ?_) (fun hc659 => ?_)
 ·
  refine wp_skip <| zg <| wp_seq <| wp_block <| wp_seq <| d_r [4,5,6,7,8,9,10,33] [] En658 fun _ En661 => ?_
  refine zg <| wp_seq <| d_r [4,5,6,7,8,9,10,11,33] [] En661 fun _ En663 => ?_
  refine zg <| wp_seq <| wp_seq <| d_r [4,5,6,7,8,9,10,11,33,36] [] En663 fun _ En665 => ?_
  refine zg <| wp_block <| Qh (fun ms666 ac wo => ∃ (k : Nat) (u : List UInt64) (c : UInt64), ms666 = (5 - k : Nat) ∧ Env ac 159 [(4, pt bk6), (5, pt bk11), (6, pt bk16), (7, pt bk485), (8, .int .u64 15183074304973897243), (9, pt bk643), (10, ni i), (11, zn c), (33, ni i), (36, ni k)] ∧ Ev w [] wo [.box bk643 (zh u) 124, .box bk6 (zh a) 34, .box bk11 (zh b) 34, .box bk16 (zh (ze 4 0)) 34, .box bk485 (zh (nd (mF 4))) 34] ∧ (k ≤ 4) ∧ (za u = 6) ∧ (dvk u 5 + c.toNat * 18446744073709551616 ^ k = dvk t 5 + dvk a k * (zb b i 0).toNat)) ⟨_, 0, t, 0, rfl, En665.sb, Hv655.pk [0, 1, 2, 3, 4], by omega, hlt, mont_i0⟩ ?_
  rintro mm672 _ _ ⟨k, u, c, rfl, En670, Hv671, hk, hlu, hu⟩
  refine wp_seq <| d_r [4,5,6,7,8,9,10,11,33,36,37] [] En670 fun _ En674 => ?_
  refine zg <| wp_seq <| c_d (((k : Nat) : Int) < (4 : Int)) En674 (fun hc675 => ?_) (fun hc675 => ?_)
  ·
   refine wp_skip <| zg <| wp_seq <| wp_block <| wp_seq <| d_r [4,5,6,7,8,9,10,11,12,33,36] [] En674 fun _ En677 => ?_
   refine zg <| wp_seq <| r_c (fun ac wo => Env ac 159 [(4, pt bk6), (5, pt bk11), (6, pt bk16), (7, pt bk485), (8, .int .u64 15183074304973897243), (9, pt bk643), (10, ni i), (11, zn c), (12, ni k), (13, zn (QX (zb a k 0) (zb b i 0))), (14, zn ((zb a k 0) * (zb b i 0))), (33, ni i), (36, ni k)] ∧ Ev w [] wo [.box bk643 (zh u) 124, .box bk6 (zh a) 34, .box bk11 (zh b) 34, .box bk16 (zh (ze 4 0)) 34, .box bk485 (zh (nd (mF 4))) 34]) ?_ ?_
   ·
    refine h_s (fun wv => Ev w [] wv [.box bk6 (zh a) 34, .box bk11 (zh b) 34]) [] 12 ?_
    have wo678 := Hv671.trans (z4 Hv671.heap)
    refine q_s [0] [] 11 En677 (wo678.pk [1, 2]) fun _ En741 => ?_
    refine q_f 1 (s := Instr.indexAt 34 (pt bk6) (ni k)) (v := .pointer (some ⟨bk6, k, none⟩)) En741 (fun _ => Go.Dbr.run_indexarr (e := 32) (sz := 1) (m := 4) (j := k) (o := k) (by kernel_rfl) (by kernel_rfl) (by omega) (by omega) (by omega) _) (fun _ => wo678.pk [1, 2]) fun _ En743 => ?_
    have hb744 : k < za a := by rw [ha]; omega
    refine q_r 2 (s := Instr.loadAt 32 (.pointer (some ⟨bk6, k, none⟩))) (v := zn (zb a k 0)) En743 (fun w hS => run_load1 (by kernel_rfl) (hS.heap.cell (k := 0) rfl (zY hb744))) (wo678.pk [1, 2]) fun _ En746 => ?_
    refine q_s [3] [] 8 En746 (wo678.pk [1, 2]) fun _ En748 => ?_
    refine q_f 4 (s := Instr.indexAt 34 (pt bk11) (ni i)) (v := .pointer (some ⟨bk11, i, none⟩)) En748 (fun _ => Go.Dbr.run_indexarr (e := 32) (sz := 1) (m := 4) (j := i) (o := i) (by kernel_rfl) (by kernel_rfl) (by omega) (by omega) (by omega) _) (fun _ => wo678.pk [1, 2]) fun _ En750 => ?_
    have hb751 : i < za b := by rw [hb]; omega
    refine q_r 5 (s := Instr.loadAt 32 (.pointer (some ⟨bk11, i, none⟩))) (v := zn (zb b i 0)) En750 (fun w hS => run_load1 (by kernel_rfl) (hS.heap.cell (k := 1) rfl (zY hb751))) (wo678.pk [1, 2]) fun _ En753 => ?_
    refine q_t 6 ?_
    refine c_p En753 wo678 (mul_go _ (zb a k 0) (zb b i 0)) fun _ _ En759 Hv760 => ?_
    refine ⟨fun _ => Hv760.pk [1, 2], ?_⟩
    refine q_s [7,8,9,10,11] [] 0 En759 (Hv760.pk [1, 2]) fun _ En762 => ?_
    exact h_e ⟨En762.sb, Hv760.pk [0, 1, 2, 3, 4]⟩
   rintro _ _ ⟨En765, Hv766⟩
   refine zg <| wp_seq <| zm <| d_k [4,5,6,7,8,9,10,11,12,13,14,33,36,50,51] [] 2 En765 fun _ En768 => ?_
   refine f_o <| q_v (x := Instr.indexAt 124 (pt bk643) (ni k)) (v := .pointer (some ⟨bk643, k, none⟩)) En768 (Go.Dbr.run_indexarr (e := 32) (sz := 1) (m := 6) (j := k) (o := k) (by kernel_rfl) (by kernel_rfl) (by omega) (by omega) (by omega) _) fun _ En770 => ?_
   refine f_o ?_
   have hb771 : k < za u := by rw [hlu]; omega
   refine m_v 0 k (zn (zb u k 0)) En770 Hv766 rfl (zY hb771) fun _ En773 => ?_
   refine f_o <| JK (d := some 54) (f := 72) (args := #[zn ((zb a k 0) * (zb b i 0)), zn (zb u k 0), zn (0 : UInt64)]) (v := .tuple #[zn (zL ((zb a k 0) * (zb b i 0)) (zb u k 0) (0 : UInt64)), zn (zH ((zb a k 0) * (zb b i 0)) (zb u k 0) (0 : UInt64))]) En773 (by kernel_rfl) (Go.Dbr.ext_add64 Go.Proofs.Tryd.func72 (by kernel_rfl) (by kernel_rfl) (by kernel_rfl) (by kernel_rfl) ((zb a k 0) * (zb b i 0)) (zb u k 0) (0 : UInt64) (by decide)) ?_
   intro _ En775
   refine d_e [4,5,6,7,8,9,10,11,12,13,14,15,33,36] [] En775 fun _ En777 => ?_
   refine zg <| wp_seq <| zm <| d_k [4,5,6,7,8,9,10,11,12,13,14,15,33,36,58,59] [] 2 En777 fun _ En779 => ?_
   refine f_o <| JK (d := some 60) (f := 72) (args := #[zn (zL ((zb a k 0) * (zb b i 0)) (zb u k 0) (0 : UInt64)), zn c, zn (0 : UInt64)]) (v := .tuple #[zn (zL (zL ((zb a k 0) * (zb b i 0)) (zb u k 0) (0 : UInt64)) c (0 : UInt64)), zn (zH (zL ((zb a k 0) * (zb b i 0)) (zb u k 0) (0 : UInt64)) c (0 : UInt64))]) En779 (by kernel_rfl) (Go.Dbr.ext_add64 Go.Proofs.Tryd.func72 (by kernel_rfl) (by kernel_rfl) (by kernel_rfl) (by kernel_rfl) (zL ((zb a k 0) * (zb b i 0)) (zb u k 0) (0 : UInt64)) c (0 : UInt64) (by decide)) ?_
   intro _ En781
   refine d_e [4,5,6,7,8,9,10,11,12,13,14,15,16,33,36] [] En781 fun _ En783 => ?_
   refine zg <| zm <| d_k [4,5,6,7,8,9,10,11,12,14,33,36,63,64,69] [(4, g_i .u64 (Go.Dbr.u64_add (x := QX (zb a k 0) (zb b i 0)) (y := zH ((zb a k 0) * (zb b i 0)) (zb u k 0) (0 : UInt64)) rfl rfl)), (6, g_i .u64 (Go.Dbr.u64_add (x := (QX (zb a k 0) (zb b i 0)) + (zH ((zb a k 0) * (zb b i 0)) (zb u k 0) (0 : UInt64))) (y := zH (zL ((zb a k 0) * (zb b i 0)) (zb u k 0) (0 : UInt64)) c (0 : UInt64)) rfl rfl))] 7 En783 fun _ En785 => ?_
   refine f_o <| q_v (x := Instr.indexAt 124 (pt bk643) (ni k)) (v := .pointer (some ⟨bk643, k, none⟩)) En785 (Go.Dbr.run_indexarr (e := 32) (sz := 1) (m := 6) (j := k) (o := k) (by kernel_rfl) (by kernel_rfl) (by omega) (by omega) (by omega) _) fun _ En787 => ?_
   refine f_o ?_
   have hb788 : k < za u := by rw [hlu]; omega
   refine m_t 0 k (zn (zL (zL ((zb a k 0) * (zb b i 0)) (zb u k 0) (0 : UInt64)) c (0 : UInt64))) [.box bk643 (zh (zy u k (zL (zL ((zb a k 0) * (zb b i 0)) (zb u k 0) (0 : UInt64)) c (0 : UInt64)))) 124, .box bk6 (zh a) 34, .box bk11 (zh b) 34, .box bk16 (zh (ze 4 0)) 34, .box bk485 (zh (nd (mF 4))) 34] En787 Hv766 rfl (zY hb788) (Yn _ _ _) rfl fun _ _ En791 Hv792 => ?_
   refine d_e [4,5,6,7,8,9,10,11,12,14,33,36] [] En791 fun _ En794 => ?_
   refine zA <| zg <| d_r [4,5,6,7,8,9,10,11,12,14,33,36] [(0, g_n (w_a k 1))] En794 fun _ En796 => ?_
   refine zg <| ⟨_, ⟨k + 1, (zy u k (zL (zL ((zb a k 0) * (zb b i 0)) (zb u k 0) (0 : UInt64)) c (0 : UInt64))), (((QX (zb a k 0) (zb b i 0)) + (zH ((zb a k 0) * (zb b i 0)) (zb u k 0) (0 : UInt64))) + (zH (zL ((zb a k 0) * (zb b i 0)) (zb u k 0) (0 : UInt64)) c (0 : UInt64))), rfl, En796.sb, Hv792.pk [0, 1, 2, 3, 4], by omega, (List.length_set.trans hlu), mont_in hlu (by omega) hu⟩, ?_⟩
   omega
  refine wp_exit <| zI <| zI <| z9 <| zg <| wp_seq ?_
  have hk4 : k = 4 := by omega
  rw [hk4] at hu
  have hmid := mont_mid hlu hu
  refine zm <| d_k [4,5,6,7,8,9,10,11,33,36,73] [] 1 En674 fun _ En798 => ?_
  refine f_o ?_
  have hb799 : 4 < za u := by rw [hlu]; omega
  refine m_v 0 4 (zn (zb u 4 0)) En798 Hv671 rfl (zY hb799) fun _ En801 => ?_
  refine d_k [4,5,6,7,8,9,10,11,33,36,74,75] [] 3 En801 fun _ En803 => ?_
  refine f_o <| JK (d := some 76) (f := 72) (args := #[zn (zb u 4 0), zn c, zn (0 : UInt64)]) (v := .tuple #[zn (zL (zb u 4 0) c (0 : UInt64)), zn (zH (zb u 4 0) c (0 : UInt64))]) En803 (by kernel_rfl) (Go.Dbr.ext_add64 Go.Proofs.Tryd.func72 (by kernel_rfl) (by kernel_rfl) (by kernel_rfl) (by kernel_rfl) (zb u 4 0) c (0 : UInt64) (by decide)) ?_
  intro _ En805
  refine d_k [4,5,6,7,8,9,10,11,33,36,77,78,79] [] 8 En805 fun _ En807 => ?_
  refine f_o ?_
  have hb808 : 4 < za u := by rw [hlu]; omega
  refine m_t 0 4 (zn (zL (zb u 4 0) c (0 : UInt64))) [.box bk643 (zh (zy u 4 (zL (zb u 4 0) c (0 : UInt64)))) 124, .box bk6 (zh a) 34, .box bk11 (zh b) 34, .box bk16 (zh (ze 4 0)) 34, .box bk485 (zh (nd (mF 4))) 34] En807 Hv671 rfl (zY hb808) (Yn _ _ _) rfl fun _ _ En811 Hv812 => ?_
  refine d_k [4,5,6,7,8,9,10,11,33,36,78,80] [] 10 En811 fun _ En814 => ?_
  refine f_o ?_
  have hb815 : 5 < za (zy u 4 (zL (zb u 4 0) c (0 : UInt64))) := by rw [(List.length_set.trans hlu)]; omega
  refine m_t 0 5 (zn (zH (zb u 4 0) c (0 : UInt64))) [.box bk643 (zh (zy (zy u 4 (zL (zb u 4 0) c (0 : UInt64))) 5 (zH (zb u 4 0) c (0 : UInt64)))) 124, .box bk6 (zh a) 34, .box bk11 (zh b) 34, .box bk16 (zh (ze 4 0)) 34, .box bk485 (zh (nd (mF 4))) 34] En814 Hv812 rfl (zY hb815) (Yn _ _ _) rfl fun _ _ En818 Hv819 => ?_
  refine f_e <| zg <| wp_seq ?_
  have hlv : za (zy (zy u 4 (zL (zb u 4 0) c (0 : UInt64))) 5 (zH (zb u 4 0) c (0 : UInt64))) = 6 := by rw [ZI, ZI]; exact hlu
  generalize hve : zy (zy u 4 (zL (zb u 4 0) c (0 : UInt64))) 5 (zH (zb u 4 0) c (0 : UInt64)) = v at hmid hlv Hv819
  obtain ⟨hvP, hv5⟩ := hmid
  refine zm <| d_k [4,5,6,7,8,9,10,11,33,36,81] [] 1 En818 fun _ En821 => ?_
  refine f_o ?_
  have hb822 : 0 < za v := by rw [hlv]; omega
  refine m_v 0 0 (zn (zb v 0 0)) En821 Hv819 rfl (zY hb822) fun _ En824 => ?_
  refine d_e [4,5,6,7,8,9,10,11,17,33,36] [(3, g_i .u64 (Go.Dbr.u64_mul (x := zb v 0 0) (y := (15183074304973897243 : UInt64)) rfl rfl))] En824 fun _ En826 => ?_
  refine zg <| wp_seq ?_
  obtain ⟨q, hqe⟩ : ∃ q, q = (zb v 0 0) * (15183074304973897243 : UInt64) := ⟨_, rfl⟩
  have En827 := Env.fx (t := 17) (v := zn ((zb v 0 0) * (15183074304973897243 : UInt64))) (u := zn q) En826 (by rw [hqe])
  refine d_r [4,5,6,7,8,9,10,11,17,33,36] [] En827 fun _ En829 => ?_
  refine zg <| wp_seq <| wp_seq <| d_r [4,5,6,7,8,9,10,11,17,33,36,85] [] En829 fun _ En831 => ?_
  refine zg <| wp_block <| Qh (fun ms832 ac wo => ∃ (j : Nat) (w5 : List UInt64) (c : UInt64), ms832 = (5 - j : Nat) ∧ Env ac 159 [(4, pt bk6), (5, pt bk11), (6, pt bk16), (7, pt bk485), (8, .int .u64 15183074304973897243), (9, pt bk643), (10, ni i), (11, zn c), (17, zn q), (33, ni i), (36, ni k), (85, ni j)] ∧ Ev w [] wo [.box bk643 (zh w5) 124, .box bk6 (zh a) 34, .box bk11 (zh b) 34, .box bk16 (zh (ze 4 0)) 34, .box bk485 (zh (nd (mF 4))) 34] ∧ (j ≤ 4) ∧ (za w5 = 6) ∧ (18446744073709551616 * (dvk w5 (j - 1) + c.toNat * 18446744073709551616 ^ (j - 1)) = dvk v j + q.toNat * dvk (nd (mF 4)) j) ∧ (∀ x, j ≤ x → zb w5 x 0 = zb v x 0)) ⟨_, 0, v, 0, rfl, En831.sb, Hv819.pk [0, 1, 2, 3, 4], by omega, hlv, mont_j0, fun _ _ => rfl⟩ ?_
  rintro mm838 _ _ ⟨j, w5, c, rfl, En836, Hv837, hj, hlw, hv2, hs⟩
  refine wp_seq <| d_r [4,5,6,7,8,9,10,11,17,33,36,85,86] [] En836 fun _ En840 => ?_
  refine zg <| wp_seq <| c_d (((j : Nat) : Int) < (4 : Int)) En840 (fun hc841 => ?_) (fun hc841 => ?_)
  ·
   refine wp_skip <| zg <| wp_seq <| wp_block <| wp_seq <| d_r [4,5,6,7,8,9,10,11,17,18,33,36,85] [] En840 fun _ En843 => ?_
   refine zg <| wp_seq <| zm <| d_k [4,5,6,7,8,9,10,11,17,18,33,36,85,89,90] [] 2 En843 fun _ En845 => ?_
   refine f_o <| q_v (x := Instr.indexAt 34 (pt bk485) (ni j)) (v := .pointer (some ⟨bk485, j, none⟩)) En845 (Go.Dbr.run_indexarr (e := 32) (sz := 1) (m := 4) (j := j) (o := j) (by kernel_rfl) (by kernel_rfl) (by omega) (by omega) (by omega) _) fun _ En847 => ?_
   refine f_o ?_
   have hb848 : j < za (nd (mF 4)) := by rw [(zl _ _)]; omega
   refine m_v 4 j (zn (zb (nd (mF 4)) j 0)) En847 Hv837 rfl (zY hb848) fun _ En850 => ?_
   refine f_o <| c_p En850 Hv837 (mul_go _ q (zb (nd (mF 4)) j 0)) fun _ _ En856 Hv857 => ?_
   refine d_e [4,5,6,7,8,9,10,11,17,18,19,20,33,36,85] [] En856 fun _ En859 => ?_
   refine zg <| wp_seq <| zm <| d_k [4,5,6,7,8,9,10,11,17,18,19,20,33,36,85,97,98] [] 2 En859 fun _ En861 => ?_
   refine f_o <| q_v (x := Instr.indexAt 124 (pt bk643) (ni j)) (v := .pointer (some ⟨bk643, j, none⟩)) En861 (Go.Dbr.run_indexarr (e := 32) (sz := 1) (m := 6) (j := j) (o := j) (by kernel_rfl) (by kernel_rfl) (by omega) (by omega) (by omega) _) fun _ En863 => ?_
   refine f_o ?_
   have hb864 : j < za w5 := by rw [hlw]; omega
   refine m_v 0 j (zn (zb w5 j 0)) En863 Hv857 rfl (zY hb864) fun _ En866 => ?_
   refine f_o <| JK (d := some 101) (f := 72) (args := #[zn (q * (zb (nd (mF 4)) j 0)), zn (zb w5 j 0), zn (0 : UInt64)]) (v := .tuple #[zn (zL (q * (zb (nd (mF 4)) j 0)) (zb w5 j 0) (0 : UInt64)), zn (zH (q * (zb (nd (mF 4)) j 0)) (zb w5 j 0) (0 : UInt64))]) En866 (by kernel_rfl) (Go.Dbr.ext_add64 Go.Proofs.Tryd.func72 (by kernel_rfl) (by kernel_rfl) (by kernel_rfl) (by kernel_rfl) (q * (zb (nd (mF 4)) j 0)) (zb w5 j 0) (0 : UInt64) (by decide)) ?_
   intro _ En868
   refine d_e [4,5,6,7,8,9,10,11,17,18,19,20,21,33,36,85] [] En868 fun _ En870 => ?_
   refine zg <| wp_seq <| zm <| d_k [4,5,6,7,8,9,10,11,17,18,19,20,21,33,36,85,105,106] [] 2 En870 fun _ En872 => ?_
   refine f_o <| JK (d := some 107) (f := 72) (args := #[zn (zL (q * (zb (nd (mF 4)) j 0)) (zb w5 j 0) (0 : UInt64)), zn c, zn (0 : UInt64)]) (v := .tuple #[zn (zL (zL (q * (zb (nd (mF 4)) j 0)) (zb w5 j 0) (0 : UInt64)) c (0 : UInt64)), zn (zH (zL (q * (zb (nd (mF 4)) j 0)) (zb w5 j 0) (0 : UInt64)) c (0 : UInt64))]) En872 (by kernel_rfl) (Go.Dbr.ext_add64 Go.Proofs.Tryd.func72 (by kernel_rfl) (by kernel_rfl) (by kernel_rfl) (by kernel_rfl) (zL (q * (zb (nd (mF 4)) j 0)) (zb w5 j 0) (0 : UInt64)) c (0 : UInt64) (by decide)) ?_
   intro _ En874
   refine d_e [4,5,6,7,8,9,10,11,17,18,19,20,21,22,33,36,85] [] En874 fun _ En876 => ?_
   refine zg <| wp_seq <| wp_seq <| d_r [4,5,6,7,8,9,10,11,17,18,19,20,21,22,33,36,85,111] [] En876 fun _ En878 => ?_
   refine zg <| c_d (((j : Nat) : Int) > (0 : Int)) En878 (fun hc879 => ?_) (fun hc879 => ?_)
   ·
    refine zm <| d_k [4,5,6,7,8,9,10,11,17,18,19,20,21,22,33,36,85,113,114] [(1, g_n (w_r (e := ((j : Nat) : Int) - (1 : Int)) (x := ((j - 1 : Nat) : Int)) (by omega)))] 3 En878 fun _ En881 => ?_
    refine f_o <| q_v (x := Instr.indexAt 124 (pt bk643) (ni (j - 1))) (v := .pointer (some ⟨bk643, j - 1, none⟩)) En881 (Go.Dbr.run_indexarr (e := 32) (sz := 1) (m := 6) (j := j - 1) (o := j - 1) (by kernel_rfl) (by kernel_rfl) (by omega) (by omega) (by omega) _) fun _ En883 => ?_
    refine f_o ?_
    have hb884 : j - 1 < za w5 := by rw [hlw]; omega
    refine m_t 0 (j - 1) (zn (zL (zL (q * (zb (nd (mF 4)) j 0)) (zb w5 j 0) (0 : UInt64)) c (0 : UInt64))) [.box bk643 (zh (zy w5 (j - 1) (zL (zL (q * (zb (nd (mF 4)) j 0)) (zb w5 j 0) (0 : UInt64)) c (0 : UInt64)))) 124, .box bk6 (zh a) 34, .box bk11 (zh b) 34, .box bk16 (zh (ze 4 0)) 34, .box bk485 (zh (nd (mF 4))) 34] En883 Hv857 rfl (zY hb884) (Yn _ _ _) rfl fun _ _ En887 Hv888 => ?_
    refine f_e <| zg <| d_r [4,5,6,7,8,9,10,11,17,18,20,33,36,85] [(2, g_i .u64 (Go.Dbr.u64_add (x := QX q (zb (nd (mF 4)) j 0)) (y := zH (q * (zb (nd (mF 4)) j 0)) (zb w5 j 0) (0 : UInt64)) rfl rfl)), (4, g_i .u64 (Go.Dbr.u64_add (x := (QX q (zb (nd (mF 4)) j 0)) + (zH (q * (zb (nd (mF 4)) j 0)) (zb w5 j 0) (0 : UInt64))) (y := zH (zL (q * (zb (nd (mF 4)) j 0)) (zb w5 j 0) (0 : UInt64)) c (0 : UInt64)) rfl rfl))] En887 fun _ En890 => ?_
    refine zA <| zg <| d_r [4,5,6,7,8,9,10,11,17,18,20,33,36,85] [(0, g_n (w_a j 1))] En890 fun _ En892 => ?_
    refine zg <| ⟨_, ⟨j + 1, (zy w5 (j - 1) (zL (zL (q * (zb (nd (mF 4)) j 0)) (zb w5 j 0) (0 : UInt64)) c (0 : UInt64))), (((QX q (zb (nd (mF 4)) j 0)) + (zH (q * (zb (nd (mF 4)) j 0)) (zb w5 j 0) (0 : UInt64))) + (zH (zL (q * (zb (nd (mF 4)) j 0)) (zb w5 j 0) (0 : UInt64)) c (0 : UInt64))), rfl, En892.sb, Hv888.pk [0, 1, 2, 3, 4], by omega, (List.length_set.trans hlw), mont_more hlw (by omega) (by omega) (hs j (ZK _)) hv2, fun x hx => by rw [QP _ (by omega)]; exact hs x (by omega)⟩, ?_⟩
    omega
   refine wp_skip <| zg <| d_r [4,5,6,7,8,9,10,11,17,18,20,33,36,85] [(2, g_i .u64 (Go.Dbr.u64_add (x := QX q (zb (nd (mF 4)) j 0)) (y := zH (q * (zb (nd (mF 4)) j 0)) (zb w5 j 0) (0 : UInt64)) rfl rfl)), (4, g_i .u64 (Go.Dbr.u64_add (x := (QX q (zb (nd (mF 4)) j 0)) + (zH (q * (zb (nd (mF 4)) j 0)) (zb w5 j 0) (0 : UInt64))) (y := zH (zL (q * (zb (nd (mF 4)) j 0)) (zb w5 j 0) (0 : UInt64)) c (0 : UInt64)) rfl rfl))] En878 fun _ En894 => ?_
   refine zA <| zg <| d_r [4,5,6,7,8,9,10,11,17,18,20,33,36,85] [(0, g_n (w_a j 1))] En894 fun _ En896 => ?_
   refine zg ?_
   have hj0 : j = 0 := by omega
   rw [hj0] at hv2
   refine ⟨_, ⟨j + 1, w5, (((QX q (zb (nd (mF 4)) j 0)) + (zH (q * (zb (nd (mF 4)) j 0)) (zb w5 j 0) (0 : UInt64))) + (zH (zL (q * (zb (nd (mF 4)) j 0)) (zb w5 j 0) (0 : UInt64)) c (0 : UInt64))), rfl, En896.sb, Hv857.pk [0, 1, 2, 3, 4], by omega, hlw, (by rw [hj0]; exact mont_first bk4 hqe (hs 0 (by omega)) (mont_c0 hv2)), fun x hx => hs x (by omega)⟩, ?_⟩
   omega
  refine wp_exit <| zI <| zI <| z9 <| zg <| wp_seq ?_
  have hj4 : j = 4 := by omega
  rw [hj4] at hv2
  have hmo := mont_out hlw (hs 4 (by omega)) (hs 5 (by omega)) hv5 hv2
  refine d_r [4,5,6,7,8,9,10,11,17,23,33,36,85] [] En840 fun _ En898 => ?_
  refine zg <| wp_seq <| zm <| d_k [4,5,6,7,8,9,10,11,17,23,33,36,85,123] [] 1 En898 fun _ En900 => ?_
  refine f_o ?_
  have hb901 : 4 < za w5 := by rw [hlw]; omega
  refine m_v 0 4 (zn (zb w5 4 0)) En900 Hv837 rfl (zY hb901) fun _ En903 => ?_
  refine d_k [4,5,6,7,8,9,10,11,17,23,33,36,85,124,125] [] 3 En903 fun _ En905 => ?_
  refine f_o <| JK (d := some 126) (f := 72) (args := #[zn (zb w5 4 0), zn c, zn (0 : UInt64)]) (v := .tuple #[zn (zL (zb w5 4 0) c (0 : UInt64)), zn (zH (zb w5 4 0) c (0 : UInt64))]) En905 (by kernel_rfl) (Go.Dbr.ext_add64 Go.Proofs.Tryd.func72 (by kernel_rfl) (by kernel_rfl) (by kernel_rfl) (by kernel_rfl) (zb w5 4 0) c (0 : UInt64) (by decide)) ?_
  intro _ En907
  refine d_k [4,5,6,7,8,9,10,11,17,23,33,36,85,127,128,129] [] 8 En907 fun _ En909 => ?_
  refine f_o ?_
  have hb910 : 3 < za w5 := by rw [hlw]; omega
  refine m_t 0 3 (zn (zL (zb w5 4 0) c (0 : UInt64))) [.box bk643 (zh (zy w5 3 (zL (zb w5 4 0) c (0 : UInt64)))) 124, .box bk6 (zh a) 34, .box bk11 (zh b) 34, .box bk16 (zh (ze 4 0)) 34, .box bk485 (zh (nd (mF 4))) 34] En909 Hv837 rfl (zY hb910) (Yn _ _ _) rfl fun _ _ En913 Hv914 => ?_
  refine d_e [4,5,6,7,8,9,10,11,17,23,33,36,85] [] En913 fun _ En916 => ?_
  refine zg <| zm <| d_k [4,5,6,7,8,9,10,11,17,23,33,36,85,130] [] 1 En916 fun _ En918 => ?_
  refine f_o ?_
  have hb919 : 5 < za (zy w5 3 (zL (zb w5 4 0) c (0 : UInt64))) := by rw [(List.length_set.trans hlw)]; omega
  refine m_v 0 5 (zn (zb (zy w5 3 (zL (zb w5 4 0) c (0 : UInt64))) 5 0)) En918 Hv914 rfl (zY hb919) fun _ En921 => ?_
  refine d_k [4,5,6,7,8,9,10,11,17,33,36,85,133,134] [(3, g_i .u64 (Go.Dbr.u64_add (x := zb (zy w5 3 (zL (zb w5 4 0) c (0 : UInt64))) 5 0) (y := zH (zb w5 4 0) c (0 : UInt64)) rfl rfl))] 5 En921 fun _ En923 => ?_
  refine f_o ?_
  have hb924 : 4 < za (zy w5 3 (zL (zb w5 4 0) c (0 : UInt64))) := by rw [(List.length_set.trans hlw)]; omega
  refine m_t 0 4 (zn ((zb (zy w5 3 (zL (zb w5 4 0) c (0 : UInt64))) 5 0) + (zH (zb w5 4 0) c (0 : UInt64)))) [.box bk643 (zh (zy (zy w5 3 (zL (zb w5 4 0) c (0 : UInt64))) 4 ((zb (zy w5 3 (zL (zb w5 4 0) c (0 : UInt64))) 5 0) + (zH (zb w5 4 0) c (0 : UInt64))))) 124, .box bk6 (zh a) 34, .box bk11 (zh b) 34, .box bk16 (zh (ze 4 0)) 34, .box bk485 (zh (nd (mF 4))) 34] En923 Hv914 rfl (zY hb924) (Yn _ _ _) rfl fun _ _ En927 Hv928 => ?_
  refine f_e <| zA <| zg <| d_r [4,5,6,7,8,9,10,11,17,33,36,85] [(0, g_n (w_a i 1))] En927 fun _ En930 => ?_
  refine zg ?_
  have hnx := mont_next hAM hT hm (hmo.trans (by rw [hvP, dvk4 ha, nvm4]))
  refine ⟨_, ⟨i + 1, (zy (zy w5 3 (zL (zb w5 4 0) c (0 : UInt64))) 4 ((zb (zy w5 3 (zL (zb w5 4 0) c (0 : UInt64))) 5 0) + (zH (zb w5 4 0) c (0 : UInt64)))), rfl, En930.sb, Hv928.pk [0, 1, 2, 3, 4], by omega, (by rw [ZI, ZI]; exact hlw), hnx.1, hnx.2⟩, ?_⟩
  omega
 refine wp_exit <| zI <| zI <| z9 <| zg <| wp_seq ?_
 have hi4 : i = 4 := by omega
 rw [hi4, dvk4 hb] at hm
 refine zm <| d_k [4,5,6,7,8,9,33,136] [] 1 En658 fun _ En932 => ?_
 refine f_o ?_
 have hb933 : 0 < za t := by rw [hlt]; omega
 refine m_v 0 0 (zn (zb t 0 0)) En932 Hv655 rfl (zY hb933) fun _ En935 => ?_
 refine d_k [4,5,6,7,8,9,33,137,138] [] 3 En935 fun _ En937 => ?_
 refine f_o ?_
 have hb938 : 1 < za t := by rw [hlt]; omega
 refine m_v 0 1 (zn (zb t 1 0)) En937 Hv655 rfl (zY hb938) fun _ En940 => ?_
 refine d_k [4,5,6,7,8,9,33,137,139,140] [] 5 En940 fun _ En942 => ?_
 refine f_o ?_
 have hb943 : 2 < za t := by rw [hlt]; omega
 refine m_v 0 2 (zn (zb t 2 0)) En942 Hv655 rfl (zY hb943) fun _ En945 => ?_
 refine d_k [4,5,6,7,8,9,33,137,139,141,142] [] 7 En945 fun _ En947 => ?_
 refine f_o ?_
 have hb948 : 3 < za t := by rw [hlt]; omega
 refine m_v 0 3 (zn (zb t 3 0)) En947 Hv655 rfl (zY hb948) fun _ En950 => ?_
 refine d_k [4,5,6,7,8,9,33,144] [] 9 En950 fun _ En952 => ?_
 refine f_o <| m_z 34 (zh (ze 4 0)) En952 Hv655 fun _ _ bk953 En956 Hv957 => ?_
 refine f_o <| m_g 5 0 4 (zh ([zb t 0 0, zb t 1 0, zb t 2 0, zb t 3 0] : List UInt64)) _ [.box bk643 (zh t) 124, .box bk6 (zh a) 34, .box bk11 (zh b) 34, .box bk16 (zh (ze 4 0)) 34, .box bk485 (zh (nd (mF 4))) 34, .box bk953 (zh ([zb t 0 0, zb t 1 0, zb t 2 0, zb t 3 0] : List UInt64)) 34] En956 Hv957 rfl (zc (show za ([zb t 0 0, zb t 1 0, zb t 2 0, zb t 3 0] : List UInt64) = 4 from rfl)) (by rw [(zc (zf))]; first | decide | (simp; done)) (zv _) (zs (zc (zf))) rfl fun _ _ En960 Hv961 => ?_
 refine f_e <| zg <| wp_seq <| wp_seq <| zm <| f_o <| c_l [5,4] (M := [.box bk953 (zh ([zb t 0 0, zb t 1 0, zb t 2 0, zb t 3 0] : List UInt64)) 34, .box bk485 (zh (nd (mF 4))) 34]) En960 Hv961 (fun hM962 => less_go _ bk953 bk485 ([zb t 0 0, zb t 1 0, zb t 2 0, zb t 3 0] : List UInt64) (nd (mF 4)) (show za ([zb t 0 0, zb t 1 0, zb t 2 0, zb t 3 0] : List UInt64) = 4 from rfl) (zl _ _) hM962) ?_
 rintro _ _ ⟨rfl, he964⟩
 refine ⟨_, _, [.box bk953 (zh ([zb t 0 0, zb t 1 0, zb t 2 0, zb t 3 0] : List UInt64)) 34, .box bk485 (zh (nd (mF 4))) 34, .box bk643 (zh t) 124, .box bk6 (zh a) 34, .box bk11 (zh b) 34, .box bk16 (zh (ze 4 0)) 34], rfl, he964, by kernel_rfl, fun _ En967 Hv968 => ?_⟩
 refine d_k [4,5,6,7,8,9,24,33,146] [] 2 En967 fun _ En970 => ?_
 rcases Bool.eq_false_or_eq_true (decide (nv ([zb t 0 0, zb t 1 0, zb t 2 0, zb t 3 0] : List UInt64) < nv (nd (mF 4)))) with hb971 | hb971
 ·
  have En972 := En970.fx (t := 146) (congrArg Value.bool hb971)
  have hp973 : nv ([zb t 0 0, zb t 1 0, zb t 2 0, zb t 3 0] : List UInt64) < nv (nd (mF 4)) := of_decide_eq_true hb971
  refine d_k [4,5,6,7,8,9,24,33,146,147] [] 3 En972 fun _ En975 => ?_
  refine f_o ?_
  have hb976 : 4 < za t := by rw [hlt]; omega
  refine m_v 2 4 (zn (zb t 4 0)) En975 Hv968 rfl (zY hb976) fun _ En978 => ?_
  refine d_e [4,5,6,7,8,9,24,33,150] [] En978 fun _ En980 => ?_
  refine zg <| c_e ((zB (zb t 4 0) : Nat) : Int) (0 : Int) En980 (fun hc981 => ?_) (fun hc981 => ?_)
  ·
   refine wp_seq <| zm <| f_o <| m_a 0 0 4 (zh ([zb t 0 0, zb t 1 0, zb t 2 0, zb t 3 0] : List UInt64)) En980 Hv968 rfl (zq (zc (show za ([zb t 0 0, zb t 1 0, zb t 2 0, zb t 3 0] : List UInt64) = 4 from rfl))) (zc (show za ([zb t 0 0, zb t 1 0, zb t 2 0, zb t 3 0] : List UInt64) = 4 from rfl)) fun _ En983 => ?_
   refine f_o <| m_g 5 0 4 (zh ([zb t 0 0, zb t 1 0, zb t 2 0, zb t 3 0] : List UInt64)) _ [.box bk953 (zh ([zb t 0 0, zb t 1 0, zb t 2 0, zb t 3 0] : List UInt64)) 34, .box bk485 (zh (nd (mF 4))) 34, .box bk643 (zh t) 124, .box bk6 (zh a) 34, .box bk11 (zh b) 34, .box bk16 (zh ([zb t 0 0, zb t 1 0, zb t 2 0, zb t 3 0] : List UInt64)) 34] En983 Hv968 rfl (zc (show za ([zb t 0 0, zb t 1 0, zb t 2 0, zb t 3 0] : List UInt64) = 4 from rfl)) (by rw [(zc (zf))]; first | decide | (simp; done)) (zv _) (zs (zc (zf))) rfl fun _ _ En986 Hv987 => ?_
   refine f_e <| zg <| wp_ret <| Z0 <| Zj (v := .agg (zi (zh ([zb t 0 0, zb t 1 0, zb t 2 0, zb t 3 0] : List UInt64)))) (t := 6) (T := 34) (ad := ⟨bk16, 0, none⟩) En986 (by kernel_rfl) (by kernel_rfl) (zM (t := 34) (k := 5) (off := 0) (m := 4) (xs := zh ([zb t 0 0, zb t 1 0, zb t 2 0, zb t 3 0] : List UInt64)) Hv987 rfl (zq (zc (show za ([zb t 0 0, zb t 1 0, zb t 2 0, zb t 3 0] : List UInt64) = 4 from rfl))) (zc (show za ([zb t 0 0, zb t 1 0, zb t 2 0, zb t 3 0] : List UInt64) = 4 from rfl)) (by kernel_rfl) (by kernel_rfl)) ?_
   have e : ([zb t 0 0, zb t 1 0, zb t 2 0, zb t 3 0] : List UInt64) = nd (montN 4458503529701987551646482192314240623644693141688353256590997718326214331684 (mF 4) (nv a) (nv b)) := mont_yes ri4 hm (by rw [← JN 4]; assumption) (by assumption)
   exact ⟨congrArg (fun l : List UInt64 => Ending.returned (Value.agg (zh l).toArray)) e, Hv987.pk []⟩
  refine wp_skip <| zg <| wp_seq <| zm <| f_o <| m_a 0 0 4 (zh ([zb t 0 0, zb t 1 0, zb t 2 0, zb t 3 0] : List UInt64)) En980 Hv968 rfl (zq (zc (show za ([zb t 0 0, zb t 1 0, zb t 2 0, zb t 3 0] : List UInt64) = 4 from rfl))) (zc (show za ([zb t 0 0, zb t 1 0, zb t 2 0, zb t 3 0] : List UInt64) = 4 from rfl)) fun _ En989 => ?_
  refine f_o <| m_a 1 0 4 (zh (nd (mF 4))) En989 Hv968 rfl (zq (zc (zl _ _))) (zc (zl _ _)) fun _ En991 => ?_
  refine f_o <| c_p En991 Hv968 (Jm _ ([zb t 0 0, zb t 1 0, zb t 2 0, zb t 3 0] : List UInt64) (nd (mF 4)) (show za ([zb t 0 0, zb t 1 0, zb t 2 0, zb t 3 0] : List UInt64) = 4 from rfl) (zl _ _)) fun _ _ En997 Hv998 => ?_
  refine d_k [4,5,6,7,8,9,24,33,156] [] 6 En997 fun _ En1000 => ?_
  refine f_o <| m_g 0 0 4 (zh (nd (nv ([zb t 0 0, zb t 1 0, zb t 2 0, zb t 3 0] : List UInt64) + zZ - nv (nd (mF 4))))) _ [.box bk953 (zh (nd (nv ([zb t 0 0, zb t 1 0, zb t 2 0, zb t 3 0] : List UInt64) + zZ - nv (nd (mF 4))))) 34, .box bk485 (zh (nd (mF 4))) 34, .box bk643 (zh t) 124, .box bk6 (zh a) 34, .box bk11 (zh b) 34, .box bk16 (zh (ze 4 0)) 34] En1000 Hv998 rfl (zc (zl _ _)) (by rw [(zc (show za ([zb t 0 0, zb t 1 0, zb t 2 0, zb t 3 0] : List UInt64) = 4 from rfl))]; first | decide | (simp; done)) (zv _) (zs (zc (show za ([zb t 0 0, zb t 1 0, zb t 2 0, zb t 3 0] : List UInt64) = 4 from rfl))) rfl fun _ _ En1003 Hv1004 => ?_
  refine f_e <| zg <| wp_seq <| zm <| f_o <| m_a 0 0 4 (zh (nd (nv ([zb t 0 0, zb t 1 0, zb t 2 0, zb t 3 0] : List UInt64) + zZ - nv (nd (mF 4))))) En1003 Hv1004 rfl (zq (zc (zl _ _))) (zc (zl _ _)) fun _ En1006 => ?_
  refine f_o <| m_g 5 0 4 (zh (nd (nv ([zb t 0 0, zb t 1 0, zb t 2 0, zb t 3 0] : List UInt64) + zZ - nv (nd (mF 4))))) _ [.box bk953 (zh (nd (nv ([zb t 0 0, zb t 1 0, zb t 2 0, zb t 3 0] : List UInt64) + zZ - nv (nd (mF 4))))) 34, .box bk485 (zh (nd (mF 4))) 34, .box bk643 (zh t) 124, .box bk6 (zh a) 34, .box bk11 (zh b) 34, .box bk16 (zh (nd (nv ([zb t 0 0, zb t 1 0, zb t 2 0, zb t 3 0] : List UInt64) + zZ - nv (nd (mF 4))))) 34] En1006 Hv1004 rfl (zc (zl _ _)) (by rw [(zc (zf))]; first | decide | (simp; done)) (zv _) (zs (zc (zf))) rfl fun _ _ En1009 Hv1010 => ?_
  refine f_e <| zg <| wp_ret <| Zj (v := .agg (zi (zh (nd (nv ([zb t 0 0, zb t 1 0, zb t 2 0, zb t 3 0] : List UInt64) + zZ - nv (nd (mF 4))))))) (t := 6) (T := 34) (ad := ⟨bk16, 0, none⟩) En1009 (by kernel_rfl) (by kernel_rfl) (zM (t := 34) (k := 5) (off := 0) (m := 4) (xs := zh (nd (nv ([zb t 0 0, zb t 1 0, zb t 2 0, zb t 3 0] : List UInt64) + zZ - nv (nd (mF 4))))) Hv1010 rfl (zq (zc (zl _ _))) (zc (zl _ _)) (by kernel_rfl) (by kernel_rfl)) ?_
  have e : nd (nv ([zb t 0 0, zb t 1 0, zb t 2 0, zb t 3 0] : List UInt64) + zZ - nv (nd (mF 4))) = nd (montN 4458503529701987551646482192314240623644693141688353256590997718326214331684 (mF 4) (nv a) (nv b)) := by rw [JN]; exact mont_no (mF_lt _) ri4 hT hm (by rw [← JN 4]; first | (left; assumption) | (right; assumption))
  exact ⟨congrArg (fun l : List UInt64 => Ending.returned (Value.agg (zh l).toArray)) e, Hv1010.pk []⟩
 have En1011 := En970.fx (t := 146) (congrArg Value.bool hb971)
 have hp1012 : ¬ (nv ([zb t 0 0, zb t 1 0, zb t 2 0, zb t 3 0] : List UInt64) < nv (nd (mF 4))) := of_decide_eq_false hb971
 refine d_e [4,5,6,7,8,9,24,33,150] [] En1011 fun _ En1014 => ?_
 refine zg <| c_f En1014 ?_
 refine wp_skip <| zg <| wp_seq <| zm <| f_o <| m_a 0 0 4 (zh ([zb t 0 0, zb t 1 0, zb t 2 0, zb t 3 0] : List UInt64)) En1014 Hv968 rfl (zq (zc (show za ([zb t 0 0, zb t 1 0, zb t 2 0, zb t 3 0] : List UInt64) = 4 from rfl))) (zc (show za ([zb t 0 0, zb t 1 0, zb t 2 0, zb t 3 0] : List UInt64) = 4 from rfl)) fun _ En1016 => ?_
 refine f_o <| m_a 1 0 4 (zh (nd (mF 4))) En1016 Hv968 rfl (zq (zc (zl _ _))) (zc (zl _ _)) fun _ En1018 => ?_
 refine f_o <| c_p En1018 Hv968 (Jm _ ([zb t 0 0, zb t 1 0, zb t 2 0, zb t 3 0] : List UInt64) (nd (mF 4)) (show za ([zb t 0 0, zb t 1 0, zb t 2 0, zb t 3 0] : List UInt64) = 4 from rfl) (zl _ _)) fun _ _ En1024 Hv1025 => ?_
 refine d_k [4,5,6,7,8,9,24,33,156] [] 6 En1024 fun _ En1027 => ?_
 refine f_o <| m_g 0 0 4 (zh (nd (nv ([zb t 0 0, zb t 1 0, zb t 2 0, zb t 3 0] : List UInt64) + zZ - nv (nd (mF 4))))) _ [.box bk953 (zh (nd (nv ([zb t 0 0, zb t 1 0, zb t 2 0, zb t 3 0] : List UInt64) + zZ - nv (nd (mF 4))))) 34, .box bk485 (zh (nd (mF 4))) 34, .box bk643 (zh t) 124, .box bk6 (zh a) 34, .box bk11 (zh b) 34, .box bk16 (zh (ze 4 0)) 34] En1027 Hv1025 rfl (zc (zl _ _)) (by rw [(zc (show za ([zb t 0 0, zb t 1 0, zb t 2 0, zb t 3 0] : List UInt64) = 4 from rfl))]; first | decide | (simp; done)) (zv _) (zs (zc (show za ([zb t 0 0, zb t 1 0, zb t 2 0, zb t 3 0] : List UInt64) = 4 from rfl))) rfl fun _ _ En1030 Hv1031 => ?_
 refine f_e <| zg <| wp_seq <| zm <| f_o <| m_a 0 0 4 (zh (nd (nv ([zb t 0 0, zb t 1 0, zb t 2 0, zb t 3 0] : List UInt64) + zZ - nv (nd (mF 4))))) En1030 Hv1031 rfl (zq (zc (zl _ _))) (zc (zl _ _)) fun _ En1033 => ?_
 refine f_o <| m_g 5 0 4 (zh (nd (nv ([zb t 0 0, zb t 1 0, zb t 2 0, zb t 3 0] : List UInt64) + zZ - nv (nd (mF 4))))) _ [.box bk953 (zh (nd (nv ([zb t 0 0, zb t 1 0, zb t 2 0, zb t 3 0] : List UInt64) + zZ - nv (nd (mF 4))))) 34, .box bk485 (zh (nd (mF 4))) 34, .box bk643 (zh t) 124, .box bk6 (zh a) 34, .box bk11 (zh b) 34, .box bk16 (zh (nd (nv ([zb t 0 0, zb t 1 0, zb t 2 0, zb t 3 0] : List UInt64) + zZ - nv (nd (mF 4))))) 34] En1033 Hv1031 rfl (zc (zl _ _)) (by rw [(zc (zf))]; first | decide | (simp; done)) (zv _) (zs (zc (zf))) rfl fun _ _ En1036 Hv1037 => ?_
 refine f_e <| zg <| wp_ret <| Zj (v := .agg (zi (zh (nd (nv ([zb t 0 0, zb t 1 0, zb t 2 0, zb t 3 0] : List UInt64) + zZ - nv (nd (mF 4))))))) (t := 6) (T := 34) (ad := ⟨bk16, 0, none⟩) En1036 (by kernel_rfl) (by kernel_rfl) (zM (t := 34) (k := 5) (off := 0) (m := 4) (xs := zh (nd (nv ([zb t 0 0, zb t 1 0, zb t 2 0, zb t 3 0] : List UInt64) + zZ - nv (nd (mF 4))))) Hv1037 rfl (zq (zc (zl _ _))) (zc (zl _ _)) (by kernel_rfl) (by kernel_rfl)) ?_
 have e : nd (nv ([zb t 0 0, zb t 1 0, zb t 2 0, zb t 3 0] : List UInt64) + zZ - nv (nd (mF 4))) = nd (montN 4458503529701987551646482192314240623644693141688353256590997718326214331684 (mF 4) (nv a) (nv b)) := by rw [JN]; exact mont_no (mF_lt _) ri4 hT hm (by rw [← JN 4]; first | (left; assumption) | (right; assumption))
 exact ⟨congrArg (fun l : List UInt64 => Ending.returned (Value.agg (zh l).toArray)) e, Hv1037.pk []⟩

theorem mn4_lt (x y : Nat) : montN 4458503529701987551646482192314240623644693141688353256590997718326214331684 (mF 4) x y < mF 4 := ZB _ (by decide)
theorem mn4 (x y : Nat) : nv (nd (montN 4458503529701987551646482192314240623644693141688353256590997718326214331684 (mF 4) x y)) = montN 4458503529701987551646482192314240623644693141688353256590997718326214331684 (mF 4) x y := Qd (Nat.lt_trans (mn4_lt x y) (mF_lt _))
theorem rmul4 (x y : Nat) : nd (montN 4458503529701987551646482192314240623644693141688353256590997718326214331684 (mF 4) (nv (nd (montN 4458503529701987551646482192314240623644693141688353256590997718326214331684 (mF 4) x (nv (nd 1627715501170711445284395025044413883736156588369414752970002579683115011841))))) y) = nd (x * y % mF 4) := by
  rw [mn4, Qd (n := 1627715501170711445284395025044413883736156588369414752970002579683115011841) (by decide), two4]

theorem ring4_go (w : World) (a b : List UInt64) (ha : za a = 4) (hb : za b = 4) (hAM : nv a < mF 4) : Calls Tryd.prog 55 #[.agg #[], .agg (zi (zh a)), .agg (zi (zh b))] w fun e w' => e = .returned (.agg (zi (zh (nd (nv a * nv b % mF 4))))) ∧ Ev w [] w' [] := by
 refine d_0 [(0, .agg #[]), (1, .agg (zi (zh a))), (2, .agg (zi (zh b)))] 17 Go.Proofs.Tryd.func55 Go.Proofs.Tryd.ntmps55 (Heap.nil _) fun act0 En0 Hv0 => ?_
 refine wp_seq <| zm <| f_o <| m_m 83 [] En0 Hv0 fun _ _ bk1 En4 Hv5 => ?_
 refine f_o <| m_m 34 (zh a) En4 Hv5 fun _ _ bk6 En9 Hv10 => ?_
 refine f_o <| m_m 34 (zh b) En9 Hv10 fun _ _ bk11 En14 Hv15 => ?_
 refine f_o <| m_z 34 (zh (ze 4 0)) En14 Hv15 fun _ _ bk16 En19 Hv20 => ?_
 refine f_e <| zg <| wp_seq <| r_c (fun ac wo => Env ac 17 [(6, pt bk16)] ∧ Ev w [] wo [.box bk16 (zh (nd (montN 4458503529701987551646482192314240623644693141688353256590997718326214331684 (mF 4) (nv (nd (montN 4458503529701987551646482192314240623644693141688353256590997718326214331684 (mF 4) (nv a) (nv (nd 1627715501170711445284395025044413883736156588369414752970002579683115011841))))) (nv b)))) 34]) ?_ ?_
 ·
  refine h_s (fun wv => Ev w [] wv [.box bk1 [] 83, .box bk6 (zh a) 34, .box bk11 (zh b) 34]) [] 11 ?_
  have wo21 := Hv20.trans (z4 Hv20.heap)
  refine q_r 0 (s := Instr.loadAt 83 (pt bk1)) (v := .agg #[]) En19 (fun w hS => zR (m := 0) (cs := []) rfl (by kernel_rfl) (by kernel_rfl) (hS.heap.cells (k := 0) (off := 0) (m := 0) rfl rfl)) (wo21.pk [0, 1, 2]) fun _ En857 => ?_
  refine q_r 1 (s := Instr.loadAt 83 (pt bk1)) (v := .agg #[]) En857 (fun w hS => zR (m := 0) (cs := []) rfl (by kernel_rfl) (by kernel_rfl) (hS.heap.cells (k := 0) (off := 0) (m := 0) rfl rfl)) (wo21.pk [0, 1, 2]) fun _ En859 => ?_
  refine q_r 2 (s := Instr.loadAt 34 (pt bk6)) (v := .agg (zi (zh a))) En859 (fun w hS => zR (m := 4) (cs := zh a) (zc ha) (by kernel_rfl) (by kernel_rfl) (hS.heap.cells (k := 1) (off := 0) (m := 4) rfl (zq (zc ha)))) (wo21.pk [0, 1, 2]) fun _ En861 => ?_
  refine q_r 3 (s := Instr.fieldAt 83 (pt bk1) 0) (v := pt bk1) En861 (fun w hS => run_field0 (hS.heap.shape0 (k := 0) rfl) (by kernel_rfl)) (wo21.pk [0, 1, 2]) fun _ En863 => ?_
  refine q_r 4 (s := Instr.loadAt 81 (pt bk1)) (v := .agg #[]) En863 (fun w hS => zR (m := 0) (cs := []) rfl (by kernel_rfl) (by kernel_rfl) (hS.heap.cells (k := 0) (off := 0) (m := 0) rfl rfl)) (wo21.pk [0, 1, 2]) fun _ En865 => ?_
  refine q_s [5] [] 5 En865 (wo21.pk [0, 1, 2]) fun _ En867 => ?_
  refine q_r 8 (s := Instr.loadAt 34 (pt bk11)) (v := .agg (zi (zh b))) En867 (fun w hS => zR (m := 4) (cs := zh b) (zc hb) (by kernel_rfl) (by kernel_rfl) (hS.heap.cells (k := 2) (off := 0) (m := 4) rfl (zq (zc hb)))) (wo21.pk [0, 1, 2]) fun _ En869 => ?_
  refine q_t 6 ?_
  refine c_p En869 wo21 (square4_go _) fun _ _ En875 Hv876 => ?_
  refine ⟨fun _ => Hv876.pk [0, 1, 2], ?_⟩
  refine q_t 7 ?_
  refine c_p En875 Hv876 (mont4_go _ a (nd 1627715501170711445284395025044413883736156588369414752970002579683115011841) ha (zl _ _) hAM) fun _ _ En882 Hv883 => ?_
  refine ⟨fun _ => Hv883.pk [0, 1, 2], ?_⟩
  refine q_t 9 ?_
  refine c_p En882 Hv883 (mont4_go _ (nd (montN 4458503529701987551646482192314240623644693141688353256590997718326214331684 (mF 4) (nv a) (nv (nd 1627715501170711445284395025044413883736156588369414752970002579683115011841)))) b (zl _ _) hb (by rw [mn4]; exact mn4_lt _ _)) fun _ _ En889 Hv890 => ?_
  refine ⟨fun _ => Hv890.pk [0, 1, 2], ?_⟩
  refine q_t 10 ?_
  refine m_g 3 0 4 (zh (nd (montN 4458503529701987551646482192314240623644693141688353256590997718326214331684 (mF 4) (nv (nd (montN 4458503529701987551646482192314240623644693141688353256590997718326214331684 (mF 4) (nv a) (nv (nd 1627715501170711445284395025044413883736156588369414752970002579683115011841))))) (nv b)))) _ [.box bk1 [] 83, .box bk6 (zh a) 34, .box bk11 (zh b) 34, .box bk16 (zh (nd (montN 4458503529701987551646482192314240623644693141688353256590997718326214331684 (mF 4) (nv (nd (montN 4458503529701987551646482192314240623644693141688353256590997718326214331684 (mF 4) (nv a) (nv (nd 1627715501170711445284395025044413883736156588369414752970002579683115011841))))) (nv b)))) 34] En889 Hv890 rfl (zc (zl _ _)) (by rw [(zc (zf))]; first | decide | (simp; done)) (zv _) (zs (zc (zf))) rfl fun _ _ En893 Hv894 => ?_
  refine ⟨fun _ => Hv894.pk [0, 1, 2], ?_⟩
  exact h_e ⟨En893.sb, Hv894.pk [3]⟩
 rintro _ _ ⟨En897, Hv898⟩
 refine zg <| wp_ret <| Zj (v := .agg (zi (zh (nd (montN 4458503529701987551646482192314240623644693141688353256590997718326214331684 (mF 4) (nv (nd (montN 4458503529701987551646482192314240623644693141688353256590997718326214331684 (mF 4) (nv a) (nv (nd 1627715501170711445284395025044413883736156588369414752970002579683115011841))))) (nv b)))))) (t := 6) (T := 34) (ad := ⟨bk16, 0, none⟩) En897 (by kernel_rfl) (by kernel_rfl) (zM (t := 34) (k := 0) (off := 0) (m := 4) (xs := zh (nd (montN 4458503529701987551646482192314240623644693141688353256590997718326214331684 (mF 4) (nv (nd (montN 4458503529701987551646482192314240623644693141688353256590997718326214331684 (mF 4) (nv a) (nv (nd 1627715501170711445284395025044413883736156588369414752970002579683115011841))))) (nv b)))) Hv898 rfl (zq (zc (zl _ _))) (zc (zl _ _)) (by kernel_rfl) (by kernel_rfl)) ?_
 have e : nd (montN 4458503529701987551646482192314240623644693141688353256590997718326214331684 (mF 4) (nv (nd (montN 4458503529701987551646482192314240623644693141688353256590997718326214331684 (mF 4) (nv a) (nv (nd 1627715501170711445284395025044413883736156588369414752970002579683115011841))))) (nv b)) = nd (nv a * nv b % mF 4) := rmul4 _ _
 exact ⟨congrArg (fun l : List UInt64 => Ending.returned (Value.agg (zh l).toArray)) e, Hv898.pk []⟩

theorem mulr4 (x y : Nat) : nd (nv (nd (x % mF 4)) * nv (nd (y % mF 4)) % mF 4) = nd (zt 4 x y) := by
  rw [Qd (ZU (by decide)), Qd (ZU (by decide)), ← ZY]
  rfl

theorem mul4_go (w : World) (a b : List UInt64) (ha : za a = 4) (hb : za b = 4) : Calls Tryd.prog 30 #[.int .i64 4, .agg (zi (zh a)), .agg (zi (zh b))] w fun e w' => e = .returned (.agg (zi (zh (nd (zt 4 (nv a) (nv b)))))) ∧ Ev w [] w' [] := by
 refine d_0 [(0, .int .i64 4), (1, .agg (zi (zh a))), (2, .agg (zi (zh b)))] 45 Go.Proofs.Tryd.func30 Go.Proofs.Tryd.ntmps30 (Heap.nil _) fun act0 En0 Hv0 => ?_
 refine wp_seq <| zm <| f_o <| m_m 34 (zh a) En0 Hv0 fun _ _ bk1 En4 Hv5 => ?_
 refine f_o <| m_m 34 (zh b) En4 Hv5 fun _ _ bk6 En9 Hv10 => ?_
 refine f_o <| m_z 34 (zh (ze 4 0)) En9 Hv10 fun _ _ bk11 En14 Hv15 => ?_
 refine f_e <| zg <| wp_seq <| d_s [0,4,5,6,9] [] En14 fun _ En17 => ?_
 refine wp_block <| d_s [0,4,5,6,9,10] [] En17 fun _ En19 => ?_
 refine c_f En19 ?_
 refine d_s [0,4,5,6,9,15] [] En19 fun _ En21 => ?_
 refine c_f En21 ?_
 refine d_s [0,4,5,6,9,20] [] En21 fun _ En23 => ?_
 refine c_f En23 ?_
 refine d_s [0,4,5,6,9,32] [] En23 fun _ En25 => ?_
 refine c_t En25 ?_
 refine wp_seq <| zm <| d_k [0,4,5,6,9,34] [] 1 En25 fun _ En27 => ?_
 refine f_o <| c_p En27 Hv15 (modulus_go _ 4) fun _ _ En33 Hv34 => ?_
 refine f_o <| m_z 34 (zh (ze 4 0)) En33 Hv34 fun _ _ bk35 En38 Hv39 => ?_
 refine f_o <| m_g 3 0 4 (zh (nd (mF 4))) _ [.box bk1 (zh a) 34, .box bk6 (zh b) 34, .box bk11 (zh (ze 4 0)) 34, .box bk35 (zh (nd (mF 4))) 34] En38 Hv39 rfl (zc (zl _ _)) (by rw [(zc (zf))]; first | decide | (simp; done)) (zv _) (zs (zc (zf))) rfl fun _ _ En42 Hv43 => ?_
 refine f_e <| zg <| wp_seq <| r_c (fun ac wo => Env ac 45 [(0, .int .i64 4), (4, pt bk1), (5, pt bk6), (6, pt bk11), (8, pt bk35), (9, .int .i64 4)] ∧ Ev w [] wo [.box bk1 (zh a) 34, .box bk6 (zh b) 34, .box bk11 (zh (nd (nv (nd (nv a % mF 4)) * nv (nd (nv b % mF 4)) % mF 4))) 34, .box bk35 (zh (nd (mF 4))) 34]) ?_ ?_
 ·
  refine h_s (fun wv => Ev w [] wv [.box bk1 (zh a) 34, .box bk6 (zh b) 34, .box bk35 (zh (nd (mF 4))) 34]) [] 9 ?_
  have wo44 := Hv43.trans (z4 Hv43.heap)
  refine q_s [0] [] 8 En42 (wo44.pk [0, 1, 3]) fun _ En287 => ?_
  refine q_r 1 (s := Instr.loadAt 34 (pt bk1)) (v := .agg (zi (zh a))) En287 (fun w hS => zR (m := 4) (cs := zh a) (zc ha) (by kernel_rfl) (by kernel_rfl) (hS.heap.cells (k := 0) (off := 0) (m := 4) rfl (zq (zc ha)))) (wo44.pk [0, 1, 3]) fun _ En289 => ?_
  refine q_r 2 (s := Instr.loadAt 34 (pt bk35)) (v := .agg (zi (zh (nd (mF 4))))) En289 (fun w hS => zR (m := 4) (cs := zh (nd (mF 4))) (zc (zl _ _)) (by kernel_rfl) (by kernel_rfl) (hS.heap.cells (k := 2) (off := 0) (m := 4) rfl (zq (zc (zl _ _))))) (wo44.pk [0, 1, 3]) fun _ En291 => ?_
  refine q_r 4 (s := Instr.loadAt 34 (pt bk6)) (v := .agg (zi (zh b))) En291 (fun w hS => zR (m := 4) (cs := zh b) (zc hb) (by kernel_rfl) (by kernel_rfl) (hS.heap.cells (k := 1) (off := 0) (m := 4) rfl (zq (zc hb)))) (wo44.pk [0, 1, 3]) fun _ En293 => ?_
  refine q_r 5 (s := Instr.loadAt 34 (pt bk35)) (v := .agg (zi (zh (nd (mF 4))))) En293 (fun w hS => zR (m := 4) (cs := zh (nd (mF 4))) (zc (zl _ _)) (by kernel_rfl) (by kernel_rfl) (hS.heap.cells (k := 2) (off := 0) (m := 4) rfl (zq (zc (zl _ _))))) (wo44.pk [0, 1, 3]) fun _ En295 => ?_
  refine q_t 3 ?_
  refine c_p En295 wo44 (right_mF _ 4 (by decide) a ha) fun _ _ En301 Hv302 => ?_
  refine ⟨fun _ => Hv302.pk [0, 1, 3], ?_⟩
  refine q_t 6 ?_
  refine c_p En301 Hv302 (right_mF _ 4 (by decide) b hb) fun _ _ En308 Hv309 => ?_
  refine ⟨fun _ => Hv309.pk [0, 1, 3], ?_⟩
  refine q_t 7 ?_
  refine c_p En308 Hv309 (ring4_go _ (nd (nv a % mF 4)) (nd (nv b % mF 4)) (zl _ _) (zl _ _) (by rw [Qd (ZU (by decide))]; exact ZB _ (by decide))) fun _ _ En315 Hv316 => ?_
  refine ⟨fun _ => Hv316.pk [0, 1, 3], ?_⟩
  refine q_t 8 ?_
  refine m_g 2 0 4 (zh (nd (nv (nd (nv a % mF 4)) * nv (nd (nv b % mF 4)) % mF 4))) _ [.box bk1 (zh a) 34, .box bk6 (zh b) 34, .box bk11 (zh (nd (nv (nd (nv a % mF 4)) * nv (nd (nv b % mF 4)) % mF 4))) 34, .box bk35 (zh (nd (mF 4))) 34] En315 Hv316 rfl (zc (zl _ _)) (by rw [(zc (zf))]; first | decide | (simp; done)) (zv _) (zs (zc (zf))) rfl fun _ _ En319 Hv320 => ?_
  refine ⟨fun _ => Hv320.pk [0, 1, 3], ?_⟩
  exact h_e ⟨En319.sb, Hv320.pk [0, 1, 2, 3]⟩
 rintro _ _ ⟨En323, Hv324⟩
 refine zg <| wp_ret <| block_ret <| Z0 <| Zj (v := .agg (zi (zh (nd (nv (nd (nv a % mF 4)) * nv (nd (nv b % mF 4)) % mF 4))))) (t := 6) (T := 34) (ad := ⟨bk11, 0, none⟩) En323 (by kernel_rfl) (by kernel_rfl) (zM (t := 34) (k := 2) (off := 0) (m := 4) (xs := zh (nd (nv (nd (nv a % mF 4)) * nv (nd (nv b % mF 4)) % mF 4))) Hv324 rfl (zq (zc (zl _ _))) (zc (zl _ _)) (by kernel_rfl) (by kernel_rfl)) ?_
 have e : nd (nv (nd (nv a % mF 4)) * nv (nd (nv b % mF 4)) % mF 4) = nd (zt 4 (nv a) (nv b)) := mulr4 _ _
 exact ⟨congrArg (fun l : List UInt64 => Ending.returned (Value.agg (zh l).toArray)) e, Hv324.pk []⟩

theorem hM4 : MulOk 4 := mul4_go
end Go.Proofs.YtlnogkmnklfjlaaDoor

/- Long drawn regions: that the operations don't disturb each other is checked once. -/

namespace Go.Dbr
open Go Go.RowKit
set_option linter.unusedSimpArgs false

def nodupO : List Oper → Nat → Bool
  | [], _ => true
  | o :: r, m => match o.dst with
    | some d => !YF m d && nodupO r (m ||| 2 ^ d)
    | none => nodupO r m
theorem nodupO_spec : ∀ (l : List Oper) (m : Nat), nodupO l m = true → (∀ (i : Nat) (o : Oper) (d : Nat), l[i]? = some o → o.dst = some d → YF m d = false) ∧ (∀ (i j : Nat) (o q : Oper) (d : Nat), l[i]? = some o → l[j]? = some q → o.dst = some d → q.dst = some d → i = j)
  | [], m, _ => ⟨fun i o d h => by simp at h, fun i j o q d h => by simp at h⟩
  | x :: r, m, h => by
    unfold nodupO at h
    cases hd : x.dst with
    | none =>
      rw [hd] at h
      obtain ⟨h1, h2⟩ := nodupO_spec r m h
      constructor
      · intro i o d hi ho
        cases i with
        | zero => simp at hi; subst hi; rw [hd] at ho; cases ho
        | succ i => exact h1 i o d (by simpa using hi) ho
      · intro i j o q d hi hj ho hq
        cases i with
        | zero => simp at hi; subst hi; rw [hd] at ho; cases ho
        | succ i =>
          cases j with
          | zero => simp at hj; subst hj; rw [hd] at hq; cases hq
          | succ j => rw [h2 i j o q d (by simpa using hi) (by simpa using hj) ho hq]
    | some c =>
      rw [hd] at h
      simp only [zX, Bool.not_eq_true'] at h
      obtain ⟨h1, h2⟩ := nodupO_spec r _ h.2
      have key : ∀ (i : Nat) (o : Oper) (d : Nat), r[i]? = some o → o.dst = some d → YF m d = false ∧ c ≠ d := fun i o d hi ho => by
        have := h1 i o d hi ho
        rw [Nat.testBit_or, Bool.or_eq_false_iff] at this
        refine ⟨this.1, fun e => ?_⟩
        subst e
        rw [Nat.testBit_two_pow_self] at this
        cases this.2
      constructor
      · intro i o d hi ho
        cases i with
        | zero => simp at hi; subst hi; rw [hd] at ho; cases ho; exact h.1
        | succ i => exact (key i o d (by simpa using hi) ho).1
      · intro i j o q d hi hj ho hq
        cases i with
        | zero =>
          cases j with
          | zero => rfl
          | succ j => simp at hi; subst hi; rw [hd] at ho; cases ho; exact absurd rfl (key j q _ (by simpa using hj) hq).2
        | succ i =>
          cases j with
          | zero => simp at hj; subst hj; rw [hd] at hq; cases hq; exact absurd rfl (key i o _ (by simpa using hi) ho).2
          | succ j => rw [h2 i j o q d (by simpa using hi) (by simpa using hj) ho hq]
section
variable {P : Program} {ops : Array Oper} {Q : Exit → Act → World → Prop} {S : World → Prop} {n i : Nat} {l : List (Nat × Value)} {a : Act} {w : World}
end
end Go.Dbr

/- Layer 4: products modulo the prime of P-256. -/


namespace Go.Proofs.YtlnogkmnklfjlaaDoor
open Go.Dbr
set_option maxRecDepth 100000
set_option maxHeartbeats 2000000
set_option linter.unusedVariables false
set_option linter.unusedSimpArgs false

theorem mul1_go (w : World) (a b : List UInt64) (ha : za a = 4) (hb : za b = 4) : Calls Tryd.prog 30 #[.int .i64 1, .agg (zi (zh a)), .agg (zi (zh b))] w fun e w' => e = .returned (.agg (zi (zh (nd (zt 1 (nv a) (nv b)))))) ∧ Ev w [] w' [] := by
 refine d_0 [(0, .int .i64 1), (1, .agg (zi (zh a))), (2, .agg (zi (zh b)))] 45 Go.Proofs.Tryd.func30 Go.Proofs.Tryd.ntmps30 (Heap.nil _) fun act0 En0 Hv0 => ?_
 refine wp_seq <| zm <| f_o <| m_m 34 (zh a) En0 Hv0 fun _ _ bk1 En4 Hv5 => ?_
 refine f_o <| m_m 34 (zh b) En4 Hv5 fun _ _ bk6 En9 Hv10 => ?_
 refine f_o <| m_z 34 (zh (ze 4 0)) En9 Hv10 fun _ _ bk11 En14 Hv15 => ?_
 refine f_e <| zg <| wp_seq <| d_s [0,4,5,6,9] [] En14 fun _ En17 => ?_
 refine wp_block <| d_s [0,4,5,6,9,10] [] En17 fun _ En19 => ?_
 refine c_t En19 ?_
 refine wp_seq <| zm <| f_o <| m_a 0 0 4 (zh a) En19 Hv15 rfl (zq (zc ha)) (zc ha) fun _ En21 => ?_
 refine f_o <| m_a 1 0 4 (zh b) En21 Hv15 rfl (zq (zc hb)) (zc hb) fun _ En23 => ?_
 refine f_o <| c_p En23 Hv15 (mul25_go _ a b ha hb) fun _ _ En29 Hv30 => ?_
 refine f_o <| m_g 2 0 4 (zh (nd ((nv a * nv b) % mF 1))) _ [.box bk1 (zh a) 34, .box bk6 (zh b) 34, .box bk11 (zh (nd ((nv a * nv b) % mF 1))) 34] En29 Hv30 rfl (zc (zl _ _)) (by rw [(zc (zf))]; first | decide | (simp; done)) (zv _) (zs (zc (zf))) rfl fun _ _ En33 Hv34 => ?_
 refine f_e <| zg <| wp_ret <| block_ret <| Z0 <| Zj (v := .agg (zi (zh (nd ((nv a * nv b) % mF 1))))) (t := 6) (T := 34) (ad := ⟨bk11, 0, none⟩) En33 (by kernel_rfl) (by kernel_rfl) (zM (t := 34) (k := 2) (off := 0) (m := 4) (xs := zh (nd ((nv a * nv b) % mF 1))) Hv34 rfl (zq (zc (zl _ _))) (zc (zl _ _)) (by kernel_rfl) (by kernel_rfl)) ?_
 exact ⟨rfl, Hv34.pk []⟩

theorem hM1 : MulOk 1 := mul1_go
end Go.Proofs.YtlnogkmnklfjlaaDoor

/- Layer 4, the document: what digits leave modulo the order of Ed25519. -/

namespace Go.Proofs.YtlnogkmnklfjlaaDoor
open Go.Dbr
set_option maxRecDepth 100000
set_option maxHeartbeats 2000000
set_option linter.unusedVariables false
set_option linter.unusedSimpArgs false

theorem shr_n (x : UInt64) {n : Nat} (h : n < 64) : (x >>> zd n).toNat = x.toNat / 2 ^ n := by
  rw [Qi, ZS, ofNat_val, zK (a := n) (by omega), zK h]
end Go.Proofs.YtlnogkmnklfjlaaDoor

/- Layer 4, the document: what digits leave modulo the order of Ed25519. -/

namespace Go.Proofs.YtlnogkmnklfjlaaDoor
open Go.Dbr
set_option maxRecDepth 100000
set_option maxHeartbeats 2000000
set_option linter.unusedVariables false
set_option linter.unusedSimpArgs false

end Go.Proofs.YtlnogkmnklfjlaaDoor
