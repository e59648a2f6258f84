import Derived.Test.YtpfhmbbiadpbeaaGreatVp4
import Derived.Test.YtpfhmbbiadpbeaaGreatVp2
open Go.Dbr renaming u64s_lenh → za, then_normal → ze, u64s → zg, region_from → zj, uv64 → zm, load_whole → zn, u64s_one → zq, run_indexarr → zs, block_normal → zw, then_exit → zF, u64s_getD → zO, addHi → zS, d_cell1 → zU, m_gw → zW, block_exit → zX, addLo → z0, run_loadAgg2 → Za, u64_add → Zj, m_aw → Zn, u64_and → Zy, i64_quo_nat → ZN, i64_rem_nat → ZQ, loop_m → ZT, ext_add64 → Z5, u64s_set → Z7, h_from → Qd, run_shr_u64 → QU, mulHi → YJ, Closed → Xi, op_ext → XS
open List renaming getD → zb, toArray → zc, replicate → zd, length → zf, length_replicate → zh, set → zt, take → zD, length_append → zE, drop → zG, all_eq_true → z7, length_take → Zg, contains_iff_mem → Zl, append_assoc → Qo, length_set → Qv, mem_range → QH, length_drop → Yq, map_take → Xh, map_drop → Ky
open UInt64 renaming ofNat → zi, toNat → zk, toNat_and → Y5
open Go.Proofs.YtpfhmbbiadpbeaaGreat renaming nds_len → zl, mulM → zo, W256 → zR, nv_nd → Z6, mod_lt_w → Qh, getD_set_ne → QO, nv_mF → Jz, minus_go → JK
open Go.Proofs.Tryz renaming prog → zB
open Go.Dbr.Ev renaming cellAgg → zC, drew → zN
open Nat renaming mul_one → zI, mod_eq_of_lt → zQ, mul_comm → Zf, pow_succ → Zh, mul_assoc → Zq, add_mul → ZE, div_div_eq_div_mul → ZJ, pow_add → ZO, add_zero → ZP, pow_zero → ZV, mod_lt → Z4, lt_or_ge → Qa, le_refl → Qg, zero_mul → Qm, beq → Qn, mul_add → Qp, mul_mod → Qq, mul_zero → Qw, pow_mul → Qz, zero_add → Yi, testBit → Yl, mod_mod → Yy, testBit_or → YW, testBit_two_pow_self → Jd, beq_eq → Jk, add_mod → JL, div_one → JM, mod_mul_mod → XI, mul_right_comm → X9, zero_sub → KB
open Bool renaming and_eq_true → zJ, not_eq_true' → QD, or_eq_true → Yg, not_true → YM, false_or → Jb, not_eq_true → Kj
open Array renaming getElem?_toList → Zu, getElem?_eq_some_iff → Zx, any_eq_true' → YA, getElem?_eq_getElem → Y7
open Go.Dbr.Env renaming fx → Q5
set_option maxRecDepth 100000
set_option maxHeartbeats 2000000
set_option linter.unusedVariables false
set_option linter.unusedSimpArgs false
namespace Go.Proofs.YtpfhmbbiadpbeaaGreat
open Go.Dbr
def powM (f : Int) (x n : Nat) : Nat := x ^ n % mF f
theorem powM_lt {f : Int} (hf : f = 1 ∨ f = 2 ∨ f = 3 ∨ f = 4) (x n : Nat) : powM f x n < zR := Qh hf
theorem powM_zero {f : Int} (hf : f = 1 ∨ f = 2 ∨ f = 3 ∨ f = 4) (x : Nat) : powM f x 0 = 1 := by rw [powM, ZV, zQ (mF_pos hf)]
theorem powM_add (f : Int) (x m n : Nat) : zo f (powM f x m) (powM f x n) = powM f x (m + n) := by rw [zo, powM, powM, ← Qq, ← ZO, powM]
theorem powM_succ (f : Int) (x n : Nat) : zo f (powM f x n) x = powM f x (n + 1) := by rw [zo, powM, XI, ← Zh, powM]
theorem nv_pow {f : Int} (hf : f = 1 ∨ f = 2 ∨ f = 3 ∨ f = 4) (x n : Nat) : nv (nd (powM f x n)) = powM f x n := Z6 (powM_lt hf x n)
def MulOk (f : Int) : Prop := ∀ (w : World) (a b : List UInt64), zf a = 4 → zf b = 4 → Calls zB 17 #[.int .i64 f, .agg (zc (zg a)), .agg (zc (zg b))] w fun e w' => e = .returned (.agg (zc (zg (nd (zo f (nv a) (nv b)))))) ∧ Ev w [] w' []
def RMulOk (f : Int) : Prop := ∀ (w : World) (a b : List UInt64), zf a = 4 → zf b = 4 → Calls zB 25 #[.int .i64 f, .agg (zc (zg a)), .agg (zc (zg b))] w fun e w' => e = .returned (.agg (zc (zg (nd (zo f (nv a) (nv b)))))) ∧ Ev w [] w' []
theorem rmulOk {f : Int} (hf : f = 1 ∨ f = 2 ∨ f = 3 ∨ f = 4) (hL : LeftOk f) : RMulOk f := fun w a b ha hb => rmul_go w f hf hL a b ha hb
theorem bits_at {e : List UInt64} {j s t : Nat} (h : s + t ≤ 64) (h0 : s < 64) : (zb e j 0 >>> zi s).toNat % 2 ^ t = nv e / 2 ^ (64 * j + s) % 2 ^ t := by
  have hs : (zi s).toNat % 64 = s := by rw [ofNat_val]; omega
  have hp : (2 : Nat) ^ (64 * j + s) = 18446744073709551616 ^ j * 2 ^ s := by rw [ZO, Qz]
  rw [UInt64.toNat_shiftRight, hs, dv_dig, Nat.shiftRight_eq_div_pow, hp, ← ZJ]
  show _ = dv _ _ / _ / _ % _
  generalize dv 18446744073709551616 e / 18446744073709551616 ^ j = d
  have hB : 18446744073709551616 = 2 ^ s * 2 ^ (64 - s) := by rw [← ZO, show s + (64 - s) = 64 by omega]
  conv => lhs; rw [hB]
  rw [Nat.mod_mul_right_div_self, Nat.mod_mod_of_dvd]
  exact ⟨2 ^ (64 - s - t), by rw [← ZO]; congr 1; omega⟩
theorem bit_at (e : List UInt64) (i : Nat) : (zb e (i / 64) 0 >>> zi (i % 64) &&& 1).toNat = nv e / 2 ^ i % 2 := by
  have h := bits_at (e := e) (j := i / 64) (s := i % 64) (t := 1) (by omega) (by omega)
  rw [show 64 * (i / 64) + i % 64 = i by omega] at h
  rw [Y5, show (1 : UInt64).toNat = 1 from rfl, Nat.and_one_is_mod]
  exact h
theorem nib_at (e : List UInt64) (i : Nat) : (zb e (i / 16) 0 >>> zi (4 * (i % 16)) &&& 15).toNat = nv e / 16 ^ i % 16 := by
  have h := bits_at (e := e) (j := i / 16) (s := 4 * (i % 16)) (t := 4) (by omega) (by omega)
  rw [show 64 * (i / 16) + 4 * (i % 16) = 4 * i by omega, Qz] at h
  rw [Y5, show (15 : UInt64).toNat = 2 ^ 4 - 1 from rfl, Nat.and_two_pow_sub_one_eq_mod]
  exact h
theorem half_step (n : Nat) {i : Nat} (h : 1 ≤ i) : n / 2 ^ (i - 1) = 2 * (n / 2 ^ i) + n / 2 ^ (i - 1) % 2 := by
  have e : 2 ^ i = 2 ^ (i - 1) * 2 := by rw [← Zh]; congr 1; omega
  rw [e, ← ZJ]
  omega
theorem nib_step (n : Nat) {i : Nat} (h : 1 ≤ i) : n / 16 ^ (i - 1) = 2 ^ 4 * (n / 16 ^ i) + n / 16 ^ (i - 1) % 16 := by
  have e : 16 ^ i = 16 ^ (i - 1) * 16 := by rw [← Zh]; congr 1; omega
  rw [e, ← ZJ]
  omega
theorem bit_no {f : Int} (hf : f = 1 ∨ f = 2 ∨ f = 3 ∨ f = 4) {A E q : Nat} {b : UInt64} (hq : 1 ≤ q) (hb : b.toNat = E / 2 ^ (q - 1) % 2) (hc : ¬ ((b.toNat : Nat) : Int) = (1 : Int)) : nd (zo f (nv (nd (powM f A (E / 2 ^ q)))) (nv (nd (powM f A (E / 2 ^ q))))) = nd (powM f A (E / 2 ^ (q - 1))) := by
  rw [nv_pow hf, powM_add, half_step E hq]
  congr 2
  omega
theorem bit_yes {f : Int} (hf : f = 1 ∨ f = 2 ∨ f = 3 ∨ f = 4) {a : List UInt64} {E q : Nat} {b : UInt64} (hq : 1 ≤ q) (hb : b.toNat = E / 2 ^ (q - 1) % 2) (hc : ((b.toNat : Nat) : Int) = (1 : Int)) : nd (zo f (nv (nd (zo f (nv (nd (powM f (nv a) (E / 2 ^ q)))) (nv (nd (powM f (nv a) (E / 2 ^ q))))))) (nv a)) = nd (powM f (nv a) (E / 2 ^ (q - 1))) := by
  rw [nv_pow hf, powM_add, nv_pow hf, powM_succ, half_step E hq]
  congr 2
  omega
theorem nib_no {f : Int} {A E q : Nat} {b : UInt64} (hq : 1 ≤ q) (hb : b.toNat = E / 16 ^ (q - 1) % 16) (hc : ((b.toNat : Nat) : Int) = (0 : Int)) : nd (powM f A (2 ^ 4 * (E / 16 ^ q))) = nd (powM f A (E / 16 ^ (q - 1))) := by
  rw [nib_step E hq]
  congr 2
  omega
theorem nib_yes {f : Int} (hf : f = 1 ∨ f = 2 ∨ f = 3 ∨ f = 4) {A E q : Nat} {b : UInt64} (hq : 1 ≤ q) (hb : b.toNat = E / 16 ^ (q - 1) % 16) {L : List UInt64} (hT : ∀ j, j < 16 → zD 4 (zG (j * 4) L) = nd (powM f A j)) : nd (zo f (nv (nd (powM f A (2 ^ 4 * (E / 16 ^ q))))) (nv (zD 4 (zG (b.toNat * 4) L)))) = nd (powM f A (E / 16 ^ (q - 1))) := by
  rw [hT _ (by omega), nv_pow hf, nv_pow hf, powM_add, nib_step E hq]
  congr 2
  omega
theorem sq_step {f : Int} (hf : f = 1 ∨ f = 2 ∨ f = 3 ∨ f = 4) {A N k : Nat} : nd (zo f (nv (nd (powM f A (2 ^ k * N)))) (nv (nd (powM f A (2 ^ k * N))))) = nd (powM f A (2 ^ (k + 1) * N)) := by
  rw [nv_pow hf, powM_add, Zh]
  congr 2
  rw [X9]
  omega
theorem u64s_sub (m o : Nat) (l : List UInt64) : ((zg l).drop o).take m = zg (zD m (zG o l)) := by simp [zg, Xh, Ky]
theorem u64s_put (m o : Nat) (l x : List UInt64) : (zg l).take o ++ zg x ++ (zg l).drop (o + m) = zg (zD o l ++ x ++ zG (o + m) l) := by simp [zg, Xh, Ky]
theorem sub_len {α : Type} {l : List α} {n m o : Nat} (h : l.length = n) (h2 : o + m ≤ n) : (zD m (zG o l)).length = m := by rw [Zg, Yq]; omega
theorem put_len {α : Type} {l x : List α} {n m o : Nat} (h : l.length = n) (hx : x.length = m) (h2 : o + m ≤ n) : (zD o l ++ x ++ zG (o + m) l).length = n := by rw [zE, zE, Zg, Yq]; omega
theorem tab_new {α : Type} {l x : List α} {i : Nat} (hx : x.length = 4) (h : i * 4 + 4 ≤ l.length) : zD 4 (zG (i * 4) (zD (i * 4) l ++ x ++ zG (i * 4 + 4) l)) = x := by
  rw [Qo, List.drop_left' (by rw [Zg]; omega), List.take_left' hx]
theorem tab_old {α : Type} {l x : List α} {i j : Nat} (hj : j < i) (h : i * 4 + 4 ≤ l.length) : zD 4 (zG (j * 4) (zD (i * 4) l ++ x ++ zG (i * 4 + 4) l)) = zD 4 (zG (j * 4) l) := by
  rw [Qo, List.drop_append_of_le_length (by rw [Zg]; omega), List.take_append_of_le_length (by rw [Yq, Zg]; omega), List.drop_take, List.take_take, Nat.min_eq_left (by omega)]
theorem tab_first {f : Int} (hf : f = 1 ∨ f = 2 ∨ f = 3 ∨ f = 4) {A : Nat} {x : List UInt64} (hx : x = [1, 0, 0, 0]) : ∀ j, j < 1 → zD 4 (zG (j * 4) (zD 0 (zd 64 (0 : UInt64)) ++ x ++ zG (0 + 4) (zd 64 (0 : UInt64)))) = nd (powM f A j) := by
  intro j hj
  have e : j = 0 := by omega
  subst e
  rw [powM_zero hf, hx]
  decide
theorem tab_step {f : Int} (hf : f = 1 ∨ f = 2 ∨ f = 3 ∨ f = 4) {a L : List UInt64} {i : Nat} (h1 : 1 ≤ i) (hL : L.length = 64) (hi : i < 16) (hT : ∀ j, j < i → zD 4 (zG (j * 4) L) = nd (powM f (nv a) j)) : ∀ j, j < i + 1 → zD 4 (zG (j * 4) (zD (i * 4) L ++ nd (zo f (nv (zD 4 (zG ((i - 1) * 4) L))) (nv a)) ++ zG (i * 4 + 4) L)) = nd (powM f (nv a) j) := by
  intro j hj
  by_cases e : j = i
  · subst e
    rw [tab_new (zl _ _) (by omega), hT (j - 1) (by omega), nv_pow hf, powM_succ]
    congr 2
    omega
  · rw [tab_old (by omega) (by omega), hT j (by omega)]
theorem div_top {e : List UInt64} (he : e.length = 4) : nv e / 2 ^ 256 = 0 := Nat.div_eq_of_lt (nv_lt he)
theorem div_top4 {e : List UInt64} (he : e.length = 4) : nv e / 16 ^ 64 = 0 := by rw [show (16 : Nat) ^ 64 = 2 ^ 256 by decide]; exact div_top he
theorem inv_e {f : Int} (hf : f = 1 ∨ f = 2 ∨ f = 3 ∨ f = 4) : nv (nd (nv (nd (mF f)) + zR - nv [2, 0, 0, 0])) = mF f - 2 := by
  have h1 := mF_pos hf
  have h2 := mF_lt f
  rw [Jz, nd_val, show nv [2, 0, 0, 0] = 2 from rfl]
  simp only [zR] at *
  omega
theorem rexp_go (w : World) (f : Int) (hf : f = 1 ∨ f = 2 ∨ f = 3 ∨ f = 4) (hR : RMulOk f) (a g : List UInt64) (ha : zf a = 4) (hg : zf g = 4) : Calls zB 59 #[.int .i64 f, .agg (zc (zg a)), .agg (zc (zg g))] w fun e w' => e = .returned (.agg (zc (zg (nd (powM f (nv a) (nv g)))))) ∧ Ev w [] w' [] := by
 refine d_0 [(0, .int .i64 f), (1, .agg (zc (zg a))), (2, .agg (zc (zg g)))] 38 Tryz.func59 Tryz.ntmps59 (Heap.nil _) fun E0 E1 E2 => wp_seq <| zj <| f_o <| m_m 24 (zg a) E1 E2 fun _ _ Eo E3 E4 => f_o <| m_m 24 (zg g) E3 E4 fun _ _ Eh E5 Ep => f_o <| m_z 24 (zg (zd 4 0)) E5 Ep fun _ _ Eb Eq Er => f_e <| ze <| wp_seq <| zj <| d_k [0,4,5,6,10] [] 1 Eq fun _ Es => f_o <| c_p Es Er (ris_go_yes _ f hf) fun _ _ Et Eu => ?_
 refine d_e [0,4,5,6,7] [] Et fun _ Ew => ze <| wp_seq <| wp_seq <| d_r [0,4,5,6,13] [] Ew fun _ Ei => ze <| c_f Ei ?_
 refine wp_skip <| ze <| wp_seq <| zj <| d_k [0,4,5,6,15] [] 1 Ei fun _ Ex => f_o <| m_z 24 (zg (zd 4 0)) Ex Eu fun _ _ Ed Ey Ez => f_o <| zW 3 4 (zg ([1, 0, 0, 0] : List UInt64)) _ Ey Ez rfl (za (show zf ([1, 0, 0, 0] : List UInt64) = 4 from rfl)) (za (zh)) (zq _) rfl fun _ _ EA EB => f_e <| ze <| wp_seq <| wp_seq <| d_r [0,4,5,6,8,9] [] EA fun _ EC => ?_
 refine ze <| wp_block <| ZT (fun ED ac wo => ∃ (q : Nat) (x : List UInt64), ED = (q + 1 : Nat) ∧ Env ac 38 [(0, .int .i64 f), (4, pt Eo), (5, pt Eh), (6, pt Eb), (8, pt Ed), (9, .int .i64 (((q : Nat) : Int) - (1 : Int)))] ∧ Ev w [] wo [.box Ed (zg x) 24, .box Eo (zg a) 24, .box Eh (zg g) 24, .box Eb (zg (zd 4 0)) 24] ∧ (q ≤ 256) ∧ (zf x = 4) ∧ (x = nd (powM f (nv a) (nv g / 2 ^ q)))) ⟨_, 256, ([1, 0, 0, 0] : List UInt64), rfl, EC.sb, EB.pk [3, 0, 1, 2], by omega, by rfl, by rw [div_top hg, powM_zero hf]; decide⟩ ?_
 rintro E6 _ _ ⟨q, x, rfl, EE, Ea, hq, hx, hxe⟩
 refine wp_seq <| wp_seq <| d_r [0,4,5,6,8,9,17] [] EE fun _ Ef => ?_
 refine ze <| c_d (((q : Nat) : Int) - (1 : Int) ≥ (0 : Int)) Ef (fun EF => ?_) (fun EF => ?_)
 ·
  refine wp_skip <| ze <| wp_seq <| wp_block <| wp_seq ?_
  have EG := Q5 (t := 9) (v := .int .i64 (((q : Nat) : Int) - (1 : Int))) (u := ni (q - 1)) Ef (congrArg (Value.int .i64) (show ((q : Nat) : Int) - (1 : Int) = ((q - 1 : Nat) : Int) by omega))
  have hbv := bit_at g (q - 1)
  rw [hxe] at Ea
  refine zj <| d_k [0,4,5,6,8,9,20] [] 1 EG fun _ EH => f_o <| Zn 0 4 (zg (nd (powM f (nv a) (nv g / 2 ^ q)))) EH Ea rfl (za (zl _ _)) fun _ EI => f_o <| Zn 0 4 (zg (nd (powM f (nv a) (nv g / 2 ^ q)))) EI Ea rfl (za (zl _ _)) fun _ EJ => f_o <| c_p EJ Ea (hR _ (nd (powM f (nv a) (nv g / 2 ^ q))) (nd (powM f (nv a) (nv g / 2 ^ q))) (zl _ _) (zl _ _)) fun _ _ EK EL => f_o <| zW 0 4 (zg (nd (zo f (nv (nd (powM f (nv a) (nv g / 2 ^ q)))) (nv (nd (powM f (nv a) (nv g / 2 ^ q))))))) [.box Ed (zg (nd (zo f (nv (nd (powM f (nv a) (nv g / 2 ^ q)))) (nv (nd (powM f (nv a) (nv g / 2 ^ q))))))) 24, .box Eo (zg a) 24, .box Eh (zg g) 24, .box Eb (zg (zd 4 0)) 24] EK EL rfl (za (zl _ _)) (za (zl _ _)) (zq _) rfl fun _ _ EM Ec => f_e <| ze <| wp_seq <| zj <| d_k [0,4,5,6,8,9,25] [(1, g_i .i64 (show IntKind.wrap .i64 (Int.tdiv ((q - 1 : Nat) : Int) (64 : Int)) = (((q - 1) / 64 : Nat) : Int) from ZN (a := ((q - 1 : Nat) : Int)) (n := q - 1) (m := 64) rfl (by omega)))] 2 EM fun _ EN => ?_
  refine f_o <| q_v (x := Instr.indexAt 24 (pt Eh) (ni ((q - 1) / 64))) (v := .pointer (some ⟨Eh, (q - 1) / 64, none⟩)) EN (zs (e := 22) (sz := 1) (m := 4) (j := (q - 1) / 64) (o := (q - 1) / 64) (by kernel_rfl) (by kernel_rfl) (by omega) (by omega) (by omega) _) fun _ EO => f_o ?_
  have EP : (q - 1) / 64 < zf g := by rw [hg]; omega
  refine m_v 2 ((q - 1) / 64) (zm (zb g ((q - 1) / 64) 0)) EO Ec rfl (zO EP) fun _ EQ => d_k [0,4,5,6,8,9,27,29] [(5, g_i .i64 (show Int.tmod ((q - 1 : Nat) : Int) (64 : Int) = (((q - 1) % 64 : Nat) : Int) from ZQ (a := ((q - 1 : Nat) : Int)) (n := q - 1) (m := 64) rfl (by omega)))] 6 EQ fun _ ER => f_o <| q_v ER (QU (zb g ((q - 1) / 64) 0) .i64 ((q - 1) % 64) (by omega) _) fun _ ES => d_e [0,4,5,6,8,9,32] [(7, g_i .u64 (Zy (x := (zb g ((q - 1) / 64) 0) >>> zi ((q - 1) % 64)) (y := (1 : UInt64)) rfl rfl))] ES fun _ Eg => ?_
  refine ze <| c_e ((zk (((zb g ((q - 1) / 64) 0) >>> zi ((q - 1) % 64)) &&& (1 : UInt64)) : Nat) : Int) (1 : Int) Eg (fun ET => ?_) (fun ET => ?_)
  ·
   refine zj <| d_k [0,4,5,6,8,9,33] [] 1 Eg fun _ EU => f_o <| Zn 0 4 (zg (nd (zo f (nv (nd (powM f (nv a) (nv g / 2 ^ q)))) (nv (nd (powM f (nv a) (nv g / 2 ^ q))))))) EU Ec rfl (za (zl _ _)) fun _ EV => f_o <| Zn 1 4 (zg a) EV Ec rfl (za ha) fun _ EW => f_o <| c_p EW Ec (hR _ (nd (zo f (nv (nd (powM f (nv a) (nv g / 2 ^ q)))) (nv (nd (powM f (nv a) (nv g / 2 ^ q)))))) a (zl _ _) ha) fun _ _ EX EY => f_o <| zW 0 4 (zg (nd (zo f (nv (nd (zo f (nv (nd (powM f (nv a) (nv g / 2 ^ q)))) (nv (nd (powM f (nv a) (nv g / 2 ^ q))))))) (nv a)))) _ EX EY rfl (za (zl _ _)) (za (zl _ _)) (zq _) rfl fun _ _ EZ Ej => f_e <| zw <| ze <| d_r [0,4,5,6,8,9] [(1, g_n (w_r (e := ((q - 1 : Nat) : Int) - (1 : Int)) (x := ((q - 1 : Nat) : Int) - (1 : Int)) (by omega)))] EZ fun _ Ek => ?_
   refine ze <| ⟨_, ⟨q - 1, (nd (zo f (nv (nd (zo f (nv (nd (powM f (nv a) (nv g / 2 ^ q)))) (nv (nd (powM f (nv a) (nv g / 2 ^ q))))))) (nv a))), rfl, Ek.sb, Ej.pk [0, 1, 2, 3], by omega, (zl _ _), bit_yes hf (by omega) hbv (by assumption)⟩, ?_⟩
   omega
  refine wp_skip <| zw <| ze <| d_r [0,4,5,6,8,9] [(1, g_n (w_r (e := ((q - 1 : Nat) : Int) - (1 : Int)) (x := ((q - 1 : Nat) : Int) - (1 : Int)) (by omega)))] Eg fun _ El => ze <| ⟨_, ⟨q - 1, (nd (zo f (nv (nd (powM f (nv a) (nv g / 2 ^ q)))) (nv (nd (powM f (nv a) (nv g / 2 ^ q)))))), rfl, El.sb, Ec.pk [0, 1, 2, 3], by omega, (zl _ _), bit_no hf (by omega) hbv (by assumption)⟩, ?_⟩
  omega
 refine wp_exit <| zF <| zF <| zX <| ze <| wp_seq ?_
 rw [hxe] at Ea
 refine zj <| f_o <| Zn 0 4 (zg (nd (powM f (nv a) (nv g / 2 ^ q)))) Ef Ea rfl (za (zl _ _)) fun _ Em => f_o <| zW 3 4 (zg (nd (powM f (nv a) (nv g / 2 ^ q)))) [.box Ed (zg (nd (powM f (nv a) (nv g / 2 ^ q)))) 24, .box Eo (zg a) 24, .box Eh (zg g) 24, .box Eb (zg (nd (powM f (nv a) (nv g / 2 ^ q)))) 24] Em Ea rfl (za (zl _ _)) (za (zh)) (zq _) rfl fun _ _ En Ee => f_e <| ze <| wp_ret <| zU (v := .agg (zc (zg (nd (powM f (nv a) (nv g / 2 ^ q)))))) (t := 6) (T := 24) (ad := ⟨Eb, 0, none⟩) En (by kernel_rfl) (by kernel_rfl) (zC (t := 24) (k := 3) (off := 0) (m := 4) (xs := zg (nd (powM f (nv a) (nv g / 2 ^ q)))) Ee rfl (zn (za (zl _ _))) (za (zl _ _)) (by kernel_rfl) (by kernel_rfl)) ?_
 have hq0 : q = 0 := by omega
 subst hq0
 have eq : nd (powM f (nv a) (nv g / 2 ^ 0)) = nd (powM f (nv a) (nv g)) := by rw [ZV, JM]
 exact ⟨by rw [eq], Ee.pk []⟩
theorem exp_go (w : World) (f : Int) (hf : f = 1 ∨ f = 2 ∨ f = 3 ∨ f = 4) (hM : MulOk f) (a g : List UInt64) (ha : zf a = 4) (hg : zf g = 4) : Calls zB 45 #[.int .i64 f, .agg (zc (zg a)), .agg (zc (zg g))] w fun e w' => e = .returned (.agg (zc (zg (nd (powM f (nv a) (nv g)))))) ∧ Ev w [] w' [] := by
 refine d_0 [(0, .int .i64 f), (1, .agg (zc (zg a))), (2, .agg (zc (zg g)))] 62 Tryz.func45 Tryz.ntmps45 (Heap.nil _) fun HE HF HG => wp_seq <| zj <| f_o <| m_m 24 (zg a) HF HG fun _ _ Ef HH HI => f_o <| m_m 24 (zg g) HH HI fun _ _ Eg HJ Hn => f_o <| m_z 24 (zg (zd 4 0)) HJ Hn fun _ _ Ec Ho Hp => f_e <| ze <| wp_seq <| wp_seq <| zj <| d_k [0,4,5,6,12] [] 1 Ho fun _ Hq => f_o <| c_p Hq Hp (is_go_yes _ f hf) fun _ _ Hr Hs => ?_
 refine d_e [0,4,5,6,14] [] Hr fun _ Er => ze <| c_f Er ?_
 refine wp_skip <| ze <| wp_seq <| zj <| f_o <| m_z 92 (zg (zd 64 0)) Er Hs fun _ _ Ea Ht Hu => f_e <| ze <| wp_seq <| zj <| d_k [0,4,5,6,7,16,17] [] 2 Ht fun _ Hv => f_o <| m_g 3 0 4 (zg ([1, 0, 0, 0] : List UInt64)) (zg (zD 0 (zd 64 0) ++ ([1, 0, 0, 0] : List UInt64) ++ zG (0 + 4) (zd 64 0))) _ Hv Hu rfl (za (show zf ([1, 0, 0, 0] : List UInt64) = 4 from rfl)) (by rw [(za (zh))]; first | decide | (simp; done)) (zq _) (u64s_put _ _ _ _) rfl fun _ _ Hw Hx => f_e <| ze <| wp_seq <| wp_seq <| d_r [0,4,5,6,7,8] [] Hw fun _ Hy => ?_
 refine ze <| wp_block <| ZT (fun Hz ac wo => ∃ (i : Nat) (L : List UInt64), Hz = (17 - i : Nat) ∧ Env ac 62 [(0, .int .i64 f), (4, pt Ef), (5, pt Eg), (6, pt Ec), (7, pt Ea), (8, ni i)] ∧ Ev w [] wo [.box Ea (zg L) 92, .box Ef (zg a) 24, .box Eg (zg g) 24, .box Ec (zg (zd 4 0)) 24] ∧ (1 ≤ i) ∧ (i ≤ 16) ∧ (zf L = 64) ∧ (∀ j, j < i → zD 4 (zG (j * 4) L) = nd (powM f (nv a) j))) ⟨_, 1, (zD 0 (zd 64 0) ++ ([1, 0, 0, 0] : List UInt64) ++ zG (0 + 4) (zd 64 0)), rfl, Hy.sb, Hx.pk [3, 0, 1, 2], by omega, by omega, by rfl, tab_first hf rfl⟩ ?_
 rintro HK _ _ ⟨i, L, rfl, HA, En, h1, hi, hL, hT⟩
 refine wp_seq <| wp_seq <| d_r [0,4,5,6,7,8,19] [] HA fun _ Eq => ?_
 refine ze <| c_d (((i : Nat) : Int) < (16 : Int)) Eq (fun HB => ?_) (fun HB => ?_)
 ·
  refine wp_skip <| ze <| wp_seq <| wp_block <| r_c (fun ac wo => Env ac 62 [(0, .int .i64 f), (4, pt Ef), (5, pt Eg), (6, pt Ec), (7, pt Ea), (8, ni i)] ∧ Ev w [] wo [.box Ea (zg (zD (i * 4) L ++ (nd (zo f (nv (zD 4 (zG ((i - 1) * 4) L))) (nv a))) ++ zG ((i * 4) + 4) L)) 92, .box Ef (zg a) 24, .box Eg (zg g) 24, .box Ec (zg (zd 4 0)) 24]) ?_ ?_
  ·
   refine h_s (fun wv => Ev w [] wv [.box Ea (zg L) 92, .box Ef (zg a) 24]) [9] 10 ?_
   have Ei := En.trans (zN En.heap)
   refine q_s [0,1,2,3] [(3, g_n (w_r (e := ((i : Nat) : Int) - (1 : Int)) (x := ((i - 1 : Nat) : Int)) (by omega)))] 6 Eq (Ei.pk [0, 1]) fun _ Es => q_f 4 (s := Instr.indexAt 92 (pt Ea) (ni (i - 1))) (v := .pointer (some ⟨Ea, (i - 1) * 4, none⟩)) Es (fun _ => zs (e := 24) (sz := 4) (m := 16) (j := i - 1) (o := (i - 1) * 4) (by kernel_rfl) (by kernel_rfl) (by omega) (by omega) (by omega) _) (fun _ => Ei.pk [0, 1]) fun _ Et => q_r 5 (s := Instr.loadAt 24 (.pointer (some ⟨Ea, (i - 1) * 4, none⟩))) (v := .agg (zc (zg (zD 4 (zG ((i - 1) * 4) L))))) Et (fun w hS => Za (m := 4) (cs := zg (zD 4 (zG ((i - 1) * 4) L))) (za (sub_len hL (by omega))) (by kernel_rfl) (by kernel_rfl) (hS.heap.cells (k := 0) (off := (i - 1) * 4) (m := 4) rfl (u64s_sub _ _ _))) (Ei.pk [0, 1]) fun _ Eu => q_r 6 (s := Instr.loadAt 24 (pt Ef)) (v := .agg (zc (zg a))) Eu (fun w hS => Za (m := 4) (cs := zg a) (za ha) (by kernel_rfl) (by kernel_rfl) (hS.heap.cells (k := 1) (off := 0) (m := 4) rfl (zn (za ha)))) (Ei.pk [0, 1]) fun _ Ew => q_t 7 ?_
   refine c_p Ew Ei (hM _ (zD 4 (zG ((i - 1) * 4) L)) a (sub_len hL (by omega)) ha) fun _ _ Ex Ej => ⟨fun _ => Ej.pk [0, 1], ?_⟩
   refine q_f 8 (s := Instr.indexAt 92 (pt Ea) (ni i)) (v := .pointer (some ⟨Ea, i * 4, none⟩)) Ex (fun _ => zs (e := 24) (sz := 4) (m := 16) (j := i) (o := i * 4) (by kernel_rfl) (by kernel_rfl) (by omega) (by omega) (by omega) _) (fun _ => Ej.pk [0, 1]) fun _ Ey => q_t 9 ?_
   refine m_g 0 (i * 4) 4 (zg (nd (zo f (nv (zD 4 (zG ((i - 1) * 4) L))) (nv a)))) (zg (zD (i * 4) L ++ (nd (zo f (nv (zD 4 (zG ((i - 1) * 4) L))) (nv a))) ++ zG ((i * 4) + 4) L)) [.box Ea (zg (zD (i * 4) L ++ (nd (zo f (nv (zD 4 (zG ((i - 1) * 4) L))) (nv a))) ++ zG ((i * 4) + 4) L)) 92, .box Ef (zg a) 24, .box Eg (zg g) 24, .box Ec (zg (zd 4 0)) 24] Ey Ej rfl (za (zl _ _)) (by rw [(za hL)]; omega) (zq _) (u64s_put _ _ _ _) rfl fun _ _ Ez EA => ⟨q_y, ?_⟩
   exact h_e ⟨Ez.sb, EA.pk [0, 1, 2, 3]⟩
  rintro _ _ ⟨EB, EC⟩
  refine zw <| ze <| d_r [0,4,5,6,7,8] [(1, g_n (w_a i 1))] EB fun _ ED => ze <| ⟨_, ⟨i + 1, (zD (i * 4) L ++ (nd (zo f (nv (zD 4 (zG ((i - 1) * 4) L))) (nv a))) ++ zG ((i * 4) + 4) L), rfl, ED.sb, EC.pk [0, 1, 2, 3], by omega, by omega, (put_len hL (zl _ _) (by omega)), tab_step hf h1 hL (by omega) hT⟩, ?_⟩
  omega
 refine wp_exit <| zF <| zF <| zX <| ze <| wp_seq ?_
 have hT16 : ∀ j, j < 16 → zD 4 (zG (j * 4) L) = nd (powM f (nv a) j) := fun j hj => hT j (by omega)
 refine zj <| d_k [0,4,5,6,7,8,31] [] 1 Eq fun _ EE => f_o <| m_a 0 0 4 (zg (zD 4 L)) EE En rfl (by simp [zg, Xh]) (za (by rw [Zg, hL]; decide)) fun _ EF => f_o <| m_z 24 (zg (zd 4 0)) EF En fun _ _ Eb EG EH => f_o <| zW 4 4 (zg (zD 4 L)) _ EG EH rfl (za (by rw [Zg, hL]; decide)) (za (zh)) (zq _) rfl fun _ _ EI EJ => f_e <| ze <| wp_seq <| wp_seq <| d_r [0,4,5,6,7,8,9,10] [] EI fun _ EK => ?_
 refine ze <| wp_block <| ZT (fun EL ac wo => ∃ (q : Nat) (x : List UInt64), EL = (q + 1 : Nat) ∧ Env ac 62 [(0, .int .i64 f), (4, pt Ef), (5, pt Eg), (6, pt Ec), (7, pt Ea), (8, ni i), (9, pt Eb), (10, .int .i64 (((q : Nat) : Int) - (1 : Int)))] ∧ Ev w [] wo [.box Eb (zg x) 24, .box Ea (zg L) 92, .box Ef (zg a) 24, .box Eg (zg g) 24, .box Ec (zg (zd 4 0)) 24] ∧ (q ≤ 64) ∧ (zf x = 4) ∧ (x = nd (powM f (nv a) (nv g / 16 ^ q)))) ⟨_, 64, (zD 4 L), rfl, EK.sb, EJ.pk [4, 0, 1, 2, 3], by omega, (by rw [Zg, hL]; decide), by rw [div_top4 hg]; exact hT16 0 (by omega)⟩ ?_
 rintro HC _ _ ⟨q, x, rfl, EM, Eh, hq, hx, hxe⟩
 refine wp_seq <| wp_seq <| d_r [0,4,5,6,7,8,9,10,34] [] EM fun _ Ek => ?_
 refine ze <| c_d (((q : Nat) : Int) - (1 : Int) ≥ (0 : Int)) Ek (fun EN => ?_) (fun EN => ?_)
 ·
  refine wp_skip <| ze <| wp_seq <| wp_block <| wp_seq <| wp_seq ?_
  have EO := Q5 (t := 10) (v := .int .i64 (((q : Nat) : Int) - (1 : Int))) (u := ni (q - 1)) Ek (congrArg (Value.int .i64) (show ((q : Nat) : Int) - (1 : Int) = ((q - 1 : Nat) : Int) by omega))
  have hbv := nib_at g (q - 1)
  have HL : (zb g ((q - 1) / 16) 0 >>> zi (4 * ((q - 1) % 16)) &&& 15).toNat < 16 := by rw [hbv]; omega
  refine d_r [0,4,5,6,7,8,9,10,37] [] EO fun _ EP => ?_
  refine ze <| wp_block <| ZT (fun EQ ac wo => ∃ (k : Nat) (y : List UInt64), EQ = (5 - k : Nat) ∧ Env ac 62 [(0, .int .i64 f), (4, pt Ef), (5, pt Eg), (6, pt Ec), (7, pt Ea), (8, ni i), (9, pt Eb), (10, ni (q - 1)), (37, ni k)] ∧ Ev w [] wo [.box Eb (zg y) 24, .box Ea (zg L) 92, .box Ef (zg a) 24, .box Eg (zg g) 24, .box Ec (zg (zd 4 0)) 24] ∧ (k ≤ 4) ∧ (zf y = 4) ∧ (y = nd (powM f (nv a) (2 ^ k * (nv g / 16 ^ q))))) ⟨_, 0, x, rfl, EP.sb, Eh.pk [0, 1, 2, 3, 4], by omega, hx, by rw [hxe, ZV, Nat.one_mul]⟩ ?_
  rintro HD _ _ ⟨k, y, rfl, ER, Ed, hk, hy, hye⟩
  refine wp_seq <| d_r [0,4,5,6,7,8,9,10,37,38] [] ER fun _ El => ?_
  refine ze <| wp_seq <| c_d (((k : Nat) : Int) < (4 : Int)) El (fun ES => ?_) (fun ES => ?_)
  ·
   refine wp_skip <| ze <| wp_seq <| wp_block ?_
   rw [hye] at Ed
   refine zj <| d_k [0,4,5,6,7,8,9,10,37,39] [] 1 El fun _ ET => f_o <| Zn 0 4 (zg (nd (powM f (nv a) (2 ^ k * (nv g / 16 ^ q))))) ET Ed rfl (za (zl _ _)) fun _ EU => f_o <| Zn 0 4 (zg (nd (powM f (nv a) (2 ^ k * (nv g / 16 ^ q))))) EU Ed rfl (za (zl _ _)) fun _ EV => f_o <| c_p EV Ed (hM _ (nd (powM f (nv a) (2 ^ k * (nv g / 16 ^ q)))) (nd (powM f (nv a) (2 ^ k * (nv g / 16 ^ q)))) (zl _ _) (zl _ _)) fun _ _ EW EX => f_o <| zW 0 4 (zg (nd (zo f (nv (nd (powM f (nv a) (2 ^ k * (nv g / 16 ^ q))))) (nv (nd (powM f (nv a) (2 ^ k * (nv g / 16 ^ q)))))))) [.box Eb (zg (nd (zo f (nv (nd (powM f (nv a) (2 ^ k * (nv g / 16 ^ q))))) (nv (nd (powM f (nv a) (2 ^ k * (nv g / 16 ^ q)))))))) 24, .box Ea (zg L) 92, .box Ef (zg a) 24, .box Eg (zg g) 24, .box Ec (zg (zd 4 0)) 24] EW EX rfl (za (zl _ _)) (za (zl _ _)) (zq _) rfl fun _ _ EY EZ => f_e <| zw <| ze <| d_r [0,4,5,6,7,8,9,10,37] [(0, g_n (w_a k 1))] EY fun _ E0 => ?_
   refine ze <| ⟨_, ⟨k + 1, (nd (zo f (nv (nd (powM f (nv a) (2 ^ k * (nv g / 16 ^ q))))) (nv (nd (powM f (nv a) (2 ^ k * (nv g / 16 ^ q))))))), rfl, E0.sb, EZ.pk [0, 1, 2, 3, 4], by omega, (zl _ _), sq_step hf⟩, ?_⟩
   omega
  refine wp_exit <| zF <| zF <| zX <| ze <| wp_seq ?_
  have hk4 : k = 4 := by omega
  rw [hye, hk4] at Ed
  refine zj <| d_k [0,4,5,6,7,8,9,10,37,45] [(1, g_i .i64 (show IntKind.wrap .i64 (Int.tdiv ((q - 1 : Nat) : Int) (16 : Int)) = (((q - 1) / 16 : Nat) : Int) from ZN (a := ((q - 1 : Nat) : Int)) (n := q - 1) (m := 16) rfl (by omega)))] 2 El fun _ E1 => f_o <| q_v (x := Instr.indexAt 24 (pt Eg) (ni ((q - 1) / 16))) (v := .pointer (some ⟨Eg, (q - 1) / 16, none⟩)) E1 (zs (e := 22) (sz := 1) (m := 4) (j := (q - 1) / 16) (o := (q - 1) / 16) (by kernel_rfl) (by kernel_rfl) (by omega) (by omega) (by omega) _) fun _ E2 => f_o ?_
  have E3 : (q - 1) / 16 < zf g := by rw [hg]; omega
  refine m_v 3 ((q - 1) / 16) (zm (zb g ((q - 1) / 16) 0)) E2 Ed rfl (zO E3) fun _ E4 => d_k [0,4,5,6,7,8,9,10,37,47,50] [(5, g_i .i64 (show Int.tmod ((q - 1 : Nat) : Int) (16 : Int) = (((q - 1) % 16 : Nat) : Int) from ZQ (a := ((q - 1 : Nat) : Int)) (n := q - 1) (m := 16) rfl (by omega))), (6, g_n (w_m 4 ((q - 1) % 16)))] 7 E4 fun _ E5 => f_o <| q_v E5 (QU (zb g ((q - 1) / 16) 0) .i64 (4 * ((q - 1) % 16)) (by omega) _) fun _ E6 => d_e [0,4,5,6,7,8,9,10,11,37] [(8, g_i .u64 (Zy (x := (zb g ((q - 1) / 16) 0) >>> zi (4 * ((q - 1) % 16))) (y := (15 : UInt64)) rfl rfl))] E6 fun _ E7 => ze <| wp_seq <| d_r [0,4,5,6,7,8,9,10,11,37,54] [] E7 fun _ Em => ?_
  refine ze <| c_n ((zk (((zb g ((q - 1) / 16) 0) >>> zi (4 * ((q - 1) % 16))) &&& (15 : UInt64)) : Nat) : Int) (0 : Int) Em (fun E8 => ?_) (fun E8 => ?_)
  ·
   refine r_c (fun ac wo => Env ac 62 [(0, .int .i64 f), (4, pt Ef), (5, pt Eg), (6, pt Ec), (7, pt Ea), (8, ni i), (9, pt Eb), (10, ni (q - 1)), (11, zm (((zb g ((q - 1) / 16) 0) >>> zi (4 * ((q - 1) % 16))) &&& (15 : UInt64))), (37, ni k)] ∧ Ev w [] wo [.box Eb (zg (nd (zo f (nv (nd (powM f (nv a) (2 ^ 4 * (nv g / 16 ^ q))))) (nv (zD 4 (zG ((zk (((zb g ((q - 1) / 16) 0) >>> zi (4 * ((q - 1) % 16))) &&& (15 : UInt64))) * 4) L)))))) 24, .box Ea (zg L) 92, .box Ef (zg a) 24, .box Eg (zg g) 24, .box Ec (zg (zd 4 0)) 24]) ?_ ?_
   ·
    refine h_s (fun wv => Ev w [] wv [.box Eb (zg (nd (powM f (nv a) (2 ^ 4 * (nv g / 16 ^ q))))) 24, .box Ea (zg L) 92]) [6] 7 ?_
    have Ee := Ed.trans (zN Ed.heap)
    refine q_s [0] [] 6 Em (Ee.pk [0, 1]) fun _ E9 => q_r 1 (s := Instr.loadAt 24 (pt Eb)) (v := .agg (zc (zg (nd (powM f (nv a) (2 ^ 4 * (nv g / 16 ^ q))))))) E9 (fun w hS => Za (m := 4) (cs := zg (nd (powM f (nv a) (2 ^ 4 * (nv g / 16 ^ q))))) (za (zl _ _)) (by kernel_rfl) (by kernel_rfl) (hS.heap.cells (k := 0) (off := 0) (m := 4) rfl (zn (za (zl _ _))))) (Ee.pk [0, 1]) fun _ Ha => q_s [2] [] 4 Ha (Ee.pk [0, 1]) fun _ Hb => q_f 3 (s := Instr.indexAt 92 (pt Ea) (zm (((zb g ((q - 1) / 16) 0) >>> zi (4 * ((q - 1) % 16))) &&& (15 : UInt64)))) (v := .pointer (some ⟨Ea, (zk (((zb g ((q - 1) / 16) 0) >>> zi (4 * ((q - 1) % 16))) &&& (15 : UInt64))) * 4, none⟩)) Hb (fun _ => zs (e := 24) (sz := 4) (m := 16) (j := zk (((zb g ((q - 1) / 16) 0) >>> zi (4 * ((q - 1) % 16))) &&& (15 : UInt64))) (o := (zk (((zb g ((q - 1) / 16) 0) >>> zi (4 * ((q - 1) % 16))) &&& (15 : UInt64))) * 4) (by kernel_rfl) (by kernel_rfl) (by omega) (by omega) (by omega) _) (fun _ => Ee.pk [0, 1]) fun _ Hc => q_r 4 (s := Instr.loadAt 24 (.pointer (some ⟨Ea, (zk (((zb g ((q - 1) / 16) 0) >>> zi (4 * ((q - 1) % 16))) &&& (15 : UInt64))) * 4, none⟩))) (v := .agg (zc (zg (zD 4 (zG ((zk (((zb g ((q - 1) / 16) 0) >>> zi (4 * ((q - 1) % 16))) &&& (15 : UInt64))) * 4) L))))) Hc (fun w hS => Za (m := 4) (cs := zg (zD 4 (zG ((zk (((zb g ((q - 1) / 16) 0) >>> zi (4 * ((q - 1) % 16))) &&& (15 : UInt64))) * 4) L))) (za (sub_len hL (by omega))) (by kernel_rfl) (by kernel_rfl) (hS.heap.cells (k := 1) (off := (zk (((zb g ((q - 1) / 16) 0) >>> zi (4 * ((q - 1) % 16))) &&& (15 : UInt64))) * 4) (m := 4) rfl (u64s_sub _ _ _))) (Ee.pk [0, 1]) fun _ Hd => q_t 5 ?_
    refine c_p Hd Ee (hM _ (nd (powM f (nv a) (2 ^ 4 * (nv g / 16 ^ q)))) (zD 4 (zG ((zk (((zb g ((q - 1) / 16) 0) >>> zi (4 * ((q - 1) % 16))) &&& (15 : UInt64))) * 4) L)) (zl _ _) (sub_len hL (by omega))) fun _ _ He Eo => ⟨fun _ => Eo.pk [0, 1], ?_⟩
    refine q_t 6 ?_
    refine zW 0 4 (zg (nd (zo f (nv (nd (powM f (nv a) (2 ^ 4 * (nv g / 16 ^ q))))) (nv (zD 4 (zG ((zk (((zb g ((q - 1) / 16) 0) >>> zi (4 * ((q - 1) % 16))) &&& (15 : UInt64))) * 4) L)))))) _ He Eo rfl (za (zl _ _)) (za (zl _ _)) (zq _) rfl fun _ _ Hf Hg => ⟨q_y, ?_⟩
    exact h_e ⟨Hf.sb, Hg.pk [0, 1, 2, 3, 4]⟩
   rintro _ _ ⟨Hh, Hi⟩
   refine zw <| ze <| d_r [0,4,5,6,7,8,9,10,11,37] [(1, g_n (w_r (e := ((q - 1 : Nat) : Int) - (1 : Int)) (x := ((q - 1 : Nat) : Int) - (1 : Int)) (by omega)))] Hh fun _ Hj => ze <| ⟨_, ⟨q - 1, (nd (zo f (nv (nd (powM f (nv a) (2 ^ 4 * (nv g / 16 ^ q))))) (nv (zD 4 (zG ((zk (((zb g ((q - 1) / 16) 0) >>> zi (4 * ((q - 1) % 16))) &&& (15 : UInt64))) * 4) L))))), rfl, Hj.sb, Hi.pk [0, 1, 2, 3, 4], by omega, (zl _ _), nib_yes hf (by omega) hbv hT16⟩, ?_⟩
   omega
  refine wp_skip <| zw <| ze <| d_r [0,4,5,6,7,8,9,10,11,37] [(1, g_n (w_r (e := ((q - 1 : Nat) : Int) - (1 : Int)) (x := ((q - 1 : Nat) : Int) - (1 : Int)) (by omega)))] Em fun _ Hk => ze <| ⟨_, ⟨q - 1, (nd (powM f (nv a) (2 ^ 4 * (nv g / 16 ^ q)))), rfl, Hk.sb, Ed.pk [0, 1, 2, 3, 4], by omega, (zl _ _), nib_no (by omega) hbv (by assumption)⟩, ?_⟩
  omega
 refine wp_exit <| zF <| zF <| zX <| ze <| wp_seq ?_
 rw [hxe] at Eh
 refine zj <| f_o <| Zn 0 4 (zg (nd (powM f (nv a) (nv g / 16 ^ q)))) Ek Eh rfl (za (zl _ _)) fun _ Hl => f_o <| zW 4 4 (zg (nd (powM f (nv a) (nv g / 16 ^ q)))) [.box Eb (zg (nd (powM f (nv a) (nv g / 16 ^ q)))) 24, .box Ea (zg L) 92, .box Ef (zg a) 24, .box Eg (zg g) 24, .box Ec (zg (nd (powM f (nv a) (nv g / 16 ^ q)))) 24] Hl Eh rfl (za (zl _ _)) (za (zh)) (zq _) rfl fun _ _ Hm Ep => f_e <| ze <| wp_ret <| zU (v := .agg (zc (zg (nd (powM f (nv a) (nv g / 16 ^ q)))))) (t := 6) (T := 24) (ad := ⟨Ec, 0, none⟩) Hm (by kernel_rfl) (by kernel_rfl) (zC (t := 24) (k := 4) (off := 0) (m := 4) (xs := zg (nd (powM f (nv a) (nv g / 16 ^ q)))) Ep rfl (zn (za (zl _ _))) (za (zl _ _)) (by kernel_rfl) (by kernel_rfl)) ?_
 have hq0 : q = 0 := by omega
 subst hq0
 have eq : nd (powM f (nv a) (nv g / 16 ^ 0)) = nd (powM f (nv a) (nv g)) := by rw [ZV, JM]
 exact ⟨by rw [eq], Ep.pk []⟩
theorem inv_go (w : World) (f : Int) (hf : (f = 1 ∨ f = 2 ∨ f = 3 ∨ f = 4)) (hM : MulOk f) (a : List UInt64) (ha : zf a = 4) : Calls zB 14 #[.int .i64 f, .agg (zc (zg a))] w fun e w' => e = .returned (.agg (zc (zg (nd (powM f (nv a) (mF f - 2)))))) ∧ Ev w [] w' [] := by
 refine d_0 [(0, .int .i64 f), (1, .agg (zc (zg a)))] 18 Tryz.func14 Tryz.ntmps14 (Heap.nil _) fun Ex Ey Ez => wp_seq <| zj <| f_o <| m_m 24 (zg a) Ey Ez fun _ _ EA EB EC => f_o <| m_z 24 (zg (zd 4 0)) EB EC fun _ _ Ew ED Ec => f_e <| ze <| wp_seq <| zj <| d_k [0,3,4,8] [] 1 ED fun _ Ed => f_o <| c_p Ed Ec (modulus_go _ f) fun _ _ Ee Ef => d_k [0,3,4,9,10] [] 3 Ee fun _ Eg => ?_
 refine f_o <| c_p Eg Ef (JK _ (nd (mF f)) ([2, 0, 0, 0] : List UInt64) (zl _ _) (show zf ([2, 0, 0, 0] : List UInt64) = 4 from rfl)) fun _ _ Eh Ei => d_k [0,3,4,12,13] [] 7 Eh fun _ Ej => f_o <| m_z 24 (zg (zd 4 0)) Ej Ei fun _ _ Ek El Em => f_o <| zW 2 4 (zg (nd (nv (nd (mF f)) + zR - nv ([2, 0, 0, 0] : List UInt64)))) _ El Em rfl (za (zl _ _)) (za (zh)) (zq _) rfl fun _ _ En Ea => d_e [0,3,4,5] [] En fun _ Eo => ze <| wp_seq <| zj <| d_k [0,3,4,5,14] [] 1 Eo fun _ Ep => ?_
 refine f_o <| Zn 0 4 (zg a) Ep Ea rfl (za ha) fun _ Eq => f_o <| Zn 2 4 (zg (nd (nv (nd (mF f)) + zR - nv ([2, 0, 0, 0] : List UInt64)))) Eq Ea rfl (za (zl _ _)) fun _ Er => f_o <| c_p Er Ea (exp_go _ f hf hM a (nd (nv (nd (mF f)) + zR - nv ([2, 0, 0, 0] : List UInt64))) ha (zl _ _)) fun _ _ Es Et => f_o <| zW 1 4 (zg (nd (powM f (nv a) (nv (nd (nv (nd (mF f)) + zR - nv ([2, 0, 0, 0] : List UInt64))))))) [.box EA (zg a) 24, .box Ew (zg (nd (powM f (nv a) (nv (nd (nv (nd (mF f)) + zR - nv ([2, 0, 0, 0] : List UInt64))))))) 24, .box Ek (zg (nd (nv (nd (mF f)) + zR - nv ([2, 0, 0, 0] : List UInt64)))) 24] Es Et rfl (za (zl _ _)) (za (zh)) (zq _) rfl fun _ _ Eu Eb => f_e <| ze <| wp_ret <| zU (v := .agg (zc (zg (nd (powM f (nv a) (nv (nd (nv (nd (mF f)) + zR - nv ([2, 0, 0, 0] : List UInt64))))))))) (t := 4) (T := 24) (ad := ⟨Ew, 0, none⟩) Eu (by kernel_rfl) (by kernel_rfl) (zC (t := 24) (k := 1) (off := 0) (m := 4) (xs := zg (nd (powM f (nv a) (nv (nd (nv (nd (mF f)) + zR - nv ([2, 0, 0, 0] : List UInt64))))))) Eb rfl (zn (za (zl _ _))) (za (zl _ _)) (by kernel_rfl) (by kernel_rfl)) ?_
 have eq : nd (powM f (nv a) (nv (nd (nv (nd (mF f)) + zR - nv ([2, 0, 0, 0] : List UInt64))))) = nd (powM f (nv a) (mF f - 2)) := by rw [inv_e hf]
 exact ⟨by rw [eq], Eb.pk []⟩
theorem rinv_go (w : World) (f : Int) (hf : (f = 1 ∨ f = 2 ∨ f = 3 ∨ f = 4)) (hR : RMulOk f) (a : List UInt64) (ha : zf a = 4) : Calls zB 23 #[.int .i64 f, .agg (zc (zg a))] w fun e w' => e = .returned (.agg (zc (zg (nd (powM f (nv a) (mF f - 2)))))) ∧ Ev w [] w' [] := by
 refine d_0 [(0, .int .i64 f), (1, .agg (zc (zg a)))] 12 Tryz.func23 Tryz.ntmps23 (Heap.nil _) fun Er Es Et => wp_seq <| zj <| f_o <| m_m 24 (zg a) Es Et fun _ _ Eq Eu Ew => f_o <| m_z 24 (zg (zd 4 0)) Eu Ew fun _ _ Ep Ex Eg => ?_
 refine f_e <| ze <| wp_seq <| r_c (fun ac wo => Env ac 12 [(4, pt Ep)] ∧ Ev w [] wo [.box Ep (zg (nd (powM f (nv a) (nv (nd (nv (nd (mF f)) + zR - nv ([2, 0, 0, 0] : List UInt64))))))) 24]) ?_ ?_
 ·
  refine h_s (fun wv => Ev w [] wv [.box Eq (zg a) 24]) [] 8 ?_
  have Ea := Eg.trans (zN Eg.heap)
  refine q_s [0] [] 7 Ex (Ea.pk [0]) fun _ Eh => q_r 1 (s := Instr.loadAt 24 (pt Eq)) (v := .agg (zc (zg a))) Eh (fun w hS => Za (m := 4) (cs := zg a) (za ha) (by kernel_rfl) (by kernel_rfl) (hS.heap.cells (k := 0) (off := 0) (m := 4) rfl (zn (za ha)))) (Ea.pk [0]) fun _ Ei => q_s [2,4] [] 4 Ei (Ea.pk [0]) fun _ Ej => q_t 3 ?_
  refine c_p Ej Ea (rmodulus_go _ f) fun _ _ Ek Eb => ⟨fun _ => Eb.pk [0], ?_⟩
  refine q_t 5 ?_
  refine c_p Ek Eb (rminus_go _ (nd (mF f)) ([2, 0, 0, 0] : List UInt64) (zl _ _) (show zf ([2, 0, 0, 0] : List UInt64) = 4 from rfl)) fun _ _ El Ec => ⟨fun _ => Ec.pk [0], ?_⟩
  refine q_t 6 ?_
  refine c_p El Ec (rexp_go _ f hf hR a (nd (nv (nd (mF f)) + zR - nv ([2, 0, 0, 0] : List UInt64))) ha (zl _ _)) fun _ _ Em Ed => ⟨fun _ => Ed.pk [0], ?_⟩
  refine q_t 7 ?_
  refine zW 1 4 (zg (nd (powM f (nv a) (nv (nd (nv (nd (mF f)) + zR - nv ([2, 0, 0, 0] : List UInt64))))))) _ Em Ed rfl (za (zl _ _)) (za (zh)) (zq _) rfl fun _ _ En Ee => ⟨fun _ => Ee.pk [0], ?_⟩
  exact h_e ⟨En.sb, Ee.pk [1]⟩
 rintro _ _ ⟨Eo, Ef⟩
 refine ze <| wp_ret <| zU (v := .agg (zc (zg (nd (powM f (nv a) (nv (nd (nv (nd (mF f)) + zR - nv ([2, 0, 0, 0] : List UInt64))))))))) (t := 4) (T := 24) (ad := ⟨Ep, 0, none⟩) Eo (by kernel_rfl) (by kernel_rfl) (zC (t := 24) (k := 0) (off := 0) (m := 4) (xs := zg (nd (powM f (nv a) (nv (nd (nv (nd (mF f)) + zR - nv ([2, 0, 0, 0] : List UInt64))))))) Ef rfl (zn (za (zl _ _))) (za (zl _ _)) (by kernel_rfl) (by kernel_rfl)) ?_
 have eq : nd (powM f (nv a) (nv (nd (nv (nd (mF f)) + zR - nv ([2, 0, 0, 0] : List UInt64))))) = nd (powM f (nv a) (mF f - 2)) := by rw [inv_e hf]
 exact ⟨by rw [eq], Ef.pk []⟩
def field0 (P : Program) (s : TypeId) (i : Nat) (T : TypeId) : Bool := match P.underlying s with
  | some (.struct fs) => (match fs[i]? with
    | some f => (match P.info? f.type with
      | some j => j.size == 0 && P.cellsOf T == 0 && f.offset == 0 && f.byteOffset == 0
      | none => false)
    | none => false)
  | _ => false
theorem _root_.Go.Dbr.Heap.shape0 {w : World} {L : List Ent} (h : Heap w L) {k b : Nat} {T : TypeId} (hk : L[k]? = some (.box b [] T)) : w.shape? b = some (T, 0) := by
  have hh : w.heap[b]? = some (.cells ([] : List Value).toArray T (0, 0)) := h.holds k _ hk
  unfold World.shape?
  rw [hh]
  rfl
theorem run_field0 {P : Program} {s T : TypeId} {b i : Nat} {w : World} (hsh : w.shape? b = some (T, 0)) (h : field0 P s i T = true) : (Instr.fieldAt s (pt b) i).run P w = .ok (pt b) w := by
  unfold field0 at h
  split at h
  · rename_i fs hu
    split at h
    · rename_i f hf
      split at h
      · rename_i j hj
        simp only [zJ, beq_iff_eq] at h
        obtain ⟨⟨⟨h1, h2⟩, h3⟩, h4⟩ := h
        simp [Instr.fieldAt, run_underlying hu, hf, Instr.sureAddr, fieldPlace, sizeOf, typeInfo, hj, h1, partAt, byteOf, noView, viewAt, shape, Sem.run, hsh, h2, h3, h4]
      · cases h
    · cases h
  · cases h
theorem dvk_s (l : List UInt64) (k : Nat) : dvk l (k + 1) = dvk l k + (zb l k 0).toNat * 18446744073709551616 ^ k := rfl
theorem dvk_ge {l : List UInt64} {j : Nat} {x : UInt64} : ∀ n, n ≤ j → dvk (zt l j x) n = dvk l n
  | 0, _ => rfl
  | n + 1, h => by rw [dvk, dvk, dvk_ge n (by omega), QO _ (by omega)]
theorem getD_set_eq {l : List UInt64} {j : Nat} (x : UInt64) (h : j < l.length) : zb (zt l j x) j 0 = x := by rw [List.getD_eq_getElem?_getD, List.getElem?_set_self h]; rfl
theorem dvk_set {l : List UInt64} {j : Nat} {x : UInt64} (h : j < l.length) : ∀ n, j < n → dvk (zt l j x) n + (zb l j 0).toNat * 18446744073709551616 ^ j = dvk l n + x.toNat * 18446744073709551616 ^ j
  | 0, hn => by omega
  | n + 1, hn => by
    rw [dvk, dvk]
    by_cases e : j = n
    · subst e
      rw [dvk_ge _ (Qg _), getD_set_eq x h]
      omega
    · rw [QO _ e]
      have := dvk_set (x := x) h n (by omega)
      omega
theorem mont_in {a u : List UInt64} {b c : UInt64} {T k : Nat} (hl : u.length = 6) (hk : k < 4) (hv : dvk u 5 + c.toNat * 18446744073709551616 ^ k = T + dvk a k * b.toNat) :
    dvk (zt u k (z0 (z0 (zb a k 0 * b) (zb u k 0) 0) c 0)) 5 + (YJ (zb a k 0) b + zS (zb a k 0 * b) (zb u k 0) 0 + zS (z0 (zb a k 0 * b) (zb u k 0) 0) c 0).toNat * 18446744073709551616 ^ (k + 1) = T + dvk a (k + 1) * b.toNat := by
  have e := dvk_set (l := u) (x := z0 (z0 (zb a k 0 * b) (zb u k 0) 0) c 0) (j := k) (by omega) 5 (by omega)
  have m := mac_val (x := zb a k 0) (y := b) (t := zb u k 0) (c := c)
  have m2 := congrArg (· * 18446744073709551616 ^ k) m
  simp only [ZE] at m2
  rw [dvk_s a k, ZE, Zh, Zf (18446744073709551616 ^ k) 18446744073709551616, ← Zq, Zf (zk _) 18446744073709551616, X9 (zb a k 0).toNat]
  generalize 18446744073709551616 ^ k = q at *
  omega
theorem mont_mid {u : List UInt64} {c : UInt64} {P : Nat} (hl : u.length = 6) (hv : dvk u 5 + c.toNat * 18446744073709551616 ^ 4 = P) :
    dvk (zt (zt u 4 (z0 (zb u 4 0) c 0)) 5 (zS (zb u 4 0) c 0)) 6 = P ∧ (zb (zt (zt u 4 (z0 (zb u 4 0) c 0)) 5 (zS (zb u 4 0) c 0)) 5 0).toNat ≤ 1 := by
  rw [getD_set_eq _ (by rw [Qv]; omega)]
  refine ⟨?_, addHi_le (by decide)⟩
  rw [dvk_s _ 5, dvk_ge 5 (Qg _), getD_set_eq _ (by rw [Qv]; omega)]
  have e := dvk_set (l := u) (x := z0 (zb u 4 0) c 0) (j := 4) (by omega) 5 (by decide)
  have m := add_val (x := zb u 4 0) (y := c) (c := 0)
  rw [show (0 : UInt64).toNat = 0 from rfl, ZP] at m
  have m2 := congrArg (· * 18446744073709551616 ^ 4) m
  simp only [ZE] at m2
  rw [show (18446744073709551616 : Nat) ^ 5 = 18446744073709551616 * 18446744073709551616 ^ 4 by decide, ← Zq, Zf (zk _) 18446744073709551616]
  generalize (18446744073709551616 : Nat) ^ 4 = q at *
  omega
theorem mont_first {v w m : List UInt64} {q c bk : UInt64} (hm : (bk.toNat * (zb m 0 0).toNat + 1) % 18446744073709551616 = 0) (hq : q = zb v 0 0 * bk) (hs : zb w 0 0 = zb v 0 0) (hc : c.toNat = 0) :
    18446744073709551616 * (dvk w 0 + (YJ q (zb m 0 0) + zS (q * zb m 0 0) (zb w 0 0) 0 + zS (z0 (q * zb m 0 0) (zb w 0 0) 0) c 0).toNat * 18446744073709551616 ^ 0) = dvk v 1 + q.toNat * dvk m 1 := by
  have e := mac_val (x := q) (y := zb m 0 0) (t := zb w 0 0) (c := c)
  have l1 := lt64 (z0 (z0 (q * zb m 0 0) (zb w 0 0) 0) c 0)
  simp only [dvk, ZV, zI, Yi]
  have hz : (q.toNat * (zb m 0 0).toNat + (zb v 0 0).toNat) % 18446744073709551616 = 0 := by
    rw [hq, UInt64.toNat_mul, JL, XI, ← JL, Zq, show (2 : Nat) ^ 64 = 18446744073709551616 from rfl]
    have : (zb v 0 0).toNat * (bk.toNat * (zb m 0 0).toNat) + (zb v 0 0).toNat = (zb v 0 0).toNat * (bk.toNat * (zb m 0 0).toNat + 1) := by rw [Qp, zI]
    rw [this, Qq, hm, Qw, Nat.zero_mod]
  rw [hs, hc] at e
  rw [hs] at l1 ⊢
  generalize q.toNat * (zb m 0 0).toNat = p at *
  omega
theorem dvk_rep : dvk (zd 6 0) 5 = 0 := by decide +kernel
theorem mont_i0 {T x : Nat} {a : List UInt64} : T + (0 : UInt64).toNat * 18446744073709551616 ^ 0 = T + dvk a 0 * x := by rw [dvk, Qm, show (0 : UInt64).toNat = 0 from rfl, Qm]
theorem mont_j0 {v m : List UInt64} {q : UInt64} : 18446744073709551616 * (dvk v (0 - 1) + (0 : UInt64).toNat * 18446744073709551616 ^ (0 - 1)) = dvk v 0 + q.toNat * dvk m 0 := by rw [KB, dvk, dvk, show (0 : UInt64).toNat = 0 from rfl, Qm, Qw, Qw]
theorem mont_c0 {v w m : List UInt64} {q c : UInt64} (hv : 18446744073709551616 * (dvk w (0 - 1) + c.toNat * 18446744073709551616 ^ (0 - 1)) = dvk v 0 + q.toNat * dvk m 0) : c.toNat = 0 := by
  simp only [dvk, KB, ZV, Qw] at hv
  omega
theorem mont_more {v w m : List UInt64} {q c : UInt64} {k : Nat} (hl : w.length = 6) (hk : k < 4) (h0 : 0 < k) (hs : zb w k 0 = zb v k 0) (hv : 18446744073709551616 * (dvk w (k - 1) + c.toNat * 18446744073709551616 ^ (k - 1)) = dvk v k + q.toNat * dvk m k) :
    18446744073709551616 * (dvk (zt w (k - 1) (z0 (z0 (q * zb m k 0) (zb w k 0) 0) c 0)) k + (YJ q (zb m k 0) + zS (q * zb m k 0) (zb w k 0) 0 + zS (z0 (q * zb m k 0) (zb w k 0) 0) c 0).toNat * 18446744073709551616 ^ k) = dvk v (k + 1) + q.toNat * dvk m (k + 1) := by
  obtain ⟨j, rfl⟩ : ∃ j, k = j + 1 := ⟨k - 1, by omega⟩
  rw [Nat.add_sub_cancel] at *
  have e := mac_val (x := q) (y := zb m (j + 1) 0) (t := zb w (j + 1) 0) (c := c)
  rw [dvk_s _ j, dvk_ge j (Qg _), getD_set_eq _ (by omega), dvk_s v (j + 1), dvk_s m (j + 1), Qp q.toNat, hs]
  rw [hs] at e
  have e2 := congrArg (· * 18446744073709551616 ^ (j + 1)) e
  simp only [ZE] at e2
  rw [← Zq q.toNat]
  rw [Zh] at *
  generalize q.toNat * (zb m (j + 1) 0).toNat = p at *
  generalize q.toNat * dvk m (j + 1) = p2 at *
  rw [Zf _ 18446744073709551616] at *
  simp only [← Zq, Zf _ 18446744073709551616] at *
  generalize 18446744073709551616 ^ j = z at *
  simp only [Zq] at *
  omega
theorem mont_out {v w : List UInt64} {c : UInt64} {N : Nat} (hl : w.length = 6) (h4 : zb w 4 0 = zb v 4 0) (h5 : zb w 5 0 = zb v 5 0) (h1 : (zb v 5 0).toNat ≤ 1) (hv : 18446744073709551616 * (dvk w 3 + c.toNat * 18446744073709551616 ^ 3) = dvk v 4 + N) :
    18446744073709551616 * dvk (zt (zt w 3 (z0 (zb w 4 0) c 0)) 4 (zb (zt w 3 (z0 (zb w 4 0) c 0)) 5 0 + zS (zb w 4 0) c 0)) 5 = dvk v 6 + N := by
  have m := add_val (x := zb v 4 0) (y := c) (c := 0)
  have o := addHi_le (x := zb v 4 0) (y := c) (c := 0) (by decide)
  rw [show (0 : UInt64).toNat = 0 from rfl, ZP] at m
  have ho : (zb v 5 0 + zS (zb v 4 0) c 0).toNat = (zb v 5 0).toNat + (zS (zb v 4 0) c 0).toNat := by
    rw [UInt64.toNat_add]
    omega
  rw [QO _ (by decide), h4, h5, dvk_s _ 4, dvk_ge 4 (Qg _), getD_set_eq _ (by rw [Qv]; omega), ho]
  rw [dvk_s _ 3, dvk_ge 3 (Qg _), getD_set_eq _ (by omega), dvk_s v 5, dvk_s v 4]
  have m2 := congrArg (· * 18446744073709551616 ^ 4) m
  simp only [ZE, Qp] at m2 hv ⊢
  rw [show (18446744073709551616 : Nat) ^ 5 = 18446744073709551616 * 18446744073709551616 ^ 4 by decide]
  simp only [show (18446744073709551616 : Nat) ^ 4 = 18446744073709551616 * 18446744073709551616 ^ 3 by decide] at *
  generalize (18446744073709551616 : Nat) ^ 3 = q at *
  simp only [Nat.mul_left_comm _ 18446744073709551616] at *
  simp only [Qm, ZP, Zq] at *
  omega
theorem mont_next {M A T T' i : Nat} {b : List UInt64} {q : UInt64} (hA : A < M) (hT : T < 2 * M) (hm : T * 18446744073709551616 ^ i % M = A * dvk b i % M) (h : 18446744073709551616 * T' = T + A * (zb b i 0).toNat + q.toNat * M) : T' < 2 * M ∧ T' * 18446744073709551616 ^ (i + 1) % M = A * dvk b (i + 1) % M := by
  constructor
  · have h1 := lt64 q
    have h2 := lt64 (zb b i 0)
    have h3 : q.toNat * M ≤ 18446744073709551615 * M := Nat.mul_le_mul_right _ (by omega)
    have h4 : A * (zb b i 0).toNat ≤ A * 18446744073709551615 := Nat.mul_le_mul_left _ (by omega)
    generalize q.toNat * M = x at *
    generalize A * (zb b i 0).toNat = y at *
    omega
  · have e : T' * 18446744073709551616 ^ (i + 1) = T * 18446744073709551616 ^ i + A * ((zb b i 0).toNat * 18446744073709551616 ^ i) + M * (q.toNat * 18446744073709551616 ^ i) := by
      rw [Zh, Zf (18446744073709551616 ^ i), ← Zq, Zf T', h, ZE, ZE, Zq A, Zf q.toNat M, Zq M]
    rw [e, Nat.add_mul_mod_self_left, JL, hm, ← JL, ← Qp, dvk]
def montN (r M x y : Nat) : Nat := x * y * r % M
theorem mont_fin {M A T r : Nat} (h : T * zR % M = A % M) (hr : zR * r % M = 1) : T % M = A * r % M := by
  have e : T * (zR * r) % M = A * r % M := by rw [← Zq, Qq, h, ← Qq]
  rw [Qq, hr, zI, Yy] at e
  exact e
theorem mont_nv {t : List UInt64} : nv [zb t 0 0, zb t 1 0, zb t 2 0, zb t 3 0] = dvk t 4 := by
  rw [nv4]
  simp only [dvk, Nat.reducePow]
  omega
theorem mont_yes {M A r : Nat} {t : List UInt64} (hr : zR * r % M = 1) (hm : dvk t 5 * 18446744073709551616 ^ 4 % M = A % M) (h1 : nv [zb t 0 0, zb t 1 0, zb t 2 0, zb t 3 0] < M) (h2 : (((zb t 4 0).toNat : Nat) : Int) = (0 : Int)) :
    [zb t 0 0, zb t 1 0, zb t 2 0, zb t 3 0] = nd (A * r % M) := by
  have e : dvk t 5 = nv [zb t 0 0, zb t 1 0, zb t 2 0, zb t 3 0] := by rw [dvk, mont_nv, show (zb t 4 0).toNat = 0 by omega, Qm, ZP]
  refine nd_of rfl ?_
  rw [← mont_fin (T := dvk t 5) hm hr, e, zQ h1]
theorem mont_no {M A r : Nat} {t : List UInt64} (hM : M < zR) (hr : zR * r % M = 1) (hT : dvk t 5 < 2 * M) (hm : dvk t 5 * 18446744073709551616 ^ 4 % M = A % M) (h1 : ¬ nv [zb t 0 0, zb t 1 0, zb t 2 0, zb t 3 0] < M ∨ ¬ (((zb t 4 0).toNat : Nat) : Int) = (0 : Int)) :
    nd (nv [zb t 0 0, zb t 1 0, zb t 2 0, zb t 3 0] + zR - M) = nd (A * r % M) := by
  have hn := nv_lt (l := [zb t 0 0, zb t 1 0, zb t 2 0, zb t 3 0]) rfl
  have e : dvk t 5 = nv [zb t 0 0, zb t 1 0, zb t 2 0, zb t 3 0] + (zb t 4 0).toNat * zR := by rw [dvk, mont_nv]
  generalize nv [zb t 0 0, zb t 1 0, zb t 2 0, zb t 3 0] = N at *
  have e2 : A * r % M = dvk t 5 - M := by
    rw [← mont_fin (T := dvk t 5) hm hr, Nat.mod_eq_sub_mod (by simp only [zR] at *; omega), zQ (by omega)]
  rw [e2, ← nd_mod, ← nd_mod (dvk t 5 - M)]
  congr 1
  simp only [zR] at *
  omega
theorem ri3 : zR * 43790243014242295660885426880012836369732278457577312309071968676491870960761 % mF 3 = 1 := by decide +kernel
theorem bk3 : ((14758798090332847183 : UInt64).toNat * (zb (nd (mF 3)) 0 0).toNat + 1) % 18446744073709551616 = 0 := by decide +kernel
theorem nvm3 : dvk (nd (mF 3)) 4 = mF 3 := (dvk4 (zl _ _)).trans (Jz _)
theorem two3 (a b : Nat) : montN 43790243014242295660885426880012836369732278457577312309071968676491870960761 (mF 3) (montN 43790243014242295660885426880012836369732278457577312309071968676491870960761 (mF 3) a 46533765739406314298121036767150998762426774378559716911348521029833835802274) b = a * b % mF 3 := by
  have h : 46533765739406314298121036767150998762426774378559716911348521029833835802274 * 43790243014242295660885426880012836369732278457577312309071968676491870960761 * 43790243014242295660885426880012836369732278457577312309071968676491870960761 % mF 3 = 1 := by decide +kernel
  have e : a * 46533765739406314298121036767150998762426774378559716911348521029833835802274 * 43790243014242295660885426880012836369732278457577312309071968676491870960761 * b * 43790243014242295660885426880012836369732278457577312309071968676491870960761 = a * b * (46533765739406314298121036767150998762426774378559716911348521029833835802274 * 43790243014242295660885426880012836369732278457577312309071968676491870960761 * 43790243014242295660885426880012836369732278457577312309071968676491870960761) := by ac_rfl
  rw [montN, montN, Zq, XI, ← Zq, e, Qq, h, zI, Yy]
theorem back3_go (w : World) : Calls zB 117 #[.agg #[]] w fun e w' => e = .returned (.int .u64 14758798090332847183) ∧ Ev w [] w' [] := by
 refine d_0 [(0, .agg #[])] 3 Tryz.func117 Tryz.ntmps117 (Heap.nil _) fun Ea Eb Ec => wp_seq <| zj <| f_o <| m_m 70 [] Eb Ec fun _ _ Eh Ed Ee => d_e [2] [] Ed fun _ Ef => ze <| d_s [2] [] Ef fun _ Eg => wp_ret <| d_ret1 (t := 2) (v := .int .u64 14758798090332847183) Eg (by kernel_rfl) (by kernel_rfl) ?_
 exact ⟨rfl, Ee.pk []⟩
theorem square3_go (w : World) : Calls zB 118 #[.agg #[]] w fun e w' => e = .returned (.agg (zc (zg (nd 46533765739406314298121036767150998762426774378559716911348521029833835802274)))) ∧ Ev w [] w' [] := by
 refine d_0 [(0, .agg #[])] 4 Tryz.func118 Tryz.ntmps118 (Heap.nil _) fun Ee Ef Eg => wp_seq <| zj <| f_o <| m_m 70 [] Ef Eg fun _ _ El Eh Ei => f_o <| m_z 24 (zg (zd 4 0)) Eh Ei fun _ _ Ej Ek Eb => f_e <| ze <| wp_seq <| zj <| d_k [2,3] [] 1 Ek fun _ Ec => f_o <| zW 1 4 (zg ([9449762124159643298, 5087230966250696614, 2901921493521525849, 7413256579398063648] : List UInt64)) _ Ec Eb rfl (za (show zf ([9449762124159643298, 5087230966250696614, 2901921493521525849, 7413256579398063648] : List UInt64) = 4 from rfl)) (za (zh)) (zq _) rfl fun _ _ Ed Ea => f_e <| ze <| wp_ret <| zU (v := .agg (zc (zg ([9449762124159643298, 5087230966250696614, 2901921493521525849, 7413256579398063648] : List UInt64)))) (t := 2) (T := 24) (ad := ⟨Ej, 0, none⟩) Ed (by kernel_rfl) (by kernel_rfl) (zC (t := 24) (k := 1) (off := 0) (m := 4) (xs := zg ([9449762124159643298, 5087230966250696614, 2901921493521525849, 7413256579398063648] : List UInt64)) Ea rfl (zn (za (show zf ([9449762124159643298, 5087230966250696614, 2901921493521525849, 7413256579398063648] : List UInt64) = 4 from rfl))) (za (show zf ([9449762124159643298, 5087230966250696614, 2901921493521525849, 7413256579398063648] : List UInt64) = 4 from rfl)) (by kernel_rfl) (by kernel_rfl)) ?_
 exact ⟨by kernel_rfl, Ea.pk []⟩
theorem mont3_go (w : World) (a b : List UInt64) (ha : zf a = 4) (hb : zf b = 4) (hAM : nv a < mF 3) : Calls zB 85 #[.agg #[], .agg (zc (zg a)), .agg (zc (zg b))] w fun e w' => e = .returned (.agg (zc (zg (nd (montN 43790243014242295660885426880012836369732278457577312309071968676491870960761 (mF 3) (nv a) (nv b)))))) ∧ Ev w [] w' [] := by
 refine d_0 [(0, .agg #[]), (1, .agg (zc (zg a))), (2, .agg (zc (zg b)))] 159 Tryz.func85 Tryz.ntmps85 (Heap.nil _) fun b2 b3 b4 => wp_seq <| zj <| f_o <| m_m 72 [] b3 b4 fun _ _ Ep b5 b6 => f_o <| m_m 24 (zg a) b5 b6 fun _ _ Ee b7 bV => f_o <| m_m 24 (zg b) b7 bV fun _ _ Ec bW bX => f_o <| m_z 24 (zg (zd 4 0)) bW bX fun _ _ Ed bY E9 => ?_
 refine f_e <| ze <| wp_seq <| r_c (fun ac wo => ∃ (Eb : Nat), Env ac 159 [(4, pt Ee), (5, pt Ec), (6, pt Ed), (7, pt Eb), (8, .int .u64 14758798090332847183)] ∧ Ev w [] wo [.box Ee (zg a) 24, .box Ec (zg b) 24, .box Ed (zg (zd 4 0)) 24, .box Eb (zg (nd (mF 3))) 24]) ?_ ?_
 ·
  refine h_s (fun wv => Ev w [] wv [.box Ep [] 72]) [] 11 ?_
  have Ej := E9.trans (zN E9.heap)
  refine h_name fun G hG => ?_
  have nd539 : ∀ (ac : Act) (wo : World), Env ac 159 [(4, pt Ee), (5, pt Ec), (6, pt Ed), (28, .agg (zc (zg (nd (mF 3))))), (32, .int .u64 14758798090332847183)] → Ev w [] wo [.box Ep [] 72, .box Ee (zg a) 24, .box Ec (zg b) 24, .box Ed (zg (zd 4 0)) 24] → G 3 #[true, true, true, true, true, true, true, true, false, false, false] ac wo := by
   intro _ _ Ha Hb
   refine Qd hG ?_
   refine q_t 8 ?_
   refine m_z 24 (zg (zd 4 0)) Ha Hb fun _ _ Hc Hd EH => ⟨fun _ => EH.pk [0], ?_⟩
   refine q_t 9 ?_
   refine zW 4 4 (zg (nd (mF 3))) _ Hd EH rfl (za (zl _ _)) (za (zh)) (zq _) rfl fun _ _ He Eq => ⟨fun _ => Eq.pk [0], ?_⟩
   refine q_s [10] [] 0 He (Eq.pk [0]) fun _ Hf => ?_
   exact h_e ⟨Hc, Hf.sb, Eq.pk [1, 2, 3, 4]⟩
  have nd555 : ∀ (ac : Act) (wo : World) (Ek : Nat), Env ac 159 [(4, pt Ee), (5, pt Ec), (6, pt Ed), (7, pt Ek), (28, .agg (zc (zg (nd (mF 3))))), (31, .iface 70 (.agg #[]))] → Ev w [] wo [.box Ep [] 72, .box Ee (zg a) 24, .box Ec (zg b) 24, .box Ed (zg (zd 4 0)) 24, .box Ek (zg (zd 4 0)) 24] → G 3 #[true, true, true, true, true, true, true, false, true, false, false] ac wo := by
   intro _ _ Ek Hg Hh
   refine Qd hG ?_
   refine q_t 7 ?_
   refine c_p Hg Hh (back3_go _) fun _ _ Hi EI => ⟨fun _ => EI.pk [0], ?_⟩
   refine q_t 9 ?_
   refine zW 4 4 (zg (nd (mF 3))) [.box Ep [] 72, .box Ee (zg a) 24, .box Ec (zg b) 24, .box Ed (zg (zd 4 0)) 24, .box Ek (zg (nd (mF 3))) 24] Hi EI rfl (za (zl _ _)) (za (zh)) (zq _) rfl fun _ _ Hj Er => ⟨fun _ => Er.pk [0], ?_⟩
   refine q_s [10] [] 0 Hj (Er.pk [0]) fun _ Hk => ?_
   exact h_e ⟨Ek, Hk.sb, Er.pk [1, 2, 3, 4]⟩
  have nd573 : ∀ (ac : Act) (wo : World), Env ac 159 [(4, pt Ee), (5, pt Ec), (6, pt Ed), (28, .agg (zc (zg (nd (mF 3))))), (31, .iface 70 (.agg #[]))] → Ev w [] wo [.box Ep [] 72, .box Ee (zg a) 24, .box Ec (zg b) 24, .box Ed (zg (zd 4 0)) 24] → G 4 #[true, true, true, true, true, true, true, false, false, false, false] ac wo := by
   intro _ _ EJ EK
   refine Qd hG ?_
   refine h_ways [7, 8] (by kernel_rfl) rfl ?_
   refine ⟨?_, ?_, trivial⟩
   ·
    rintro _ rfl
    refine c_p EJ EK (back3_go _) fun _ _ Hl EL => ⟨fun _ => EL.pk [0], ?_⟩
    exact h_to hG (by kernel_rfl) (nd539 _ _ (Hl.sb) (EL.pk [0, 1, 2, 3]))
   rintro _ rfl
   refine m_z 24 (zg (zd 4 0)) EJ EK fun _ _ Hm Hn EM => ⟨fun _ => EM.pk [0], ?_⟩
   exact h_to hG (by kernel_rfl) (nd555 _ _ Hm (Hn.sb) (EM.pk [0, 1, 2, 3, 4]))
  have nd590 : ∀ (ac : Act) (wo : World) (Em : Nat), Env ac 159 [(4, pt Ee), (5, pt Ec), (6, pt Ed), (7, pt Em), (27, .iface 70 (.agg #[])), (31, .iface 70 (.agg #[]))] → Ev w [] wo [.box Ep [] 72, .box Ee (zg a) 24, .box Ec (zg b) 24, .box Ed (zg (zd 4 0)) 24, .box Em (zg (zd 4 0)) 24] → G 4 #[true, true, true, false, true, true, true, false, true, false, false] ac wo := by
   intro _ _ Em Ho Hp
   refine Qd hG ?_
   refine q_t 3 ?_
   refine c_p Ho Hp (prime3_go _) fun _ _ Hq EN => ⟨fun _ => EN.pk [0], ?_⟩
   refine q_t 7 ?_
   refine c_p Hq EN (back3_go _) fun _ _ Hr EO => ⟨fun _ => EO.pk [0], ?_⟩
   refine q_t 9 ?_
   refine zW 4 4 (zg (nd (mF 3))) _ Hr EO rfl (za (zl _ _)) (za (zh)) (zq _) rfl fun _ _ Hs Es => ⟨fun _ => Es.pk [0], ?_⟩
   refine q_s [10] [] 0 Hs (Es.pk [0]) fun _ Ht => ?_
   exact h_e ⟨Em, Ht.sb, Es.pk [1, 2, 3, 4]⟩
  refine Qd hG ?_
  refine q_r 0 (s := Instr.fieldAt 72 (pt Ep) 0) (v := pt Ep) bY (fun w hS => run_field0 (hS.heap.shape0 (k := 0) rfl) (by kernel_rfl)) (Ej.pk [0]) fun _ Hu => q_r 1 (s := Instr.loadAt 70 (pt Ep)) (v := .agg #[]) Hu (fun w hS => Za (m := 0) (cs := []) rfl (by kernel_rfl) (by kernel_rfl) (hS.heap.cells (k := 0) (off := 0) (m := 0) rfl rfl)) (Ej.pk [0]) fun _ Hv => q_s [2] [] 8 Hv (Ej.pk [0]) fun _ Hw => q_r 4 (s := Instr.fieldAt 72 (pt Ep) 0) (v := pt Ep) Hw (fun w hS => run_field0 (hS.heap.shape0 (k := 0) rfl) (by kernel_rfl)) (Ej.pk [0]) fun _ Hx => q_r 5 (s := Instr.loadAt 70 (pt Ep)) (v := .agg #[]) Hx (fun w hS => Za (m := 0) (cs := []) rfl (by kernel_rfl) (by kernel_rfl) (hS.heap.cells (k := 0) (off := 0) (m := 0) rfl rfl)) (Ej.pk [0]) fun _ Hy => q_s [6] [] 5 Hy (Ej.pk [0]) fun _ EP => ?_
  refine h_ways [3, 8] (by kernel_rfl) rfl ?_
  refine ⟨?_, ?_, trivial⟩
  ·
   rintro _ rfl
   refine c_p EP Ej (prime3_go _) fun _ _ Hz EQ => ⟨fun _ => EQ.pk [0], ?_⟩
   exact h_to hG (by kernel_rfl) (nd573 _ _ (Hz.sb) (EQ.pk [0, 1, 2, 3]))
  rintro _ rfl
  refine m_z 24 (zg (zd 4 0)) EP Ej fun _ _ HA HB ER => ⟨fun _ => ER.pk [0], ?_⟩
  exact h_to hG (by kernel_rfl) (nd590 _ _ HA (HB.sb) (ER.pk [0, 1, 2, 3, 4]))
 rintro _ _ ⟨Eb, HC, HD⟩
 refine ze <| wp_seq <| zj <| f_o <| m_z 107 (zg (zd 6 0)) HC HD fun _ _ Ea HE HF => f_e <| ze <| wp_seq <| wp_seq <| d_r [4,5,6,7,8,9,33] [] HE fun _ HG => ?_
 refine ze <| wp_block <| ZT (fun HH ac wo => ∃ (i : Nat) (t : List UInt64), HH = (5 - i : Nat) ∧ Env ac 159 [(4, pt Ee), (5, pt Ec), (6, pt Ed), (7, pt Eb), (8, .int .u64 14758798090332847183), (9, pt Ea), (33, ni i)] ∧ Ev w [] wo [.box Ea (zg t) 107, .box Ee (zg a) 24, .box Ec (zg b) 24, .box Ed (zg (zd 4 0)) 24, .box Eb (zg (nd (mF 3))) 24] ∧ (i ≤ 4) ∧ (zf t = 6) ∧ (dvk t 5 < 2 * mF 3) ∧ (dvk t 5 * 18446744073709551616 ^ i % mF 3 = nv a * dvk b i % mF 3)) ⟨_, 0, zd 6 0, rfl, HG.sb, HF.pk [4, 0, 1, 2, 3], by omega, (zh), (by rw [dvk_rep]; decide), (by rw [dvk_rep, dvk, Qm, Qw])⟩ ?_
 rintro bZ _ _ ⟨i, t, rfl, HI, Eh, hi, hlt, hT, hm⟩
 refine wp_seq <| d_r [4,5,6,7,8,9,33,34] [] HI fun _ Et => ?_
 refine ze <| wp_seq <| c_d (((i : Nat) : Int) < (4 : Int)) Et (fun HJ => ?_) (fun HJ => ?_)
 ·
  refine wp_skip <| ze <| wp_seq <| wp_block <| wp_seq <| d_r [4,5,6,7,8,9,10,33] [] Et fun _ HK => ze <| wp_seq <| d_r [4,5,6,7,8,9,10,11,33] [] HK fun _ HL => ze <| wp_seq <| wp_seq <| d_r [4,5,6,7,8,9,10,11,33,36] [] HL fun _ HM => ?_
  refine ze <| wp_block <| ZT (fun HN ac wo => ∃ (k : Nat) (u : List UInt64) (c : UInt64), HN = (5 - k : Nat) ∧ Env ac 159 [(4, pt Ee), (5, pt Ec), (6, pt Ed), (7, pt Eb), (8, .int .u64 14758798090332847183), (9, pt Ea), (10, ni i), (11, zm c), (33, ni i), (36, ni k)] ∧ Ev w [] wo [.box Ea (zg u) 107, .box Ee (zg a) 24, .box Ec (zg b) 24, .box Ed (zg (zd 4 0)) 24, .box Eb (zg (nd (mF 3))) 24] ∧ (k ≤ 4) ∧ (zf u = 6) ∧ (dvk u 5 + c.toNat * 18446744073709551616 ^ k = dvk t 5 + dvk a k * (zb b i 0).toNat)) ⟨_, 0, t, 0, rfl, HM.sb, Eh.pk [0, 1, 2, 3, 4], by omega, hlt, mont_i0⟩ ?_
  rintro b0 _ _ ⟨k, u, c, rfl, HO, En, hk, hlu, hu⟩
  refine wp_seq <| d_r [4,5,6,7,8,9,10,11,33,36,37] [] HO fun _ Eu => ?_
  refine ze <| wp_seq <| c_d (((k : Nat) : Int) < (4 : Int)) Eu (fun HP => ?_) (fun HP => ?_)
  ·
   refine wp_skip <| ze <| wp_seq <| wp_block <| wp_seq <| d_r [4,5,6,7,8,9,10,11,12,33,36] [] Eu fun _ HQ => ?_
   refine ze <| wp_seq <| r_c (fun ac wo => Env ac 159 [(4, pt Ee), (5, pt Ec), (6, pt Ed), (7, pt Eb), (8, .int .u64 14758798090332847183), (9, pt Ea), (10, ni i), (11, zm c), (12, ni k), (13, zm (YJ (zb a k 0) (zb b i 0))), (14, zm ((zb a k 0) * (zb b i 0))), (33, ni i), (36, ni k)] ∧ Ev w [] wo [.box Ea (zg u) 107, .box Ee (zg a) 24, .box Ec (zg b) 24, .box Ed (zg (zd 4 0)) 24, .box Eb (zg (nd (mF 3))) 24]) ?_ ?_
   ·
    refine h_s (fun wv => Ev w [] wv [.box Ee (zg a) 24, .box Ec (zg b) 24]) [] 12 ?_
    have Eg := En.trans (zN En.heap)
    refine q_s [0] [] 11 HQ (Eg.pk [1, 2]) fun _ HR => q_f 1 (s := Instr.indexAt 24 (pt Ee) (ni k)) (v := .pointer (some ⟨Ee, k, none⟩)) HR (fun _ => zs (e := 22) (sz := 1) (m := 4) (j := k) (o := k) (by kernel_rfl) (by kernel_rfl) (by omega) (by omega) (by omega) _) (fun _ => Eg.pk [1, 2]) fun _ HS => ?_
    have HT : k < zf a := by rw [ha]; omega
    refine q_r 2 (s := Instr.loadAt 22 (.pointer (some ⟨Ee, k, none⟩))) (v := zm (zb a k 0)) HS (fun w hS => run_load1 (by kernel_rfl) (hS.heap.cell (k := 0) rfl (zO HT))) (Eg.pk [1, 2]) fun _ HU => q_s [3] [] 8 HU (Eg.pk [1, 2]) fun _ HV => q_f 4 (s := Instr.indexAt 24 (pt Ec) (ni i)) (v := .pointer (some ⟨Ec, i, none⟩)) HV (fun _ => zs (e := 22) (sz := 1) (m := 4) (j := i) (o := i) (by kernel_rfl) (by kernel_rfl) (by omega) (by omega) (by omega) _) (fun _ => Eg.pk [1, 2]) fun _ HW => ?_
    have HX : i < zf b := by rw [hb]; omega
    refine q_r 5 (s := Instr.loadAt 22 (.pointer (some ⟨Ec, i, none⟩))) (v := zm (zb b i 0)) HW (fun w hS => run_load1 (by kernel_rfl) (hS.heap.cell (k := 1) rfl (zO HX))) (Eg.pk [1, 2]) fun _ HY => q_t 6 ?_
    refine c_p HY Eg (mul_go _ (zb a k 0) (zb b i 0)) fun _ _ HZ Ew => ⟨fun _ => Ew.pk [1, 2], ?_⟩
    refine q_s [7,8,9,10,11] [] 0 HZ (Ew.pk [1, 2]) fun _ H0 => ?_
    exact h_e ⟨H0.sb, Ew.pk [0, 1, 2, 3, 4]⟩
   rintro _ _ ⟨H1, ES⟩
   refine ze <| wp_seq <| zj <| d_k [4,5,6,7,8,9,10,11,12,13,14,33,36,50,51] [] 2 H1 fun _ H2 => f_o <| q_v (x := Instr.indexAt 107 (pt Ea) (ni k)) (v := .pointer (some ⟨Ea, k, none⟩)) H2 (zs (e := 22) (sz := 1) (m := 6) (j := k) (o := k) (by kernel_rfl) (by kernel_rfl) (by omega) (by omega) (by omega) _) fun _ H3 => f_o ?_
   have H4 : k < zf u := by rw [hlu]; omega
   refine m_v 0 k (zm (zb u k 0)) H3 ES rfl (zO H4) fun _ H5 => f_o <| XS (d := some 54) (f := 83) (args := #[zm ((zb a k 0) * (zb b i 0)), zm (zb u k 0), zm (0 : UInt64)]) (v := .tuple #[zm (z0 ((zb a k 0) * (zb b i 0)) (zb u k 0) (0 : UInt64)), zm (zS ((zb a k 0) * (zb b i 0)) (zb u k 0) (0 : UInt64))]) H5 (by kernel_rfl) (Z5 Tryz.func83 (by kernel_rfl) (by kernel_rfl) (by kernel_rfl) (by kernel_rfl) ((zb a k 0) * (zb b i 0)) (zb u k 0) (0 : UInt64) (by decide)) ?_
   intro _ H6
   refine d_e [4,5,6,7,8,9,10,11,12,13,14,15,33,36] [] H6 fun _ H7 => ze <| wp_seq <| zj <| d_k [4,5,6,7,8,9,10,11,12,13,14,15,33,36,58,59] [] 2 H7 fun _ H8 => f_o <| XS (d := some 60) (f := 83) (args := #[zm (z0 ((zb a k 0) * (zb b i 0)) (zb u k 0) (0 : UInt64)), zm c, zm (0 : UInt64)]) (v := .tuple #[zm (z0 (z0 ((zb a k 0) * (zb b i 0)) (zb u k 0) (0 : UInt64)) c (0 : UInt64)), zm (zS (z0 ((zb a k 0) * (zb b i 0)) (zb u k 0) (0 : UInt64)) c (0 : UInt64))]) H8 (by kernel_rfl) (Z5 Tryz.func83 (by kernel_rfl) (by kernel_rfl) (by kernel_rfl) (by kernel_rfl) (z0 ((zb a k 0) * (zb b i 0)) (zb u k 0) (0 : UInt64)) c (0 : UInt64) (by decide)) ?_
   intro _ H9
   refine d_e [4,5,6,7,8,9,10,11,12,13,14,15,16,33,36] [] H9 fun _ aa => ze <| zj <| d_k [4,5,6,7,8,9,10,11,12,14,33,36,63,64,69] [(4, g_i .u64 (Zj (x := YJ (zb a k 0) (zb b i 0)) (y := zS ((zb a k 0) * (zb b i 0)) (zb u k 0) (0 : UInt64)) rfl rfl)), (6, g_i .u64 (Zj (x := (YJ (zb a k 0) (zb b i 0)) + (zS ((zb a k 0) * (zb b i 0)) (zb u k 0) (0 : UInt64))) (y := zS (z0 ((zb a k 0) * (zb b i 0)) (zb u k 0) (0 : UInt64)) c (0 : UInt64)) rfl rfl))] 7 aa fun _ ab => f_o <| q_v (x := Instr.indexAt 107 (pt Ea) (ni k)) (v := .pointer (some ⟨Ea, k, none⟩)) ab (zs (e := 22) (sz := 1) (m := 6) (j := k) (o := k) (by kernel_rfl) (by kernel_rfl) (by omega) (by omega) (by omega) _) fun _ ae => f_o ?_
   have af : k < zf u := by rw [hlu]; omega
   refine m_t 0 k (zm (z0 (z0 ((zb a k 0) * (zb b i 0)) (zb u k 0) (0 : UInt64)) c (0 : UInt64))) [.box Ea (zg (zt u k (z0 (z0 ((zb a k 0) * (zb b i 0)) (zb u k 0) (0 : UInt64)) c (0 : UInt64)))) 107, .box Ee (zg a) 24, .box Ec (zg b) 24, .box Ed (zg (zd 4 0)) 24, .box Eb (zg (nd (mF 3))) 24] ae ES rfl (zO af) (Z7 _ _ _) rfl fun _ _ ag ah => d_e [4,5,6,7,8,9,10,11,12,14,33,36] [] ag fun _ ai => zw <| ze <| d_r [4,5,6,7,8,9,10,11,12,14,33,36] [(0, g_n (w_a k 1))] ai fun _ aj => ze <| ⟨_, ⟨k + 1, (zt u k (z0 (z0 ((zb a k 0) * (zb b i 0)) (zb u k 0) (0 : UInt64)) c (0 : UInt64))), (((YJ (zb a k 0) (zb b i 0)) + (zS ((zb a k 0) * (zb b i 0)) (zb u k 0) (0 : UInt64))) + (zS (z0 ((zb a k 0) * (zb b i 0)) (zb u k 0) (0 : UInt64)) c (0 : UInt64))), rfl, aj.sb, ah.pk [0, 1, 2, 3, 4], by omega, (List.length_set.trans hlu), mont_in hlu (by omega) hu⟩, ?_⟩
   omega
  refine wp_exit <| zF <| zF <| zX <| ze <| wp_seq ?_
  have hk4 : k = 4 := by omega
  rw [hk4] at hu
  have hmid := mont_mid hlu hu
  refine zj <| d_k [4,5,6,7,8,9,10,11,33,36,73] [] 1 Eu fun _ ak => f_o ?_
  have al : 4 < zf u := by rw [hlu]; omega
  refine m_v 0 4 (zm (zb u 4 0)) ak En rfl (zO al) fun _ am => d_k [4,5,6,7,8,9,10,11,33,36,74,75] [] 3 am fun _ an => f_o <| XS (d := some 76) (f := 83) (args := #[zm (zb u 4 0), zm c, zm (0 : UInt64)]) (v := .tuple #[zm (z0 (zb u 4 0) c (0 : UInt64)), zm (zS (zb u 4 0) c (0 : UInt64))]) an (by kernel_rfl) (Z5 Tryz.func83 (by kernel_rfl) (by kernel_rfl) (by kernel_rfl) (by kernel_rfl) (zb u 4 0) c (0 : UInt64) (by decide)) ?_
  intro _ ao
  refine d_k [4,5,6,7,8,9,10,11,33,36,77,78,79] [] 8 ao fun _ ap => f_o ?_
  have aq : 4 < zf u := by rw [hlu]; omega
  refine m_t 0 4 (zm (z0 (zb u 4 0) c (0 : UInt64))) _ ap En rfl (zO aq) (Z7 _ _ _) rfl fun _ _ ar au => d_k [4,5,6,7,8,9,10,11,33,36,78,80] [] 10 ar fun _ av => f_o ?_
  have aw : 5 < zf (zt u 4 (z0 (zb u 4 0) c (0 : UInt64))) := by rw [(List.length_set.trans hlu)]; omega
  refine m_t 0 5 (zm (zS (zb u 4 0) c (0 : UInt64))) [.box Ea (zg (zt (zt u 4 (z0 (zb u 4 0) c (0 : UInt64))) 5 (zS (zb u 4 0) c (0 : UInt64)))) 107, .box Ee (zg a) 24, .box Ec (zg b) 24, .box Ed (zg (zd 4 0)) 24, .box Eb (zg (nd (mF 3))) 24] av au rfl (zO aw) (Z7 _ _ _) rfl fun _ _ ax Ex => f_e <| ze <| wp_seq ?_
  have hlv : zf (zt (zt u 4 (z0 (zb u 4 0) c (0 : UInt64))) 5 (zS (zb u 4 0) c (0 : UInt64))) = 6 := by rw [Qv, Qv]; exact hlu
  generalize hve : zt (zt u 4 (z0 (zb u 4 0) c (0 : UInt64))) 5 (zS (zb u 4 0) c (0 : UInt64)) = v at hmid hlv Ex
  obtain ⟨hvP, hv5⟩ := hmid
  refine zj <| d_k [4,5,6,7,8,9,10,11,33,36,81] [] 1 ax fun _ ay => f_o ?_
  have az : 0 < zf v := by rw [hlv]; omega
  refine m_v 0 0 (zm (zb v 0 0)) ay Ex rfl (zO az) fun _ aA => d_e [4,5,6,7,8,9,10,11,17,33,36] [(3, g_i .u64 (Go.Dbr.u64_mul (x := zb v 0 0) (y := (14758798090332847183 : UInt64)) rfl rfl))] aA fun _ aB => ze <| wp_seq ?_
  obtain ⟨q, hqe⟩ : ∃ q, q = (zb v 0 0) * (14758798090332847183 : UInt64) := ⟨_, rfl⟩
  have aC := Q5 (t := 17) (v := zm ((zb v 0 0) * (14758798090332847183 : UInt64))) (u := zm q) aB (by rw [hqe])
  refine d_r [4,5,6,7,8,9,10,11,17,33,36] [] aC fun _ aD => ze <| wp_seq <| wp_seq <| d_r [4,5,6,7,8,9,10,11,17,33,36,85] [] aD fun _ aE => ?_
  refine ze <| wp_block <| ZT (fun aF ac wo => ∃ (j : Nat) (w5 : List UInt64) (c : UInt64), aF = (5 - j : Nat) ∧ Env ac 159 [(4, pt Ee), (5, pt Ec), (6, pt Ed), (7, pt Eb), (8, .int .u64 14758798090332847183), (9, pt Ea), (10, ni i), (11, zm c), (17, zm q), (33, ni i), (36, ni k), (85, ni j)] ∧ Ev w [] wo [.box Ea (zg w5) 107, .box Ee (zg a) 24, .box Ec (zg b) 24, .box Ed (zg (zd 4 0)) 24, .box Eb (zg (nd (mF 3))) 24] ∧ (j ≤ 4) ∧ (zf w5 = 6) ∧ (18446744073709551616 * (dvk w5 (j - 1) + c.toNat * 18446744073709551616 ^ (j - 1)) = dvk v j + q.toNat * dvk (nd (mF 3)) j) ∧ (∀ x, j ≤ x → zb w5 x 0 = zb v x 0)) ⟨_, 0, v, 0, rfl, aE.sb, Ex.pk [0, 1, 2, 3, 4], by omega, hlv, mont_j0, fun _ _ => rfl⟩ ?_
  rintro b1 _ _ ⟨j, w5, c, rfl, aG, Eo, hj, hlw, hv2, hs⟩
  refine wp_seq <| d_r [4,5,6,7,8,9,10,11,17,33,36,85,86] [] aG fun _ Ey => ?_
  refine ze <| wp_seq <| c_d (((j : Nat) : Int) < (4 : Int)) Ey (fun aH => ?_) (fun aH => ?_)
  ·
   refine wp_skip <| ze <| wp_seq <| wp_block <| wp_seq <| d_r [4,5,6,7,8,9,10,11,17,18,33,36,85] [] Ey fun _ aI => ze <| wp_seq <| zj <| d_k [4,5,6,7,8,9,10,11,17,18,33,36,85,89,90] [] 2 aI fun _ aJ => f_o <| q_v (x := Instr.indexAt 24 (pt Eb) (ni j)) (v := .pointer (some ⟨Eb, j, none⟩)) aJ (zs (e := 22) (sz := 1) (m := 4) (j := j) (o := j) (by kernel_rfl) (by kernel_rfl) (by omega) (by omega) (by omega) _) fun _ aK => f_o ?_
   have aL : j < zf (nd (mF 3)) := by rw [(zl _ _)]; omega
   refine m_v 4 j (zm (zb (nd (mF 3)) j 0)) aK Eo rfl (zO aL) fun _ aM => f_o <| c_p aM Eo (mul_go _ q (zb (nd (mF 3)) j 0)) fun _ _ aN Ez => d_e [4,5,6,7,8,9,10,11,17,18,19,20,33,36,85] [] aN fun _ aO => ze <| wp_seq <| zj <| d_k [4,5,6,7,8,9,10,11,17,18,19,20,33,36,85,97,98] [] 2 aO fun _ aP => f_o <| q_v (x := Instr.indexAt 107 (pt Ea) (ni j)) (v := .pointer (some ⟨Ea, j, none⟩)) aP (zs (e := 22) (sz := 1) (m := 6) (j := j) (o := j) (by kernel_rfl) (by kernel_rfl) (by omega) (by omega) (by omega) _) fun _ aQ => f_o ?_
   have aR : j < zf w5 := by rw [hlw]; omega
   refine m_v 0 j (zm (zb w5 j 0)) aQ Ez rfl (zO aR) fun _ aS => f_o <| XS (d := some 101) (f := 83) (args := #[zm (q * (zb (nd (mF 3)) j 0)), zm (zb w5 j 0), zm (0 : UInt64)]) (v := .tuple #[zm (z0 (q * (zb (nd (mF 3)) j 0)) (zb w5 j 0) (0 : UInt64)), zm (zS (q * (zb (nd (mF 3)) j 0)) (zb w5 j 0) (0 : UInt64))]) aS (by kernel_rfl) (Z5 Tryz.func83 (by kernel_rfl) (by kernel_rfl) (by kernel_rfl) (by kernel_rfl) (q * (zb (nd (mF 3)) j 0)) (zb w5 j 0) (0 : UInt64) (by decide)) ?_
   intro _ aT
   refine d_e [4,5,6,7,8,9,10,11,17,18,19,20,21,33,36,85] [] aT fun _ aU => ze <| wp_seq <| zj <| d_k [4,5,6,7,8,9,10,11,17,18,19,20,21,33,36,85,105,106] [] 2 aU fun _ aV => f_o <| XS (d := some 107) (f := 83) (args := #[zm (z0 (q * (zb (nd (mF 3)) j 0)) (zb w5 j 0) (0 : UInt64)), zm c, zm (0 : UInt64)]) (v := .tuple #[zm (z0 (z0 (q * (zb (nd (mF 3)) j 0)) (zb w5 j 0) (0 : UInt64)) c (0 : UInt64)), zm (zS (z0 (q * (zb (nd (mF 3)) j 0)) (zb w5 j 0) (0 : UInt64)) c (0 : UInt64))]) aV (by kernel_rfl) (Z5 Tryz.func83 (by kernel_rfl) (by kernel_rfl) (by kernel_rfl) (by kernel_rfl) (z0 (q * (zb (nd (mF 3)) j 0)) (zb w5 j 0) (0 : UInt64)) c (0 : UInt64) (by decide)) ?_
   intro _ aW
   refine d_e [4,5,6,7,8,9,10,11,17,18,19,20,21,22,33,36,85] [] aW fun _ aX => ze <| wp_seq <| wp_seq <| d_r [4,5,6,7,8,9,10,11,17,18,19,20,21,22,33,36,85,111] [] aX fun _ EA => ?_
   refine ze <| c_d (((j : Nat) : Int) > (0 : Int)) EA (fun aY => ?_) (fun aY => ?_)
   ·
    refine zj <| d_k [4,5,6,7,8,9,10,11,17,18,19,20,21,22,33,36,85,113,114] [(1, g_n (w_r (e := ((j : Nat) : Int) - (1 : Int)) (x := ((j - 1 : Nat) : Int)) (by omega)))] 3 EA fun _ aZ => f_o <| q_v (x := Instr.indexAt 107 (pt Ea) (ni (j - 1))) (v := .pointer (some ⟨Ea, j - 1, none⟩)) aZ (zs (e := 22) (sz := 1) (m := 6) (j := j - 1) (o := j - 1) (by kernel_rfl) (by kernel_rfl) (by omega) (by omega) (by omega) _) fun _ a0 => f_o ?_
    have a1 : j - 1 < zf w5 := by rw [hlw]; omega
    refine m_t 0 (j - 1) (zm (z0 (z0 (q * (zb (nd (mF 3)) j 0)) (zb w5 j 0) (0 : UInt64)) c (0 : UInt64))) _ a0 Ez rfl (zO a1) (Z7 _ _ _) rfl fun _ _ a2 a3 => f_e <| ze <| d_r [4,5,6,7,8,9,10,11,17,18,20,33,36,85] [(2, g_i .u64 (Zj (x := YJ q (zb (nd (mF 3)) j 0)) (y := zS (q * (zb (nd (mF 3)) j 0)) (zb w5 j 0) (0 : UInt64)) rfl rfl)), (4, g_i .u64 (Zj (x := (YJ q (zb (nd (mF 3)) j 0)) + (zS (q * (zb (nd (mF 3)) j 0)) (zb w5 j 0) (0 : UInt64))) (y := zS (z0 (q * (zb (nd (mF 3)) j 0)) (zb w5 j 0) (0 : UInt64)) c (0 : UInt64)) rfl rfl))] a2 fun _ a4 => zw <| ze <| d_r [4,5,6,7,8,9,10,11,17,18,20,33,36,85] [(0, g_n (w_a j 1))] a4 fun _ a5 => ze <| ⟨_, ⟨j + 1, (zt w5 (j - 1) (z0 (z0 (q * (zb (nd (mF 3)) j 0)) (zb w5 j 0) (0 : UInt64)) c (0 : UInt64))), (((YJ q (zb (nd (mF 3)) j 0)) + (zS (q * (zb (nd (mF 3)) j 0)) (zb w5 j 0) (0 : UInt64))) + (zS (z0 (q * (zb (nd (mF 3)) j 0)) (zb w5 j 0) (0 : UInt64)) c (0 : UInt64))), rfl, a5.sb, a3.pk [0, 1, 2, 3, 4], by omega, (List.length_set.trans hlw), mont_more hlw (by omega) (by omega) (hs j (Qg _)) hv2, fun x hx => by rw [QO _ (by omega)]; exact hs x (by omega)⟩, ?_⟩
    omega
   refine wp_skip <| ze <| d_r [4,5,6,7,8,9,10,11,17,18,20,33,36,85] [(2, g_i .u64 (Zj (x := YJ q (zb (nd (mF 3)) j 0)) (y := zS (q * (zb (nd (mF 3)) j 0)) (zb w5 j 0) (0 : UInt64)) rfl rfl)), (4, g_i .u64 (Zj (x := (YJ q (zb (nd (mF 3)) j 0)) + (zS (q * (zb (nd (mF 3)) j 0)) (zb w5 j 0) (0 : UInt64))) (y := zS (z0 (q * (zb (nd (mF 3)) j 0)) (zb w5 j 0) (0 : UInt64)) c (0 : UInt64)) rfl rfl))] EA fun _ a6 => zw <| ze <| d_r [4,5,6,7,8,9,10,11,17,18,20,33,36,85] [(0, g_n (w_a j 1))] a6 fun _ a7 => ze ?_
   have hj0 : j = 0 := by omega
   rw [hj0] at hv2
   refine ⟨_, ⟨j + 1, w5, (((YJ q (zb (nd (mF 3)) j 0)) + (zS (q * (zb (nd (mF 3)) j 0)) (zb w5 j 0) (0 : UInt64))) + (zS (z0 (q * (zb (nd (mF 3)) j 0)) (zb w5 j 0) (0 : UInt64)) c (0 : UInt64))), rfl, a7.sb, Ez.pk [0, 1, 2, 3, 4], by omega, hlw, (by rw [hj0]; exact mont_first bk3 hqe (hs 0 (by omega)) (mont_c0 hv2)), fun x hx => hs x (by omega)⟩, ?_⟩
   omega
  refine wp_exit <| zF <| zF <| zX <| ze <| wp_seq ?_
  have hj4 : j = 4 := by omega
  rw [hj4] at hv2
  have hmo := mont_out hlw (hs 4 (by omega)) (hs 5 (by omega)) hv5 hv2
  refine d_r [4,5,6,7,8,9,10,11,17,23,33,36,85] [] Ey fun _ a8 => ze <| wp_seq <| zj <| d_k [4,5,6,7,8,9,10,11,17,23,33,36,85,123] [] 1 a8 fun _ a9 => f_o ?_
  have ba : 4 < zf w5 := by rw [hlw]; omega
  refine m_v 0 4 (zm (zb w5 4 0)) a9 Eo rfl (zO ba) fun _ bb => d_k [4,5,6,7,8,9,10,11,17,23,33,36,85,124,125] [] 3 bb fun _ bc => f_o <| XS (d := some 126) (f := 83) (args := #[zm (zb w5 4 0), zm c, zm (0 : UInt64)]) (v := .tuple #[zm (z0 (zb w5 4 0) c (0 : UInt64)), zm (zS (zb w5 4 0) c (0 : UInt64))]) bc (by kernel_rfl) (Z5 Tryz.func83 (by kernel_rfl) (by kernel_rfl) (by kernel_rfl) (by kernel_rfl) (zb w5 4 0) c (0 : UInt64) (by decide)) ?_
  intro _ bd
  refine d_k [4,5,6,7,8,9,10,11,17,23,33,36,85,127,128,129] [] 8 bd fun _ be => f_o ?_
  have bf : 3 < zf w5 := by rw [hlw]; omega
  refine m_t 0 3 (zm (z0 (zb w5 4 0) c (0 : UInt64))) [.box Ea (zg (zt w5 3 (z0 (zb w5 4 0) c (0 : UInt64)))) 107, .box Ee (zg a) 24, .box Ec (zg b) 24, .box Ed (zg (zd 4 0)) 24, .box Eb (zg (nd (mF 3))) 24] be Eo rfl (zO bf) (Z7 _ _ _) rfl fun _ _ bg ET => d_e [4,5,6,7,8,9,10,11,17,23,33,36,85] [] bg fun _ bh => ze <| zj <| d_k [4,5,6,7,8,9,10,11,17,23,33,36,85,130] [] 1 bh fun _ bi => f_o ?_
  have bj : 5 < zf (zt w5 3 (z0 (zb w5 4 0) c (0 : UInt64))) := by rw [(List.length_set.trans hlw)]; omega
  refine m_v 0 5 (zm (zb (zt w5 3 (z0 (zb w5 4 0) c (0 : UInt64))) 5 0)) bi ET rfl (zO bj) fun _ bk => d_k [4,5,6,7,8,9,10,11,17,33,36,85,133,134] [(3, g_i .u64 (Zj (x := zb (zt w5 3 (z0 (zb w5 4 0) c (0 : UInt64))) 5 0) (y := zS (zb w5 4 0) c (0 : UInt64)) rfl rfl))] 5 bk fun _ bl => f_o ?_
  have bm : 4 < zf (zt w5 3 (z0 (zb w5 4 0) c (0 : UInt64))) := by rw [(List.length_set.trans hlw)]; omega
  refine m_t 0 4 (zm ((zb (zt w5 3 (z0 (zb w5 4 0) c (0 : UInt64))) 5 0) + (zS (zb w5 4 0) c (0 : UInt64)))) _ bl ET rfl (zO bm) (Z7 _ _ _) rfl fun _ _ bn bo => f_e <| zw <| ze <| d_r [4,5,6,7,8,9,10,11,17,33,36,85] [(0, g_n (w_a i 1))] bn fun _ bp => ze ?_
  have hnx := mont_next hAM hT hm (hmo.trans (by rw [hvP, dvk4 ha, nvm3]))
  refine ⟨_, ⟨i + 1, (zt (zt w5 3 (z0 (zb w5 4 0) c (0 : UInt64))) 4 ((zb (zt w5 3 (z0 (zb w5 4 0) c (0 : UInt64))) 5 0) + (zS (zb w5 4 0) c (0 : UInt64)))), rfl, bp.sb, bo.pk [0, 1, 2, 3, 4], by omega, (by rw [Qv, Qv]; exact hlw), hnx.1, hnx.2⟩, ?_⟩
  omega
 refine wp_exit <| zF <| zF <| zX <| ze <| wp_seq ?_
 have hi4 : i = 4 := by omega
 rw [hi4, dvk4 hb] at hm
 refine zj <| d_k [4,5,6,7,8,9,33,136] [] 1 Et fun _ bq => f_o ?_
 have br : 0 < zf t := by rw [hlt]; omega
 refine m_v 0 0 (zm (zb t 0 0)) bq Eh rfl (zO br) fun _ bs => d_k [4,5,6,7,8,9,33,137,138] [] 3 bs fun _ bt => f_o ?_
 have bu : 1 < zf t := by rw [hlt]; omega
 refine m_v 0 1 (zm (zb t 1 0)) bt Eh rfl (zO bu) fun _ bv => d_k [4,5,6,7,8,9,33,137,139,140] [] 5 bv fun _ bw => f_o ?_
 have bx : 2 < zf t := by rw [hlt]; omega
 refine m_v 0 2 (zm (zb t 2 0)) bw Eh rfl (zO bx) fun _ bz => d_k [4,5,6,7,8,9,33,137,139,141,142] [] 7 bz fun _ bA => f_o ?_
 have bB : 3 < zf t := by rw [hlt]; omega
 refine m_v 0 3 (zm (zb t 3 0)) bA Eh rfl (zO bB) fun _ bC => d_k [4,5,6,7,8,9,33,144] [] 9 bC fun _ bD => f_o <| m_z 24 (zg (zd 4 0)) bD Eh fun _ _ Ei bE bF => f_o <| zW 5 4 (zg ([zb t 0 0, zb t 1 0, zb t 2 0, zb t 3 0] : List UInt64)) [.box Ea (zg t) 107, .box Ee (zg a) 24, .box Ec (zg b) 24, .box Ed (zg (zd 4 0)) 24, .box Eb (zg (nd (mF 3))) 24, .box Ei (zg ([zb t 0 0, zb t 1 0, zb t 2 0, zb t 3 0] : List UInt64)) 24] bE bF rfl (za (show zf ([zb t 0 0, zb t 1 0, zb t 2 0, zb t 3 0] : List UInt64) = 4 from rfl)) (za (zh)) (zq _) rfl fun _ _ bG bH => f_e <| ze <| wp_seq <| wp_seq <| zj <| f_o <| c_l [5,4] (M := [.box Ei (zg ([zb t 0 0, zb t 1 0, zb t 2 0, zb t 3 0] : List UInt64)) 24, .box Eb (zg (nd (mF 3))) 24]) bG bH (fun hM962 => less_go _ Ei Eb ([zb t 0 0, zb t 1 0, zb t 2 0, zb t 3 0] : List UInt64) (nd (mF 3)) (show zf ([zb t 0 0, zb t 1 0, zb t 2 0, zb t 3 0] : List UInt64) = 4 from rfl) (zl _ _) hM962) ?_
 rintro _ _ ⟨rfl, bI⟩
 refine ⟨_, _, [.box Ei (zg ([zb t 0 0, zb t 1 0, zb t 2 0, zb t 3 0] : List UInt64)) 24, .box Eb (zg (nd (mF 3))) 24, .box Ea (zg t) 107, .box Ee (zg a) 24, .box Ec (zg b) 24, .box Ed (zg (zd 4 0)) 24], rfl, bI, by kernel_rfl, fun _ bJ Ef => ?_⟩
 refine d_k [4,5,6,7,8,9,24,33,146] [] 2 bJ fun _ EU => ?_
 rcases Bool.eq_false_or_eq_true (decide (nv ([zb t 0 0, zb t 1 0, zb t 2 0, zb t 3 0] : List UInt64) < nv (nd (mF 3)))) with El | El
 ·
  have bK := EU.fx (t := 146) (congrArg Value.bool El)
  have hp973 : nv ([zb t 0 0, zb t 1 0, zb t 2 0, zb t 3 0] : List UInt64) < nv (nd (mF 3)) := of_decide_eq_true El
  refine d_k [4,5,6,7,8,9,24,33,146,147] [] 3 bK fun _ bL => f_o ?_
  have bM : 4 < zf t := by rw [hlt]; omega
  refine m_v 2 4 (zm (zb t 4 0)) bL Ef rfl (zO bM) fun _ bN => d_e [4,5,6,7,8,9,24,33,150] [] bN fun _ EB => ?_
  refine ze <| c_e ((zk (zb t 4 0) : Nat) : Int) (0 : Int) EB (fun bO => ?_) (fun bO => ?_)
  ·
   refine wp_seq <| zj <| f_o <| Zn 0 4 (zg ([zb t 0 0, zb t 1 0, zb t 2 0, zb t 3 0] : List UInt64)) EB Ef rfl (za (show zf ([zb t 0 0, zb t 1 0, zb t 2 0, zb t 3 0] : List UInt64) = 4 from rfl)) fun _ bP => f_o <| zW 5 4 (zg ([zb t 0 0, zb t 1 0, zb t 2 0, zb t 3 0] : List UInt64)) _ bP Ef rfl (za (show zf ([zb t 0 0, zb t 1 0, zb t 2 0, zb t 3 0] : List UInt64) = 4 from rfl)) (za (zh)) (zq _) rfl fun _ _ bQ EV => f_e <| ze <| wp_ret <| then_ret <| zU (v := .agg (zc (zg ([zb t 0 0, zb t 1 0, zb t 2 0, zb t 3 0] : List UInt64)))) (t := 6) (T := 24) (ad := ⟨Ed, 0, none⟩) bQ (by kernel_rfl) (by kernel_rfl) (zC (t := 24) (k := 5) (off := 0) (m := 4) (xs := zg ([zb t 0 0, zb t 1 0, zb t 2 0, zb t 3 0] : List UInt64)) EV rfl (zn (za (show zf ([zb t 0 0, zb t 1 0, zb t 2 0, zb t 3 0] : List UInt64) = 4 from rfl))) (za (show zf ([zb t 0 0, zb t 1 0, zb t 2 0, zb t 3 0] : List UInt64) = 4 from rfl)) (by kernel_rfl) (by kernel_rfl)) ?_
   have e : ([zb t 0 0, zb t 1 0, zb t 2 0, zb t 3 0] : List UInt64) = nd (montN 43790243014242295660885426880012836369732278457577312309071968676491870960761 (mF 3) (nv a) (nv b)) := mont_yes ri3 hm (by rw [← Jz 3]; assumption) (by assumption)
   exact ⟨congrArg (fun l : List UInt64 => Ending.returned (Value.agg (zg l).toArray)) e, EV.pk []⟩
  refine wp_skip <| ze <| wp_seq <| zj <| f_o <| Zn 0 4 (zg ([zb t 0 0, zb t 1 0, zb t 2 0, zb t 3 0] : List UInt64)) EB Ef rfl (za (show zf ([zb t 0 0, zb t 1 0, zb t 2 0, zb t 3 0] : List UInt64) = 4 from rfl)) fun _ bR => f_o <| Zn 1 4 (zg (nd (mF 3))) bR Ef rfl (za (zl _ _)) fun _ bS => f_o <| c_p bS Ef (JK _ ([zb t 0 0, zb t 1 0, zb t 2 0, zb t 3 0] : List UInt64) (nd (mF 3)) (show zf ([zb t 0 0, zb t 1 0, zb t 2 0, zb t 3 0] : List UInt64) = 4 from rfl) (zl _ _)) fun _ _ bT bU => d_k [4,5,6,7,8,9,24,33,156] [] 6 bT fun _ EW => f_o <| zW 0 4 (zg (nd (nv ([zb t 0 0, zb t 1 0, zb t 2 0, zb t 3 0] : List UInt64) + zR - nv (nd (mF 3))))) [.box Ei (zg (nd (nv ([zb t 0 0, zb t 1 0, zb t 2 0, zb t 3 0] : List UInt64) + zR - nv (nd (mF 3))))) 24, .box Eb (zg (nd (mF 3))) 24, .box Ea (zg t) 107, .box Ee (zg a) 24, .box Ec (zg b) 24, .box Ed (zg (zd 4 0)) 24] EW bU rfl (za (zl _ _)) (za (show zf ([zb t 0 0, zb t 1 0, zb t 2 0, zb t 3 0] : List UInt64) = 4 from rfl)) (zq _) rfl fun _ _ EX EC => f_e <| ze <| wp_seq <| zj <| f_o <| Zn 0 4 (zg (nd (nv ([zb t 0 0, zb t 1 0, zb t 2 0, zb t 3 0] : List UInt64) + zR - nv (nd (mF 3))))) EX EC rfl (za (zl _ _)) fun _ EY => ?_
  refine f_o <| zW 5 4 (zg (nd (nv ([zb t 0 0, zb t 1 0, zb t 2 0, zb t 3 0] : List UInt64) + zR - nv (nd (mF 3))))) _ EY EC rfl (za (zl _ _)) (za (zh)) (zq _) rfl fun _ _ EZ ED => f_e <| ze <| wp_ret <| zU (v := .agg (zc (zg (nd (nv ([zb t 0 0, zb t 1 0, zb t 2 0, zb t 3 0] : List UInt64) + zR - nv (nd (mF 3))))))) (t := 6) (T := 24) (ad := ⟨Ed, 0, none⟩) EZ (by kernel_rfl) (by kernel_rfl) (zC (t := 24) (k := 5) (off := 0) (m := 4) (xs := zg (nd (nv ([zb t 0 0, zb t 1 0, zb t 2 0, zb t 3 0] : List UInt64) + zR - nv (nd (mF 3))))) ED rfl (zn (za (zl _ _))) (za (zl _ _)) (by kernel_rfl) (by kernel_rfl)) ?_
  have e : nd (nv ([zb t 0 0, zb t 1 0, zb t 2 0, zb t 3 0] : List UInt64) + zR - nv (nd (mF 3))) = nd (montN 43790243014242295660885426880012836369732278457577312309071968676491870960761 (mF 3) (nv a) (nv b)) := by rw [Jz]; exact mont_no (mF_lt _) ri3 hT hm (by rw [← Jz 3]; first | (left; assumption) | (right; assumption))
  exact ⟨congrArg (fun l : List UInt64 => Ending.returned (Value.agg (zg l).toArray)) e, ED.pk []⟩
 have E0 := EU.fx (t := 146) (congrArg Value.bool El)
 have hp1012 : ¬ (nv ([zb t 0 0, zb t 1 0, zb t 2 0, zb t 3 0] : List UInt64) < nv (nd (mF 3))) := of_decide_eq_false El
 refine d_e [4,5,6,7,8,9,24,33,150] [] E0 fun _ EE => ze <| c_f EE ?_
 refine wp_skip <| ze <| wp_seq <| zj <| f_o <| Zn 0 4 (zg ([zb t 0 0, zb t 1 0, zb t 2 0, zb t 3 0] : List UInt64)) EE Ef rfl (za (show zf ([zb t 0 0, zb t 1 0, zb t 2 0, zb t 3 0] : List UInt64) = 4 from rfl)) fun _ E1 => f_o <| Zn 1 4 (zg (nd (mF 3))) E1 Ef rfl (za (zl _ _)) fun _ E2 => f_o <| c_p E2 Ef (JK _ ([zb t 0 0, zb t 1 0, zb t 2 0, zb t 3 0] : List UInt64) (nd (mF 3)) (show zf ([zb t 0 0, zb t 1 0, zb t 2 0, zb t 3 0] : List UInt64) = 4 from rfl) (zl _ _)) fun _ _ E3 E4 => d_k [4,5,6,7,8,9,24,33,156] [] 6 E3 fun _ E5 => f_o <| zW 0 4 (zg (nd (nv ([zb t 0 0, zb t 1 0, zb t 2 0, zb t 3 0] : List UInt64) + zR - nv (nd (mF 3))))) [.box Ei (zg (nd (nv ([zb t 0 0, zb t 1 0, zb t 2 0, zb t 3 0] : List UInt64) + zR - nv (nd (mF 3))))) 24, .box Eb (zg (nd (mF 3))) 24, .box Ea (zg t) 107, .box Ee (zg a) 24, .box Ec (zg b) 24, .box Ed (zg (zd 4 0)) 24] E5 E4 rfl (za (zl _ _)) (za (show zf ([zb t 0 0, zb t 1 0, zb t 2 0, zb t 3 0] : List UInt64) = 4 from rfl)) (zq _) rfl fun _ _ E6 EF => f_e <| ze <| wp_seq <| zj <| f_o <| Zn 0 4 (zg (nd (nv ([zb t 0 0, zb t 1 0, zb t 2 0, zb t 3 0] : List UInt64) + zR - nv (nd (mF 3))))) E6 EF rfl (za (zl _ _)) fun _ E7 => ?_
 refine f_o <| zW 5 4 (zg (nd (nv ([zb t 0 0, zb t 1 0, zb t 2 0, zb t 3 0] : List UInt64) + zR - nv (nd (mF 3))))) _ E7 EF rfl (za (zl _ _)) (za (zh)) (zq _) rfl fun _ _ E8 EG => f_e <| ze <| wp_ret <| zU (v := .agg (zc (zg (nd (nv ([zb t 0 0, zb t 1 0, zb t 2 0, zb t 3 0] : List UInt64) + zR - nv (nd (mF 3))))))) (t := 6) (T := 24) (ad := ⟨Ed, 0, none⟩) E8 (by kernel_rfl) (by kernel_rfl) (zC (t := 24) (k := 5) (off := 0) (m := 4) (xs := zg (nd (nv ([zb t 0 0, zb t 1 0, zb t 2 0, zb t 3 0] : List UInt64) + zR - nv (nd (mF 3))))) EG rfl (zn (za (zl _ _))) (za (zl _ _)) (by kernel_rfl) (by kernel_rfl)) ?_
 have e : nd (nv ([zb t 0 0, zb t 1 0, zb t 2 0, zb t 3 0] : List UInt64) + zR - nv (nd (mF 3))) = nd (montN 43790243014242295660885426880012836369732278457577312309071968676491870960761 (mF 3) (nv a) (nv b)) := by rw [Jz]; exact mont_no (mF_lt _) ri3 hT hm (by rw [← Jz 3]; first | (left; assumption) | (right; assumption))
 exact ⟨congrArg (fun l : List UInt64 => Ending.returned (Value.agg (zg l).toArray)) e, EG.pk []⟩
theorem mn3_lt (x y : Nat) : montN 43790243014242295660885426880012836369732278457577312309071968676491870960761 (mF 3) x y < mF 3 := Z4 _ (by decide)
theorem mn3 (x y : Nat) : nv (nd (montN 43790243014242295660885426880012836369732278457577312309071968676491870960761 (mF 3) x y)) = montN 43790243014242295660885426880012836369732278457577312309071968676491870960761 (mF 3) x y := Z6 (Nat.lt_trans (mn3_lt x y) (mF_lt _))
theorem rmul3 (x y : Nat) : nd (montN 43790243014242295660885426880012836369732278457577312309071968676491870960761 (mF 3) (nv (nd (montN 43790243014242295660885426880012836369732278457577312309071968676491870960761 (mF 3) x (nv (nd 46533765739406314298121036767150998762426774378559716911348521029833835802274))))) y) = nd (x * y % mF 3) := by
  rw [mn3, Z6 (n := 46533765739406314298121036767150998762426774378559716911348521029833835802274) (by decide), two3]
theorem ring3_go (w : World) (a b : List UInt64) (ha : zf a = 4) (hb : zf b = 4) (hAM : nv a < mF 3) : Calls zB 49 #[.agg #[], .agg (zc (zg a)), .agg (zc (zg b))] w fun e w' => e = .returned (.agg (zc (zg (nd (nv a * nv b % mF 3))))) ∧ Ev w [] w' [] := by
 refine d_0 [(0, .agg #[]), (1, .agg (zc (zg a))), (2, .agg (zc (zg b)))] 17 Tryz.func49 Tryz.ntmps49 (Heap.nil _) fun EC ED EE => wp_seq <| zj <| f_o <| m_m 72 [] ED EE fun _ _ Eh EF EG => f_o <| m_m 24 (zg a) EF EG fun _ _ EB EH Ex => f_o <| m_m 24 (zg b) EH Ex fun _ _ Ei Ey Ez => f_o <| m_z 24 (zg (zd 4 0)) Ey Ez fun _ _ Eg EA Ej => ?_
 refine f_e <| ze <| wp_seq <| r_c (fun ac wo => Env ac 17 [(6, pt Eg)] ∧ Ev w [] wo [.box Eg (zg (nd (montN 43790243014242295660885426880012836369732278457577312309071968676491870960761 (mF 3) (nv (nd (montN 43790243014242295660885426880012836369732278457577312309071968676491870960761 (mF 3) (nv a) (nv (nd 46533765739406314298121036767150998762426774378559716911348521029833835802274))))) (nv b)))) 24]) ?_ ?_
 ·
  refine h_s (fun wv => Ev w [] wv [.box Eh [] 72, .box EB (zg a) 24, .box Ei (zg b) 24]) [] 11 ?_
  have Ea := Ej.trans (zN Ej.heap)
  refine q_r 0 (s := Instr.loadAt 72 (pt Eh)) (v := .agg #[]) EA (fun w hS => Za (m := 0) (cs := []) rfl (by kernel_rfl) (by kernel_rfl) (hS.heap.cells (k := 0) (off := 0) (m := 0) rfl rfl)) (Ea.pk [0, 1, 2]) fun _ Ek => q_r 1 (s := Instr.loadAt 72 (pt Eh)) (v := .agg #[]) Ek (fun w hS => Za (m := 0) (cs := []) rfl (by kernel_rfl) (by kernel_rfl) (hS.heap.cells (k := 0) (off := 0) (m := 0) rfl rfl)) (Ea.pk [0, 1, 2]) fun _ El => q_r 2 (s := Instr.loadAt 24 (pt EB)) (v := .agg (zc (zg a))) El (fun w hS => Za (m := 4) (cs := zg a) (za ha) (by kernel_rfl) (by kernel_rfl) (hS.heap.cells (k := 1) (off := 0) (m := 4) rfl (zn (za ha)))) (Ea.pk [0, 1, 2]) fun _ Em => q_r 3 (s := Instr.fieldAt 72 (pt Eh) 0) (v := pt Eh) Em (fun w hS => run_field0 (hS.heap.shape0 (k := 0) rfl) (by kernel_rfl)) (Ea.pk [0, 1, 2]) fun _ En => q_r 4 (s := Instr.loadAt 70 (pt Eh)) (v := .agg #[]) En (fun w hS => Za (m := 0) (cs := []) rfl (by kernel_rfl) (by kernel_rfl) (hS.heap.cells (k := 0) (off := 0) (m := 0) rfl rfl)) (Ea.pk [0, 1, 2]) fun _ Eo => q_s [5] [] 5 Eo (Ea.pk [0, 1, 2]) fun _ Ep => ?_
  refine q_r 8 (s := Instr.loadAt 24 (pt Ei)) (v := .agg (zc (zg b))) Ep (fun w hS => Za (m := 4) (cs := zg b) (za hb) (by kernel_rfl) (by kernel_rfl) (hS.heap.cells (k := 2) (off := 0) (m := 4) rfl (zn (za hb)))) (Ea.pk [0, 1, 2]) fun _ Eq => q_t 6 ?_
  refine c_p Eq Ea (square3_go _) fun _ _ Er Eb => ⟨fun _ => Eb.pk [0, 1, 2], ?_⟩
  refine q_t 7 ?_
  refine c_p Er Eb (mont3_go _ a (nd 46533765739406314298121036767150998762426774378559716911348521029833835802274) ha (zl _ _) hAM) fun _ _ Es Ec => ⟨fun _ => Ec.pk [0, 1, 2], ?_⟩
  refine q_t 9 ?_
  refine c_p Es Ec (mont3_go _ (nd (montN 43790243014242295660885426880012836369732278457577312309071968676491870960761 (mF 3) (nv a) (nv (nd 46533765739406314298121036767150998762426774378559716911348521029833835802274)))) b (zl _ _) hb (by rw [mn3]; exact mn3_lt _ _)) fun _ _ Et Ed => ⟨fun _ => Ed.pk [0, 1, 2], ?_⟩
  refine q_t 10 ?_
  refine zW 3 4 (zg (nd (montN 43790243014242295660885426880012836369732278457577312309071968676491870960761 (mF 3) (nv (nd (montN 43790243014242295660885426880012836369732278457577312309071968676491870960761 (mF 3) (nv a) (nv (nd 46533765739406314298121036767150998762426774378559716911348521029833835802274))))) (nv b)))) _ Et Ed rfl (za (zl _ _)) (za (zh)) (zq _) rfl fun _ _ Eu Ee => ⟨fun _ => Ee.pk [0, 1, 2], ?_⟩
  exact h_e ⟨Eu.sb, Ee.pk [3]⟩
 rintro _ _ ⟨Ew, Ef⟩
 refine ze <| wp_ret <| zU (v := .agg (zc (zg (nd (montN 43790243014242295660885426880012836369732278457577312309071968676491870960761 (mF 3) (nv (nd (montN 43790243014242295660885426880012836369732278457577312309071968676491870960761 (mF 3) (nv a) (nv (nd 46533765739406314298121036767150998762426774378559716911348521029833835802274))))) (nv b)))))) (t := 6) (T := 24) (ad := ⟨Eg, 0, none⟩) Ew (by kernel_rfl) (by kernel_rfl) (zC (t := 24) (k := 0) (off := 0) (m := 4) (xs := zg (nd (montN 43790243014242295660885426880012836369732278457577312309071968676491870960761 (mF 3) (nv (nd (montN 43790243014242295660885426880012836369732278457577312309071968676491870960761 (mF 3) (nv a) (nv (nd 46533765739406314298121036767150998762426774378559716911348521029833835802274))))) (nv b)))) Ef rfl (zn (za (zl _ _))) (za (zl _ _)) (by kernel_rfl) (by kernel_rfl)) ?_
 have e : nd (montN 43790243014242295660885426880012836369732278457577312309071968676491870960761 (mF 3) (nv (nd (montN 43790243014242295660885426880012836369732278457577312309071968676491870960761 (mF 3) (nv a) (nv (nd 46533765739406314298121036767150998762426774378559716911348521029833835802274))))) (nv b)) = nd (nv a * nv b % mF 3) := rmul3 _ _
 exact ⟨congrArg (fun l : List UInt64 => Ending.returned (Value.agg (zg l).toArray)) e, Ef.pk []⟩
theorem mulr3 (x y : Nat) : nd (nv (nd (x % mF 3)) * nv (nd (y % mF 3)) % mF 3) = nd (zo 3 x y) := by
  rw [Z6 (Qh (by decide)), Z6 (Qh (by decide)), ← Qq]
  rfl
theorem mul3_go (w : World) (a b : List UInt64) (ha : zf a = 4) (hb : zf b = 4) : Calls zB 17 #[.int .i64 3, .agg (zc (zg a)), .agg (zc (zg b))] w fun e w' => e = .returned (.agg (zc (zg (nd (zo 3 (nv a) (nv b)))))) ∧ Ev w [] w' [] := by
 refine d_0 [(0, .int .i64 3), (1, .agg (zc (zg a))), (2, .agg (zc (zg b)))] 45 Tryz.func17 Tryz.ntmps17 (Heap.nil _) fun EJ EK EL => wp_seq <| zj <| f_o <| m_m 24 (zg a) EK EL fun _ _ Ei EM EN => f_o <| m_m 24 (zg b) EM EN fun _ _ Ej EO Ez => f_o <| m_z 24 (zg (zd 4 0)) EO Ez fun _ _ Ec EA EB => f_e <| ze <| wp_seq <| d_s [0,4,5,6,9] [] EA fun _ EC => wp_block <| d_s [0,4,5,6,9,10] [] EC fun _ Ek => ?_
 refine c_f Ek ?_
 refine d_s [0,4,5,6,9,15] [] Ek fun _ El => c_f El ?_
 refine d_s [0,4,5,6,9,20] [] El fun _ Em => c_t Em ?_
 refine wp_seq <| zj <| d_k [0,4,5,6,9,22] [] 1 Em fun _ ED => f_o <| c_p ED EB (modulus_go _ 3) fun _ _ EE EF => f_o <| m_z 24 (zg (zd 4 0)) EE EF fun _ _ Ea EG EH => f_o <| zW 3 4 (zg (nd (mF 3))) _ EG EH rfl (za (zl _ _)) (za (zh)) (zq _) rfl fun _ _ EI En => ?_
 refine f_e <| ze <| wp_seq <| r_c (fun ac wo => Env ac 45 [(0, .int .i64 3), (4, pt Ei), (5, pt Ej), (6, pt Ec), (7, pt Ea), (9, .int .i64 3)] ∧ Ev w [] wo [.box Ei (zg a) 24, .box Ej (zg b) 24, .box Ec (zg (nd (nv (nd (nv a % mF 3)) * nv (nd (nv b % mF 3)) % mF 3))) 24, .box Ea (zg (nd (mF 3))) 24]) ?_ ?_
 ·
  refine h_s (fun wv => Ev w [] wv [.box Ei (zg a) 24, .box Ej (zg b) 24, .box Ea (zg (nd (mF 3))) 24]) [] 9 ?_
  have Eb := En.trans (zN En.heap)
  refine q_s [0] [] 8 EI (Eb.pk [0, 1, 3]) fun _ Eo => q_r 1 (s := Instr.loadAt 24 (pt Ei)) (v := .agg (zc (zg a))) Eo (fun w hS => Za (m := 4) (cs := zg a) (za ha) (by kernel_rfl) (by kernel_rfl) (hS.heap.cells (k := 0) (off := 0) (m := 4) rfl (zn (za ha)))) (Eb.pk [0, 1, 3]) fun _ Ep => q_r 2 (s := Instr.loadAt 24 (pt Ea)) (v := .agg (zc (zg (nd (mF 3))))) Ep (fun w hS => Za (m := 4) (cs := zg (nd (mF 3))) (za (zl _ _)) (by kernel_rfl) (by kernel_rfl) (hS.heap.cells (k := 2) (off := 0) (m := 4) rfl (zn (za (zl _ _))))) (Eb.pk [0, 1, 3]) fun _ Eq => q_r 4 (s := Instr.loadAt 24 (pt Ej)) (v := .agg (zc (zg b))) Eq (fun w hS => Za (m := 4) (cs := zg b) (za hb) (by kernel_rfl) (by kernel_rfl) (hS.heap.cells (k := 1) (off := 0) (m := 4) rfl (zn (za hb)))) (Eb.pk [0, 1, 3]) fun _ Er => q_r 5 (s := Instr.loadAt 24 (pt Ea)) (v := .agg (zc (zg (nd (mF 3))))) Er (fun w hS => Za (m := 4) (cs := zg (nd (mF 3))) (za (zl _ _)) (by kernel_rfl) (by kernel_rfl) (hS.heap.cells (k := 2) (off := 0) (m := 4) rfl (zn (za (zl _ _))))) (Eb.pk [0, 1, 3]) fun _ Es => q_t 3 ?_
  refine c_p Es Eb (right_mF _ 3 (by decide) a ha) fun _ _ Et Ed => ⟨fun _ => Ed.pk [0, 1, 3], ?_⟩
  refine q_t 6 ?_
  refine c_p Et Ed (right_mF _ 3 (by decide) b hb) fun _ _ Eu Ee => ⟨fun _ => Ee.pk [0, 1, 3], ?_⟩
  refine q_t 7 ?_
  refine c_p Eu Ee (ring3_go _ (nd (nv a % mF 3)) (nd (nv b % mF 3)) (zl _ _) (zl _ _) (by rw [Z6 (Qh (by decide))]; exact Z4 _ (by decide))) fun _ _ Ew Ef => ⟨fun _ => Ef.pk [0, 1, 3], ?_⟩
  refine q_t 8 ?_
  refine zW 2 4 (zg (nd (nv (nd (nv a % mF 3)) * nv (nd (nv b % mF 3)) % mF 3))) [.box Ei (zg a) 24, .box Ej (zg b) 24, .box Ec (zg (nd (nv (nd (nv a % mF 3)) * nv (nd (nv b % mF 3)) % mF 3))) 24, .box Ea (zg (nd (mF 3))) 24] Ew Ef rfl (za (zl _ _)) (za (zh)) (zq _) rfl fun _ _ Ex Eg => ⟨fun _ => Eg.pk [0, 1, 3], ?_⟩
  exact h_e ⟨Ex.sb, Eg.pk [0, 1, 2, 3]⟩
 rintro _ _ ⟨Ey, Eh⟩
 refine ze <| wp_ret <| block_ret <| then_ret <| zU (v := .agg (zc (zg (nd (nv (nd (nv a % mF 3)) * nv (nd (nv b % mF 3)) % mF 3))))) (t := 6) (T := 24) (ad := ⟨Ec, 0, none⟩) Ey (by kernel_rfl) (by kernel_rfl) (zC (t := 24) (k := 2) (off := 0) (m := 4) (xs := zg (nd (nv (nd (nv a % mF 3)) * nv (nd (nv b % mF 3)) % mF 3))) Eh rfl (zn (za (zl _ _))) (za (zl _ _)) (by kernel_rfl) (by kernel_rfl)) ?_
 have e : nd (nv (nd (nv a % mF 3)) * nv (nd (nv b % mF 3)) % mF 3) = nd (zo 3 (nv a) (nv b)) := mulr3 _ _
 exact ⟨congrArg (fun l : List UInt64 => Ending.returned (Value.agg (zg l).toArray)) e, Eh.pk []⟩
theorem hM3 : MulOk 3 := mul3_go
end Go.Proofs.YtpfhmbbiadpbeaaGreat
namespace Go.Dbr
open Go Go.RowKit
def depB (ops : Array Oper) (j i : Nat) : Bool := match ops[j]? with
  | some o => o.after.any fun e => Region.binds .any e && Qn e.on i
  | none => false
def nodupO : List Oper → Nat → Bool
  | [], _ => true
  | o :: r, m => match o.dst with
    | some d => !Yl m d && nodupO r (m ||| 2 ^ d)
    | none => nodupO r m
def maskO : List Oper → Nat
  | [] => 0
  | o :: r => match o.dst with
    | some d => 2 ^ d ||| maskO r
    | none => maskO r
def lookB (ops : Array Oper) (m : Nat) (o : Oper) (j : Nat) : Bool := (o.looksAt ops).all fun d => !Yl m d
  || (o.after.any fun e => Region.binds .any e && (match ops[e.on]? with | some q => (match q.dst with | some c => Qn c d | none => false) | none => false))
  || ((List.range ops.size).all fun i => (match ops[i]? with | some q => (match q.dst with | some c => !Qn c d | none => true) | none => true) || depB ops i j)
def looksB (ops : Array Oper) (m : Nat) : List Oper → Nat → Bool
  | [], _ => true
  | o :: r, j => lookB ops m o j && looksB ops m r (j + 1)
def ssaB (ops : Array Oper) : Bool := Region.noSelect ops && nodupO ops.toList 0 && looksB ops (maskO ops.toList) ops.toList 0
def readyB (ops : Array Oper) (listed : Array Bool) (i : Nat) : Bool := !listed.getD i true && match ops[i]? with
  | some o => o.after.all fun e => !Region.binds .any e || listed.getD e.on false
  | none => false
theorem nodupO_spec : ∀ (l : List Oper) (m : Nat), nodupO l m = true → (∀ (i : Nat) (o : Oper) (d : Nat), l[i]? = some o → o.dst = some d → Yl m d = false) ∧ (∀ (i j : Nat) (o q : Oper) (d : Nat), l[i]? = some o → l[j]? = some q → o.dst = some d → q.dst = some d → i = j)
  | [], m, _ => ⟨fun i o d h => by simp at h, fun i j o q d h => by simp at h⟩
  | x :: r, m, h => by
    unfold nodupO at h
    cases hd : x.dst with
    | none =>
      rw [hd] at h
      obtain ⟨h1, h2⟩ := nodupO_spec r m h
      constructor
      · intro i o d hi ho
        cases i with
        | zero => simp at hi; subst hi; rw [hd] at ho; cases ho
        | succ i => exact h1 i o d (by simpa using hi) ho
      · intro i j o q d hi hj ho hq
        cases i with
        | zero => simp at hi; subst hi; rw [hd] at ho; cases ho
        | succ i =>
          cases j with
          | zero => simp at hj; subst hj; rw [hd] at hq; cases hq
          | succ j => rw [h2 i j o q d (by simpa using hi) (by simpa using hj) ho hq]
    | some c =>
      rw [hd] at h
      simp only [zJ, QD] at h
      obtain ⟨h1, h2⟩ := nodupO_spec r _ h.2
      have key : ∀ (i : Nat) (o : Oper) (d : Nat), r[i]? = some o → o.dst = some d → Yl m d = false ∧ c ≠ d := fun i o d hi ho => by
        have := h1 i o d hi ho
        rw [YW, Bool.or_eq_false_iff] at this
        refine ⟨this.1, fun e => ?_⟩
        subst e
        rw [Jd] at this
        cases this.2
      constructor
      · intro i o d hi ho
        cases i with
        | zero => simp at hi; subst hi; rw [hd] at ho; cases ho; exact h.1
        | succ i => exact (key i o d (by simpa using hi) ho).1
      · intro i j o q d hi hj ho hq
        cases i with
        | zero =>
          cases j with
          | zero => rfl
          | succ j => simp at hi; subst hi; rw [hd] at ho; cases ho; exact absurd rfl (key j q _ (by simpa using hj) hq).2
        | succ i =>
          cases j with
          | zero => simp at hj; subst hj; rw [hd] at hq; cases hq; exact absurd rfl (key i o _ (by simpa using hi) ho).2
          | succ j => rw [h2 i j o q d (by simpa using hi) (by simpa using hj) ho hq]
theorem maskO_spec : ∀ (l : List Oper) (i : Nat) (o : Oper) (d : Nat), l[i]? = some o → o.dst = some d → Yl (maskO l) d = true
  | [], i, o, d, h, _ => by simp at h
  | x :: r, 0, o, d, h, ho => by
    simp at h
    subst h
    unfold maskO
    rw [ho]
    simp only [YW, Jd, Bool.true_or]
  | x :: r, i + 1, o, d, h, ho => by
    have ih := maskO_spec r i o d (by simpa using h) ho
    unfold maskO
    cases hd : x.dst with
    | none => exact ih
    | some c => simp only [YW, ih, Bool.or_true]
theorem looksB_spec {ops : Array Oper} {m : Nat} : ∀ (l : List Oper) (k : Nat), looksB ops m l k = true → ∀ (j : Nat) (o : Oper), l[j]? = some o → lookB ops m o (k + j) = true
  | [], k, _, j, o, h => by simp at h
  | x :: r, k, h, j, o, ho => by
    unfold looksB at h
    simp only [zJ] at h
    cases j with
    | zero => simp at ho; subst ho; exact h.1
    | succ j =>
      have := looksB_spec r (k + 1) h.2 j o (by simpa using ho)
      rwa [show k + 1 + j = k + (j + 1) by omega] at this
theorem depB_spec {ops : Array Oper} {i j : Nat} {o : Oper} (ho : ops[j]? = some o) (h : depB ops j i = true) : ∃ e ∈ o.after, Region.binds .any e = true ∧ e.on = i := by
  unfold depB at h
  rw [ho] at h
  obtain ⟨e, he, hb⟩ := YA.1 h
  simp only [zJ, Jk] at hb
  exact ⟨e, he, hb.1, hb.2⟩
theorem readyB_spec {ops : Array Oper} {listed : Array Bool} {i : Nat} (h : readyB ops listed i = true) : i ∈ Region.ready .any ops listed := by
  unfold readyB at h
  simp only [zJ] at h
  cases ho : ops[i]? with
  | none => rw [ho] at h; cases h.2
  | some o =>
    rw [ho] at h
    unfold Region.ready
    rw [List.mem_filter, QH]
    refine ⟨(Zx.1 ho).1, ?_⟩
    simp only [zJ, ho, Option.map_some, Option.getD_some]
    exact h
theorem ssa_look {ops : Array Oper} (h : ssaB ops = true) {i j : Nat} {oi oj : Oper} {d : Nat} (hi : ops[i]? = some oi) (hj : ops[j]? = some oj) (hd : oi.dst = some d) (hl : d ∈ oj.looksAt ops) : (∃ e ∈ oj.after, Region.binds .any e = true ∧ e.on = i) ∨ (∃ e ∈ oi.after, Region.binds .any e = true ∧ e.on = j) := by
  unfold ssaB at h
  simp only [zJ] at h
  obtain ⟨⟨_, h2⟩, h3⟩ := h
  have hi' : ops.toList[i]? = some oi := by rw [Zu]; exact hi
  have hj' : ops.toList[j]? = some oj := by rw [Zu]; exact hj
  have hm := maskO_spec _ i oi d hi' hd
  have hk := looksB_spec _ 0 h3 j oj hj'
  rw [Yi] at hk
  have h4 := z7.1 hk d hl
  rw [hm] at h4
  simp only [YM, Jb, Yg] at h4
  rcases h4 with h4 | h4
  · left
    obtain ⟨e, he, hb⟩ := YA.1 h4
    simp only [zJ] at hb
    refine ⟨e, he, hb.1, ?_⟩
    cases hq : ops[e.on]? with
    | none => rw [hq] at hb; cases hb.2
    | some q =>
      rw [hq] at hb
      cases hc : q.dst with
      | none => simp [hc] at hb
      | some c =>
        simp only [hc, Jk] at hb
        have hq' : ops.toList[e.on]? = some q := by rw [Zu]; exact hq
        exact (nodupO_spec _ _ h2).2 _ _ q oi d hq' hi' (by rw [hc, hb.2]) hd
  · right
    have h5 := z7.1 h4 i (QH.2 (Zx.1 hi).1)
    rw [hi] at h5
    simp only [hd] at h5
    have : Qn d d = true := by rw [Jk]
    rw [this] at h5
    simp only [YM, Jb] at h5
    exact depB_spec hi h5
theorem ssa_apart {ops : Array Oper} (h : ssaB ops = true) {listed : Array Bool} {i : Nat} {oi : Oper} (hi : ops[i]? = some oi) (hr : i ∈ Region.ready .any ops listed) (j : Nat) (oj : Oper) (hj : ops[j]? = some oj) (hne : j ≠ i) (hun : listed.getD j true = false)
    (hno : ∀ e ∈ oj.after, Region.binds .any e = true → e.on ≠ i) : oi.apart ops oj = true := by
  obtain ⟨_, o, ho, hall⟩ := mem_ready.1 hr
  rw [hi] at ho
  cases ho
  have un : listed.getD j false = false := by
    rcases Qa j listed.size with h' | h'
    · simp [h'] at hun ⊢; exact hun
    · simp [h']
  have no : ¬ ∃ e ∈ oi.after, Region.binds .any e = true ∧ e.on = j := fun ⟨e, he, hb, hon⟩ => by
    have := hall e he hb
    rw [hon, un] at this
    cases this
  have no2 : ¬ ∃ e ∈ oj.after, Region.binds .any e = true ∧ e.on = i := fun ⟨e, he, hb, hon⟩ => hno e he hb hon
  unfold Oper.apart
  simp only [zJ]
  constructor
  · cases hd : oi.dst with
    | none => rfl
    | some d =>
      simp only [zJ, QD, bne_iff_ne]
      constructor
      · rw [← Kj, Zl]
        exact fun hl => (ssa_look h hi hj hd hl).elim no2 no
      · intro hq
        have h2 := h
        unfold ssaB at h2
        simp only [zJ] at h2
        exact hne ((nodupO_spec _ _ h2.1.2).2 j i oj oi d (by rw [Zu]; exact hj) (by rw [Zu]; exact hi) hq hd)
  · cases hd : oj.dst with
    | none => rfl
    | some d =>
      simp only [QD]
      rw [← Kj, Zl]
      exact fun hl => (ssa_look h hj hi hd hl).elim no no2
theorem ssa_free {ops : Array Oper} (h : ssaB ops = true) {listed : Array Bool} {i : Nat} (hr : i ∈ Region.ready .any ops listed) : Region.free .any ops listed i = true := by
  obtain ⟨_, oi, hi, _⟩ := mem_ready.1 hr
  unfold Region.free
  rw [hi]
  simp only [z7, QH]
  intro j hj
  have hjo : ops[j]? = some ops[j] := Y7 hj
  simp only [hjo, Yg, beq_iff_eq]
  by_cases e : j = i
  · exact .inl (.inl e)
  cases hl : listed.getD j true with
  | true => exact .inl (.inr rfl)
  | false =>
    right
    cases ha : ops[j].after.any (fun e => Region.binds .any e && e.on == i) with
    | true => exact .inl rfl
    | false =>
      right
      refine ssa_apart h hi hr j _ hjo e hl fun e he hb hon => ?_
      have : ops[j].after.any (fun e => Region.binds .any e && e.on == i) = true := YA.2 ⟨e, he, by simp [hb, hon]⟩
      rw [ha] at this
      cases this
theorem closedB_of {ops : Array Oper} {listed : Array Bool} (h : Xi ops listed) : closedB ops listed = true := by
  unfold closedB
  rw [z7]
  intro j hj
  cases hl : listed.getD j false with
  | false => rfl
  | true =>
    have hjs := QH.1 hj
    have hjo : ops[j]? = some ops[j] := Y7 hjs
    simp only [YM, Jb, hjo]
    rw [Array.all_eq_true_iff_forall_mem]
    intro e he
    cases hb : Region.binds .any e with
    | false => rfl
    | true => simp only [YM, Jb]; exact h j _ hjo hl e he hb
section
variable {P : Program} {ops : Array Oper} {Q : Exit → Act → World → Prop} {S : World → Prop} {n i : Nat} {l : List (Nat × Value)} {a : Act} {w : World}
def wpD (P : Program) (ops : Array Oper) (Q : Exit → Act → World → Prop) (S : World → Prop) (m : Nat) (listed : Array Bool) (a : Act) (w : World) : Prop := Xi ops listed → wpAnyS P ops Q S [] m listed a w
def condR (ops : Array Oper) : List Nat → Array Bool → Bool
  | [], _ => true
  | i :: r, listed => readyB ops listed i && condR ops r (listed.setIfInBounds i true)
theorem condR_L {ops : Array Oper} (hg : ssaB ops = true) : ∀ (is : List Nat) (listed : Array Bool), condR ops is listed = true → condL ops [] is listed = true ∧ (Xi ops listed → Xi ops (doneL is listed))
  | [], listed, _ => ⟨rfl, id⟩
  | i :: r, listed, h => by
    unfold condR at h
    simp only [zJ] at h
    have hm := readyB_spec h.1
    obtain ⟨h1, h2⟩ := condR_L hg r _ h.2
    have hs : Region.noSelect ops = true := by unfold ssaB at hg; simp only [zJ] at hg; exact hg.1.1
    refine ⟨?_, fun hc => h2 (hc.set hm)⟩
    unfold condL
    rw [hs, ssa_free hg hm, h1, show (Region.ready .any ops listed).contains i = true from Zl.2 hm]
    rfl
theorem w_in {F : Act → World → Prop} {id : Nat} (S : World → Prop) (m : Nat) (h : ssaB ops = true → wpD P ops (HQ F) S m (Array.replicate m false) a w.drew) (hm : P.follows .mixedOrders = true := by kernel_rfl) (hs : ops.size = m := by kernel_rfl) (hg : ssaB ops = true := by kernel_rfl) : (Code.region id ops true).wp P (HQ F) a w := by
  refine h_s S [] m (h hg fun j o ho hj => ?_) hm hs
  rcases Qa j m with h' | h'
  · simp [h'] at hj
  · simp [h'] at hj
theorem w_out {m : Nat} {listed : Array Bool} (h : wpAnyS P ops Q S [] m listed a w) : wpD P ops Q S m listed a w := fun _ => h
theorem w_s {F : Act → World → Prop} {m : Nat} {listed : Array Bool} (hg : ssaB ops = true) (is : List Nat) (fs : List (Nat × FV)) (m' : Nat) (E : Env a n l) (hS : S w) (next : ∀ a', Env a' n (endI P ops n fs l is) → wpD P ops (HQ F) S m' (doneL is listed) a' w)
    (h : (fun w => resI P ops n fs w l is) = (fun w => expI P ops n fs w l is) := by kernel_rfl) (hc : condR ops is listed = true := by kernel_rfl) (hm : m = m' + is.length := by kernel_rfl) : wpD P ops (HQ F) S m listed a w :=
  fun cl => q_s is fs m' E hS (fun a' E' => next a' E' ((condR_L hg is listed hc).2 cl)) h (condR_L hg is listed hc).1 hm
theorem w_l {F : Act → World → Prop} {w0 : World} {L0 Lh : List Ent} {m : Nat} {listed : Array Bool} (hg : ssaB ops = true) (k i : Nat) (E : Env a n l) (hS : Ev w0 L0 w Lh)
    (next : ∀ a', Env a' n (putl (opD ops i) (cellV Lh k (offV (opV ops l i 0))) l) → wpD P ops (HQ F) (fun wv => Ev w0 L0 wv Lh) m (listed.setIfInBounds i true) a' w)
    (h : opAt ops n i l = some (.run (opD ops i) (nv (Instr.loadAt (opTy ops i) (.pointer (some ⟨boxB Lh k, offV (opV ops l i 0), none⟩))))) := by kernel_rfl)
    (hk : Lh[k]? = some (.box (boxB Lh k) (boxC Lh k) (boxT Lh k)) := by kernel_rfl) (hv : (boxC Lh k)[offV (opV ops l i 0)]? = some (cellV Lh k (offV (opV ops l i 0))) := by kernel_rfl)
    (ht : (fun w => (isAgg (opTy ops i)).run P w) = fun w => .ok false w := by kernel_rfl)
    (hc : condR ops [i] listed = true := by kernel_rfl) : wpD P ops (HQ F) (fun wv => Ev w0 L0 wv Lh) (m + 1) listed a w := fun cl => by
  obtain ⟨h1, h2⟩ := condR_L hg [i] listed hc
  unfold condL at h1
  simp only [zJ] at h1
  refine q_l k i E hS (fun a' E' => next a' E' (h2 cl)) h hk hv ht ?_
  rw [h1.1.1.1.1, h1.1.1.1.2, h1.1.1.2, closedB_of cl]
  rfl
theorem w_f {F : Act → World → Prop} {m : Nat} {listed : Array Bool} (hg : ssaB ops = true) (i : Nat) {s : Sem Value} {v : Value} (E : Env a n l) (hv : ∀ w, s.run P w = .ok v w) (hS : S w)
    (next : ∀ a', Env a' n (putl (opD ops i) v l) → wpD P ops (HQ F) S m (listed.setIfInBounds i true) a' w)
    (hr : opAt ops n i l = some (.run (opD ops i) (nv s)) := by kernel_rfl)
    (hc : condR ops [i] listed = true := by kernel_rfl) : wpD P ops (HQ F) S (m + 1) listed a w := fun cl => by
  obtain ⟨h1, h2⟩ := condR_L hg [i] listed hc
  unfold condL at h1
  simp only [zJ] at h1
  exact q_f i E hv (fun _ => hS) (fun a' E' => next a' E' (h2 cl)) hr (by rw [h1.1.1.1.1, h1.1.1.1.2, h1.1.1.2]; rfl)
end
end Go.Dbr
