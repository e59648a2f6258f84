import Derived.Test.YtlnogkmnklfjlaaGreatDoorVr1
open List renaming getD → za, length → zc, replicate → zf, toArray → zg, length_replicate → zi, take → zm, drop → zo, set → zp, length_take → zs, length_drop → zy, length_append → zH, take_of_length_le → zJ, getD_eq_getElem?_getD → zN, getElem?_eq_getElem → zR, length_cons → z3, getElem?_eq_none → Qe, getElem?_replicate → Qu, append_assoc → QK, getElem?_set_self → QR, getD_cons_succ → QT, map_take → Yh, map_drop → YW, drop_length → Jd, getD_cons_zero → Jj, take_succ_cons → XY
open UInt64 renaming ofNat → zb, toUInt8 → zj, toNat → zA, toNat_add → ZS, toNat_shiftLeft → Qy, toNat_inj → QE, toNat_shiftRight → Q3, toNat_or → Yq, toNat_mul → Yr, toNat_and → Ys
open Go.Dbr renaming u64s_lenh → zd, then_normal → ze, u64s → zh, region_from → zk, uv64 → zn, load_whole → zr, run_indexarr → zt, u64s_one → zw, block_normal → zx, u64s_getD → zC, then_exit → zD, u64_shr → zI, loop_once → zK, u64_add → zO, block_exit → zP, run_loadAgg2 → zV, addHi → zX, m_gw → zZ, addLo → z0, bys_lenh → z7, d_cell1 → Zf, run_load1 → Zi, m_aw → Zn, u64_and → Zp, h_from → Zr, then_ret → Zx, u64_xor → ZK, u64_or → ZL, u64_mul → ZW, u64s_set → Z4, loop_m → Z5, d_cell_tmp → Z9, u64_shl → Qf, block_ret → Qg, d_ret1 → Qh, ext_add64 → Qj, lt64 → Qm, bys_getD → Qr, i64_rem_nat → Qz, h_ways → QA, h_to → QF, i64_quo_nat → QN, region_cut → QX, loop_enter → QY, run_shr_u64 → Q0, mulHi → Yx, addHi_le → YU, dv_cons → Jb, u8_to_u64 → Je, run_shl_u64 → Jv, addHi_val → JO, dv_set → J5
open Go.Proofs.YtlnogkmnklfjlaaGreatDoor renaming nds_len → zl, W256 → zY, nv_lt → Qv, getD_set_ne → QH, ofNat_val → Jc, nd_val → Ju, minus_go → J1, nd_mod → J7
open Go.Proofs.Tryz renaming prog → zB
open Go.Dbr.Ev renaming cellAgg → zF, drew → zS
open Nat renaming mod_eq_of_lt → zL, mul_comm → z5, pow_succ → z9, mul_assoc → Zh, add_mul → Zt, lt_trans → Zu, div_div_eq_div_mul → Zv, add_zero → Zy, shiftLeft_eq → ZA, mul_one → ZG, add_assoc → ZP, mod_lt → ZU, le_refl → ZX, pow_zero → Z6, shiftLeft_add_eq_or_of_lt → Qa, zero_mul → Qb, mul_zero → Qc, mul_le_mul_right → Qi, pow_add → Qn, lt_or_ge → Qq, mul_mod → Qt, shiftRight_eq_div_pow → Qx, mul_add → QG, pow_mul → QM, zero_mod → QV, lt_of_le_of_lt → QZ, pow_le_pow_right → Q4, mul_le_mul → Q8, zero_lt_one → Yb, add_mul_mod_self_left → Yc, lt_of_lt_of_le → Yd, mod_eq_sub_mod → Yv, div_one → YG, div_eq_of_lt → YJ, add_mod → YM, mod_mul_right_div_self → Y7, mul_pos → JV, mod_one → J0, or_comm → J2, pow_pos → XU, mod_mod_of_dvd → Ka, mod_mul → Kq
open UInt8 renaming ofNat → zQ, toUInt64 → Ze, toNat_toUInt64 → JX
open Bool renaming eq_false_or_eq_true → Za
open Int renaming tmod → Jk, tdiv → Jl
open Go.Dbr.Env renaming fx → X9
set_option maxRecDepth 100000
set_option maxHeartbeats 2000000
set_option linter.unusedVariables false
set_option linter.unusedSimpArgs false
namespace Go.Proofs.YtlnogkmnklfjlaaGreatDoor
open Go.Dbr
def mF (f : Int) : Nat := if f = 1 then 57896044618658097711785492504343953926634992332820282019728792003956564819949 else if f = 2 then 115792089210356248762697446949407573530086143415290314195533631308867097853951 else if f = 3 then 115792089210356248762697446949407573529996955224135760342422259061068512044369 else if f = 4 then 7237005577332262213973186563042994240857116359379907606001950938285454250989 else 0
theorem mF_lt (f : Int) : mF f < zY := by
  unfold mF
  repeat' split
  all_goals decide
theorem mF_pos {f : Int} (h : f = 1 ∨ f = 2 ∨ f = 3 ∨ f = 4) : 1 < mF f := by rcases h with rfl | rfl | rfl | rfl <;> decide
theorem nv_nd {n : Nat} (h : n < zY) : nv (nd n) = n := by rw [Ju, zL h]
theorem nv_mF (f : Int) : nv (nd (mF f)) = mF f := nv_nd (mF_lt f)
theorem mod_lt_w {n : Nat} {f : Int} (h : f = 1 ∨ f = 2 ∨ f = 3 ∨ f = 4) : n % mF f < zY := Zu (ZU _ (Zu Yb (mF_pos h))) (mF_lt f)
def f38 (t : List UInt64) : Nat → Nat
  | 0 => 0
  | i + 1 => f38 t i + ((za t (i + 4) 0).toNat * 38 + (za t i 0).toNat) * 18446744073709551616 ^ i
theorem set_new {o : List UInt64} {i : Nat} {x y t c : UInt64} {P : Nat} (hi : i < o.length) (hz : za o i 0 = 0) (hv : dv 18446744073709551616 o + c.toNat * 18446744073709551616 ^ i = P) :
    dv 18446744073709551616 (zp o i (z0 (z0 (x * y) t 0) c 0)) + (Yx x y + zX (x * y) t 0 + zX (z0 (x * y) t 0) c 0).toNat * 18446744073709551616 ^ (i + 1) = P + (x.toNat * y.toNat + t.toNat) * 18446744073709551616 ^ i := by
  have e := J5 18446744073709551616 (z0 (z0 (x * y) t 0) c 0) o i hi
  have m := mac_val (x := x) (y := y) (t := t) (c := c)
  rw [hz, show (0 : UInt64).toNat = 0 from rfl, Qb, Zy] at e
  rw [z9, z5 (18446744073709551616 ^ i), ← Zh]
  have m2 := congrArg (· * 18446744073709551616 ^ i) m
  simp only [Zt] at m2 ⊢
  rw [z5 18446744073709551616 (zA _)] at m2
  generalize 18446744073709551616 ^ i = q at *
  omega
theorem f38_in {o t : List UInt64} {i : Nat} {c : UInt64} (hlo : o.length = 4) (hi : i < 4) (hz : ∀ j, i ≤ j → za o j 0 = 0) (hv : dv 18446744073709551616 o + c.toNat * 18446744073709551616 ^ i = f38 t i) :
    dv 18446744073709551616 (zp o i (z0 (z0 (za t (i + 4) 0 * 38) (za t i 0) 0) c 0)) + (Yx (za t (i + 4) 0) 38 + zX (za t (i + 4) 0 * 38) (za t i 0) 0 + zX (z0 (za t (i + 4) 0 * 38) (za t i 0) 0) c 0).toNat * 18446744073709551616 ^ (i + 1) = f38 t (i + 1) := by
  rw [set_new (by omega) (hz i (ZX _)) hv, f38]
  rfl
theorem f38_val {t : List UInt64} (h : t.length = 8) : ∃ H, H < zY ∧ dv 18446744073709551616 t = f38 t 4 + 2 * mF 1 * H ∧ f38 t 4 ≤ 39 * zY - 39 := by
  match t, h with
  | [t0, t1, t2, t3, t4, t5, t6, t7], _ =>
    have h1 := Qv (l := [t4, t5, t6, t7]) rfl
    have h0 := Qv (l := [t0, t1, t2, t3]) rfl
    refine ⟨nv [t4, t5, t6, t7], h1, ?_⟩
    have hm : 2 * mF 1 = 115792089237316195423570985008687907853269984665640564039457584007913129639898 := by decide
    rw [hm]
    rw [nv4] at h0 h1 ⊢
    simp only [dv, f38, za, List.getElem?_cons_zero, List.getElem?_cons_succ, Option.getD_some, Qc, Zy, Nat.zero_add, Z6, ZG, Nat.reducePow, Nat.reduceAdd]
    simp only [zY] at *
    constructor
    · omega
    · omega
theorem zeros4 (j : Nat) : za (zf 4 (0 : UInt64)) j 0 = 0 := by
  simp only [zN, Qu]
  split <;> rfl
theorem num1 (x : UInt64) : nv [x, 0, 0, 0] = x.toNat := by
  rw [nv4, show (0 : UInt64).toNat = 0 from rfl]
  omega
theorem c38 {c : UInt64} (h : c.toNat ≤ 38) : (38 * c).toNat = 38 * c.toNat := by
  rw [Yr, show (38 : UInt64).toNat = 38 from rfl]
  omega
theorem step38 {o : List UInt64} {c : UInt64} {R : Nat} (hl : o.length = 4) (hc : c.toNat ≤ 38) (hm : (nv o + zY * c.toNat) % mF 1 = R) :
    (nv (nd (nv o + nv [38 * c, 0, 0, 0])) + zY * (u1 (zY ≤ nv o + nv [38 * c, 0, 0, 0])).toNat) % mF 1 = R ∧ nv (nd (nv o + nv [38 * c, 0, 0, 0])) + zY * (u1 (zY ≤ nv o + nv [38 * c, 0, 0, 0])).toNat = nv o + 38 * c.toNat := by
  have ho := Qv hl
  have e : nv (nd (nv o + nv [38 * c, 0, 0, 0])) + zY * (u1 (zY ≤ nv o + nv [38 * c, 0, 0, 0])).toNat = nv o + 38 * c.toNat := by
    rw [Ju, num1, c38 hc, u1_val]
    simp only [zY] at *
    split <;> omega
  rw [e]
  refine ⟨?_, rfl⟩
  rw [← hm, show mF 1 = 57896044618658097711785492504343953926634992332820282019728792003956564819949 from rfl]
  simp only [zY] at *
  omega
theorem prime1_go (w : World) : Calls zB 81 #[] w fun e w' => e = .returned (.agg (zg (zh (nd (mF 1))))) ∧ Ev w [] w' [] := by
 refine d_0 [] 2 Tryz.func81 Tryz.ntmps81 (Heap.nil _) fun Ec Ed Ee => wp_seq <| zk <| f_o <| m_z 33 (zh (zf 4 0)) Ed Ee fun _ _ Ef Eg Eh => f_e <| ze <| wp_seq <| zk <| d_k [0,1] [] 1 Eg fun _ Ei => f_o <| zZ 0 4 (zh ([18446744073709551597, 18446744073709551615, 18446744073709551615, 9223372036854775807] : List UInt64)) _ Ei Eh rfl (zd (show zc ([18446744073709551597, 18446744073709551615, 18446744073709551615, 9223372036854775807] : List UInt64) = 4 from rfl)) (zd (zi)) (zw _) rfl fun _ _ Eb Ea => f_e <| ze <| wp_ret <| Zf (v := .agg (zg (zh ([18446744073709551597, 18446744073709551615, 18446744073709551615, 9223372036854775807] : List UInt64)))) (t := 0) (T := 33) (ad := ⟨Ef, 0, none⟩) Eb (by kernel_rfl) (by kernel_rfl) (zF (t := 33) (k := 0) (off := 0) (m := 4) (xs := zh ([18446744073709551597, 18446744073709551615, 18446744073709551615, 9223372036854775807] : List UInt64)) Ea rfl (zr (zd (show zc ([18446744073709551597, 18446744073709551615, 18446744073709551615, 9223372036854775807] : List UInt64) = 4 from rfl))) (zd (show zc ([18446744073709551597, 18446744073709551615, 18446744073709551615, 9223372036854775807] : List UInt64) = 4 from rfl)) (by kernel_rfl) (by kernel_rfl)) ?_
 exact ⟨by kernel_rfl, Ea.pk []⟩
theorem prime2_go (w : World) : Calls zB 82 #[] w fun e w' => e = .returned (.agg (zg (zh (nd (mF 2))))) ∧ Ev w [] w' [] := by
 refine d_0 [] 2 Tryz.func82 Tryz.ntmps82 (Heap.nil _) fun Ec Ed Ee => wp_seq <| zk <| f_o <| m_z 33 (zh (zf 4 0)) Ed Ee fun _ _ Ef Eg Eh => f_e <| ze <| wp_seq <| zk <| d_k [0,1] [] 1 Eg fun _ Ei => f_o <| zZ 0 4 (zh ([18446744073709551615, 4294967295, 0, 18446744069414584321] : List UInt64)) _ Ei Eh rfl (zd (show zc ([18446744073709551615, 4294967295, 0, 18446744069414584321] : List UInt64) = 4 from rfl)) (zd (zi)) (zw _) rfl fun _ _ Eb Ea => f_e <| ze <| wp_ret <| Zf (v := .agg (zg (zh ([18446744073709551615, 4294967295, 0, 18446744069414584321] : List UInt64)))) (t := 0) (T := 33) (ad := ⟨Ef, 0, none⟩) Eb (by kernel_rfl) (by kernel_rfl) (zF (t := 33) (k := 0) (off := 0) (m := 4) (xs := zh ([18446744073709551615, 4294967295, 0, 18446744069414584321] : List UInt64)) Ea rfl (zr (zd (show zc ([18446744073709551615, 4294967295, 0, 18446744069414584321] : List UInt64) = 4 from rfl))) (zd (show zc ([18446744073709551615, 4294967295, 0, 18446744069414584321] : List UInt64) = 4 from rfl)) (by kernel_rfl) (by kernel_rfl)) ?_
 exact ⟨by kernel_rfl, Ea.pk []⟩
theorem prime3_go (w : World) : Calls zB 83 #[.agg #[]] w fun e w' => e = .returned (.agg (zg (zh (nd (mF 3))))) ∧ Ev w [] w' [] := by
 refine d_0 [(0, .agg #[])] 4 Tryz.func83 Tryz.ntmps83 (Heap.nil _) fun Ee Ef Eg => wp_seq <| zk <| f_o <| m_m 80 [] Ef Eg fun _ _ El Eh Ei => f_o <| m_z 33 (zh (zf 4 0)) Eh Ei fun _ _ Ej Ek Eb => f_e <| ze <| wp_seq <| zk <| d_k [2,3] [] 1 Ek fun _ Ec => f_o <| zZ 1 4 (zh ([17562291160714782033, 13611842547513532036, 18446744073709551615, 18446744069414584320] : List UInt64)) _ Ec Eb rfl (zd (show zc ([17562291160714782033, 13611842547513532036, 18446744073709551615, 18446744069414584320] : List UInt64) = 4 from rfl)) (zd (zi)) (zw _) rfl fun _ _ Ed Ea => f_e <| ze <| wp_ret <| Zf (v := .agg (zg (zh ([17562291160714782033, 13611842547513532036, 18446744073709551615, 18446744069414584320] : List UInt64)))) (t := 2) (T := 33) (ad := ⟨Ej, 0, none⟩) Ed (by kernel_rfl) (by kernel_rfl) (zF (t := 33) (k := 1) (off := 0) (m := 4) (xs := zh ([17562291160714782033, 13611842547513532036, 18446744073709551615, 18446744069414584320] : List UInt64)) Ea rfl (zr (zd (show zc ([17562291160714782033, 13611842547513532036, 18446744073709551615, 18446744069414584320] : List UInt64) = 4 from rfl))) (zd (show zc ([17562291160714782033, 13611842547513532036, 18446744073709551615, 18446744069414584320] : List UInt64) = 4 from rfl)) (by kernel_rfl) (by kernel_rfl)) ?_
 exact ⟨by kernel_rfl, Ea.pk []⟩
theorem prime4_go (w : World) : Calls zB 84 #[.agg #[]] w fun e w' => e = .returned (.agg (zg (zh (nd (mF 4))))) ∧ Ev w [] w' [] := by
 refine d_0 [(0, .agg #[])] 4 Tryz.func84 Tryz.ntmps84 (Heap.nil _) fun Ee Ef Eg => wp_seq <| zk <| f_o <| m_m 83 [] Ef Eg fun _ _ El Eh Ei => f_o <| m_z 33 (zh (zf 4 0)) Eh Ei fun _ _ Ej Ek Eb => f_e <| ze <| wp_seq <| zk <| d_k [2,3] [] 1 Ek fun _ Ec => f_o <| zZ 1 4 (zh ([6346243789798364141, 1503914060200516822, 0, 1152921504606846976] : List UInt64)) _ Ec Eb rfl (zd (show zc ([6346243789798364141, 1503914060200516822, 0, 1152921504606846976] : List UInt64) = 4 from rfl)) (zd (zi)) (zw _) rfl fun _ _ Ed Ea => f_e <| ze <| wp_ret <| Zf (v := .agg (zg (zh ([6346243789798364141, 1503914060200516822, 0, 1152921504606846976] : List UInt64)))) (t := 2) (T := 33) (ad := ⟨Ej, 0, none⟩) Ed (by kernel_rfl) (by kernel_rfl) (zF (t := 33) (k := 1) (off := 0) (m := 4) (xs := zh ([6346243789798364141, 1503914060200516822, 0, 1152921504606846976] : List UInt64)) Ea rfl (zr (zd (show zc ([6346243789798364141, 1503914060200516822, 0, 1152921504606846976] : List UInt64) = 4 from rfl))) (zd (show zc ([6346243789798364141, 1503914060200516822, 0, 1152921504606846976] : List UInt64) = 4 from rfl)) (by kernel_rfl) (by kernel_rfl)) ?_
 exact ⟨by kernel_rfl, Ea.pk []⟩
theorem f38_end {a b o : List UInt64} {c : UInt64} {H : Nat} (ha : a.length = 4) (hb : b.length = 4) (hl : o.length = 4) (h1 : dv 18446744073709551616 (nds 8 (nv a * nv b)) = dv 18446744073709551616 o + c.toNat * 18446744073709551616 ^ 4 + 2 * mF 1 * H) (h2 : dv 18446744073709551616 o + c.toNat * 18446744073709551616 ^ 4 ≤ 39 * zY - 39) : (nv o + zY * c.toNat) % mF 1 = (nv a * nv b) % mF 1 ∧ c.toNat ≤ 38 := by
  have hlt : nv a * nv b < 18446744073709551616 ^ 8 := Nat.lt_of_lt_of_eq (Nat.mul_lt_mul'' (Qv ha) (Qv hb)) (by decide)
  rw [nds_val, zL hlt, w256_pow] at h1
  rw [w256_pow] at h2
  constructor
  · rw [h1, z5 zY, Zh 2, Nat.mul_left_comm 2, Yc]
  · simp only [zY] at h2
    omega
theorem mul25_go (w : World) (a b : List UInt64) (ha : zc a = 4) (hb : zc b = 4) : Calls zB 56 #[.agg (zg (zh a)), .agg (zg (zh b))] w fun e w' => e = .returned (.agg (zg (zh (nd ((nv a * nv b) % mF 1))))) ∧ Ev w [] w' [] := by
 refine d_0 [(0, .agg (zg (zh a))), (1, .agg (zg (zh b)))] 61 Tryz.func56 Tryz.ntmps56 (Heap.nil _) fun Hl Hm Hn => wp_seq <| zk <| f_o <| m_m 33 (zh a) Hm Hn fun _ _ ED Ho Hp => f_o <| m_m 33 (zh b) Ho Hp fun _ _ EE Hq EF => f_o <| m_z 33 (zh (zf 4 0)) Hq EF fun _ _ Ec EG EH => f_e <| ze <| wp_seq <| zk <| f_o <| c_l [0,1] (M := [.box ED (zh a) 33, .box EE (zh b) 33]) EG EH (fun hM16 => whole_go _ ED EE a b ha hb hM16) ?_
 rintro _ _ ⟨rfl, EI⟩
 refine ⟨_, _, [.box ED (zh a) 33, .box EE (zh b) 33, .box Ec (zh (zf 4 0)) 33], rfl, EI, by kernel_rfl, fun _ EJ EK => ?_⟩
 refine f_o <| m_z 99 (zh (zf 8 0)) EJ EK fun _ _ Ea EL EM => f_o <| zZ 3 8 (zh (nds 8 (nv a * nv b))) _ EL EM rfl (zd (zl _ _)) (zd (zi)) (zw _) rfl fun _ _ EN EO => f_e <| ze <| d_s [4,5,6] [] EN fun _ EP => wp_seq <| zk <| f_o <| m_z 33 (zh (zf 4 0)) EP EO fun _ _ Eb EQ ER => f_e <| ze <| wp_seq <| d_s [4,5,6,7,14] [] EQ fun _ ES => wp_block ?_
 have ht8 : zc (nds 8 (nv a * nv b)) = 8 := zl _ _
 refine Z5 (fun ET ac wo => ∃ (i : Nat) (o : List UInt64) (c : UInt64), ET = (4 - i : Nat) ∧ Env ac 61 [(4, pt Ec), (5, pt Ea), (6, zn c), (7, pt Eb), (14, ni i)] ∧ Ev w [] wo [.box Eb (zh o) 33, .box Ec (zh (zf 4 0)) 33, .box Ea (zh (nds 8 (nv a * nv b))) 99] ∧ (i ≤ 4) ∧ (zc o = 4) ∧ (dv 18446744073709551616 o + c.toNat * 18446744073709551616 ^ i = f38 (nds 8 (nv a * nv b)) i) ∧ (∀ j, i ≤ j → za o j 0 = 0)) ⟨_, 0, zf 4 0, 0, rfl, ES.sb, ER.pk [4, 2, 3], by omega, (zi), rfl, fun j _ => zeros4 j⟩ ?_
 rintro Hr _ _ ⟨i, o, c, rfl, EU, Ek, hi, hlo, hv, hz⟩
 refine d_s [4,5,6,7,14,15] [] EU fun _ El => ?_
 refine wp_seq <| c_d (((i : Nat) : Int) < (4 : Int)) El (fun EV => ?_) (fun EV => ?_)
 ·
  refine wp_skip <| ze <| wp_seq <| wp_block <| d_s [4,5,6,7,8,14] [] El fun _ EW => wp_seq <| zk <| d_k [4,5,6,7,8,14,19] [(1, g_n (w_a i 4))] 2 EW fun _ EX => f_o <| q_v (x := Instr.indexAt 99 (pt Ea) (ni (i + 4))) (v := .pointer (some ⟨Ea, i + 4, none⟩)) EX (zt (e := 31) (sz := 1) (m := 8) (j := i + 4) (o := i + 4) (by kernel_rfl) (by kernel_rfl) (by omega) (by omega) (by omega) _) fun _ EY => f_o ?_
  have EZ : i + 4 < zc (nds 8 (nv a * nv b)) := by rw [(zl _ _)]; omega
  refine m_v 2 (i + 4) (zn (za (nds 8 (nv a * nv b)) (i + 4) 0)) EY Ek rfl (zC EZ) fun _ E0 => f_o <| c_p E0 Ek (mul_go _ (za (nds 8 (nv a * nv b)) (i + 4) 0) (38 : UInt64)) fun _ _ E1 Em => d_e [4,5,6,7,8,9,10,14] [] E1 fun _ E2 => ze <| wp_seq <| zk <| d_k [4,5,6,7,8,9,10,14,26,27] [] 2 E2 fun _ E3 => f_o <| q_v (x := Instr.indexAt 99 (pt Ea) (ni i)) (v := .pointer (some ⟨Ea, i, none⟩)) E3 (zt (e := 31) (sz := 1) (m := 8) (j := i) (o := i) (by kernel_rfl) (by kernel_rfl) (by omega) (by omega) (by omega) _) fun _ E4 => f_o ?_
  have E5 : i < zc (nds 8 (nv a * nv b)) := by rw [(zl _ _)]; omega
  refine m_v 2 i (zn (za (nds 8 (nv a * nv b)) i 0)) E4 Em rfl (zC E5) fun _ E6 => f_o <| op_ext (d := some 30) (f := 85) (args := #[zn ((za (nds 8 (nv a * nv b)) (i + 4) 0) * (38 : UInt64)), zn (za (nds 8 (nv a * nv b)) i 0), zn (0 : UInt64)]) (v := .tuple #[zn (z0 ((za (nds 8 (nv a * nv b)) (i + 4) 0) * (38 : UInt64)) (za (nds 8 (nv a * nv b)) i 0) (0 : UInt64)), zn (zX ((za (nds 8 (nv a * nv b)) (i + 4) 0) * (38 : UInt64)) (za (nds 8 (nv a * nv b)) i 0) (0 : UInt64))]) E6 (by kernel_rfl) (Qj Tryz.func85 (by kernel_rfl) (by kernel_rfl) (by kernel_rfl) (by kernel_rfl) ((za (nds 8 (nv a * nv b)) (i + 4) 0) * (38 : UInt64)) (za (nds 8 (nv a * nv b)) i 0) (0 : UInt64) (by decide)) ?_
  intro _ E7
  refine d_e [4,5,6,7,8,9,10,11,14] [] E7 fun _ E8 => ze <| wp_seq <| zk <| d_k [4,5,6,7,8,9,10,11,14,34,35] [] 2 E8 fun _ E9 => f_o <| op_ext (d := some 36) (f := 85) (args := #[zn (z0 ((za (nds 8 (nv a * nv b)) (i + 4) 0) * (38 : UInt64)) (za (nds 8 (nv a * nv b)) i 0) (0 : UInt64)), zn c, zn (0 : UInt64)]) (v := .tuple #[zn (z0 (z0 ((za (nds 8 (nv a * nv b)) (i + 4) 0) * (38 : UInt64)) (za (nds 8 (nv a * nv b)) i 0) (0 : UInt64)) c (0 : UInt64)), zn (zX (z0 ((za (nds 8 (nv a * nv b)) (i + 4) 0) * (38 : UInt64)) (za (nds 8 (nv a * nv b)) i 0) (0 : UInt64)) c (0 : UInt64))]) E9 (by kernel_rfl) (Qj Tryz.func85 (by kernel_rfl) (by kernel_rfl) (by kernel_rfl) (by kernel_rfl) (z0 ((za (nds 8 (nv a * nv b)) (i + 4) 0) * (38 : UInt64)) (za (nds 8 (nv a * nv b)) i 0) (0 : UInt64)) c (0 : UInt64) (by decide)) ?_
  intro _ Ha
  refine d_e [4,5,6,7,8,9,10,11,12,14] [] Ha fun _ Hb => ze <| zk <| d_k [4,5,6,7,8,10,14,39,40,45] [(4, g_i .u64 (zO (x := Yx (za (nds 8 (nv a * nv b)) (i + 4) 0) (38 : UInt64)) (y := zX ((za (nds 8 (nv a * nv b)) (i + 4) 0) * (38 : UInt64)) (za (nds 8 (nv a * nv b)) i 0) (0 : UInt64)) rfl rfl)), (6, g_i .u64 (zO (x := (Yx (za (nds 8 (nv a * nv b)) (i + 4) 0) (38 : UInt64)) + (zX ((za (nds 8 (nv a * nv b)) (i + 4) 0) * (38 : UInt64)) (za (nds 8 (nv a * nv b)) i 0) (0 : UInt64))) (y := zX (z0 ((za (nds 8 (nv a * nv b)) (i + 4) 0) * (38 : UInt64)) (za (nds 8 (nv a * nv b)) i 0) (0 : UInt64)) c (0 : UInt64)) rfl rfl))] 7 Hb fun _ Hc => f_o <| q_v (x := Instr.indexAt 33 (pt Eb) (ni i)) (v := .pointer (some ⟨Eb, i, none⟩)) Hc (zt (e := 31) (sz := 1) (m := 4) (j := i) (o := i) (by kernel_rfl) (by kernel_rfl) (by omega) (by omega) (by omega) _) fun _ Hd => f_o ?_
  have He : i < zc o := by rw [hlo]; omega
  refine m_t 0 i (zn (z0 (z0 ((za (nds 8 (nv a * nv b)) (i + 4) 0) * (38 : UInt64)) (za (nds 8 (nv a * nv b)) i 0) (0 : UInt64)) c (0 : UInt64))) [.box Eb (zh (zp o i (z0 (z0 ((za (nds 8 (nv a * nv b)) (i + 4) 0) * (38 : UInt64)) (za (nds 8 (nv a * nv b)) i 0) (0 : UInt64)) c (0 : UInt64)))) 33, .box Ec (zh (zf 4 0)) 33, .box Ea (zh (nds 8 (nv a * nv b))) 99] Hd Em rfl (zC He) (Z4 _ _ _) rfl fun _ _ Hf Hg => d_e [4,5,6,7,8,10,14] [] Hf fun _ Hh => zx <| ze <| d_r [4,5,6,7,8,10,14] [(0, g_n (w_a i 1))] Hh fun _ Hi => ze <| ⟨_, ⟨i + 1, (zp o i (z0 (z0 ((za (nds 8 (nv a * nv b)) (i + 4) 0) * (38 : UInt64)) (za (nds 8 (nv a * nv b)) i 0) (0 : UInt64)) c (0 : UInt64))), (((Yx (za (nds 8 (nv a * nv b)) (i + 4) 0) (38 : UInt64)) + (zX ((za (nds 8 (nv a * nv b)) (i + 4) 0) * (38 : UInt64)) (za (nds 8 (nv a * nv b)) i 0) (0 : UInt64))) + (zX (z0 ((za (nds 8 (nv a * nv b)) (i + 4) 0) * (38 : UInt64)) (za (nds 8 (nv a * nv b)) i 0) (0 : UInt64)) c (0 : UInt64))), rfl, Hi.sb, Hg.pk [0, 1, 2], by omega, by simp [hlo], f38_in hlo (by omega) hz hv, fun j hj => by rw [QH _ (by omega)]; exact hz j (by omega)⟩, ?_⟩
  omega
 refine wp_exit <| zD <| zD <| zP <| ze <| wp_seq <| wp_block ?_
 have hi4 : i = 4 := by omega
 rw [hi4] at hv
 obtain ⟨H, hH0, hH1, hH2⟩ := f38_val (zl 8 (nv a * nv b))
 rw [← hv] at hH1 hH2
 have hq : (nv o + zY * c.toNat) % mF 1 = (nv a * nv b) % mF 1 ∧ c.toNat ≤ 38 := f38_end ha hb hlo hH1 hH2
 refine Z5 (fun Hj ac wo => ∃ (p : List UInt64) (d : UInt64), Hj = (nv p + zY * d.toNat : Nat) ∧ Env ac 61 [(4, pt Ec), (5, pt Ea), (6, zn d), (7, pt Eb), (14, ni i)] ∧ Ev w [] wo [.box Eb (zh p) 33, .box Ec (zh (zf 4 0)) 33, .box Ea (zh (nds 8 (nv a * nv b))) 99] ∧ (zc p = 4) ∧ ((nv p + zY * d.toNat) % mF 1 = (nv a * nv b) % mF 1) ∧ (d.toNat ≤ 38)) ⟨_, o, c, rfl, El.sb, Ek.pk [0, 1, 2], hlo, hq.1, hq.2⟩ ?_
 rintro Hk _ _ ⟨p, d, rfl, En, Ed, hlp, hmp, hcp⟩
 refine wp_seq <| d_s [4,5,6,7,14,49] [] En fun _ Ee => ?_
 refine c_n ((zA d : Nat) : Int) (0 : Int) Ee (fun Eo => ?_) (fun Eo => ?_)
 ·
  refine wp_skip <| ze <| wp_block <| zk <| f_o <| Zn 0 4 (zh p) Ee Ed rfl (zd hlp) fun _ Ep => d_k [4,5,6,7,14,51,54] [(2, g_i .u64 (ZW (x := (38 : UInt64)) (y := d) rfl rfl))] 4 Ep fun _ Eq => f_o <| c_p Eq Ed (plus_go _ p ([(38 : UInt64) * d, 0, 0, 0] : List UInt64) hlp (show zc ([(38 : UInt64) * d, 0, 0, 0] : List UInt64) = 4 from rfl)) fun _ _ Er Es => d_k [4,5,6,7,14,56,57] [] 8 Er fun _ Et => f_o <| zZ 0 4 (zh (nd (nv p + nv ([(38 : UInt64) * d, 0, 0, 0] : List UInt64)))) _ Et Es rfl (zd (zl _ _)) (zd hlp) (zw _) rfl fun _ _ Eu Ew => d_e [4,5,6,7,14] [] Eu fun _ Ex => ?_
  refine zx <| ze <| ⟨_, ⟨(nd (nv p + nv ([(38 : UInt64) * d, 0, 0, 0] : List UInt64))), (u1 (zY ≤ nv p + nv ([(38 : UInt64) * d, 0, 0, 0] : List UInt64))), rfl, Ex.sb, Ew.pk [0, 1, 2], zl _ _, (step38 hlp hcp hmp).1, Nat.le_trans (u1_le _) (by decide)⟩, ?_⟩
  rw [(step38 hlp hcp hmp).2]; simp only [zY]; omega
 refine wp_exit <| zD <| zD <| zP <| ze <| wp_seq <| r_c (fun ac wo => Env ac 61 [(4, pt Ec), (5, pt Ea), (6, zn d), (7, pt Eb), (14, ni i)] ∧ Ev w [] wo [.box Eb (zh p) 33, .box Ec (zh (nd (nv p % nv (nd (mF 1))))) 33, .box Ea (zh (nds 8 (nv a * nv b))) 99]) ?_ ?_
 ·
  refine h_s (fun wv => Ev w [] wv [.box Eb (zh p) 33]) [] 4 ?_
  have Ef := Ed.trans (zS Ed.heap)
  refine q_r 0 (s := Instr.loadAt 33 (pt Eb)) (v := .agg (zg (zh p))) Ee (fun w hS => zV (m := 4) (cs := zh p) (zd hlp) (by kernel_rfl) (by kernel_rfl) (hS.heap.cells (k := 0) (off := 0) (m := 4) rfl (zr (zd hlp)))) (Ef.pk [0]) fun _ Ey => q_t 1 ?_
  refine c_p Ey Ef (prime1_go _) fun _ _ Ez Eg => ⟨fun _ => Eg.pk [0], ?_⟩
  refine q_t 2 ?_
  refine c_p Ez Eg (right_go _ p (nd (mF 1)) hlp (zl _ _) (by rw [nv_mF]; decide)) fun _ _ EA Eh => ⟨fun _ => Eh.pk [0], ?_⟩
  refine q_t 3 ?_
  refine zZ 1 4 (zh (nd (nv p % nv (nd (mF 1))))) [.box Eb (zh p) 33, .box Ec (zh (nd (nv p % nv (nd (mF 1))))) 33, .box Ea (zh (nds 8 (nv a * nv b))) 99] EA Eh rfl (zd (zl _ _)) (zd (zi)) (zw _) rfl fun _ _ EB Ei => ⟨fun _ => Ei.pk [0], ?_⟩
  exact h_e ⟨EB.sb, Ei.pk [0, 1, 2]⟩
 rintro _ _ ⟨EC, Ej⟩
 refine ze <| wp_ret <| Zf (v := .agg (zg (zh (nd (nv p % nv (nd (mF 1))))))) (t := 4) (T := 33) (ad := ⟨Ec, 0, none⟩) EC (by kernel_rfl) (by kernel_rfl) (zF (t := 33) (k := 1) (off := 0) (m := 4) (xs := zh (nd (nv p % nv (nd (mF 1))))) Ej rfl (zr (zd (zl _ _))) (zd (zl _ _)) (by kernel_rfl) (by kernel_rfl)) ?_
 have hd0 : d.toNat = 0 := by omega
 have he : nd (nv p % nv (nd (mF 1))) = nd ((nv a * nv b) % mF 1) := by rw [← hmp, hd0, nv_mF, Qc, Zy]
 exact ⟨by rw [he], Ej.pk []⟩
theorem mod_1 (w : World)  : Calls zB 51 #[.int .i64 1] w fun e w' => e = .returned (.agg (zg (zh (nd (mF 1))))) ∧ Ev w [] w' [] := by
 refine d_0 [(0, .int .i64 1)] 19 Tryz.func51 Tryz.ntmps51 (Heap.nil _) fun Ef Eg Eh => wp_seq <| zk <| f_o <| m_z 33 (zh (zf 4 0)) Eg Eh fun _ _ Ei Ej Ek => f_e <| ze <| wp_seq <| d_s [2,3] [] Ej fun _ El => wp_block <| d_s [2,3,4] [] El fun _ Ee => c_t Ee ?_
 refine wp_seq <| zk <| f_o <| c_p Ee Ek (prime1_go _) fun _ _ Eb Ec => f_o <| zZ 0 4 (zh (nd (mF 1))) _ Eb Ec rfl (zd (zl _ _)) (zd (zi)) (zw _) rfl fun _ _ Ed Ea => f_e <| ze <| wp_ret <| Qg <| Zx <| Zf (v := .agg (zg (zh (nd (mF 1))))) (t := 2) (T := 33) (ad := ⟨Ei, 0, none⟩) Ed (by kernel_rfl) (by kernel_rfl) (zF (t := 33) (k := 0) (off := 0) (m := 4) (xs := zh (nd (mF 1))) Ea rfl (zr (zd (zl _ _))) (zd (zl _ _)) (by kernel_rfl) (by kernel_rfl)) ?_
 exact ⟨rfl, Ea.pk []⟩
theorem mod_2 (w : World)  : Calls zB 51 #[.int .i64 2] w fun e w' => e = .returned (.agg (zg (zh (nd (mF 2))))) ∧ Ev w [] w' [] := by
 refine d_0 [(0, .int .i64 2)] 19 Tryz.func51 Tryz.ntmps51 (Heap.nil _) fun Eg Eh Ei => wp_seq <| zk <| f_o <| m_z 33 (zh (zf 4 0)) Eh Ei fun _ _ Ej Ek El => f_e <| ze <| wp_seq <| d_s [2,3] [] Ek fun _ Em => wp_block <| d_s [2,3,4] [] Em fun _ Ef => c_f Ef ?_
 refine d_s [2,3,7] [] Ef fun _ Ea => c_t Ea ?_
 refine wp_seq <| zk <| f_o <| c_p Ea El (prime2_go _) fun _ _ Ec Ed => f_o <| zZ 0 4 (zh (nd (mF 2))) _ Ec Ed rfl (zd (zl _ _)) (zd (zi)) (zw _) rfl fun _ _ Ee Eb => f_e <| ze <| wp_ret <| Qg <| Zx <| Zf (v := .agg (zg (zh (nd (mF 2))))) (t := 2) (T := 33) (ad := ⟨Ej, 0, none⟩) Ee (by kernel_rfl) (by kernel_rfl) (zF (t := 33) (k := 0) (off := 0) (m := 4) (xs := zh (nd (mF 2))) Eb rfl (zr (zd (zl _ _))) (zd (zl _ _)) (by kernel_rfl) (by kernel_rfl)) ?_
 exact ⟨rfl, Eb.pk []⟩
theorem mod_3 (w : World)  : Calls zB 51 #[.int .i64 3] w fun e w' => e = .returned (.agg (zg (zh (nd (mF 3))))) ∧ Ev w [] w' [] := by
 refine d_0 [(0, .int .i64 3)] 19 Tryz.func51 Tryz.ntmps51 (Heap.nil _) fun Ei Ej Ek => wp_seq <| zk <| f_o <| m_z 33 (zh (zf 4 0)) Ej Ek fun _ _ El Em En => f_e <| ze <| wp_seq <| d_s [2,3] [] Em fun _ Eo => wp_block <| d_s [2,3,4] [] Eo fun _ Eh => c_f Eh ?_
 refine d_s [2,3,7] [] Eh fun _ Ea => c_f Ea ?_
 refine d_s [2,3,10] [] Ea fun _ Eb => c_t Eb ?_
 refine wp_seq <| zk <| d_k [2,3,12] [] 1 Eb fun _ Ed => f_o <| c_p Ed En (prime3_go _) fun _ _ Ee Ef => f_o <| zZ 0 4 (zh (nd (mF 3))) _ Ee Ef rfl (zd (zl _ _)) (zd (zi)) (zw _) rfl fun _ _ Eg Ec => f_e <| ze <| wp_ret <| Qg <| Zx <| Zf (v := .agg (zg (zh (nd (mF 3))))) (t := 2) (T := 33) (ad := ⟨El, 0, none⟩) Eg (by kernel_rfl) (by kernel_rfl) (zF (t := 33) (k := 0) (off := 0) (m := 4) (xs := zh (nd (mF 3))) Ec rfl (zr (zd (zl _ _))) (zd (zl _ _)) (by kernel_rfl) (by kernel_rfl)) ?_
 exact ⟨rfl, Ec.pk []⟩
theorem mod_4 (w : World)  : Calls zB 51 #[.int .i64 4] w fun e w' => e = .returned (.agg (zg (zh (nd (mF 4))))) ∧ Ev w [] w' [] := by
 refine d_0 [(0, .int .i64 4)] 19 Tryz.func51 Tryz.ntmps51 (Heap.nil _) fun Ej Ek El => wp_seq <| zk <| f_o <| m_z 33 (zh (zf 4 0)) Ek El fun _ _ Em En Eo => f_e <| ze <| wp_seq <| d_s [2,3] [] En fun _ Ep => wp_block <| d_s [2,3,4] [] Ep fun _ Ei => c_f Ei ?_
 refine d_s [2,3,7] [] Ei fun _ Ea => c_f Ea ?_
 refine d_s [2,3,10] [] Ea fun _ Eb => c_f Eb ?_
 refine d_s [2,3,14] [] Eb fun _ Ec => c_t Ec ?_
 refine wp_seq <| zk <| d_k [2,3,16] [] 1 Ec fun _ Ee => f_o <| c_p Ee Eo (prime4_go _) fun _ _ Ef Eg => f_o <| zZ 0 4 (zh (nd (mF 4))) _ Ef Eg rfl (zd (zl _ _)) (zd (zi)) (zw _) rfl fun _ _ Eh Ed => f_e <| ze <| wp_ret <| Qg <| Zx <| Zf (v := .agg (zg (zh (nd (mF 4))))) (t := 2) (T := 33) (ad := ⟨Em, 0, none⟩) Eh (by kernel_rfl) (by kernel_rfl) (zF (t := 33) (k := 0) (off := 0) (m := 4) (xs := zh (nd (mF 4))) Ed rfl (zr (zd (zl _ _))) (zd (zl _ _)) (by kernel_rfl) (by kernel_rfl)) ?_
 exact ⟨rfl, Ed.pk []⟩
theorem mod_0 (w : World) (f : Int)  (hf : ¬ (f = 1 ∨ f = 2 ∨ f = 3 ∨ f = 4)) : Calls zB 51 #[.int .i64 f] w fun e w' => e = .returned (.agg (zg (zh (nd (mF 0))))) ∧ Ev w [] w' [] := by
 refine d_0 [(0, .int .i64 f)] 19 Tryz.func51 Tryz.ntmps51 (Heap.nil _) fun El Em En => wp_seq <| zk <| f_o <| m_z 33 (zh (zf 4 0)) Em En fun _ _ Eo Ep Eq => f_e <| ze <| wp_seq <| d_s [2,3] [] Ep fun _ Er => wp_block <| d_s [2,3,4] [] Er fun _ Ek => ?_
 refine c_e f (1 : Int) Ek (fun Ea => ?_) (fun Ea => ?_)
 ·
  exact absurd Ea (by omega)
 refine d_s [2,3,7] [] Ek fun _ Eb => ?_
 refine c_e f (2 : Int) Eb (fun Ec => ?_) (fun Ec => ?_)
 ·
  exact absurd Ec (by omega)
 refine d_s [2,3,10] [] Eb fun _ Ed => ?_
 refine c_e f (3 : Int) Ed (fun Ee => ?_) (fun Ee => ?_)
 ·
  exact absurd Ee (by omega)
 refine d_s [2,3,14] [] Ed fun _ Ef => ?_
 refine c_e f (4 : Int) Ef (fun Eg => ?_) (fun Eg => ?_)
 ·
  exact absurd Eg (by omega)
 refine wp_skip <| zx <| ze <| wp_seq <| zk <| d_k [2,3,18] [] 1 Ef fun _ Ei => f_o <| zZ 0 4 (zh ([0, 0, 0, 0] : List UInt64)) _ Ei Eq rfl (zd (show zc ([0, 0, 0, 0] : List UInt64) = 4 from rfl)) (zd (zi)) (zw _) rfl fun _ _ Ej Eh => f_e <| ze <| wp_ret <| Zf (v := .agg (zg (zh ([0, 0, 0, 0] : List UInt64)))) (t := 2) (T := 33) (ad := ⟨Eo, 0, none⟩) Ej (by kernel_rfl) (by kernel_rfl) (zF (t := 33) (k := 0) (off := 0) (m := 4) (xs := zh ([0, 0, 0, 0] : List UInt64)) Eh rfl (zr (zd (show zc ([0, 0, 0, 0] : List UInt64) = 4 from rfl))) (zd (show zc ([0, 0, 0, 0] : List UInt64) = 4 from rfl)) (by kernel_rfl) (by kernel_rfl)) ?_
 exact ⟨by kernel_rfl, Eh.pk []⟩
theorem mF_none {f : Int} (hf : ¬ (f = 1 ∨ f = 2 ∨ f = 3 ∨ f = 4)) : mF f = 0 := by
  unfold mF
  rw [if_neg (by omega), if_neg (by omega), if_neg (by omega), if_neg (by omega)]
theorem modulus_go (w : World) (f : Int) : Calls zB 51 #[.int .i64 f] w fun e w' => e = .returned (.agg (zg (zh (nd (mF f))))) ∧ Ev w [] w' [] := by
  by_cases hf : f = 1 ∨ f = 2 ∨ f = 3 ∨ f = 4
  · rcases hf with rfl | rfl | rfl | rfl
    · exact mod_1 w
    · exact mod_2 w
    · exact mod_3 w
    · exact mod_4 w
  · rw [mF_none hf]
    exact mod_0 w f hf
theorem is_go (w : World) (f : Int) : Calls zB 50 #[.int .i64 f] w fun e w' => e = .returned (.bool (decide (f = 1 ∨ f = 2 ∨ f = 3 ∨ f = 4))) ∧ Ev w [] w' [] := by
 refine d_0 [(0, .int .i64 f)] 9 Tryz.func50 Tryz.ntmps50 (Heap.nil _) fun Ef Eg Ed => d_s [0,2] [] Eg fun _ Eh => wp_seq <| zk <| d_k [0,2,5] [] 3 Eh fun _ Ee => ?_
 rcases Za (decide (f ≥ (1 : Int))) with Ea | Ea
 ·
  have Ei := Ee.fx (t := 5) (congrArg Value.bool Ea)
  have hp7 : f ≥ (1 : Int) := of_decide_eq_true Ea
  refine d_e [2] [] Ei fun _ Ej => ze <| wp_ret <| Qh (t := 2) (v := .bool (decide (f ≤ (4 : Int)))) Ej (by kernel_rfl) (by kernel_rfl) ?_
  have e : (decide (f ≤ (4 : Int))) = decide (f = 1 ∨ f = 2 ∨ f = 3 ∨ f = 4) := by
   by_cases hq : f = 1 ∨ f = 2 ∨ f = 3 ∨ f = 4
   · rw [decide_eq_true hq] <;> first | rfl | exact decide_eq_true (by omega) | (exfalso; omega)
   · rw [decide_eq_false hq] <;> first | rfl | exact decide_eq_false (by omega) | (exfalso; omega)
  exact ⟨by rw [e], Ed.pk []⟩
 have Eb := Ee.fx (t := 5) (congrArg Value.bool Ea)
 have hp11 : ¬ (f ≥ (1 : Int)) := of_decide_eq_false Ea
 refine d_e [2] [] Eb fun _ Ec => ze <| wp_ret <| Qh (t := 2) (v := .bool false) Ec (by kernel_rfl) (by kernel_rfl) ?_
 have e : (false) = decide (f = 1 ∨ f = 2 ∨ f = 3 ∨ f = 4) := by
  by_cases hq : f = 1 ∨ f = 2 ∨ f = 3 ∨ f = 4
  · rw [decide_eq_true hq] <;> first | rfl | exact decide_eq_true (by omega) | (exfalso; omega)
  · rw [decide_eq_false hq] <;> first | rfl | exact decide_eq_false (by omega) | (exfalso; omega)
 exact ⟨by rw [e], Ed.pk []⟩
theorem is_go_yes (w : World) (f : Int) (hf : f = 1 ∨ f = 2 ∨ f = 3 ∨ f = 4) : Calls zB 50 #[.int .i64 f] w fun e w' => e = .returned (.bool true) ∧ Ev w [] w' [] := by
  have h := is_go w f
  rwa [decide_eq_true hf] at h
theorem right_mF (w : World) (f : Int) (hf : f = 1 ∨ f = 2 ∨ f = 3 ∨ f = 4) (a : List UInt64) (ha : zc a = 4) : Calls zB 53 #[.agg (zg (zh a)), .agg (zg (zh (nd (mF f))))] w fun e w' => e = .returned (.agg (zg (zh (nd (nv a % mF f))))) ∧ Ev w [] w' [] := by
  have h := right_go w a (nd (mF f)) ha (zl _ _) (by rw [nv_mF]; exact Zu Yb (mF_pos hf))
  rw [nv_mF] at h
  exact h
theorem plus_nd_go (w : World) (x y : Nat) (hx : x < zY) (hy : y < zY) : Calls zB 52 #[.agg (zg (zh (nd x))), .agg (zg (zh (nd y)))] w fun e w' => e = .returned (.tuple #[.agg (zg (zh (nd (x + y)))), zn (u1 (zY ≤ x + y))]) ∧ Ev w [] w' [] := by
  have h := plus_go w (nd x) (nd y) (zl _ _) (zl _ _)
  rw [nv_nd hx, nv_nd hy] at h
  exact h
theorem minus_nd_go (w : World) (x y : Nat) (hx : x < zY) (hy : y < zY) : Calls zB 55 #[.agg (zg (zh (nd x))), .agg (zg (zh (nd y)))] w fun e w' => e = .returned (.tuple #[.agg (zg (zh (nd (x + zY - y)))), zn (u1 (x < y))]) ∧ Ev w [] w' [] := by
  have h := J1 w (nd x) (nd y) (zl _ _) (zl _ _)
  rw [nv_nd hx, nv_nd hy] at h
  exact h
theorem add_fin1 {x y M : Nat} (hx : x < M) (hy : y < M) (hM : M < zY) (h : zY ≤ x + y ∨ ¬ nv (nd (x + y)) < nv (nd M)) : nd (nv (nd (x + y)) + zY - nv (nd M)) = nd ((x + y) % M) := by
  rw [nv_nd hM, Ju] at *
  have e : (x + y) % M = x + y - M := by
    rw [Yv (by simp only [zY] at *; omega), zL (by omega)]
  rw [e, ← J7, ← J7 (x + y - M)]
  congr 1
  simp only [zY] at *
  omega
theorem add_fin2 {x y M : Nat} (hM : M < zY) (h1 : ¬ zY ≤ x + y) (h : nv (nd (x + y)) < nv (nd M)) : nd (x + y) = nd ((x + y) % M) := by
  rw [nv_nd hM, nv_nd (by omega)] at h
  rw [zL h]
theorem sub_fin1 {x y M : Nat} (hx : x < M) (hy : y < M) (hM : M < zY) (h : x < y) : nd (nv (nd (x + zY - y)) + nv (nd M)) = nd ((x + M - y) % M) := by
  rw [nv_nd hM, Ju, zL (a := x + M - y) (by omega), ← J7, ← J7 (x + M - y)]
  congr 1
  simp only [zY] at *
  omega
theorem sub_fin2 {x y M : Nat} (hx : x < M) (hy : y < M) (hM : M < zY) (h : ¬ x < y) : nd (x + zY - y) = nd ((x + M - y) % M) := by
  rw [Yv (by omega), zL (by omega), ← J7, ← J7 (x + M - y - M)]
  congr 1
  simp only [zY] at *
  omega
def addM (f : Int) (x y : Nat) : Nat := (x + y) % mF f
def subM (f : Int) (x y : Nat) : Nat := (x % mF f + mF f - y % mF f) % mF f
def mulM (f : Int) (x y : Nat) : Nat := (x * y) % mF f
theorem add_mM (f : Int) (x y : Nat) : (x % mF f + y % mF f) % mF f = addM f x y := (YM _ _ _).symm
theorem addM_lt {f : Int} (hf : f = 1 ∨ f = 2 ∨ f = 3 ∨ f = 4) (x y : Nat) : addM f x y < zY := mod_lt_w hf
theorem subM_lt {f : Int} (hf : f = 1 ∨ f = 2 ∨ f = 3 ∨ f = 4) (x y : Nat) : subM f x y < zY := mod_lt_w hf
theorem mulM_lt {f : Int} (hf : f = 1 ∨ f = 2 ∨ f = 3 ∨ f = 4) (x y : Nat) : mulM f x y < zY := mod_lt_w hf
theorem add_go (w : World) (f : Int) (hf : f = 1 ∨ f = 2 ∨ f = 3 ∨ f = 4) (a b : List UInt64) (ha : zc a = 4) (hb : zc b = 4) : Calls zB 23 #[.int .i64 f, .agg (zg (zh a)), .agg (zg (zh b))] w fun e w' => e = .returned (.agg (zg (zh (nd (addM f (nv a) (nv b)))))) ∧ Ev w [] w' [] := by
 have hla : nv a % mF f < mF f := ZU _ (Zu Yb (mF_pos hf))
 have hlb : nv b % mF f < mF f := ZU _ (Zu Yb (mF_pos hf))
 have hmw := mF_lt f
 refine d_0 [(0, .int .i64 f), (1, .agg (zg (zh a))), (2, .agg (zg (zh b)))] 39 Tryz.func23 Tryz.ntmps23 (Heap.nil _) fun H7 H8 H9 => wp_seq <| zk <| f_o <| m_m 33 (zh a) H8 H9 fun _ _ Et aa ab => f_o <| m_m 33 (zh b) aa ab fun _ _ Eu ae HV => f_o <| m_z 33 (zh (zf 4 0)) ae HV fun _ _ Eb HW HX => f_e <| ze <| wp_seq <| wp_seq <| zk <| d_k [0,4,5,6,10] [] 1 HW fun _ HY => f_o <| c_p HY HX (is_go_yes _ f hf) fun _ _ HZ H0 => ?_
 refine d_e [0,4,5,6,12] [] HZ fun _ EU => ze <| c_f EU ?_
 refine wp_skip <| ze <| wp_seq <| zk <| d_k [0,4,5,6,14] [] 1 EU fun _ H1 => f_o <| c_p H1 H0 (modulus_go _ f) fun _ _ H2 H3 => f_o <| m_z 33 (zh (zf 4 0)) H2 H3 fun _ _ Ea H4 H5 => f_o <| zZ 3 4 (zh (nd (mF f))) _ H4 H5 rfl (zd (zl _ _)) (zd (zi)) (zw _) rfl fun _ _ H6 EV => ?_
 refine f_e <| ze <| wp_seq <| r_c (fun ac wo => ∃ (Ec : Nat), Env ac 39 [(0, .int .i64 f), (6, pt Eb), (7, pt Ea), (8, pt Ec), (9, zn (u1 (zY ≤ nv a % mF f + nv b % mF f)))] ∧ Ev w [] wo [.box Eb (zh (zf 4 0)) 33, .box Ea (zh (nd (mF f))) 33, .box Ec (zh (nd (nv a % mF f + nv b % mF f))) 33]) ?_ ?_
 ·
  refine h_s (fun wv => Ev w [] wv [.box Et (zh a) 33, .box Eu (zh b) 33, .box Ea (zh (nd (mF f))) 33]) [] 13 ?_
  have Ek := EV.trans (zS EV.heap)
  refine h_name fun G hG => ?_
  have nd662 : ∀ (ac : Act) (wo : World), Env ac 39 [(0, .int .i64 f), (6, pt Eb), (7, pt Ea), (23, .tuple #[.agg (zg (zh (nd (nv a % mF f + nv b % mF f)))), zn (u1 (zY ≤ nv a % mF f + nv b % mF f))])] → Ev w [] wo [.box Et (zh a) 33, .box Eu (zh b) 33, .box Eb (zh (zf 4 0)) 33, .box Ea (zh (nd (mF f))) 33] → G 6 #[true, true, true, true, true, true, true, false, false, false, false, false, false] ac wo := by
   intro _ _ EW Ew
   refine Zr hG ?_
   refine q_s [7,8,9] [] 3 EW (Ew.pk [0, 1, 3]) fun _ EX => q_t 10 ?_
   refine m_z 33 (zh (zf 4 0)) EX Ew fun _ _ Ex EY Ey => ⟨fun _ => Ey.pk [0, 1, 3], ?_⟩
   refine q_t 11 ?_
   refine zZ 4 4 (zh (nd (nv a % mF f + nv b % mF f))) [.box Et (zh a) 33, .box Eu (zh b) 33, .box Eb (zh (zf 4 0)) 33, .box Ea (zh (nd (mF f))) 33, .box Ex (zh (nd (nv a % mF f + nv b % mF f))) 33] EY Ey rfl (zd (zl _ _)) (zd (zi)) (zw _) rfl fun _ _ EZ El => ⟨fun _ => El.pk [0, 1, 3], ?_⟩
   refine q_s [12] [] 0 EZ (El.pk [0, 1, 3]) fun _ E0 => ?_
   exact h_e ⟨Ex, E0.sb, El.pk [2, 3, 4]⟩
  have nd680 : ∀ (ac : Act) (wo : World) (Eh : Nat), Env ac 39 [(0, .int .i64 f), (6, pt Eb), (7, pt Ea), (8, pt Eh), (19, .agg (zg (zh (nd (nv a % mF f))))), (22, .agg (zg (zh (nd (nv b % mF f)))))] → Ev w [] wo [.box Et (zh a) 33, .box Eu (zh b) 33, .box Eb (zh (zf 4 0)) 33, .box Ea (zh (nd (mF f))) 33, .box Eh (zh (zf 4 0)) 33] → G 6 #[true, true, true, true, true, true, false, false, false, false, true, false, false] ac wo := by
   intro _ _ Eh E1 E2
   refine Zr hG ?_
   refine q_t 6 ?_
   refine c_p E1 E2 (plus_nd_go _ (nv a % mF f) (nv b % mF f) (mod_lt_w hf) (mod_lt_w hf)) fun _ _ E3 Em => ⟨fun _ => Em.pk [0, 1, 3], ?_⟩
   refine q_s [7,8,9] [] 2 E3 (Em.pk [0, 1, 3]) fun _ E4 => q_t 11 ?_
   refine zZ 4 4 (zh (nd (nv a % mF f + nv b % mF f))) _ E4 Em rfl (zd (zl _ _)) (zd (zi)) (zw _) rfl fun _ _ E5 En => ⟨fun _ => En.pk [0, 1, 3], ?_⟩
   refine q_s [12] [] 0 E5 (En.pk [0, 1, 3]) fun _ E6 => ?_
   exact h_e ⟨Eh, E6.sb, En.pk [2, 3, 4]⟩
  have nd700 : ∀ (ac : Act) (wo : World), Env ac 39 [(0, .int .i64 f), (6, pt Eb), (7, pt Ea), (19, .agg (zg (zh (nd (nv a % mF f))))), (22, .agg (zg (zh (nd (nv b % mF f)))))] → Ev w [] wo [.box Et (zh a) 33, .box Eu (zh b) 33, .box Eb (zh (zf 4 0)) 33, .box Ea (zh (nd (mF f))) 33] → G 7 #[true, true, true, true, true, true, false, false, false, false, false, false, false] ac wo := by
   intro _ _ Ez EA
   refine Zr hG ?_
   refine QA [6, 10] (by kernel_rfl) rfl ?_
   refine ⟨?_, ?_, trivial⟩
   ·
    rintro _ rfl
    refine c_p Ez EA (plus_nd_go _ (nv a % mF f) (nv b % mF f) (mod_lt_w hf) (mod_lt_w hf)) fun _ _ E7 EB => ⟨fun _ => EB.pk [0, 1, 3], ?_⟩
    exact QF hG (by kernel_rfl) (nd662 _ _ (E7.sb) (EB.pk [0, 1, 2, 3]))
   rintro _ rfl
   refine m_z 33 (zh (zf 4 0)) Ez EA fun _ _ E8 E9 EC => ⟨fun _ => EC.pk [0, 1, 3], ?_⟩
   exact QF hG (by kernel_rfl) (nd680 _ _ E8 (E9.sb) (EC.pk [0, 1, 2, 3, 4]))
  have nd717 : ∀ (ac : Act) (wo : World) (Ed : Nat), Env ac 39 [(0, .int .i64 f), (6, pt Eb), (7, pt Ea), (8, pt Ed), (19, .agg (zg (zh (nd (nv a % mF f))))), (20, .agg (zg (zh b))), (21, .agg (zg (zh (nd (mF f)))))] → Ev w [] wo [.box Et (zh a) 33, .box Eu (zh b) 33, .box Eb (zh (zf 4 0)) 33, .box Ea (zh (nd (mF f))) 33, .box Ed (zh (zf 4 0)) 33] → G 7 #[true, true, true, true, true, false, false, false, false, false, true, false, false] ac wo := by
   intro _ _ Ed Ha Hb
   refine Zr hG ?_
   refine q_t 5 ?_
   refine c_p Ha Hb (right_mF _ f hf b hb) fun _ _ Hc ED => ⟨fun _ => ED.pk [0, 1, 3], ?_⟩
   refine q_t 6 ?_
   refine c_p Hc ED (plus_nd_go _ (nv a % mF f) (nv b % mF f) (mod_lt_w hf) (mod_lt_w hf)) fun _ _ Hd Eo => ⟨fun _ => Eo.pk [0, 1, 3], ?_⟩
   refine q_s [7,8,9] [] 2 Hd (Eo.pk [0, 1, 3]) fun _ He => q_t 11 ?_
   refine zZ 4 4 (zh (nd (nv a % mF f + nv b % mF f))) [.box Et (zh a) 33, .box Eu (zh b) 33, .box Eb (zh (zf 4 0)) 33, .box Ea (zh (nd (mF f))) 33, .box Ed (zh (nd (nv a % mF f + nv b % mF f))) 33] He Eo rfl (zd (zl _ _)) (zd (zi)) (zw _) rfl fun _ _ Hf Ep => ⟨fun _ => Ep.pk [0, 1, 3], ?_⟩
   refine q_s [12] [] 0 Hf (Ep.pk [0, 1, 3]) fun _ Hg => ?_
   exact h_e ⟨Ed, Hg.sb, Ep.pk [2, 3, 4]⟩
  have nd744 : ∀ (ac : Act) (wo : World), Env ac 39 [(0, .int .i64 f), (6, pt Eb), (7, pt Ea), (19, .agg (zg (zh (nd (nv a % mF f))))), (20, .agg (zg (zh b))), (21, .agg (zg (zh (nd (mF f)))))] → Ev w [] wo [.box Et (zh a) 33, .box Eu (zh b) 33, .box Eb (zh (zf 4 0)) 33, .box Ea (zh (nd (mF f))) 33] → G 8 #[true, true, true, true, true, false, false, false, false, false, false, false, false] ac wo := by
   intro _ _ EE EF
   refine Zr hG ?_
   refine QA [5, 10] (by kernel_rfl) rfl ?_
   refine ⟨?_, ?_, trivial⟩
   ·
    rintro _ rfl
    refine c_p EE EF (right_mF _ f hf b hb) fun _ _ Hh EG => ⟨fun _ => EG.pk [0, 1, 3], ?_⟩
    exact QF hG (by kernel_rfl) (nd700 _ _ (Hh.sb) (EG.pk [0, 1, 2, 3]))
   rintro _ rfl
   refine m_z 33 (zh (zf 4 0)) EE EF fun _ _ Hi Hj EH => ⟨fun _ => EH.pk [0, 1, 3], ?_⟩
   exact QF hG (by kernel_rfl) (nd717 _ _ Hi (Hj.sb) (EH.pk [0, 1, 2, 3, 4]))
  have nd761 : ∀ (ac : Act) (wo : World) (Ei : Nat), Env ac 39 [(0, .int .i64 f), (6, pt Eb), (7, pt Ea), (8, pt Ei), (17, .agg (zg (zh a))), (18, .agg (zg (zh (nd (mF f))))), (20, .agg (zg (zh b))), (21, .agg (zg (zh (nd (mF f)))))] → Ev w [] wo [.box Et (zh a) 33, .box Eu (zh b) 33, .box Eb (zh (zf 4 0)) 33, .box Ea (zh (nd (mF f))) 33, .box Ei (zh (zf 4 0)) 33] → G 8 #[true, true, false, true, true, false, false, false, false, false, true, false, false] ac wo := by
   intro _ _ Ei Hk Hl
   refine Zr hG ?_
   refine q_t 2 ?_
   refine c_p Hk Hl (right_mF _ f hf a ha) fun _ _ Hm EI => ⟨fun _ => EI.pk [0, 1, 3], ?_⟩
   refine q_t 5 ?_
   refine c_p Hm EI (right_mF _ f hf b hb) fun _ _ Hn EJ => ⟨fun _ => EJ.pk [0, 1, 3], ?_⟩
   refine q_t 6 ?_
   refine c_p Hn EJ (plus_nd_go _ (nv a % mF f) (nv b % mF f) (mod_lt_w hf) (mod_lt_w hf)) fun _ _ Ho Eq => ⟨fun _ => Eq.pk [0, 1, 3], ?_⟩
   refine q_s [7,8,9] [] 2 Ho (Eq.pk [0, 1, 3]) fun _ Hp => q_t 11 ?_
   refine zZ 4 4 (zh (nd (nv a % mF f + nv b % mF f))) _ Hp Eq rfl (zd (zl _ _)) (zd (zi)) (zw _) rfl fun _ _ Hq Er => ⟨fun _ => Er.pk [0, 1, 3], ?_⟩
   refine q_s [12] [] 0 Hq (Er.pk [0, 1, 3]) fun _ Hr => ?_
   exact h_e ⟨Ei, Hr.sb, Er.pk [2, 3, 4]⟩
  refine Zr hG ?_
  refine q_r 0 (s := Instr.loadAt 33 (pt Et)) (v := .agg (zg (zh a))) H6 (fun w hS => zV (m := 4) (cs := zh a) (zd ha) (by kernel_rfl) (by kernel_rfl) (hS.heap.cells (k := 0) (off := 0) (m := 4) rfl (zr (zd ha)))) (Ek.pk [0, 1, 3]) fun _ Hs => q_r 1 (s := Instr.loadAt 33 (pt Ea)) (v := .agg (zg (zh (nd (mF f))))) Hs (fun w hS => zV (m := 4) (cs := zh (nd (mF f))) (zd (zl _ _)) (by kernel_rfl) (by kernel_rfl) (hS.heap.cells (k := 2) (off := 0) (m := 4) rfl (zr (zd (zl _ _))))) (Ek.pk [0, 1, 3]) fun _ Ht => q_r 3 (s := Instr.loadAt 33 (pt Eu)) (v := .agg (zg (zh b))) Ht (fun w hS => zV (m := 4) (cs := zh b) (zd hb) (by kernel_rfl) (by kernel_rfl) (hS.heap.cells (k := 1) (off := 0) (m := 4) rfl (zr (zd hb)))) (Ek.pk [0, 1, 3]) fun _ Hu => q_r 4 (s := Instr.loadAt 33 (pt Ea)) (v := .agg (zg (zh (nd (mF f))))) Hu (fun w hS => zV (m := 4) (cs := zh (nd (mF f))) (zd (zl _ _)) (by kernel_rfl) (by kernel_rfl) (hS.heap.cells (k := 2) (off := 0) (m := 4) rfl (zr (zd (zl _ _))))) (Ek.pk [0, 1, 3]) fun _ EK => QA [2, 10] (by kernel_rfl) rfl ?_
  refine ⟨?_, ?_, trivial⟩
  ·
   rintro _ rfl
   refine c_p EK Ek (right_mF _ f hf a ha) fun _ _ Hv EL => ⟨fun _ => EL.pk [0, 1, 3], ?_⟩
   exact QF hG (by kernel_rfl) (nd744 _ _ (Hv.sb) (EL.pk [0, 1, 2, 3]))
  rintro _ rfl
  refine m_z 33 (zh (zf 4 0)) EK Ek fun _ _ Hw Hx EM => ⟨fun _ => EM.pk [0, 1, 3], ?_⟩
  exact QF hG (by kernel_rfl) (nd761 _ _ Hw (Hx.sb) (EM.pk [0, 1, 2, 3, 4]))
 rintro _ _ ⟨Ec, Hy, Ej⟩
 refine ze <| wp_seq <| wp_seq <| zk <| d_k [0,6,7,8,28] [(1, g_b (show (((zA (u1 (zY ≤ nv a % mF f + nv b % mF f)) : Nat) : Int) == (1 : Int)) = decide (zY ≤ nv a % mF f + nv b % mF f) from u1_one _))] 3 Hy fun _ EN => ?_
 rcases Za (decide (zY ≤ nv a % mF f + nv b % mF f)) with Ee | Ee
 ·
  have Hz := EN.fx (t := 28) (congrArg Value.bool Ee)
  have hp823 : zY ≤ nv a % mF f + nv b % mF f := of_decide_eq_true Ee
  refine d_e [0,6,7,8,31] [] Hz fun _ EO => ze <| c_t EO ?_
  refine zk <| f_o <| Zn 2 4 (zh (nd (nv a % mF f + nv b % mF f))) EO Ej rfl (zd (zl _ _)) fun _ HA => f_o <| Zn 1 4 (zh (nd (mF f))) HA Ej rfl (zd (zl _ _)) fun _ HB => f_o <| c_p HB Ej (J1 _ (nd (nv a % mF f + nv b % mF f)) (nd (mF f)) (zl _ _) (zl _ _)) fun _ _ HC HD => d_k [0,6,7,8,36] [] 6 HC fun _ HE => f_o <| zZ 2 4 (zh (nd (nv (nd (nv a % mF f + nv b % mF f)) + zY - nv (nd (mF f))))) [.box Eb (zh (zf 4 0)) 33, .box Ea (zh (nd (mF f))) 33, .box Ec (zh (nd (nv (nd (nv a % mF f + nv b % mF f)) + zY - nv (nd (mF f))))) 33] HE HD rfl (zd (zl _ _)) (zd (zl _ _)) (zw _) rfl fun _ _ HF EP => f_e <| ze <| wp_seq <| zk <| f_o <| Zn 2 4 (zh (nd (nv (nd (nv a % mF f + nv b % mF f)) + zY - nv (nd (mF f))))) HF EP rfl (zd (zl _ _)) fun _ HG => ?_
  refine f_o <| zZ 0 4 (zh (nd (nv (nd (nv a % mF f + nv b % mF f)) + zY - nv (nd (mF f))))) _ HG EP rfl (zd (zl _ _)) (zd (zi)) (zw _) rfl fun _ _ HH EQ => f_e <| ze <| wp_ret <| Zf (v := .agg (zg (zh (nd (nv (nd (nv a % mF f + nv b % mF f)) + zY - nv (nd (mF f))))))) (t := 6) (T := 33) (ad := ⟨Eb, 0, none⟩) HH (by kernel_rfl) (by kernel_rfl) (zF (t := 33) (k := 0) (off := 0) (m := 4) (xs := zh (nd (nv (nd (nv a % mF f + nv b % mF f)) + zY - nv (nd (mF f))))) EQ rfl (zr (zd (zl _ _))) (zd (zl _ _)) (by kernel_rfl) (by kernel_rfl)) ?_
  have e : nd (nv (nd (nv a % mF f + nv b % mF f)) + zY - nv (nd (mF f))) = nd (addM f (nv a) (nv b)) := by rw [← add_mM]; first | exact add_fin1 hla hlb hmw (by first | (left; assumption) | (right; assumption)) | exact add_fin2 hmw (by assumption) (by assumption)
  exact ⟨by rw [e], EQ.pk []⟩
 have HI := EN.fx (t := 28) (congrArg Value.bool Ee)
 have hp850 : ¬ (zY ≤ nv a % mF f + nv b % mF f) := of_decide_eq_false Ee
 refine f_o <| c_l [2,1] (M := [.box Ec (zh (nd (nv a % mF f + nv b % mF f))) 33, .box Ea (zh (nd (mF f))) 33]) HI Ej (fun hM851 => less_go _ Ec Ea (nd (nv a % mF f + nv b % mF f)) (nd (mF f)) (zl _ _) (zl _ _) hM851) ?_
 rintro _ _ ⟨rfl, HJ⟩
 refine ⟨_, _, [.box Ec (zh (nd (nv a % mF f + nv b % mF f))) 33, .box Ea (zh (nd (mF f))) 33, .box Eb (zh (zf 4 0)) 33], rfl, HJ, by kernel_rfl, fun _ HK Ef => ?_⟩
 refine d_e [0,6,7,8,31] [] HK fun _ Es => ?_
 refine ze <| cond_at Es (t := !(decide (nv (nd (nv a % mF f + nv b % mF f)) < nv (nd (mF f))))) (by kernel_rfl) (fun Eg => ?_) (fun Eg => ?_)
 ·
  replace Eg : ¬ (nv (nd (nv a % mF f + nv b % mF f)) < nv (nd (mF f))) := by simpa using Eg
  refine zk <| f_o <| Zn 0 4 (zh (nd (nv a % mF f + nv b % mF f))) Es Ef rfl (zd (zl _ _)) fun _ HL => f_o <| Zn 1 4 (zh (nd (mF f))) HL Ef rfl (zd (zl _ _)) fun _ HM => f_o <| c_p HM Ef (J1 _ (nd (nv a % mF f + nv b % mF f)) (nd (mF f)) (zl _ _) (zl _ _)) fun _ _ HN HO => d_k [0,6,7,8,36] [] 6 HN fun _ HP => f_o <| zZ 0 4 (zh (nd (nv (nd (nv a % mF f + nv b % mF f)) + zY - nv (nd (mF f))))) [.box Ec (zh (nd (nv (nd (nv a % mF f + nv b % mF f)) + zY - nv (nd (mF f))))) 33, .box Ea (zh (nd (mF f))) 33, .box Eb (zh (zf 4 0)) 33] HP HO rfl (zd (zl _ _)) (zd (zl _ _)) (zw _) rfl fun _ _ HQ ER => f_e <| ze <| wp_seq <| zk <| f_o <| Zn 0 4 (zh (nd (nv (nd (nv a % mF f + nv b % mF f)) + zY - nv (nd (mF f))))) HQ ER rfl (zd (zl _ _)) fun _ HR => ?_
  refine f_o <| zZ 2 4 (zh (nd (nv (nd (nv a % mF f + nv b % mF f)) + zY - nv (nd (mF f))))) _ HR ER rfl (zd (zl _ _)) (zd (zi)) (zw _) rfl fun _ _ HS ES => f_e <| ze <| wp_ret <| Zf (v := .agg (zg (zh (nd (nv (nd (nv a % mF f + nv b % mF f)) + zY - nv (nd (mF f))))))) (t := 6) (T := 33) (ad := ⟨Eb, 0, none⟩) HS (by kernel_rfl) (by kernel_rfl) (zF (t := 33) (k := 2) (off := 0) (m := 4) (xs := zh (nd (nv (nd (nv a % mF f + nv b % mF f)) + zY - nv (nd (mF f))))) ES rfl (zr (zd (zl _ _))) (zd (zl _ _)) (by kernel_rfl) (by kernel_rfl)) ?_
  have e : nd (nv (nd (nv a % mF f + nv b % mF f)) + zY - nv (nd (mF f))) = nd (addM f (nv a) (nv b)) := by rw [← add_mM]; first | exact add_fin1 hla hlb hmw (by first | (left; assumption) | (right; assumption)) | exact add_fin2 hmw (by assumption) (by assumption)
  exact ⟨by rw [e], ES.pk []⟩
 replace Eg : nv (nd (nv a % mF f + nv b % mF f)) < nv (nd (mF f)) := by simpa using Eg
 refine wp_skip <| ze <| wp_seq <| zk <| f_o <| Zn 0 4 (zh (nd (nv a % mF f + nv b % mF f))) Es Ef rfl (zd (zl _ _)) fun _ HT => f_o <| zZ 2 4 (zh (nd (nv a % mF f + nv b % mF f))) [.box Ec (zh (nd (nv a % mF f + nv b % mF f))) 33, .box Ea (zh (nd (mF f))) 33, .box Eb (zh (nd (nv a % mF f + nv b % mF f))) 33] HT Ef rfl (zd (zl _ _)) (zd (zi)) (zw _) rfl fun _ _ HU ET => f_e <| ze <| wp_ret <| Zf (v := .agg (zg (zh (nd (nv a % mF f + nv b % mF f))))) (t := 6) (T := 33) (ad := ⟨Eb, 0, none⟩) HU (by kernel_rfl) (by kernel_rfl) (zF (t := 33) (k := 2) (off := 0) (m := 4) (xs := zh (nd (nv a % mF f + nv b % mF f))) ET rfl (zr (zd (zl _ _))) (zd (zl _ _)) (by kernel_rfl) (by kernel_rfl)) ?_
 have e : nd (nv a % mF f + nv b % mF f) = nd (addM f (nv a) (nv b)) := by rw [← add_mM]; first | exact add_fin1 hla hlb hmw (by first | (left; assumption) | (right; assumption)) | exact add_fin2 hmw (by assumption) (by assumption)
 exact ⟨by rw [e], ET.pk []⟩
theorem sub_go (w : World) (f : Int) (hf : f = 1 ∨ f = 2 ∨ f = 3 ∨ f = 4) (a b : List UInt64) (ha : zc a = 4) (hb : zc b = 4) : Calls zB 96 #[.int .i64 f, .agg (zg (zh a)), .agg (zg (zh b))] w fun e w' => e = .returned (.agg (zg (zh (nd (subM f (nv a) (nv b)))))) ∧ Ev w [] w' [] := by
 have hla : nv a % mF f < mF f := ZU _ (Zu Yb (mF_pos hf))
 have hlb : nv b % mF f < mF f := ZU _ (Zu Yb (mF_pos hf))
 have hmw := mF_lt f
 refine d_0 [(0, .int .i64 f), (1, .agg (zg (zh a))), (2, .agg (zg (zh b)))] 35 Tryz.func96 Tryz.ntmps96 (Heap.nil _) fun HP HQ HR => wp_seq <| zk <| f_o <| m_m 33 (zh a) HQ HR fun _ _ Eq HS HT => f_o <| m_m 33 (zh b) HS HT fun _ _ Er HU HD => f_o <| m_z 33 (zh (zf 4 0)) HU HD fun _ _ Eb HE HF => f_e <| ze <| wp_seq <| wp_seq <| zk <| d_k [0,4,5,6,10] [] 1 HE fun _ HG => f_o <| c_p HG HF (is_go_yes _ f hf) fun _ _ HH HI => ?_
 refine d_e [0,4,5,6,12] [] HH fun _ EN => ze <| c_f EN ?_
 refine wp_skip <| ze <| wp_seq <| zk <| d_k [0,4,5,6,14] [] 1 EN fun _ HJ => f_o <| c_p HJ HI (modulus_go _ f) fun _ _ HK HL => f_o <| m_z 33 (zh (zf 4 0)) HK HL fun _ _ Ea HM HN => f_o <| zZ 3 4 (zh (nd (mF f))) _ HM HN rfl (zd (zl _ _)) (zd (zi)) (zw _) rfl fun _ _ HO EO => ?_
 refine f_e <| ze <| wp_seq <| r_c (fun ac wo => ∃ (Ec : Nat), Env ac 35 [(0, .int .i64 f), (6, pt Eb), (7, pt Ea), (8, pt Ec), (9, zn (u1 (nv a % mF f < nv b % mF f)))] ∧ Ev w [] wo [.box Eb (zh (zf 4 0)) 33, .box Ea (zh (nd (mF f))) 33, .box Ec (zh (nd (nv a % mF f + zY - (nv b % mF f)))) 33]) ?_ ?_
 ·
  refine h_s (fun wv => Ev w [] wv [.box Eq (zh a) 33, .box Er (zh b) 33, .box Ea (zh (nd (mF f))) 33]) [] 13 ?_
  have Eh := EO.trans (zS EO.heap)
  refine h_name fun G hG => ?_
  have nd662 : ∀ (ac : Act) (wo : World), Env ac 35 [(0, .int .i64 f), (6, pt Eb), (7, pt Ea), (23, .tuple #[.agg (zg (zh (nd (nv a % mF f + zY - (nv b % mF f))))), zn (u1 (nv a % mF f < nv b % mF f))])] → Ev w [] wo [.box Eq (zh a) 33, .box Er (zh b) 33, .box Eb (zh (zf 4 0)) 33, .box Ea (zh (nd (mF f))) 33] → G 6 #[true, true, true, true, true, true, true, false, false, false, false, false, false] ac wo := by
   intro _ _ EP Es
   refine Zr hG ?_
   refine q_s [7,8,9] [] 3 EP (Es.pk [0, 1, 3]) fun _ EQ => q_t 10 ?_
   refine m_z 33 (zh (zf 4 0)) EQ Es fun _ _ Et ER Eu => ⟨fun _ => Eu.pk [0, 1, 3], ?_⟩
   refine q_t 11 ?_
   refine zZ 4 4 (zh (nd (nv a % mF f + zY - (nv b % mF f)))) [.box Eq (zh a) 33, .box Er (zh b) 33, .box Eb (zh (zf 4 0)) 33, .box Ea (zh (nd (mF f))) 33, .box Et (zh (nd (nv a % mF f + zY - (nv b % mF f)))) 33] ER Eu rfl (zd (zl _ _)) (zd (zi)) (zw _) rfl fun _ _ ES Ei => ⟨fun _ => Ei.pk [0, 1, 3], ?_⟩
   refine q_s [12] [] 0 ES (Ei.pk [0, 1, 3]) fun _ ET => ?_
   exact h_e ⟨Et, ET.sb, Ei.pk [2, 3, 4]⟩
  have nd680 : ∀ (ac : Act) (wo : World) (Ef : Nat), Env ac 35 [(0, .int .i64 f), (6, pt Eb), (7, pt Ea), (8, pt Ef), (19, .agg (zg (zh (nd (nv a % mF f))))), (22, .agg (zg (zh (nd (nv b % mF f)))))] → Ev w [] wo [.box Eq (zh a) 33, .box Er (zh b) 33, .box Eb (zh (zf 4 0)) 33, .box Ea (zh (nd (mF f))) 33, .box Ef (zh (zf 4 0)) 33] → G 6 #[true, true, true, true, true, true, false, false, false, false, true, false, false] ac wo := by
   intro _ _ Ef EU EV
   refine Zr hG ?_
   refine q_t 6 ?_
   refine c_p EU EV (minus_nd_go _ (nv a % mF f) (nv b % mF f) (mod_lt_w hf) (mod_lt_w hf)) fun _ _ EW Ej => ⟨fun _ => Ej.pk [0, 1, 3], ?_⟩
   refine q_s [7,8,9] [] 2 EW (Ej.pk [0, 1, 3]) fun _ EX => q_t 11 ?_
   refine zZ 4 4 (zh (nd (nv a % mF f + zY - (nv b % mF f)))) _ EX Ej rfl (zd (zl _ _)) (zd (zi)) (zw _) rfl fun _ _ EY Ek => ⟨fun _ => Ek.pk [0, 1, 3], ?_⟩
   refine q_s [12] [] 0 EY (Ek.pk [0, 1, 3]) fun _ EZ => ?_
   exact h_e ⟨Ef, EZ.sb, Ek.pk [2, 3, 4]⟩
  have nd700 : ∀ (ac : Act) (wo : World), Env ac 35 [(0, .int .i64 f), (6, pt Eb), (7, pt Ea), (19, .agg (zg (zh (nd (nv a % mF f))))), (22, .agg (zg (zh (nd (nv b % mF f)))))] → Ev w [] wo [.box Eq (zh a) 33, .box Er (zh b) 33, .box Eb (zh (zf 4 0)) 33, .box Ea (zh (nd (mF f))) 33] → G 7 #[true, true, true, true, true, true, false, false, false, false, false, false, false] ac wo := by
   intro _ _ Ew Ex
   refine Zr hG ?_
   refine QA [6, 10] (by kernel_rfl) rfl ?_
   refine ⟨?_, ?_, trivial⟩
   ·
    rintro _ rfl
    refine c_p Ew Ex (minus_nd_go _ (nv a % mF f) (nv b % mF f) (mod_lt_w hf) (mod_lt_w hf)) fun _ _ E0 Ey => ⟨fun _ => Ey.pk [0, 1, 3], ?_⟩
    exact QF hG (by kernel_rfl) (nd662 _ _ (E0.sb) (Ey.pk [0, 1, 2, 3]))
   rintro _ rfl
   refine m_z 33 (zh (zf 4 0)) Ew Ex fun _ _ E1 E2 Ez => ⟨fun _ => Ez.pk [0, 1, 3], ?_⟩
   exact QF hG (by kernel_rfl) (nd680 _ _ E1 (E2.sb) (Ez.pk [0, 1, 2, 3, 4]))
  have nd717 : ∀ (ac : Act) (wo : World) (Ed : Nat), Env ac 35 [(0, .int .i64 f), (6, pt Eb), (7, pt Ea), (8, pt Ed), (19, .agg (zg (zh (nd (nv a % mF f))))), (20, .agg (zg (zh b))), (21, .agg (zg (zh (nd (mF f)))))] → Ev w [] wo [.box Eq (zh a) 33, .box Er (zh b) 33, .box Eb (zh (zf 4 0)) 33, .box Ea (zh (nd (mF f))) 33, .box Ed (zh (zf 4 0)) 33] → G 7 #[true, true, true, true, true, false, false, false, false, false, true, false, false] ac wo := by
   intro _ _ Ed E3 E4
   refine Zr hG ?_
   refine q_t 5 ?_
   refine c_p E3 E4 (right_mF _ f hf b hb) fun _ _ E5 EA => ⟨fun _ => EA.pk [0, 1, 3], ?_⟩
   refine q_t 6 ?_
   refine c_p E5 EA (minus_nd_go _ (nv a % mF f) (nv b % mF f) (mod_lt_w hf) (mod_lt_w hf)) fun _ _ E6 El => ⟨fun _ => El.pk [0, 1, 3], ?_⟩
   refine q_s [7,8,9] [] 2 E6 (El.pk [0, 1, 3]) fun _ E7 => q_t 11 ?_
   refine zZ 4 4 (zh (nd (nv a % mF f + zY - (nv b % mF f)))) [.box Eq (zh a) 33, .box Er (zh b) 33, .box Eb (zh (zf 4 0)) 33, .box Ea (zh (nd (mF f))) 33, .box Ed (zh (nd (nv a % mF f + zY - (nv b % mF f)))) 33] E7 El rfl (zd (zl _ _)) (zd (zi)) (zw _) rfl fun _ _ E8 Em => ⟨fun _ => Em.pk [0, 1, 3], ?_⟩
   refine q_s [12] [] 0 E8 (Em.pk [0, 1, 3]) fun _ E9 => ?_
   exact h_e ⟨Ed, E9.sb, Em.pk [2, 3, 4]⟩
  have nd744 : ∀ (ac : Act) (wo : World), Env ac 35 [(0, .int .i64 f), (6, pt Eb), (7, pt Ea), (19, .agg (zg (zh (nd (nv a % mF f))))), (20, .agg (zg (zh b))), (21, .agg (zg (zh (nd (mF f)))))] → Ev w [] wo [.box Eq (zh a) 33, .box Er (zh b) 33, .box Eb (zh (zf 4 0)) 33, .box Ea (zh (nd (mF f))) 33] → G 8 #[true, true, true, true, true, false, false, false, false, false, false, false, false] ac wo := by
   intro _ _ EB EC
   refine Zr hG ?_
   refine QA [5, 10] (by kernel_rfl) rfl ?_
   refine ⟨?_, ?_, trivial⟩
   ·
    rintro _ rfl
    refine c_p EB EC (right_mF _ f hf b hb) fun _ _ Ha ED => ⟨fun _ => ED.pk [0, 1, 3], ?_⟩
    exact QF hG (by kernel_rfl) (nd700 _ _ (Ha.sb) (ED.pk [0, 1, 2, 3]))
   rintro _ rfl
   refine m_z 33 (zh (zf 4 0)) EB EC fun _ _ Hb Hc EE => ⟨fun _ => EE.pk [0, 1, 3], ?_⟩
   exact QF hG (by kernel_rfl) (nd717 _ _ Hb (Hc.sb) (EE.pk [0, 1, 2, 3, 4]))
  have nd761 : ∀ (ac : Act) (wo : World) (Eg : Nat), Env ac 35 [(0, .int .i64 f), (6, pt Eb), (7, pt Ea), (8, pt Eg), (17, .agg (zg (zh a))), (18, .agg (zg (zh (nd (mF f))))), (20, .agg (zg (zh b))), (21, .agg (zg (zh (nd (mF f)))))] → Ev w [] wo [.box Eq (zh a) 33, .box Er (zh b) 33, .box Eb (zh (zf 4 0)) 33, .box Ea (zh (nd (mF f))) 33, .box Eg (zh (zf 4 0)) 33] → G 8 #[true, true, false, true, true, false, false, false, false, false, true, false, false] ac wo := by
   intro _ _ Eg Hd He
   refine Zr hG ?_
   refine q_t 2 ?_
   refine c_p Hd He (right_mF _ f hf a ha) fun _ _ Hf EF => ⟨fun _ => EF.pk [0, 1, 3], ?_⟩
   refine q_t 5 ?_
   refine c_p Hf EF (right_mF _ f hf b hb) fun _ _ Hg EG => ⟨fun _ => EG.pk [0, 1, 3], ?_⟩
   refine q_t 6 ?_
   refine c_p Hg EG (minus_nd_go _ (nv a % mF f) (nv b % mF f) (mod_lt_w hf) (mod_lt_w hf)) fun _ _ Hh En => ⟨fun _ => En.pk [0, 1, 3], ?_⟩
   refine q_s [7,8,9] [] 2 Hh (En.pk [0, 1, 3]) fun _ Hi => q_t 11 ?_
   refine zZ 4 4 (zh (nd (nv a % mF f + zY - (nv b % mF f)))) _ Hi En rfl (zd (zl _ _)) (zd (zi)) (zw _) rfl fun _ _ Hj Eo => ⟨fun _ => Eo.pk [0, 1, 3], ?_⟩
   refine q_s [12] [] 0 Hj (Eo.pk [0, 1, 3]) fun _ Hk => ?_
   exact h_e ⟨Eg, Hk.sb, Eo.pk [2, 3, 4]⟩
  refine Zr hG ?_
  refine q_r 0 (s := Instr.loadAt 33 (pt Eq)) (v := .agg (zg (zh a))) HO (fun w hS => zV (m := 4) (cs := zh a) (zd ha) (by kernel_rfl) (by kernel_rfl) (hS.heap.cells (k := 0) (off := 0) (m := 4) rfl (zr (zd ha)))) (Eh.pk [0, 1, 3]) fun _ Hl => q_r 1 (s := Instr.loadAt 33 (pt Ea)) (v := .agg (zg (zh (nd (mF f))))) Hl (fun w hS => zV (m := 4) (cs := zh (nd (mF f))) (zd (zl _ _)) (by kernel_rfl) (by kernel_rfl) (hS.heap.cells (k := 2) (off := 0) (m := 4) rfl (zr (zd (zl _ _))))) (Eh.pk [0, 1, 3]) fun _ Hm => q_r 3 (s := Instr.loadAt 33 (pt Er)) (v := .agg (zg (zh b))) Hm (fun w hS => zV (m := 4) (cs := zh b) (zd hb) (by kernel_rfl) (by kernel_rfl) (hS.heap.cells (k := 1) (off := 0) (m := 4) rfl (zr (zd hb)))) (Eh.pk [0, 1, 3]) fun _ Hn => q_r 4 (s := Instr.loadAt 33 (pt Ea)) (v := .agg (zg (zh (nd (mF f))))) Hn (fun w hS => zV (m := 4) (cs := zh (nd (mF f))) (zd (zl _ _)) (by kernel_rfl) (by kernel_rfl) (hS.heap.cells (k := 2) (off := 0) (m := 4) rfl (zr (zd (zl _ _))))) (Eh.pk [0, 1, 3]) fun _ EH => QA [2, 10] (by kernel_rfl) rfl ?_
  refine ⟨?_, ?_, trivial⟩
  ·
   rintro _ rfl
   refine c_p EH Eh (right_mF _ f hf a ha) fun _ _ Ho EI => ⟨fun _ => EI.pk [0, 1, 3], ?_⟩
   exact QF hG (by kernel_rfl) (nd744 _ _ (Ho.sb) (EI.pk [0, 1, 2, 3]))
  rintro _ rfl
  refine m_z 33 (zh (zf 4 0)) EH Eh fun _ _ Hp Hq EJ => ⟨fun _ => EJ.pk [0, 1, 3], ?_⟩
  exact QF hG (by kernel_rfl) (nd761 _ _ Hp (Hq.sb) (EJ.pk [0, 1, 2, 3, 4]))
 rintro _ _ ⟨Ec, Hr, Ee⟩
 refine ze <| wp_seq <| d_s [0,6,7,8,27] [(1, g_b (show (((zA (u1 (nv a % mF f < nv b % mF f)) : Nat) : Int) == (1 : Int)) = decide (nv a % mF f < nv b % mF f) from u1_one _))] Hr fun _ Ep => ?_
 refine c_d (nv a % mF f < nv b % mF f) Ep (fun Hs => ?_) (fun Hs => ?_)
 ·
  refine zk <| f_o <| Zn 2 4 (zh (nd (nv a % mF f + zY - (nv b % mF f)))) Ep Ee rfl (zd (zl _ _)) fun _ Ht => f_o <| Zn 1 4 (zh (nd (mF f))) Ht Ee rfl (zd (zl _ _)) fun _ Hu => f_o <| c_p Hu Ee (plus_go _ (nd (nv a % mF f + zY - (nv b % mF f))) (nd (mF f)) (zl _ _) (zl _ _)) fun _ _ Hv Hw => d_k [0,6,7,8,32] [] 6 Hv fun _ Hx => f_o <| zZ 2 4 (zh (nd (nv (nd (nv a % mF f + zY - (nv b % mF f))) + nv (nd (mF f))))) [.box Eb (zh (zf 4 0)) 33, .box Ea (zh (nd (mF f))) 33, .box Ec (zh (nd (nv (nd (nv a % mF f + zY - (nv b % mF f))) + nv (nd (mF f))))) 33] Hx Hw rfl (zd (zl _ _)) (zd (zl _ _)) (zw _) rfl fun _ _ Hy EK => f_e <| ze <| wp_seq <| zk <| f_o <| Zn 2 4 (zh (nd (nv (nd (nv a % mF f + zY - (nv b % mF f))) + nv (nd (mF f))))) Hy EK rfl (zd (zl _ _)) fun _ Hz => ?_
  refine f_o <| zZ 0 4 (zh (nd (nv (nd (nv a % mF f + zY - (nv b % mF f))) + nv (nd (mF f))))) _ Hz EK rfl (zd (zl _ _)) (zd (zi)) (zw _) rfl fun _ _ HA EL => f_e <| ze <| wp_ret <| Zf (v := .agg (zg (zh (nd (nv (nd (nv a % mF f + zY - (nv b % mF f))) + nv (nd (mF f))))))) (t := 6) (T := 33) (ad := ⟨Eb, 0, none⟩) HA (by kernel_rfl) (by kernel_rfl) (zF (t := 33) (k := 0) (off := 0) (m := 4) (xs := zh (nd (nv (nd (nv a % mF f + zY - (nv b % mF f))) + nv (nd (mF f))))) EL rfl (zr (zd (zl _ _))) (zd (zl _ _)) (by kernel_rfl) (by kernel_rfl)) ?_
  have e : nd (nv (nd (nv a % mF f + zY - (nv b % mF f))) + nv (nd (mF f))) = nd (subM f (nv a) (nv b)) := by first | exact sub_fin1 hla hlb hmw (by assumption) | exact sub_fin2 hla hlb hmw (by assumption)
  exact ⟨by rw [e], EL.pk []⟩
 refine wp_skip <| ze <| wp_seq <| zk <| f_o <| Zn 2 4 (zh (nd (nv a % mF f + zY - (nv b % mF f)))) Ep Ee rfl (zd (zl _ _)) fun _ HB => f_o <| zZ 0 4 (zh (nd (nv a % mF f + zY - (nv b % mF f)))) [.box Eb (zh (nd (nv a % mF f + zY - (nv b % mF f)))) 33, .box Ea (zh (nd (mF f))) 33, .box Ec (zh (nd (nv a % mF f + zY - (nv b % mF f)))) 33] HB Ee rfl (zd (zl _ _)) (zd (zi)) (zw _) rfl fun _ _ HC EM => f_e <| ze <| wp_ret <| Zf (v := .agg (zg (zh (nd (nv a % mF f + zY - (nv b % mF f)))))) (t := 6) (T := 33) (ad := ⟨Eb, 0, none⟩) HC (by kernel_rfl) (by kernel_rfl) (zF (t := 33) (k := 0) (off := 0) (m := 4) (xs := zh (nd (nv a % mF f + zY - (nv b % mF f)))) EM rfl (zr (zd (zl _ _))) (zd (zl _ _)) (by kernel_rfl) (by kernel_rfl)) ?_
 have e : nd (nv a % mF f + zY - (nv b % mF f)) = nd (subM f (nv a) (nv b)) := by first | exact sub_fin1 hla hlb hmw (by assumption) | exact sub_fin2 hla hlb hmw (by assumption)
 exact ⟨by rw [e], EM.pk []⟩
theorem neg_go (w : World) (f : Int) (hf : (f = 1 ∨ f = 2 ∨ f = 3 ∨ f = 4)) (a : List UInt64) (ha : zc a = 4) : Calls zB 70 #[.int .i64 f, .agg (zg (zh a))] w fun e w' => e = .returned (.agg (zg (zh (nd (subM f 0 (nv a)))))) ∧ Ev w [] w' [] := by
 refine d_0 [(0, .int .i64 f), (1, .agg (zg (zh a)))] 9 Tryz.func70 Tryz.ntmps70 (Heap.nil _) fun Eh Ei Ej => wp_seq <| zk <| f_o <| m_m 33 (zh a) Ei Ej fun _ _ Eo Ek El => f_o <| m_z 33 (zh (zf 4 0)) Ek El fun _ _ Em En Ea => f_e <| ze <| wp_seq <| zk <| d_k [3,4,5,6] [] 2 En fun _ Ec => f_o <| Zn 0 4 (zh a) Ec Ea rfl (zd ha) fun _ Ed => f_o <| c_p Ed Ea (sub_go _ f hf ([0, 0, 0, 0] : List UInt64) a (show zc ([0, 0, 0, 0] : List UInt64) = 4 from rfl) ha) fun _ _ Ee Ef => ?_
 refine f_o <| zZ 1 4 (zh (nd (subM f (nv ([0, 0, 0, 0] : List UInt64)) (nv a)))) _ Ee Ef rfl (zd (zl _ _)) (zd (zi)) (zw _) rfl fun _ _ Eg Eb => f_e <| ze <| wp_ret <| Zf (v := .agg (zg (zh (nd (subM f (nv ([0, 0, 0, 0] : List UInt64)) (nv a)))))) (t := 4) (T := 33) (ad := ⟨Em, 0, none⟩) Eg (by kernel_rfl) (by kernel_rfl) (zF (t := 33) (k := 1) (off := 0) (m := 4) (xs := zh (nd (subM f (nv ([0, 0, 0, 0] : List UInt64)) (nv a)))) Eb rfl (zr (zd (zl _ _))) (zd (zl _ _)) (by kernel_rfl) (by kernel_rfl)) ?_
 exact ⟨rfl, Eb.pk []⟩
theorem rightq_go (w : World) (f : Int) (a : List UInt64) (ha : zc a = 4) : Calls zB 31 #[.int .i64 f, .agg (zg (zh a))] w fun e w' => e = .returned (.bool (decide (nv a < mF f))) ∧ Ev w [] w' [] := by
 refine d_0 [(0, .int .i64 f), (1, .agg (zg (zh a)))] 9 Tryz.func31 Tryz.ntmps31 (Heap.nil _) fun Em En Eo => wp_seq <| zk <| f_o <| m_m 33 (zh a) En Eo fun _ _ Eb Ep Eq => d_e [0,3,4] [] Ep fun _ Er => ze <| wp_seq <| zk <| d_k [3,4,6] [] 1 Er fun _ Es => f_o <| c_p Es Eq (modulus_go _ f) fun _ _ Ec Ed => f_o <| m_z 33 (zh (zf 4 0)) Ec Ed fun _ _ Ea Ee Ef => ?_
 refine f_o <| zZ 1 4 (zh (nd (mF f))) _ Ee Ef rfl (zd (zl _ _)) (zd (zi)) (zw _) rfl fun _ _ Eg Eh => f_e <| ze <| wp_seq <| zk <| f_o <| c_l [0,1] (M := [.box Eb (zh a) 33, .box Ea (zh (nd (mF f))) 33]) Eg Eh (fun hM26 => less_go _ Eb Ea a (nd (mF f)) ha (zl _ _) hM26) ?_
 rintro _ _ ⟨rfl, Ei⟩
 refine ⟨_, _, [.box Eb (zh a) 33, .box Ea (zh (nd (mF f))) 33], rfl, Ei, by kernel_rfl, fun _ Ej Ek => ?_⟩
 refine d_e [4,5] [] Ej fun _ El => ze <| wp_ret <| Qh (t := 4) (v := .bool (decide (nv a < nv (nd (mF f))))) El (by kernel_rfl) (by kernel_rfl) ?_
 exact ⟨by rw [nv_mF], Ek.pk []⟩
def n32 : Nat → Nat → List UInt64
  | 0, _ => []
  | k + 1, n => zb (n % 4294967296) :: n32 k (n / 4294967296)
theorem n32_len : ∀ (k n : Nat), (n32 k n).length = k
  | 0, _ => rfl
  | k + 1, n => by rw [n32, z3, n32_len k]
theorem n32_hd (n : Nat) : (zb (n % 4294967296)).toNat = n % 4294967296 := ofNat_toNat (by omega)
theorem n32_val : ∀ (k n : Nat), dv 4294967296 (n32 k n) = n % 4294967296 ^ k
  | 0, n => by rw [Z6, J0]; rfl
  | k + 1, n => by rw [n32, Jb, n32_val k, n32_hd, z9, z5 (4294967296 ^ k), Kq]
def DG (l : List UInt64) : Prop := ∀ j, (za l j 0).toNat < 4294967296
theorem DG.cons {x : UInt64} {r : List UInt64} : DG (x :: r) ↔ x.toNat < 4294967296 ∧ DG r := by
  constructor
  · intro h
    exact ⟨by have := h 0; simpa using this, fun j => by have := h (j + 1); simpa using this⟩
  · rintro ⟨h1, h2⟩ j
    cases j with
    | zero => simpa using h1
    | succ j => have := h2 j; simpa using this
theorem DG.nil : DG [] := fun j => by simp
theorem n32_dig : ∀ (k n : Nat), DG (n32 k n)
  | 0, n => DG.nil
  | k + 1, n => DG.cons.2 ⟨by rw [n32_hd]; omega, n32_dig k _⟩
theorem n32_dv : ∀ (l : List UInt64), DG l → n32 l.length (dv 4294967296 l) = l
  | [], _ => rfl
  | x :: r, h => by
    have hx := (DG.cons.1 h).1
    rw [z3, n32, Jb]
    have h1 : (x.toNat + 4294967296 * dv 4294967296 r) / 4294967296 = dv 4294967296 r := by omega
    have h2 : zb ((x.toNat + 4294967296 * dv 4294967296 r) % 4294967296) = x := by
      apply QE.1
      rw [n32_hd]
      omega
    rw [h1, h2, n32_dv r (DG.cons.1 h).2]
theorem n32_of {l : List UInt64} {k n : Nat} (hl : l.length = k) (hd : DG l) (h : dv 4294967296 l = n) : l = n32 k n := by rw [← h, ← hl, n32_dv l hd]
theorem DG.set {l : List UInt64} (h : DG l) {i : Nat} {x : UInt64} (hx : x.toNat < 4294967296) : DG (zp l i x) := fun j => by
  by_cases e : i = j
  · subst e
    by_cases hi : i < l.length
    · rw [zN, QR hi]; exact hx
    · rw [zN, Qe (by rw [List.length_set]; omega)]; decide
  · rw [QH _ e]; exact h j
theorem low32 (t : UInt64) : (t &&& 4294967295).toNat < 4294967296 := by rw [and_low]; omega
theorem high32 (t : UInt64) : (t >>> zb 32).toNat < 4294967296 := by rw [shr_high]; have := Qm t; omega
theorem low_high (t : UInt64) : (t &&& 4294967295).toNat + 4294967296 * (t >>> zb 32).toNat = t.toNat := by rw [and_low, shr_high]; omega
theorem or_shl {x y : UInt64} (hx : x.toNat < 4294967296) (hy : y.toNat < 4294967296) : (x ||| (y <<< zb 32)).toNat = x.toNat + 4294967296 * y.toNat := by
  rw [Yq, Qy]
  have h : (zb 32).toNat % 64 = 32 := by decide
  rw [h, zL (by rw [ZA]; omega), J2, ← Qa (by omega), ZA]
  omega
theorem rless4 (w : World) (a0 a1 a2 a3 b0 b1 b2 b3 : UInt64) : Calls zB 36 #[.agg #[zn a0, zn a1, zn a2, zn a3], .agg #[zn b0, zn b1, zn b2, zn b3]] w fun e w' => e = .returned (.bool (decide (nv [a0, a1, a2, a3] < nv [b0, b1, b2, b3]))) ∧ Ev w [] w' [] := by
 refine d_0 [(0, .agg #[zn a0, zn a1, zn a2, zn a3]), (1, .agg #[zn b0, zn b1, zn b2, zn b3])] 24 Tryz.func36 Tryz.ntmps36 (Heap.nil _) fun Hw Hx Hy => wp_seq <| zk <| f_o <| m_m 33 [zn a0, zn a1, zn a2, zn a3] Hx Hy fun _ _ Ea Hz HA => f_o <| m_m 33 [zn b0, zn b1, zn b2, zn b3] Hz HA fun _ _ Eb HB Ew => d_e [2,3,4] [] HB fun _ Hg => ze <| wp_seq <| d_s [2,3,4,5] [] Hg fun _ Hh => ?_
 refine wp_block <| QY ?_
 refine zK <| wp_seq <| d_s [2,3,4,5,7] [] Hh fun _ Ex => c_t Ex ?_
 refine wp_skip <| ze <| wp_seq <| wp_block <| wp_seq <| r_c (fun ac wo => Env ac 24 [(2, pt Ea), (3, pt Eb), (4, .bool false), (5, .int .i64 3), (16, .bool (((zA a3 : Nat) : Int) != ((zA b3 : Nat) : Int)))] ∧ Ev w [] wo [.box Ea [zn a0, zn a1, zn a2, zn a3] 33, .box Eb [zn b0, zn b1, zn b2, zn b3] 33]) ?_ ?_
 ·
  refine h_s (fun wv => Ev w [] wv [.box Ea [zn a0, zn a1, zn a2, zn a3] 33, .box Eb [zn b0, zn b1, zn b2, zn b3] 33]) [] 7 ?_
  have Ek := Ew.trans (zS Ew.heap)
  refine q_s [0,1] [] 5 Ex (Ek.pk [0, 1]) fun _ Hi => q_l 0 2 Hi (Ek.pk [0, 1]) fun _ Hj => q_s [3,4] [] 2 Hj (Ek.pk [0, 1]) fun _ Hk => q_l 1 5 Hk (Ek.pk [0, 1]) fun _ Hl => q_s [6] [] 0 Hl (Ek.pk [0, 1]) fun _ Hm => ?_
  exact h_e ⟨Hm.sb, Ek.pk [0, 1]⟩
 rintro _ _ ⟨Eu, Eq⟩
 refine ze <| c_n ((zA a3 : Nat) : Int) ((zA b3 : Nat) : Int) Eu (fun Hn => ?_) (fun Hn => ?_)
 ·
  refine wp_seq <| r_c (fun ac wo => Env ac 24 [(2, pt Ea), (3, pt Eb), (4, .bool (decide (((zA a3 : Nat) : Int) < ((zA b3 : Nat) : Int)))), (5, .int .i64 3)] ∧ Ev w [] wo [.box Ea [zn a0, zn a1, zn a2, zn a3] 33, .box Eb [zn b0, zn b1, zn b2, zn b3] 33]) ?_ ?_
  ·
   refine h_s (fun wv => Ev w [] wv [.box Ea [zn a0, zn a1, zn a2, zn a3] 33, .box Eb [zn b0, zn b1, zn b2, zn b3] 33]) [] 8 ?_
   have El := Eq.trans (zS Eq.heap)
   refine q_s [0,1] [] 6 Eu (El.pk [0, 1]) fun _ Ho => q_l 0 2 Ho (El.pk [0, 1]) fun _ Hp => q_s [3,4] [] 3 Hp (El.pk [0, 1]) fun _ Hq => q_l 1 5 Hq (El.pk [0, 1]) fun _ Hr => q_s [6,7] [] 0 Hr (El.pk [0, 1]) fun _ Hs => ?_
   exact h_e ⟨Hs.sb, El.pk [0, 1]⟩
  rintro _ _ ⟨Ht, Hu⟩
  refine ze <| wp_ret <| Qg <| Zx <| Zx <| Qg <| Zx <| Qh (t := 4) (v := .bool (decide (((zA a3 : Nat) : Int) < ((zA b3 : Nat) : Int)))) Ht (by kernel_rfl) (by kernel_rfl) ?_
  have e : (decide (((zA a3 : Nat) : Int) < ((zA b3 : Nat) : Int))) = decide (nv [a0, a1, a2, a3] < nv [b0, b1, b2, b3]) := by
   rw [nv4, nv4]
   have := Qm a0; have := Qm a1; have := Qm a2; have := Qm a3; have := Qm b0; have := Qm b1; have := Qm b2; have := Qm b3
   first | exact decide_eq_decide.2 (by omega) | exact (decide_eq_false (by omega)).symm
  exact ⟨by rw [e], Hu.pk []⟩
 refine wp_skip <| zx <| ze <| d_r [2,3,4,5] [] Eu fun _ Hv => ?_
 refine ze <| zK <| wp_seq <| d_s [2,3,4,5,7] [] Hv fun _ Ey => c_t Ey ?_
 refine wp_skip <| ze <| wp_seq <| wp_block <| wp_seq <| r_c (fun ac wo => Env ac 24 [(2, pt Ea), (3, pt Eb), (4, .bool false), (5, .int .i64 2), (16, .bool (((zA a2 : Nat) : Int) != ((zA b2 : Nat) : Int)))] ∧ Ev w [] wo [.box Ea [zn a0, zn a1, zn a2, zn a3] 33, .box Eb [zn b0, zn b1, zn b2, zn b3] 33]) ?_ ?_
 ·
  refine h_s (fun wv => Ev w [] wv [.box Ea [zn a0, zn a1, zn a2, zn a3] 33, .box Eb [zn b0, zn b1, zn b2, zn b3] 33]) [] 7 ?_
  have Ec := Eq.trans (zS Eq.heap)
  refine q_s [0,1] [] 5 Ey (Ec.pk [0, 1]) fun _ Ez => q_l 0 2 Ez (Ec.pk [0, 1]) fun _ EA => q_s [3,4] [] 2 EA (Ec.pk [0, 1]) fun _ EB => q_l 1 5 EB (Ec.pk [0, 1]) fun _ EC => q_s [6] [] 0 EC (Ec.pk [0, 1]) fun _ ED => ?_
  exact h_e ⟨ED.sb, Ec.pk [0, 1]⟩
 rintro _ _ ⟨Em, Ei⟩
 refine ze <| c_n ((zA a2 : Nat) : Int) ((zA b2 : Nat) : Int) Em (fun EE => ?_) (fun EE => ?_)
 ·
  refine wp_seq <| r_c (fun ac wo => Env ac 24 [(2, pt Ea), (3, pt Eb), (4, .bool (decide (((zA a2 : Nat) : Int) < ((zA b2 : Nat) : Int)))), (5, .int .i64 2)] ∧ Ev w [] wo [.box Ea [zn a0, zn a1, zn a2, zn a3] 33, .box Eb [zn b0, zn b1, zn b2, zn b3] 33]) ?_ ?_
  ·
   refine h_s (fun wv => Ev w [] wv [.box Ea [zn a0, zn a1, zn a2, zn a3] 33, .box Eb [zn b0, zn b1, zn b2, zn b3] 33]) [] 8 ?_
   have Ed := Ei.trans (zS Ei.heap)
   refine q_s [0,1] [] 6 Em (Ed.pk [0, 1]) fun _ EF => q_l 0 2 EF (Ed.pk [0, 1]) fun _ EG => q_s [3,4] [] 3 EG (Ed.pk [0, 1]) fun _ EH => q_l 1 5 EH (Ed.pk [0, 1]) fun _ EI => q_s [6,7] [] 0 EI (Ed.pk [0, 1]) fun _ EJ => ?_
   exact h_e ⟨EJ.sb, Ed.pk [0, 1]⟩
  rintro _ _ ⟨EK, EL⟩
  refine ze <| wp_ret <| Qg <| Zx <| Zx <| Qg <| Zx <| Qh (t := 4) (v := .bool (decide (((zA a2 : Nat) : Int) < ((zA b2 : Nat) : Int)))) EK (by kernel_rfl) (by kernel_rfl) ?_
  have e : (decide (((zA a2 : Nat) : Int) < ((zA b2 : Nat) : Int))) = decide (nv [a0, a1, a2, a3] < nv [b0, b1, b2, b3]) := by
   rw [nv4, nv4]
   have := Qm a0; have := Qm a1; have := Qm a2; have := Qm a3; have := Qm b0; have := Qm b1; have := Qm b2; have := Qm b3
   first | exact decide_eq_decide.2 (by omega) | exact (decide_eq_false (by omega)).symm
  exact ⟨by rw [e], EL.pk []⟩
 refine wp_skip <| zx <| ze <| d_r [2,3,4,5] [] Em fun _ EM => ?_
 refine ze <| zK <| wp_seq <| d_s [2,3,4,5,7] [] EM fun _ Er => c_t Er ?_
 refine wp_skip <| ze <| wp_seq <| wp_block <| wp_seq <| r_c (fun ac wo => Env ac 24 [(2, pt Ea), (3, pt Eb), (4, .bool false), (5, .int .i64 1), (16, .bool (((zA a1 : Nat) : Int) != ((zA b1 : Nat) : Int)))] ∧ Ev w [] wo [.box Ea [zn a0, zn a1, zn a2, zn a3] 33, .box Eb [zn b0, zn b1, zn b2, zn b3] 33]) ?_ ?_
 ·
  refine h_s (fun wv => Ev w [] wv [.box Ea [zn a0, zn a1, zn a2, zn a3] 33, .box Eb [zn b0, zn b1, zn b2, zn b3] 33]) [] 7 ?_
  have Ee := Ei.trans (zS Ei.heap)
  refine q_s [0,1] [] 5 Er (Ee.pk [0, 1]) fun _ EN => q_l 0 2 EN (Ee.pk [0, 1]) fun _ EO => q_s [3,4] [] 2 EO (Ee.pk [0, 1]) fun _ EP => q_l 1 5 EP (Ee.pk [0, 1]) fun _ EQ => q_s [6] [] 0 EQ (Ee.pk [0, 1]) fun _ ER => ?_
  exact h_e ⟨ER.sb, Ee.pk [0, 1]⟩
 rintro _ _ ⟨En, Ej⟩
 refine ze <| c_n ((zA a1 : Nat) : Int) ((zA b1 : Nat) : Int) En (fun ES => ?_) (fun ES => ?_)
 ·
  refine wp_seq <| r_c (fun ac wo => Env ac 24 [(2, pt Ea), (3, pt Eb), (4, .bool (decide (((zA a1 : Nat) : Int) < ((zA b1 : Nat) : Int)))), (5, .int .i64 1)] ∧ Ev w [] wo [.box Ea [zn a0, zn a1, zn a2, zn a3] 33, .box Eb [zn b0, zn b1, zn b2, zn b3] 33]) ?_ ?_
  ·
   refine h_s (fun wv => Ev w [] wv [.box Ea [zn a0, zn a1, zn a2, zn a3] 33, .box Eb [zn b0, zn b1, zn b2, zn b3] 33]) [] 8 ?_
   have Ef := Ej.trans (zS Ej.heap)
   refine q_s [0,1] [] 6 En (Ef.pk [0, 1]) fun _ ET => q_l 0 2 ET (Ef.pk [0, 1]) fun _ EU => q_s [3,4] [] 3 EU (Ef.pk [0, 1]) fun _ EV => q_l 1 5 EV (Ef.pk [0, 1]) fun _ EW => q_s [6,7] [] 0 EW (Ef.pk [0, 1]) fun _ EX => ?_
   exact h_e ⟨EX.sb, Ef.pk [0, 1]⟩
  rintro _ _ ⟨EY, EZ⟩
  refine ze <| wp_ret <| Qg <| Zx <| Zx <| Qg <| Zx <| Qh (t := 4) (v := .bool (decide (((zA a1 : Nat) : Int) < ((zA b1 : Nat) : Int)))) EY (by kernel_rfl) (by kernel_rfl) ?_
  have e : (decide (((zA a1 : Nat) : Int) < ((zA b1 : Nat) : Int))) = decide (nv [a0, a1, a2, a3] < nv [b0, b1, b2, b3]) := by
   rw [nv4, nv4]
   have := Qm a0; have := Qm a1; have := Qm a2; have := Qm a3; have := Qm b0; have := Qm b1; have := Qm b2; have := Qm b3
   first | exact decide_eq_decide.2 (by omega) | exact (decide_eq_false (by omega)).symm
  exact ⟨by rw [e], EZ.pk []⟩
 refine wp_skip <| zx <| ze <| d_r [2,3,4,5] [] En fun _ E0 => ?_
 refine ze <| zK <| wp_seq <| d_s [2,3,4,5,7] [] E0 fun _ Es => c_t Es ?_
 refine wp_skip <| ze <| wp_seq <| wp_block <| wp_seq <| r_c (fun ac wo => Env ac 24 [(2, pt Ea), (3, pt Eb), (4, .bool false), (5, .int .i64 0), (16, .bool (((zA a0 : Nat) : Int) != ((zA b0 : Nat) : Int)))] ∧ Ev w [] wo [.box Ea [zn a0, zn a1, zn a2, zn a3] 33, .box Eb [zn b0, zn b1, zn b2, zn b3] 33]) ?_ ?_
 ·
  refine h_s (fun wv => Ev w [] wv [.box Ea [zn a0, zn a1, zn a2, zn a3] 33, .box Eb [zn b0, zn b1, zn b2, zn b3] 33]) [] 7 ?_
  have Eg := Ej.trans (zS Ej.heap)
  refine q_s [0,1] [] 5 Es (Eg.pk [0, 1]) fun _ E1 => q_l 0 2 E1 (Eg.pk [0, 1]) fun _ E2 => q_s [3,4] [] 2 E2 (Eg.pk [0, 1]) fun _ E3 => q_l 1 5 E3 (Eg.pk [0, 1]) fun _ E4 => q_s [6] [] 0 E4 (Eg.pk [0, 1]) fun _ E5 => ?_
  exact h_e ⟨E5.sb, Eg.pk [0, 1]⟩
 rintro _ _ ⟨Eo, Ep⟩
 refine ze <| c_n ((zA a0 : Nat) : Int) ((zA b0 : Nat) : Int) Eo (fun E6 => ?_) (fun E6 => ?_)
 ·
  refine wp_seq <| r_c (fun ac wo => Env ac 24 [(2, pt Ea), (3, pt Eb), (4, .bool (decide (((zA a0 : Nat) : Int) < ((zA b0 : Nat) : Int)))), (5, .int .i64 0)] ∧ Ev w [] wo [.box Ea [zn a0, zn a1, zn a2, zn a3] 33, .box Eb [zn b0, zn b1, zn b2, zn b3] 33]) ?_ ?_
  ·
   refine h_s (fun wv => Ev w [] wv [.box Ea [zn a0, zn a1, zn a2, zn a3] 33, .box Eb [zn b0, zn b1, zn b2, zn b3] 33]) [] 8 ?_
   have Eh := Ep.trans (zS Ep.heap)
   refine q_s [0,1] [] 6 Eo (Eh.pk [0, 1]) fun _ E7 => q_l 0 2 E7 (Eh.pk [0, 1]) fun _ E8 => q_s [3,4] [] 3 E8 (Eh.pk [0, 1]) fun _ E9 => q_l 1 5 E9 (Eh.pk [0, 1]) fun _ Ha => q_s [6,7] [] 0 Ha (Eh.pk [0, 1]) fun _ Hb => ?_
   exact h_e ⟨Hb.sb, Eh.pk [0, 1]⟩
  rintro _ _ ⟨Hc, Hd⟩
  refine ze <| wp_ret <| Qg <| Zx <| Zx <| Qg <| Zx <| Qh (t := 4) (v := .bool (decide (((zA a0 : Nat) : Int) < ((zA b0 : Nat) : Int)))) Hc (by kernel_rfl) (by kernel_rfl) ?_
  have e : (decide (((zA a0 : Nat) : Int) < ((zA b0 : Nat) : Int))) = decide (nv [a0, a1, a2, a3] < nv [b0, b1, b2, b3]) := by
   rw [nv4, nv4]
   have := Qm a0; have := Qm a1; have := Qm a2; have := Qm a3; have := Qm b0; have := Qm b1; have := Qm b2; have := Qm b3
   first | exact decide_eq_decide.2 (by omega) | exact (decide_eq_false (by omega)).symm
  exact ⟨by rw [e], Hd.pk []⟩
 refine wp_skip <| zx <| ze <| d_r [2,3,4,5] [] Eo fun _ He => ?_
 refine ze <| zK <| wp_seq <| d_s [2,3,4,5,7] [] He fun _ Et => c_f Et ?_
 refine wp_exit <| zD <| zD <| zP <| ze <| d_s [2,3,4,5] [] Et fun _ Hf => wp_ret <| Qh (t := 4) (v := .bool false) Hf (by kernel_rfl) (by kernel_rfl) ?_
 have e : (false) = decide (nv [a0, a1, a2, a3] < nv [b0, b1, b2, b3]) := by
  rw [nv4, nv4]
  have := Qm a0; have := Qm a1; have := Qm a2; have := Qm a3; have := Qm b0; have := Qm b1; have := Qm b2; have := Qm b3
  first | exact decide_eq_decide.2 (by omega) | exact (decide_eq_false (by omega)).symm
 exact ⟨by rw [e], Ep.pk []⟩
theorem rless_go (w : World) (a b : List UInt64) (ha : zc a = 4) (hb : zc b = 4) : Calls zB 36 #[.agg (zg (zh a)), .agg (zg (zh b))] w fun e w' => e = .returned (.bool (decide (nv a < nv b))) ∧ Ev w [] w' [] := by
  match a, ha, b, hb with
  | [a0, a1, a2, a3], _, [b0, b1, b2, b3], _ => exact rless4 w a0 a1 a2 a3 b0 b1 b2 b3
theorem carry1 {x y : UInt64} : (if (x + y).toNat < x.toNat then (1 : UInt64) else 0) = zX x y 0 := by
  apply QE.1
  rw [JO]
  have := Qm x; have := Qm y
  rw [ZS, show (0 : UInt64).toNat = 0 from rfl]
  split
  · rw [show (1 : UInt64).toNat = 1 from rfl]; omega
  · rw [show (0 : UInt64).toNat = 0 from rfl]; omega
theorem carry2 {x y c : UInt64} (h : c.toNat ≤ 1) : (if (x + y + c).toNat < (x + y).toNat then (1 : UInt64) else zX x y 0) = zX x y c := by
  apply QE.1
  have := Qm x; have := Qm y
  split
  · rename_i q
    rw [JO, show (1 : UInt64).toNat = 1 from rfl]
    rw [ZS (x + y), ZS] at q
    omega
  · rename_i q
    rw [JO, JO, show (0 : UInt64).toNat = 0 from rfl]
    rw [ZS (x + y), ZS] at q
    omega
theorem rplus4 (w : World) (a0 a1 a2 a3 b0 b1 b2 b3 : UInt64) : Calls zB 62 #[.agg #[zn a0, zn a1, zn a2, zn a3], .agg #[zn b0, zn b1, zn b2, zn b3]] w fun e w' => e = .returned (.tuple #[.agg (zg (zh (plusL [a0, a1, a2, a3] [b0, b1, b2, b3]))), zn (adF [a0, a1, a2, a3] [b0, b1, b2, b3] 4)]) ∧ Ev w [] w' [] := by
 refine d_0 [(0, .agg #[zn a0, zn a1, zn a2, zn a3]), (1, .agg #[zn b0, zn b1, zn b2, zn b3])] 39 Tryz.func62 Tryz.ntmps62 (Heap.nil _) fun ag ah ai => wp_seq <| zk <| f_o <| m_m 33 [zn a0, zn a1, zn a2, zn a3] ah ai fun _ _ Eb aj ak => f_o <| m_m 33 [zn b0, zn b1, zn b2, zn b3] aj ak fun _ _ Ec al HO => f_o <| m_z 33 (zh (zf 4 0)) al HO fun _ _ Ea HP EF => d_e [2,3,4,5] [] HP fun _ HQ => ze <| d_s [2,3,4,5,6] [] HQ fun _ HR => ?_
 refine wp_seq <| d_s [2,3,4,5,6,7] [] HR fun _ HS => ?_
 refine wp_block <| QY ?_
 refine zK <| wp_seq <| d_s [2,3,4,5,6,7,12] [] HS fun _ EG => c_t EG ?_
 refine wp_skip <| ze <| wp_seq <| wp_block <| wp_seq <| r_c (fun ac wo => Env ac 39 [(2, pt Eb), (3, pt Ec), (4, pt Ea), (5, .int .u64 0), (6, .int .u64 0), (7, .int .i64 0), (8, zn (a0 + b0))] ∧ Ev w [] wo [.box Eb [zn a0, zn a1, zn a2, zn a3] 33, .box Ec [zn b0, zn b1, zn b2, zn b3] 33, .box Ea (zh (zf 4 0)) 33]) ?_ ?_
 ·
  refine h_s (fun wv => Ev w [] wv [.box Eb [zn a0, zn a1, zn a2, zn a3] 33, .box Ec [zn b0, zn b1, zn b2, zn b3] 33]) [] 8 ?_
  have Eg := EF.trans (zS EF.heap)
  refine q_s [0,1] [] 6 EG (Eg.pk [0, 1]) fun _ HT => q_l 0 2 HT (Eg.pk [0, 1]) fun _ HU => q_s [3,4] [] 3 HU (Eg.pk [0, 1]) fun _ HV => q_l 1 5 HV (Eg.pk [0, 1]) fun _ HW => q_s [6,7] [(6, g_i .u64 (zO (x := a0) (y := b0) rfl rfl))] 0 HW (Eg.pk [0, 1]) fun _ HX => ?_
  exact h_e ⟨HX.sb, Eg.pk [0, 1, 2]⟩
 rintro _ _ ⟨HY, EC⟩
 refine ze <| d_s [2,3,4,5,6,7,8,9] [] HY fun _ HZ => wp_seq <| wp_seq <| zk <| d_k [2,3,4,5,6,7,8,9,22,24] [] 3 HZ fun _ H0 => f_o <| m_l 0 H0 EC fun _ H1 => d_e [2,3,4,5,6,7,8,9,26] [] H1 fun _ ED => ?_
 refine ze <| QX (F := fun ac wo => ∃ (c1_0 : UInt64), Env ac 39 [(2, pt Eb), (3, pt Ec), (4, pt Ea), (5, .int .u64 0), (6, .int .u64 0), (7, .int .i64 0), (8, zn (a0 + b0)), (9, zn c1_0)] ∧ Ev w [] wo [.box Eb [zn a0, zn a1, zn a2, zn a3] 33, .box Ec [zn b0, zn b1, zn b2, zn b3] 33, .box Ea (zh (zf 4 0)) 33] ∧ (c1_0 = zX a0 b0 0)) ?_ ?_
 ·
  refine c_d (((zA (a0 + b0) : Nat) : Int) < ((zA a0 : Nat) : Int)) ED (fun H2 => ?_) (fun H2 => ?_)
  ·
   refine d_r [2,3,4,5,6,7,8,9] [] ED fun _ H3 => ?_
   exact ⟨rfl, ⟨(1 : UInt64), H3.sb, EC.pk [0, 1, 2], by rw [← carry1]; first | exact (if_pos (by omega)).symm | exact (if_neg (by omega)).symm⟩⟩
  refine wp_skip ?_
  exact ⟨rfl, ⟨(0 : UInt64), ED.sb, EC.pk [0, 1, 2], by rw [← carry1]; first | exact (if_pos (by omega)).symm | exact (if_neg (by omega)).symm⟩⟩
 rintro _ _ ⟨c1_0, H4, EH, hc1_0⟩
 refine ze <| d_s [2,3,4,5,6,7,8,9,10] [(2, g_i .u64 (zO (x := a0 + b0) (y := (0 : UInt64)) rfl rfl))] H4 fun _ H5 => wp_seq <| d_s [2,3,4,5,6,7,8,9,10,32] [] H5 fun _ EE => ?_
 have hle0 : zA (0 : UInt64) ≤ 1 := (by decide)
 refine QX (F := fun ac wo => ∃ (c2_0 : UInt64), Env ac 39 [(2, pt Eb), (3, pt Ec), (4, pt Ea), (5, .int .u64 0), (6, .int .u64 0), (7, .int .i64 0), (8, zn (a0 + b0)), (9, zn c2_0), (10, zn ((a0 + b0) + (0 : UInt64)))] ∧ Ev w [] wo [.box Eb [zn a0, zn a1, zn a2, zn a3] 33, .box Ec [zn b0, zn b1, zn b2, zn b3] 33, .box Ea (zh (zf 4 0)) 33] ∧ (c2_0 = zX a0 b0 (0 : UInt64))) ?_ ?_
 ·
  refine c_d (((zA ((a0 + b0) + (0 : UInt64)) : Nat) : Int) < ((zA (a0 + b0) : Nat) : Int)) EE (fun H6 => ?_) (fun H6 => ?_)
  ·
   refine d_r [2,3,4,5,6,7,8,9,10] [] EE fun _ H7 => ?_
   exact ⟨rfl, ⟨(1 : UInt64), H7.sb, EH.pk [0, 1, 2], by rw [← carry2 hle0]; first | exact (if_pos (by omega)).symm | exact hc1_0.trans (if_neg (by omega)).symm⟩⟩
  refine wp_skip ?_
  exact ⟨rfl, ⟨c1_0, EE.sb, EH.pk [0, 1, 2], by rw [← carry2 hle0]; first | exact (if_pos (by omega)).symm | exact hc1_0.trans (if_neg (by omega)).symm⟩⟩
 rintro _ _ ⟨c2_0, H8, H9, hc2_0⟩
 refine ze <| wp_seq <| zk <| d_k [2,3,4,5,6,7,8,9,10,34,35] [] 3 H8 fun _ aa => f_o <| m_s 0 [.box Eb [zn ((a0 + b0) + (0 : UInt64)), zn a1, zn a2, zn a3] 33, .box Ec [zn b0, zn b1, zn b2, zn b3] 33, .box Ea (zh (zf 4 0)) 33] aa H9 fun _ _ ab EI => f_e <| ze <| d_r [2,3,4,5,6,7,8,10] [] ab fun _ ae => zx <| ze <| d_r [2,3,4,5,6,7,8,10] [] ae fun _ af => ?_
 refine ze <| zK <| wp_seq <| d_s [2,3,4,5,6,7,8,10,12] [] af fun _ Eq => c_t Eq ?_
 refine wp_skip <| ze <| wp_seq <| wp_block <| wp_seq <| r_c (fun ac wo => Env ac 39 [(2, pt Eb), (3, pt Ec), (4, pt Ea), (5, .int .u64 0), (6, zn c2_0), (7, .int .i64 1), (8, zn (a1 + b1)), (10, zn ((a0 + b0) + (0 : UInt64)))] ∧ Ev w [] wo [.box Eb [zn ((a0 + b0) + (0 : UInt64)), zn a1, zn a2, zn a3] 33, .box Ec [zn b0, zn b1, zn b2, zn b3] 33, .box Ea (zh (zf 4 0)) 33]) ?_ ?_
 ·
  refine h_s (fun wv => Ev w [] wv [.box Eb [zn ((a0 + b0) + (0 : UInt64)), zn a1, zn a2, zn a3] 33, .box Ec [zn b0, zn b1, zn b2, zn b3] 33]) [] 8 ?_
  have Ed := EI.trans (zS EI.heap)
  refine q_s [0,1] [] 6 Eq (Ed.pk [0, 1]) fun _ EJ => q_l 0 2 EJ (Ed.pk [0, 1]) fun _ EK => q_s [3,4] [] 3 EK (Ed.pk [0, 1]) fun _ EL => q_l 1 5 EL (Ed.pk [0, 1]) fun _ EM => q_s [6,7] [(6, g_i .u64 (zO (x := a1) (y := b1) rfl rfl))] 0 EM (Ed.pk [0, 1]) fun _ EN => ?_
  exact h_e ⟨EN.sb, Ed.pk [0, 1, 2]⟩
 rintro _ _ ⟨EO, Eh⟩
 refine ze <| d_s [2,3,4,5,6,7,8,9,10] [] EO fun _ EP => wp_seq <| wp_seq <| zk <| d_k [2,3,4,5,6,7,8,9,10,22,24] [] 3 EP fun _ EQ => f_o <| m_l 0 EQ Eh fun _ ER => d_e [2,3,4,5,6,7,8,9,10,26] [] ER fun _ Ei => ?_
 refine ze <| QX (F := fun ac wo => ∃ (c1_1 : UInt64), Env ac 39 [(2, pt Eb), (3, pt Ec), (4, pt Ea), (5, .int .u64 0), (6, zn c2_0), (7, .int .i64 1), (8, zn (a1 + b1)), (9, zn c1_1), (10, zn ((a0 + b0) + (0 : UInt64)))] ∧ Ev w [] wo [.box Eb [zn ((a0 + b0) + (0 : UInt64)), zn a1, zn a2, zn a3] 33, .box Ec [zn b0, zn b1, zn b2, zn b3] 33, .box Ea (zh (zf 4 0)) 33] ∧ (c1_1 = zX a1 b1 0)) ?_ ?_
 ·
  refine c_d (((zA (a1 + b1) : Nat) : Int) < ((zA a1 : Nat) : Int)) Ei (fun ES => ?_) (fun ES => ?_)
  ·
   refine d_r [2,3,4,5,6,7,8,9,10] [] Ei fun _ ET => ?_
   exact ⟨rfl, ⟨(1 : UInt64), ET.sb, Eh.pk [0, 1, 2], by rw [← carry1]; first | exact (if_pos (by omega)).symm | exact (if_neg (by omega)).symm⟩⟩
  refine wp_skip ?_
  exact ⟨rfl, ⟨(0 : UInt64), Ei.sb, Eh.pk [0, 1, 2], by rw [← carry1]; first | exact (if_pos (by omega)).symm | exact (if_neg (by omega)).symm⟩⟩
 rintro _ _ ⟨c1_1, EU, Er, hc1_1⟩
 refine ze <| d_s [2,3,4,5,6,7,8,9,10] [(2, g_i .u64 (zO (x := a1 + b1) (y := c2_0) rfl rfl))] EU fun _ EV => wp_seq <| d_s [2,3,4,5,6,7,8,9,10,32] [] EV fun _ Ej => ?_
 have hle1 : zA c2_0 ≤ 1 := (by rw [hc2_0]; exact YU hle0)
 refine QX (F := fun ac wo => ∃ (c2_1 : UInt64), Env ac 39 [(2, pt Eb), (3, pt Ec), (4, pt Ea), (5, .int .u64 0), (6, zn c2_0), (7, .int .i64 1), (8, zn (a1 + b1)), (9, zn c2_1), (10, zn ((a1 + b1) + c2_0))] ∧ Ev w [] wo [.box Eb [zn ((a0 + b0) + (0 : UInt64)), zn a1, zn a2, zn a3] 33, .box Ec [zn b0, zn b1, zn b2, zn b3] 33, .box Ea (zh (zf 4 0)) 33] ∧ (c2_1 = zX a1 b1 c2_0)) ?_ ?_
 ·
  refine c_d (((zA ((a1 + b1) + c2_0) : Nat) : Int) < ((zA (a1 + b1) : Nat) : Int)) Ej (fun EW => ?_) (fun EW => ?_)
  ·
   refine d_r [2,3,4,5,6,7,8,9,10] [] Ej fun _ EX => ?_
   exact ⟨rfl, ⟨(1 : UInt64), EX.sb, Er.pk [0, 1, 2], by rw [← carry2 hle1]; first | exact (if_pos (by omega)).symm | exact hc1_1.trans (if_neg (by omega)).symm⟩⟩
  refine wp_skip ?_
  exact ⟨rfl, ⟨c1_1, Ej.sb, Er.pk [0, 1, 2], by rw [← carry2 hle1]; first | exact (if_pos (by omega)).symm | exact hc1_1.trans (if_neg (by omega)).symm⟩⟩
 rintro _ _ ⟨c2_1, EY, EZ, hc2_1⟩
 refine ze <| wp_seq <| zk <| d_k [2,3,4,5,6,7,8,9,10,34,35] [] 3 EY fun _ E0 => f_o <| m_s 0 [.box Eb [zn ((a0 + b0) + (0 : UInt64)), zn ((a1 + b1) + c2_0), zn a2, zn a3] 33, .box Ec [zn b0, zn b1, zn b2, zn b3] 33, .box Ea (zh (zf 4 0)) 33] E0 EZ fun _ _ E1 Es => f_e <| ze <| d_r [2,3,4,5,6,7,8,10] [] E1 fun _ E2 => zx <| ze <| d_r [2,3,4,5,6,7,8,10] [] E2 fun _ E3 => ?_
 refine ze <| zK <| wp_seq <| d_s [2,3,4,5,6,7,8,10,12] [] E3 fun _ Et => c_t Et ?_
 refine wp_skip <| ze <| wp_seq <| wp_block <| wp_seq <| r_c (fun ac wo => Env ac 39 [(2, pt Eb), (3, pt Ec), (4, pt Ea), (5, .int .u64 0), (6, zn c2_1), (7, .int .i64 2), (8, zn (a2 + b2)), (10, zn ((a1 + b1) + c2_0))] ∧ Ev w [] wo [.box Eb [zn ((a0 + b0) + (0 : UInt64)), zn ((a1 + b1) + c2_0), zn a2, zn a3] 33, .box Ec [zn b0, zn b1, zn b2, zn b3] 33, .box Ea (zh (zf 4 0)) 33]) ?_ ?_
 ·
  refine h_s (fun wv => Ev w [] wv [.box Eb [zn ((a0 + b0) + (0 : UInt64)), zn ((a1 + b1) + c2_0), zn a2, zn a3] 33, .box Ec [zn b0, zn b1, zn b2, zn b3] 33]) [] 8 ?_
  have Ee := Es.trans (zS Es.heap)
  refine q_s [0,1] [] 6 Et (Ee.pk [0, 1]) fun _ E4 => q_l 0 2 E4 (Ee.pk [0, 1]) fun _ E5 => q_s [3,4] [] 3 E5 (Ee.pk [0, 1]) fun _ E6 => q_l 1 5 E6 (Ee.pk [0, 1]) fun _ E7 => q_s [6,7] [(6, g_i .u64 (zO (x := a2) (y := b2) rfl rfl))] 0 E7 (Ee.pk [0, 1]) fun _ E8 => ?_
  exact h_e ⟨E8.sb, Ee.pk [0, 1, 2]⟩
 rintro _ _ ⟨E9, Ek⟩
 refine ze <| d_s [2,3,4,5,6,7,8,9,10] [] E9 fun _ Ha => wp_seq <| wp_seq <| zk <| d_k [2,3,4,5,6,7,8,9,10,22,24] [] 3 Ha fun _ Hb => f_o <| m_l 0 Hb Ek fun _ Hc => d_e [2,3,4,5,6,7,8,9,10,26] [] Hc fun _ El => ?_
 refine ze <| QX (F := fun ac wo => ∃ (c1_2 : UInt64), Env ac 39 [(2, pt Eb), (3, pt Ec), (4, pt Ea), (5, .int .u64 0), (6, zn c2_1), (7, .int .i64 2), (8, zn (a2 + b2)), (9, zn c1_2), (10, zn ((a1 + b1) + c2_0))] ∧ Ev w [] wo [.box Eb [zn ((a0 + b0) + (0 : UInt64)), zn ((a1 + b1) + c2_0), zn a2, zn a3] 33, .box Ec [zn b0, zn b1, zn b2, zn b3] 33, .box Ea (zh (zf 4 0)) 33] ∧ (c1_2 = zX a2 b2 0)) ?_ ?_
 ·
  refine c_d (((zA (a2 + b2) : Nat) : Int) < ((zA a2 : Nat) : Int)) El (fun Hd => ?_) (fun Hd => ?_)
  ·
   refine d_r [2,3,4,5,6,7,8,9,10] [] El fun _ He => ?_
   exact ⟨rfl, ⟨(1 : UInt64), He.sb, Ek.pk [0, 1, 2], by rw [← carry1]; first | exact (if_pos (by omega)).symm | exact (if_neg (by omega)).symm⟩⟩
  refine wp_skip ?_
  exact ⟨rfl, ⟨(0 : UInt64), El.sb, Ek.pk [0, 1, 2], by rw [← carry1]; first | exact (if_pos (by omega)).symm | exact (if_neg (by omega)).symm⟩⟩
 rintro _ _ ⟨c1_2, Hf, Eu, hc1_2⟩
 refine ze <| d_s [2,3,4,5,6,7,8,9,10] [(2, g_i .u64 (zO (x := a2 + b2) (y := c2_1) rfl rfl))] Hf fun _ Hg => wp_seq <| d_s [2,3,4,5,6,7,8,9,10,32] [] Hg fun _ Em => ?_
 have hle2 : zA c2_1 ≤ 1 := (by rw [hc2_1]; exact YU hle1)
 refine QX (F := fun ac wo => ∃ (c2_2 : UInt64), Env ac 39 [(2, pt Eb), (3, pt Ec), (4, pt Ea), (5, .int .u64 0), (6, zn c2_1), (7, .int .i64 2), (8, zn (a2 + b2)), (9, zn c2_2), (10, zn ((a2 + b2) + c2_1))] ∧ Ev w [] wo [.box Eb [zn ((a0 + b0) + (0 : UInt64)), zn ((a1 + b1) + c2_0), zn a2, zn a3] 33, .box Ec [zn b0, zn b1, zn b2, zn b3] 33, .box Ea (zh (zf 4 0)) 33] ∧ (c2_2 = zX a2 b2 c2_1)) ?_ ?_
 ·
  refine c_d (((zA ((a2 + b2) + c2_1) : Nat) : Int) < ((zA (a2 + b2) : Nat) : Int)) Em (fun Hh => ?_) (fun Hh => ?_)
  ·
   refine d_r [2,3,4,5,6,7,8,9,10] [] Em fun _ Hi => ?_
   exact ⟨rfl, ⟨(1 : UInt64), Hi.sb, Eu.pk [0, 1, 2], by rw [← carry2 hle2]; first | exact (if_pos (by omega)).symm | exact hc1_2.trans (if_neg (by omega)).symm⟩⟩
  refine wp_skip ?_
  exact ⟨rfl, ⟨c1_2, Em.sb, Eu.pk [0, 1, 2], by rw [← carry2 hle2]; first | exact (if_pos (by omega)).symm | exact hc1_2.trans (if_neg (by omega)).symm⟩⟩
 rintro _ _ ⟨c2_2, Hj, Hk, hc2_2⟩
 refine ze <| wp_seq <| zk <| d_k [2,3,4,5,6,7,8,9,10,34,35] [] 3 Hj fun _ Hl => f_o <| m_s 0 [.box Eb [zn ((a0 + b0) + (0 : UInt64)), zn ((a1 + b1) + c2_0), zn ((a2 + b2) + c2_1), zn a3] 33, .box Ec [zn b0, zn b1, zn b2, zn b3] 33, .box Ea (zh (zf 4 0)) 33] Hl Hk fun _ _ Hm Ew => f_e <| ze <| d_r [2,3,4,5,6,7,8,10] [] Hm fun _ Hn => zx <| ze <| d_r [2,3,4,5,6,7,8,10] [] Hn fun _ Ho => ?_
 refine ze <| zK <| wp_seq <| d_s [2,3,4,5,6,7,8,10,12] [] Ho fun _ Ex => c_t Ex ?_
 refine wp_skip <| ze <| wp_seq <| wp_block <| wp_seq <| r_c (fun ac wo => Env ac 39 [(2, pt Eb), (3, pt Ec), (4, pt Ea), (5, .int .u64 0), (6, zn c2_2), (7, .int .i64 3), (8, zn (a3 + b3)), (10, zn ((a2 + b2) + c2_1))] ∧ Ev w [] wo [.box Eb [zn ((a0 + b0) + (0 : UInt64)), zn ((a1 + b1) + c2_0), zn ((a2 + b2) + c2_1), zn a3] 33, .box Ec [zn b0, zn b1, zn b2, zn b3] 33, .box Ea (zh (zf 4 0)) 33]) ?_ ?_
 ·
  refine h_s (fun wv => Ev w [] wv [.box Eb [zn ((a0 + b0) + (0 : UInt64)), zn ((a1 + b1) + c2_0), zn ((a2 + b2) + c2_1), zn a3] 33, .box Ec [zn b0, zn b1, zn b2, zn b3] 33]) [] 8 ?_
  have Ef := Ew.trans (zS Ew.heap)
  refine q_s [0,1] [] 6 Ex (Ef.pk [0, 1]) fun _ Hp => q_l 0 2 Hp (Ef.pk [0, 1]) fun _ Hq => q_s [3,4] [] 3 Hq (Ef.pk [0, 1]) fun _ Hr => q_l 1 5 Hr (Ef.pk [0, 1]) fun _ Hs => q_s [6,7] [(6, g_i .u64 (zO (x := a3) (y := b3) rfl rfl))] 0 Hs (Ef.pk [0, 1]) fun _ Ht => ?_
  exact h_e ⟨Ht.sb, Ef.pk [0, 1, 2]⟩
 rintro _ _ ⟨Hu, En⟩
 refine ze <| d_s [2,3,4,5,6,7,8,9,10] [] Hu fun _ Hv => wp_seq <| wp_seq <| zk <| d_k [2,3,4,5,6,7,8,9,10,22,24] [] 3 Hv fun _ Hw => f_o <| m_l 0 Hw En fun _ Hx => d_e [2,3,4,5,6,7,8,9,10,26] [] Hx fun _ Eo => ?_
 refine ze <| QX (F := fun ac wo => ∃ (c1_3 : UInt64), Env ac 39 [(2, pt Eb), (3, pt Ec), (4, pt Ea), (5, .int .u64 0), (6, zn c2_2), (7, .int .i64 3), (8, zn (a3 + b3)), (9, zn c1_3), (10, zn ((a2 + b2) + c2_1))] ∧ Ev w [] wo [.box Eb [zn ((a0 + b0) + (0 : UInt64)), zn ((a1 + b1) + c2_0), zn ((a2 + b2) + c2_1), zn a3] 33, .box Ec [zn b0, zn b1, zn b2, zn b3] 33, .box Ea (zh (zf 4 0)) 33] ∧ (c1_3 = zX a3 b3 0)) ?_ ?_
 ·
  refine c_d (((zA (a3 + b3) : Nat) : Int) < ((zA a3 : Nat) : Int)) Eo (fun Hy => ?_) (fun Hy => ?_)
  ·
   refine d_r [2,3,4,5,6,7,8,9,10] [] Eo fun _ Hz => ?_
   exact ⟨rfl, ⟨(1 : UInt64), Hz.sb, En.pk [0, 1, 2], by rw [← carry1]; first | exact (if_pos (by omega)).symm | exact (if_neg (by omega)).symm⟩⟩
  refine wp_skip ?_
  exact ⟨rfl, ⟨(0 : UInt64), Eo.sb, En.pk [0, 1, 2], by rw [← carry1]; first | exact (if_pos (by omega)).symm | exact (if_neg (by omega)).symm⟩⟩
 rintro _ _ ⟨c1_3, HA, Ey, hc1_3⟩
 refine ze <| d_s [2,3,4,5,6,7,8,9,10] [(2, g_i .u64 (zO (x := a3 + b3) (y := c2_2) rfl rfl))] HA fun _ HB => wp_seq <| d_s [2,3,4,5,6,7,8,9,10,32] [] HB fun _ Ep => ?_
 have hle3 : zA c2_2 ≤ 1 := (by rw [hc2_2]; exact YU hle2)
 refine QX (F := fun ac wo => ∃ (c2_3 : UInt64), Env ac 39 [(2, pt Eb), (3, pt Ec), (4, pt Ea), (5, .int .u64 0), (6, zn c2_2), (7, .int .i64 3), (8, zn (a3 + b3)), (9, zn c2_3), (10, zn ((a3 + b3) + c2_2))] ∧ Ev w [] wo [.box Eb [zn ((a0 + b0) + (0 : UInt64)), zn ((a1 + b1) + c2_0), zn ((a2 + b2) + c2_1), zn a3] 33, .box Ec [zn b0, zn b1, zn b2, zn b3] 33, .box Ea (zh (zf 4 0)) 33] ∧ (c2_3 = zX a3 b3 c2_2)) ?_ ?_
 ·
  refine c_d (((zA ((a3 + b3) + c2_2) : Nat) : Int) < ((zA (a3 + b3) : Nat) : Int)) Ep (fun HC => ?_) (fun HC => ?_)
  ·
   refine d_r [2,3,4,5,6,7,8,9,10] [] Ep fun _ HD => ?_
   exact ⟨rfl, ⟨(1 : UInt64), HD.sb, Ey.pk [0, 1, 2], by rw [← carry2 hle3]; first | exact (if_pos (by omega)).symm | exact hc1_3.trans (if_neg (by omega)).symm⟩⟩
  refine wp_skip ?_
  exact ⟨rfl, ⟨c1_3, Ep.sb, Ey.pk [0, 1, 2], by rw [← carry2 hle3]; first | exact (if_pos (by omega)).symm | exact hc1_3.trans (if_neg (by omega)).symm⟩⟩
 rintro _ _ ⟨c2_3, HE, HF, hc2_3⟩
 refine ze <| wp_seq <| zk <| d_k [2,3,4,5,6,7,8,9,10,34,35] [] 3 HE fun _ HG => f_o <| m_s 0 [.box Eb [zn ((a0 + b0) + (0 : UInt64)), zn ((a1 + b1) + c2_0), zn ((a2 + b2) + c2_1), zn ((a3 + b3) + c2_2)] 33, .box Ec [zn b0, zn b1, zn b2, zn b3] 33, .box Ea (zh (zf 4 0)) 33] HG HF fun _ _ HH Ez => f_e <| ze <| d_r [2,3,4,5,6,7,8,10] [] HH fun _ HI => zx <| ze <| d_r [2,3,4,5,6,7,8,10] [] HI fun _ HJ => ?_
 refine ze <| zK <| wp_seq <| d_s [2,3,4,5,6,7,8,10,12] [] HJ fun _ EA => c_f EA ?_
 refine wp_exit <| zD <| zD <| zP <| ze <| wp_seq <| zk <| f_o <| m_a 0 0 4 [zn ((a0 + b0) + (0 : UInt64)), zn ((a1 + b1) + c2_0), zn ((a2 + b2) + c2_1), zn ((a3 + b3) + c2_2)] EA Ez rfl rfl rfl fun _ HK => d_k [2,3,4,5,6,7,8,10,37,38] [] 2 HK fun _ HL => f_o <| zZ 2 4 [zn ((a0 + b0) + (0 : UInt64)), zn ((a1 + b1) + c2_0), zn ((a2 + b2) + c2_1), zn ((a3 + b3) + c2_2)] _ HL Ez rfl rfl (zd (zi)) (one_all (by kernel_rfl)) rfl fun _ _ HM EB => d_e [2,3,4,5,6,7,8,10] [] HM fun _ HN => ze <| wp_ret <| Z9 (v := .agg #[zn ((a0 + b0) + (0 : UInt64)), zn ((a1 + b1) + c2_0), zn ((a2 + b2) + c2_1), zn ((a3 + b3) + c2_2)]) (x := zn c2_3) (t := 4) (T := 33) (ad := ⟨Ea, 0, none⟩) (u := 5) HN (by kernel_rfl) (by kernel_rfl) (zF (t := 33) (k := 2) (off := 0) (m := 4) (xs := [zn ((a0 + b0) + (0 : UInt64)), zn ((a1 + b1) + c2_0), zn ((a2 + b2) + c2_1), zn ((a3 + b3) + c2_2)]) EB rfl rfl rfl (by kernel_rfl) (by kernel_rfl)) (by kernel_rfl) ?_
 subst hc2_0
 subst hc2_1
 subst hc2_2
 subst hc2_3
 exact ⟨rfl, EB.pk []⟩
theorem rplus_go (w : World) (a b : List UInt64) (ha : zc a = 4) (hb : zc b = 4) : Calls zB 62 #[.agg (zg (zh a)), .agg (zg (zh b))] w fun e w' => e = .returned (.tuple #[.agg (zg (zh (nd (nv a + nv b)))), zn (u1 (zY ≤ nv a + nv b))]) ∧ Ev w [] w' [] := by
  rw [← plus_nd ha hb, ← ad_nd ha hb]
  match a, ha, b, hb with
  | [a0, a1, a2, a3], _, [b0, b1, b2, b3], _ => exact rplus4 w a0 a1 a2 a3 b0 b1 b2 b3
theorem compl_val (x : UInt64) : (~~~ x).toNat = 18446744073709551615 - x.toNat := by
  rw [UInt64.toNat_not]
  rfl
theorem rmin_eq (a0 a1 a2 a3 b0 b1 b2 b3 : UInt64) : nd (nv (nd (nv [a0, a1, a2, a3] + nv [~~~ b0, ~~~ b1, ~~~ b2, ~~~ b3])) + nv [(1 : UInt64), 0, 0, 0]) = nd (nv [a0, a1, a2, a3] + zY - nv [b0, b1, b2, b3]) := by
  have hb := Qv (l := [b0, b1, b2, b3]) rfl
  have hc : nv [~~~ b0, ~~~ b1, ~~~ b2, ~~~ b3] + nv [b0, b1, b2, b3] + 1 = zY := by
    rw [nv4, nv4, compl_val, compl_val, compl_val, compl_val]
    have := Qm b0; have := Qm b1; have := Qm b2; have := Qm b3
    simp only [zY]
    omega
  rw [Ju, num1, show (1 : UInt64).toNat = 1 from rfl, ← J7, ← J7 (_ - _)]
  congr 1
  simp only [zY] at *
  omega
theorem rminus4 (w : World) (a0 a1 a2 a3 b0 b1 b2 b3 : UInt64) : Calls zB 94 #[.agg #[zn a0, zn a1, zn a2, zn a3], .agg #[zn b0, zn b1, zn b2, zn b3]] w fun e w' => e = .returned (.agg (zg (zh (nd (nv [a0, a1, a2, a3] + zY - nv [b0, b1, b2, b3]))))) ∧ Ev w [] w' [] := by
 refine d_0 [(0, .agg #[zn a0, zn a1, zn a2, zn a3]), (1, .agg #[zn b0, zn b1, zn b2, zn b3])] 33 Tryz.func94 Tryz.ntmps94 (Heap.nil _) fun Ha Hb Hc => wp_seq <| zk <| f_o <| m_m 33 [zn a0, zn a1, zn a2, zn a3] Hb Hc fun _ _ Ee Hd He => f_o <| m_m 33 [zn b0, zn b1, zn b2, zn b3] Hd He fun _ _ Ef Hf ED => f_o <| m_z 33 (zh (zf 4 0)) Hf ED fun _ _ Ea EE Eg => f_e <| ze <| wp_seq <| d_s [2,3,4,5] [] EE fun _ EF => ?_
 refine wp_block <| QY ?_
 refine zK <| wp_seq <| d_s [2,3,4,5,11] [] EF fun _ Eh => c_t Eh ?_
 refine wp_skip <| ze <| wp_seq <| wp_block <| zk <| d_k [2,3,4,5,14,16] [] 3 Eh fun _ EG => f_o <| m_l 1 EG Eg fun _ EH => d_k [2,3,4,5,18,19] [(4, g_i .u64 (ZK (x := 18446744073709551615) (y := b0) rfl rfl))] 6 EH fun _ EI => f_o <| m_s 1 [.box Ee [zn a0, zn a1, zn a2, zn a3] 33, .box Ef [zn ((18446744073709551615 : UInt64) ^^^ b0), zn b1, zn b2, zn b3] 33, .box Ea (zh (zf 4 0)) 33] EI Eg fun _ _ EJ Ei => f_e <| zx <| ze <| d_r [2,3,4,5] [] EJ fun _ EK => ?_
 refine ze <| zK <| wp_seq <| d_s [2,3,4,5,11] [] EK fun _ Ej => c_t Ej ?_
 refine wp_skip <| ze <| wp_seq <| wp_block <| zk <| d_k [2,3,4,5,14,16] [] 3 Ej fun _ EL => f_o <| m_l 1 EL Ei fun _ EM => d_k [2,3,4,5,18,19] [(4, g_i .u64 (ZK (x := 18446744073709551615) (y := b1) rfl rfl))] 6 EM fun _ EN => f_o <| m_s 1 [.box Ee [zn a0, zn a1, zn a2, zn a3] 33, .box Ef [zn ((18446744073709551615 : UInt64) ^^^ b0), zn ((18446744073709551615 : UInt64) ^^^ b1), zn b2, zn b3] 33, .box Ea (zh (zf 4 0)) 33] EN Ei fun _ _ EO Ek => f_e <| zx <| ze <| d_r [2,3,4,5] [] EO fun _ EP => ?_
 refine ze <| zK <| wp_seq <| d_s [2,3,4,5,11] [] EP fun _ El => c_t El ?_
 refine wp_skip <| ze <| wp_seq <| wp_block <| zk <| d_k [2,3,4,5,14,16] [] 3 El fun _ EQ => f_o <| m_l 1 EQ Ek fun _ ER => d_k [2,3,4,5,18,19] [(4, g_i .u64 (ZK (x := 18446744073709551615) (y := b2) rfl rfl))] 6 ER fun _ ES => f_o <| m_s 1 [.box Ee [zn a0, zn a1, zn a2, zn a3] 33, .box Ef [zn ((18446744073709551615 : UInt64) ^^^ b0), zn ((18446744073709551615 : UInt64) ^^^ b1), zn ((18446744073709551615 : UInt64) ^^^ b2), zn b3] 33, .box Ea (zh (zf 4 0)) 33] ES Ek fun _ _ ET Em => f_e <| zx <| ze <| d_r [2,3,4,5] [] ET fun _ EU => ?_
 refine ze <| zK <| wp_seq <| d_s [2,3,4,5,11] [] EU fun _ En => c_t En ?_
 refine wp_skip <| ze <| wp_seq <| wp_block <| zk <| d_k [2,3,4,5,14,16] [] 3 En fun _ EV => f_o <| m_l 1 EV Em fun _ EW => d_k [2,3,4,5,18,19] [(4, g_i .u64 (ZK (x := 18446744073709551615) (y := b3) rfl rfl))] 6 EW fun _ EX => f_o <| m_s 1 [.box Ee [zn a0, zn a1, zn a2, zn a3] 33, .box Ef [zn ((18446744073709551615 : UInt64) ^^^ b0), zn ((18446744073709551615 : UInt64) ^^^ b1), zn ((18446744073709551615 : UInt64) ^^^ b2), zn ((18446744073709551615 : UInt64) ^^^ b3)] 33, .box Ea (zh (zf 4 0)) 33] EX Em fun _ _ EY Ed => f_e <| zx <| ze <| d_r [2,3,4,5] [] EY fun _ EZ => ?_
 refine ze <| zK <| wp_seq <| d_s [2,3,4,5,11] [] EZ fun _ Eo => c_f Eo ?_
 refine wp_exit <| zD <| zD <| zP <| ze <| wp_seq <| zk <| f_o <| m_a 0 0 4 [zn a0, zn a1, zn a2, zn a3] Eo Ed rfl rfl rfl fun _ E0 => f_o <| m_a 1 0 4 [zn ((18446744073709551615 : UInt64) ^^^ b0), zn ((18446744073709551615 : UInt64) ^^^ b1), zn ((18446744073709551615 : UInt64) ^^^ b2), zn ((18446744073709551615 : UInt64) ^^^ b3)] E0 Ed rfl rfl rfl fun _ E1 => f_o <| c_p E1 Ed (rplus_go _ [a0, a1, a2, a3] [(18446744073709551615 : UInt64) ^^^ b0, (18446744073709551615 : UInt64) ^^^ b1, (18446744073709551615 : UInt64) ^^^ b2, (18446744073709551615 : UInt64) ^^^ b3] rfl rfl) fun _ _ E2 E3 => d_k [3,4,5,24,25] [] 6 E2 fun _ E4 => f_o <| m_z 33 (zh (zf 4 0)) E4 E3 fun _ _ E5 E6 E7 => f_o <| zZ 3 4 (zh (nd (nv [a0, a1, a2, a3] + nv [(18446744073709551615 : UInt64) ^^^ b0, (18446744073709551615 : UInt64) ^^^ b1, (18446744073709551615 : UInt64) ^^^ b2, (18446744073709551615 : UInt64) ^^^ b3]))) _ E6 E7 rfl (zd (zl _ _)) (zd (zi)) (zw _) rfl fun _ _ E8 Ep => ?_
 refine d_e [3,4,5,6] [] E8 fun _ E9 => ze <| wp_seq <| zk <| f_o <| Zn 3 4 (zh (nd (nv [a0, a1, a2, a3] + nv [(18446744073709551615 : UInt64) ^^^ b0, (18446744073709551615 : UInt64) ^^^ b1, (18446744073709551615 : UInt64) ^^^ b2, (18446744073709551615 : UInt64) ^^^ b3]))) E9 Ep rfl (zd (zl _ _)) fun _ Eq => d_k [3,4,5,6,27,28] [] 2 Eq fun _ Er => f_o <| c_p Er Ep (rplus_go _ (nd (nv [a0, a1, a2, a3] + nv [(18446744073709551615 : UInt64) ^^^ b0, (18446744073709551615 : UInt64) ^^^ b1, (18446744073709551615 : UInt64) ^^^ b2, (18446744073709551615 : UInt64) ^^^ b3])) ([1, 0, 0, 0] : List UInt64) (zl _ _) (show zc ([1, 0, 0, 0] : List UInt64) = 4 from rfl)) fun _ _ Es Et => d_k [3,4,5,6,30,31] [] 6 Es fun _ Eu => f_o <| m_z 33 (zh (zf 4 0)) Eu Et fun _ _ Ew Ex Ey => ?_
 refine f_o <| zZ 4 4 (zh (nd (nv (nd (nv [a0, a1, a2, a3] + nv [(18446744073709551615 : UInt64) ^^^ b0, (18446744073709551615 : UInt64) ^^^ b1, (18446744073709551615 : UInt64) ^^^ b2, (18446744073709551615 : UInt64) ^^^ b3])) + nv ([1, 0, 0, 0] : List UInt64)))) [.box Ee [zn a0, zn a1, zn a2, zn a3] 33, .box Ef [zn ((18446744073709551615 : UInt64) ^^^ b0), zn ((18446744073709551615 : UInt64) ^^^ b1), zn ((18446744073709551615 : UInt64) ^^^ b2), zn ((18446744073709551615 : UInt64) ^^^ b3)] 33, .box Ea (zh (zf 4 0)) 33, .box E5 (zh (nd (nv [a0, a1, a2, a3] + nv [(18446744073709551615 : UInt64) ^^^ b0, (18446744073709551615 : UInt64) ^^^ b1, (18446744073709551615 : UInt64) ^^^ b2, (18446744073709551615 : UInt64) ^^^ b3]))) 33, .box Ew (zh (nd (nv (nd (nv [a0, a1, a2, a3] + nv [(18446744073709551615 : UInt64) ^^^ b0, (18446744073709551615 : UInt64) ^^^ b1, (18446744073709551615 : UInt64) ^^^ b2, (18446744073709551615 : UInt64) ^^^ b3])) + nv ([1, 0, 0, 0] : List UInt64)))) 33] Ex Ey rfl (zd (zl _ _)) (zd (zi)) (zw _) rfl fun _ _ Ez Eb => d_e [3,4,5,6,8] [] Ez fun _ EA => ze <| wp_seq <| zk <| f_o <| Zn 4 4 (zh (nd (nv (nd (nv [a0, a1, a2, a3] + nv [(18446744073709551615 : UInt64) ^^^ b0, (18446744073709551615 : UInt64) ^^^ b1, (18446744073709551615 : UInt64) ^^^ b2, (18446744073709551615 : UInt64) ^^^ b3])) + nv ([1, 0, 0, 0] : List UInt64)))) EA Eb rfl (zd (zl _ _)) fun _ EB => f_o <| zZ 2 4 (zh (nd (nv (nd (nv [a0, a1, a2, a3] + nv [(18446744073709551615 : UInt64) ^^^ b0, (18446744073709551615 : UInt64) ^^^ b1, (18446744073709551615 : UInt64) ^^^ b2, (18446744073709551615 : UInt64) ^^^ b3])) + nv ([1, 0, 0, 0] : List UInt64)))) _ EB Eb rfl (zd (zl _ _)) (zd (zi)) (zw _) rfl fun _ _ EC Ec => f_e <| ze <| wp_ret <| Zf (v := .agg (zg (zh (nd (nv (nd (nv [a0, a1, a2, a3] + nv [(18446744073709551615 : UInt64) ^^^ b0, (18446744073709551615 : UInt64) ^^^ b1, (18446744073709551615 : UInt64) ^^^ b2, (18446744073709551615 : UInt64) ^^^ b3])) + nv ([1, 0, 0, 0] : List UInt64)))))) (t := 4) (T := 33) (ad := ⟨Ea, 0, none⟩) EC (by kernel_rfl) (by kernel_rfl) (zF (t := 33) (k := 2) (off := 0) (m := 4) (xs := zh (nd (nv (nd (nv [a0, a1, a2, a3] + nv [(18446744073709551615 : UInt64) ^^^ b0, (18446744073709551615 : UInt64) ^^^ b1, (18446744073709551615 : UInt64) ^^^ b2, (18446744073709551615 : UInt64) ^^^ b3])) + nv ([1, 0, 0, 0] : List UInt64)))) Ec rfl (zr (zd (zl _ _))) (zd (zl _ _)) (by kernel_rfl) (by kernel_rfl)) ?_
 have e : nd (nv (nd (nv [a0, a1, a2, a3] + nv [(18446744073709551615 : UInt64) ^^^ b0, (18446744073709551615 : UInt64) ^^^ b1, (18446744073709551615 : UInt64) ^^^ b2, (18446744073709551615 : UInt64) ^^^ b3])) + nv ([1, 0, 0, 0] : List UInt64)) = nd (nv [a0, a1, a2, a3] + zY - nv [b0, b1, b2, b3]) := rmin_eq a0 a1 a2 a3 b0 b1 b2 b3
 rw [e]
 exact ⟨rfl, Ec.pk []⟩
theorem rminus_go (w : World) (a b : List UInt64) (ha : zc a = 4) (hb : zc b = 4) : Calls zB 94 #[.agg (zg (zh a)), .agg (zg (zh b))] w fun e w' => e = .returned (.agg (zg (zh (nd (nv a + zY - nv b))))) ∧ Ev w [] w' [] := by
  match a, ha, b, hb with
  | [a0, a1, a2, a3], _, [b0, b1, b2, b3], _ => exact rminus4 w a0 a1 a2 a3 b0 b1 b2 b3
theorem rmod_1 (w : World)  : Calls zB 37 #[.int .i64 1] w fun e w' => e = .returned (.agg (zg (zh (nd (mF 1))))) ∧ Ev w [] w' [] := by
 refine d_0 [(0, .int .i64 1)] 17 Tryz.func37 Tryz.ntmps37 (Heap.nil _) fun Ee Ef Eg => wp_seq <| zk <| f_o <| m_z 33 (zh (zf 4 0)) Ef Eg fun _ _ Eh Ei Ej => f_e <| ze <| wp_seq <| d_s [2,3] [] Ei fun _ Ek => wp_block <| d_s [2,3,4] [] Ek fun _ Ed => c_t Ed ?_
 refine wp_seq <| zk <| d_k [2,3,6] [] 1 Ed fun _ Eb => f_o <| zZ 0 4 (zh ([18446744073709551597, 18446744073709551615, 18446744073709551615, 9223372036854775807] : List UInt64)) _ Eb Ej rfl (zd (show zc ([18446744073709551597, 18446744073709551615, 18446744073709551615, 9223372036854775807] : List UInt64) = 4 from rfl)) (zd (zi)) (zw _) rfl fun _ _ Ec Ea => f_e <| ze <| wp_ret <| Qg <| Zx <| Zf (v := .agg (zg (zh ([18446744073709551597, 18446744073709551615, 18446744073709551615, 9223372036854775807] : List UInt64)))) (t := 2) (T := 33) (ad := ⟨Eh, 0, none⟩) Ec (by kernel_rfl) (by kernel_rfl) (zF (t := 33) (k := 0) (off := 0) (m := 4) (xs := zh ([18446744073709551597, 18446744073709551615, 18446744073709551615, 9223372036854775807] : List UInt64)) Ea rfl (zr (zd (show zc ([18446744073709551597, 18446744073709551615, 18446744073709551615, 9223372036854775807] : List UInt64) = 4 from rfl))) (zd (show zc ([18446744073709551597, 18446744073709551615, 18446744073709551615, 9223372036854775807] : List UInt64) = 4 from rfl)) (by kernel_rfl) (by kernel_rfl)) ?_
 exact ⟨by kernel_rfl, Ea.pk []⟩
theorem rmod_2 (w : World)  : Calls zB 37 #[.int .i64 2] w fun e w' => e = .returned (.agg (zg (zh (nd (mF 2))))) ∧ Ev w [] w' [] := by
 refine d_0 [(0, .int .i64 2)] 17 Tryz.func37 Tryz.ntmps37 (Heap.nil _) fun Ef Eg Eh => wp_seq <| zk <| f_o <| m_z 33 (zh (zf 4 0)) Eg Eh fun _ _ Ei Ej Ek => f_e <| ze <| wp_seq <| d_s [2,3] [] Ej fun _ El => wp_block <| d_s [2,3,4] [] El fun _ Ee => c_f Ee ?_
 refine d_s [2,3,7] [] Ee fun _ Ea => c_t Ea ?_
 refine wp_seq <| zk <| d_k [2,3,9] [] 1 Ea fun _ Ec => f_o <| zZ 0 4 (zh ([18446744073709551615, 4294967295, 0, 18446744069414584321] : List UInt64)) _ Ec Ek rfl (zd (show zc ([18446744073709551615, 4294967295, 0, 18446744069414584321] : List UInt64) = 4 from rfl)) (zd (zi)) (zw _) rfl fun _ _ Ed Eb => f_e <| ze <| wp_ret <| Qg <| Zx <| Zf (v := .agg (zg (zh ([18446744073709551615, 4294967295, 0, 18446744069414584321] : List UInt64)))) (t := 2) (T := 33) (ad := ⟨Ei, 0, none⟩) Ed (by kernel_rfl) (by kernel_rfl) (zF (t := 33) (k := 0) (off := 0) (m := 4) (xs := zh ([18446744073709551615, 4294967295, 0, 18446744069414584321] : List UInt64)) Eb rfl (zr (zd (show zc ([18446744073709551615, 4294967295, 0, 18446744069414584321] : List UInt64) = 4 from rfl))) (zd (show zc ([18446744073709551615, 4294967295, 0, 18446744069414584321] : List UInt64) = 4 from rfl)) (by kernel_rfl) (by kernel_rfl)) ?_
 exact ⟨by kernel_rfl, Eb.pk []⟩
theorem rmod_3 (w : World)  : Calls zB 37 #[.int .i64 3] w fun e w' => e = .returned (.agg (zg (zh (nd (mF 3))))) ∧ Ev w [] w' [] := by
 refine d_0 [(0, .int .i64 3)] 17 Tryz.func37 Tryz.ntmps37 (Heap.nil _) fun Eg Eh Ei => wp_seq <| zk <| f_o <| m_z 33 (zh (zf 4 0)) Eh Ei fun _ _ Ej Ek El => f_e <| ze <| wp_seq <| d_s [2,3] [] Ek fun _ Em => wp_block <| d_s [2,3,4] [] Em fun _ Ef => c_f Ef ?_
 refine d_s [2,3,7] [] Ef fun _ Ea => c_f Ea ?_
 refine d_s [2,3,10] [] Ea fun _ Eb => c_t Eb ?_
 refine wp_seq <| zk <| d_k [2,3,12] [] 1 Eb fun _ Ed => f_o <| zZ 0 4 (zh ([17562291160714782033, 13611842547513532036, 18446744073709551615, 18446744069414584320] : List UInt64)) _ Ed El rfl (zd (show zc ([17562291160714782033, 13611842547513532036, 18446744073709551615, 18446744069414584320] : List UInt64) = 4 from rfl)) (zd (zi)) (zw _) rfl fun _ _ Ee Ec => f_e <| ze <| wp_ret <| Qg <| Zx <| Zf (v := .agg (zg (zh ([17562291160714782033, 13611842547513532036, 18446744073709551615, 18446744069414584320] : List UInt64)))) (t := 2) (T := 33) (ad := ⟨Ej, 0, none⟩) Ee (by kernel_rfl) (by kernel_rfl) (zF (t := 33) (k := 0) (off := 0) (m := 4) (xs := zh ([17562291160714782033, 13611842547513532036, 18446744073709551615, 18446744069414584320] : List UInt64)) Ec rfl (zr (zd (show zc ([17562291160714782033, 13611842547513532036, 18446744073709551615, 18446744069414584320] : List UInt64) = 4 from rfl))) (zd (show zc ([17562291160714782033, 13611842547513532036, 18446744073709551615, 18446744069414584320] : List UInt64) = 4 from rfl)) (by kernel_rfl) (by kernel_rfl)) ?_
 exact ⟨by kernel_rfl, Ec.pk []⟩
theorem rmod_4 (w : World)  : Calls zB 37 #[.int .i64 4] w fun e w' => e = .returned (.agg (zg (zh (nd (mF 4))))) ∧ Ev w [] w' [] := by
 refine d_0 [(0, .int .i64 4)] 17 Tryz.func37 Tryz.ntmps37 (Heap.nil _) fun Eh Ei Ej => wp_seq <| zk <| f_o <| m_z 33 (zh (zf 4 0)) Ei Ej fun _ _ Ek El Em => f_e <| ze <| wp_seq <| d_s [2,3] [] El fun _ En => wp_block <| d_s [2,3,4] [] En fun _ Eg => c_f Eg ?_
 refine d_s [2,3,7] [] Eg fun _ Ea => c_f Ea ?_
 refine d_s [2,3,10] [] Ea fun _ Eb => c_f Eb ?_
 refine d_s [2,3,13] [] Eb fun _ Ec => c_t Ec ?_
 refine wp_seq <| zk <| d_k [2,3,15] [] 1 Ec fun _ Ee => f_o <| zZ 0 4 (zh ([6346243789798364141, 1503914060200516822, 0, 1152921504606846976] : List UInt64)) _ Ee Em rfl (zd (show zc ([6346243789798364141, 1503914060200516822, 0, 1152921504606846976] : List UInt64) = 4 from rfl)) (zd (zi)) (zw _) rfl fun _ _ Ef Ed => f_e <| ze <| wp_ret <| Qg <| Zx <| Zf (v := .agg (zg (zh ([6346243789798364141, 1503914060200516822, 0, 1152921504606846976] : List UInt64)))) (t := 2) (T := 33) (ad := ⟨Ek, 0, none⟩) Ef (by kernel_rfl) (by kernel_rfl) (zF (t := 33) (k := 0) (off := 0) (m := 4) (xs := zh ([6346243789798364141, 1503914060200516822, 0, 1152921504606846976] : List UInt64)) Ed rfl (zr (zd (show zc ([6346243789798364141, 1503914060200516822, 0, 1152921504606846976] : List UInt64) = 4 from rfl))) (zd (show zc ([6346243789798364141, 1503914060200516822, 0, 1152921504606846976] : List UInt64) = 4 from rfl)) (by kernel_rfl) (by kernel_rfl)) ?_
 exact ⟨by kernel_rfl, Ed.pk []⟩
theorem rmod_0 (w : World) (f : Int)  (hf : ¬ (f = 1 ∨ f = 2 ∨ f = 3 ∨ f = 4)) : Calls zB 37 #[.int .i64 f] w fun e w' => e = .returned (.agg (zg (zh (nd (mF 0))))) ∧ Ev w [] w' [] := by
 refine d_0 [(0, .int .i64 f)] 17 Tryz.func37 Tryz.ntmps37 (Heap.nil _) fun El Em En => wp_seq <| zk <| f_o <| m_z 33 (zh (zf 4 0)) Em En fun _ _ Eo Ep Eq => f_e <| ze <| wp_seq <| d_s [2,3] [] Ep fun _ Er => wp_block <| d_s [2,3,4] [] Er fun _ Ek => ?_
 refine c_e f (1 : Int) Ek (fun Ea => ?_) (fun Ea => ?_)
 ·
  exact absurd Ea (by omega)
 refine d_s [2,3,7] [] Ek fun _ Eb => ?_
 refine c_e f (2 : Int) Eb (fun Ec => ?_) (fun Ec => ?_)
 ·
  exact absurd Ec (by omega)
 refine d_s [2,3,10] [] Eb fun _ Ed => ?_
 refine c_e f (3 : Int) Ed (fun Ee => ?_) (fun Ee => ?_)
 ·
  exact absurd Ee (by omega)
 refine d_s [2,3,13] [] Ed fun _ Ef => ?_
 refine c_e f (4 : Int) Ef (fun Eg => ?_) (fun Eg => ?_)
 ·
  exact absurd Eg (by omega)
 refine wp_skip <| zx <| ze <| wp_seq <| zk <| d_k [2,3,16] [] 1 Ef fun _ Ei => f_o <| zZ 0 4 (zh ([0, 0, 0, 0] : List UInt64)) _ Ei Eq rfl (zd (show zc ([0, 0, 0, 0] : List UInt64) = 4 from rfl)) (zd (zi)) (zw _) rfl fun _ _ Ej Eh => f_e <| ze <| wp_ret <| Zf (v := .agg (zg (zh ([0, 0, 0, 0] : List UInt64)))) (t := 2) (T := 33) (ad := ⟨Eo, 0, none⟩) Ej (by kernel_rfl) (by kernel_rfl) (zF (t := 33) (k := 0) (off := 0) (m := 4) (xs := zh ([0, 0, 0, 0] : List UInt64)) Eh rfl (zr (zd (show zc ([0, 0, 0, 0] : List UInt64) = 4 from rfl))) (zd (show zc ([0, 0, 0, 0] : List UInt64) = 4 from rfl)) (by kernel_rfl) (by kernel_rfl)) ?_
 exact ⟨by kernel_rfl, Eh.pk []⟩
theorem rmodulus_go (w : World) (f : Int) : Calls zB 37 #[.int .i64 f] w fun e w' => e = .returned (.agg (zg (zh (nd (mF f))))) ∧ Ev w [] w' [] := by
  by_cases hf : f = 1 ∨ f = 2 ∨ f = 3 ∨ f = 4
  · rcases hf with rfl | rfl | rfl | rfl
    · exact rmod_1 w
    · exact rmod_2 w
    · exact rmod_3 w
    · exact rmod_4 w
  · rw [mF_none hf]
    exact rmod_0 w f hf
theorem ris_go (w : World) (f : Int) : Calls zB 61 #[.int .i64 f] w fun e w' => e = .returned (.bool (decide (f = 1 ∨ f = 2 ∨ f = 3 ∨ f = 4))) ∧ Ev w [] w' [] := by
 refine d_0 [(0, .int .i64 f)] 9 Tryz.func61 Tryz.ntmps61 (Heap.nil _) fun Ef Eg Ed => d_s [0,2] [] Eg fun _ Eh => wp_seq <| zk <| d_k [0,2,5] [] 3 Eh fun _ Ee => ?_
 rcases Za (decide (f ≥ (1 : Int))) with Ea | Ea
 ·
  have Ei := Ee.fx (t := 5) (congrArg Value.bool Ea)
  have hp7 : f ≥ (1 : Int) := of_decide_eq_true Ea
  refine d_e [2] [] Ei fun _ Ej => ze <| wp_ret <| Qh (t := 2) (v := .bool (decide (f ≤ (4 : Int)))) Ej (by kernel_rfl) (by kernel_rfl) ?_
  have e : (decide (f ≤ (4 : Int))) = decide (f = 1 ∨ f = 2 ∨ f = 3 ∨ f = 4) := by
   by_cases hq : f = 1 ∨ f = 2 ∨ f = 3 ∨ f = 4
   · rw [decide_eq_true hq] <;> first | rfl | exact decide_eq_true (by omega) | (exfalso; omega)
   · rw [decide_eq_false hq] <;> first | rfl | exact decide_eq_false (by omega) | (exfalso; omega)
  exact ⟨by rw [e], Ed.pk []⟩
 have Eb := Ee.fx (t := 5) (congrArg Value.bool Ea)
 have hp11 : ¬ (f ≥ (1 : Int)) := of_decide_eq_false Ea
 refine d_e [2] [] Eb fun _ Ec => ze <| wp_ret <| Qh (t := 2) (v := .bool false) Ec (by kernel_rfl) (by kernel_rfl) ?_
 have e : (false) = decide (f = 1 ∨ f = 2 ∨ f = 3 ∨ f = 4) := by
  by_cases hq : f = 1 ∨ f = 2 ∨ f = 3 ∨ f = 4
  · rw [decide_eq_true hq] <;> first | rfl | exact decide_eq_true (by omega) | (exfalso; omega)
  · rw [decide_eq_false hq] <;> first | rfl | exact decide_eq_false (by omega) | (exfalso; omega)
 exact ⟨by rw [e], Ed.pk []⟩
theorem ris_go_yes (w : World) (f : Int) (hf : f = 1 ∨ f = 2 ∨ f = 3 ∨ f = 4) : Calls zB 61 #[.int .i64 f] w fun e w' => e = .returned (.bool true) ∧ Ev w [] w' [] := by
  have h := ris_go w f
  rwa [decide_eq_true hf] at h
theorem dg_eq (a0 a1 a2 a3 : UInt64) : [a0 &&& 4294967295, a0 >>> zb 32, a1 &&& 4294967295, a1 >>> zb 32, a2 &&& 4294967295, a2 >>> zb 32, a3 &&& 4294967295, a3 >>> zb 32, 0, 0, 0, 0, 0, 0, 0, 0, 0] = n32 17 (nv [a0, a1, a2, a3]) := by
  have z : (0 : UInt64).toNat < 4294967296 := by decide
  refine n32_of rfl ?_ ?_
  · simp only [DG.cons]
    exact ⟨low32 _, high32 _, low32 _, high32 _, low32 _, high32 _, low32 _, high32 _, z, z, z, z, z, z, z, z, z, DG.nil⟩
  · have h0 := low_high a0
    have h1 := low_high a1
    have h2 := low_high a2
    have h3 := low_high a3
    rw [nv4]
    simp only [dv, show (0 : UInt64).toNat = 0 from rfl, Qc, Zy]
    omega
theorem num_eq {w : List UInt64} (hl : w.length = 17) (hd : DG w) : [za w 0 0 ||| (za w 1 0 <<< zb 32), za w 2 0 ||| (za w 3 0 <<< zb 32), za w 4 0 ||| (za w 5 0 <<< zb 32), za w 6 0 ||| (za w 7 0 <<< zb 32)] = nd (dv 4294967296 w) := by
  refine nv_inj rfl (zl _ _) ?_
  rw [Ju, nv4, or_shl (hd 0) (hd 1), or_shl (hd 2) (hd 3), or_shl (hd 4) (hd 5), or_shl (hd 6) (hd 7)]
  have g0 := hd 0; have g1 := hd 1; have g2 := hd 2; have g3 := hd 3; have g4 := hd 4; have g5 := hd 5; have g6 := hd 6; have g7 := hd 7
  match w, hl with
  | x0 :: x1 :: x2 :: x3 :: x4 :: x5 :: x6 :: x7 :: r, _ =>
    simp only [Jb]
    generalize dv 4294967296 r = R
    simp only [Jj, QT, zY] at *
    omega
def dk (l : List UInt64) : Nat → Nat
  | 0 => 0
  | k + 1 => dk l k + (za l k 0).toNat * 4294967296 ^ k
theorem dk_cons (x : UInt64) (r : List UInt64) : ∀ k, dk (x :: r) (k + 1) = x.toNat + 4294967296 * dk r k
  | 0 => by simp [dk]
  | k + 1 => by
    rw [dk, dk_cons x r k, dk, QT, z9, QG, ZP, ← Zh, z5 _ 4294967296]
theorem dk_split : ∀ (l : List UInt64) (k : Nat), dv 4294967296 l = dk l k + 4294967296 ^ k * dv 4294967296 (zo k l)
  | l, 0 => by simp [dk]
  | [], k + 1 => by
    have : ∀ j, dk [] j = 0 := fun j => by
      induction j with
      | zero => rfl
      | succ j ih => rw [dk, ih]; simp
    rw [this]; simp [dv]
  | x :: r, k + 1 => by
    rw [Jb, dk_cons, List.drop_succ_cons, dk_split r k, QG, ZP, z9]
    ac_rfl
theorem dk_lt {l : List UInt64} (h : DG l) : ∀ k, dk l k < 4294967296 ^ k
  | 0 => by rw [dk, Z6]; exact Nat.one_pos
  | k + 1 => by
    have h1 := dk_lt h k
    have h2 := h k
    rw [dk, z9]
    generalize 4294967296 ^ k = q at *
    have : (za l k 0).toNat * q ≤ 4294967295 * q := Qi q (by omega)
    omega
theorem n32_get : ∀ (k n j : Nat), j < k → (za (n32 k n) j 0).toNat = n / 4294967296 ^ j % 4294967296
  | k + 1, n, 0, _ => by rw [n32, Jj, n32_hd, Z6, YG]
  | k + 1, n, j + 1, h => by rw [n32, QT, n32_get k _ j (by omega), Zv, z9, z5]
theorem dk_n32 {k n : Nat} : ∀ j, j ≤ k → dk (n32 k n) j = n % 4294967296 ^ j
  | 0, _ => by rw [Z6, J0]; rfl
  | j + 1, h => by rw [dk, dk_n32 j (by omega), n32_get k n j (by omega), Nat.mod_pow_succ, z5]
theorem mac32 {p x y c : UInt64} (hp : p.toNat < 4294967296) (hx : x.toNat < 4294967296) (hy : y.toNat < 4294967296) (hc : c.toNat < 4294967296) : (p + x * y + c).toNat = p.toNat + x.toNat * y.toNat + c.toNat := by
  have h : x.toNat * y.toNat ≤ 4294967295 * 4294967295 := Q8 (by omega) (by omega)
  rw [ZS, ZS, Yr]
  generalize x.toNat * y.toNat = e at *
  omega
theorem mac32' {p x y c : UInt64} (hp : p.toNat < 4294967296) (hx : x.toNat < 4294967296) (hy : y.toNat < 4294967296) (hc : c.toNat < 4294967296) : (p + c + x * y).toNat = p.toNat + x.toNat * y.toNat + c.toNat := by
  have h : x.toNat * y.toNat ≤ 4294967295 * 4294967295 := Q8 (by omega) (by omega)
  rw [ZS, ZS, Yr]
  generalize x.toNat * y.toNat = e at *
  omega
theorem set32 {w : List UInt64} {j : Nat} {t c : UInt64} {P e : Nat} (hj : j < w.length) (hv : dv 4294967296 w + c.toNat * 4294967296 ^ j = P) (ht : t.toNat = (za w j 0).toNat + e + c.toNat) :
    dv 4294967296 (zp w j (t &&& 4294967295)) + (t >>> zb 32).toNat * 4294967296 ^ (j + 1) = P + e * 4294967296 ^ j := by
  have h1 := J5 4294967296 (t &&& 4294967295) w j hj
  have h2 := low_high t
  rw [ht] at h2
  have m2 := congrArg (· * 4294967296 ^ j) h2
  simp only [Zt] at m2
  rw [z9, z5 (4294967296 ^ j), ← Zh, z5 _ 4294967296]
  generalize 4294967296 ^ j = q at *
  omega
theorem times_in {A y w : List UInt64} {B i k : Nat} {c : UInt64} {t : UInt64} (hlw : w.length = 17) (hj : i + k < 17) (hw : DG w) (hA : DG A) (hy : DG y) (hc : c.toNat < 4294967296)
    (hv : dv 4294967296 w + c.toNat * 4294967296 ^ (i + k) = B + dk y k * (za A i 0).toNat * 4294967296 ^ i) (ht : t = za w (i + k) 0 + za A i 0 * za y k 0 + c) :
    dv 4294967296 (zp w (i + k) (t &&& 4294967295)) + (t >>> zb 32).toNat * 4294967296 ^ (i + (k + 1)) = B + dk y (k + 1) * (za A i 0).toNat * 4294967296 ^ i := by
  rw [← ZP, set32 (by omega) hv (by rw [ht]; exact mac32 (hw _) (hA _) (hy _) hc), dk, Zt, Zt, ZP]
  congr 2
  rw [Qn]
  ac_rfl
theorem times_out {x y w : List UInt64} {b i : Nat} {c : UInt64} (hlw : w.length = 17) (hi : i < 8) (hz : za w (i + 8) 0 = 0) (hb : dk y 8 = b)
    (hv : dv 4294967296 w + c.toNat * 4294967296 ^ (i + 8) = dk x i * b + dk y 8 * (za x i 0).toNat * 4294967296 ^ i) : dv 4294967296 (zp w (i + 8) c) = dk x (i + 1) * b := by
  have e := J5 4294967296 c w (i + 8) (by omega)
  rw [hz, show (0 : UInt64).toNat = 0 from rfl, Qb, Zy, hv, hb] at e
  rw [e, dk, Zt]
  congr 1
  ac_rfl
theorem zeros17 (j : Nat) : za (zf 17 (0 : UInt64)) j 0 = 0 := by
  simp only [zN, Qu]
  split <;> rfl
theorem d8w : 4294967296 ^ 8 = zY := by decide
theorem dk_nv {a : List UInt64} (ha : a.length = 4) : dk (n32 17 (nv a)) 8 = nv a := by rw [dk_n32 8 (by decide), d8w, zL (Qv ha)]
theorem DG.rep : DG (zf 17 (0 : UInt64)) := fun j => by rw [zeros17]; decide
theorem digits4 (w : World) (a0 a1 a2 a3 : UInt64) : Calls zB 63 #[.agg #[zn a0, zn a1, zn a2, zn a3]] w fun e w' => e = .returned (.agg (zg (zh (n32 17 (nv [a0, a1, a2, a3]))))) ∧ Ev w [] w' [] := by
 refine d_0 [(0, .agg #[zn a0, zn a1, zn a2, zn a3])] 25 Tryz.func63 Tryz.ntmps63 (Heap.nil _) fun Hg Hh Hi => wp_seq <| zk <| f_o <| m_m 33 [zn a0, zn a1, zn a2, zn a3] Hh Hi fun _ _ EE Hj Hk => f_o <| m_z 87 (zh (zf 17 0)) Hj Hk fun _ _ Ef Hl EF => f_e <| ze <| wp_seq <| zk <| f_o <| m_z 87 (zh (zf 17 0)) Hl EF fun _ _ Ea EG Eg => f_e <| ze <| wp_seq <| d_s [1,2,3,4] [] EG fun _ EH => ?_
 refine wp_block <| QY ?_
 refine zK <| wp_seq <| d_s [1,2,3,4,6] [] EH fun _ Eh => c_t Eh ?_
 refine wp_skip <| ze <| wp_seq <| wp_block <| wp_seq <| zk <| d_k [1,2,3,4,10,12] [] 4 Eh fun _ EI => f_o <| m_l 0 EI Eg fun _ EJ => d_k [1,2,3,4,14,15] [(5, g_i .u64 (Zp (x := a0) (y := (4294967295 : UInt64)) rfl rfl))] 7 EJ fun _ EK => f_o ?_
 have EL : 0 < zc (zf 17 0) := by rw [(zi)]; omega
 refine m_t 2 0 (zn (a0 &&& (4294967295 : UInt64))) _ EK Eg rfl (zC EL) (Z4 _ _ _) rfl fun _ _ EM Ei => f_e <| ze <| zk <| d_k [1,2,3,4,18,20] [] 5 EM fun _ EN => f_o <| m_l 0 EN Ei fun _ EO => d_k [1,2,3,4,22,23] [(6, g_i .u64 (zI (x := a0) (n := 32) rfl (by decide)))] 8 EO fun _ EP => f_o ?_
 have EQ : 1 < zc (zp (zf 17 0) 0 (a0 &&& (4294967295 : UInt64))) := by rw [(List.length_set.trans (zi))]; omega
 refine m_t 2 1 (zn (a0 >>> zb 32)) [.box EE [zn a0, zn a1, zn a2, zn a3] 33, .box Ef (zh (zf 17 0)) 87, .box Ea (zh (zp (zp (zf 17 0) 0 (a0 &&& (4294967295 : UInt64))) 1 (a0 >>> zb 32))) 87] EP Ei rfl (zC EQ) (Z4 _ _ _) rfl fun _ _ ER Ej => f_e <| zx <| ze <| d_r [1,2,3,4] [] ER fun _ ES => ?_
 refine ze <| zK <| wp_seq <| d_s [1,2,3,4,6] [] ES fun _ Ek => c_t Ek ?_
 refine wp_skip <| ze <| wp_seq <| wp_block <| wp_seq <| zk <| d_k [1,2,3,4,10,12] [] 4 Ek fun _ ET => f_o <| m_l 0 ET Ej fun _ EU => d_k [1,2,3,4,14,15] [(5, g_i .u64 (Zp (x := a1) (y := (4294967295 : UInt64)) rfl rfl))] 7 EU fun _ EV => f_o ?_
 have EW : 2 < zc (zp (zp (zf 17 0) 0 (a0 &&& (4294967295 : UInt64))) 1 (a0 >>> zb 32)) := by rw [(List.length_set.trans (List.length_set.trans (zi)))]; omega
 refine m_t 2 2 (zn (a1 &&& (4294967295 : UInt64))) _ EV Ej rfl (zC EW) (Z4 _ _ _) rfl fun _ _ EX El => f_e <| ze <| zk <| d_k [1,2,3,4,18,20] [] 5 EX fun _ EY => f_o <| m_l 0 EY El fun _ EZ => d_k [1,2,3,4,22,23] [(6, g_i .u64 (zI (x := a1) (n := 32) rfl (by decide)))] 8 EZ fun _ E0 => f_o ?_
 have E1 : 3 < zc (zp (zp (zp (zf 17 0) 0 (a0 &&& (4294967295 : UInt64))) 1 (a0 >>> zb 32)) 2 (a1 &&& (4294967295 : UInt64))) := by rw [(List.length_set.trans (List.length_set.trans (List.length_set.trans (zi))))]; omega
 refine m_t 2 3 (zn (a1 >>> zb 32)) [.box EE [zn a0, zn a1, zn a2, zn a3] 33, .box Ef (zh (zf 17 0)) 87, .box Ea (zh (zp (zp (zp (zp (zf 17 0) 0 (a0 &&& (4294967295 : UInt64))) 1 (a0 >>> zb 32)) 2 (a1 &&& (4294967295 : UInt64))) 3 (a1 >>> zb 32))) 87] E0 El rfl (zC E1) (Z4 _ _ _) rfl fun _ _ E2 Em => f_e <| zx <| ze <| d_r [1,2,3,4] [] E2 fun _ E3 => ?_
 refine ze <| zK <| wp_seq <| d_s [1,2,3,4,6] [] E3 fun _ En => c_t En ?_
 refine wp_skip <| ze <| wp_seq <| wp_block <| wp_seq <| zk <| d_k [1,2,3,4,10,12] [] 4 En fun _ E4 => f_o <| m_l 0 E4 Em fun _ E5 => d_k [1,2,3,4,14,15] [(5, g_i .u64 (Zp (x := a2) (y := (4294967295 : UInt64)) rfl rfl))] 7 E5 fun _ E6 => f_o ?_
 have E7 : 4 < zc (zp (zp (zp (zp (zf 17 0) 0 (a0 &&& (4294967295 : UInt64))) 1 (a0 >>> zb 32)) 2 (a1 &&& (4294967295 : UInt64))) 3 (a1 >>> zb 32)) := by rw [(List.length_set.trans (List.length_set.trans (List.length_set.trans (List.length_set.trans (zi)))))]; omega
 refine m_t 2 4 (zn (a2 &&& (4294967295 : UInt64))) _ E6 Em rfl (zC E7) (Z4 _ _ _) rfl fun _ _ E8 Eo => f_e <| ze <| zk <| d_k [1,2,3,4,18,20] [] 5 E8 fun _ E9 => f_o <| m_l 0 E9 Eo fun _ Ha => d_k [1,2,3,4,22,23] [(6, g_i .u64 (zI (x := a2) (n := 32) rfl (by decide)))] 8 Ha fun _ Hb => f_o ?_
 have Hc : 5 < zc (zp (zp (zp (zp (zp (zf 17 0) 0 (a0 &&& (4294967295 : UInt64))) 1 (a0 >>> zb 32)) 2 (a1 &&& (4294967295 : UInt64))) 3 (a1 >>> zb 32)) 4 (a2 &&& (4294967295 : UInt64))) := by rw [(List.length_set.trans (List.length_set.trans (List.length_set.trans (List.length_set.trans (List.length_set.trans (zi))))))]; omega
 refine m_t 2 5 (zn (a2 >>> zb 32)) [.box EE [zn a0, zn a1, zn a2, zn a3] 33, .box Ef (zh (zf 17 0)) 87, .box Ea (zh (zp (zp (zp (zp (zp (zp (zf 17 0) 0 (a0 &&& (4294967295 : UInt64))) 1 (a0 >>> zb 32)) 2 (a1 &&& (4294967295 : UInt64))) 3 (a1 >>> zb 32)) 4 (a2 &&& (4294967295 : UInt64))) 5 (a2 >>> zb 32))) 87] Hb Eo rfl (zC Hc) (Z4 _ _ _) rfl fun _ _ Hd Ep => f_e <| zx <| ze <| d_r [1,2,3,4] [] Hd fun _ He => ?_
 refine ze <| zK <| wp_seq <| d_s [1,2,3,4,6] [] He fun _ Eq => c_t Eq ?_
 refine wp_skip <| ze <| wp_seq <| wp_block <| wp_seq <| zk <| d_k [1,2,3,4,10,12] [] 4 Eq fun _ Hf => f_o <| m_l 0 Hf Ep fun _ Er => d_k [1,2,3,4,14,15] [(5, g_i .u64 (Zp (x := a3) (y := (4294967295 : UInt64)) rfl rfl))] 7 Er fun _ Es => f_o ?_
 have Et : 6 < zc (zp (zp (zp (zp (zp (zp (zf 17 0) 0 (a0 &&& (4294967295 : UInt64))) 1 (a0 >>> zb 32)) 2 (a1 &&& (4294967295 : UInt64))) 3 (a1 >>> zb 32)) 4 (a2 &&& (4294967295 : UInt64))) 5 (a2 >>> zb 32)) := by rw [(List.length_set.trans (List.length_set.trans (List.length_set.trans (List.length_set.trans (List.length_set.trans (List.length_set.trans (zi)))))))]; omega
 refine m_t 2 6 (zn (a3 &&& (4294967295 : UInt64))) _ Es Ep rfl (zC Et) (Z4 _ _ _) rfl fun _ _ Eu Eb => f_e <| ze <| zk <| d_k [1,2,3,4,18,20] [] 5 Eu fun _ Ew => f_o <| m_l 0 Ew Eb fun _ Ex => d_k [1,2,3,4,22,23] [(6, g_i .u64 (zI (x := a3) (n := 32) rfl (by decide)))] 8 Ex fun _ Ey => f_o ?_
 have Ez : 7 < zc (zp (zp (zp (zp (zp (zp (zp (zf 17 0) 0 (a0 &&& (4294967295 : UInt64))) 1 (a0 >>> zb 32)) 2 (a1 &&& (4294967295 : UInt64))) 3 (a1 >>> zb 32)) 4 (a2 &&& (4294967295 : UInt64))) 5 (a2 >>> zb 32)) 6 (a3 &&& (4294967295 : UInt64))) := by rw [(List.length_set.trans (List.length_set.trans (List.length_set.trans (List.length_set.trans (List.length_set.trans (List.length_set.trans (List.length_set.trans (zi))))))))]; omega
 refine m_t 2 7 (zn (a3 >>> zb 32)) [.box EE [zn a0, zn a1, zn a2, zn a3] 33, .box Ef (zh (zf 17 0)) 87, .box Ea (zh (zp (zp (zp (zp (zp (zp (zp (zp (zf 17 0) 0 (a0 &&& (4294967295 : UInt64))) 1 (a0 >>> zb 32)) 2 (a1 &&& (4294967295 : UInt64))) 3 (a1 >>> zb 32)) 4 (a2 &&& (4294967295 : UInt64))) 5 (a2 >>> zb 32)) 6 (a3 &&& (4294967295 : UInt64))) 7 (a3 >>> zb 32))) 87] Ey Eb rfl (zC Ez) (Z4 _ _ _) rfl fun _ _ EA Ec => f_e <| zx <| ze <| d_r [1,2,3,4] [] EA fun _ EB => ?_
 refine ze <| zK <| wp_seq <| d_s [1,2,3,4,6] [] EB fun _ Ed => c_f Ed ?_
 refine wp_exit <| zD <| zD <| zP <| ze <| wp_seq <| zk <| f_o <| Zn 2 17 (zh (zp (zp (zp (zp (zp (zp (zp (zp (zf 17 0) 0 (a0 &&& (4294967295 : UInt64))) 1 (a0 >>> zb 32)) 2 (a1 &&& (4294967295 : UInt64))) 3 (a1 >>> zb 32)) 4 (a2 &&& (4294967295 : UInt64))) 5 (a2 >>> zb 32)) 6 (a3 &&& (4294967295 : UInt64))) 7 (a3 >>> zb 32))) Ed Ec rfl (zd (List.length_set.trans (List.length_set.trans (List.length_set.trans (List.length_set.trans (List.length_set.trans (List.length_set.trans (List.length_set.trans (List.length_set.trans (zi)))))))))) fun _ EC => f_o <| zZ 1 17 (zh (zp (zp (zp (zp (zp (zp (zp (zp (zf 17 0) 0 (a0 &&& (4294967295 : UInt64))) 1 (a0 >>> zb 32)) 2 (a1 &&& (4294967295 : UInt64))) 3 (a1 >>> zb 32)) 4 (a2 &&& (4294967295 : UInt64))) 5 (a2 >>> zb 32)) 6 (a3 &&& (4294967295 : UInt64))) 7 (a3 >>> zb 32))) _ EC Ec rfl (zd (List.length_set.trans (List.length_set.trans (List.length_set.trans (List.length_set.trans (List.length_set.trans (List.length_set.trans (List.length_set.trans (List.length_set.trans (zi)))))))))) (zd (zi)) (zw _) rfl fun _ _ ED Ee => f_e <| ze <| wp_ret <| Zf (v := .agg (zg (zh (zp (zp (zp (zp (zp (zp (zp (zp (zf 17 0) 0 (a0 &&& (4294967295 : UInt64))) 1 (a0 >>> zb 32)) 2 (a1 &&& (4294967295 : UInt64))) 3 (a1 >>> zb 32)) 4 (a2 &&& (4294967295 : UInt64))) 5 (a2 >>> zb 32)) 6 (a3 &&& (4294967295 : UInt64))) 7 (a3 >>> zb 32))))) (t := 2) (T := 87) (ad := ⟨Ef, 0, none⟩) ED (by kernel_rfl) (by kernel_rfl) (zF (t := 87) (k := 1) (off := 0) (m := 17) (xs := zh (zp (zp (zp (zp (zp (zp (zp (zp (zf 17 0) 0 (a0 &&& (4294967295 : UInt64))) 1 (a0 >>> zb 32)) 2 (a1 &&& (4294967295 : UInt64))) 3 (a1 >>> zb 32)) 4 (a2 &&& (4294967295 : UInt64))) 5 (a2 >>> zb 32)) 6 (a3 &&& (4294967295 : UInt64))) 7 (a3 >>> zb 32))) Ee rfl (zr (zd (List.length_set.trans (List.length_set.trans (List.length_set.trans (List.length_set.trans (List.length_set.trans (List.length_set.trans (List.length_set.trans (List.length_set.trans (zi))))))))))) (zd (List.length_set.trans (List.length_set.trans (List.length_set.trans (List.length_set.trans (List.length_set.trans (List.length_set.trans (List.length_set.trans (List.length_set.trans (zi)))))))))) (by kernel_rfl) (by kernel_rfl)) ?_
 have e : zp (zp (zp (zp (zp (zp (zp (zp (zf 17 0) 0 (a0 &&& (4294967295 : UInt64))) 1 (a0 >>> zb 32)) 2 (a1 &&& (4294967295 : UInt64))) 3 (a1 >>> zb 32)) 4 (a2 &&& (4294967295 : UInt64))) 5 (a2 >>> zb 32)) 6 (a3 &&& (4294967295 : UInt64))) 7 (a3 >>> zb 32) = n32 17 (nv [a0, a1, a2, a3]) := dg_eq a0 a1 a2 a3
 rw [e]
 exact ⟨rfl, Ee.pk []⟩
theorem digits_go (w : World) (a : List UInt64) (ha : zc a = 4) : Calls zB 63 #[.agg (zg (zh a))] w fun e w' => e = .returned (.agg (zg (zh (n32 17 (nv a))))) ∧ Ev w [] w' [] := by
  match a, ha with
  | [a0, a1, a2, a3], _ => exact digits4 w a0 a1 a2 a3
theorem number_go (w : World) (x : List UInt64) (hx : zc x = 17) (hd : DG x) : Calls zB 93 #[.agg (zg (zh x))] w fun e w' => e = .returned (.agg (zg (zh (nd (dv 4294967296 x))))) ∧ Ev w [] w' [] := by
 refine d_0 [(0, .agg (zg (zh x)))] 28 Tryz.func93 Tryz.ntmps93 (Heap.nil _) fun ED EE EF => wp_seq <| zk <| f_o <| m_m 87 (zh x) EE EF fun _ _ EK EG EH => f_o <| m_z 33 (zh (zf 4 0)) EG EH fun _ _ EI EJ Ea => f_e <| ze <| wp_seq <| zk <| d_k [1,2,3] [] 1 EJ fun _ Ec => f_o ?_
 have Ed : 0 < zc x := by rw [hx]; omega
 refine m_v 0 0 (zn (za x 0 0)) Ec Ea rfl (zC Ed) fun _ Ee => d_k [1,2,4,5] [] 3 Ee fun _ Ef => f_o ?_
 have Eg : 1 < zc x := by rw [hx]; omega
 refine m_v 0 1 (zn (za x 1 0)) Ef Ea rfl (zC Eg) fun _ Eh => d_k [1,2,8,9] [(4, g_i .u64 (Qf (x := za x 1 0) (n := 32) rfl (by decide))), (5, g_i .u64 (ZL (x := za x 0 0) (y := (za x 1 0) <<< zb 32) rfl rfl))] 7 Eh fun _ Ei => f_o ?_
 have Ej : 2 < zc x := by rw [hx]; omega
 refine m_v 0 2 (zn (za x 2 0)) Ei Ea rfl (zC Ej) fun _ Ek => d_k [1,2,8,10,11] [] 9 Ek fun _ El => f_o ?_
 have Em : 3 < zc x := by rw [hx]; omega
 refine m_v 0 3 (zn (za x 3 0)) El Ea rfl (zC Em) fun _ En => d_k [1,2,8,14,15] [(10, g_i .u64 (Qf (x := za x 3 0) (n := 32) rfl (by decide))), (11, g_i .u64 (ZL (x := za x 2 0) (y := (za x 3 0) <<< zb 32) rfl rfl))] 13 En fun _ Eo => f_o ?_
 have Ep : 4 < zc x := by rw [hx]; omega
 refine m_v 0 4 (zn (za x 4 0)) Eo Ea rfl (zC Ep) fun _ Eq => d_k [1,2,8,14,16,17] [] 15 Eq fun _ Er => f_o ?_
 have Es : 5 < zc x := by rw [hx]; omega
 refine m_v 0 5 (zn (za x 5 0)) Er Ea rfl (zC Es) fun _ Et => d_k [1,2,8,14,20,21] [(16, g_i .u64 (Qf (x := za x 5 0) (n := 32) rfl (by decide))), (17, g_i .u64 (ZL (x := za x 4 0) (y := (za x 5 0) <<< zb 32) rfl rfl))] 19 Et fun _ Eu => f_o ?_
 have Ew : 6 < zc x := by rw [hx]; omega
 refine m_v 0 6 (zn (za x 6 0)) Eu Ea rfl (zC Ew) fun _ Ex => d_k [2,8,14,20,22,23] [] 21 Ex fun _ Ey => f_o ?_
 have Ez : 7 < zc x := by rw [hx]; omega
 refine m_v 0 7 (zn (za x 7 0)) Ey Ea rfl (zC Ez) fun _ EA => d_k [2,27] [(22, g_i .u64 (Qf (x := za x 7 0) (n := 32) rfl (by decide))), (23, g_i .u64 (ZL (x := za x 6 0) (y := (za x 7 0) <<< zb 32) rfl rfl))] 25 EA fun _ EB => f_o <| zZ 1 4 (zh ([(za x 0 0) ||| ((za x 1 0) <<< zb 32), (za x 2 0) ||| ((za x 3 0) <<< zb 32), (za x 4 0) ||| ((za x 5 0) <<< zb 32), (za x 6 0) ||| ((za x 7 0) <<< zb 32)] : List UInt64)) _ EB Ea rfl (zd (show zc ([(za x 0 0) ||| ((za x 1 0) <<< zb 32), (za x 2 0) ||| ((za x 3 0) <<< zb 32), (za x 4 0) ||| ((za x 5 0) <<< zb 32), (za x 6 0) ||| ((za x 7 0) <<< zb 32)] : List UInt64) = 4 from rfl)) (zd (zi)) (zw _) rfl fun _ _ EC Eb => f_e <| ze <| wp_ret <| Zf (v := .agg (zg (zh ([(za x 0 0) ||| ((za x 1 0) <<< zb 32), (za x 2 0) ||| ((za x 3 0) <<< zb 32), (za x 4 0) ||| ((za x 5 0) <<< zb 32), (za x 6 0) ||| ((za x 7 0) <<< zb 32)] : List UInt64)))) (t := 2) (T := 33) (ad := ⟨EI, 0, none⟩) EC (by kernel_rfl) (by kernel_rfl) (zF (t := 33) (k := 1) (off := 0) (m := 4) (xs := zh ([(za x 0 0) ||| ((za x 1 0) <<< zb 32), (za x 2 0) ||| ((za x 3 0) <<< zb 32), (za x 4 0) ||| ((za x 5 0) <<< zb 32), (za x 6 0) ||| ((za x 7 0) <<< zb 32)] : List UInt64)) Eb rfl (zr (zd (show zc ([(za x 0 0) ||| ((za x 1 0) <<< zb 32), (za x 2 0) ||| ((za x 3 0) <<< zb 32), (za x 4 0) ||| ((za x 5 0) <<< zb 32), (za x 6 0) ||| ((za x 7 0) <<< zb 32)] : List UInt64) = 4 from rfl))) (zd (show zc ([(za x 0 0) ||| ((za x 1 0) <<< zb 32), (za x 2 0) ||| ((za x 3 0) <<< zb 32), (za x 4 0) ||| ((za x 5 0) <<< zb 32), (za x 6 0) ||| ((za x 7 0) <<< zb 32)] : List UInt64) = 4 from rfl)) (by kernel_rfl) (by kernel_rfl)) ?_
 have e : ([(za x 0 0) ||| ((za x 1 0) <<< zb 32), (za x 2 0) ||| ((za x 3 0) <<< zb 32), (za x 4 0) ||| ((za x 5 0) <<< zb 32), (za x 6 0) ||| ((za x 7 0) <<< zb 32)] : List UInt64) = nd (dv 4294967296 x) := num_eq hx hd
 have e2 : Ending.returned (.agg (zg (zh ([(za x 0 0) ||| ((za x 1 0) <<< zb 32), (za x 2 0) ||| ((za x 3 0) <<< zb 32), (za x 4 0) ||| ((za x 5 0) <<< zb 32), (za x 6 0) ||| ((za x 7 0) <<< zb 32)] : List UInt64)))) = Ending.returned (.agg (zg (zh (nd (dv 4294967296 x))))) := congrArg (fun l : List UInt64 => Ending.returned (Value.agg (zh l).toArray)) e
 exact ⟨e2, Eb.pk []⟩
theorem times_go (w : World) (a b : List UInt64) (ha : zc a = 4) (hb : zc b = 4) : Calls zB 65 #[.agg (zg (zh a)), .agg (zg (zh b))] w fun e w' => e = .returned (.agg (zg (zh (n32 17 (nv a * nv b))))) ∧ Ev w [] w' [] := by
 refine d_0 [(0, .agg (zg (zh a))), (1, .agg (zg (zh b)))] 52 Tryz.func65 Tryz.ntmps65 (Heap.nil _) fun Hi Hj Hk => wp_seq <| zk <| f_o <| m_m 33 (zh a) Hj Hk fun _ _ Hl Hm Hn => f_o <| m_m 33 (zh b) Hm Hn fun _ _ Ho Hp ER => f_o <| m_z 87 (zh (zf 17 0)) Hp ER fun _ _ Ee ES Ek => f_e <| ze <| wp_seq <| zk <| f_o <| Zn 0 4 (zh a) ES Ek rfl (zd ha) fun _ ET => f_o <| c_p ET Ek (digits_go _ a ha) fun _ _ EU EV => ?_
 refine f_o <| m_z 87 (zh (zf 17 0)) EU EV fun _ _ Eb EW EX => f_o <| zZ 3 17 (zh (n32 17 (nv a))) _ EW EX rfl (zd (n32_len _ _)) (zd (zi)) (zw _) rfl fun _ _ EY El => f_e <| ze <| wp_seq <| zk <| f_o <| Zn 1 4 (zh b) EY El rfl (zd hb) fun _ EZ => f_o <| c_p EZ El (digits_go _ b hb) fun _ _ E0 E1 => f_o <| m_z 87 (zh (zf 17 0)) E0 E1 fun _ _ Ec E2 E3 => f_o <| zZ 4 17 (zh (n32 17 (nv b))) [.box Hl (zh a) 33, .box Ho (zh b) 33, .box Ee (zh (zf 17 0)) 87, .box Eb (zh (n32 17 (nv a))) 87, .box Ec (zh (n32 17 (nv b))) 87] E2 E3 rfl (zd (n32_len _ _)) (zd (zi)) (zw _) rfl fun _ _ E4 E5 => ?_
 refine f_e <| ze <| wp_seq <| zk <| f_o <| m_z 87 (zh (zf 17 0)) E4 E5 fun _ _ Ea E6 E7 => f_e <| ze <| wp_seq <| wp_seq <| d_r [4,5,6,7,8] [] E6 fun _ E8 => ?_
 refine ze <| wp_block <| Z5 (fun E9 ac wo => ∃ (i : Nat) (t : List UInt64), E9 = (8 - i : Nat) ∧ Env ac 52 [(4, pt Ee), (5, pt Eb), (6, pt Ec), (7, pt Ea), (8, ni i)] ∧ Ev w [] wo [.box Ea (zh t) 87, .box Ee (zh (zf 17 0)) 87, .box Eb (zh (n32 17 (nv a))) 87, .box Ec (zh (n32 17 (nv b))) 87] ∧ (i ≤ 8) ∧ (zc t = 17) ∧ (DG t) ∧ (dv 4294967296 t = dk (n32 17 (nv a)) i * nv b) ∧ (∀ j, i + 8 ≤ j → za t j 0 = 0)) ⟨_, 0, zf 17 0, rfl, E8.sb, E7.pk [5, 2, 3, 4], by omega, (zi), DG.rep, by rw [dv_replicate]; simp [dk], fun j _ => zeros17 j⟩ ?_
 rintro Hq _ _ ⟨i, t, rfl, Ha, Eg, hi, hlt, hdt, hv, hz⟩
 refine wp_seq <| wp_seq <| d_r [4,5,6,7,8,17] [] Ha fun _ Eh => ?_
 refine ze <| c_d (((i : Nat) : Int) < (8 : Int)) Eh (fun Hb => ?_) (fun Hb => ?_)
 ·
  refine wp_skip <| ze <| wp_seq <| wp_block <| wp_seq <| d_r [4,5,6,7,8,9] [] Eh fun _ Hc => ze <| wp_seq <| wp_seq <| d_r [4,5,6,7,8,9,10] [] Hc fun _ Hd => ?_
  refine ze <| wp_block <| Z5 (fun He ac wo => ∃ (k : Nat) (u : List UInt64) (c : UInt64), He = (8 - k : Nat) ∧ Env ac 52 [(4, pt Ee), (5, pt Eb), (6, pt Ec), (7, pt Ea), (8, ni i), (9, zn c), (10, ni k)] ∧ Ev w [] wo [.box Ea (zh u) 87, .box Ee (zh (zf 17 0)) 87, .box Eb (zh (n32 17 (nv a))) 87, .box Ec (zh (n32 17 (nv b))) 87] ∧ (k ≤ 8) ∧ (zc u = 17) ∧ (DG u) ∧ (c.toNat < 4294967296) ∧ (dv 4294967296 u + c.toNat * 4294967296 ^ (i + k) = dk (n32 17 (nv a)) i * nv b + dk (n32 17 (nv b)) k * (za (n32 17 (nv a)) i 0).toNat * 4294967296 ^ i) ∧ (∀ j, i + 8 ≤ j → za u j 0 = 0)) ⟨_, 0, t, 0, rfl, Hd.sb, Eg.pk [0, 1, 2, 3], by omega, hlt, hdt, by decide, by rw [hv]; simp [dk], hz⟩ ?_
  rintro Hr _ _ ⟨k, u, c, rfl, Hf, Ei, hk, hlu, hdu, hcu, hv2, Hg⟩
  refine wp_seq <| wp_seq <| d_r [4,5,6,7,8,9,10,21] [] Hf fun _ Ej => ?_
  refine ze <| c_d (((k : Nat) : Int) < (8 : Int)) Ej (fun Hh => ?_) (fun Hh => ?_)
  ·
   refine wp_skip <| ze <| wp_seq <| wp_block <| wp_seq <| r_c (fun ac wo => Env ac 52 [(4, pt Ee), (5, pt Eb), (6, pt Ec), (7, pt Ea), (8, ni i), (9, zn c), (10, ni k), (11, zn (((za u (i + k) 0) + ((za (n32 17 (nv a)) i 0) * (za (n32 17 (nv b)) k 0))) + c))] ∧ Ev w [] wo [.box Ea (zh u) 87, .box Ee (zh (zf 17 0)) 87, .box Eb (zh (n32 17 (nv a))) 87, .box Ec (zh (n32 17 (nv b))) 87]) ?_ ?_
   ·
    refine h_s (fun wv => Ev w [] wv [.box Ea (zh u) 87, .box Eb (zh (n32 17 (nv a))) 87, .box Ec (zh (n32 17 (nv b))) 87]) [] 16 ?_
    have Ed := Ei.trans (zS Ei.heap)
    refine q_s [0,1,2] [(2, g_n (w_a i k))] 13 Ej (Ed.pk [0, 2, 3]) fun _ Em => q_f 3 (s := Instr.indexAt 87 (pt Ea) (ni (i + k))) (v := .pointer (some ⟨Ea, i + k, none⟩)) Em (fun _ => zt (e := 31) (sz := 1) (m := 17) (j := i + k) (o := i + k) (by kernel_rfl) (by kernel_rfl) (by omega) (by omega) (by omega) _) (fun _ => Ed.pk [0, 2, 3]) fun _ En => ?_
    have Eo : i + k < zc u := by rw [hlu]; omega
    refine q_r 4 (s := Instr.loadAt 31 (.pointer (some ⟨Ea, i + k, none⟩))) (v := zn (za u (i + k) 0)) En (fun w hS => Zi (by kernel_rfl) (hS.heap.cell (k := 0) rfl (zC Eo))) (Ed.pk [0, 2, 3]) fun _ Ep => q_s [5] [] 10 Ep (Ed.pk [0, 2, 3]) fun _ Eq => q_f 6 (s := Instr.indexAt 87 (pt Eb) (ni i)) (v := .pointer (some ⟨Eb, i, none⟩)) Eq (fun _ => zt (e := 31) (sz := 1) (m := 17) (j := i) (o := i) (by kernel_rfl) (by kernel_rfl) (by omega) (by omega) (by omega) _) (fun _ => Ed.pk [0, 2, 3]) fun _ Er => ?_
    have Es : i < zc (n32 17 (nv a)) := by rw [(n32_len _ _)]; omega
    refine q_r 7 (s := Instr.loadAt 31 (.pointer (some ⟨Eb, i, none⟩))) (v := zn (za (n32 17 (nv a)) i 0)) Er (fun w hS => Zi (by kernel_rfl) (hS.heap.cell (k := 1) rfl (zC Es))) (Ed.pk [0, 2, 3]) fun _ Et => q_s [8] [] 7 Et (Ed.pk [0, 2, 3]) fun _ Eu => q_f 9 (s := Instr.indexAt 87 (pt Ec) (ni k)) (v := .pointer (some ⟨Ec, k, none⟩)) Eu (fun _ => zt (e := 31) (sz := 1) (m := 17) (j := k) (o := k) (by kernel_rfl) (by kernel_rfl) (by omega) (by omega) (by omega) _) (fun _ => Ed.pk [0, 2, 3]) fun _ Ew => ?_
    have Ex : k < zc (n32 17 (nv b)) := by rw [(n32_len _ _)]; omega
    refine q_r 10 (s := Instr.loadAt 31 (.pointer (some ⟨Ec, k, none⟩))) (v := zn (za (n32 17 (nv b)) k 0)) Ew (fun w hS => Zi (by kernel_rfl) (hS.heap.cell (k := 2) rfl (zC Ex))) (Ed.pk [0, 2, 3]) fun _ Ey => q_s [11,12,13,14,15] [(11, g_i .u64 (ZW (x := za (n32 17 (nv a)) i 0) (y := za (n32 17 (nv b)) k 0) rfl rfl)), (12, g_i .u64 (zO (x := za u (i + k) 0) (y := (za (n32 17 (nv a)) i 0) * (za (n32 17 (nv b)) k 0)) rfl rfl)), (14, g_i .u64 (zO (x := (za u (i + k) 0) + ((za (n32 17 (nv a)) i 0) * (za (n32 17 (nv b)) k 0))) (y := c) rfl rfl))] 0 Ey (Ed.pk [0, 2, 3]) fun _ Ez => ?_
    exact h_e ⟨Ez.sb, Ed.pk [0, 1, 2, 3]⟩
   rintro _ _ ⟨EA, EB⟩
   refine ze <| wp_seq <| zk <| d_k [4,5,6,7,8,9,10,11,41,43] [(2, g_n (w_a i k)), (4, g_i .u64 (Zp (x := ((za u (i + k) 0) + ((za (n32 17 (nv a)) i 0) * (za (n32 17 (nv b)) k 0))) + c) (y := (4294967295 : UInt64)) rfl rfl))] 5 EA fun _ EC => f_o <| q_v (x := Instr.indexAt 87 (pt Ea) (ni (i + k))) (v := .pointer (some ⟨Ea, i + k, none⟩)) EC (zt (e := 31) (sz := 1) (m := 17) (j := i + k) (o := i + k) (by kernel_rfl) (by kernel_rfl) (by omega) (by omega) (by omega) _) fun _ ED => f_o ?_
   have EE : i + k < zc u := by rw [hlu]; omega
   refine m_t 0 (i + k) (zn ((((za u (i + k) 0) + ((za (n32 17 (nv a)) i 0) * (za (n32 17 (nv b)) k 0))) + c) &&& (4294967295 : UInt64))) _ ED EB rfl (zC EE) (Z4 _ _ _) rfl fun _ _ EF EG => f_e <| ze <| d_r [4,5,6,7,8,9,10,11] [(1, g_i .u64 (zI (x := ((za u (i + k) 0) + ((za (n32 17 (nv a)) i 0) * (za (n32 17 (nv b)) k 0))) + c) (n := 32) rfl (by decide)))] EF fun _ EH => zx <| ze <| d_r [4,5,6,7,8,9,10,11] [(1, g_n (w_a k 1))] EH fun _ EI => ze <| ⟨_, ⟨k + 1, (zp u (i + k) ((((za u (i + k) 0) + ((za (n32 17 (nv a)) i 0) * (za (n32 17 (nv b)) k 0))) + c) &&& (4294967295 : UInt64))), ((((za u (i + k) 0) + ((za (n32 17 (nv a)) i 0) * (za (n32 17 (nv b)) k 0))) + c) >>> zb 32), rfl, EI.sb, EG.pk [0, 1, 2, 3], by omega, by simp [hlu], hdu.set (low32 _), high32 _, times_in hlu (by omega) hdu (n32_dig _ _) (n32_dig _ _) hcu hv2 rfl, fun j hj => by rw [QH _ (by omega)]; exact Hg j hj⟩, ?_⟩
   omega
  refine wp_exit <| zD <| zD <| zP <| ze ?_
  have hk8 : k = 8 := by omega
  refine zk <| d_k [4,5,6,7,8,9,10,48,49] [(1, g_n (w_a i 8))] 3 Ej fun _ EJ => f_o <| q_v (x := Instr.indexAt 87 (pt Ea) (ni (i + 8))) (v := .pointer (some ⟨Ea, i + 8, none⟩)) EJ (zt (e := 31) (sz := 1) (m := 17) (j := i + 8) (o := i + 8) (by kernel_rfl) (by kernel_rfl) (by omega) (by omega) (by omega) _) fun _ EK => f_o ?_
  have EL : i + 8 < zc u := by rw [hlu]; omega
  refine m_t 0 (i + 8) (zn c) [.box Ea (zh (zp u (i + 8) c)) 87, .box Ee (zh (zf 17 0)) 87, .box Eb (zh (n32 17 (nv a))) 87, .box Ec (zh (n32 17 (nv b))) 87] EK Ei rfl (zC EL) (Z4 _ _ _) rfl fun _ _ EM EN => f_e <| zx <| ze <| d_r [4,5,6,7,8,9,10] [(1, g_n (w_a i 1))] EM fun _ EO => ze <| ⟨_, ⟨i + 1, (zp u (i + 8) c), rfl, EO.sb, EN.pk [0, 1, 2, 3], by omega, by simp [hlu], hdu.set hcu, times_out hlu (by omega) (Hg _ (by omega)) (dk_nv hb) (by rw [hk8] at hv2; exact hv2), fun j hj => by rw [QH _ (by omega)]; exact Hg j (by omega)⟩, ?_⟩
  omega
 refine wp_exit <| zD <| zD <| zP <| ze <| wp_seq <| zk <| f_o <| Zn 0 17 (zh t) Eh Eg rfl (zd hlt) fun _ EP => f_o <| zZ 1 17 (zh t) _ EP Eg rfl (zd hlt) (zd (zi)) (zw _) rfl fun _ _ EQ Ef => f_e <| ze <| wp_ret <| Zf (v := .agg (zg (zh t))) (t := 4) (T := 87) (ad := ⟨Ee, 0, none⟩) EQ (by kernel_rfl) (by kernel_rfl) (zF (t := 87) (k := 1) (off := 0) (m := 17) (xs := zh t) Ef rfl (zr (zd hlt)) (zd hlt) (by kernel_rfl) (by kernel_rfl)) ?_
 have hi8 : i = 8 := by omega
 have hte : t = n32 17 (nv a * nv b) := n32_of hlt hdt (by rw [hv, hi8, dk_nv ha])
 subst hte
 exact ⟨rfl, Ef.pk []⟩
def cF (f : Int) : List UInt64 := if f = 1 then [38, 0, 0, 0, 0, 0, 0, 0] else if f = 2 then [1, 0, 0, 4294967295, 4294967295, 4294967295, 4294967294, 0] else [60611247, 205927741, 1491624315, 1125713234, 0, 0, 4294967295, 0]
def mny (f : Int) : Nat := if f = 1 then 1 else 7
def eF (f : Int) : Nat := if f = 1 then 2 else 1
theorem cF_len (f : Int) : (cF f).length = 8 := by unfold cF; split; rfl; split <;> rfl
theorem mny_le (f : Int) : mny f ≤ 7 := by unfold mny; split <;> decide
theorem DG8 {l : List UInt64} (h : (l.all fun x => decide (x.toNat < 4294967296)) = true) : DG l := fun j => by
  rcases Qq j l.length with q | q
  · rw [zN, zR q]
    exact of_decide_eq_true (List.all_eq_true.1 h _ (List.getElem_mem q))
  · rw [zN, Qe q]; decide
theorem cF_dig {f : Int} (h3 : f = 1 ∨ f = 2 ∨ f = 3) : DG (cF f) := by rcases h3 with rfl | rfl | rfl <;> exact DG8 (by decide +kernel)
theorem cF_val {f : Int} (h3 : f = 1 ∨ f = 2 ∨ f = 3) : dk (cF f) 7 + eF f * mF f = 4294967296 ^ 8 := by rcases h3 with rfl | rfl | rfl <;> decide +kernel
theorem cF_over {f : Int} (h3 : f = 1 ∨ f = 2 ∨ f = 3) {k : Nat} (hk : mny f ≤ k) : za (cF f) k 0 = 0 := by
  by_cases h8 : k < 8
  · rcases h3 with rfl | rfl | rfl
    · match k, hk, h8 with
      | 1, _, _ | 2, _, _ | 3, _, _ | 4, _, _ | 5, _, _ | 6, _, _ | 7, _, _ => rfl
    · match k, hk, h8 with
      | 7, _, _ => rfl
    · match k, hk, h8 with
      | 7, _, _ => rfl
  · rw [zN, Qe (by rw [cF_len]; omega)]; rfl
theorem dk_over {f : Int} (h3 : f = 1 ∨ f = 2 ∨ f = 3) {k : Nat} (hk : mny f ≤ k) : dk (cF f) k = dk (cF f) 7 := by
  have key : ∀ j, dk (cF f) (mny f + j) = dk (cF f) (mny f) := fun j => by
    induction j with
    | zero => rfl
    | succ j ih => rw [← ZP, dk, ih, cF_over h3 (by omega)]; simp
  have h7 := mny_le f
  have e1 := key (k - mny f)
  have e2 := key (7 - mny f)
  rw [show mny f + (k - mny f) = k by omega] at e1
  rw [show mny f + (7 - mny f) = 7 by omega] at e2
  rw [e1, e2]
theorem dk_c_lt {f : Int} (h3 : f = 1 ∨ f = 2 ∨ f = 3) (k : Nat) : dk (cF f) k < 4294967296 ^ 8 := by
  by_cases hk : mny f ≤ k
  · rw [dk_over h3 hk]; exact Yd (dk_lt (cF_dig h3) 7) (by decide)
  · have := mny_le f
    exact Yd (dk_lt (cF_dig h3) k) (Q4 (by decide) (by omega))
theorem left_in {u c : List UInt64} {V p k : Nat} {d t g : UInt64} (hlu : u.length = 17) (hj : p + k < 17) (hv : dv 4294967296 u + g.toNat * 4294967296 ^ (p + k) = V + d.toNat * dk c k * 4294967296 ^ p)
    (ht : t.toNat = (za u (p + k) 0).toNat + d.toNat * (za c k 0).toNat + g.toNat) :
    dv 4294967296 (zp u (p + k) (t &&& 4294967295)) + (t >>> zb 32).toNat * 4294967296 ^ (p + (k + 1)) = V + d.toNat * dk c (k + 1) * 4294967296 ^ p := by
  rw [← ZP, set32 (by omega) hv ht, dk, QG, Zt, ZP]
  congr 2
  rw [Qn]
  ac_rfl
theorem left_idx {u c : List UInt64} {V p k : Nat} {d g : UInt64} (hp : p ≤ 8) (hV : V < 4294967296 ^ (p + 8)) (hd : d.toNat < 4294967296) (hC : dk c k < 4294967296 ^ 8) (hg : 0 < g.toNat)
    (hv : dv 4294967296 u + g.toNat * 4294967296 ^ (p + k) = V + d.toNat * dk c k * 4294967296 ^ p) : k ≤ 8 := by
  rcases Qq 8 k with h | h
  · exfalso
    have h1 : 4294967296 ^ (p + 9) ≤ 4294967296 ^ (p + k) := Q4 (by decide) (by omega)
    have h2 : 4294967296 ^ (p + k) ≤ g.toNat * 4294967296 ^ (p + k) := Nat.le_mul_of_pos_left _ hg
    have h3 : d.toNat * dk c k ≤ 4294967295 * 4294967296 ^ 8 := Q8 (by omega) (by omega)
    have h4 : d.toNat * dk c k * 4294967296 ^ p ≤ 4294967295 * 4294967296 ^ 8 * 4294967296 ^ p := Qi _ h3
    rw [Qn] at hV h1
    rw [z9 4294967296 8] at h1
    generalize 4294967296 ^ p = q at *
    have e8 : (4294967296 : Nat) ^ 8 = 115792089237316195423570985008687907853269984665640564039457584007913129639936 := by decide
    rw [e8] at hV h1 h4
    omega
  · exact h
theorem zero_above {w : List UInt64} (hd : DG w) {q : Nat} (h : dv 4294967296 w < 4294967296 ^ (q + 1)) : dv 4294967296 w = dk w q + (za w q 0).toNat * 4294967296 ^ q := by
  have e := dk_split w (q + 1)
  have h0 : dv 4294967296 (zo (q + 1) w) = 0 := by
    rcases Nat.eq_zero_or_pos (dv 4294967296 (zo (q + 1) w)) with z | z
    · exact z
    · have := Nat.le_mul_of_pos_right (4294967296 ^ (q + 1)) z
      omega
  rw [h0, Qc, Zy] at e
  exact e
theorem top_out {w : List UInt64} (hd : DG w) {q : Nat} (hq : q < w.length) (h : dv 4294967296 w < 4294967296 ^ (q + 1)) : dv 4294967296 (zp w q 0) = dk w q ∧ dv 4294967296 (zp w q 0) < 4294967296 ^ q ∧ dv 4294967296 w = dv 4294967296 (zp w q 0) + (za w q 0).toNat * 4294967296 ^ q := by
  have e := zero_above hd h
  have e2 := J5 4294967296 0 w q hq
  have l := dk_lt hd q
  rw [show (0 : UInt64).toNat = 0 from rfl, Qb] at e2
  omega
theorem left_out {f : Int} (h3 : f = 1 ∨ f = 2 ∨ f = 3) {u w : List UInt64} {q k n : Nat} {g : UInt64} (hq : 8 ≤ q) (hk : mny f ≤ k) (hg : g.toNat = 0) (hw : dv 4294967296 w = dv 4294967296 (zp w q 0) + (za w q 0).toNat * 4294967296 ^ q) (h0 : (za w q 0).toNat ≠ 0)
    (hm : dv 4294967296 w % mF f = n % mF f) (hv : dv 4294967296 u + g.toNat * 4294967296 ^ (q - 8 + k) = dv 4294967296 (zp w q 0) + (za w q 0).toNat * dk (cF f) k * 4294967296 ^ (q - 8)) :
    dv 4294967296 u % mF f = n % mF f ∧ dv 4294967296 u < dv 4294967296 w := by
  have hc := cF_val h3
  have hcl : dk (cF f) 7 < 4294967296 ^ 8 := dk_c_lt h3 7
  rw [hg, Qb, Zy, dk_over h3 hk] at hv
  have hq2 : 4294967296 ^ q = 4294967296 ^ 8 * 4294967296 ^ (q - 8) := by rw [← Qn, show 8 + (q - 8) = q by omega]
  rw [hq2, ← hc] at hw
  have ex : (za w q 0).toNat * ((dk (cF f) 7 + eF f * mF f) * 4294967296 ^ (q - 8)) = (za w q 0).toNat * dk (cF f) 7 * 4294967296 ^ (q - 8) + mF f * ((za w q 0).toNat * eF f * 4294967296 ^ (q - 8)) := by
    rw [Zt, QG]
    congr 1
    · rw [Zh]
    · ac_rfl
  rw [ex] at hw
  constructor
  · rw [← hm, hw, hv, ← ZP, Yc]
  · have hpos : 0 < mF f * ((za w q 0).toNat * eF f * 4294967296 ^ (q - 8)) := by
      refine JV ?_ (JV (JV (by omega) ?_) (XU (by decide)))
      · have := mF_pos (f := f) (by omega); omega
      · unfold eF; split <;> decide
    omega
theorem above1 (w : World) : Calls zB 92 #[.int .i64 1] w fun e w' => e = .returned (.tuple #[.agg (zg (zh (cF 1))), ni (mny 1)]) ∧ Ev w [] w' [] := by
 refine d_0 [(0, .int .i64 1)] 12 Tryz.func92 Tryz.ntmps92 (Heap.nil _) fun Ef Eg Eh => wp_seq <| zk <| f_o <| m_z 99 (zh (zf 8 0)) Eg Eh fun _ _ Ei Ej Ek => d_e [0,2,3] [] Ej fun _ El => ze <| wp_seq <| d_s [2,3,4] [] El fun _ Em => wp_block <| d_s [2,3,4,5] [] Em fun _ Ea => c_t Ea ?_
 refine wp_seq <| zk <| d_k [2,3,4,7] [] 1 Ea fun _ Ec => f_o <| zZ 0 8 (zh ([38, 0, 0, 0, 0, 0, 0, 0] : List UInt64)) _ Ec Ek rfl (zd (show zc ([38, 0, 0, 0, 0, 0, 0, 0] : List UInt64) = 8 from rfl)) (zd (zi)) (zw _) rfl fun _ _ Ed Eb => d_e [2,3,4] [] Ed fun _ Ee => ze <| wp_ret <| Qg <| Zx <| Z9 (v := .agg (zg (zh ([38, 0, 0, 0, 0, 0, 0, 0] : List UInt64)))) (x := .int .i64 1) (t := 2) (T := 99) (ad := ⟨Ei, 0, none⟩) (u := 3) Ee (by kernel_rfl) (by kernel_rfl) (zF (t := 99) (k := 0) (off := 0) (m := 8) (xs := zh ([38, 0, 0, 0, 0, 0, 0, 0] : List UInt64)) Eb rfl (zr (zd (show zc ([38, 0, 0, 0, 0, 0, 0, 0] : List UInt64) = 8 from rfl))) (zd (show zc ([38, 0, 0, 0, 0, 0, 0, 0] : List UInt64) = 8 from rfl)) (by kernel_rfl) (by kernel_rfl)) (by kernel_rfl) ?_
 exact ⟨by kernel_rfl, Eb.pk []⟩
theorem above2 (w : World) : Calls zB 92 #[.int .i64 2] w fun e w' => e = .returned (.tuple #[.agg (zg (zh (cF 2))), ni (mny 2)]) ∧ Ev w [] w' [] := by
 refine d_0 [(0, .int .i64 2)] 12 Tryz.func92 Tryz.ntmps92 (Heap.nil _) fun Eg Eh Ei => wp_seq <| zk <| f_o <| m_z 99 (zh (zf 8 0)) Eh Ei fun _ _ Ej Ek El => d_e [0,2,3] [] Ek fun _ Em => ze <| wp_seq <| d_s [2,3,4] [] Em fun _ En => wp_block <| d_s [2,3,4,5] [] En fun _ Ea => c_f Ea ?_
 refine d_s [2,3,4,8] [] Ea fun _ Eb => c_t Eb ?_
 refine wp_seq <| zk <| d_k [2,3,4,10] [] 1 Eb fun _ Ed => f_o <| zZ 0 8 (zh ([1, 0, 0, 4294967295, 4294967295, 4294967295, 4294967294, 0] : List UInt64)) _ Ed El rfl (zd (show zc ([1, 0, 0, 4294967295, 4294967295, 4294967295, 4294967294, 0] : List UInt64) = 8 from rfl)) (zd (zi)) (zw _) rfl fun _ _ Ee Ec => d_e [2,3,4] [] Ee fun _ Ef => ze <| wp_ret <| Qg <| Zx <| Z9 (v := .agg (zg (zh ([1, 0, 0, 4294967295, 4294967295, 4294967295, 4294967294, 0] : List UInt64)))) (x := .int .i64 7) (t := 2) (T := 99) (ad := ⟨Ej, 0, none⟩) (u := 3) Ef (by kernel_rfl) (by kernel_rfl) (zF (t := 99) (k := 0) (off := 0) (m := 8) (xs := zh ([1, 0, 0, 4294967295, 4294967295, 4294967295, 4294967294, 0] : List UInt64)) Ec rfl (zr (zd (show zc ([1, 0, 0, 4294967295, 4294967295, 4294967295, 4294967294, 0] : List UInt64) = 8 from rfl))) (zd (show zc ([1, 0, 0, 4294967295, 4294967295, 4294967295, 4294967294, 0] : List UInt64) = 8 from rfl)) (by kernel_rfl) (by kernel_rfl)) (by kernel_rfl) ?_
 exact ⟨by kernel_rfl, Ec.pk []⟩
theorem above3 (w : World) : Calls zB 92 #[.int .i64 3] w fun e w' => e = .returned (.tuple #[.agg (zg (zh (cF 3))), ni (mny 3)]) ∧ Ev w [] w' [] := by
 refine d_0 [(0, .int .i64 3)] 12 Tryz.func92 Tryz.ntmps92 (Heap.nil _) fun Eg Eh Ei => wp_seq <| zk <| f_o <| m_z 99 (zh (zf 8 0)) Eh Ei fun _ _ Ej Ek El => d_e [0,2,3] [] Ek fun _ Em => ze <| wp_seq <| d_s [2,3,4] [] Em fun _ En => wp_block <| d_s [2,3,4,5] [] En fun _ Ea => c_f Ea ?_
 refine d_s [2,3,4,8] [] Ea fun _ Eb => c_f Eb ?_
 refine wp_skip <| zx <| ze <| wp_seq <| zk <| d_k [2,3,4,11] [] 1 Eb fun _ Ed => f_o <| zZ 0 8 (zh ([60611247, 205927741, 1491624315, 1125713234, 0, 0, 4294967295, 0] : List UInt64)) _ Ed El rfl (zd (show zc ([60611247, 205927741, 1491624315, 1125713234, 0, 0, 4294967295, 0] : List UInt64) = 8 from rfl)) (zd (zi)) (zw _) rfl fun _ _ Ee Ec => d_e [2,3,4] [] Ee fun _ Ef => ze <| wp_ret <| Z9 (v := .agg (zg (zh ([60611247, 205927741, 1491624315, 1125713234, 0, 0, 4294967295, 0] : List UInt64)))) (x := .int .i64 7) (t := 2) (T := 99) (ad := ⟨Ej, 0, none⟩) (u := 3) Ef (by kernel_rfl) (by kernel_rfl) (zF (t := 99) (k := 0) (off := 0) (m := 8) (xs := zh ([60611247, 205927741, 1491624315, 1125713234, 0, 0, 4294967295, 0] : List UInt64)) Ec rfl (zr (zd (show zc ([60611247, 205927741, 1491624315, 1125713234, 0, 0, 4294967295, 0] : List UInt64) = 8 from rfl))) (zd (show zc ([60611247, 205927741, 1491624315, 1125713234, 0, 0, 4294967295, 0] : List UInt64) = 8 from rfl)) (by kernel_rfl) (by kernel_rfl)) (by kernel_rfl) ?_
 exact ⟨by kernel_rfl, Ec.pk []⟩
theorem above_go (w : World) (f : Int) (h3 : f = 1 ∨ f = 2 ∨ f = 3) : Calls zB 92 #[.int .i64 f] w fun e w' => e = .returned (.tuple #[.agg (zg (zh (cF f))), ni (mny f)]) ∧ Ev w [] w' [] := by
  rcases h3 with rfl | rfl | rfl
  · exact above1 w
  · exact above2 w
  · exact above3 w
theorem dv_lt32 {l : List UInt64} (h : DG l) : dv 4294967296 l < 4294967296 ^ l.length := by
  have e := dk_split l l.length
  rw [Jd, show dv 4294967296 [] = 0 from rfl, Qc, Zy] at e
  rw [e]
  exact dk_lt h _
theorem add32 {p c : UInt64} (hp : p.toNat < 4294967296) (hc : c.toNat < 4294967296) : (p + c).toNat = p.toNat + c.toNat := by
  rw [ZS]
  omega
theorem left3_go (w : World) (f : Int) (h3 : f = 1 ∨ f = 2 ∨ f = 3) (n : List UInt64) (hn : zc n = 17) (hdn : DG n) : Calls zB 64 #[.int .i64 f, .agg (zg (zh n))] w fun e w' => e = .returned (.agg (zg (zh (nd (dv 4294967296 n % mF f))))) ∧ Ev w [] w' [] := by
 refine d_0 [(0, .int .i64 f), (1, .agg (zg (zh n)))] 85 Tryz.func64 Tryz.ntmps64 (Heap.nil _) fun aj ak al => wp_seq <| zk <| f_o <| m_m 87 (zh n) ak al fun _ _ Ec am an => f_o <| m_z 33 (zh (zf 4 0)) am an fun _ _ Ee ao HD => f_e <| ze <| wp_seq <| zk <| d_k [0,3,4,14] [] 1 ao fun _ HE => f_o <| c_p HE HD (rmodulus_go _ f) fun _ _ HF HG => f_o <| m_z 33 (zh (zf 4 0)) HF HG fun _ _ Eb HH HI => ?_
 refine f_o <| zZ 2 4 (zh (nd (mF f))) _ HH HI rfl (zd (zl _ _)) (zd (zi)) (zw _) rfl fun _ _ HJ HK => f_e <| ze <| wp_seq <| wp_seq <| d_r [0,3,4,5,17] [(1, g_b (show (f == (4 : Int)) = false from (beq_eq_false_iff_ne.2 (by omega))))] HJ fun _ Ew => ze <| c_f Ew ?_
 refine wp_skip <| ze <| wp_seq <| zk <| d_k [0,3,4,5,22] [] 1 Ew fun _ HL => f_o <| c_p HL HK (above_go _ f h3) fun _ _ HM HN => d_k [0,3,4,5,24,25] [] 5 HM fun _ HO => f_o <| m_z 99 (zh (zf 8 0)) HO HN fun _ _ Ea HP HQ => f_o <| zZ 3 8 (zh (cF f)) [.box Ec (zh n) 87, .box Ee (zh (zf 4 0)) 33, .box Eb (zh (nd (mF f))) 33, .box Ea (zh (cF f)) 99] HP HQ rfl (zd (cF_len _)) (zd (zi)) (zw _) rfl fun _ _ HR HS => d_e [0,3,4,5,6,7] [] HR fun _ HT => ?_
 refine ze <| wp_seq <| wp_seq <| d_r [0,3,4,5,6,7,8] [] HT fun _ HU => ?_
 refine ze <| wp_block <| Z5 (fun HV ac wo => ∃ (q : Nat) (v : List UInt64), HV = (q + 1 : Nat) ∧ Env ac 85 [(0, .int .i64 f), (3, pt Ec), (4, pt Ee), (5, pt Eb), (6, pt Ea), (7, ni (mny f)), (8, ni q)] ∧ Ev w [] wo [.box Ec (zh v) 87, .box Ee (zh (zf 4 0)) 33, .box Eb (zh (nd (mF f))) 33, .box Ea (zh (cF f)) 99] ∧ (7 ≤ q ∧ q ≤ 16) ∧ (zc v = 17) ∧ (DG v) ∧ (dv 4294967296 v % mF f = dv 4294967296 n % mF f) ∧ (dv 4294967296 v < 4294967296 ^ (q + 1))) ⟨_, 16, n, rfl, HU.sb, HS.pk [0, 1, 2, 3], by omega, hn, hdn, rfl, by have := dv_lt32 hdn; rwa [hn] at this⟩ ?_
 rintro ap _ _ ⟨q, v, rfl, HW, Es, hq, hlv, hdv, hmv, hbv⟩
 refine wp_seq <| wp_seq <| d_r [0,3,4,5,6,7,8,27] [] HW fun _ Et => ?_
 refine ze <| c_d (((q : Nat) : Int) ≥ (8 : Int)) Et (fun HX => ?_) (fun HX => ?_)
 ·
  refine wp_skip <| ze <| wp_seq <| wp_block <| wp_block <| Z5 (fun HY ac wo => ∃ (w1 : List UInt64), HY = (dv 4294967296 w1 : Nat) ∧ Env ac 85 [(0, .int .i64 f), (3, pt Ec), (4, pt Ee), (5, pt Eb), (6, pt Ea), (7, ni (mny f)), (8, ni q)] ∧ Ev w [] wo [.box Ec (zh w1) 87, .box Ee (zh (zf 4 0)) 33, .box Eb (zh (nd (mF f))) 33, .box Ea (zh (cF f)) 99] ∧ (zc w1 = 17) ∧ (DG w1) ∧ (dv 4294967296 w1 % mF f = dv 4294967296 n % mF f) ∧ (dv 4294967296 w1 < 4294967296 ^ (q + 1))) ⟨_, v, rfl, Et.sb, Es.pk [0, 1, 2, 3], hlv, hdv, hmv, hbv⟩ ?_
  rintro aq _ _ ⟨w1, rfl, HZ, Eo, hlw, hdw, hmw, hbw⟩
  refine wp_seq <| wp_seq <| zk <| d_k [0,3,4,5,6,7,8,30] [] 1 HZ fun _ H0 => f_o <| q_v (x := Instr.indexAt 87 (pt Ec) (ni q)) (v := .pointer (some ⟨Ec, q, none⟩)) H0 (zt (e := 31) (sz := 1) (m := 17) (j := q) (o := q) (by kernel_rfl) (by kernel_rfl) (by omega) (by omega) (by omega) _) fun _ H1 => f_o ?_
  have H2 : q < zc w1 := by rw [hlw]; omega
  refine m_v 0 q (zn (za w1 q 0)) H1 Eo rfl (zC H2) fun _ H3 => d_e [0,3,4,5,6,7,8,33] [] H3 fun _ Eu => ?_
  refine ze <| c_n ((zA (za w1 q 0) : Nat) : Int) (0 : Int) Eu (fun H4 => ?_) (fun H4 => ?_)
  ·
   refine wp_skip <| ze <| wp_block <| wp_seq <| zk <| d_k [0,3,4,5,6,7,8,34] [] 1 Eu fun _ H5 => f_o <| q_v (x := Instr.indexAt 87 (pt Ec) (ni q)) (v := .pointer (some ⟨Ec, q, none⟩)) H5 (zt (e := 31) (sz := 1) (m := 17) (j := q) (o := q) (by kernel_rfl) (by kernel_rfl) (by omega) (by omega) (by omega) _) fun _ H6 => f_o ?_
   have H7 : q < zc w1 := by rw [hlw]; omega
   refine m_v 0 q (zn (za w1 q 0)) H6 Eo rfl (zC H7) fun _ H8 => d_e [0,3,4,5,6,7,8,9] [] H8 fun _ H9 => ze <| wp_seq <| zk <| d_k [0,3,4,5,6,7,8,9,37] [] 1 H9 fun _ aa => f_o <| q_v (x := Instr.indexAt 87 (pt Ec) (ni q)) (v := .pointer (some ⟨Ec, q, none⟩)) aa (zt (e := 31) (sz := 1) (m := 17) (j := q) (o := q) (by kernel_rfl) (by kernel_rfl) (by omega) (by omega) (by omega) _) fun _ ab => f_o ?_
   have ae : q < zc w1 := by rw [hlw]; omega
   refine m_t 0 q (.int .u64 0) _ ab Eo rfl (zC ae) (Z4 _ _ (0 : UInt64)) rfl fun _ _ af ag => f_e <| ze <| wp_seq <| d_r [0,3,4,5,6,7,8,9,10] [] af fun _ Ex => ze <| wp_seq <| d_r [0,3,4,5,6,7,8,9,10,11] [] Ex fun _ Ey => ze <| wp_block ?_
   have hto := top_out hdw (by omega) hbw
   refine Z5 (fun Ez ac wo => ∃ (k : Nat) (u : List UInt64) (g : UInt64), Ez = (10 - k : Nat) ∧ Env ac 85 [(0, .int .i64 f), (3, pt Ec), (4, pt Ee), (5, pt Eb), (6, pt Ea), (7, ni (mny f)), (8, ni q), (9, zn (za w1 q 0)), (10, zn g), (11, ni k)] ∧ Ev w [] wo [.box Ec (zh u) 87, .box Ee (zh (zf 4 0)) 33, .box Eb (zh (nd (mF f))) 33, .box Ea (zh (cF f)) 99] ∧ (k ≤ 9) ∧ (zc u = 17) ∧ (DG u) ∧ (g.toNat < 4294967296) ∧ (dv 4294967296 u + g.toNat * 4294967296 ^ (q - 8 + k) = dv 4294967296 (zp w1 q 0) + (za w1 q 0).toNat * dk (cF f) k * 4294967296 ^ (q - 8))) ⟨_, 0, zp w1 q 0, 0, rfl, Ey.sb, ag.pk [0, 1, 2, 3], by omega, by simp [hlw], hdw.set (by decide), by decide, by simp [dk]⟩ ?_
   rintro ah _ _ ⟨k, u, g, rfl, EA, Ed, hk, hlu, hdu, hgu, hvu⟩
   refine wp_seq <| wp_seq ?_
   have hC8 := dk_c_lt h3 k
   refine zk <| d_k [0,3,4,5,6,7,8,9,10,11,42] [] 4 EA fun _ Ep => ?_
   rcases Za (decide (((k : Nat) : Int) < ((mny f : Nat) : Int))) with Ef | Ef
   ·
    have EB := Ep.fx (t := 42) (congrArg Value.bool Ef)
    have hp115 : ((k : Nat) : Int) < ((mny f : Nat) : Int) := of_decide_eq_true Ef
    refine d_e [0,3,4,5,6,7,8,9,10,11,45] [] EB fun _ Eq => ze <| c_t Eq ?_
    refine wp_skip <| ze <| wp_seq <| wp_block <| wp_seq ?_
    have hk8 : k ≤ 8 := by by_cases hmk : mny f ≤ k <;> first | (have := mny_le f; omega) | exact left_idx (u := u) (by omega) (by rw [show q - 8 + 8 = q by omega]; exact hto.2.1) (hdw q) (dk_c_lt h3 k) (by omega) hvu
    have hqk : q - 8 + k < 17 := by omega
    have hm7 := mny_le f
    refine zk <| d_k [0,3,4,5,6,7,8,9,10,11,51] [(1, g_n (w_r (e := ((q : Nat) : Int) - (8 : Int)) (x := ((q - 8 : Nat) : Int)) (by omega))), (3, g_n (w_a (q - 8) k))] 4 Eq fun _ EC => f_o <| q_v (x := Instr.indexAt 87 (pt Ec) (ni ((q - 8) + k))) (v := .pointer (some ⟨Ec, (q - 8) + k, none⟩)) EC (zt (e := 31) (sz := 1) (m := 17) (j := (q - 8) + k) (o := (q - 8) + k) (by kernel_rfl) (by kernel_rfl) (by omega) (by omega) (by omega) _) fun _ ED => f_o ?_
    have EE : (q - 8) + k < zc u := by rw [hlu]; omega
    refine m_v 0 ((q - 8) + k) (zn (za u ((q - 8) + k) 0)) ED Ed rfl (zC EE) fun _ EF => d_e [0,3,4,5,6,7,8,9,10,11,12] [(7, g_i .u64 (zO (x := za u ((q - 8) + k) 0) (y := g) rfl rfl))] EF fun _ EG => ze <| wp_seq <| wp_seq <| d_r [0,3,4,5,6,7,8,9,10,11,12,58] [] EG fun _ Ej => ?_
    refine ze <| QX (F := fun ac wo => ∃ (t : UInt64), Env ac 85 [(0, .int .i64 f), (3, pt Ec), (4, pt Ee), (5, pt Eb), (6, pt Ea), (7, ni (mny f)), (8, ni q), (9, zn (za w1 q 0)), (10, zn g), (11, ni k), (12, zn t)] ∧ Ev w [] wo [.box Ec (zh u) 87, .box Ee (zh (zf 4 0)) 33, .box Eb (zh (nd (mF f))) 33, .box Ea (zh (cF f)) 99] ∧ (t.toNat = (za u (q - 8 + k) 0).toNat + (za w1 q 0).toNat * (za (cF f) k 0).toNat + g.toNat)) ?_ ?_
    ·
     refine c_d (((k : Nat) : Int) < ((mny f : Nat) : Int)) Ej (fun EH => ?_) (fun EH => ?_)
     ·
      refine zk <| d_k [0,3,4,5,6,7,8,9,10,11,12,59,60,61] [] 3 Ej fun _ EI => f_o <| q_v (x := Instr.indexAt 99 (pt Ea) (ni k)) (v := .pointer (some ⟨Ea, k, none⟩)) EI (zt (e := 31) (sz := 1) (m := 8) (j := k) (o := k) (by kernel_rfl) (by kernel_rfl) (by omega) (by omega) (by omega) _) fun _ EJ => f_o ?_
      have EK : k < zc (cF f) := by rw [(cF_len _)]; omega
      refine m_v 3 k (zn (za (cF f) k 0)) EJ Ed rfl (zC EK) fun _ EL => d_e [0,3,4,5,6,7,8,9,10,11,12] [(5, g_i .u64 (ZW (x := za w1 q 0) (y := za (cF f) k 0) rfl rfl)), (6, g_i .u64 (zO (x := (za u ((q - 8) + k) 0) + g) (y := (za w1 q 0) * (za (cF f) k 0)) rfl rfl))] EL fun _ EM => ?_
      exact ⟨rfl, ⟨(((za u ((q - 8) + k) 0) + g) + ((za w1 q 0) * (za (cF f) k 0))), EM.sb, Ed.pk [0, 1, 2, 3], by first | exact mac32' (hdu _) (hdw q) (cF_dig h3 k) hgu | (rw [cF_over h3 (by omega), show (0 : UInt64).toNat = 0 from rfl, Qc, Zy]; exact add32 (hdu _) hgu)⟩⟩
     refine wp_skip ?_
     exact ⟨rfl, ⟨((za u ((q - 8) + k) 0) + g), Ej.sb, Ed.pk [0, 1, 2, 3], by first | exact mac32' (hdu _) (hdw q) (cF_dig h3 k) hgu | (rw [cF_over h3 (by omega), show (0 : UInt64).toNat = 0 from rfl, Qc, Zy]; exact add32 (hdu _) hgu)⟩⟩
    rintro _ _ ⟨t, EN, EO, hte⟩
    refine ze <| wp_seq <| zk <| d_k [0,3,4,5,6,7,8,9,10,11,12,69,71] [(1, g_n (w_r (e := ((q : Nat) : Int) - (8 : Int)) (x := ((q - 8 : Nat) : Int)) (by omega))), (3, g_n (w_a (q - 8) k)), (5, g_i .u64 (Zp (x := t) (y := (4294967295 : UInt64)) rfl rfl))] 6 EN fun _ EP => f_o <| q_v (x := Instr.indexAt 87 (pt Ec) (ni ((q - 8) + k))) (v := .pointer (some ⟨Ec, (q - 8) + k, none⟩)) EP (zt (e := 31) (sz := 1) (m := 17) (j := (q - 8) + k) (o := (q - 8) + k) (by kernel_rfl) (by kernel_rfl) (by omega) (by omega) (by omega) _) fun _ EQ => f_o ?_
    have ER : (q - 8) + k < zc u := by rw [hlu]; omega
    refine m_t 0 ((q - 8) + k) (zn (t &&& (4294967295 : UInt64))) [.box Ec (zh (zp u ((q - 8) + k) (t &&& (4294967295 : UInt64)))) 87, .box Ee (zh (zf 4 0)) 33, .box Eb (zh (nd (mF f))) 33, .box Ea (zh (cF f)) 99] EQ EO rfl (zC ER) (Z4 _ _ _) rfl fun _ _ ES ET => f_e <| ze <| d_r [0,3,4,5,6,7,8,9,10,11,12] [(1, g_i .u64 (zI (x := t) (n := 32) rfl (by decide)))] ES fun _ EU => zx <| ze <| d_r [0,3,4,5,6,7,8,9,10,11,12] [(1, g_n (w_a k 1))] EU fun _ EV => ze <| ⟨_, ⟨k + 1, (zp u ((q - 8) + k) (t &&& (4294967295 : UInt64))), (t >>> zb 32), rfl, EV.sb, ET.pk [0, 1, 2, 3], by omega, by simp [hlu], hdu.set (low32 _), high32 _, left_in hlu (by omega) hvu hte⟩, ?_⟩
    omega
   have EW := Ep.fx (t := 42) (congrArg Value.bool Ef)
   have hp157 : ¬ (((k : Nat) : Int) < ((mny f : Nat) : Int)) := of_decide_eq_false Ef
   refine d_e [0,3,4,5,6,7,8,9,10,11,45] [] EW fun _ Ek => ?_
   refine ze <| c_d (((zA g : Nat) : Int) > (0 : Int)) Ek (fun EX => ?_) (fun EX => ?_)
   ·
    refine wp_skip <| ze <| wp_seq <| wp_block <| wp_seq ?_
    have hk8 : k ≤ 8 := by by_cases hmk : mny f ≤ k <;> first | (have := mny_le f; omega) | exact left_idx (u := u) (by omega) (by rw [show q - 8 + 8 = q by omega]; exact hto.2.1) (hdw q) (dk_c_lt h3 k) (by omega) hvu
    have hqk : q - 8 + k < 17 := by omega
    have hm7 := mny_le f
    refine zk <| d_k [0,3,4,5,6,7,8,9,10,11,51] [(1, g_n (w_r (e := ((q : Nat) : Int) - (8 : Int)) (x := ((q - 8 : Nat) : Int)) (by omega))), (3, g_n (w_a (q - 8) k))] 4 Ek fun _ EY => f_o <| q_v (x := Instr.indexAt 87 (pt Ec) (ni ((q - 8) + k))) (v := .pointer (some ⟨Ec, (q - 8) + k, none⟩)) EY (zt (e := 31) (sz := 1) (m := 17) (j := (q - 8) + k) (o := (q - 8) + k) (by kernel_rfl) (by kernel_rfl) (by omega) (by omega) (by omega) _) fun _ EZ => f_o ?_
    have E0 : (q - 8) + k < zc u := by rw [hlu]; omega
    refine m_v 0 ((q - 8) + k) (zn (za u ((q - 8) + k) 0)) EZ Ed rfl (zC E0) fun _ E1 => d_e [0,3,4,5,6,7,8,9,10,11,12] [(7, g_i .u64 (zO (x := za u ((q - 8) + k) 0) (y := g) rfl rfl))] E1 fun _ E2 => ze <| wp_seq <| wp_seq <| d_r [0,3,4,5,6,7,8,9,10,11,12,58] [] E2 fun _ El => ?_
    refine ze <| QX (F := fun ac wo => ∃ (t : UInt64), Env ac 85 [(0, .int .i64 f), (3, pt Ec), (4, pt Ee), (5, pt Eb), (6, pt Ea), (7, ni (mny f)), (8, ni q), (9, zn (za w1 q 0)), (10, zn g), (11, ni k), (12, zn t)] ∧ Ev w [] wo [.box Ec (zh u) 87, .box Ee (zh (zf 4 0)) 33, .box Eb (zh (nd (mF f))) 33, .box Ea (zh (cF f)) 99] ∧ (t.toNat = (za u (q - 8 + k) 0).toNat + (za w1 q 0).toNat * (za (cF f) k 0).toNat + g.toNat)) ?_ ?_
    ·
     refine c_d (((k : Nat) : Int) < ((mny f : Nat) : Int)) El (fun E3 => ?_) (fun E3 => ?_)
     ·
      refine zk <| d_k [0,3,4,5,6,7,8,9,10,11,12,59,60,61] [] 3 El fun _ E4 => f_o <| q_v (x := Instr.indexAt 99 (pt Ea) (ni k)) (v := .pointer (some ⟨Ea, k, none⟩)) E4 (zt (e := 31) (sz := 1) (m := 8) (j := k) (o := k) (by kernel_rfl) (by kernel_rfl) (by omega) (by omega) (by omega) _) fun _ E5 => f_o ?_
      have E6 : k < zc (cF f) := by rw [(cF_len _)]; omega
      refine m_v 3 k (zn (za (cF f) k 0)) E5 Ed rfl (zC E6) fun _ E7 => d_e [0,3,4,5,6,7,8,9,10,11,12] [(5, g_i .u64 (ZW (x := za w1 q 0) (y := za (cF f) k 0) rfl rfl)), (6, g_i .u64 (zO (x := (za u ((q - 8) + k) 0) + g) (y := (za w1 q 0) * (za (cF f) k 0)) rfl rfl))] E7 fun _ E8 => ?_
      exact ⟨rfl, ⟨(((za u ((q - 8) + k) 0) + g) + ((za w1 q 0) * (za (cF f) k 0))), E8.sb, Ed.pk [0, 1, 2, 3], by first | exact mac32' (hdu _) (hdw q) (cF_dig h3 k) hgu | (rw [cF_over h3 (by omega), show (0 : UInt64).toNat = 0 from rfl, Qc, Zy]; exact add32 (hdu _) hgu)⟩⟩
     refine wp_skip ?_
     exact ⟨rfl, ⟨((za u ((q - 8) + k) 0) + g), El.sb, Ed.pk [0, 1, 2, 3], by first | exact mac32' (hdu _) (hdw q) (cF_dig h3 k) hgu | (rw [cF_over h3 (by omega), show (0 : UInt64).toNat = 0 from rfl, Qc, Zy]; exact add32 (hdu _) hgu)⟩⟩
    rintro _ _ ⟨t, E9, Ha, hte⟩
    refine ze <| wp_seq <| zk <| d_k [0,3,4,5,6,7,8,9,10,11,12,69,71] [(1, g_n (w_r (e := ((q : Nat) : Int) - (8 : Int)) (x := ((q - 8 : Nat) : Int)) (by omega))), (3, g_n (w_a (q - 8) k)), (5, g_i .u64 (Zp (x := t) (y := (4294967295 : UInt64)) rfl rfl))] 6 E9 fun _ Hb => f_o <| q_v (x := Instr.indexAt 87 (pt Ec) (ni ((q - 8) + k))) (v := .pointer (some ⟨Ec, (q - 8) + k, none⟩)) Hb (zt (e := 31) (sz := 1) (m := 17) (j := (q - 8) + k) (o := (q - 8) + k) (by kernel_rfl) (by kernel_rfl) (by omega) (by omega) (by omega) _) fun _ Hc => f_o ?_
    have Hd : (q - 8) + k < zc u := by rw [hlu]; omega
    refine m_t 0 ((q - 8) + k) (zn (t &&& (4294967295 : UInt64))) _ Hc Ha rfl (zC Hd) (Z4 _ _ _) rfl fun _ _ He Hf => f_e <| ze <| d_r [0,3,4,5,6,7,8,9,10,11,12] [(1, g_i .u64 (zI (x := t) (n := 32) rfl (by decide)))] He fun _ Hg => zx <| ze <| d_r [0,3,4,5,6,7,8,9,10,11,12] [(1, g_n (w_a k 1))] Hg fun _ Hh => ze <| ⟨_, ⟨k + 1, (zp u ((q - 8) + k) (t &&& (4294967295 : UInt64))), (t >>> zb 32), rfl, Hh.sb, Hf.pk [0, 1, 2, 3], by omega, by simp [hlu], hdu.set (low32 _), high32 _, left_in hlu (by omega) hvu hte⟩, ?_⟩
    omega
   refine wp_exit <| zD <| zD <| zP <| zx <| ze ?_
   have hlo := left_out h3 (by omega) (by omega) (by omega) hto.2.2 (by omega) hmw hvu
   refine ⟨_, ⟨u, rfl, Ek.sb, Ed.pk [0, 1, 2, 3], hlu, hdu, hlo.1, Zu hlo.2 hbw⟩, ?_⟩
   exact hlo.2
  refine wp_exit <| zD <| zD <| zP <| zx <| ze ?_
  have hbq : dv 4294967296 w1 < 4294967296 ^ q := by have e := zero_above hdw hbw; have l := dk_lt hdw q; rw [show (za w1 q 0).toNat = 0 by omega] at e; omega
  refine d_r [0,3,4,5,6,7,8] [(1, g_n (w_r (e := ((q : Nat) : Int) - (1 : Int)) (x := ((q - 1 : Nat) : Int)) (by omega)))] Eu fun _ Hi => ze <| ⟨_, ⟨q - 1, w1, rfl, Hi.sb, Eo.pk [0, 1, 2, 3], by omega, hlw, hdw, hmw, by rw [show q - 1 + 1 = q by omega]; exact hbq⟩, ?_⟩
  omega
 refine wp_exit <| zD <| zD <| zP <| ze <| wp_seq <| zk <| f_o <| Zn 0 17 (zh v) Et Es rfl (zd hlv) fun _ Hj => f_o <| c_p Hj Es (number_go _ v hlv hdv) fun _ _ Hk Hl => f_o <| m_z 33 (zh (zf 4 0)) Hk Hl fun _ _ Ei Hm Hn => f_o <| zZ 4 4 (zh (nd (dv 4294967296 v))) [.box Ec (zh v) 87, .box Ee (zh (zf 4 0)) 33, .box Eb (zh (nd (mF f))) 33, .box Ea (zh (cF f)) 99, .box Ei (zh (nd (dv 4294967296 v))) 33] Hm Hn rfl (zd (zl _ _)) (zd (zi)) (zw _) rfl fun _ _ Ho Hp => f_e <| ze <| wp_seq <| wp_block ?_
 have hq7 : q = 7 := by omega
 rw [hq7, d8w] at hbv
 refine Z5 (fun Hq ac wo => ∃ (x : List UInt64), Hq = (nv x : Nat) ∧ Env ac 85 [(0, .int .i64 f), (3, pt Ec), (4, pt Ee), (5, pt Eb), (6, pt Ea), (7, ni (mny f)), (8, ni q), (13, pt Ei)] ∧ Ev w [] wo [.box Ei (zh x) 33, .box Ec (zh v) 87, .box Ee (zh (zf 4 0)) 33, .box Eb (zh (nd (mF f))) 33, .box Ea (zh (cF f)) 99] ∧ (zc x = 4) ∧ (nv x % mF f = dv 4294967296 n % mF f)) ⟨_, (nd (dv 4294967296 v)), rfl, Ho.sb, Hp.pk [4, 0, 1, 2, 3], zl _ _, by rw [nv_nd hbv]; exact hmv⟩ ?_
 rintro ai _ _ ⟨x, rfl, Hr, Em, hx, hxm⟩
 refine wp_seq <| wp_seq <| zk <| f_o <| Zn 0 4 (zh x) Hr Em rfl (zd hx) fun _ Hs => f_o <| Zn 3 4 (zh (nd (mF f))) Hs Em rfl (zd (zl _ _)) fun _ Ht => f_o <| c_p Ht Em (rless_go _ x (nd (mF f)) hx (zl _ _)) fun _ _ Hu Eg => d_e [0,3,4,5,6,7,8,13,80] [] Hu fun _ En => ?_
 refine ze <| cond_at En (t := !(decide (nv x < nv (nd (mF f))))) (by kernel_rfl) (fun Eh => ?_) (fun Eh => ?_)
 ·
  replace Eh : ¬ (nv x < nv (nd (mF f))) := by simpa using Eh
  refine wp_skip <| ze <| wp_block <| zk <| f_o <| Zn 0 4 (zh x) En Eg rfl (zd hx) fun _ Hv => f_o <| Zn 3 4 (zh (nd (mF f))) Hv Eg rfl (zd (zl _ _)) fun _ Hw => f_o <| c_p Hw Eg (rminus_go _ x (nd (mF f)) hx (zl _ _)) fun _ _ Hx Hy => f_o <| zZ 0 4 (zh (nd (nv x + zY - nv (nd (mF f))))) _ Hx Hy rfl (zd (zl _ _)) (zd hx) (zw _) rfl fun _ _ Hz HA => f_e <| zx <| ze <| ⟨_, ⟨(nd (nv x + zY - nv (nd (mF f)))), rfl, Hz.sb, HA.pk [0, 1, 2, 3, 4], zl _ _, by rw [sub_nd hx (by omega), ← hxm]; exact (by rw [nv_mF]; exact (Yv (by rw [nv_mF] at *; omega)).symm)⟩, ?_⟩
  rw [sub_nd hx (by omega)]; have := mF_pos (f := f) (by omega); rw [nv_mF] at *; omega
 replace Eh : nv x < nv (nd (mF f)) := by simpa using Eh
 refine wp_exit <| zD <| zD <| zP <| ze <| wp_seq <| zk <| f_o <| Zn 0 4 (zh x) En Eg rfl (zd hx) fun _ HB => f_o <| zZ 2 4 (zh x) [.box Ei (zh x) 33, .box Ec (zh v) 87, .box Ee (zh x) 33, .box Eb (zh (nd (mF f))) 33, .box Ea (zh (cF f)) 99] HB Eg rfl (zd hx) (zd (zi)) (zw _) rfl fun _ _ HC Er => f_e <| ze <| wp_ret <| Zf (v := .agg (zg (zh x))) (t := 4) (T := 33) (ad := ⟨Ee, 0, none⟩) HC (by kernel_rfl) (by kernel_rfl) (zF (t := 33) (k := 2) (off := 0) (m := 4) (xs := zh x) Er rfl (zr (zd hx)) (zd hx) (by kernel_rfl) (by kernel_rfl)) ?_
 have hxe : x = nd (dv 4294967296 n % mF f) := nd_of hx (by rw [← hxm]; exact (zL (by rw [nv_mF] at *; omega)).symm)
 subst hxe
 exact ⟨rfl, Er.pk []⟩
def lv : List UInt8 → Nat
  | [] => 0
  | x :: r => x.toNat + 256 * lv r
theorem lv_lt : ∀ l, lv l < 256 ^ l.length
  | [] => by decide
  | x :: r => by
    have h1 := lv_lt r
    have h2 : x.toNat < 256 := x.toNat_lt
    rw [lv, z3, z9]
    generalize 256 ^ r.length = q at *
    omega
theorem lv_take_succ : ∀ (l : List UInt8) (i : Nat), i < l.length → lv (zm (i + 1) l) = lv (zm i l) + (za l i 0).toNat * 256 ^ i
  | x :: r, 0, _ => by simp [lv]
  | x :: r, i + 1, h => by
    have e := lv_take_succ r i (by simpa using h)
    rw [XY, XY, lv, lv, e, QT, z9, QG, ZP]
    congr 2
    ac_rfl
def lb : Nat → Nat → List UInt8
  | 0, _ => []
  | k + 1, n => zQ n :: lb k (n / 256)
theorem lb_len : ∀ (k n : Nat), (lb k n).length = k
  | 0, _ => rfl
  | k + 1, n => by rw [lb, z3, lb_len k]
theorem ofNat8_val (n : Nat) : (zQ n).toNat = n % 256 := by
  show (BitVec.ofNat 8 n).toNat = n % 256
  rw [BitVec.toNat_ofNat]
theorem lb_val : ∀ (k n : Nat), lv (lb k n) = n % 256 ^ k
  | 0, n => by rw [Z6, J0]; rfl
  | k + 1, n => by rw [lb, lv, lb_val k, ofNat8_val, z9, z5 (256 ^ k), Kq]
theorem lb_snoc : ∀ (k n : Nat), lb (k + 1) n = lb k n ++ [zQ (n / 256 ^ k)]
  | 0, n => by simp [lb]
  | k + 1, n => by rw [lb, lb_snoc k (n / 256), lb, List.cons_append, Zv, z9, z5 256]
theorem dv_dig : ∀ (l : List UInt64) (j : Nat), (za l j 0).toNat = dv 18446744073709551616 l / 18446744073709551616 ^ j % 18446744073709551616
  | [], j => by simp [dv]
  | x :: r, 0 => by have := Qm x; rw [Jj, Jb, Z6, YG]; omega
  | x :: r, j + 1 => by
    have := Qm x
    rw [QT, dv_dig r j, Jb, z9, z5 (_ ^ j), ← Zv]
    congr 2
    omega
theorem p64 : 18446744073709551616 = 256 ^ 8 := by decide
theorem or_at {a : List UInt64} (ha : a.length = 4) {i : Nat} (hi : i < 32) (h : nv a < 256 ^ i) (x : UInt8) : nv (zp a (i / 8) (za a (i / 8) 0 ||| (Ze x <<< zb (8 * (i % 8))))) = nv a + x.toNat * 256 ^ i := by
  have hx : x.toNat < 256 := x.toNat_lt
  have hd := dv_dig a (i / 8)
  have hp : 256 ^ i = 256 ^ (i % 8) * 18446744073709551616 ^ (i / 8) := by rw [p64, ← QM, ← Qn]; congr 1; omega
  have hq : (za a (i / 8) 0).toNat < 256 ^ (i % 8) := by
    rw [hd]
    refine QZ (Nat.mod_le _ _) ((Nat.div_lt_iff_lt_mul (XU (by decide))).2 ?_)
    rw [← hp]; exact h
  have hr : 256 ^ (i % 8) = 2 ^ (8 * (i % 8)) := by rw [show (256 : Nat) = 2 ^ 8 from rfl, ← QM]
  have h64 : x.toNat * 2 ^ (8 * (i % 8)) < 18446744073709551616 := by
    have e1 : 2 ^ (8 * (i % 8)) ≤ 2 ^ 56 := Q4 (by decide) (by omega)
    have e2 : x.toNat * 2 ^ (8 * (i % 8)) ≤ 255 * 2 ^ 56 := Q8 (by omega) e1
    omega
  have e : (za a (i / 8) 0 ||| (Ze x <<< zb (8 * (i % 8)))).toNat = (za a (i / 8) 0).toNat + x.toNat * 256 ^ (i % 8) := by
    have hs : (zb (8 * (i % 8))).toNat % 64 = 8 * (i % 8) := by rw [Jc]; omega
    rw [Yq, Qy, hs, JX, ZA, zL h64, J2, ← ZA, ← Qa (by rw [← hr]; exact hq), ZA, hr]
    omega
  have hs := J5 18446744073709551616 (za a (i / 8) 0 ||| (Ze x <<< zb (8 * (i % 8)))) a (i / 8) (by omega)
  rw [e, Zt, Zh, ← hp] at hs
  show dv _ _ = dv _ _ + _
  omega
theorem take_set_succ {α : Type} {l : List α} {i : Nat} {x : α} (h : i < l.length) : zm (i + 1) (zp l i x) = zm i l ++ [x] := by
  rw [List.take_add_one, List.take_set_of_le (ZX i), QR h]
  rfl
theorem byte_at {a : List UInt64} (ha : a.length = 4) {i : Nat} (hi : i < 32) : zj (za a (i / 8) 0 >>> zb (8 * (i % 8))) = zQ (nv a / 256 ^ i) := by
  apply UInt8.toNat_inj.1
  have hs : (zb (8 * (i % 8))).toNat % 64 = 8 * (i % 8) := by rw [Jc]; omega
  have hp : 256 ^ i = 18446744073709551616 ^ (i / 8) * 256 ^ (i % 8) := by rw [p64, ← QM, ← Qn]; congr 1; omega
  rw [UInt64.toNat_toUInt8, Q3, hs, ofNat8_val, dv_dig, Qx, hp, ← Zv]
  show _ = dv _ _ / _ / _ % _
  generalize dv 18446744073709551616 a / 18446744073709551616 ^ (i / 8) = d
  have hr : 2 ^ (8 * (i % 8)) = 256 ^ (i % 8) := by rw [show (256 : Nat) = 2 ^ 8 from rfl, ← QM]
  have hB : 18446744073709551616 = 256 ^ (i % 8) * 256 ^ (8 - i % 8) := by rw [p64, ← Qn]; congr 1; omega
  rw [hr]
  conv => lhs; rw [hB]
  rw [Y7, Ka]
  exact ⟨256 ^ (8 - i % 8 - 1), by rw [← Nat.pow_succ']; congr 1; omega⟩
theorem fromle_go (w : World) (b : List UInt8) (hb : zc b = 32) : Calls zB 30 #[.agg (zg (bys b))] w fun e w' => e = .returned (.agg (zg (zh (nd (lv b))))) ∧ Ev w [] w' [] := by
 refine d_0 [(0, .agg (zg (bys b)))] 24 Tryz.func30 Tryz.ntmps30 (Heap.nil _) fun EK EL EM => wp_seq <| zk <| f_o <| m_m 22 (bys b) EL EM fun _ _ Ec EN EO => f_o <| m_z 33 (zh (zf 4 0)) EN EO fun _ _ Eg EP EC => f_e <| ze <| wp_seq <| zk <| f_o <| m_z 33 (zh (zf 4 0)) EP EC fun _ _ Ea ED EE => f_e <| ze <| wp_seq <| d_s [1,2,3,5] [] ED fun _ EF => ?_
 refine wp_block <| Z5 (fun EG ac wo => ∃ (i : Nat) (x : List UInt64), EG = (33 - i : Nat) ∧ Env ac 24 [(1, pt Ec), (2, pt Eg), (3, pt Ea), (5, ni i)] ∧ Ev w [] wo [.box Ea (zh x) 33, .box Ec (bys b) 22, .box Eg (zh (zf 4 0)) 33] ∧ (i ≤ 32) ∧ (zc x = 4) ∧ (nv x = lv (zm i b))) ⟨_, 0, zf 4 0, rfl, EF.sb, EE.pk [2, 0, 1], by omega, zi, rfl⟩ ?_
 rintro EQ _ _ ⟨i, x, rfl, EH, Ed, hi, hx, hxv⟩
 refine d_s [1,2,3,5,6] [] EH fun _ Ef => ?_
 refine wp_seq <| c_d (((i : Nat) : Int) < (32 : Int)) Ef (fun EI => ?_) (fun EI => ?_)
 ·
  refine wp_skip <| ze <| wp_seq <| wp_block <| d_s [1,2,3,4,5] [] Ef fun _ EJ => ?_
  refine r_c (fun ac wo => Env ac 24 [(1, pt Ec), (2, pt Eg), (3, pt Ea), (5, ni i)] ∧ Ev w [] wo [.box Ea (zh (zp x (i / 8) ((za x (i / 8) 0) ||| ((Ze (za b i 0)) <<< zb (8 * (i % 8)))))) 33, .box Ec (bys b) 22, .box Eg (zh (zf 4 0)) 33]) ?_ ?_
  ·
   refine h_s (fun wv => Ev w [] wv [.box Ea (zh x) 33, .box Ec (bys b) 22]) [14] 15 ?_
   have Eb := Ed.trans (zS Ed.heap)
   refine q_s [0,1] [(1, g_i .i64 (show IntKind.wrap .i64 (Jl ((i : Nat) : Int) (8 : Int)) = ((i / 8 : Nat) : Int) from QN (a := ((i : Nat) : Int)) (n := i) (m := 8) rfl (by omega)))] 13 EJ (Eb.pk [0, 1]) fun _ Eh => q_f 2 (s := Instr.indexAt 33 (pt Ea) (ni (i / 8))) (v := .pointer (some ⟨Ea, i / 8, none⟩)) Eh (fun _ => zt (e := 31) (sz := 1) (m := 4) (j := i / 8) (o := i / 8) (by kernel_rfl) (by kernel_rfl) (by omega) (by omega) (by omega) _) (fun _ => Eb.pk [0, 1]) fun _ Ei => ?_
   have Ej : i / 8 < zc x := by rw [hx]; omega
   refine q_r 3 (s := Instr.loadAt 31 (.pointer (some ⟨Ea, i / 8, none⟩))) (v := zn (za x (i / 8) 0)) Ei (fun w hS => Zi (by kernel_rfl) (hS.heap.cell (k := 0) rfl (zC Ej))) (Eb.pk [0, 1]) fun _ Ek => q_s [4] [] 10 Ek (Eb.pk [0, 1]) fun _ El => q_f 5 (s := Instr.indexAt 22 (pt Ec) (ni i)) (v := .pointer (some ⟨Ec, i, none⟩)) El (fun _ => zt (e := 5) (sz := 1) (m := 32) (j := i) (o := i) (by kernel_rfl) (by kernel_rfl) (by omega) (by omega) (by omega) _) (fun _ => Eb.pk [0, 1]) fun _ Em => ?_
   have En : i < zc b := by rw [hb]; omega
   refine q_r 6 (s := Instr.loadAt 5 (.pointer (some ⟨Ec, i, none⟩))) (v := bv (za b i 0)) Em (fun w hS => Zi (by kernel_rfl) (hS.heap.cell (k := 1) rfl (Qr En))) (Eb.pk [0, 1]) fun _ Eo => q_s [7,8,9,10] [(7, g_i .u64 (Je (x := za b i 0) rfl)), (9, g_i .i64 (show Jk ((i : Nat) : Int) (8 : Int) = ((i % 8 : Nat) : Int) from Qz (a := ((i : Nat) : Int)) (n := i) (m := 8) rfl (by omega))), (10, g_n (w_m 8 (i % 8)))] 4 Eo (Eb.pk [0, 1]) fun _ Ep => q_f 11 Ep (fun _ => Jv (Ze (za b i 0)) .i64 (8 * (i % 8)) (by omega) _) (fun _ => Eb.pk [0, 1]) fun _ Eq => q_s [12] [(12, g_i .u64 (ZL (x := za x (i / 8) 0) (y := (Ze (za b i 0)) <<< zb (8 * (i % 8))) rfl rfl))] 2 Eq (Eb.pk [0, 1]) fun _ Er => q_f 13 (s := Instr.indexAt 33 (pt Ea) (ni (i / 8))) (v := .pointer (some ⟨Ea, i / 8, none⟩)) Er (fun _ => zt (e := 31) (sz := 1) (m := 4) (j := i / 8) (o := i / 8) (by kernel_rfl) (by kernel_rfl) (by omega) (by omega) (by omega) _) (fun _ => Eb.pk [0, 1]) fun _ Es => q_t 14 ?_
   have Et : i / 8 < zc x := by rw [hx]; omega
   refine m_t 0 (i / 8) (zn ((za x (i / 8) 0) ||| ((Ze (za b i 0)) <<< zb (8 * (i % 8))))) _ Es Eb rfl (zC Et) (Z4 _ _ _) rfl fun _ _ Eu Ew => ⟨q_y, ?_⟩
   exact h_e ⟨Eu.sb, Ew.pk [0, 1, 2]⟩
  rintro _ _ ⟨Ex, Ey⟩
  refine zx <| ze <| d_r [1,2,3,5] [(0, g_n (w_a i 1))] Ex fun _ Ez => ze <| ⟨_, ⟨i + 1, (zp x (i / 8) ((za x (i / 8) 0) ||| ((Ze (za b i 0)) <<< zb (8 * (i % 8))))), rfl, Ez.sb, Ey.pk [0, 1, 2], by omega, (List.length_set.trans hx), (or_at hx (by omega) (by rw [hxv]; exact Yd (lv_lt _) (Q4 (by decide) (by rw [zs]; omega))) _).trans (by rw [hxv, ← lv_take_succ _ _ (by omega)])⟩, ?_⟩
  omega
 refine wp_exit <| zD <| zD <| zP <| ze <| wp_seq <| zk <| f_o <| Zn 0 4 (zh x) Ef Ed rfl (zd hx) fun _ EA => f_o <| zZ 2 4 (zh x) [.box Ea (zh x) 33, .box Ec (bys b) 22, .box Eg (zh x) 33] EA Ed rfl (zd hx) (zd (zi)) (zw _) rfl fun _ _ EB Ee => f_e <| ze <| wp_ret <| Zf (v := .agg (zg (zh x))) (t := 2) (T := 33) (ad := ⟨Eg, 0, none⟩) EB (by kernel_rfl) (by kernel_rfl) (zF (t := 33) (k := 2) (off := 0) (m := 4) (xs := zh x) Ee rfl (zr (zd hx)) (zd hx) (by kernel_rfl) (by kernel_rfl)) ?_
 have hi32 : i = 32 := by omega
 have hxe : x = nd (lv b) := nd_of hx (by rw [hxv, hi32, zJ (by omega)])
 subst hxe
 exact ⟨rfl, Ee.pk []⟩
theorem tole_go (w : World) (a : List UInt64) (ha : zc a = 4) : Calls zB 22 #[.agg (zg (zh a))] w fun e w' => e = .returned (.agg (zg (bys (lb 32 (nv a))))) ∧ Ev w [] w' [] := by
 refine d_0 [(0, .agg (zg (zh a)))] 21 Tryz.func22 Tryz.ntmps22 (Heap.nil _) fun ED EE EF => wp_seq <| zk <| f_o <| m_m 33 (zh a) EE EF fun _ _ Ed EG EH => f_o <| m_z 22 (bys (zf 32 0)) EG EH fun _ _ Ef EI Eg => f_e <| ze <| wp_seq <| zk <| f_o <| m_z 22 (bys (zf 32 0)) EI Eg fun _ _ Ea Eh Ei => f_e <| ze <| wp_seq <| d_s [1,2,3,5] [] Eh fun _ Ej => ?_
 refine wp_block <| Z5 (fun Ek ac wo => ∃ (i : Nat) (x : List UInt8), Ek = (33 - i : Nat) ∧ Env ac 21 [(1, pt Ed), (2, pt Ef), (3, pt Ea), (5, ni i)] ∧ Ev w [] wo [.box Ea (bys x) 22, .box Ed (zh a) 33, .box Ef (bys (zf 32 0)) 22] ∧ (i ≤ 32) ∧ (zc x = 32) ∧ (zm i x = lb i (nv a))) ⟨_, 0, zf 32 0, rfl, Ej.sb, Ei.pk [2, 0, 1], by omega, zi, rfl⟩ ?_
 rintro EJ _ _ ⟨i, x, rfl, El, Eb, hi, hx, hxv⟩
 refine d_s [1,2,3,5,6] [] El fun _ Ec => ?_
 refine wp_seq <| c_d (((i : Nat) : Int) < (32 : Int)) Ec (fun Em => ?_) (fun Em => ?_)
 ·
  refine wp_skip <| ze <| wp_seq <| wp_block <| d_s [1,2,3,4,5] [] Ec fun _ En => zk <| d_k [1,2,3,4,5,8,10] [(2, g_i .i64 (show IntKind.wrap .i64 (Jl ((i : Nat) : Int) (8 : Int)) = ((i / 8 : Nat) : Int) from QN (a := ((i : Nat) : Int)) (n := i) (m := 8) rfl (by omega)))] 3 En fun _ Eo => f_o <| q_v (x := Instr.indexAt 33 (pt Ed) (ni (i / 8))) (v := .pointer (some ⟨Ed, i / 8, none⟩)) Eo (zt (e := 31) (sz := 1) (m := 4) (j := i / 8) (o := i / 8) (by kernel_rfl) (by kernel_rfl) (by omega) (by omega) (by omega) _) fun _ Ep => f_o ?_
  have Eq : i / 8 < zc a := by rw [ha]; omega
  refine m_v 1 (i / 8) (zn (za a (i / 8) 0)) Ep Eb rfl (zC Eq) fun _ Er => d_k [1,2,3,5,8,12,15] [(6, g_i .i64 (show Jk ((i : Nat) : Int) (8 : Int) = ((i % 8 : Nat) : Int) from Qz (a := ((i : Nat) : Int)) (n := i) (m := 8) rfl (by omega))), (7, g_n (w_m 8 (i % 8)))] 8 Er fun _ Es => f_o <| q_v Es (Q0 (za a (i / 8) 0) .i64 (8 * (i % 8)) (by omega) _) fun _ Et => d_k [1,2,3,5,8,17] [(9, g_i .u8 (Go.Dbr.u64_to_u8 (x := (za a (i / 8) 0) >>> zb (8 * (i % 8))) rfl))] 10 Et fun _ Eu => f_o <| q_v (x := Instr.indexAt 22 (pt Ea) (ni i)) (v := .pointer (some ⟨Ea, i, none⟩)) Eu (zt (e := 5) (sz := 1) (m := 32) (j := i) (o := i) (by kernel_rfl) (by kernel_rfl) (by omega) (by omega) (by omega) _) fun _ Ew => f_o ?_
  have Ex : i < zc x := by rw [hx]; omega
  refine m_t 0 i (bv (zj ((za a (i / 8) 0) >>> zb (8 * (i % 8))))) _ Ew Eb rfl (Qr Ex) (bys_set _ _ _) rfl fun _ _ Ey Ez => f_e <| zx <| ze <| d_r [1,2,3,5] [(0, g_n (w_a i 1))] Ey fun _ EA => ze <| ⟨_, ⟨i + 1, (zp x i (zj ((za a (i / 8) 0) >>> zb (8 * (i % 8))))), rfl, EA.sb, Ez.pk [0, 1, 2], by omega, (List.length_set.trans hx), by rw [take_set_succ (by omega), hxv, byte_at ha (by omega), lb_snoc]⟩, ?_⟩
  omega
 refine wp_exit <| zD <| zD <| zP <| ze <| wp_seq <| zk <| f_o <| Zn 0 32 (bys x) Ec Eb rfl (z7 hx) fun _ EB => f_o <| zZ 2 32 (bys x) [.box Ea (bys x) 22, .box Ed (zh a) 33, .box Ef (bys x) 22] EB Eb rfl (z7 hx) (z7 (zi)) (bys_one _) rfl fun _ _ EC Ee => f_e <| ze <| wp_ret <| Zf (v := .agg (zg (bys x))) (t := 2) (T := 22) (ad := ⟨Ef, 0, none⟩) EC (by kernel_rfl) (by kernel_rfl) (zF (t := 22) (k := 2) (off := 0) (m := 32) (xs := bys x) Ee rfl (zr (z7 hx)) (z7 hx) (by kernel_rfl) (by kernel_rfl)) ?_
 have hi32 : i = 32 := by omega
 have hxe : x = lb 32 (nv a) := by rw [hi32, zJ (by omega)] at hxv; exact hxv
 subst hxe
 exact ⟨rfl, Ee.pk []⟩
theorem rfromle_go (w : World) (b : List UInt8) (hb : zc b = 32) : Calls zB 35 #[.agg (zg (bys b))] w fun e w' => e = .returned (.agg (zg (zh (nd (lv b))))) ∧ Ev w [] w' [] := by
 refine d_0 [(0, .agg (zg (bys b)))] 26 Tryz.func35 Tryz.ntmps35 (Heap.nil _) fun EJ EK EL => wp_seq <| zk <| f_o <| m_m 22 (bys b) EK EL fun _ _ Ec EM EN => f_o <| m_z 33 (zh (zf 4 0)) EM EN fun _ _ Eg EO EC => f_e <| ze <| wp_seq <| zk <| f_o <| m_z 33 (zh (zf 4 0)) EO EC fun _ _ Ea ED EE => f_e <| ze <| wp_seq <| d_s [1,2,3,4] [] ED fun _ EF => ?_
 refine wp_block <| Z5 (fun EG ac wo => ∃ (i : Nat) (x : List UInt64), EG = (33 - i : Nat) ∧ Env ac 26 [(1, pt Ec), (2, pt Eg), (3, pt Ea), (4, ni i)] ∧ Ev w [] wo [.box Ea (zh x) 33, .box Ec (bys b) 22, .box Eg (zh (zf 4 0)) 33] ∧ (i ≤ 32) ∧ (zc x = 4) ∧ (nv x = lv (zm i b))) ⟨_, 0, zf 4 0, rfl, EF.sb, EE.pk [2, 0, 1], by omega, zi, rfl⟩ ?_
 rintro EP _ _ ⟨i, x, rfl, EH, Ed, hi, hx, hxv⟩
 refine wp_seq <| d_s [1,2,3,4,6] [] EH fun _ Ef => ?_
 refine c_d (((i : Nat) : Int) < (32 : Int)) Ef (fun EI => ?_) (fun EI => ?_)
 ·
  refine wp_skip <| ze <| wp_seq <| wp_block <| r_c (fun ac wo => Env ac 26 [(1, pt Ec), (2, pt Eg), (3, pt Ea), (4, ni i)] ∧ Ev w [] wo [.box Ea (zh (zp x (i / 8) ((za x (i / 8) 0) ||| ((Ze (za b i 0)) <<< zb (8 * (i % 8)))))) 33, .box Ec (bys b) 22, .box Eg (zh (zf 4 0)) 33]) ?_ ?_
  ·
   refine h_s (fun wv => Ev w [] wv [.box Ea (zh x) 33, .box Ec (bys b) 22]) [16] 17 ?_
   have Eb := Ed.trans (zS Ed.heap)
   refine q_s [0,1,2,3] [(1, g_i .i64 (show IntKind.wrap .i64 (Jl ((i : Nat) : Int) (8 : Int)) = ((i / 8 : Nat) : Int) from QN (a := ((i : Nat) : Int)) (n := i) (m := 8) rfl (by omega))), (3, g_i .i64 (show IntKind.wrap .i64 (Jl ((i : Nat) : Int) (8 : Int)) = ((i / 8 : Nat) : Int) from QN (a := ((i : Nat) : Int)) (n := i) (m := 8) rfl (by omega)))] 13 Ef (Eb.pk [0, 1]) fun _ Eh => q_f 4 (s := Instr.indexAt 33 (pt Ea) (ni (i / 8))) (v := .pointer (some ⟨Ea, i / 8, none⟩)) Eh (fun _ => zt (e := 31) (sz := 1) (m := 4) (j := i / 8) (o := i / 8) (by kernel_rfl) (by kernel_rfl) (by omega) (by omega) (by omega) _) (fun _ => Eb.pk [0, 1]) fun _ Ei => ?_
   have Ej : i / 8 < zc x := by rw [hx]; omega
   refine q_r 5 (s := Instr.loadAt 31 (.pointer (some ⟨Ea, i / 8, none⟩))) (v := zn (za x (i / 8) 0)) Ei (fun w hS => Zi (by kernel_rfl) (hS.heap.cell (k := 0) rfl (zC Ej))) (Eb.pk [0, 1]) fun _ Ek => q_s [6] [] 10 Ek (Eb.pk [0, 1]) fun _ El => q_f 7 (s := Instr.indexAt 22 (pt Ec) (ni i)) (v := .pointer (some ⟨Ec, i, none⟩)) El (fun _ => zt (e := 5) (sz := 1) (m := 32) (j := i) (o := i) (by kernel_rfl) (by kernel_rfl) (by omega) (by omega) (by omega) _) (fun _ => Eb.pk [0, 1]) fun _ Em => ?_
   have En : i < zc b := by rw [hb]; omega
   refine q_r 8 (s := Instr.loadAt 5 (.pointer (some ⟨Ec, i, none⟩))) (v := bv (za b i 0)) Em (fun w hS => Zi (by kernel_rfl) (hS.heap.cell (k := 1) rfl (Qr En))) (Eb.pk [0, 1]) fun _ Eo => q_s [9,10,11,12] [(9, g_i .u64 (Je (x := za b i 0) rfl)), (11, g_i .i64 (show Jk ((i : Nat) : Int) (8 : Int) = ((i % 8 : Nat) : Int) from Qz (a := ((i : Nat) : Int)) (n := i) (m := 8) rfl (by omega))), (12, g_n (w_m 8 (i % 8)))] 4 Eo (Eb.pk [0, 1]) fun _ Ep => q_f 13 Ep (fun _ => Jv (Ze (za b i 0)) .i64 (8 * (i % 8)) (by omega) _) (fun _ => Eb.pk [0, 1]) fun _ Eq => q_s [14] [(14, g_i .u64 (ZL (x := za x (i / 8) 0) (y := (Ze (za b i 0)) <<< zb (8 * (i % 8))) rfl rfl))] 2 Eq (Eb.pk [0, 1]) fun _ Er => q_f 15 (s := Instr.indexAt 33 (pt Ea) (ni (i / 8))) (v := .pointer (some ⟨Ea, i / 8, none⟩)) Er (fun _ => zt (e := 31) (sz := 1) (m := 4) (j := i / 8) (o := i / 8) (by kernel_rfl) (by kernel_rfl) (by omega) (by omega) (by omega) _) (fun _ => Eb.pk [0, 1]) fun _ Es => q_t 16 ?_
   have Et : i / 8 < zc x := by rw [hx]; omega
   refine m_t 0 (i / 8) (zn ((za x (i / 8) 0) ||| ((Ze (za b i 0)) <<< zb (8 * (i % 8))))) _ Es Eb rfl (zC Et) (Z4 _ _ _) rfl fun _ _ Eu Ew => ⟨q_y, ?_⟩
   exact h_e ⟨Eu.sb, Ew.pk [0, 1, 2]⟩
  rintro _ _ ⟨Ex, Ey⟩
  refine zx <| ze <| d_r [1,2,3,4] [(1, g_n (w_a i 1))] Ex fun _ Ez => ze <| ⟨_, ⟨i + 1, (zp x (i / 8) ((za x (i / 8) 0) ||| ((Ze (za b i 0)) <<< zb (8 * (i % 8))))), rfl, Ez.sb, Ey.pk [0, 1, 2], by omega, (List.length_set.trans hx), (or_at hx (by omega) (by rw [hxv]; exact Yd (lv_lt _) (Q4 (by decide) (by rw [zs]; omega))) _).trans (by rw [hxv, ← lv_take_succ _ _ (by omega)])⟩, ?_⟩
  omega
 refine wp_exit <| zD <| zD <| zP <| ze <| wp_seq <| zk <| f_o <| Zn 0 4 (zh x) Ef Ed rfl (zd hx) fun _ EA => f_o <| zZ 2 4 (zh x) [.box Ea (zh x) 33, .box Ec (bys b) 22, .box Eg (zh x) 33] EA Ed rfl (zd hx) (zd (zi)) (zw _) rfl fun _ _ EB Ee => f_e <| ze <| wp_ret <| Zf (v := .agg (zg (zh x))) (t := 2) (T := 33) (ad := ⟨Eg, 0, none⟩) EB (by kernel_rfl) (by kernel_rfl) (zF (t := 33) (k := 2) (off := 0) (m := 4) (xs := zh x) Ee rfl (zr (zd hx)) (zd hx) (by kernel_rfl) (by kernel_rfl)) ?_
 have hi32 : i = 32 := by omega
 have hxe : x = nd (lv b) := nd_of hx (by rw [hxv, hi32, zJ (by omega)])
 subst hxe
 exact ⟨rfl, Ee.pk []⟩
def LeftOk (f : Int) : Prop := ∀ (w : World) (n : List UInt64), zc n = 17 → DG n → dv 4294967296 n < 4294967296 ^ 16 → Calls zB 64 #[.int .i64 f, .agg (zg (zh n))] w fun e w' => e = .returned (.agg (zg (zh (nd (dv 4294967296 n % mF f))))) ∧ Ev w [] w' []
theorem leftOk3 {f : Int} (h3 : f = 1 ∨ f = 2 ∨ f = 3) : LeftOk f := fun w n hn hd _ => left3_go w f h3 n hn hd
theorem left_at {f : Int} (hL : LeftOk f) (w : World) {n : List UInt64} (V : Nat) (hn : zc n = 17) (hd : DG n) (hv : dv 4294967296 n = V) (hb : V < 4294967296 ^ 16) : Calls zB 64 #[.int .i64 f, .agg (zg (zh n))] w fun e w' => e = .returned (.agg (zg (zh (nd (V % mF f))))) ∧ Ev w [] w' [] := by
  have h := hL w n hn hd (by rw [hv]; exact hb)
  rwa [hv] at h
theorem dv_n32 {n : Nat} (h : n < 4294967296 ^ 16) : dv 4294967296 (n32 17 n) = n := by rw [n32_val, zL (Yd h (by decide))]
theorem w256_32 : zY = 4294967296 ^ 8 := by decide
theorem prod_lt {x y : Nat} (hx : x < zY) (hy : y < zY) : x * y < 4294967296 ^ 16 := by
  have h : x * y ≤ (zY - 1) * (zY - 1) := Q8 (by omega) (by omega)
  refine QZ h (by decide)
theorem carry8 {x y : Nat} (hx : x < zY) (hy : y < zY) : dv 4294967296 (zp (n32 17 (nv (nd (x + y)))) 8 (u1 (zY ≤ x + y))) = x + y := by
  have h := J5 4294967296 (u1 (zY ≤ x + y)) (n32 17 (nv (nd (x + y)))) 8 (by rw [n32_len]; decide)
  have g := n32_get 17 (nv (nd (x + y))) 8 (by decide)
  have e : nv (nd (x + y)) / 4294967296 ^ 8 = 0 := YJ (by rw [← w256_32]; exact Qv (zl _ _))
  rw [e, QV] at g
  rw [g, Qb, Zy, dv_n32 (Zu (Qv (zl _ _)) (by decide)), u1_val, ← w256_32] at h
  have k := Ju (x + y)
  clear g e
  generalize dv 4294967296 (zp (n32 17 (nv (nd (x + y)))) 8 (u1 (zY ≤ x + y))) = G at *
  generalize nv (nd (x + y)) = Z at *
  simp only [zY] at *
  split at h <;> omega
theorem sum_lt {x y : Nat} (hx : x < zY) (hy : y < zY) : x + y < 4294967296 ^ 16 := by
  simp only [zY] at *
  have e : (4294967296 : Nat) ^ 16 = 13407807929942597099574024998205846127479365820592393377723561443721764030073546976801874298166903427690031858186486050853753882811946569946433649006084096 := by decide
  omega
theorem u1_dig (p : Prop) [Decidable p] : (u1 p).toNat < 4294967296 := QZ (u1_le p) (by decide)
theorem rsub_fin1 {x y M : Nat} (hx : x < M) (hy : y < M) (hM : M < zY) (h : nv (nd x) < nv (nd y)) : nd (nv (nd M) + zY - nv (nd (nv (nd y) + zY - nv (nd x)))) = nd ((x + M - y) % M) := by
  rw [nv_nd (by omega), nv_nd (by omega)] at h
  rw [nv_nd hM, nv_nd (n := y) (by omega), nv_nd (n := x) (by omega), Ju, zL (a := x + M - y) (by omega), ← J7, ← J7 (x + M - y)]
  congr 1
  simp only [zY] at *
  omega
theorem rsub_fin2 {x y M : Nat} (hx : x < M) (hy : y < M) (hM : M < zY) (h : ¬ nv (nd x) < nv (nd y)) : nd (nv (nd x) + zY - nv (nd y)) = nd ((x + M - y) % M) := by
  rw [nv_nd (by omega), nv_nd (by omega)] at *
  exact sub_fin2 hx hy hM h
theorem or_low {V : Nat} (hV : V < zY) (x : UInt8) : dv 4294967296 (zp (n32 17 (V * 256)) 0 (za (n32 17 (V * 256)) 0 0 ||| Ze x)) = V * 256 + x.toNat ∧ (za (n32 17 (V * 256)) 0 0 ||| Ze x).toNat < 4294967296 := by
  have hx : x.toNat < 256 := x.toNat_lt
  have g := n32_get 17 (V * 256) 0 (by decide)
  rw [Z6, YG] at g
  have e : (za (n32 17 (V * 256)) 0 0 ||| Ze x).toNat = (za (n32 17 (V * 256)) 0 0).toNat + x.toNat := by
    rw [Yq, JX, g]
    have e2 : V * 256 % 4294967296 = (V % 16777216) <<< 8 := by rw [ZA]; omega
    rw [e2, ← Qa (by omega)]
  have h := J5 4294967296 (za (n32 17 (V * 256)) 0 0 ||| Ze x) (n32 17 (V * 256)) 0 (by rw [n32_len]; decide)
  have hl : dv 4294967296 (n32 17 (V * 256)) = V * 256 := dv_n32 (by
    have e3 : (4294967296 : Nat) ^ 16 = 13407807929942597099574024998205846127479365820592393377723561443721764030073546976801874298166903427690031858186486050853753882811946569946433649006084096 := by decide
    simp only [zY] at *
    omega)
  rw [e, hl, Z6] at h
  constructor
  · omega
  · rw [e, g]
    have : V * 256 % 4294967296 % 256 = 0 := by omega
    omega
theorem lv_drop {l : List UInt8} {q : Nat} (h : q < l.length) : lv (zo q l) = (za l q 0).toNat + 256 * lv (zo (q + 1) l) := by
  rw [List.drop_eq_getElem_cons h, lv, zN, zR h]
  rfl
theorem wide_lt (V : Nat) (x : UInt8) : nv (nd V) * 256 + x.toNat < 4294967296 ^ 16 := by
  have h := Qv (zl 4 V)
  have g : x.toNat < 256 := x.toNat_lt
  have e3 : (4294967296 : Nat) ^ 16 = 13407807929942597099574024998205846127479365820592393377723561443721764030073546976801874298166903427690031858186486050853753882811946569946433649006084096 := by decide
  show nv (nd V) * 256 + x.toNat < 4294967296 ^ 16
  generalize nv (nd V) = Z at *
  simp only [zY] at *
  omega
theorem wide_step {f : Int} (hf : f = 1 ∨ f = 2 ∨ f = 3 ∨ f = 4) {l : List UInt8} {q : Nat} (h1 : 1 ≤ q) (h : q ≤ l.length) : nd ((nv (nd (lv (zo q l) % mF f)) * 256 + (za l (q - 1) 0).toNat) % mF f) = nd (lv (zo (q - 1) l) % mF f) := by
  rw [lv_drop (l := l) (q := q - 1) (by omega), show q - 1 + 1 = q by omega, nv_nd (mod_lt_w hf)]
  congr 1
  rw [Nat.add_comm, YM, z5, Qt, Nat.mod_mod, ← Qt, ← YM]
theorem radd_go (w : World) (f : Int) (hf : f = 1 ∨ f = 2 ∨ f = 3 ∨ f = 4) (hL : LeftOk f) (a b : List UInt64) (ha : zc a = 4) (hb : zc b = 4) : Calls zB 27 #[.int .i64 f, .agg (zg (zh a)), .agg (zg (zh b))] w fun e w' => e = .returned (.agg (zg (zh (nd (addM f (nv a) (nv b)))))) ∧ Ev w [] w' [] := by
 refine d_0 [(0, .int .i64 f), (1, .agg (zg (zh a))), (2, .agg (zg (zh b)))] 29 Tryz.func27 Tryz.ntmps27 (Heap.nil _) fun EP EQ ER => wp_seq <| zk <| f_o <| m_m 33 (zh a) EQ ER fun _ _ EN ES ET => f_o <| m_m 33 (zh b) ES ET fun _ _ EO EU Ei => f_o <| m_z 33 (zh (zf 4 0)) EU Ei fun _ _ Ea Ej Ek => f_e <| ze <| wp_seq <| zk <| d_k [0,4,5,6,11] [] 1 Ej fun _ El => f_o <| c_p El Ek (ris_go_yes _ f hf) fun _ _ Em Eb => ?_
 refine d_e [0,4,5,6,7] [] Em fun _ En => ze <| wp_seq <| d_s [0,4,5,6,14] [] En fun _ Ec => c_f Ec ?_
 refine wp_skip <| ze <| wp_seq <| zk <| f_o <| Zn 0 4 (zh a) Ec Eb rfl (zd ha) fun _ Eo => f_o <| Zn 1 4 (zh b) Eo Eb rfl (zd hb) fun _ Ep => f_o <| c_p Ep Eb (rplus_go _ a b ha hb) fun _ _ Eq Er => d_k [0,6,20,21] [] 6 Eq fun _ Es => f_o <| m_z 33 (zh (zf 4 0)) Es Er fun _ _ Ed Et Eu => f_o <| zZ 3 4 (zh (nd (nv a + nv b))) _ Et Eu rfl (zd (zl _ _)) (zd (zi)) (zw _) rfl fun _ _ Ew Ee => ?_
 refine d_e [0,6,8,9] [] Ew fun _ Ex => ze <| wp_seq <| zk <| f_o <| Zn 3 4 (zh (nd (nv a + nv b))) Ex Ee rfl (zd (zl _ _)) fun _ Ey => f_o <| c_p Ey Ee (digits_go _ (nd (nv a + nv b)) (zl _ _)) fun _ _ Ez EA => f_o <| m_z 87 (zh (zf 17 0)) Ez EA fun _ _ Ef EB EC => f_o <| zZ 4 17 (zh (n32 17 (nv (nd (nv a + nv b))))) [.box EN (zh a) 33, .box EO (zh b) 33, .box Ea (zh (zf 4 0)) 33, .box Ed (zh (nd (nv a + nv b))) 33, .box Ef (zh (n32 17 (nv (nd (nv a + nv b))))) 87] EB EC rfl (zd (n32_len _ _)) (zd (zi)) (zw _) rfl fun _ _ ED EE => f_e <| ze <| wp_seq <| zk <| d_k [0,6,8,10,24,25] [] 2 ED fun _ EF => ?_
 refine f_o ?_
 have EG : 8 < zc (n32 17 (nv (nd (nv a + nv b)))) := by rw [(n32_len _ _)]; omega
 refine m_t 4 8 (zn (u1 (zY ≤ nv a + nv b))) _ EF EE rfl (zC EG) (Z4 _ _ _) rfl fun _ _ EH Eg => f_e <| ze <| wp_seq <| zk <| d_k [0,6,8,10,26] [] 1 EH fun _ EI => f_o <| Zn 4 17 (zh (zp (n32 17 (nv (nd (nv a + nv b)))) 8 (u1 (zY ≤ nv a + nv b)))) EI Eg rfl (zd (List.length_set.trans (n32_len _ _))) fun _ EJ => f_o <| c_p EJ Eg (left_at hL _ (nv a + nv b) (List.length_set.trans (n32_len _ _)) ((n32_dig _ _).set (u1_dig _)) (carry8 (Qv ha) (Qv hb)) (sum_lt (Qv ha) (Qv hb))) fun _ _ EK EL => f_o <| zZ 2 4 (zh (nd ((nv a + nv b) % mF f))) [.box EN (zh a) 33, .box EO (zh b) 33, .box Ea (zh (nd ((nv a + nv b) % mF f))) 33, .box Ed (zh (nd (nv a + nv b))) 33, .box Ef (zh (zp (n32 17 (nv (nd (nv a + nv b)))) 8 (u1 (zY ≤ nv a + nv b)))) 87] EK EL rfl (zd (zl _ _)) (zd (zi)) (zw _) rfl fun _ _ EM Eh => f_e <| ze <| wp_ret <| Zf (v := .agg (zg (zh (nd ((nv a + nv b) % mF f))))) (t := 6) (T := 33) (ad := ⟨Ea, 0, none⟩) EM (by kernel_rfl) (by kernel_rfl) (zF (t := 33) (k := 2) (off := 0) (m := 4) (xs := zh (nd ((nv a + nv b) % mF f))) Eh rfl (zr (zd (zl _ _))) (zd (zl _ _)) (by kernel_rfl) (by kernel_rfl)) ?_
 exact ⟨rfl, Eh.pk []⟩
theorem rmul_go (w : World) (f : Int) (hf : f = 1 ∨ f = 2 ∨ f = 3 ∨ f = 4) (hL : LeftOk f) (a b : List UInt64) (ha : zc a = 4) (hb : zc b = 4) : Calls zB 28 #[.int .i64 f, .agg (zg (zh a)), .agg (zg (zh b))] w fun e w' => e = .returned (.agg (zg (zh (nd (mulM f (nv a) (nv b)))))) ∧ Ev w [] w' [] := by
 refine d_0 [(0, .int .i64 f), (1, .agg (zg (zh a))), (2, .agg (zg (zh b)))] 18 Tryz.func28 Tryz.ntmps28 (Heap.nil _) fun Es Et Eu => wp_seq <| zk <| f_o <| m_m 33 (zh a) Et Eu fun _ _ Ez Ew Ex => f_o <| m_m 33 (zh b) Ew Ex fun _ _ EA Ey Ed => f_o <| m_z 33 (zh (zf 4 0)) Ey Ed fun _ _ Ee Ef Eg => f_e <| ze <| wp_seq <| zk <| d_k [0,4,5,6,8] [] 1 Ef fun _ Eh => f_o <| c_p Eh Eg (ris_go_yes _ f hf) fun _ _ Ei Ea => ?_
 refine d_e [0,4,5,6,7] [] Ei fun _ Ej => ze <| wp_seq <| d_s [0,4,5,6,11] [] Ej fun _ Eb => c_f Eb ?_
 refine wp_skip <| ze <| wp_seq <| zk <| d_k [0,4,5,6,13] [] 1 Eb fun _ Ek => f_o <| Zn 0 4 (zh a) Ek Ea rfl (zd ha) fun _ El => f_o <| Zn 1 4 (zh b) El Ea rfl (zd hb) fun _ Em => f_o <| c_p Em Ea (times_go _ a b ha hb) fun _ _ En Eo => f_o <| c_p En Eo (left_at hL _ (nv a * nv b) (n32_len _ _) (n32_dig _ _) (dv_n32 (by first | exact prod_lt (Qv ha) (Qv hb) | exact Zu (Qv ha) (by decide) | exact Zu (Qv hb) (by decide))) (by first | exact prod_lt (Qv ha) (Qv hb) | exact Zu (Qv ha) (by decide) | exact Zu (Qv hb) (by decide))) fun _ _ Ep Eq => f_o <| zZ 2 4 (zh (nd ((nv a * nv b) % mF f))) _ Ep Eq rfl (zd (zl _ _)) (zd (zi)) (zw _) rfl fun _ _ Er Ec => ?_
 refine f_e <| ze <| wp_ret <| Zf (v := .agg (zg (zh (nd ((nv a * nv b) % mF f))))) (t := 6) (T := 33) (ad := ⟨Ee, 0, none⟩) Er (by kernel_rfl) (by kernel_rfl) (zF (t := 33) (k := 2) (off := 0) (m := 4) (xs := zh (nd ((nv a * nv b) % mF f))) Ec rfl (zr (zd (zl _ _))) (zd (zl _ _)) (by kernel_rfl) (by kernel_rfl)) ?_
 exact ⟨rfl, Ec.pk []⟩
theorem rsub_go (w : World) (f : Int) (hf : f = 1 ∨ f = 2 ∨ f = 3 ∨ f = 4) (hL : LeftOk f) (a b : List UInt64) (ha : zc a = 4) (hb : zc b = 4) : Calls zB 76 #[.int .i64 f, .agg (zg (zh a)), .agg (zg (zh b))] w fun e w' => e = .returned (.agg (zg (zh (nd (subM f (nv a) (nv b)))))) ∧ Ev w [] w' [] := by
 have hla : nv a % mF f < mF f := ZU _ (Zu Yb (mF_pos hf))
 have hlb : nv b % mF f < mF f := ZU _ (Zu Yb (mF_pos hf))
 have hmw := mF_lt f
 refine d_0 [(0, .int .i64 f), (1, .agg (zg (zh a))), (2, .agg (zg (zh b)))] 35 Tryz.func76 Tryz.ntmps76 (Heap.nil _) fun E7 E8 E9 => wp_seq <| zk <| f_o <| m_m 33 (zh a) E8 E9 fun _ _ E5 Ha Hb => f_o <| m_m 33 (zh b) Ha Hb fun _ _ E6 Hc EE => f_o <| m_z 33 (zh (zf 4 0)) Hc EE fun _ _ Ea EF EG => f_e <| ze <| wp_seq <| zk <| d_k [0,4,5,6,10] [] 1 EF fun _ EH => f_o <| c_p EH EG (ris_go_yes _ f hf) fun _ _ EI En => ?_
 refine d_e [0,4,5,6,7] [] EI fun _ EJ => ze <| wp_seq <| d_s [0,4,5,6,13] [] EJ fun _ Eo => c_f Eo ?_
 refine wp_skip <| ze <| wp_seq <| zk <| d_k [0,4,5,6,15] [] 1 Eo fun _ EK => f_o <| Zn 0 4 (zh a) EK En rfl (zd ha) fun _ EL => f_o <| c_p EL En (digits_go _ a ha) fun _ _ EM EN => f_o <| c_p EM EN (left_at hL _ (nv a) (n32_len _ _) (n32_dig _ _) (dv_n32 (by first | exact prod_lt (Qv ha) (Qv hb) | exact Zu (Qv ha) (by decide) | exact Zu (Qv hb) (by decide))) (by first | exact prod_lt (Qv ha) (Qv hb) | exact Zu (Qv ha) (by decide) | exact Zu (Qv hb) (by decide))) fun _ _ EO EP => f_o <| m_z 33 (zh (zf 4 0)) EO EP fun _ _ Eb EQ ER => f_o <| zZ 3 4 (zh (nd ((nv a) % mF f))) _ EQ ER rfl (zd (zl _ _)) (zd (zi)) (zw _) rfl fun _ _ ES Ep => ?_
 refine f_e <| ze <| wp_seq <| zk <| d_k [0,5,6,8,19] [] 1 ES fun _ ET => f_o <| Zn 1 4 (zh b) ET Ep rfl (zd hb) fun _ EU => f_o <| c_p EU Ep (digits_go _ b hb) fun _ _ EV EW => f_o <| c_p EV EW (left_at hL _ (nv b) (n32_len _ _) (n32_dig _ _) (dv_n32 (by first | exact prod_lt (Qv ha) (Qv hb) | exact Zu (Qv ha) (by decide) | exact Zu (Qv hb) (by decide))) (by first | exact prod_lt (Qv ha) (Qv hb) | exact Zu (Qv ha) (by decide) | exact Zu (Qv hb) (by decide))) fun _ _ EX EY => f_o <| m_z 33 (zh (zf 4 0)) EX EY fun _ _ Ec EZ E0 => f_o <| zZ 4 4 (zh (nd ((nv b) % mF f))) [.box E5 (zh a) 33, .box E6 (zh b) 33, .box Ea (zh (zf 4 0)) 33, .box Eb (zh (nd ((nv a) % mF f))) 33, .box Ec (zh (nd ((nv b) % mF f))) 33] EZ E0 rfl (zd (zl _ _)) (zd (zi)) (zw _) rfl fun _ _ E1 El => ?_
 refine f_e <| ze <| wp_seq <| wp_seq <| zk <| f_o <| Zn 3 4 (zh (nd ((nv a) % mF f))) E1 El rfl (zd (zl _ _)) fun _ E2 => f_o <| Zn 4 4 (zh (nd ((nv b) % mF f))) E2 El rfl (zd (zl _ _)) fun _ E3 => f_o <| c_p E3 El (rless_go _ (nd ((nv a) % mF f)) (nd ((nv b) % mF f)) (zl _ _) (zl _ _)) fun _ _ Em Ed => ?_
 refine f_e <| ze <| c_d (nv (nd ((nv a) % mF f)) < nv (nd ((nv b) % mF f))) Em (fun E4 => ?_) (fun E4 => ?_)
 ·
  refine wp_seq <| r_c (fun ac wo => Env ac 35 [(0, .int .i64 f), (6, pt Ea), (8, pt Eb), (9, pt Ec)] ∧ Ev w [] wo [.box Ea (zh (nd (nv (nd (mF f)) + zY - nv (nd (nv (nd ((nv b) % mF f)) + zY - nv (nd ((nv a) % mF f))))))) 33, .box Eb (zh (nd ((nv a) % mF f))) 33, .box Ec (zh (nd ((nv b) % mF f))) 33]) ?_ ?_
  ·
   refine h_s (fun wv => Ev w [] wv [.box Eb (zh (nd ((nv a) % mF f))) 33, .box Ec (zh (nd ((nv b) % mF f))) 33]) [] 7 ?_
   have Ee := Ed.trans (zS Ed.heap)
   refine q_s [0] [] 6 Em (Ee.pk [3, 4]) fun _ Eq => q_r 2 (s := Instr.loadAt 33 (pt Ec)) (v := .agg (zg (zh (nd ((nv b) % mF f))))) Eq (fun w hS => zV (m := 4) (cs := zh (nd ((nv b) % mF f))) (zd (zl _ _)) (by kernel_rfl) (by kernel_rfl) (hS.heap.cells (k := 1) (off := 0) (m := 4) rfl (zr (zd (zl _ _))))) (Ee.pk [3, 4]) fun _ Er => q_r 3 (s := Instr.loadAt 33 (pt Eb)) (v := .agg (zg (zh (nd ((nv a) % mF f))))) Er (fun w hS => zV (m := 4) (cs := zh (nd ((nv a) % mF f))) (zd (zl _ _)) (by kernel_rfl) (by kernel_rfl) (hS.heap.cells (k := 0) (off := 0) (m := 4) rfl (zr (zd (zl _ _))))) (Ee.pk [3, 4]) fun _ Es => q_t 1 ?_
   refine c_p Es Ee (rmodulus_go _ f) fun _ _ Et Ef => ⟨fun _ => Ef.pk [3, 4], ?_⟩
   refine q_t 4 ?_
   refine c_p Et Ef (rminus_go _ (nd ((nv b) % mF f)) (nd ((nv a) % mF f)) (zl _ _) (zl _ _)) fun _ _ Eu Eg => ⟨fun _ => Eg.pk [3, 4], ?_⟩
   refine q_t 5 ?_
   refine c_p Eu Eg (rminus_go _ (nd (mF f)) (nd (nv (nd ((nv b) % mF f)) + zY - nv (nd ((nv a) % mF f)))) (zl _ _) (zl _ _)) fun _ _ Ew Eh => ⟨fun _ => Eh.pk [3, 4], ?_⟩
   refine q_t 6 ?_
   refine zZ 2 4 (zh (nd (nv (nd (mF f)) + zY - nv (nd (nv (nd ((nv b) % mF f)) + zY - nv (nd ((nv a) % mF f))))))) _ Ew Eh rfl (zd (zl _ _)) (zd (zi)) (zw _) rfl fun _ _ Ex Ei => ⟨fun _ => Ei.pk [3, 4], ?_⟩
   exact h_e ⟨Ex.sb, Ei.pk [2, 3, 4]⟩
  rintro _ _ ⟨Ey, Ej⟩
  refine ze <| wp_ret <| Zx <| Zf (v := .agg (zg (zh (nd (nv (nd (mF f)) + zY - nv (nd (nv (nd ((nv b) % mF f)) + zY - nv (nd ((nv a) % mF f))))))))) (t := 6) (T := 33) (ad := ⟨Ea, 0, none⟩) Ey (by kernel_rfl) (by kernel_rfl) (zF (t := 33) (k := 0) (off := 0) (m := 4) (xs := zh (nd (nv (nd (mF f)) + zY - nv (nd (nv (nd ((nv b) % mF f)) + zY - nv (nd ((nv a) % mF f))))))) Ej rfl (zr (zd (zl _ _))) (zd (zl _ _)) (by kernel_rfl) (by kernel_rfl)) ?_
  have e : nd (nv (nd (mF f)) + zY - nv (nd (nv (nd ((nv b) % mF f)) + zY - nv (nd ((nv a) % mF f))))) = nd (subM f (nv a) (nv b)) := rsub_fin1 hla hlb hmw (by assumption)
  exact ⟨by rw [e], Ej.pk []⟩
 refine wp_skip <| ze <| wp_seq <| zk <| f_o <| Zn 3 4 (zh (nd ((nv a) % mF f))) Em Ed rfl (zd (zl _ _)) fun _ Ez => f_o <| Zn 4 4 (zh (nd ((nv b) % mF f))) Ez Ed rfl (zd (zl _ _)) fun _ EA => f_o <| c_p EA Ed (rminus_go _ (nd ((nv a) % mF f)) (nd ((nv b) % mF f)) (zl _ _) (zl _ _)) fun _ _ EB EC => f_o <| zZ 2 4 (zh (nd (nv (nd ((nv a) % mF f)) + zY - nv (nd ((nv b) % mF f))))) [.box E5 (zh a) 33, .box E6 (zh b) 33, .box Ea (zh (nd (nv (nd ((nv a) % mF f)) + zY - nv (nd ((nv b) % mF f))))) 33, .box Eb (zh (nd ((nv a) % mF f))) 33, .box Ec (zh (nd ((nv b) % mF f))) 33] EB EC rfl (zd (zl _ _)) (zd (zi)) (zw _) rfl fun _ _ ED Ek => f_e <| ze <| wp_ret <| Zf (v := .agg (zg (zh (nd (nv (nd ((nv a) % mF f)) + zY - nv (nd ((nv b) % mF f))))))) (t := 6) (T := 33) (ad := ⟨Ea, 0, none⟩) ED (by kernel_rfl) (by kernel_rfl) (zF (t := 33) (k := 2) (off := 0) (m := 4) (xs := zh (nd (nv (nd ((nv a) % mF f)) + zY - nv (nd ((nv b) % mF f))))) Ek rfl (zr (zd (zl _ _))) (zd (zl _ _)) (by kernel_rfl) (by kernel_rfl)) ?_
 have e : nd (nv (nd ((nv a) % mF f)) + zY - nv (nd ((nv b) % mF f))) = nd (subM f (nv a) (nv b)) := rsub_fin2 hla hlb hmw (by assumption)
 exact ⟨by rw [e], Ek.pk []⟩
theorem rneg_go (w : World) (f : Int) (hf : (f = 1 ∨ f = 2 ∨ f = 3 ∨ f = 4)) (hL : LeftOk f) (a : List UInt64) (ha : zc a = 4) : Calls zB 110 #[.int .i64 f, .agg (zg (zh a))] w fun e w' => e = .returned (.agg (zg (zh (nd (subM f 0 (nv a)))))) ∧ Ev w [] w' [] := by
 refine d_0 [(0, .int .i64 f), (1, .agg (zg (zh a)))] 9 Tryz.func110 Tryz.ntmps110 (Heap.nil _) fun Eh Ei Ej => wp_seq <| zk <| f_o <| m_m 33 (zh a) Ei Ej fun _ _ Eo Ek El => f_o <| m_z 33 (zh (zf 4 0)) Ek El fun _ _ Em En Ea => f_e <| ze <| wp_seq <| zk <| d_k [3,4,5,6] [] 2 En fun _ Ec => f_o <| Zn 0 4 (zh a) Ec Ea rfl (zd ha) fun _ Ed => f_o <| c_p Ed Ea (rsub_go _ f hf hL ([0, 0, 0, 0] : List UInt64) a (show zc ([0, 0, 0, 0] : List UInt64) = 4 from rfl) ha) fun _ _ Ee Ef => ?_
 refine f_o <| zZ 1 4 (zh (nd (subM f (nv ([0, 0, 0, 0] : List UInt64)) (nv a)))) _ Ee Ef rfl (zd (zl _ _)) (zd (zi)) (zw _) rfl fun _ _ Eg Eb => f_e <| ze <| wp_ret <| Zf (v := .agg (zg (zh (nd (subM f (nv ([0, 0, 0, 0] : List UInt64)) (nv a)))))) (t := 4) (T := 33) (ad := ⟨Em, 0, none⟩) Eg (by kernel_rfl) (by kernel_rfl) (zF (t := 33) (k := 1) (off := 0) (m := 4) (xs := zh (nd (subM f (nv ([0, 0, 0, 0] : List UInt64)) (nv a)))) Eb rfl (zr (zd (zl _ _))) (zd (zl _ _)) (by kernel_rfl) (by kernel_rfl)) ?_
 exact ⟨rfl, Eb.pk []⟩
theorem rwide_go (w : World) (f : Int) (hf : f = 1 ∨ f = 2 ∨ f = 3 ∨ f = 4) (hL : LeftOk f) (ab : Option Addr) (nb cb : Nat) (lb : List UInt8) (eb : nb = zc lb) (ib : InB w [] ab cb lb) : Calls zB 60 #[.int .i64 f, .slice ab nb cb] w fun e w' => e = .returned (.agg (zg (zh (nd (lv lb % mF f))))) ∧ Ev w [] w' [] := by
 subst eb
 have hsm := ib.small
 refine d_0 [(0, .int .i64 f), (1, .slice ab (zc lb) cb)] 37 Tryz.func60 Tryz.ntmps60 (Heap.nil _) fun E0 E1 E2 => wp_seq <| zk <| f_o <| m_z 33 (zh (zf 4 0)) E1 E2 fun _ _ Ej E3 E4 => f_e <| ze <| wp_seq <| zk <| d_k [0,1,4,9] [] 1 E3 fun _ E5 => f_o <| c_p E5 E4 (ris_go_yes _ f hf) fun _ _ EJ EK => d_e [0,1,4,5] [] EJ fun _ EL => ze <| wp_seq <| wp_seq <| d_r [0,1,4,12] [] EL fun _ El => ?_
 refine ze <| c_f El ?_
 refine wp_skip <| ze <| wp_seq <| zk <| f_o <| m_z 33 (zh (zf 4 0)) El EK fun _ _ Ec EM EN => f_e <| ze <| wp_seq <| wp_seq <| d_r [0,1,4,6,7] [(2, g_n (w_r (e := ((zc lb : Nat) : Int) - (1 : Int)) (x := ((zc lb : Nat) : Int) - (1 : Int)) (by omega)))] EM fun _ EO => ?_
 refine ze <| wp_block <| Z5 (fun EP ac wo => ∃ (q : Nat) (x : List UInt64), EP = (q + 1 : Nat) ∧ Env ac 37 [(0, .int .i64 f), (1, .slice ab (zc lb) cb), (4, pt Ej), (6, pt Ec), (7, .int .i64 (((q : Nat) : Int) - (1 : Int)))] ∧ Ev w [] wo [.box Ec (zh x) 33, .box Ej (zh (zf 4 0)) 33] ∧ (q ≤ zc lb) ∧ (zc x = 4) ∧ (x = nd (lv (zo q lb) % mF f))) ⟨_, zc lb, zf 4 0, rfl, EO.sb, EN.pk [1, 0], by omega, zi, by rw [Jd, lv, QV]; rfl⟩ ?_
 rintro E6 _ _ ⟨q, x, rfl, EQ, Ed, hq, hx, hxe⟩
 refine wp_seq <| wp_seq <| d_r [0,1,4,6,7,18] [] EQ fun _ Ek => ?_
 refine ze <| c_d (((q : Nat) : Int) - (1 : Int) ≥ (0 : Int)) Ek (fun ER => ?_) (fun ER => ?_)
 ·
  refine wp_skip <| ze <| wp_seq <| wp_block <| wp_seq ?_
  have ES := X9 (t := 7) (v := .int .i64 (((q : Nat) : Int) - (1 : Int))) (u := ni (q - 1)) Ek (congrArg (Value.int .i64) (show ((q : Nat) : Int) - (1 : Int) = ((q - 1 : Nat) : Int) by omega))
  rw [hxe] at Ed
  refine zk <| f_o <| Zn 0 4 (zh (nd (lv (zo q lb) % mF f))) ES Ed rfl (zd (zl _ _)) fun _ ET => d_k [0,1,4,6,7,21,22] [] 2 ET fun _ EU => f_o <| c_p EU Ed (times_go _ (nd (lv (zo q lb) % mF f)) ([256, 0, 0, 0] : List UInt64) (zl _ _) (show zc ([256, 0, 0, 0] : List UInt64) = 4 from rfl)) fun _ _ EV EW => f_o <| m_z 87 (zh (zf 17 0)) EV EW fun _ _ Ee EX EY => f_o <| zZ 2 17 (zh (n32 17 (nv (nd (lv (zo q lb) % mF f)) * nv ([256, 0, 0, 0] : List UInt64)))) _ EX EY rfl (zd (n32_len _ _)) (zd (zi)) (zw _) rfl fun _ _ EZ Em => ?_
  refine f_e <| ze <| wp_seq <| r_c (fun ac wo => Env ac 37 [(0, .int .i64 f), (1, .slice ab (zc lb) cb), (4, pt Ej), (6, pt Ec), (7, ni (q - 1)), (8, pt Ee)] ∧ Ev w [] wo [.box Ec (zh (nd (lv (zo q lb) % mF f))) 33, .box Ej (zh (zf 4 0)) 33, .box Ee (zh (zp (n32 17 (nv (nd (lv (zo q lb) % mF f)) * nv ([256, 0, 0, 0] : List UInt64))) 0 ((za (n32 17 (nv (nd (lv (zo q lb) % mF f)) * nv ([256, 0, 0, 0] : List UInt64))) 0 0) ||| (Ze (za lb (q - 1) 0))))) 87]) ?_ ?_
  ·
   refine h_s (fun wv => Ev w [] wv [.box Ee (zh (n32 17 (nv (nd (lv (zo q lb) % mF f)) * nv ([256, 0, 0, 0] : List UInt64)))) 87]) [9] 10 ?_
   have Ea := Em.trans (zS Em.heap)
   have En : 0 < zc (n32 17 (nv (nd (lv (zo q lb) % mF f)) * nv ([256, 0, 0, 0] : List UInt64))) := by rw [(n32_len _ _)]; omega
   refine q_s [0] [] 9 EZ (Ea.pk [2]) fun _ Eo => q_r 1 (s := Instr.loadAt 31 (pt Ee)) (v := zn (za (n32 17 (nv (nd (lv (zo q lb) % mF f)) * nv ([256, 0, 0, 0] : List UInt64))) 0 0)) Eo (fun w hS => Zi (by kernel_rfl) (hS.heap.cell (k := 0) rfl (zC En))) (Ea.pk [2]) fun _ Ep => ?_
   have Eg : q - 1 < zc lb := (by omega)
   obtain ⟨Eb, Ef⟩ := some_of ib.nz Eg
   refine q_s [2,3] [] 6 Ep (Ea.pk [2]) fun _ Eq => q_f 4 (s := Instr.indexAt 23 (.slice ab (zc lb) cb) (ni (q - 1))) (v := .pointer (some (Addr.add Eb (q - 1)))) Eq (fun _ => Go.Dbr.run_indexsl (e := 5) (sz := 1) (j := q - 1) (jo := q - 1) Ef (by kernel_rfl) (by kernel_rfl) (by omega) Eg (ZG _) _) (fun _ => Ea.pk [2]) fun _ Er => ?_
   have Es : q - 1 < zc lb := by omega
   refine q_r 5 (s := Instr.loadAt 5 (.pointer (some (Addr.add Eb (q - 1))))) (v := bv (za lb (q - 1) 0)) Er (fun w hS => run_loadel (ad := Eb) (o := q - 1) rfl (ib.ev hS).reads Ef (Qr Es) (by kernel_rfl)) (Ea.pk [2]) fun _ Et => q_s [6,7,8] [(6, g_i .u64 (Je (x := za lb (q - 1) 0) rfl)), (7, g_i .u64 (ZL (x := za (n32 17 (nv (nd (lv (zo q lb) % mF f)) * nv ([256, 0, 0, 0] : List UInt64))) 0 0) (y := Ze (za lb (q - 1) 0)) rfl rfl))] 1 Et (Ea.pk [2]) fun _ Eu => q_t 9 ?_
   have Ew : 0 < zc (n32 17 (nv (nd (lv (zo q lb) % mF f)) * nv ([256, 0, 0, 0] : List UInt64))) := by rw [(n32_len _ _)]; omega
   refine m_t 2 0 (zn ((za (n32 17 (nv (nd (lv (zo q lb) % mF f)) * nv ([256, 0, 0, 0] : List UInt64))) 0 0) ||| (Ze (za lb (q - 1) 0)))) [.box Ec (zh (nd (lv (zo q lb) % mF f))) 33, .box Ej (zh (zf 4 0)) 33, .box Ee (zh (zp (n32 17 (nv (nd (lv (zo q lb) % mF f)) * nv ([256, 0, 0, 0] : List UInt64))) 0 ((za (n32 17 (nv (nd (lv (zo q lb) % mF f)) * nv ([256, 0, 0, 0] : List UInt64))) 0 0) ||| (Ze (za lb (q - 1) 0))))) 87] Eu Ea rfl (zC Ew) (Z4 _ _ _) rfl fun _ _ Ex Ey => ⟨q_y, ?_⟩
   exact h_e ⟨Ex.sb, Ey.pk [0, 1, 2]⟩
  rintro _ _ ⟨Ez, Eh⟩
  refine ze <| zk <| d_k [0,1,4,6,7,8,33] [] 1 Ez fun _ EA => f_o <| Zn 2 17 (zh (zp (n32 17 (nv (nd (lv (zo q lb) % mF f)) * nv ([256, 0, 0, 0] : List UInt64))) 0 ((za (n32 17 (nv (nd (lv (zo q lb) % mF f)) * nv ([256, 0, 0, 0] : List UInt64))) 0 0) ||| (Ze (za lb (q - 1) 0))))) EA Eh rfl (zd (List.length_set.trans (n32_len _ _))) fun _ EB => f_o <| c_p EB Eh (left_at hL _ (nv (nd (lv (zo q lb) % mF f)) * 256 + (za lb (q - 1) 0).toNat) (List.length_set.trans (n32_len _ _)) ((n32_dig _ _).set (or_low (Qv (zl _ _)) _).2) (or_low (Qv (zl _ _)) _).1 (wide_lt _ _)) fun _ _ EC ED => f_o <| zZ 0 4 (zh (nd ((nv (nd (lv (zo q lb) % mF f)) * 256 + (za lb (q - 1) 0).toNat) % mF f))) _ EC ED rfl (zd (zl _ _)) (zd (zl _ _)) (zw _) rfl fun _ _ EE EF => f_e <| zx <| ze <| d_r [0,1,4,6,7,8] [(1, g_n (w_r (e := ((q - 1 : Nat) : Int) - (1 : Int)) (x := ((q - 1 : Nat) : Int) - (1 : Int)) (by omega)))] EE fun _ EG => ze <| ⟨_, ⟨q - 1, (nd ((nv (nd (lv (zo q lb) % mF f)) * 256 + (za lb (q - 1) 0).toNat) % mF f)), rfl, EG.sb, EF.pk [0, 1], by omega, (zl _ _), wide_step hf (by omega) (by omega)⟩, ?_⟩
  omega
 refine wp_exit <| zD <| zD <| zP <| ze <| wp_seq ?_
 rw [hxe] at Ed
 refine zk <| f_o <| Zn 0 4 (zh (nd (lv (zo q lb) % mF f))) Ek Ed rfl (zd (zl _ _)) fun _ EH => f_o <| zZ 1 4 (zh (nd (lv (zo q lb) % mF f))) [.box Ec (zh (nd (lv (zo q lb) % mF f))) 33, .box Ej (zh (nd (lv (zo q lb) % mF f))) 33] EH Ed rfl (zd (zl _ _)) (zd (zi)) (zw _) rfl fun _ _ EI Ei => f_e <| ze <| wp_ret <| Zf (v := .agg (zg (zh (nd (lv (zo q lb) % mF f))))) (t := 4) (T := 33) (ad := ⟨Ej, 0, none⟩) EI (by kernel_rfl) (by kernel_rfl) (zF (t := 33) (k := 1) (off := 0) (m := 4) (xs := zh (nd (lv (zo q lb) % mF f))) Ei rfl (zr (zd (zl _ _))) (zd (zl _ _)) (by kernel_rfl) (by kernel_rfl)) ?_
 have hq0 : q = 0 := by omega
 subst hq0
 exact ⟨rfl, Ei.pk []⟩
def powM (f : Int) (x n : Nat) : Nat := x ^ n % mF f
theorem powM_lt {f : Int} (hf : f = 1 ∨ f = 2 ∨ f = 3 ∨ f = 4) (x n : Nat) : powM f x n < zY := mod_lt_w hf
theorem powM_zero {f : Int} (hf : f = 1 ∨ f = 2 ∨ f = 3 ∨ f = 4) (x : Nat) : powM f x 0 = 1 := by rw [powM, Z6, zL (mF_pos hf)]
theorem powM_add (f : Int) (x m n : Nat) : mulM f (powM f x m) (powM f x n) = powM f x (m + n) := by rw [mulM, powM, powM, ← Qt, ← Qn, powM]
theorem powM_succ (f : Int) (x n : Nat) : mulM f (powM f x n) x = powM f x (n + 1) := by rw [mulM, powM, Nat.mod_mul_mod, ← z9, powM]
theorem nv_pow {f : Int} (hf : f = 1 ∨ f = 2 ∨ f = 3 ∨ f = 4) (x n : Nat) : nv (nd (powM f x n)) = powM f x n := nv_nd (powM_lt hf x n)
def MulOk (f : Int) : Prop := ∀ (w : World) (a b : List UInt64), zc a = 4 → zc b = 4 → Calls zB 24 #[.int .i64 f, .agg (zg (zh a)), .agg (zg (zh b))] w fun e w' => e = .returned (.agg (zg (zh (nd (mulM f (nv a) (nv b)))))) ∧ Ev w [] w' []
def RMulOk (f : Int) : Prop := ∀ (w : World) (a b : List UInt64), zc a = 4 → zc b = 4 → Calls zB 28 #[.int .i64 f, .agg (zg (zh a)), .agg (zg (zh b))] w fun e w' => e = .returned (.agg (zg (zh (nd (mulM f (nv a) (nv b)))))) ∧ Ev w [] w' []
theorem rmulOk {f : Int} (hf : f = 1 ∨ f = 2 ∨ f = 3 ∨ f = 4) (hL : LeftOk f) : RMulOk f := fun w a b ha hb => rmul_go w f hf hL a b ha hb
theorem bits_at {e : List UInt64} {j s t : Nat} (h : s + t ≤ 64) (h0 : s < 64) : (za e j 0 >>> zb s).toNat % 2 ^ t = nv e / 2 ^ (64 * j + s) % 2 ^ t := by
  have hs : (zb s).toNat % 64 = s := by rw [Jc]; omega
  have hp : (2 : Nat) ^ (64 * j + s) = 18446744073709551616 ^ j * 2 ^ s := by rw [Qn, QM]
  rw [Q3, hs, dv_dig, Qx, hp, ← Zv]
  show _ = dv _ _ / _ / _ % _
  generalize dv 18446744073709551616 e / 18446744073709551616 ^ j = d
  have hB : 18446744073709551616 = 2 ^ s * 2 ^ (64 - s) := by rw [← Qn, show s + (64 - s) = 64 by omega]
  conv => lhs; rw [hB]
  rw [Y7, Ka]
  exact ⟨2 ^ (64 - s - t), by rw [← Qn]; congr 1; omega⟩
theorem bit_at (e : List UInt64) (i : Nat) : (za e (i / 64) 0 >>> zb (i % 64) &&& 1).toNat = nv e / 2 ^ i % 2 := by
  have h := bits_at (e := e) (j := i / 64) (s := i % 64) (t := 1) (by omega) (by omega)
  rw [show 64 * (i / 64) + i % 64 = i by omega] at h
  rw [Ys, show (1 : UInt64).toNat = 1 from rfl, Nat.and_one_is_mod]
  exact h
theorem nib_at (e : List UInt64) (i : Nat) : (za e (i / 16) 0 >>> zb (4 * (i % 16)) &&& 15).toNat = nv e / 16 ^ i % 16 := by
  have h := bits_at (e := e) (j := i / 16) (s := 4 * (i % 16)) (t := 4) (by omega) (by omega)
  rw [show 64 * (i / 16) + 4 * (i % 16) = 4 * i by omega, QM] at h
  rw [Ys, show (15 : UInt64).toNat = 2 ^ 4 - 1 from rfl, Nat.and_two_pow_sub_one_eq_mod]
  exact h
theorem half_step (n : Nat) {i : Nat} (h : 1 ≤ i) : n / 2 ^ (i - 1) = 2 * (n / 2 ^ i) + n / 2 ^ (i - 1) % 2 := by
  have e : 2 ^ i = 2 ^ (i - 1) * 2 := by rw [← z9]; congr 1; omega
  rw [e, ← Zv]
  omega
theorem nib_step (n : Nat) {i : Nat} (h : 1 ≤ i) : n / 16 ^ (i - 1) = 2 ^ 4 * (n / 16 ^ i) + n / 16 ^ (i - 1) % 16 := by
  have e : 16 ^ i = 16 ^ (i - 1) * 16 := by rw [← z9]; congr 1; omega
  rw [e, ← Zv]
  omega
theorem bit_no {f : Int} (hf : f = 1 ∨ f = 2 ∨ f = 3 ∨ f = 4) {A E q : Nat} {b : UInt64} (hq : 1 ≤ q) (hb : b.toNat = E / 2 ^ (q - 1) % 2) (hc : ¬ ((b.toNat : Nat) : Int) = (1 : Int)) : nd (mulM f (nv (nd (powM f A (E / 2 ^ q)))) (nv (nd (powM f A (E / 2 ^ q))))) = nd (powM f A (E / 2 ^ (q - 1))) := by
  rw [nv_pow hf, powM_add, half_step E hq]
  congr 2
  omega
theorem bit_yes {f : Int} (hf : f = 1 ∨ f = 2 ∨ f = 3 ∨ f = 4) {a : List UInt64} {E q : Nat} {b : UInt64} (hq : 1 ≤ q) (hb : b.toNat = E / 2 ^ (q - 1) % 2) (hc : ((b.toNat : Nat) : Int) = (1 : Int)) : nd (mulM f (nv (nd (mulM f (nv (nd (powM f (nv a) (E / 2 ^ q)))) (nv (nd (powM f (nv a) (E / 2 ^ q))))))) (nv a)) = nd (powM f (nv a) (E / 2 ^ (q - 1))) := by
  rw [nv_pow hf, powM_add, nv_pow hf, powM_succ, half_step E hq]
  congr 2
  omega
theorem nib_no {f : Int} {A E q : Nat} {b : UInt64} (hq : 1 ≤ q) (hb : b.toNat = E / 16 ^ (q - 1) % 16) (hc : ((b.toNat : Nat) : Int) = (0 : Int)) : nd (powM f A (2 ^ 4 * (E / 16 ^ q))) = nd (powM f A (E / 16 ^ (q - 1))) := by
  rw [nib_step E hq]
  congr 2
  omega
theorem nib_yes {f : Int} (hf : f = 1 ∨ f = 2 ∨ f = 3 ∨ f = 4) {A E q : Nat} {b : UInt64} (hq : 1 ≤ q) (hb : b.toNat = E / 16 ^ (q - 1) % 16) {L : List UInt64} (hT : ∀ j, j < 16 → zm 4 (zo (j * 4) L) = nd (powM f A j)) : nd (mulM f (nv (nd (powM f A (2 ^ 4 * (E / 16 ^ q))))) (nv (zm 4 (zo (b.toNat * 4) L)))) = nd (powM f A (E / 16 ^ (q - 1))) := by
  rw [hT _ (by omega), nv_pow hf, nv_pow hf, powM_add, nib_step E hq]
  congr 2
  omega
theorem sq_step {f : Int} (hf : f = 1 ∨ f = 2 ∨ f = 3 ∨ f = 4) {A N k : Nat} : nd (mulM f (nv (nd (powM f A (2 ^ k * N)))) (nv (nd (powM f A (2 ^ k * N))))) = nd (powM f A (2 ^ (k + 1) * N)) := by
  rw [nv_pow hf, powM_add, z9]
  congr 2
  rw [Nat.mul_right_comm]
  omega
theorem u64s_sub (m o : Nat) (l : List UInt64) : ((zh l).drop o).take m = zh (zm m (zo o l)) := by simp [zh, Yh, YW]
theorem u64s_put (m o : Nat) (l x : List UInt64) : (zh l).take o ++ zh x ++ (zh l).drop (o + m) = zh (zm o l ++ x ++ zo (o + m) l) := by simp [zh, Yh, YW]
theorem sub_len {α : Type} {l : List α} {n m o : Nat} (h : l.length = n) (h2 : o + m ≤ n) : (zm m (zo o l)).length = m := by rw [zs, zy]; omega
theorem put_len {α : Type} {l x : List α} {n m o : Nat} (h : l.length = n) (hx : x.length = m) (h2 : o + m ≤ n) : (zm o l ++ x ++ zo (o + m) l).length = n := by rw [zH, zH, zs, zy]; omega
theorem tab_new {α : Type} {l x : List α} {i : Nat} (hx : x.length = 4) (h : i * 4 + 4 ≤ l.length) : zm 4 (zo (i * 4) (zm (i * 4) l ++ x ++ zo (i * 4 + 4) l)) = x := by
  rw [QK, List.drop_left' (by rw [zs]; omega), List.take_left' hx]
theorem tab_old {α : Type} {l x : List α} {i j : Nat} (hj : j < i) (h : i * 4 + 4 ≤ l.length) : zm 4 (zo (j * 4) (zm (i * 4) l ++ x ++ zo (i * 4 + 4) l)) = zm 4 (zo (j * 4) l) := by
  rw [QK, List.drop_append_of_le_length (by rw [zs]; omega), List.take_append_of_le_length (by rw [zy, zs]; omega), List.drop_take, List.take_take, Nat.min_eq_left (by omega)]
theorem tab_first {f : Int} (hf : f = 1 ∨ f = 2 ∨ f = 3 ∨ f = 4) {A : Nat} {x : List UInt64} (hx : x = [1, 0, 0, 0]) : ∀ j, j < 1 → zm 4 (zo (j * 4) (zm 0 (zf 64 (0 : UInt64)) ++ x ++ zo (0 + 4) (zf 64 (0 : UInt64)))) = nd (powM f A j) := by
  intro j hj
  have e : j = 0 := by omega
  subst e
  rw [powM_zero hf, hx]
  decide
theorem tab_step {f : Int} (hf : f = 1 ∨ f = 2 ∨ f = 3 ∨ f = 4) {a L : List UInt64} {i : Nat} (h1 : 1 ≤ i) (hL : L.length = 64) (hi : i < 16) (hT : ∀ j, j < i → zm 4 (zo (j * 4) L) = nd (powM f (nv a) j)) : ∀ j, j < i + 1 → zm 4 (zo (j * 4) (zm (i * 4) L ++ nd (mulM f (nv (zm 4 (zo ((i - 1) * 4) L))) (nv a)) ++ zo (i * 4 + 4) L)) = nd (powM f (nv a) j) := by
  intro j hj
  by_cases e : j = i
  · subst e
    rw [tab_new (zl _ _) (by omega), hT (j - 1) (by omega), nv_pow hf, powM_succ]
    congr 2
    omega
  · rw [tab_old (by omega) (by omega), hT j (by omega)]
theorem div_top {e : List UInt64} (he : e.length = 4) : nv e / 2 ^ 256 = 0 := YJ (Qv he)
theorem div_top4 {e : List UInt64} (he : e.length = 4) : nv e / 16 ^ 64 = 0 := by rw [show (16 : Nat) ^ 64 = 2 ^ 256 by decide]; exact div_top he
theorem inv_e {f : Int} (hf : f = 1 ∨ f = 2 ∨ f = 3 ∨ f = 4) : nv (nd (nv (nd (mF f)) + zY - nv [2, 0, 0, 0])) = mF f - 2 := by
  have h1 := mF_pos hf
  have h2 := mF_lt f
  rw [nv_mF, Ju, show nv [2, 0, 0, 0] = 2 from rfl]
  simp only [zY] at *
  omega
theorem rexp_go (w : World) (f : Int) (hf : f = 1 ∨ f = 2 ∨ f = 3 ∨ f = 4) (hR : RMulOk f) (a g : List UInt64) (ha : zc a = 4) (hg : zc g = 4) : Calls zB 105 #[.int .i64 f, .agg (zg (zh a)), .agg (zg (zh g))] w fun e w' => e = .returned (.agg (zg (zh (nd (powM f (nv a) (nv g)))))) ∧ Ev w [] w' [] := by
 refine d_0 [(0, .int .i64 f), (1, .agg (zg (zh a))), (2, .agg (zg (zh g)))] 38 Tryz.func105 Tryz.ntmps105 (Heap.nil _) fun E0 E1 E2 => wp_seq <| zk <| f_o <| m_m 33 (zh a) E1 E2 fun _ _ Eo E3 E4 => f_o <| m_m 33 (zh g) E3 E4 fun _ _ Eh E5 Ep => f_o <| m_z 33 (zh (zf 4 0)) E5 Ep fun _ _ Eb Eq Er => f_e <| ze <| wp_seq <| zk <| d_k [0,4,5,6,10] [] 1 Eq fun _ Es => f_o <| c_p Es Er (ris_go_yes _ f hf) fun _ _ Et Eu => ?_
 refine d_e [0,4,5,6,7] [] Et fun _ Ew => ze <| wp_seq <| wp_seq <| d_r [0,4,5,6,13] [] Ew fun _ Ei => ze <| c_f Ei ?_
 refine wp_skip <| ze <| wp_seq <| zk <| d_k [0,4,5,6,15] [] 1 Ei fun _ Ex => f_o <| m_z 33 (zh (zf 4 0)) Ex Eu fun _ _ Ed Ey Ez => f_o <| zZ 3 4 (zh ([1, 0, 0, 0] : List UInt64)) _ Ey Ez rfl (zd (show zc ([1, 0, 0, 0] : List UInt64) = 4 from rfl)) (zd (zi)) (zw _) rfl fun _ _ EA EB => f_e <| ze <| wp_seq <| wp_seq <| d_r [0,4,5,6,8,9] [] EA fun _ EC => ?_
 refine ze <| wp_block <| Z5 (fun ED ac wo => ∃ (q : Nat) (x : List UInt64), ED = (q + 1 : Nat) ∧ Env ac 38 [(0, .int .i64 f), (4, pt Eo), (5, pt Eh), (6, pt Eb), (8, pt Ed), (9, .int .i64 (((q : Nat) : Int) - (1 : Int)))] ∧ Ev w [] wo [.box Ed (zh x) 33, .box Eo (zh a) 33, .box Eh (zh g) 33, .box Eb (zh (zf 4 0)) 33] ∧ (q ≤ 256) ∧ (zc x = 4) ∧ (x = nd (powM f (nv a) (nv g / 2 ^ q)))) ⟨_, 256, ([1, 0, 0, 0] : List UInt64), rfl, EC.sb, EB.pk [3, 0, 1, 2], by omega, by rfl, by rw [div_top hg, powM_zero hf]; decide⟩ ?_
 rintro E6 _ _ ⟨q, x, rfl, EE, Ea, hq, hx, hxe⟩
 refine wp_seq <| wp_seq <| d_r [0,4,5,6,8,9,17] [] EE fun _ Ef => ?_
 refine ze <| c_d (((q : Nat) : Int) - (1 : Int) ≥ (0 : Int)) Ef (fun EF => ?_) (fun EF => ?_)
 ·
  refine wp_skip <| ze <| wp_seq <| wp_block <| wp_seq ?_
  have EG := X9 (t := 9) (v := .int .i64 (((q : Nat) : Int) - (1 : Int))) (u := ni (q - 1)) Ef (congrArg (Value.int .i64) (show ((q : Nat) : Int) - (1 : Int) = ((q - 1 : Nat) : Int) by omega))
  have hbv := bit_at g (q - 1)
  rw [hxe] at Ea
  refine zk <| d_k [0,4,5,6,8,9,20] [] 1 EG fun _ EH => f_o <| Zn 0 4 (zh (nd (powM f (nv a) (nv g / 2 ^ q)))) EH Ea rfl (zd (zl _ _)) fun _ EI => f_o <| Zn 0 4 (zh (nd (powM f (nv a) (nv g / 2 ^ q)))) EI Ea rfl (zd (zl _ _)) fun _ EJ => f_o <| c_p EJ Ea (hR _ (nd (powM f (nv a) (nv g / 2 ^ q))) (nd (powM f (nv a) (nv g / 2 ^ q))) (zl _ _) (zl _ _)) fun _ _ EK EL => f_o <| zZ 0 4 (zh (nd (mulM f (nv (nd (powM f (nv a) (nv g / 2 ^ q)))) (nv (nd (powM f (nv a) (nv g / 2 ^ q))))))) [.box Ed (zh (nd (mulM f (nv (nd (powM f (nv a) (nv g / 2 ^ q)))) (nv (nd (powM f (nv a) (nv g / 2 ^ q))))))) 33, .box Eo (zh a) 33, .box Eh (zh g) 33, .box Eb (zh (zf 4 0)) 33] EK EL rfl (zd (zl _ _)) (zd (zl _ _)) (zw _) rfl fun _ _ EM Ec => f_e <| ze <| wp_seq <| zk <| d_k [0,4,5,6,8,9,25] [(1, g_i .i64 (show IntKind.wrap .i64 (Jl ((q - 1 : Nat) : Int) (64 : Int)) = (((q - 1) / 64 : Nat) : Int) from QN (a := ((q - 1 : Nat) : Int)) (n := q - 1) (m := 64) rfl (by omega)))] 2 EM fun _ EN => ?_
  refine f_o <| q_v (x := Instr.indexAt 33 (pt Eh) (ni ((q - 1) / 64))) (v := .pointer (some ⟨Eh, (q - 1) / 64, none⟩)) EN (zt (e := 31) (sz := 1) (m := 4) (j := (q - 1) / 64) (o := (q - 1) / 64) (by kernel_rfl) (by kernel_rfl) (by omega) (by omega) (by omega) _) fun _ EO => f_o ?_
  have EP : (q - 1) / 64 < zc g := by rw [hg]; omega
  refine m_v 2 ((q - 1) / 64) (zn (za g ((q - 1) / 64) 0)) EO Ec rfl (zC EP) fun _ EQ => d_k [0,4,5,6,8,9,27,29] [(5, g_i .i64 (show Jk ((q - 1 : Nat) : Int) (64 : Int) = (((q - 1) % 64 : Nat) : Int) from Qz (a := ((q - 1 : Nat) : Int)) (n := q - 1) (m := 64) rfl (by omega)))] 6 EQ fun _ ER => f_o <| q_v ER (Q0 (za g ((q - 1) / 64) 0) .i64 ((q - 1) % 64) (by omega) _) fun _ ES => d_e [0,4,5,6,8,9,32] [(7, g_i .u64 (Zp (x := (za g ((q - 1) / 64) 0) >>> zb ((q - 1) % 64)) (y := (1 : UInt64)) rfl rfl))] ES fun _ Eg => ?_
  refine ze <| c_e ((zA (((za g ((q - 1) / 64) 0) >>> zb ((q - 1) % 64)) &&& (1 : UInt64)) : Nat) : Int) (1 : Int) Eg (fun ET => ?_) (fun ET => ?_)
  ·
   refine zk <| d_k [0,4,5,6,8,9,33] [] 1 Eg fun _ EU => f_o <| Zn 0 4 (zh (nd (mulM f (nv (nd (powM f (nv a) (nv g / 2 ^ q)))) (nv (nd (powM f (nv a) (nv g / 2 ^ q))))))) EU Ec rfl (zd (zl _ _)) fun _ EV => f_o <| Zn 1 4 (zh a) EV Ec rfl (zd ha) fun _ EW => f_o <| c_p EW Ec (hR _ (nd (mulM f (nv (nd (powM f (nv a) (nv g / 2 ^ q)))) (nv (nd (powM f (nv a) (nv g / 2 ^ q)))))) a (zl _ _) ha) fun _ _ EX EY => f_o <| zZ 0 4 (zh (nd (mulM f (nv (nd (mulM f (nv (nd (powM f (nv a) (nv g / 2 ^ q)))) (nv (nd (powM f (nv a) (nv g / 2 ^ q))))))) (nv a)))) _ EX EY rfl (zd (zl _ _)) (zd (zl _ _)) (zw _) rfl fun _ _ EZ Ej => f_e <| zx <| ze <| d_r [0,4,5,6,8,9] [(1, g_n (w_r (e := ((q - 1 : Nat) : Int) - (1 : Int)) (x := ((q - 1 : Nat) : Int) - (1 : Int)) (by omega)))] EZ fun _ Ek => ?_
   refine ze <| ⟨_, ⟨q - 1, (nd (mulM f (nv (nd (mulM f (nv (nd (powM f (nv a) (nv g / 2 ^ q)))) (nv (nd (powM f (nv a) (nv g / 2 ^ q))))))) (nv a))), rfl, Ek.sb, Ej.pk [0, 1, 2, 3], by omega, (zl _ _), bit_yes hf (by omega) hbv (by assumption)⟩, ?_⟩
   omega
  refine wp_skip <| zx <| ze <| d_r [0,4,5,6,8,9] [(1, g_n (w_r (e := ((q - 1 : Nat) : Int) - (1 : Int)) (x := ((q - 1 : Nat) : Int) - (1 : Int)) (by omega)))] Eg fun _ El => ze <| ⟨_, ⟨q - 1, (nd (mulM f (nv (nd (powM f (nv a) (nv g / 2 ^ q)))) (nv (nd (powM f (nv a) (nv g / 2 ^ q)))))), rfl, El.sb, Ec.pk [0, 1, 2, 3], by omega, (zl _ _), bit_no hf (by omega) hbv (by assumption)⟩, ?_⟩
  omega
 refine wp_exit <| zD <| zD <| zP <| ze <| wp_seq ?_
 rw [hxe] at Ea
 refine zk <| f_o <| Zn 0 4 (zh (nd (powM f (nv a) (nv g / 2 ^ q)))) Ef Ea rfl (zd (zl _ _)) fun _ Em => f_o <| zZ 3 4 (zh (nd (powM f (nv a) (nv g / 2 ^ q)))) [.box Ed (zh (nd (powM f (nv a) (nv g / 2 ^ q)))) 33, .box Eo (zh a) 33, .box Eh (zh g) 33, .box Eb (zh (nd (powM f (nv a) (nv g / 2 ^ q)))) 33] Em Ea rfl (zd (zl _ _)) (zd (zi)) (zw _) rfl fun _ _ En Ee => f_e <| ze <| wp_ret <| Zf (v := .agg (zg (zh (nd (powM f (nv a) (nv g / 2 ^ q)))))) (t := 6) (T := 33) (ad := ⟨Eb, 0, none⟩) En (by kernel_rfl) (by kernel_rfl) (zF (t := 33) (k := 3) (off := 0) (m := 4) (xs := zh (nd (powM f (nv a) (nv g / 2 ^ q)))) Ee rfl (zr (zd (zl _ _))) (zd (zl _ _)) (by kernel_rfl) (by kernel_rfl)) ?_
 have hq0 : q = 0 := by omega
 subst hq0
 have eq : nd (powM f (nv a) (nv g / 2 ^ 0)) = nd (powM f (nv a) (nv g)) := by rw [Z6, YG]
 exact ⟨by rw [eq], Ee.pk []⟩
theorem exp_go (w : World) (f : Int) (hf : f = 1 ∨ f = 2 ∨ f = 3 ∨ f = 4) (hM : MulOk f) (a g : List UInt64) (ha : zc a = 4) (hg : zc g = 4) : Calls zB 75 #[.int .i64 f, .agg (zg (zh a)), .agg (zg (zh g))] w fun e w' => e = .returned (.agg (zg (zh (nd (powM f (nv a) (nv g)))))) ∧ Ev w [] w' [] := by
 refine d_0 [(0, .int .i64 f), (1, .agg (zg (zh a))), (2, .agg (zg (zh g)))] 62 Tryz.func75 Tryz.ntmps75 (Heap.nil _) fun HE HF HG => wp_seq <| zk <| f_o <| m_m 33 (zh a) HF HG fun _ _ Ef HH HI => f_o <| m_m 33 (zh g) HH HI fun _ _ Eg HJ Hn => f_o <| m_z 33 (zh (zf 4 0)) HJ Hn fun _ _ Ec Ho Hp => f_e <| ze <| wp_seq <| wp_seq <| zk <| d_k [0,4,5,6,12] [] 1 Ho fun _ Hq => f_o <| c_p Hq Hp (is_go_yes _ f hf) fun _ _ Hr Hs => ?_
 refine d_e [0,4,5,6,14] [] Hr fun _ Er => ze <| c_f Er ?_
 refine wp_skip <| ze <| wp_seq <| zk <| f_o <| m_z 132 (zh (zf 64 0)) Er Hs fun _ _ Ea Ht Hu => f_e <| ze <| wp_seq <| zk <| d_k [0,4,5,6,7,16,17] [] 2 Ht fun _ Hv => f_o <| m_g 3 0 4 (zh ([1, 0, 0, 0] : List UInt64)) (zh (zm 0 (zf 64 0) ++ ([1, 0, 0, 0] : List UInt64) ++ zo (0 + 4) (zf 64 0))) _ Hv Hu rfl (zd (show zc ([1, 0, 0, 0] : List UInt64) = 4 from rfl)) (by rw [(zd (zi))]; first | decide | (simp; done)) (zw _) (u64s_put _ _ _ _) rfl fun _ _ Hw Hx => f_e <| ze <| wp_seq <| wp_seq <| d_r [0,4,5,6,7,8] [] Hw fun _ Hy => ?_
 refine ze <| wp_block <| Z5 (fun Hz ac wo => ∃ (i : Nat) (L : List UInt64), Hz = (17 - i : Nat) ∧ Env ac 62 [(0, .int .i64 f), (4, pt Ef), (5, pt Eg), (6, pt Ec), (7, pt Ea), (8, ni i)] ∧ Ev w [] wo [.box Ea (zh L) 132, .box Ef (zh a) 33, .box Eg (zh g) 33, .box Ec (zh (zf 4 0)) 33] ∧ (1 ≤ i) ∧ (i ≤ 16) ∧ (zc L = 64) ∧ (∀ j, j < i → zm 4 (zo (j * 4) L) = nd (powM f (nv a) j))) ⟨_, 1, (zm 0 (zf 64 0) ++ ([1, 0, 0, 0] : List UInt64) ++ zo (0 + 4) (zf 64 0)), rfl, Hy.sb, Hx.pk [3, 0, 1, 2], by omega, by omega, by rfl, tab_first hf rfl⟩ ?_
 rintro HK _ _ ⟨i, L, rfl, HA, En, h1, hi, hL, hT⟩
 refine wp_seq <| wp_seq <| d_r [0,4,5,6,7,8,19] [] HA fun _ Eq => ?_
 refine ze <| c_d (((i : Nat) : Int) < (16 : Int)) Eq (fun HB => ?_) (fun HB => ?_)
 ·
  refine wp_skip <| ze <| wp_seq <| wp_block <| r_c (fun ac wo => Env ac 62 [(0, .int .i64 f), (4, pt Ef), (5, pt Eg), (6, pt Ec), (7, pt Ea), (8, ni i)] ∧ Ev w [] wo [.box Ea (zh (zm (i * 4) L ++ (nd (mulM f (nv (zm 4 (zo ((i - 1) * 4) L))) (nv a))) ++ zo ((i * 4) + 4) L)) 132, .box Ef (zh a) 33, .box Eg (zh g) 33, .box Ec (zh (zf 4 0)) 33]) ?_ ?_
  ·
   refine h_s (fun wv => Ev w [] wv [.box Ea (zh L) 132, .box Ef (zh a) 33]) [9] 10 ?_
   have Ei := En.trans (zS En.heap)
   refine q_s [0,1,2,3] [(3, g_n (w_r (e := ((i : Nat) : Int) - (1 : Int)) (x := ((i - 1 : Nat) : Int)) (by omega)))] 6 Eq (Ei.pk [0, 1]) fun _ Es => q_f 4 (s := Instr.indexAt 132 (pt Ea) (ni (i - 1))) (v := .pointer (some ⟨Ea, (i - 1) * 4, none⟩)) Es (fun _ => zt (e := 33) (sz := 4) (m := 16) (j := i - 1) (o := (i - 1) * 4) (by kernel_rfl) (by kernel_rfl) (by omega) (by omega) (by omega) _) (fun _ => Ei.pk [0, 1]) fun _ Et => q_r 5 (s := Instr.loadAt 33 (.pointer (some ⟨Ea, (i - 1) * 4, none⟩))) (v := .agg (zg (zh (zm 4 (zo ((i - 1) * 4) L))))) Et (fun w hS => zV (m := 4) (cs := zh (zm 4 (zo ((i - 1) * 4) L))) (zd (sub_len hL (by omega))) (by kernel_rfl) (by kernel_rfl) (hS.heap.cells (k := 0) (off := (i - 1) * 4) (m := 4) rfl (u64s_sub _ _ _))) (Ei.pk [0, 1]) fun _ Eu => q_r 6 (s := Instr.loadAt 33 (pt Ef)) (v := .agg (zg (zh a))) Eu (fun w hS => zV (m := 4) (cs := zh a) (zd ha) (by kernel_rfl) (by kernel_rfl) (hS.heap.cells (k := 1) (off := 0) (m := 4) rfl (zr (zd ha)))) (Ei.pk [0, 1]) fun _ Ew => q_t 7 ?_
   refine c_p Ew Ei (hM _ (zm 4 (zo ((i - 1) * 4) L)) a (sub_len hL (by omega)) ha) fun _ _ Ex Ej => ⟨fun _ => Ej.pk [0, 1], ?_⟩
   refine q_f 8 (s := Instr.indexAt 132 (pt Ea) (ni i)) (v := .pointer (some ⟨Ea, i * 4, none⟩)) Ex (fun _ => zt (e := 33) (sz := 4) (m := 16) (j := i) (o := i * 4) (by kernel_rfl) (by kernel_rfl) (by omega) (by omega) (by omega) _) (fun _ => Ej.pk [0, 1]) fun _ Ey => q_t 9 ?_
   refine m_g 0 (i * 4) 4 (zh (nd (mulM f (nv (zm 4 (zo ((i - 1) * 4) L))) (nv a)))) (zh (zm (i * 4) L ++ (nd (mulM f (nv (zm 4 (zo ((i - 1) * 4) L))) (nv a))) ++ zo ((i * 4) + 4) L)) [.box Ea (zh (zm (i * 4) L ++ (nd (mulM f (nv (zm 4 (zo ((i - 1) * 4) L))) (nv a))) ++ zo ((i * 4) + 4) L)) 132, .box Ef (zh a) 33, .box Eg (zh g) 33, .box Ec (zh (zf 4 0)) 33] Ey Ej rfl (zd (zl _ _)) (by rw [(zd hL)]; omega) (zw _) (u64s_put _ _ _ _) rfl fun _ _ Ez EA => ⟨q_y, ?_⟩
   exact h_e ⟨Ez.sb, EA.pk [0, 1, 2, 3]⟩
  rintro _ _ ⟨EB, EC⟩
  refine zx <| ze <| d_r [0,4,5,6,7,8] [(1, g_n (w_a i 1))] EB fun _ ED => ze <| ⟨_, ⟨i + 1, (zm (i * 4) L ++ (nd (mulM f (nv (zm 4 (zo ((i - 1) * 4) L))) (nv a))) ++ zo ((i * 4) + 4) L), rfl, ED.sb, EC.pk [0, 1, 2, 3], by omega, by omega, (put_len hL (zl _ _) (by omega)), tab_step hf h1 hL (by omega) hT⟩, ?_⟩
  omega
 refine wp_exit <| zD <| zD <| zP <| ze <| wp_seq ?_
 have hT16 : ∀ j, j < 16 → zm 4 (zo (j * 4) L) = nd (powM f (nv a) j) := fun j hj => hT j (by omega)
 refine zk <| d_k [0,4,5,6,7,8,31] [] 1 Eq fun _ EE => f_o <| m_a 0 0 4 (zh (zm 4 L)) EE En rfl (by simp [zh, Yh]) (zd (by rw [zs, hL]; decide)) fun _ EF => f_o <| m_z 33 (zh (zf 4 0)) EF En fun _ _ Eb EG EH => f_o <| zZ 4 4 (zh (zm 4 L)) _ EG EH rfl (zd (by rw [zs, hL]; decide)) (zd (zi)) (zw _) rfl fun _ _ EI EJ => f_e <| ze <| wp_seq <| wp_seq <| d_r [0,4,5,6,7,8,9,10] [] EI fun _ EK => ?_
 refine ze <| wp_block <| Z5 (fun EL ac wo => ∃ (q : Nat) (x : List UInt64), EL = (q + 1 : Nat) ∧ Env ac 62 [(0, .int .i64 f), (4, pt Ef), (5, pt Eg), (6, pt Ec), (7, pt Ea), (8, ni i), (9, pt Eb), (10, .int .i64 (((q : Nat) : Int) - (1 : Int)))] ∧ Ev w [] wo [.box Eb (zh x) 33, .box Ea (zh L) 132, .box Ef (zh a) 33, .box Eg (zh g) 33, .box Ec (zh (zf 4 0)) 33] ∧ (q ≤ 64) ∧ (zc x = 4) ∧ (x = nd (powM f (nv a) (nv g / 16 ^ q)))) ⟨_, 64, (zm 4 L), rfl, EK.sb, EJ.pk [4, 0, 1, 2, 3], by omega, (by rw [zs, hL]; decide), by rw [div_top4 hg]; exact hT16 0 (by omega)⟩ ?_
 rintro HC _ _ ⟨q, x, rfl, EM, Eh, hq, hx, hxe⟩
 refine wp_seq <| wp_seq <| d_r [0,4,5,6,7,8,9,10,34] [] EM fun _ Ek => ?_
 refine ze <| c_d (((q : Nat) : Int) - (1 : Int) ≥ (0 : Int)) Ek (fun EN => ?_) (fun EN => ?_)
 ·
  refine wp_skip <| ze <| wp_seq <| wp_block <| wp_seq <| wp_seq ?_
  have EO := X9 (t := 10) (v := .int .i64 (((q : Nat) : Int) - (1 : Int))) (u := ni (q - 1)) Ek (congrArg (Value.int .i64) (show ((q : Nat) : Int) - (1 : Int) = ((q - 1 : Nat) : Int) by omega))
  have hbv := nib_at g (q - 1)
  have HL : (za g ((q - 1) / 16) 0 >>> zb (4 * ((q - 1) % 16)) &&& 15).toNat < 16 := by rw [hbv]; omega
  refine d_r [0,4,5,6,7,8,9,10,37] [] EO fun _ EP => ?_
  refine ze <| wp_block <| Z5 (fun EQ ac wo => ∃ (k : Nat) (y : List UInt64), EQ = (5 - k : Nat) ∧ Env ac 62 [(0, .int .i64 f), (4, pt Ef), (5, pt Eg), (6, pt Ec), (7, pt Ea), (8, ni i), (9, pt Eb), (10, ni (q - 1)), (37, ni k)] ∧ Ev w [] wo [.box Eb (zh y) 33, .box Ea (zh L) 132, .box Ef (zh a) 33, .box Eg (zh g) 33, .box Ec (zh (zf 4 0)) 33] ∧ (k ≤ 4) ∧ (zc y = 4) ∧ (y = nd (powM f (nv a) (2 ^ k * (nv g / 16 ^ q))))) ⟨_, 0, x, rfl, EP.sb, Eh.pk [0, 1, 2, 3, 4], by omega, hx, by rw [hxe, Z6, Nat.one_mul]⟩ ?_
  rintro HD _ _ ⟨k, y, rfl, ER, Ed, hk, hy, hye⟩
  refine wp_seq <| d_r [0,4,5,6,7,8,9,10,37,38] [] ER fun _ El => ?_
  refine ze <| wp_seq <| c_d (((k : Nat) : Int) < (4 : Int)) El (fun ES => ?_) (fun ES => ?_)
  ·
   refine wp_skip <| ze <| wp_seq <| wp_block ?_
   rw [hye] at Ed
   refine zk <| d_k [0,4,5,6,7,8,9,10,37,39] [] 1 El fun _ ET => f_o <| Zn 0 4 (zh (nd (powM f (nv a) (2 ^ k * (nv g / 16 ^ q))))) ET Ed rfl (zd (zl _ _)) fun _ EU => f_o <| Zn 0 4 (zh (nd (powM f (nv a) (2 ^ k * (nv g / 16 ^ q))))) EU Ed rfl (zd (zl _ _)) fun _ EV => f_o <| c_p EV Ed (hM _ (nd (powM f (nv a) (2 ^ k * (nv g / 16 ^ q)))) (nd (powM f (nv a) (2 ^ k * (nv g / 16 ^ q)))) (zl _ _) (zl _ _)) fun _ _ EW EX => f_o <| zZ 0 4 (zh (nd (mulM f (nv (nd (powM f (nv a) (2 ^ k * (nv g / 16 ^ q))))) (nv (nd (powM f (nv a) (2 ^ k * (nv g / 16 ^ q)))))))) [.box Eb (zh (nd (mulM f (nv (nd (powM f (nv a) (2 ^ k * (nv g / 16 ^ q))))) (nv (nd (powM f (nv a) (2 ^ k * (nv g / 16 ^ q)))))))) 33, .box Ea (zh L) 132, .box Ef (zh a) 33, .box Eg (zh g) 33, .box Ec (zh (zf 4 0)) 33] EW EX rfl (zd (zl _ _)) (zd (zl _ _)) (zw _) rfl fun _ _ EY EZ => f_e <| zx <| ze <| d_r [0,4,5,6,7,8,9,10,37] [(0, g_n (w_a k 1))] EY fun _ E0 => ?_
   refine ze <| ⟨_, ⟨k + 1, (nd (mulM f (nv (nd (powM f (nv a) (2 ^ k * (nv g / 16 ^ q))))) (nv (nd (powM f (nv a) (2 ^ k * (nv g / 16 ^ q))))))), rfl, E0.sb, EZ.pk [0, 1, 2, 3, 4], by omega, (zl _ _), sq_step hf⟩, ?_⟩
   omega
  refine wp_exit <| zD <| zD <| zP <| ze <| wp_seq ?_
  have hk4 : k = 4 := by omega
  rw [hye, hk4] at Ed
  refine zk <| d_k [0,4,5,6,7,8,9,10,37,45] [(1, g_i .i64 (show IntKind.wrap .i64 (Jl ((q - 1 : Nat) : Int) (16 : Int)) = (((q - 1) / 16 : Nat) : Int) from QN (a := ((q - 1 : Nat) : Int)) (n := q - 1) (m := 16) rfl (by omega)))] 2 El fun _ E1 => f_o <| q_v (x := Instr.indexAt 33 (pt Eg) (ni ((q - 1) / 16))) (v := .pointer (some ⟨Eg, (q - 1) / 16, none⟩)) E1 (zt (e := 31) (sz := 1) (m := 4) (j := (q - 1) / 16) (o := (q - 1) / 16) (by kernel_rfl) (by kernel_rfl) (by omega) (by omega) (by omega) _) fun _ E2 => f_o ?_
  have E3 : (q - 1) / 16 < zc g := by rw [hg]; omega
  refine m_v 3 ((q - 1) / 16) (zn (za g ((q - 1) / 16) 0)) E2 Ed rfl (zC E3) fun _ E4 => d_k [0,4,5,6,7,8,9,10,37,47,50] [(5, g_i .i64 (show Jk ((q - 1 : Nat) : Int) (16 : Int) = (((q - 1) % 16 : Nat) : Int) from Qz (a := ((q - 1 : Nat) : Int)) (n := q - 1) (m := 16) rfl (by omega))), (6, g_n (w_m 4 ((q - 1) % 16)))] 7 E4 fun _ E5 => f_o <| q_v E5 (Q0 (za g ((q - 1) / 16) 0) .i64 (4 * ((q - 1) % 16)) (by omega) _) fun _ E6 => d_e [0,4,5,6,7,8,9,10,11,37] [(8, g_i .u64 (Zp (x := (za g ((q - 1) / 16) 0) >>> zb (4 * ((q - 1) % 16))) (y := (15 : UInt64)) rfl rfl))] E6 fun _ E7 => ze <| wp_seq <| d_r [0,4,5,6,7,8,9,10,11,37,54] [] E7 fun _ Em => ?_
  refine ze <| c_n ((zA (((za g ((q - 1) / 16) 0) >>> zb (4 * ((q - 1) % 16))) &&& (15 : UInt64)) : Nat) : Int) (0 : Int) Em (fun E8 => ?_) (fun E8 => ?_)
  ·
   refine r_c (fun ac wo => Env ac 62 [(0, .int .i64 f), (4, pt Ef), (5, pt Eg), (6, pt Ec), (7, pt Ea), (8, ni i), (9, pt Eb), (10, ni (q - 1)), (11, zn (((za g ((q - 1) / 16) 0) >>> zb (4 * ((q - 1) % 16))) &&& (15 : UInt64))), (37, ni k)] ∧ Ev w [] wo [.box Eb (zh (nd (mulM f (nv (nd (powM f (nv a) (2 ^ 4 * (nv g / 16 ^ q))))) (nv (zm 4 (zo ((zA (((za g ((q - 1) / 16) 0) >>> zb (4 * ((q - 1) % 16))) &&& (15 : UInt64))) * 4) L)))))) 33, .box Ea (zh L) 132, .box Ef (zh a) 33, .box Eg (zh g) 33, .box Ec (zh (zf 4 0)) 33]) ?_ ?_
   ·
    refine h_s (fun wv => Ev w [] wv [.box Eb (zh (nd (powM f (nv a) (2 ^ 4 * (nv g / 16 ^ q))))) 33, .box Ea (zh L) 132]) [6] 7 ?_
    have Ee := Ed.trans (zS Ed.heap)
    refine q_s [0] [] 6 Em (Ee.pk [0, 1]) fun _ E9 => q_r 1 (s := Instr.loadAt 33 (pt Eb)) (v := .agg (zg (zh (nd (powM f (nv a) (2 ^ 4 * (nv g / 16 ^ q))))))) E9 (fun w hS => zV (m := 4) (cs := zh (nd (powM f (nv a) (2 ^ 4 * (nv g / 16 ^ q))))) (zd (zl _ _)) (by kernel_rfl) (by kernel_rfl) (hS.heap.cells (k := 0) (off := 0) (m := 4) rfl (zr (zd (zl _ _))))) (Ee.pk [0, 1]) fun _ Ha => q_s [2] [] 4 Ha (Ee.pk [0, 1]) fun _ Hb => q_f 3 (s := Instr.indexAt 132 (pt Ea) (zn (((za g ((q - 1) / 16) 0) >>> zb (4 * ((q - 1) % 16))) &&& (15 : UInt64)))) (v := .pointer (some ⟨Ea, (zA (((za g ((q - 1) / 16) 0) >>> zb (4 * ((q - 1) % 16))) &&& (15 : UInt64))) * 4, none⟩)) Hb (fun _ => zt (e := 33) (sz := 4) (m := 16) (j := zA (((za g ((q - 1) / 16) 0) >>> zb (4 * ((q - 1) % 16))) &&& (15 : UInt64))) (o := (zA (((za g ((q - 1) / 16) 0) >>> zb (4 * ((q - 1) % 16))) &&& (15 : UInt64))) * 4) (by kernel_rfl) (by kernel_rfl) (by omega) (by omega) (by omega) _) (fun _ => Ee.pk [0, 1]) fun _ Hc => q_r 4 (s := Instr.loadAt 33 (.pointer (some ⟨Ea, (zA (((za g ((q - 1) / 16) 0) >>> zb (4 * ((q - 1) % 16))) &&& (15 : UInt64))) * 4, none⟩))) (v := .agg (zg (zh (zm 4 (zo ((zA (((za g ((q - 1) / 16) 0) >>> zb (4 * ((q - 1) % 16))) &&& (15 : UInt64))) * 4) L))))) Hc (fun w hS => zV (m := 4) (cs := zh (zm 4 (zo ((zA (((za g ((q - 1) / 16) 0) >>> zb (4 * ((q - 1) % 16))) &&& (15 : UInt64))) * 4) L))) (zd (sub_len hL (by omega))) (by kernel_rfl) (by kernel_rfl) (hS.heap.cells (k := 1) (off := (zA (((za g ((q - 1) / 16) 0) >>> zb (4 * ((q - 1) % 16))) &&& (15 : UInt64))) * 4) (m := 4) rfl (u64s_sub _ _ _))) (Ee.pk [0, 1]) fun _ Hd => q_t 5 ?_
    refine c_p Hd Ee (hM _ (nd (powM f (nv a) (2 ^ 4 * (nv g / 16 ^ q)))) (zm 4 (zo ((zA (((za g ((q - 1) / 16) 0) >>> zb (4 * ((q - 1) % 16))) &&& (15 : UInt64))) * 4) L)) (zl _ _) (sub_len hL (by omega))) fun _ _ He Eo => ⟨fun _ => Eo.pk [0, 1], ?_⟩
    refine q_t 6 ?_
    refine zZ 0 4 (zh (nd (mulM f (nv (nd (powM f (nv a) (2 ^ 4 * (nv g / 16 ^ q))))) (nv (zm 4 (zo ((zA (((za g ((q - 1) / 16) 0) >>> zb (4 * ((q - 1) % 16))) &&& (15 : UInt64))) * 4) L)))))) _ He Eo rfl (zd (zl _ _)) (zd (zl _ _)) (zw _) rfl fun _ _ Hf Hg => ⟨q_y, ?_⟩
    exact h_e ⟨Hf.sb, Hg.pk [0, 1, 2, 3, 4]⟩
   rintro _ _ ⟨Hh, Hi⟩
   refine zx <| ze <| d_r [0,4,5,6,7,8,9,10,11,37] [(1, g_n (w_r (e := ((q - 1 : Nat) : Int) - (1 : Int)) (x := ((q - 1 : Nat) : Int) - (1 : Int)) (by omega)))] Hh fun _ Hj => ze <| ⟨_, ⟨q - 1, (nd (mulM f (nv (nd (powM f (nv a) (2 ^ 4 * (nv g / 16 ^ q))))) (nv (zm 4 (zo ((zA (((za g ((q - 1) / 16) 0) >>> zb (4 * ((q - 1) % 16))) &&& (15 : UInt64))) * 4) L))))), rfl, Hj.sb, Hi.pk [0, 1, 2, 3, 4], by omega, (zl _ _), nib_yes hf (by omega) hbv hT16⟩, ?_⟩
   omega
  refine wp_skip <| zx <| ze <| d_r [0,4,5,6,7,8,9,10,11,37] [(1, g_n (w_r (e := ((q - 1 : Nat) : Int) - (1 : Int)) (x := ((q - 1 : Nat) : Int) - (1 : Int)) (by omega)))] Em fun _ Hk => ze <| ⟨_, ⟨q - 1, (nd (powM f (nv a) (2 ^ 4 * (nv g / 16 ^ q)))), rfl, Hk.sb, Ed.pk [0, 1, 2, 3, 4], by omega, (zl _ _), nib_no (by omega) hbv (by assumption)⟩, ?_⟩
  omega
 refine wp_exit <| zD <| zD <| zP <| ze <| wp_seq ?_
 rw [hxe] at Eh
 refine zk <| f_o <| Zn 0 4 (zh (nd (powM f (nv a) (nv g / 16 ^ q)))) Ek Eh rfl (zd (zl _ _)) fun _ Hl => f_o <| zZ 4 4 (zh (nd (powM f (nv a) (nv g / 16 ^ q)))) [.box Eb (zh (nd (powM f (nv a) (nv g / 16 ^ q)))) 33, .box Ea (zh L) 132, .box Ef (zh a) 33, .box Eg (zh g) 33, .box Ec (zh (nd (powM f (nv a) (nv g / 16 ^ q)))) 33] Hl Eh rfl (zd (zl _ _)) (zd (zi)) (zw _) rfl fun _ _ Hm Ep => f_e <| ze <| wp_ret <| Zf (v := .agg (zg (zh (nd (powM f (nv a) (nv g / 16 ^ q)))))) (t := 6) (T := 33) (ad := ⟨Ec, 0, none⟩) Hm (by kernel_rfl) (by kernel_rfl) (zF (t := 33) (k := 4) (off := 0) (m := 4) (xs := zh (nd (powM f (nv a) (nv g / 16 ^ q)))) Ep rfl (zr (zd (zl _ _))) (zd (zl _ _)) (by kernel_rfl) (by kernel_rfl)) ?_
 have hq0 : q = 0 := by omega
 subst hq0
 have eq : nd (powM f (nv a) (nv g / 16 ^ 0)) = nd (powM f (nv a) (nv g)) := by rw [Z6, YG]
 exact ⟨by rw [eq], Ep.pk []⟩
theorem inv_go (w : World) (f : Int) (hf : (f = 1 ∨ f = 2 ∨ f = 3 ∨ f = 4)) (hM : MulOk f) (a : List UInt64) (ha : zc a = 4) : Calls zB 42 #[.int .i64 f, .agg (zg (zh a))] w fun e w' => e = .returned (.agg (zg (zh (nd (powM f (nv a) (mF f - 2)))))) ∧ Ev w [] w' [] := by
 refine d_0 [(0, .int .i64 f), (1, .agg (zg (zh a)))] 18 Tryz.func42 Tryz.ntmps42 (Heap.nil _) fun Ex Ey Ez => wp_seq <| zk <| f_o <| m_m 33 (zh a) Ey Ez fun _ _ EA EB EC => f_o <| m_z 33 (zh (zf 4 0)) EB EC fun _ _ Ew ED Ec => f_e <| ze <| wp_seq <| zk <| d_k [0,3,4,8] [] 1 ED fun _ Ed => f_o <| c_p Ed Ec (modulus_go _ f) fun _ _ Ee Ef => d_k [0,3,4,9,10] [] 3 Ee fun _ Eg => ?_
 refine f_o <| c_p Eg Ef (J1 _ (nd (mF f)) ([2, 0, 0, 0] : List UInt64) (zl _ _) (show zc ([2, 0, 0, 0] : List UInt64) = 4 from rfl)) fun _ _ Eh Ei => d_k [0,3,4,12,13] [] 7 Eh fun _ Ej => f_o <| m_z 33 (zh (zf 4 0)) Ej Ei fun _ _ Ek El Em => f_o <| zZ 2 4 (zh (nd (nv (nd (mF f)) + zY - nv ([2, 0, 0, 0] : List UInt64)))) _ El Em rfl (zd (zl _ _)) (zd (zi)) (zw _) rfl fun _ _ En Ea => d_e [0,3,4,5] [] En fun _ Eo => ze <| wp_seq <| zk <| d_k [0,3,4,5,14] [] 1 Eo fun _ Ep => ?_
 refine f_o <| Zn 0 4 (zh a) Ep Ea rfl (zd ha) fun _ Eq => f_o <| Zn 2 4 (zh (nd (nv (nd (mF f)) + zY - nv ([2, 0, 0, 0] : List UInt64)))) Eq Ea rfl (zd (zl _ _)) fun _ Er => f_o <| c_p Er Ea (exp_go _ f hf hM a (nd (nv (nd (mF f)) + zY - nv ([2, 0, 0, 0] : List UInt64))) ha (zl _ _)) fun _ _ Es Et => f_o <| zZ 1 4 (zh (nd (powM f (nv a) (nv (nd (nv (nd (mF f)) + zY - nv ([2, 0, 0, 0] : List UInt64))))))) [.box EA (zh a) 33, .box Ew (zh (nd (powM f (nv a) (nv (nd (nv (nd (mF f)) + zY - nv ([2, 0, 0, 0] : List UInt64))))))) 33, .box Ek (zh (nd (nv (nd (mF f)) + zY - nv ([2, 0, 0, 0] : List UInt64)))) 33] Es Et rfl (zd (zl _ _)) (zd (zi)) (zw _) rfl fun _ _ Eu Eb => f_e <| ze <| wp_ret <| Zf (v := .agg (zg (zh (nd (powM f (nv a) (nv (nd (nv (nd (mF f)) + zY - nv ([2, 0, 0, 0] : List UInt64))))))))) (t := 4) (T := 33) (ad := ⟨Ew, 0, none⟩) Eu (by kernel_rfl) (by kernel_rfl) (zF (t := 33) (k := 1) (off := 0) (m := 4) (xs := zh (nd (powM f (nv a) (nv (nd (nv (nd (mF f)) + zY - nv ([2, 0, 0, 0] : List UInt64))))))) Eb rfl (zr (zd (zl _ _))) (zd (zl _ _)) (by kernel_rfl) (by kernel_rfl)) ?_
 have eq : nd (powM f (nv a) (nv (nd (nv (nd (mF f)) + zY - nv ([2, 0, 0, 0] : List UInt64))))) = nd (powM f (nv a) (mF f - 2)) := by rw [inv_e hf]
 exact ⟨by rw [eq], Eb.pk []⟩
theorem rinv_go (w : World) (f : Int) (hf : (f = 1 ∨ f = 2 ∨ f = 3 ∨ f = 4)) (hR : RMulOk f) (a : List UInt64) (ha : zc a = 4) : Calls zB 77 #[.int .i64 f, .agg (zg (zh a))] w fun e w' => e = .returned (.agg (zg (zh (nd (powM f (nv a) (mF f - 2)))))) ∧ Ev w [] w' [] := by
 refine d_0 [(0, .int .i64 f), (1, .agg (zg (zh a)))] 12 Tryz.func77 Tryz.ntmps77 (Heap.nil _) fun Er Es Et => wp_seq <| zk <| f_o <| m_m 33 (zh a) Es Et fun _ _ Eq Eu Ew => f_o <| m_z 33 (zh (zf 4 0)) Eu Ew fun _ _ Ep Ex Eg => ?_
 refine f_e <| ze <| wp_seq <| r_c (fun ac wo => Env ac 12 [(4, pt Ep)] ∧ Ev w [] wo [.box Ep (zh (nd (powM f (nv a) (nv (nd (nv (nd (mF f)) + zY - nv ([2, 0, 0, 0] : List UInt64))))))) 33]) ?_ ?_
 ·
  refine h_s (fun wv => Ev w [] wv [.box Eq (zh a) 33]) [] 8 ?_
  have Ea := Eg.trans (zS Eg.heap)
  refine q_s [0] [] 7 Ex (Ea.pk [0]) fun _ Eh => q_r 1 (s := Instr.loadAt 33 (pt Eq)) (v := .agg (zg (zh a))) Eh (fun w hS => zV (m := 4) (cs := zh a) (zd ha) (by kernel_rfl) (by kernel_rfl) (hS.heap.cells (k := 0) (off := 0) (m := 4) rfl (zr (zd ha)))) (Ea.pk [0]) fun _ Ei => q_s [2,4] [] 4 Ei (Ea.pk [0]) fun _ Ej => q_t 3 ?_
  refine c_p Ej Ea (rmodulus_go _ f) fun _ _ Ek Eb => ⟨fun _ => Eb.pk [0], ?_⟩
  refine q_t 5 ?_
  refine c_p Ek Eb (rminus_go _ (nd (mF f)) ([2, 0, 0, 0] : List UInt64) (zl _ _) (show zc ([2, 0, 0, 0] : List UInt64) = 4 from rfl)) fun _ _ El Ec => ⟨fun _ => Ec.pk [0], ?_⟩
  refine q_t 6 ?_
  refine c_p El Ec (rexp_go _ f hf hR a (nd (nv (nd (mF f)) + zY - nv ([2, 0, 0, 0] : List UInt64))) ha (zl _ _)) fun _ _ Em Ed => ⟨fun _ => Ed.pk [0], ?_⟩
  refine q_t 7 ?_
  refine zZ 1 4 (zh (nd (powM f (nv a) (nv (nd (nv (nd (mF f)) + zY - nv ([2, 0, 0, 0] : List UInt64))))))) _ Em Ed rfl (zd (zl _ _)) (zd (zi)) (zw _) rfl fun _ _ En Ee => ⟨fun _ => Ee.pk [0], ?_⟩
  exact h_e ⟨En.sb, Ee.pk [1]⟩
 rintro _ _ ⟨Eo, Ef⟩
 refine ze <| wp_ret <| Zf (v := .agg (zg (zh (nd (powM f (nv a) (nv (nd (nv (nd (mF f)) + zY - nv ([2, 0, 0, 0] : List UInt64))))))))) (t := 4) (T := 33) (ad := ⟨Ep, 0, none⟩) Eo (by kernel_rfl) (by kernel_rfl) (zF (t := 33) (k := 0) (off := 0) (m := 4) (xs := zh (nd (powM f (nv a) (nv (nd (nv (nd (mF f)) + zY - nv ([2, 0, 0, 0] : List UInt64))))))) Ef rfl (zr (zd (zl _ _))) (zd (zl _ _)) (by kernel_rfl) (by kernel_rfl)) ?_
 have eq : nd (powM f (nv a) (nv (nd (nv (nd (mF f)) + zY - nv ([2, 0, 0, 0] : List UInt64))))) = nd (powM f (nv a) (mF f - 2)) := by rw [inv_e hf]
 exact ⟨by rw [eq], Ef.pk []⟩
end Go.Proofs.YtlnogkmnklfjlaaGreatDoor
