import Derived.Test.YtpfhmbbiadpbeaaGreatVp3
open Go.Dbr renaming u64s_lenh → za, then_normal → ze, u64s → zg, region_from → zj, uv64 → zm, load_whole → zn, u64s_one → zq, run_indexarr → zs, block_normal → zw, then_exit → zF, u64s_getD → zO, d_cell1 → zU, m_gw → zW, block_exit → zX, loop_once → z8, then_ret → z9, bys_lenh → Zi, u64_add → Zj, m_aw → Zn, run_load1 → Zt, u64_and → Zy, u64_shr → ZC, i64_quo_nat → ZN, i64_rem_nat → ZQ, loop_m → ZT, bys_getD → Z0, u64s_set → Z7, u64_or → Qb, u64_shl → Qi, u64_mul → QK, run_shr_u64 → QU, dv_cons → Y4, run_shl_u64 → Jj, d_cell_tmp → JC, u64_to_u8 → Xq, dv_set → XR, u8_to_u64 → Ki
open List renaming getD → zb, toArray → zc, replicate → zd, length → zf, length_replicate → zh, set → zt, take_of_length_le → zx, take → zD, drop → zG, length_cons → zL, getD_eq_getElem?_getD → zT, length_take → Zg, getElem?_eq_none → ZR, getD_cons_succ → QM, getD_cons_zero → JX, take_succ_cons → X0
open UInt64 renaming ofNat → zi, toNat → zk, toNat_add → ZD, toUInt8 → QF, toNat_mul → Yr
open Go.Proofs.YtpfhmbbiadpbeaaGreat renaming nds_len → zl, W256 → zR, nv_lt → Z1, nv_nd → Z6, low_high → Yu, n32_len → Y6, high32 → Y9, mF_pos → JT, low32 → JW, rminus_go → Xp, n32_dig → Xx, ris_go_yes → Xy, or_shl → Kt
open Go.Proofs.Tryz renaming prog → zB
open Go.Dbr.Ev renaming cellAgg → zC, drew → zN
open Nat renaming mod_eq_of_lt → zQ, lt_trans → z6, mul_comm → Zf, pow_succ → Zh, mul_assoc → Zq, add_mul → ZE, div_div_eq_div_mul → ZJ, pow_add → ZO, add_zero → ZP, pow_zero → ZV, add_assoc → ZX, mod_lt → Z4, lt_or_ge → Qa, zero_mul → Qm, mul_add → Qp, mul_zero → Qw, pow_mul → Qz, mul_le_mul → QI, mul_le_mul_right → QW, pow_le_pow_right → QX, zero_lt_one → Q6, shiftLeft_eq → Ya, lt_of_lt_of_le → Yb, div_one → JM, lt_of_le_of_lt → J7, mul_pos → XN, pow_pos → KD
open UInt8 renaming toUInt64 → Z3, ofNat → Qx
open Int renaming tdiv → Yj, tmod → YG
set_option maxRecDepth 100000
set_option maxHeartbeats 2000000
set_option linter.unusedVariables false
set_option linter.unusedSimpArgs false
namespace Go.Proofs.YtpfhmbbiadpbeaaGreat
open Go.Dbr
theorem dg_eq (a0 a1 a2 a3 : UInt64) : [a0 &&& 4294967295, a0 >>> zi 32, a1 &&& 4294967295, a1 >>> zi 32, a2 &&& 4294967295, a2 >>> zi 32, a3 &&& 4294967295, a3 >>> zi 32, 0, 0, 0, 0, 0, 0, 0, 0, 0] = n32 17 (nv [a0, a1, a2, a3]) := by
  have z : (0 : UInt64).toNat < 4294967296 := by decide
  refine n32_of rfl ?_ ?_
  · simp only [DG.cons]
    exact ⟨JW _, Y9 _, JW _, Y9 _, JW _, Y9 _, JW _, Y9 _, z, z, z, z, z, z, z, z, z, DG.nil⟩
  · have h0 := Yu a0
    have h1 := Yu a1
    have h2 := Yu a2
    have h3 := Yu a3
    rw [nv4]
    simp only [dv, show (0 : UInt64).toNat = 0 from rfl, Qw, ZP]
    omega
theorem num_eq {w : List UInt64} (hl : w.length = 17) (hd : DG w) : [zb w 0 0 ||| (zb w 1 0 <<< zi 32), zb w 2 0 ||| (zb w 3 0 <<< zi 32), zb w 4 0 ||| (zb w 5 0 <<< zi 32), zb w 6 0 ||| (zb w 7 0 <<< zi 32)] = nd (dv 4294967296 w) := by
  refine nv_inj rfl (zl _ _) ?_
  rw [nd_val, nv4, Kt (hd 0) (hd 1), Kt (hd 2) (hd 3), Kt (hd 4) (hd 5), Kt (hd 6) (hd 7)]
  have g0 := hd 0; have g1 := hd 1; have g2 := hd 2; have g3 := hd 3; have g4 := hd 4; have g5 := hd 5; have g6 := hd 6; have g7 := hd 7
  match w, hl with
  | x0 :: x1 :: x2 :: x3 :: x4 :: x5 :: x6 :: x7 :: r, _ =>
    simp only [Y4]
    generalize dv 4294967296 r = R
    simp only [JX, QM, zR] at *
    omega
def dk (l : List UInt64) : Nat → Nat
  | 0 => 0
  | k + 1 => dk l k + (zb l k 0).toNat * 4294967296 ^ k
theorem dk_cons (x : UInt64) (r : List UInt64) : ∀ k, dk (x :: r) (k + 1) = x.toNat + 4294967296 * dk r k
  | 0 => by simp [dk]
  | k + 1 => by
    rw [dk, dk_cons x r k, dk, QM, Zh, Qp, ZX, ← Zq, Zf _ 4294967296]
theorem dk_split : ∀ (l : List UInt64) (k : Nat), dv 4294967296 l = dk l k + 4294967296 ^ k * dv 4294967296 (zG k l)
  | l, 0 => by simp [dk]
  | [], k + 1 => by
    have : ∀ j, dk [] j = 0 := fun j => by
      induction j with
      | zero => rfl
      | succ j ih => rw [dk, ih]; simp
    rw [this]; simp [dv]
  | x :: r, k + 1 => by
    rw [Y4, dk_cons, List.drop_succ_cons, dk_split r k, Qp, ZX, Zh]
    ac_rfl
theorem dk_lt {l : List UInt64} (h : DG l) : ∀ k, dk l k < 4294967296 ^ k
  | 0 => by rw [dk, ZV]; exact Nat.one_pos
  | k + 1 => by
    have h1 := dk_lt h k
    have h2 := h k
    rw [dk, Zh]
    generalize 4294967296 ^ k = q at *
    have : (zb l k 0).toNat * q ≤ 4294967295 * q := QW q (by omega)
    omega
theorem n32_get : ∀ (k n j : Nat), j < k → (zb (n32 k n) j 0).toNat = n / 4294967296 ^ j % 4294967296
  | k + 1, n, 0, _ => by rw [n32, JX, n32_hd, ZV, JM]
  | k + 1, n, j + 1, h => by rw [n32, QM, n32_get k _ j (by omega), ZJ, Zh, Zf]
theorem dk_n32 {k n : Nat} : ∀ j, j ≤ k → dk (n32 k n) j = n % 4294967296 ^ j
  | 0, _ => by rw [ZV, Nat.mod_one]; rfl
  | j + 1, h => by rw [dk, dk_n32 j (by omega), n32_get k n j (by omega), Nat.mod_pow_succ, Zf]
theorem mac32 {p x y c : UInt64} (hp : p.toNat < 4294967296) (hx : x.toNat < 4294967296) (hy : y.toNat < 4294967296) (hc : c.toNat < 4294967296) : (p + x * y + c).toNat = p.toNat + x.toNat * y.toNat + c.toNat := by
  have h : x.toNat * y.toNat ≤ 4294967295 * 4294967295 := QI (by omega) (by omega)
  rw [ZD, ZD, Yr]
  generalize x.toNat * y.toNat = e at *
  omega
theorem mac32' {p x y c : UInt64} (hp : p.toNat < 4294967296) (hx : x.toNat < 4294967296) (hy : y.toNat < 4294967296) (hc : c.toNat < 4294967296) : (p + c + x * y).toNat = p.toNat + x.toNat * y.toNat + c.toNat := by
  have h : x.toNat * y.toNat ≤ 4294967295 * 4294967295 := QI (by omega) (by omega)
  rw [ZD, ZD, Yr]
  generalize x.toNat * y.toNat = e at *
  omega
theorem set32 {w : List UInt64} {j : Nat} {t c : UInt64} {P e : Nat} (hj : j < w.length) (hv : dv 4294967296 w + c.toNat * 4294967296 ^ j = P) (ht : t.toNat = (zb w j 0).toNat + e + c.toNat) :
    dv 4294967296 (zt w j (t &&& 4294967295)) + (t >>> zi 32).toNat * 4294967296 ^ (j + 1) = P + e * 4294967296 ^ j := by
  have h1 := XR 4294967296 (t &&& 4294967295) w j hj
  have h2 := Yu t
  rw [ht] at h2
  have m2 := congrArg (· * 4294967296 ^ j) h2
  simp only [ZE] at m2
  rw [Zh, Zf (4294967296 ^ j), ← Zq, Zf _ 4294967296]
  generalize 4294967296 ^ j = q at *
  omega
theorem times_in {A y w : List UInt64} {B i k : Nat} {c : UInt64} {t : UInt64} (hlw : w.length = 17) (hj : i + k < 17) (hw : DG w) (hA : DG A) (hy : DG y) (hc : c.toNat < 4294967296)
    (hv : dv 4294967296 w + c.toNat * 4294967296 ^ (i + k) = B + dk y k * (zb A i 0).toNat * 4294967296 ^ i) (ht : t = zb w (i + k) 0 + zb A i 0 * zb y k 0 + c) :
    dv 4294967296 (zt w (i + k) (t &&& 4294967295)) + (t >>> zi 32).toNat * 4294967296 ^ (i + (k + 1)) = B + dk y (k + 1) * (zb A i 0).toNat * 4294967296 ^ i := by
  rw [← ZX, set32 (by omega) hv (by rw [ht]; exact mac32 (hw _) (hA _) (hy _) hc), dk, ZE, ZE, ZX]
  congr 2
  rw [ZO]
  ac_rfl
theorem times_out {x y w : List UInt64} {b i : Nat} {c : UInt64} (hlw : w.length = 17) (hi : i < 8) (hz : zb w (i + 8) 0 = 0) (hb : dk y 8 = b)
    (hv : dv 4294967296 w + c.toNat * 4294967296 ^ (i + 8) = dk x i * b + dk y 8 * (zb x i 0).toNat * 4294967296 ^ i) : dv 4294967296 (zt w (i + 8) c) = dk x (i + 1) * b := by
  have e := XR 4294967296 c w (i + 8) (by omega)
  rw [hz, show (0 : UInt64).toNat = 0 from rfl, Qm, ZP, hv, hb] at e
  rw [e, dk, ZE]
  congr 1
  ac_rfl
theorem zeros17 (j : Nat) : zb (zd 17 (0 : UInt64)) j 0 = 0 := by
  simp only [zT, List.getElem?_replicate]
  split <;> rfl
theorem d8w : 4294967296 ^ 8 = zR := by decide
theorem dk_nv {a : List UInt64} (ha : a.length = 4) : dk (n32 17 (nv a)) 8 = nv a := by rw [dk_n32 8 (by decide), d8w, zQ (Z1 ha)]
theorem DG.rep : DG (zd 17 (0 : UInt64)) := fun j => by rw [zeros17]; decide
theorem digits4 (w : World) (a0 a1 a2 a3 : UInt64) : Calls zB 70 #[.agg #[zm a0, zm a1, zm a2, zm a3]] w fun e w' => e = .returned (.agg (zc (zg (n32 17 (nv [a0, a1, a2, a3]))))) ∧ Ev w [] w' [] := by
 refine d_0 [(0, .agg #[zm a0, zm a1, zm a2, zm a3])] 25 Tryz.func70 Tryz.ntmps70 (Heap.nil _) fun Hg Hh Hi => wp_seq <| zj <| f_o <| m_m 24 [zm a0, zm a1, zm a2, zm a3] Hh Hi fun _ _ EE Hj Hk => f_o <| m_z 82 (zg (zd 17 0)) Hj Hk fun _ _ Ef Hl EF => f_e <| ze <| wp_seq <| zj <| f_o <| m_z 82 (zg (zd 17 0)) Hl EF fun _ _ Ea EG Eg => f_e <| ze <| wp_seq <| d_s [1,2,3,4] [] EG fun _ EH => ?_
 refine wp_block <| loop_enter ?_
 refine z8 <| wp_seq <| d_s [1,2,3,4,6] [] EH fun _ Eh => c_t Eh ?_
 refine wp_skip <| ze <| wp_seq <| wp_block <| wp_seq <| zj <| d_k [1,2,3,4,10,12] [] 4 Eh fun _ EI => f_o <| m_l 0 EI Eg fun _ EJ => d_k [1,2,3,4,14,15] [(5, g_i .u64 (Zy (x := a0) (y := (4294967295 : UInt64)) rfl rfl))] 7 EJ fun _ EK => f_o ?_
 have EL : 0 < zf (zd 17 0) := by rw [(zh)]; omega
 refine m_t 2 0 (zm (a0 &&& (4294967295 : UInt64))) _ EK Eg rfl (zO EL) (Z7 _ _ _) rfl fun _ _ EM Ei => f_e <| ze <| zj <| d_k [1,2,3,4,18,20] [] 5 EM fun _ EN => f_o <| m_l 0 EN Ei fun _ EO => d_k [1,2,3,4,22,23] [(6, g_i .u64 (ZC (x := a0) (n := 32) rfl (by decide)))] 8 EO fun _ EP => f_o ?_
 have EQ : 1 < zf (zt (zd 17 0) 0 (a0 &&& (4294967295 : UInt64))) := by rw [(List.length_set.trans (zh))]; omega
 refine m_t 2 1 (zm (a0 >>> zi 32)) [.box EE [zm a0, zm a1, zm a2, zm a3] 24, .box Ef (zg (zd 17 0)) 82, .box Ea (zg (zt (zt (zd 17 0) 0 (a0 &&& (4294967295 : UInt64))) 1 (a0 >>> zi 32))) 82] EP Ei rfl (zO EQ) (Z7 _ _ _) rfl fun _ _ ER Ej => f_e <| zw <| ze <| d_r [1,2,3,4] [] ER fun _ ES => ?_
 refine ze <| z8 <| wp_seq <| d_s [1,2,3,4,6] [] ES fun _ Ek => c_t Ek ?_
 refine wp_skip <| ze <| wp_seq <| wp_block <| wp_seq <| zj <| d_k [1,2,3,4,10,12] [] 4 Ek fun _ ET => f_o <| m_l 0 ET Ej fun _ EU => d_k [1,2,3,4,14,15] [(5, g_i .u64 (Zy (x := a1) (y := (4294967295 : UInt64)) rfl rfl))] 7 EU fun _ EV => f_o ?_
 have EW : 2 < zf (zt (zt (zd 17 0) 0 (a0 &&& (4294967295 : UInt64))) 1 (a0 >>> zi 32)) := by rw [(List.length_set.trans (List.length_set.trans (zh)))]; omega
 refine m_t 2 2 (zm (a1 &&& (4294967295 : UInt64))) _ EV Ej rfl (zO EW) (Z7 _ _ _) rfl fun _ _ EX El => f_e <| ze <| zj <| d_k [1,2,3,4,18,20] [] 5 EX fun _ EY => f_o <| m_l 0 EY El fun _ EZ => d_k [1,2,3,4,22,23] [(6, g_i .u64 (ZC (x := a1) (n := 32) rfl (by decide)))] 8 EZ fun _ E0 => f_o ?_
 have E1 : 3 < zf (zt (zt (zt (zd 17 0) 0 (a0 &&& (4294967295 : UInt64))) 1 (a0 >>> zi 32)) 2 (a1 &&& (4294967295 : UInt64))) := by rw [(List.length_set.trans (List.length_set.trans (List.length_set.trans (zh))))]; omega
 refine m_t 2 3 (zm (a1 >>> zi 32)) [.box EE [zm a0, zm a1, zm a2, zm a3] 24, .box Ef (zg (zd 17 0)) 82, .box Ea (zg (zt (zt (zt (zt (zd 17 0) 0 (a0 &&& (4294967295 : UInt64))) 1 (a0 >>> zi 32)) 2 (a1 &&& (4294967295 : UInt64))) 3 (a1 >>> zi 32))) 82] E0 El rfl (zO E1) (Z7 _ _ _) rfl fun _ _ E2 Em => f_e <| zw <| ze <| d_r [1,2,3,4] [] E2 fun _ E3 => ?_
 refine ze <| z8 <| wp_seq <| d_s [1,2,3,4,6] [] E3 fun _ En => c_t En ?_
 refine wp_skip <| ze <| wp_seq <| wp_block <| wp_seq <| zj <| d_k [1,2,3,4,10,12] [] 4 En fun _ E4 => f_o <| m_l 0 E4 Em fun _ E5 => d_k [1,2,3,4,14,15] [(5, g_i .u64 (Zy (x := a2) (y := (4294967295 : UInt64)) rfl rfl))] 7 E5 fun _ E6 => f_o ?_
 have E7 : 4 < zf (zt (zt (zt (zt (zd 17 0) 0 (a0 &&& (4294967295 : UInt64))) 1 (a0 >>> zi 32)) 2 (a1 &&& (4294967295 : UInt64))) 3 (a1 >>> zi 32)) := by rw [(List.length_set.trans (List.length_set.trans (List.length_set.trans (List.length_set.trans (zh)))))]; omega
 refine m_t 2 4 (zm (a2 &&& (4294967295 : UInt64))) _ E6 Em rfl (zO E7) (Z7 _ _ _) rfl fun _ _ E8 Eo => f_e <| ze <| zj <| d_k [1,2,3,4,18,20] [] 5 E8 fun _ E9 => f_o <| m_l 0 E9 Eo fun _ Ha => d_k [1,2,3,4,22,23] [(6, g_i .u64 (ZC (x := a2) (n := 32) rfl (by decide)))] 8 Ha fun _ Hb => f_o ?_
 have Hc : 5 < zf (zt (zt (zt (zt (zt (zd 17 0) 0 (a0 &&& (4294967295 : UInt64))) 1 (a0 >>> zi 32)) 2 (a1 &&& (4294967295 : UInt64))) 3 (a1 >>> zi 32)) 4 (a2 &&& (4294967295 : UInt64))) := by rw [(List.length_set.trans (List.length_set.trans (List.length_set.trans (List.length_set.trans (List.length_set.trans (zh))))))]; omega
 refine m_t 2 5 (zm (a2 >>> zi 32)) [.box EE [zm a0, zm a1, zm a2, zm a3] 24, .box Ef (zg (zd 17 0)) 82, .box Ea (zg (zt (zt (zt (zt (zt (zt (zd 17 0) 0 (a0 &&& (4294967295 : UInt64))) 1 (a0 >>> zi 32)) 2 (a1 &&& (4294967295 : UInt64))) 3 (a1 >>> zi 32)) 4 (a2 &&& (4294967295 : UInt64))) 5 (a2 >>> zi 32))) 82] Hb Eo rfl (zO Hc) (Z7 _ _ _) rfl fun _ _ Hd Ep => f_e <| zw <| ze <| d_r [1,2,3,4] [] Hd fun _ He => ?_
 refine ze <| z8 <| wp_seq <| d_s [1,2,3,4,6] [] He fun _ Eq => c_t Eq ?_
 refine wp_skip <| ze <| wp_seq <| wp_block <| wp_seq <| zj <| d_k [1,2,3,4,10,12] [] 4 Eq fun _ Hf => f_o <| m_l 0 Hf Ep fun _ Er => d_k [1,2,3,4,14,15] [(5, g_i .u64 (Zy (x := a3) (y := (4294967295 : UInt64)) rfl rfl))] 7 Er fun _ Es => f_o ?_
 have Et : 6 < zf (zt (zt (zt (zt (zt (zt (zd 17 0) 0 (a0 &&& (4294967295 : UInt64))) 1 (a0 >>> zi 32)) 2 (a1 &&& (4294967295 : UInt64))) 3 (a1 >>> zi 32)) 4 (a2 &&& (4294967295 : UInt64))) 5 (a2 >>> zi 32)) := by rw [(List.length_set.trans (List.length_set.trans (List.length_set.trans (List.length_set.trans (List.length_set.trans (List.length_set.trans (zh)))))))]; omega
 refine m_t 2 6 (zm (a3 &&& (4294967295 : UInt64))) _ Es Ep rfl (zO Et) (Z7 _ _ _) rfl fun _ _ Eu Eb => f_e <| ze <| zj <| d_k [1,2,3,4,18,20] [] 5 Eu fun _ Ew => f_o <| m_l 0 Ew Eb fun _ Ex => d_k [1,2,3,4,22,23] [(6, g_i .u64 (ZC (x := a3) (n := 32) rfl (by decide)))] 8 Ex fun _ Ey => f_o ?_
 have Ez : 7 < zf (zt (zt (zt (zt (zt (zt (zt (zd 17 0) 0 (a0 &&& (4294967295 : UInt64))) 1 (a0 >>> zi 32)) 2 (a1 &&& (4294967295 : UInt64))) 3 (a1 >>> zi 32)) 4 (a2 &&& (4294967295 : UInt64))) 5 (a2 >>> zi 32)) 6 (a3 &&& (4294967295 : UInt64))) := by rw [(List.length_set.trans (List.length_set.trans (List.length_set.trans (List.length_set.trans (List.length_set.trans (List.length_set.trans (List.length_set.trans (zh))))))))]; omega
 refine m_t 2 7 (zm (a3 >>> zi 32)) [.box EE [zm a0, zm a1, zm a2, zm a3] 24, .box Ef (zg (zd 17 0)) 82, .box Ea (zg (zt (zt (zt (zt (zt (zt (zt (zt (zd 17 0) 0 (a0 &&& (4294967295 : UInt64))) 1 (a0 >>> zi 32)) 2 (a1 &&& (4294967295 : UInt64))) 3 (a1 >>> zi 32)) 4 (a2 &&& (4294967295 : UInt64))) 5 (a2 >>> zi 32)) 6 (a3 &&& (4294967295 : UInt64))) 7 (a3 >>> zi 32))) 82] Ey Eb rfl (zO Ez) (Z7 _ _ _) rfl fun _ _ EA Ec => f_e <| zw <| ze <| d_r [1,2,3,4] [] EA fun _ EB => ?_
 refine ze <| z8 <| wp_seq <| d_s [1,2,3,4,6] [] EB fun _ Ed => c_f Ed ?_
 refine wp_exit <| zF <| zF <| zX <| ze <| wp_seq <| zj <| f_o <| Zn 2 17 (zg (zt (zt (zt (zt (zt (zt (zt (zt (zd 17 0) 0 (a0 &&& (4294967295 : UInt64))) 1 (a0 >>> zi 32)) 2 (a1 &&& (4294967295 : UInt64))) 3 (a1 >>> zi 32)) 4 (a2 &&& (4294967295 : UInt64))) 5 (a2 >>> zi 32)) 6 (a3 &&& (4294967295 : UInt64))) 7 (a3 >>> zi 32))) Ed Ec rfl (za (List.length_set.trans (List.length_set.trans (List.length_set.trans (List.length_set.trans (List.length_set.trans (List.length_set.trans (List.length_set.trans (List.length_set.trans (zh)))))))))) fun _ EC => f_o <| zW 1 17 (zg (zt (zt (zt (zt (zt (zt (zt (zt (zd 17 0) 0 (a0 &&& (4294967295 : UInt64))) 1 (a0 >>> zi 32)) 2 (a1 &&& (4294967295 : UInt64))) 3 (a1 >>> zi 32)) 4 (a2 &&& (4294967295 : UInt64))) 5 (a2 >>> zi 32)) 6 (a3 &&& (4294967295 : UInt64))) 7 (a3 >>> zi 32))) _ EC Ec rfl (za (List.length_set.trans (List.length_set.trans (List.length_set.trans (List.length_set.trans (List.length_set.trans (List.length_set.trans (List.length_set.trans (List.length_set.trans (zh)))))))))) (za (zh)) (zq _) rfl fun _ _ ED Ee => f_e <| ze <| wp_ret <| zU (v := .agg (zc (zg (zt (zt (zt (zt (zt (zt (zt (zt (zd 17 0) 0 (a0 &&& (4294967295 : UInt64))) 1 (a0 >>> zi 32)) 2 (a1 &&& (4294967295 : UInt64))) 3 (a1 >>> zi 32)) 4 (a2 &&& (4294967295 : UInt64))) 5 (a2 >>> zi 32)) 6 (a3 &&& (4294967295 : UInt64))) 7 (a3 >>> zi 32))))) (t := 2) (T := 82) (ad := ⟨Ef, 0, none⟩) ED (by kernel_rfl) (by kernel_rfl) (zC (t := 82) (k := 1) (off := 0) (m := 17) (xs := zg (zt (zt (zt (zt (zt (zt (zt (zt (zd 17 0) 0 (a0 &&& (4294967295 : UInt64))) 1 (a0 >>> zi 32)) 2 (a1 &&& (4294967295 : UInt64))) 3 (a1 >>> zi 32)) 4 (a2 &&& (4294967295 : UInt64))) 5 (a2 >>> zi 32)) 6 (a3 &&& (4294967295 : UInt64))) 7 (a3 >>> zi 32))) Ee rfl (zn (za (List.length_set.trans (List.length_set.trans (List.length_set.trans (List.length_set.trans (List.length_set.trans (List.length_set.trans (List.length_set.trans (List.length_set.trans (zh))))))))))) (za (List.length_set.trans (List.length_set.trans (List.length_set.trans (List.length_set.trans (List.length_set.trans (List.length_set.trans (List.length_set.trans (List.length_set.trans (zh)))))))))) (by kernel_rfl) (by kernel_rfl)) ?_
 have e : zt (zt (zt (zt (zt (zt (zt (zt (zd 17 0) 0 (a0 &&& (4294967295 : UInt64))) 1 (a0 >>> zi 32)) 2 (a1 &&& (4294967295 : UInt64))) 3 (a1 >>> zi 32)) 4 (a2 &&& (4294967295 : UInt64))) 5 (a2 >>> zi 32)) 6 (a3 &&& (4294967295 : UInt64))) 7 (a3 >>> zi 32) = n32 17 (nv [a0, a1, a2, a3]) := dg_eq a0 a1 a2 a3
 rw [e]
 exact ⟨rfl, Ee.pk []⟩
theorem digits_go (w : World) (a : List UInt64) (ha : zf a = 4) : Calls zB 70 #[.agg (zc (zg a))] w fun e w' => e = .returned (.agg (zc (zg (n32 17 (nv a))))) ∧ Ev w [] w' [] := by
  match a, ha with
  | [a0, a1, a2, a3], _ => exact digits4 w a0 a1 a2 a3
theorem number_go (w : World) (x : List UInt64) (hx : zf x = 17) (hd : DG x) : Calls zB 91 #[.agg (zc (zg x))] w fun e w' => e = .returned (.agg (zc (zg (nd (dv 4294967296 x))))) ∧ Ev w [] w' [] := by
 refine d_0 [(0, .agg (zc (zg x)))] 28 Tryz.func91 Tryz.ntmps91 (Heap.nil _) fun ED EE EF => wp_seq <| zj <| f_o <| m_m 82 (zg x) EE EF fun _ _ EK EG EH => f_o <| m_z 24 (zg (zd 4 0)) EG EH fun _ _ EI EJ Ea => f_e <| ze <| wp_seq <| zj <| d_k [1,2,3] [] 1 EJ fun _ Ec => f_o ?_
 have Ed : 0 < zf x := by rw [hx]; omega
 refine m_v 0 0 (zm (zb x 0 0)) Ec Ea rfl (zO Ed) fun _ Ee => d_k [1,2,4,5] [] 3 Ee fun _ Ef => f_o ?_
 have Eg : 1 < zf x := by rw [hx]; omega
 refine m_v 0 1 (zm (zb x 1 0)) Ef Ea rfl (zO Eg) fun _ Eh => d_k [1,2,8,9] [(4, g_i .u64 (Qi (x := zb x 1 0) (n := 32) rfl (by decide))), (5, g_i .u64 (Qb (x := zb x 0 0) (y := (zb x 1 0) <<< zi 32) rfl rfl))] 7 Eh fun _ Ei => f_o ?_
 have Ej : 2 < zf x := by rw [hx]; omega
 refine m_v 0 2 (zm (zb x 2 0)) Ei Ea rfl (zO Ej) fun _ Ek => d_k [1,2,8,10,11] [] 9 Ek fun _ El => f_o ?_
 have Em : 3 < zf x := by rw [hx]; omega
 refine m_v 0 3 (zm (zb x 3 0)) El Ea rfl (zO Em) fun _ En => d_k [1,2,8,14,15] [(10, g_i .u64 (Qi (x := zb x 3 0) (n := 32) rfl (by decide))), (11, g_i .u64 (Qb (x := zb x 2 0) (y := (zb x 3 0) <<< zi 32) rfl rfl))] 13 En fun _ Eo => f_o ?_
 have Ep : 4 < zf x := by rw [hx]; omega
 refine m_v 0 4 (zm (zb x 4 0)) Eo Ea rfl (zO Ep) fun _ Eq => d_k [1,2,8,14,16,17] [] 15 Eq fun _ Er => f_o ?_
 have Es : 5 < zf x := by rw [hx]; omega
 refine m_v 0 5 (zm (zb x 5 0)) Er Ea rfl (zO Es) fun _ Et => d_k [1,2,8,14,20,21] [(16, g_i .u64 (Qi (x := zb x 5 0) (n := 32) rfl (by decide))), (17, g_i .u64 (Qb (x := zb x 4 0) (y := (zb x 5 0) <<< zi 32) rfl rfl))] 19 Et fun _ Eu => f_o ?_
 have Ew : 6 < zf x := by rw [hx]; omega
 refine m_v 0 6 (zm (zb x 6 0)) Eu Ea rfl (zO Ew) fun _ Ex => d_k [2,8,14,20,22,23] [] 21 Ex fun _ Ey => f_o ?_
 have Ez : 7 < zf x := by rw [hx]; omega
 refine m_v 0 7 (zm (zb x 7 0)) Ey Ea rfl (zO Ez) fun _ EA => d_k [2,27] [(22, g_i .u64 (Qi (x := zb x 7 0) (n := 32) rfl (by decide))), (23, g_i .u64 (Qb (x := zb x 6 0) (y := (zb x 7 0) <<< zi 32) rfl rfl))] 25 EA fun _ EB => f_o <| zW 1 4 (zg ([(zb x 0 0) ||| ((zb x 1 0) <<< zi 32), (zb x 2 0) ||| ((zb x 3 0) <<< zi 32), (zb x 4 0) ||| ((zb x 5 0) <<< zi 32), (zb x 6 0) ||| ((zb x 7 0) <<< zi 32)] : List UInt64)) _ EB Ea rfl (za (show zf ([(zb x 0 0) ||| ((zb x 1 0) <<< zi 32), (zb x 2 0) ||| ((zb x 3 0) <<< zi 32), (zb x 4 0) ||| ((zb x 5 0) <<< zi 32), (zb x 6 0) ||| ((zb x 7 0) <<< zi 32)] : List UInt64) = 4 from rfl)) (za (zh)) (zq _) rfl fun _ _ EC Eb => f_e <| ze <| wp_ret <| zU (v := .agg (zc (zg ([(zb x 0 0) ||| ((zb x 1 0) <<< zi 32), (zb x 2 0) ||| ((zb x 3 0) <<< zi 32), (zb x 4 0) ||| ((zb x 5 0) <<< zi 32), (zb x 6 0) ||| ((zb x 7 0) <<< zi 32)] : List UInt64)))) (t := 2) (T := 24) (ad := ⟨EI, 0, none⟩) EC (by kernel_rfl) (by kernel_rfl) (zC (t := 24) (k := 1) (off := 0) (m := 4) (xs := zg ([(zb x 0 0) ||| ((zb x 1 0) <<< zi 32), (zb x 2 0) ||| ((zb x 3 0) <<< zi 32), (zb x 4 0) ||| ((zb x 5 0) <<< zi 32), (zb x 6 0) ||| ((zb x 7 0) <<< zi 32)] : List UInt64)) Eb rfl (zn (za (show zf ([(zb x 0 0) ||| ((zb x 1 0) <<< zi 32), (zb x 2 0) ||| ((zb x 3 0) <<< zi 32), (zb x 4 0) ||| ((zb x 5 0) <<< zi 32), (zb x 6 0) ||| ((zb x 7 0) <<< zi 32)] : List UInt64) = 4 from rfl))) (za (show zf ([(zb x 0 0) ||| ((zb x 1 0) <<< zi 32), (zb x 2 0) ||| ((zb x 3 0) <<< zi 32), (zb x 4 0) ||| ((zb x 5 0) <<< zi 32), (zb x 6 0) ||| ((zb x 7 0) <<< zi 32)] : List UInt64) = 4 from rfl)) (by kernel_rfl) (by kernel_rfl)) ?_
 have e : ([(zb x 0 0) ||| ((zb x 1 0) <<< zi 32), (zb x 2 0) ||| ((zb x 3 0) <<< zi 32), (zb x 4 0) ||| ((zb x 5 0) <<< zi 32), (zb x 6 0) ||| ((zb x 7 0) <<< zi 32)] : List UInt64) = nd (dv 4294967296 x) := num_eq hx hd
 have e2 : Ending.returned (.agg (zc (zg ([(zb x 0 0) ||| ((zb x 1 0) <<< zi 32), (zb x 2 0) ||| ((zb x 3 0) <<< zi 32), (zb x 4 0) ||| ((zb x 5 0) <<< zi 32), (zb x 6 0) ||| ((zb x 7 0) <<< zi 32)] : List UInt64)))) = Ending.returned (.agg (zc (zg (nd (dv 4294967296 x))))) := congrArg (fun l : List UInt64 => Ending.returned (Value.agg (zg l).toArray)) e
 exact ⟨e2, Eb.pk []⟩
theorem times_go (w : World) (a b : List UInt64) (ha : zf a = 4) (hb : zf b = 4) : Calls zB 64 #[.agg (zc (zg a)), .agg (zc (zg b))] w fun e w' => e = .returned (.agg (zc (zg (n32 17 (nv a * nv b))))) ∧ Ev w [] w' [] := by
 refine d_0 [(0, .agg (zc (zg a))), (1, .agg (zc (zg b)))] 52 Tryz.func64 Tryz.ntmps64 (Heap.nil _) fun Hi Hj Hk => wp_seq <| zj <| f_o <| m_m 24 (zg a) Hj Hk fun _ _ Hl Hm Hn => f_o <| m_m 24 (zg b) Hm Hn fun _ _ Ho Hp ER => f_o <| m_z 82 (zg (zd 17 0)) Hp ER fun _ _ Ee ES Ek => f_e <| ze <| wp_seq <| zj <| f_o <| Zn 0 4 (zg a) ES Ek rfl (za ha) fun _ ET => f_o <| c_p ET Ek (digits_go _ a ha) fun _ _ EU EV => ?_
 refine f_o <| m_z 82 (zg (zd 17 0)) EU EV fun _ _ Eb EW EX => f_o <| zW 3 17 (zg (n32 17 (nv a))) _ EW EX rfl (za (Y6 _ _)) (za (zh)) (zq _) rfl fun _ _ EY El => f_e <| ze <| wp_seq <| zj <| f_o <| Zn 1 4 (zg b) EY El rfl (za hb) fun _ EZ => f_o <| c_p EZ El (digits_go _ b hb) fun _ _ E0 E1 => f_o <| m_z 82 (zg (zd 17 0)) E0 E1 fun _ _ Ec E2 E3 => f_o <| zW 4 17 (zg (n32 17 (nv b))) [.box Hl (zg a) 24, .box Ho (zg b) 24, .box Ee (zg (zd 17 0)) 82, .box Eb (zg (n32 17 (nv a))) 82, .box Ec (zg (n32 17 (nv b))) 82] E2 E3 rfl (za (Y6 _ _)) (za (zh)) (zq _) rfl fun _ _ E4 E5 => ?_
 refine f_e <| ze <| wp_seq <| zj <| f_o <| m_z 82 (zg (zd 17 0)) E4 E5 fun _ _ Ea E6 E7 => f_e <| ze <| wp_seq <| wp_seq <| d_r [4,5,6,7,8] [] E6 fun _ E8 => ?_
 refine ze <| wp_block <| ZT (fun E9 ac wo => ∃ (i : Nat) (t : List UInt64), E9 = (8 - i : Nat) ∧ Env ac 52 [(4, pt Ee), (5, pt Eb), (6, pt Ec), (7, pt Ea), (8, ni i)] ∧ Ev w [] wo [.box Ea (zg t) 82, .box Ee (zg (zd 17 0)) 82, .box Eb (zg (n32 17 (nv a))) 82, .box Ec (zg (n32 17 (nv b))) 82] ∧ (i ≤ 8) ∧ (zf t = 17) ∧ (DG t) ∧ (dv 4294967296 t = dk (n32 17 (nv a)) i * nv b) ∧ (∀ j, i + 8 ≤ j → zb t j 0 = 0)) ⟨_, 0, zd 17 0, rfl, E8.sb, E7.pk [5, 2, 3, 4], by omega, (zh), DG.rep, by rw [dv_replicate]; simp [dk], fun j _ => zeros17 j⟩ ?_
 rintro Hq _ _ ⟨i, t, rfl, Ha, Eg, hi, hlt, hdt, hv, hz⟩
 refine wp_seq <| wp_seq <| d_r [4,5,6,7,8,17] [] Ha fun _ Eh => ?_
 refine ze <| c_d (((i : Nat) : Int) < (8 : Int)) Eh (fun Hb => ?_) (fun Hb => ?_)
 ·
  refine wp_skip <| ze <| wp_seq <| wp_block <| wp_seq <| d_r [4,5,6,7,8,9] [] Eh fun _ Hc => ze <| wp_seq <| wp_seq <| d_r [4,5,6,7,8,9,10] [] Hc fun _ Hd => ?_
  refine ze <| wp_block <| ZT (fun He ac wo => ∃ (k : Nat) (u : List UInt64) (c : UInt64), He = (8 - k : Nat) ∧ Env ac 52 [(4, pt Ee), (5, pt Eb), (6, pt Ec), (7, pt Ea), (8, ni i), (9, zm c), (10, ni k)] ∧ Ev w [] wo [.box Ea (zg u) 82, .box Ee (zg (zd 17 0)) 82, .box Eb (zg (n32 17 (nv a))) 82, .box Ec (zg (n32 17 (nv b))) 82] ∧ (k ≤ 8) ∧ (zf u = 17) ∧ (DG u) ∧ (c.toNat < 4294967296) ∧ (dv 4294967296 u + c.toNat * 4294967296 ^ (i + k) = dk (n32 17 (nv a)) i * nv b + dk (n32 17 (nv b)) k * (zb (n32 17 (nv a)) i 0).toNat * 4294967296 ^ i) ∧ (∀ j, i + 8 ≤ j → zb u j 0 = 0)) ⟨_, 0, t, 0, rfl, Hd.sb, Eg.pk [0, 1, 2, 3], by omega, hlt, hdt, by decide, by rw [hv]; simp [dk], hz⟩ ?_
  rintro Hr _ _ ⟨k, u, c, rfl, Hf, Ei, hk, hlu, hdu, hcu, hv2, Hg⟩
  refine wp_seq <| wp_seq <| d_r [4,5,6,7,8,9,10,21] [] Hf fun _ Ej => ?_
  refine ze <| c_d (((k : Nat) : Int) < (8 : Int)) Ej (fun Hh => ?_) (fun Hh => ?_)
  ·
   refine wp_skip <| ze <| wp_seq <| wp_block <| wp_seq <| r_c (fun ac wo => Env ac 52 [(4, pt Ee), (5, pt Eb), (6, pt Ec), (7, pt Ea), (8, ni i), (9, zm c), (10, ni k), (11, zm (((zb u (i + k) 0) + ((zb (n32 17 (nv a)) i 0) * (zb (n32 17 (nv b)) k 0))) + c))] ∧ Ev w [] wo [.box Ea (zg u) 82, .box Ee (zg (zd 17 0)) 82, .box Eb (zg (n32 17 (nv a))) 82, .box Ec (zg (n32 17 (nv b))) 82]) ?_ ?_
   ·
    refine h_s (fun wv => Ev w [] wv [.box Ea (zg u) 82, .box Eb (zg (n32 17 (nv a))) 82, .box Ec (zg (n32 17 (nv b))) 82]) [] 16 ?_
    have Ed := Ei.trans (zN Ei.heap)
    refine q_s [0,1,2] [(2, g_n (w_a i k))] 13 Ej (Ed.pk [0, 2, 3]) fun _ Em => q_f 3 (s := Instr.indexAt 82 (pt Ea) (ni (i + k))) (v := .pointer (some ⟨Ea, i + k, none⟩)) Em (fun _ => zs (e := 22) (sz := 1) (m := 17) (j := i + k) (o := i + k) (by kernel_rfl) (by kernel_rfl) (by omega) (by omega) (by omega) _) (fun _ => Ed.pk [0, 2, 3]) fun _ En => ?_
    have Eo : i + k < zf u := by rw [hlu]; omega
    refine q_r 4 (s := Instr.loadAt 22 (.pointer (some ⟨Ea, i + k, none⟩))) (v := zm (zb u (i + k) 0)) En (fun w hS => Zt (by kernel_rfl) (hS.heap.cell (k := 0) rfl (zO Eo))) (Ed.pk [0, 2, 3]) fun _ Ep => q_s [5] [] 10 Ep (Ed.pk [0, 2, 3]) fun _ Eq => q_f 6 (s := Instr.indexAt 82 (pt Eb) (ni i)) (v := .pointer (some ⟨Eb, i, none⟩)) Eq (fun _ => zs (e := 22) (sz := 1) (m := 17) (j := i) (o := i) (by kernel_rfl) (by kernel_rfl) (by omega) (by omega) (by omega) _) (fun _ => Ed.pk [0, 2, 3]) fun _ Er => ?_
    have Es : i < zf (n32 17 (nv a)) := by rw [(Y6 _ _)]; omega
    refine q_r 7 (s := Instr.loadAt 22 (.pointer (some ⟨Eb, i, none⟩))) (v := zm (zb (n32 17 (nv a)) i 0)) Er (fun w hS => Zt (by kernel_rfl) (hS.heap.cell (k := 1) rfl (zO Es))) (Ed.pk [0, 2, 3]) fun _ Et => q_s [8] [] 7 Et (Ed.pk [0, 2, 3]) fun _ Eu => q_f 9 (s := Instr.indexAt 82 (pt Ec) (ni k)) (v := .pointer (some ⟨Ec, k, none⟩)) Eu (fun _ => zs (e := 22) (sz := 1) (m := 17) (j := k) (o := k) (by kernel_rfl) (by kernel_rfl) (by omega) (by omega) (by omega) _) (fun _ => Ed.pk [0, 2, 3]) fun _ Ew => ?_
    have Ex : k < zf (n32 17 (nv b)) := by rw [(Y6 _ _)]; omega
    refine q_r 10 (s := Instr.loadAt 22 (.pointer (some ⟨Ec, k, none⟩))) (v := zm (zb (n32 17 (nv b)) k 0)) Ew (fun w hS => Zt (by kernel_rfl) (hS.heap.cell (k := 2) rfl (zO Ex))) (Ed.pk [0, 2, 3]) fun _ Ey => q_s [11,12,13,14,15] [(11, g_i .u64 (QK (x := zb (n32 17 (nv a)) i 0) (y := zb (n32 17 (nv b)) k 0) rfl rfl)), (12, g_i .u64 (Zj (x := zb u (i + k) 0) (y := (zb (n32 17 (nv a)) i 0) * (zb (n32 17 (nv b)) k 0)) rfl rfl)), (14, g_i .u64 (Zj (x := (zb u (i + k) 0) + ((zb (n32 17 (nv a)) i 0) * (zb (n32 17 (nv b)) k 0))) (y := c) rfl rfl))] 0 Ey (Ed.pk [0, 2, 3]) fun _ Ez => ?_
    exact h_e ⟨Ez.sb, Ed.pk [0, 1, 2, 3]⟩
   rintro _ _ ⟨EA, EB⟩
   refine ze <| wp_seq <| zj <| d_k [4,5,6,7,8,9,10,11,41,43] [(2, g_n (w_a i k)), (4, g_i .u64 (Zy (x := ((zb u (i + k) 0) + ((zb (n32 17 (nv a)) i 0) * (zb (n32 17 (nv b)) k 0))) + c) (y := (4294967295 : UInt64)) rfl rfl))] 5 EA fun _ EC => f_o <| q_v (x := Instr.indexAt 82 (pt Ea) (ni (i + k))) (v := .pointer (some ⟨Ea, i + k, none⟩)) EC (zs (e := 22) (sz := 1) (m := 17) (j := i + k) (o := i + k) (by kernel_rfl) (by kernel_rfl) (by omega) (by omega) (by omega) _) fun _ ED => f_o ?_
   have EE : i + k < zf u := by rw [hlu]; omega
   refine m_t 0 (i + k) (zm ((((zb u (i + k) 0) + ((zb (n32 17 (nv a)) i 0) * (zb (n32 17 (nv b)) k 0))) + c) &&& (4294967295 : UInt64))) _ ED EB rfl (zO EE) (Z7 _ _ _) rfl fun _ _ EF EG => f_e <| ze <| d_r [4,5,6,7,8,9,10,11] [(1, g_i .u64 (ZC (x := ((zb u (i + k) 0) + ((zb (n32 17 (nv a)) i 0) * (zb (n32 17 (nv b)) k 0))) + c) (n := 32) rfl (by decide)))] EF fun _ EH => zw <| ze <| d_r [4,5,6,7,8,9,10,11] [(1, g_n (w_a k 1))] EH fun _ EI => ze <| ⟨_, ⟨k + 1, (zt u (i + k) ((((zb u (i + k) 0) + ((zb (n32 17 (nv a)) i 0) * (zb (n32 17 (nv b)) k 0))) + c) &&& (4294967295 : UInt64))), ((((zb u (i + k) 0) + ((zb (n32 17 (nv a)) i 0) * (zb (n32 17 (nv b)) k 0))) + c) >>> zi 32), rfl, EI.sb, EG.pk [0, 1, 2, 3], by omega, by simp [hlu], hdu.set (JW _), Y9 _, times_in hlu (by omega) hdu (Xx _ _) (Xx _ _) hcu hv2 rfl, fun j hj => by rw [getD_set_ne _ (by omega)]; exact Hg j hj⟩, ?_⟩
   omega
  refine wp_exit <| zF <| zF <| zX <| ze ?_
  have hk8 : k = 8 := by omega
  refine zj <| d_k [4,5,6,7,8,9,10,48,49] [(1, g_n (w_a i 8))] 3 Ej fun _ EJ => f_o <| q_v (x := Instr.indexAt 82 (pt Ea) (ni (i + 8))) (v := .pointer (some ⟨Ea, i + 8, none⟩)) EJ (zs (e := 22) (sz := 1) (m := 17) (j := i + 8) (o := i + 8) (by kernel_rfl) (by kernel_rfl) (by omega) (by omega) (by omega) _) fun _ EK => f_o ?_
  have EL : i + 8 < zf u := by rw [hlu]; omega
  refine m_t 0 (i + 8) (zm c) [.box Ea (zg (zt u (i + 8) c)) 82, .box Ee (zg (zd 17 0)) 82, .box Eb (zg (n32 17 (nv a))) 82, .box Ec (zg (n32 17 (nv b))) 82] EK Ei rfl (zO EL) (Z7 _ _ _) rfl fun _ _ EM EN => f_e <| zw <| ze <| d_r [4,5,6,7,8,9,10] [(1, g_n (w_a i 1))] EM fun _ EO => ze <| ⟨_, ⟨i + 1, (zt u (i + 8) c), rfl, EO.sb, EN.pk [0, 1, 2, 3], by omega, by simp [hlu], hdu.set hcu, times_out hlu (by omega) (Hg _ (by omega)) (dk_nv hb) (by rw [hk8] at hv2; exact hv2), fun j hj => by rw [getD_set_ne _ (by omega)]; exact Hg j (by omega)⟩, ?_⟩
  omega
 refine wp_exit <| zF <| zF <| zX <| ze <| wp_seq <| zj <| f_o <| Zn 0 17 (zg t) Eh Eg rfl (za hlt) fun _ EP => f_o <| zW 1 17 (zg t) _ EP Eg rfl (za hlt) (za (zh)) (zq _) rfl fun _ _ EQ Ef => f_e <| ze <| wp_ret <| zU (v := .agg (zc (zg t))) (t := 4) (T := 82) (ad := ⟨Ee, 0, none⟩) EQ (by kernel_rfl) (by kernel_rfl) (zC (t := 82) (k := 1) (off := 0) (m := 17) (xs := zg t) Ef rfl (zn (za hlt)) (za hlt) (by kernel_rfl) (by kernel_rfl)) ?_
 have hi8 : i = 8 := by omega
 have hte : t = n32 17 (nv a * nv b) := n32_of hlt hdt (by rw [hv, hi8, dk_nv ha])
 subst hte
 exact ⟨rfl, Ef.pk []⟩
def cF (f : Int) : List UInt64 := if f = 1 then [38, 0, 0, 0, 0, 0, 0, 0] else if f = 2 then [1, 0, 0, 4294967295, 4294967295, 4294967295, 4294967294, 0] else [60611247, 205927741, 1491624315, 1125713234, 0, 0, 4294967295, 0]
def mny (f : Int) : Nat := if f = 1 then 1 else 7
def eF (f : Int) : Nat := if f = 1 then 2 else 1
theorem cF_len (f : Int) : (cF f).length = 8 := by unfold cF; split; rfl; split <;> rfl
theorem mny_le (f : Int) : mny f ≤ 7 := by unfold mny; split <;> decide
theorem DG8 {l : List UInt64} (h : (l.all fun x => decide (x.toNat < 4294967296)) = true) : DG l := fun j => by
  rcases Qa j l.length with q | q
  · rw [zT, List.getElem?_eq_getElem q]
    exact of_decide_eq_true (List.all_eq_true.1 h _ (List.getElem_mem q))
  · rw [zT, ZR q]; decide
theorem cF_dig {f : Int} (h3 : f = 1 ∨ f = 2 ∨ f = 3) : DG (cF f) := by rcases h3 with rfl | rfl | rfl <;> exact DG8 (by decide +kernel)
theorem cF_val {f : Int} (h3 : f = 1 ∨ f = 2 ∨ f = 3) : dk (cF f) 7 + eF f * mF f = 4294967296 ^ 8 := by rcases h3 with rfl | rfl | rfl <;> decide +kernel
theorem cF_over {f : Int} (h3 : f = 1 ∨ f = 2 ∨ f = 3) {k : Nat} (hk : mny f ≤ k) : zb (cF f) k 0 = 0 := by
  by_cases h8 : k < 8
  · rcases h3 with rfl | rfl | rfl
    · match k, hk, h8 with
      | 1, _, _ | 2, _, _ | 3, _, _ | 4, _, _ | 5, _, _ | 6, _, _ | 7, _, _ => rfl
    · match k, hk, h8 with
      | 7, _, _ => rfl
    · match k, hk, h8 with
      | 7, _, _ => rfl
  · rw [zT, ZR (by rw [cF_len]; omega)]; rfl
theorem dk_over {f : Int} (h3 : f = 1 ∨ f = 2 ∨ f = 3) {k : Nat} (hk : mny f ≤ k) : dk (cF f) k = dk (cF f) 7 := by
  have key : ∀ j, dk (cF f) (mny f + j) = dk (cF f) (mny f) := fun j => by
    induction j with
    | zero => rfl
    | succ j ih => rw [← ZX, dk, ih, cF_over h3 (by omega)]; simp
  have h7 := mny_le f
  have e1 := key (k - mny f)
  have e2 := key (7 - mny f)
  rw [show mny f + (k - mny f) = k by omega] at e1
  rw [show mny f + (7 - mny f) = 7 by omega] at e2
  rw [e1, e2]
theorem dk_c_lt {f : Int} (h3 : f = 1 ∨ f = 2 ∨ f = 3) (k : Nat) : dk (cF f) k < 4294967296 ^ 8 := by
  by_cases hk : mny f ≤ k
  · rw [dk_over h3 hk]; exact Yb (dk_lt (cF_dig h3) 7) (by decide)
  · have := mny_le f
    exact Yb (dk_lt (cF_dig h3) k) (QX (by decide) (by omega))
theorem left_in {u c : List UInt64} {V p k : Nat} {d t g : UInt64} (hlu : u.length = 17) (hj : p + k < 17) (hv : dv 4294967296 u + g.toNat * 4294967296 ^ (p + k) = V + d.toNat * dk c k * 4294967296 ^ p)
    (ht : t.toNat = (zb u (p + k) 0).toNat + d.toNat * (zb c k 0).toNat + g.toNat) :
    dv 4294967296 (zt u (p + k) (t &&& 4294967295)) + (t >>> zi 32).toNat * 4294967296 ^ (p + (k + 1)) = V + d.toNat * dk c (k + 1) * 4294967296 ^ p := by
  rw [← ZX, set32 (by omega) hv ht, dk, Qp, ZE, ZX]
  congr 2
  rw [ZO]
  ac_rfl
theorem left_idx {u c : List UInt64} {V p k : Nat} {d g : UInt64} (hp : p ≤ 8) (hV : V < 4294967296 ^ (p + 8)) (hd : d.toNat < 4294967296) (hC : dk c k < 4294967296 ^ 8) (hg : 0 < g.toNat)
    (hv : dv 4294967296 u + g.toNat * 4294967296 ^ (p + k) = V + d.toNat * dk c k * 4294967296 ^ p) : k ≤ 8 := by
  rcases Qa 8 k with h | h
  · exfalso
    have h1 : 4294967296 ^ (p + 9) ≤ 4294967296 ^ (p + k) := QX (by decide) (by omega)
    have h2 : 4294967296 ^ (p + k) ≤ g.toNat * 4294967296 ^ (p + k) := Nat.le_mul_of_pos_left _ hg
    have h3 : d.toNat * dk c k ≤ 4294967295 * 4294967296 ^ 8 := QI (by omega) (by omega)
    have h4 : d.toNat * dk c k * 4294967296 ^ p ≤ 4294967295 * 4294967296 ^ 8 * 4294967296 ^ p := QW _ h3
    rw [ZO] at hV h1
    rw [Zh 4294967296 8] at h1
    generalize 4294967296 ^ p = q at *
    have e8 : (4294967296 : Nat) ^ 8 = 115792089237316195423570985008687907853269984665640564039457584007913129639936 := by decide
    rw [e8] at hV h1 h4
    omega
  · exact h
theorem zero_above {w : List UInt64} (hd : DG w) {q : Nat} (h : dv 4294967296 w < 4294967296 ^ (q + 1)) : dv 4294967296 w = dk w q + (zb w q 0).toNat * 4294967296 ^ q := by
  have e := dk_split w (q + 1)
  have h0 : dv 4294967296 (zG (q + 1) w) = 0 := by
    rcases Nat.eq_zero_or_pos (dv 4294967296 (zG (q + 1) w)) with z | z
    · exact z
    · have := Nat.le_mul_of_pos_right (4294967296 ^ (q + 1)) z
      omega
  rw [h0, Qw, ZP] at e
  exact e
theorem top_out {w : List UInt64} (hd : DG w) {q : Nat} (hq : q < w.length) (h : dv 4294967296 w < 4294967296 ^ (q + 1)) : dv 4294967296 (zt w q 0) = dk w q ∧ dv 4294967296 (zt w q 0) < 4294967296 ^ q ∧ dv 4294967296 w = dv 4294967296 (zt w q 0) + (zb w q 0).toNat * 4294967296 ^ q := by
  have e := zero_above hd h
  have e2 := XR 4294967296 0 w q hq
  have l := dk_lt hd q
  rw [show (0 : UInt64).toNat = 0 from rfl, Qm] at e2
  omega
theorem left_out {f : Int} (h3 : f = 1 ∨ f = 2 ∨ f = 3) {u w : List UInt64} {q k n : Nat} {g : UInt64} (hq : 8 ≤ q) (hk : mny f ≤ k) (hg : g.toNat = 0) (hw : dv 4294967296 w = dv 4294967296 (zt w q 0) + (zb w q 0).toNat * 4294967296 ^ q) (h0 : (zb w q 0).toNat ≠ 0)
    (hm : dv 4294967296 w % mF f = n % mF f) (hv : dv 4294967296 u + g.toNat * 4294967296 ^ (q - 8 + k) = dv 4294967296 (zt w q 0) + (zb w q 0).toNat * dk (cF f) k * 4294967296 ^ (q - 8)) :
    dv 4294967296 u % mF f = n % mF f ∧ dv 4294967296 u < dv 4294967296 w := by
  have hc := cF_val h3
  have hcl : dk (cF f) 7 < 4294967296 ^ 8 := dk_c_lt h3 7
  rw [hg, Qm, ZP, dk_over h3 hk] at hv
  have hq2 : 4294967296 ^ q = 4294967296 ^ 8 * 4294967296 ^ (q - 8) := by rw [← ZO, show 8 + (q - 8) = q by omega]
  rw [hq2, ← hc] at hw
  have ex : (zb w q 0).toNat * ((dk (cF f) 7 + eF f * mF f) * 4294967296 ^ (q - 8)) = (zb w q 0).toNat * dk (cF f) 7 * 4294967296 ^ (q - 8) + mF f * ((zb w q 0).toNat * eF f * 4294967296 ^ (q - 8)) := by
    rw [ZE, Qp]
    congr 1
    · rw [Zq]
    · ac_rfl
  rw [ex] at hw
  constructor
  · rw [← hm, hw, hv, ← ZX, Nat.add_mul_mod_self_left]
  · have hpos : 0 < mF f * ((zb w q 0).toNat * eF f * 4294967296 ^ (q - 8)) := by
      refine XN ?_ (XN (XN (by omega) ?_) (KD (by decide)))
      · have := JT (f := f) (by omega); omega
      · unfold eF; split <;> decide
    omega
theorem above1 (w : World) : Calls zB 90 #[.int .i64 1] w fun e w' => e = .returned (.tuple #[.agg (zc (zg (cF 1))), ni (mny 1)]) ∧ Ev w [] w' [] := by
 refine d_0 [(0, .int .i64 1)] 12 Tryz.func90 Tryz.ntmps90 (Heap.nil _) fun Ef Eg Eh => wp_seq <| zj <| f_o <| m_z 93 (zg (zd 8 0)) Eg Eh fun _ _ Ei Ej Ek => d_e [0,2,3] [] Ej fun _ El => ze <| wp_seq <| d_s [2,3,4] [] El fun _ Em => wp_block <| d_s [2,3,4,5] [] Em fun _ Ea => c_t Ea ?_
 refine wp_seq <| zj <| d_k [2,3,4,7] [] 1 Ea fun _ Ec => f_o <| zW 0 8 (zg ([38, 0, 0, 0, 0, 0, 0, 0] : List UInt64)) _ Ec Ek rfl (za (show zf ([38, 0, 0, 0, 0, 0, 0, 0] : List UInt64) = 8 from rfl)) (za (zh)) (zq _) rfl fun _ _ Ed Eb => d_e [2,3,4] [] Ed fun _ Ee => ze <| wp_ret <| block_ret <| z9 <| JC (v := .agg (zc (zg ([38, 0, 0, 0, 0, 0, 0, 0] : List UInt64)))) (x := .int .i64 1) (t := 2) (T := 93) (ad := ⟨Ei, 0, none⟩) (u := 3) Ee (by kernel_rfl) (by kernel_rfl) (zC (t := 93) (k := 0) (off := 0) (m := 8) (xs := zg ([38, 0, 0, 0, 0, 0, 0, 0] : List UInt64)) Eb rfl (zn (za (show zf ([38, 0, 0, 0, 0, 0, 0, 0] : List UInt64) = 8 from rfl))) (za (show zf ([38, 0, 0, 0, 0, 0, 0, 0] : List UInt64) = 8 from rfl)) (by kernel_rfl) (by kernel_rfl)) (by kernel_rfl) ?_
 exact ⟨by kernel_rfl, Eb.pk []⟩
theorem above2 (w : World) : Calls zB 90 #[.int .i64 2] w fun e w' => e = .returned (.tuple #[.agg (zc (zg (cF 2))), ni (mny 2)]) ∧ Ev w [] w' [] := by
 refine d_0 [(0, .int .i64 2)] 12 Tryz.func90 Tryz.ntmps90 (Heap.nil _) fun Eg Eh Ei => wp_seq <| zj <| f_o <| m_z 93 (zg (zd 8 0)) Eh Ei fun _ _ Ej Ek El => d_e [0,2,3] [] Ek fun _ Em => ze <| wp_seq <| d_s [2,3,4] [] Em fun _ En => wp_block <| d_s [2,3,4,5] [] En fun _ Ea => c_f Ea ?_
 refine d_s [2,3,4,8] [] Ea fun _ Eb => c_t Eb ?_
 refine wp_seq <| zj <| d_k [2,3,4,10] [] 1 Eb fun _ Ed => f_o <| zW 0 8 (zg ([1, 0, 0, 4294967295, 4294967295, 4294967295, 4294967294, 0] : List UInt64)) _ Ed El rfl (za (show zf ([1, 0, 0, 4294967295, 4294967295, 4294967295, 4294967294, 0] : List UInt64) = 8 from rfl)) (za (zh)) (zq _) rfl fun _ _ Ee Ec => d_e [2,3,4] [] Ee fun _ Ef => ze <| wp_ret <| block_ret <| z9 <| JC (v := .agg (zc (zg ([1, 0, 0, 4294967295, 4294967295, 4294967295, 4294967294, 0] : List UInt64)))) (x := .int .i64 7) (t := 2) (T := 93) (ad := ⟨Ej, 0, none⟩) (u := 3) Ef (by kernel_rfl) (by kernel_rfl) (zC (t := 93) (k := 0) (off := 0) (m := 8) (xs := zg ([1, 0, 0, 4294967295, 4294967295, 4294967295, 4294967294, 0] : List UInt64)) Ec rfl (zn (za (show zf ([1, 0, 0, 4294967295, 4294967295, 4294967295, 4294967294, 0] : List UInt64) = 8 from rfl))) (za (show zf ([1, 0, 0, 4294967295, 4294967295, 4294967295, 4294967294, 0] : List UInt64) = 8 from rfl)) (by kernel_rfl) (by kernel_rfl)) (by kernel_rfl) ?_
 exact ⟨by kernel_rfl, Ec.pk []⟩
theorem above3 (w : World) : Calls zB 90 #[.int .i64 3] w fun e w' => e = .returned (.tuple #[.agg (zc (zg (cF 3))), ni (mny 3)]) ∧ Ev w [] w' [] := by
 refine d_0 [(0, .int .i64 3)] 12 Tryz.func90 Tryz.ntmps90 (Heap.nil _) fun Eg Eh Ei => wp_seq <| zj <| f_o <| m_z 93 (zg (zd 8 0)) Eh Ei fun _ _ Ej Ek El => d_e [0,2,3] [] Ek fun _ Em => ze <| wp_seq <| d_s [2,3,4] [] Em fun _ En => wp_block <| d_s [2,3,4,5] [] En fun _ Ea => c_f Ea ?_
 refine d_s [2,3,4,8] [] Ea fun _ Eb => c_f Eb ?_
 refine wp_skip <| zw <| ze <| wp_seq <| zj <| d_k [2,3,4,11] [] 1 Eb fun _ Ed => f_o <| zW 0 8 (zg ([60611247, 205927741, 1491624315, 1125713234, 0, 0, 4294967295, 0] : List UInt64)) _ Ed El rfl (za (show zf ([60611247, 205927741, 1491624315, 1125713234, 0, 0, 4294967295, 0] : List UInt64) = 8 from rfl)) (za (zh)) (zq _) rfl fun _ _ Ee Ec => d_e [2,3,4] [] Ee fun _ Ef => ze <| wp_ret <| JC (v := .agg (zc (zg ([60611247, 205927741, 1491624315, 1125713234, 0, 0, 4294967295, 0] : List UInt64)))) (x := .int .i64 7) (t := 2) (T := 93) (ad := ⟨Ej, 0, none⟩) (u := 3) Ef (by kernel_rfl) (by kernel_rfl) (zC (t := 93) (k := 0) (off := 0) (m := 8) (xs := zg ([60611247, 205927741, 1491624315, 1125713234, 0, 0, 4294967295, 0] : List UInt64)) Ec rfl (zn (za (show zf ([60611247, 205927741, 1491624315, 1125713234, 0, 0, 4294967295, 0] : List UInt64) = 8 from rfl))) (za (show zf ([60611247, 205927741, 1491624315, 1125713234, 0, 0, 4294967295, 0] : List UInt64) = 8 from rfl)) (by kernel_rfl) (by kernel_rfl)) (by kernel_rfl) ?_
 exact ⟨by kernel_rfl, Ec.pk []⟩
theorem above_go (w : World) (f : Int) (h3 : f = 1 ∨ f = 2 ∨ f = 3) : Calls zB 90 #[.int .i64 f] w fun e w' => e = .returned (.tuple #[.agg (zc (zg (cF f))), ni (mny f)]) ∧ Ev w [] w' [] := by
  rcases h3 with rfl | rfl | rfl
  · exact above1 w
  · exact above2 w
  · exact above3 w
theorem dv_lt32 {l : List UInt64} (h : DG l) : dv 4294967296 l < 4294967296 ^ l.length := by
  have e := dk_split l l.length
  rw [List.drop_length, show dv 4294967296 [] = 0 from rfl, Qw, ZP] at e
  rw [e]
  exact dk_lt h _
theorem add32 {p c : UInt64} (hp : p.toNat < 4294967296) (hc : c.toNat < 4294967296) : (p + c).toNat = p.toNat + c.toNat := by
  rw [ZD]
  omega
theorem left3_go (w : World) (f : Int) (h3 : f = 1 ∨ f = 2 ∨ f = 3) (n : List UInt64) (hn : zf n = 17) (hdn : DG n) : Calls zB 63 #[.int .i64 f, .agg (zc (zg n))] w fun e w' => e = .returned (.agg (zc (zg (nd (dv 4294967296 n % mF f))))) ∧ Ev w [] w' [] := by
 refine d_0 [(0, .int .i64 f), (1, .agg (zc (zg n)))] 85 Tryz.func63 Tryz.ntmps63 (Heap.nil _) fun aj ak al => wp_seq <| zj <| f_o <| m_m 82 (zg n) ak al fun _ _ Ec am an => f_o <| m_z 24 (zg (zd 4 0)) am an fun _ _ Ee ao HD => f_e <| ze <| wp_seq <| zj <| d_k [0,3,4,14] [] 1 ao fun _ HE => f_o <| c_p HE HD (rmodulus_go _ f) fun _ _ HF HG => f_o <| m_z 24 (zg (zd 4 0)) HF HG fun _ _ Eb HH HI => ?_
 refine f_o <| zW 2 4 (zg (nd (mF f))) _ HH HI rfl (za (zl _ _)) (za (zh)) (zq _) rfl fun _ _ HJ HK => f_e <| ze <| wp_seq <| wp_seq <| d_r [0,3,4,5,17] [(1, g_b (show (f == (4 : Int)) = false from (beq_eq_false_iff_ne.2 (by omega))))] HJ fun _ Ew => ze <| c_f Ew ?_
 refine wp_skip <| ze <| wp_seq <| zj <| d_k [0,3,4,5,22] [] 1 Ew fun _ HL => f_o <| c_p HL HK (above_go _ f h3) fun _ _ HM HN => d_k [0,3,4,5,24,25] [] 5 HM fun _ HO => f_o <| m_z 93 (zg (zd 8 0)) HO HN fun _ _ Ea HP HQ => f_o <| zW 3 8 (zg (cF f)) [.box Ec (zg n) 82, .box Ee (zg (zd 4 0)) 24, .box Eb (zg (nd (mF f))) 24, .box Ea (zg (cF f)) 93] HP HQ rfl (za (cF_len _)) (za (zh)) (zq _) rfl fun _ _ HR HS => d_e [0,3,4,5,6,7] [] HR fun _ HT => ?_
 refine ze <| wp_seq <| wp_seq <| d_r [0,3,4,5,6,7,8] [] HT fun _ HU => ?_
 refine ze <| wp_block <| ZT (fun HV ac wo => ∃ (q : Nat) (v : List UInt64), HV = (q + 1 : Nat) ∧ Env ac 85 [(0, .int .i64 f), (3, pt Ec), (4, pt Ee), (5, pt Eb), (6, pt Ea), (7, ni (mny f)), (8, ni q)] ∧ Ev w [] wo [.box Ec (zg v) 82, .box Ee (zg (zd 4 0)) 24, .box Eb (zg (nd (mF f))) 24, .box Ea (zg (cF f)) 93] ∧ (7 ≤ q ∧ q ≤ 16) ∧ (zf v = 17) ∧ (DG v) ∧ (dv 4294967296 v % mF f = dv 4294967296 n % mF f) ∧ (dv 4294967296 v < 4294967296 ^ (q + 1))) ⟨_, 16, n, rfl, HU.sb, HS.pk [0, 1, 2, 3], by omega, hn, hdn, rfl, by have := dv_lt32 hdn; rwa [hn] at this⟩ ?_
 rintro ap _ _ ⟨q, v, rfl, HW, Es, hq, hlv, hdv, hmv, hbv⟩
 refine wp_seq <| wp_seq <| d_r [0,3,4,5,6,7,8,27] [] HW fun _ Et => ?_
 refine ze <| c_d (((q : Nat) : Int) ≥ (8 : Int)) Et (fun HX => ?_) (fun HX => ?_)
 ·
  refine wp_skip <| ze <| wp_seq <| wp_block <| wp_block <| ZT (fun HY ac wo => ∃ (w1 : List UInt64), HY = (dv 4294967296 w1 : Nat) ∧ Env ac 85 [(0, .int .i64 f), (3, pt Ec), (4, pt Ee), (5, pt Eb), (6, pt Ea), (7, ni (mny f)), (8, ni q)] ∧ Ev w [] wo [.box Ec (zg w1) 82, .box Ee (zg (zd 4 0)) 24, .box Eb (zg (nd (mF f))) 24, .box Ea (zg (cF f)) 93] ∧ (zf w1 = 17) ∧ (DG w1) ∧ (dv 4294967296 w1 % mF f = dv 4294967296 n % mF f) ∧ (dv 4294967296 w1 < 4294967296 ^ (q + 1))) ⟨_, v, rfl, Et.sb, Es.pk [0, 1, 2, 3], hlv, hdv, hmv, hbv⟩ ?_
  rintro aq _ _ ⟨w1, rfl, HZ, Eo, hlw, hdw, hmw, hbw⟩
  refine wp_seq <| wp_seq <| zj <| d_k [0,3,4,5,6,7,8,30] [] 1 HZ fun _ H0 => f_o <| q_v (x := Instr.indexAt 82 (pt Ec) (ni q)) (v := .pointer (some ⟨Ec, q, none⟩)) H0 (zs (e := 22) (sz := 1) (m := 17) (j := q) (o := q) (by kernel_rfl) (by kernel_rfl) (by omega) (by omega) (by omega) _) fun _ H1 => f_o ?_
  have H2 : q < zf w1 := by rw [hlw]; omega
  refine m_v 0 q (zm (zb w1 q 0)) H1 Eo rfl (zO H2) fun _ H3 => d_e [0,3,4,5,6,7,8,33] [] H3 fun _ Eu => ?_
  refine ze <| c_n ((zk (zb w1 q 0) : Nat) : Int) (0 : Int) Eu (fun H4 => ?_) (fun H4 => ?_)
  ·
   refine wp_skip <| ze <| wp_block <| wp_seq <| zj <| d_k [0,3,4,5,6,7,8,34] [] 1 Eu fun _ H5 => f_o <| q_v (x := Instr.indexAt 82 (pt Ec) (ni q)) (v := .pointer (some ⟨Ec, q, none⟩)) H5 (zs (e := 22) (sz := 1) (m := 17) (j := q) (o := q) (by kernel_rfl) (by kernel_rfl) (by omega) (by omega) (by omega) _) fun _ H6 => f_o ?_
   have H7 : q < zf w1 := by rw [hlw]; omega
   refine m_v 0 q (zm (zb w1 q 0)) H6 Eo rfl (zO H7) fun _ H8 => d_e [0,3,4,5,6,7,8,9] [] H8 fun _ H9 => ze <| wp_seq <| zj <| d_k [0,3,4,5,6,7,8,9,37] [] 1 H9 fun _ aa => f_o <| q_v (x := Instr.indexAt 82 (pt Ec) (ni q)) (v := .pointer (some ⟨Ec, q, none⟩)) aa (zs (e := 22) (sz := 1) (m := 17) (j := q) (o := q) (by kernel_rfl) (by kernel_rfl) (by omega) (by omega) (by omega) _) fun _ ab => f_o ?_
   have ae : q < zf w1 := by rw [hlw]; omega
   refine m_t 0 q (.int .u64 0) _ ab Eo rfl (zO ae) (Z7 _ _ (0 : UInt64)) rfl fun _ _ af ag => f_e <| ze <| wp_seq <| d_r [0,3,4,5,6,7,8,9,10] [] af fun _ Ex => ze <| wp_seq <| d_r [0,3,4,5,6,7,8,9,10,11] [] Ex fun _ Ey => ze <| wp_block ?_
   have hto := top_out hdw (by omega) hbw
   refine ZT (fun Ez ac wo => ∃ (k : Nat) (u : List UInt64) (g : UInt64), Ez = (10 - k : Nat) ∧ Env ac 85 [(0, .int .i64 f), (3, pt Ec), (4, pt Ee), (5, pt Eb), (6, pt Ea), (7, ni (mny f)), (8, ni q), (9, zm (zb w1 q 0)), (10, zm g), (11, ni k)] ∧ Ev w [] wo [.box Ec (zg u) 82, .box Ee (zg (zd 4 0)) 24, .box Eb (zg (nd (mF f))) 24, .box Ea (zg (cF f)) 93] ∧ (k ≤ 9) ∧ (zf u = 17) ∧ (DG u) ∧ (g.toNat < 4294967296) ∧ (dv 4294967296 u + g.toNat * 4294967296 ^ (q - 8 + k) = dv 4294967296 (zt w1 q 0) + (zb w1 q 0).toNat * dk (cF f) k * 4294967296 ^ (q - 8))) ⟨_, 0, zt w1 q 0, 0, rfl, Ey.sb, ag.pk [0, 1, 2, 3], by omega, by simp [hlw], hdw.set (by decide), by decide, by simp [dk]⟩ ?_
   rintro ah _ _ ⟨k, u, g, rfl, EA, Ed, hk, hlu, hdu, hgu, hvu⟩
   refine wp_seq <| wp_seq ?_
   have hC8 := dk_c_lt h3 k
   refine zj <| d_k [0,3,4,5,6,7,8,9,10,11,42] [] 4 EA fun _ Ep => ?_
   rcases Bool.eq_false_or_eq_true (decide (((k : Nat) : Int) < ((mny f : Nat) : Int))) with Ef | Ef
   ·
    have EB := Ep.fx (t := 42) (congrArg Value.bool Ef)
    have hp115 : ((k : Nat) : Int) < ((mny f : Nat) : Int) := of_decide_eq_true Ef
    refine d_e [0,3,4,5,6,7,8,9,10,11,45] [] EB fun _ Eq => ze <| c_t Eq ?_
    refine wp_skip <| ze <| wp_seq <| wp_block <| wp_seq ?_
    have hk8 : k ≤ 8 := by by_cases hmk : mny f ≤ k <;> first | (have := mny_le f; omega) | exact left_idx (u := u) (by omega) (by rw [show q - 8 + 8 = q by omega]; exact hto.2.1) (hdw q) (dk_c_lt h3 k) (by omega) hvu
    have hqk : q - 8 + k < 17 := by omega
    have hm7 := mny_le f
    refine zj <| d_k [0,3,4,5,6,7,8,9,10,11,51] [(1, g_n (w_r (e := ((q : Nat) : Int) - (8 : Int)) (x := ((q - 8 : Nat) : Int)) (by omega))), (3, g_n (w_a (q - 8) k))] 4 Eq fun _ EC => f_o <| q_v (x := Instr.indexAt 82 (pt Ec) (ni ((q - 8) + k))) (v := .pointer (some ⟨Ec, (q - 8) + k, none⟩)) EC (zs (e := 22) (sz := 1) (m := 17) (j := (q - 8) + k) (o := (q - 8) + k) (by kernel_rfl) (by kernel_rfl) (by omega) (by omega) (by omega) _) fun _ ED => f_o ?_
    have EE : (q - 8) + k < zf u := by rw [hlu]; omega
    refine m_v 0 ((q - 8) + k) (zm (zb u ((q - 8) + k) 0)) ED Ed rfl (zO EE) fun _ EF => d_e [0,3,4,5,6,7,8,9,10,11,12] [(7, g_i .u64 (Zj (x := zb u ((q - 8) + k) 0) (y := g) rfl rfl))] EF fun _ EG => ze <| wp_seq <| wp_seq <| d_r [0,3,4,5,6,7,8,9,10,11,12,58] [] EG fun _ Ej => ?_
    refine ze <| region_cut (F := fun ac wo => ∃ (t : UInt64), Env ac 85 [(0, .int .i64 f), (3, pt Ec), (4, pt Ee), (5, pt Eb), (6, pt Ea), (7, ni (mny f)), (8, ni q), (9, zm (zb w1 q 0)), (10, zm g), (11, ni k), (12, zm t)] ∧ Ev w [] wo [.box Ec (zg u) 82, .box Ee (zg (zd 4 0)) 24, .box Eb (zg (nd (mF f))) 24, .box Ea (zg (cF f)) 93] ∧ (t.toNat = (zb u (q - 8 + k) 0).toNat + (zb w1 q 0).toNat * (zb (cF f) k 0).toNat + g.toNat)) ?_ ?_
    ·
     refine c_d (((k : Nat) : Int) < ((mny f : Nat) : Int)) Ej (fun EH => ?_) (fun EH => ?_)
     ·
      refine zj <| d_k [0,3,4,5,6,7,8,9,10,11,12,59,60,61] [] 3 Ej fun _ EI => f_o <| q_v (x := Instr.indexAt 93 (pt Ea) (ni k)) (v := .pointer (some ⟨Ea, k, none⟩)) EI (zs (e := 22) (sz := 1) (m := 8) (j := k) (o := k) (by kernel_rfl) (by kernel_rfl) (by omega) (by omega) (by omega) _) fun _ EJ => f_o ?_
      have EK : k < zf (cF f) := by rw [(cF_len _)]; omega
      refine m_v 3 k (zm (zb (cF f) k 0)) EJ Ed rfl (zO EK) fun _ EL => d_e [0,3,4,5,6,7,8,9,10,11,12] [(5, g_i .u64 (QK (x := zb w1 q 0) (y := zb (cF f) k 0) rfl rfl)), (6, g_i .u64 (Zj (x := (zb u ((q - 8) + k) 0) + g) (y := (zb w1 q 0) * (zb (cF f) k 0)) rfl rfl))] EL fun _ EM => ?_
      exact ⟨rfl, ⟨(((zb u ((q - 8) + k) 0) + g) + ((zb w1 q 0) * (zb (cF f) k 0))), EM.sb, Ed.pk [0, 1, 2, 3], by first | exact mac32' (hdu _) (hdw q) (cF_dig h3 k) hgu | (rw [cF_over h3 (by omega), show (0 : UInt64).toNat = 0 from rfl, Qw, ZP]; exact add32 (hdu _) hgu)⟩⟩
     refine wp_skip ?_
     exact ⟨rfl, ⟨((zb u ((q - 8) + k) 0) + g), Ej.sb, Ed.pk [0, 1, 2, 3], by first | exact mac32' (hdu _) (hdw q) (cF_dig h3 k) hgu | (rw [cF_over h3 (by omega), show (0 : UInt64).toNat = 0 from rfl, Qw, ZP]; exact add32 (hdu _) hgu)⟩⟩
    rintro _ _ ⟨t, EN, EO, hte⟩
    refine ze <| wp_seq <| zj <| d_k [0,3,4,5,6,7,8,9,10,11,12,69,71] [(1, g_n (w_r (e := ((q : Nat) : Int) - (8 : Int)) (x := ((q - 8 : Nat) : Int)) (by omega))), (3, g_n (w_a (q - 8) k)), (5, g_i .u64 (Zy (x := t) (y := (4294967295 : UInt64)) rfl rfl))] 6 EN fun _ EP => f_o <| q_v (x := Instr.indexAt 82 (pt Ec) (ni ((q - 8) + k))) (v := .pointer (some ⟨Ec, (q - 8) + k, none⟩)) EP (zs (e := 22) (sz := 1) (m := 17) (j := (q - 8) + k) (o := (q - 8) + k) (by kernel_rfl) (by kernel_rfl) (by omega) (by omega) (by omega) _) fun _ EQ => f_o ?_
    have ER : (q - 8) + k < zf u := by rw [hlu]; omega
    refine m_t 0 ((q - 8) + k) (zm (t &&& (4294967295 : UInt64))) [.box Ec (zg (zt u ((q - 8) + k) (t &&& (4294967295 : UInt64)))) 82, .box Ee (zg (zd 4 0)) 24, .box Eb (zg (nd (mF f))) 24, .box Ea (zg (cF f)) 93] EQ EO rfl (zO ER) (Z7 _ _ _) rfl fun _ _ ES ET => f_e <| ze <| d_r [0,3,4,5,6,7,8,9,10,11,12] [(1, g_i .u64 (ZC (x := t) (n := 32) rfl (by decide)))] ES fun _ EU => zw <| ze <| d_r [0,3,4,5,6,7,8,9,10,11,12] [(1, g_n (w_a k 1))] EU fun _ EV => ze <| ⟨_, ⟨k + 1, (zt u ((q - 8) + k) (t &&& (4294967295 : UInt64))), (t >>> zi 32), rfl, EV.sb, ET.pk [0, 1, 2, 3], by omega, by simp [hlu], hdu.set (JW _), Y9 _, left_in hlu (by omega) hvu hte⟩, ?_⟩
    omega
   have EW := Ep.fx (t := 42) (congrArg Value.bool Ef)
   have hp157 : ¬ (((k : Nat) : Int) < ((mny f : Nat) : Int)) := of_decide_eq_false Ef
   refine d_e [0,3,4,5,6,7,8,9,10,11,45] [] EW fun _ Ek => ?_
   refine ze <| c_d (((zk g : Nat) : Int) > (0 : Int)) Ek (fun EX => ?_) (fun EX => ?_)
   ·
    refine wp_skip <| ze <| wp_seq <| wp_block <| wp_seq ?_
    have hk8 : k ≤ 8 := by by_cases hmk : mny f ≤ k <;> first | (have := mny_le f; omega) | exact left_idx (u := u) (by omega) (by rw [show q - 8 + 8 = q by omega]; exact hto.2.1) (hdw q) (dk_c_lt h3 k) (by omega) hvu
    have hqk : q - 8 + k < 17 := by omega
    have hm7 := mny_le f
    refine zj <| d_k [0,3,4,5,6,7,8,9,10,11,51] [(1, g_n (w_r (e := ((q : Nat) : Int) - (8 : Int)) (x := ((q - 8 : Nat) : Int)) (by omega))), (3, g_n (w_a (q - 8) k))] 4 Ek fun _ EY => f_o <| q_v (x := Instr.indexAt 82 (pt Ec) (ni ((q - 8) + k))) (v := .pointer (some ⟨Ec, (q - 8) + k, none⟩)) EY (zs (e := 22) (sz := 1) (m := 17) (j := (q - 8) + k) (o := (q - 8) + k) (by kernel_rfl) (by kernel_rfl) (by omega) (by omega) (by omega) _) fun _ EZ => f_o ?_
    have E0 : (q - 8) + k < zf u := by rw [hlu]; omega
    refine m_v 0 ((q - 8) + k) (zm (zb u ((q - 8) + k) 0)) EZ Ed rfl (zO E0) fun _ E1 => d_e [0,3,4,5,6,7,8,9,10,11,12] [(7, g_i .u64 (Zj (x := zb u ((q - 8) + k) 0) (y := g) rfl rfl))] E1 fun _ E2 => ze <| wp_seq <| wp_seq <| d_r [0,3,4,5,6,7,8,9,10,11,12,58] [] E2 fun _ El => ?_
    refine ze <| region_cut (F := fun ac wo => ∃ (t : UInt64), Env ac 85 [(0, .int .i64 f), (3, pt Ec), (4, pt Ee), (5, pt Eb), (6, pt Ea), (7, ni (mny f)), (8, ni q), (9, zm (zb w1 q 0)), (10, zm g), (11, ni k), (12, zm t)] ∧ Ev w [] wo [.box Ec (zg u) 82, .box Ee (zg (zd 4 0)) 24, .box Eb (zg (nd (mF f))) 24, .box Ea (zg (cF f)) 93] ∧ (t.toNat = (zb u (q - 8 + k) 0).toNat + (zb w1 q 0).toNat * (zb (cF f) k 0).toNat + g.toNat)) ?_ ?_
    ·
     refine c_d (((k : Nat) : Int) < ((mny f : Nat) : Int)) El (fun E3 => ?_) (fun E3 => ?_)
     ·
      refine zj <| d_k [0,3,4,5,6,7,8,9,10,11,12,59,60,61] [] 3 El fun _ E4 => f_o <| q_v (x := Instr.indexAt 93 (pt Ea) (ni k)) (v := .pointer (some ⟨Ea, k, none⟩)) E4 (zs (e := 22) (sz := 1) (m := 8) (j := k) (o := k) (by kernel_rfl) (by kernel_rfl) (by omega) (by omega) (by omega) _) fun _ E5 => f_o ?_
      have E6 : k < zf (cF f) := by rw [(cF_len _)]; omega
      refine m_v 3 k (zm (zb (cF f) k 0)) E5 Ed rfl (zO E6) fun _ E7 => d_e [0,3,4,5,6,7,8,9,10,11,12] [(5, g_i .u64 (QK (x := zb w1 q 0) (y := zb (cF f) k 0) rfl rfl)), (6, g_i .u64 (Zj (x := (zb u ((q - 8) + k) 0) + g) (y := (zb w1 q 0) * (zb (cF f) k 0)) rfl rfl))] E7 fun _ E8 => ?_
      exact ⟨rfl, ⟨(((zb u ((q - 8) + k) 0) + g) + ((zb w1 q 0) * (zb (cF f) k 0))), E8.sb, Ed.pk [0, 1, 2, 3], by first | exact mac32' (hdu _) (hdw q) (cF_dig h3 k) hgu | (rw [cF_over h3 (by omega), show (0 : UInt64).toNat = 0 from rfl, Qw, ZP]; exact add32 (hdu _) hgu)⟩⟩
     refine wp_skip ?_
     exact ⟨rfl, ⟨((zb u ((q - 8) + k) 0) + g), El.sb, Ed.pk [0, 1, 2, 3], by first | exact mac32' (hdu _) (hdw q) (cF_dig h3 k) hgu | (rw [cF_over h3 (by omega), show (0 : UInt64).toNat = 0 from rfl, Qw, ZP]; exact add32 (hdu _) hgu)⟩⟩
    rintro _ _ ⟨t, E9, Ha, hte⟩
    refine ze <| wp_seq <| zj <| d_k [0,3,4,5,6,7,8,9,10,11,12,69,71] [(1, g_n (w_r (e := ((q : Nat) : Int) - (8 : Int)) (x := ((q - 8 : Nat) : Int)) (by omega))), (3, g_n (w_a (q - 8) k)), (5, g_i .u64 (Zy (x := t) (y := (4294967295 : UInt64)) rfl rfl))] 6 E9 fun _ Hb => f_o <| q_v (x := Instr.indexAt 82 (pt Ec) (ni ((q - 8) + k))) (v := .pointer (some ⟨Ec, (q - 8) + k, none⟩)) Hb (zs (e := 22) (sz := 1) (m := 17) (j := (q - 8) + k) (o := (q - 8) + k) (by kernel_rfl) (by kernel_rfl) (by omega) (by omega) (by omega) _) fun _ Hc => f_o ?_
    have Hd : (q - 8) + k < zf u := by rw [hlu]; omega
    refine m_t 0 ((q - 8) + k) (zm (t &&& (4294967295 : UInt64))) _ Hc Ha rfl (zO Hd) (Z7 _ _ _) rfl fun _ _ He Hf => f_e <| ze <| d_r [0,3,4,5,6,7,8,9,10,11,12] [(1, g_i .u64 (ZC (x := t) (n := 32) rfl (by decide)))] He fun _ Hg => zw <| ze <| d_r [0,3,4,5,6,7,8,9,10,11,12] [(1, g_n (w_a k 1))] Hg fun _ Hh => ze <| ⟨_, ⟨k + 1, (zt u ((q - 8) + k) (t &&& (4294967295 : UInt64))), (t >>> zi 32), rfl, Hh.sb, Hf.pk [0, 1, 2, 3], by omega, by simp [hlu], hdu.set (JW _), Y9 _, left_in hlu (by omega) hvu hte⟩, ?_⟩
    omega
   refine wp_exit <| zF <| zF <| zX <| zw <| ze ?_
   have hlo := left_out h3 (by omega) (by omega) (by omega) hto.2.2 (by omega) hmw hvu
   refine ⟨_, ⟨u, rfl, Ek.sb, Ed.pk [0, 1, 2, 3], hlu, hdu, hlo.1, z6 hlo.2 hbw⟩, ?_⟩
   exact hlo.2
  refine wp_exit <| zF <| zF <| zX <| zw <| ze ?_
  have hbq : dv 4294967296 w1 < 4294967296 ^ q := by have e := zero_above hdw hbw; have l := dk_lt hdw q; rw [show (zb w1 q 0).toNat = 0 by omega] at e; omega
  refine d_r [0,3,4,5,6,7,8] [(1, g_n (w_r (e := ((q : Nat) : Int) - (1 : Int)) (x := ((q - 1 : Nat) : Int)) (by omega)))] Eu fun _ Hi => ze <| ⟨_, ⟨q - 1, w1, rfl, Hi.sb, Eo.pk [0, 1, 2, 3], by omega, hlw, hdw, hmw, by rw [show q - 1 + 1 = q by omega]; exact hbq⟩, ?_⟩
  omega
 refine wp_exit <| zF <| zF <| zX <| ze <| wp_seq <| zj <| f_o <| Zn 0 17 (zg v) Et Es rfl (za hlv) fun _ Hj => f_o <| c_p Hj Es (number_go _ v hlv hdv) fun _ _ Hk Hl => f_o <| m_z 24 (zg (zd 4 0)) Hk Hl fun _ _ Ei Hm Hn => f_o <| zW 4 4 (zg (nd (dv 4294967296 v))) [.box Ec (zg v) 82, .box Ee (zg (zd 4 0)) 24, .box Eb (zg (nd (mF f))) 24, .box Ea (zg (cF f)) 93, .box Ei (zg (nd (dv 4294967296 v))) 24] Hm Hn rfl (za (zl _ _)) (za (zh)) (zq _) rfl fun _ _ Ho Hp => f_e <| ze <| wp_seq <| wp_block ?_
 have hq7 : q = 7 := by omega
 rw [hq7, d8w] at hbv
 refine ZT (fun Hq ac wo => ∃ (x : List UInt64), Hq = (nv x : Nat) ∧ Env ac 85 [(0, .int .i64 f), (3, pt Ec), (4, pt Ee), (5, pt Eb), (6, pt Ea), (7, ni (mny f)), (8, ni q), (13, pt Ei)] ∧ Ev w [] wo [.box Ei (zg x) 24, .box Ec (zg v) 82, .box Ee (zg (zd 4 0)) 24, .box Eb (zg (nd (mF f))) 24, .box Ea (zg (cF f)) 93] ∧ (zf x = 4) ∧ (nv x % mF f = dv 4294967296 n % mF f)) ⟨_, (nd (dv 4294967296 v)), rfl, Ho.sb, Hp.pk [4, 0, 1, 2, 3], zl _ _, by rw [Z6 hbv]; exact hmv⟩ ?_
 rintro ai _ _ ⟨x, rfl, Hr, Em, hx, hxm⟩
 refine wp_seq <| wp_seq <| zj <| f_o <| Zn 0 4 (zg x) Hr Em rfl (za hx) fun _ Hs => f_o <| Zn 3 4 (zg (nd (mF f))) Hs Em rfl (za (zl _ _)) fun _ Ht => f_o <| c_p Ht Em (rless_go _ x (nd (mF f)) hx (zl _ _)) fun _ _ Hu Eg => d_e [0,3,4,5,6,7,8,13,80] [] Hu fun _ En => ?_
 refine ze <| cond_at En (t := !(decide (nv x < nv (nd (mF f))))) (by kernel_rfl) (fun Eh => ?_) (fun Eh => ?_)
 ·
  replace Eh : ¬ (nv x < nv (nd (mF f))) := by simpa using Eh
  refine wp_skip <| ze <| wp_block <| zj <| f_o <| Zn 0 4 (zg x) En Eg rfl (za hx) fun _ Hv => f_o <| Zn 3 4 (zg (nd (mF f))) Hv Eg rfl (za (zl _ _)) fun _ Hw => f_o <| c_p Hw Eg (Xp _ x (nd (mF f)) hx (zl _ _)) fun _ _ Hx Hy => f_o <| zW 0 4 (zg (nd (nv x + zR - nv (nd (mF f))))) _ Hx Hy rfl (za (zl _ _)) (za hx) (zq _) rfl fun _ _ Hz HA => f_e <| zw <| ze <| ⟨_, ⟨(nd (nv x + zR - nv (nd (mF f)))), rfl, Hz.sb, HA.pk [0, 1, 2, 3, 4], zl _ _, by rw [sub_nd hx (by omega), ← hxm]; exact (by rw [nv_mF]; exact (Nat.mod_eq_sub_mod (by rw [nv_mF] at *; omega)).symm)⟩, ?_⟩
  rw [sub_nd hx (by omega)]; have := JT (f := f) (by omega); rw [nv_mF] at *; omega
 replace Eh : nv x < nv (nd (mF f)) := by simpa using Eh
 refine wp_exit <| zF <| zF <| zX <| ze <| wp_seq <| zj <| f_o <| Zn 0 4 (zg x) En Eg rfl (za hx) fun _ HB => f_o <| zW 2 4 (zg x) [.box Ei (zg x) 24, .box Ec (zg v) 82, .box Ee (zg x) 24, .box Eb (zg (nd (mF f))) 24, .box Ea (zg (cF f)) 93] HB Eg rfl (za hx) (za (zh)) (zq _) rfl fun _ _ HC Er => f_e <| ze <| wp_ret <| zU (v := .agg (zc (zg x))) (t := 4) (T := 24) (ad := ⟨Ee, 0, none⟩) HC (by kernel_rfl) (by kernel_rfl) (zC (t := 24) (k := 2) (off := 0) (m := 4) (xs := zg x) Er rfl (zn (za hx)) (za hx) (by kernel_rfl) (by kernel_rfl)) ?_
 have hxe : x = nd (dv 4294967296 n % mF f) := nd_of hx (by rw [← hxm]; exact (zQ (by rw [nv_mF] at *; omega)).symm)
 subst hxe
 exact ⟨rfl, Er.pk []⟩
def lv : List UInt8 → Nat
  | [] => 0
  | x :: r => x.toNat + 256 * lv r
theorem lv_lt : ∀ l, lv l < 256 ^ l.length
  | [] => by decide
  | x :: r => by
    have h1 := lv_lt r
    have h2 : x.toNat < 256 := x.toNat_lt
    rw [lv, zL, Zh]
    generalize 256 ^ r.length = q at *
    omega
theorem lv_take_succ : ∀ (l : List UInt8) (i : Nat), i < l.length → lv (zD (i + 1) l) = lv (zD i l) + (zb l i 0).toNat * 256 ^ i
  | x :: r, 0, _ => by simp [lv]
  | x :: r, i + 1, h => by
    have e := lv_take_succ r i (by simpa using h)
    rw [X0, X0, lv, lv, e, QM, Zh, Qp, ZX]
    congr 2
    ac_rfl
def lb : Nat → Nat → List UInt8
  | 0, _ => []
  | k + 1, n => Qx n :: lb k (n / 256)
theorem lb_len : ∀ (k n : Nat), (lb k n).length = k
  | 0, _ => rfl
  | k + 1, n => by rw [lb, zL, lb_len k]
theorem ofNat8_val (n : Nat) : (Qx n).toNat = n % 256 := by
  show (BitVec.ofNat 8 n).toNat = n % 256
  rw [BitVec.toNat_ofNat]
theorem lb_snoc : ∀ (k n : Nat), lb (k + 1) n = lb k n ++ [Qx (n / 256 ^ k)]
  | 0, n => by simp [lb]
  | k + 1, n => by rw [lb, lb_snoc k (n / 256), lb, List.cons_append, ZJ, Zh, Zf 256]
theorem dv_dig : ∀ (l : List UInt64) (j : Nat), (zb l j 0).toNat = dv 18446744073709551616 l / 18446744073709551616 ^ j % 18446744073709551616
  | [], j => by simp [dv]
  | x :: r, 0 => by have := lt64 x; rw [JX, Y4, ZV, JM]; omega
  | x :: r, j + 1 => by
    have := lt64 x
    rw [QM, dv_dig r j, Y4, Zh, Zf (_ ^ j), ← ZJ]
    congr 2
    omega
theorem p64 : 18446744073709551616 = 256 ^ 8 := by decide
theorem or_at {a : List UInt64} (ha : a.length = 4) {i : Nat} (hi : i < 32) (h : nv a < 256 ^ i) (x : UInt8) : nv (zt a (i / 8) (zb a (i / 8) 0 ||| (Z3 x <<< zi (8 * (i % 8))))) = nv a + x.toNat * 256 ^ i := by
  have hx : x.toNat < 256 := x.toNat_lt
  have hd := dv_dig a (i / 8)
  have hp : 256 ^ i = 256 ^ (i % 8) * 18446744073709551616 ^ (i / 8) := by rw [p64, ← Qz, ← ZO]; congr 1; omega
  have hq : (zb a (i / 8) 0).toNat < 256 ^ (i % 8) := by
    rw [hd]
    refine J7 (Nat.mod_le _ _) ((Nat.div_lt_iff_lt_mul (KD (by decide))).2 ?_)
    rw [← hp]; exact h
  have hr : 256 ^ (i % 8) = 2 ^ (8 * (i % 8)) := by rw [show (256 : Nat) = 2 ^ 8 from rfl, ← Qz]
  have h64 : x.toNat * 2 ^ (8 * (i % 8)) < 18446744073709551616 := by
    have e1 : 2 ^ (8 * (i % 8)) ≤ 2 ^ 56 := QX (by decide) (by omega)
    have e2 : x.toNat * 2 ^ (8 * (i % 8)) ≤ 255 * 2 ^ 56 := QI (by omega) e1
    omega
  have e : (zb a (i / 8) 0 ||| (Z3 x <<< zi (8 * (i % 8)))).toNat = (zb a (i / 8) 0).toNat + x.toNat * 256 ^ (i % 8) := by
    have hs : (zi (8 * (i % 8))).toNat % 64 = 8 * (i % 8) := by rw [ofNat_val]; omega
    rw [UInt64.toNat_or, UInt64.toNat_shiftLeft, hs, UInt8.toNat_toUInt64, Ya, zQ h64, Nat.or_comm, ← Ya, ← Nat.shiftLeft_add_eq_or_of_lt (by rw [← hr]; exact hq), Ya, hr]
    omega
  have hs := XR 18446744073709551616 (zb a (i / 8) 0 ||| (Z3 x <<< zi (8 * (i % 8)))) a (i / 8) (by omega)
  rw [e, ZE, Zq, ← hp] at hs
  show dv _ _ = dv _ _ + _
  omega
theorem take_set_succ {α : Type} {l : List α} {i : Nat} {x : α} (h : i < l.length) : zD (i + 1) (zt l i x) = zD i l ++ [x] := by
  rw [List.take_add_one, List.take_set_of_le (Nat.le_refl i), List.getElem?_set_self h]
  rfl
theorem byte_at {a : List UInt64} (ha : a.length = 4) {i : Nat} (hi : i < 32) : QF (zb a (i / 8) 0 >>> zi (8 * (i % 8))) = Qx (nv a / 256 ^ i) := by
  apply UInt8.toNat_inj.1
  have hs : (zi (8 * (i % 8))).toNat % 64 = 8 * (i % 8) := by rw [ofNat_val]; omega
  have hp : 256 ^ i = 18446744073709551616 ^ (i / 8) * 256 ^ (i % 8) := by rw [p64, ← Qz, ← ZO]; congr 1; omega
  rw [UInt64.toNat_toUInt8, UInt64.toNat_shiftRight, hs, ofNat8_val, dv_dig, Nat.shiftRight_eq_div_pow, hp, ← ZJ]
  show _ = dv _ _ / _ / _ % _
  generalize dv 18446744073709551616 a / 18446744073709551616 ^ (i / 8) = d
  have hr : 2 ^ (8 * (i % 8)) = 256 ^ (i % 8) := by rw [show (256 : Nat) = 2 ^ 8 from rfl, ← Qz]
  have hB : 18446744073709551616 = 256 ^ (i % 8) * 256 ^ (8 - i % 8) := by rw [p64, ← ZO]; congr 1; omega
  rw [hr]
  conv => lhs; rw [hB]
  rw [Nat.mod_mul_right_div_self, Nat.mod_mod_of_dvd]
  exact ⟨256 ^ (8 - i % 8 - 1), by rw [← Nat.pow_succ']; congr 1; omega⟩
theorem fromle_go (w : World) (b : List UInt8) (hb : zf b = 32) : Calls zB 87 #[.agg (zc (bys b))] w fun e w' => e = .returned (.agg (zc (zg (nd (lv b))))) ∧ Ev w [] w' [] := by
 refine d_0 [(0, .agg (zc (bys b)))] 24 Tryz.func87 Tryz.ntmps87 (Heap.nil _) fun EK EL EM => wp_seq <| zj <| f_o <| m_m 56 (bys b) EL EM fun _ _ Ec EN EO => f_o <| m_z 24 (zg (zd 4 0)) EN EO fun _ _ Eg EP EC => f_e <| ze <| wp_seq <| zj <| f_o <| m_z 24 (zg (zd 4 0)) EP EC fun _ _ Ea ED EE => f_e <| ze <| wp_seq <| d_s [1,2,3,5] [] ED fun _ EF => ?_
 refine wp_block <| ZT (fun EG ac wo => ∃ (i : Nat) (x : List UInt64), EG = (33 - i : Nat) ∧ Env ac 24 [(1, pt Ec), (2, pt Eg), (3, pt Ea), (5, ni i)] ∧ Ev w [] wo [.box Ea (zg x) 24, .box Ec (bys b) 56, .box Eg (zg (zd 4 0)) 24] ∧ (i ≤ 32) ∧ (zf x = 4) ∧ (nv x = lv (zD i b))) ⟨_, 0, zd 4 0, rfl, EF.sb, EE.pk [2, 0, 1], by omega, zh, rfl⟩ ?_
 rintro EQ _ _ ⟨i, x, rfl, EH, Ed, hi, hx, hxv⟩
 refine d_s [1,2,3,5,6] [] EH fun _ Ef => ?_
 refine wp_seq <| c_d (((i : Nat) : Int) < (32 : Int)) Ef (fun EI => ?_) (fun EI => ?_)
 ·
  refine wp_skip <| ze <| wp_seq <| wp_block <| d_s [1,2,3,4,5] [] Ef fun _ EJ => ?_
  refine r_c (fun ac wo => Env ac 24 [(1, pt Ec), (2, pt Eg), (3, pt Ea), (5, ni i)] ∧ Ev w [] wo [.box Ea (zg (zt x (i / 8) ((zb x (i / 8) 0) ||| ((Z3 (zb b i 0)) <<< zi (8 * (i % 8)))))) 24, .box Ec (bys b) 56, .box Eg (zg (zd 4 0)) 24]) ?_ ?_
  ·
   refine h_s (fun wv => Ev w [] wv [.box Ea (zg x) 24, .box Ec (bys b) 56]) [14] 15 ?_
   have Eb := Ed.trans (zN Ed.heap)
   refine q_s [0,1] [(1, g_i .i64 (show IntKind.wrap .i64 (Yj ((i : Nat) : Int) (8 : Int)) = ((i / 8 : Nat) : Int) from ZN (a := ((i : Nat) : Int)) (n := i) (m := 8) rfl (by omega)))] 13 EJ (Eb.pk [0, 1]) fun _ Eh => q_f 2 (s := Instr.indexAt 24 (pt Ea) (ni (i / 8))) (v := .pointer (some ⟨Ea, i / 8, none⟩)) Eh (fun _ => zs (e := 22) (sz := 1) (m := 4) (j := i / 8) (o := i / 8) (by kernel_rfl) (by kernel_rfl) (by omega) (by omega) (by omega) _) (fun _ => Eb.pk [0, 1]) fun _ Ei => ?_
   have Ej : i / 8 < zf x := by rw [hx]; omega
   refine q_r 3 (s := Instr.loadAt 22 (.pointer (some ⟨Ea, i / 8, none⟩))) (v := zm (zb x (i / 8) 0)) Ei (fun w hS => Zt (by kernel_rfl) (hS.heap.cell (k := 0) rfl (zO Ej))) (Eb.pk [0, 1]) fun _ Ek => q_s [4] [] 10 Ek (Eb.pk [0, 1]) fun _ El => q_f 5 (s := Instr.indexAt 56 (pt Ec) (ni i)) (v := .pointer (some ⟨Ec, i, none⟩)) El (fun _ => zs (e := 5) (sz := 1) (m := 32) (j := i) (o := i) (by kernel_rfl) (by kernel_rfl) (by omega) (by omega) (by omega) _) (fun _ => Eb.pk [0, 1]) fun _ Em => ?_
   have En : i < zf b := by rw [hb]; omega
   refine q_r 6 (s := Instr.loadAt 5 (.pointer (some ⟨Ec, i, none⟩))) (v := bv (zb b i 0)) Em (fun w hS => Zt (by kernel_rfl) (hS.heap.cell (k := 1) rfl (Z0 En))) (Eb.pk [0, 1]) fun _ Eo => q_s [7,8,9,10] [(7, g_i .u64 (Ki (x := zb b i 0) rfl)), (9, g_i .i64 (show YG ((i : Nat) : Int) (8 : Int) = ((i % 8 : Nat) : Int) from ZQ (a := ((i : Nat) : Int)) (n := i) (m := 8) rfl (by omega))), (10, g_n (w_m 8 (i % 8)))] 4 Eo (Eb.pk [0, 1]) fun _ Ep => q_f 11 Ep (fun _ => Jj (Z3 (zb b i 0)) .i64 (8 * (i % 8)) (by omega) _) (fun _ => Eb.pk [0, 1]) fun _ Eq => q_s [12] [(12, g_i .u64 (Qb (x := zb x (i / 8) 0) (y := (Z3 (zb b i 0)) <<< zi (8 * (i % 8))) rfl rfl))] 2 Eq (Eb.pk [0, 1]) fun _ Er => q_f 13 (s := Instr.indexAt 24 (pt Ea) (ni (i / 8))) (v := .pointer (some ⟨Ea, i / 8, none⟩)) Er (fun _ => zs (e := 22) (sz := 1) (m := 4) (j := i / 8) (o := i / 8) (by kernel_rfl) (by kernel_rfl) (by omega) (by omega) (by omega) _) (fun _ => Eb.pk [0, 1]) fun _ Es => q_t 14 ?_
   have Et : i / 8 < zf x := by rw [hx]; omega
   refine m_t 0 (i / 8) (zm ((zb x (i / 8) 0) ||| ((Z3 (zb b i 0)) <<< zi (8 * (i % 8))))) _ Es Eb rfl (zO Et) (Z7 _ _ _) rfl fun _ _ Eu Ew => ⟨q_y, ?_⟩
   exact h_e ⟨Eu.sb, Ew.pk [0, 1, 2]⟩
  rintro _ _ ⟨Ex, Ey⟩
  refine zw <| ze <| d_r [1,2,3,5] [(0, g_n (w_a i 1))] Ex fun _ Ez => ze <| ⟨_, ⟨i + 1, (zt x (i / 8) ((zb x (i / 8) 0) ||| ((Z3 (zb b i 0)) <<< zi (8 * (i % 8))))), rfl, Ez.sb, Ey.pk [0, 1, 2], by omega, (List.length_set.trans hx), (or_at hx (by omega) (by rw [hxv]; exact Yb (lv_lt _) (QX (by decide) (by rw [Zg]; omega))) _).trans (by rw [hxv, ← lv_take_succ _ _ (by omega)])⟩, ?_⟩
  omega
 refine wp_exit <| zF <| zF <| zX <| ze <| wp_seq <| zj <| f_o <| Zn 0 4 (zg x) Ef Ed rfl (za hx) fun _ EA => f_o <| zW 2 4 (zg x) [.box Ea (zg x) 24, .box Ec (bys b) 56, .box Eg (zg x) 24] EA Ed rfl (za hx) (za (zh)) (zq _) rfl fun _ _ EB Ee => f_e <| ze <| wp_ret <| zU (v := .agg (zc (zg x))) (t := 2) (T := 24) (ad := ⟨Eg, 0, none⟩) EB (by kernel_rfl) (by kernel_rfl) (zC (t := 24) (k := 2) (off := 0) (m := 4) (xs := zg x) Ee rfl (zn (za hx)) (za hx) (by kernel_rfl) (by kernel_rfl)) ?_
 have hi32 : i = 32 := by omega
 have hxe : x = nd (lv b) := nd_of hx (by rw [hxv, hi32, zx (by omega)])
 subst hxe
 exact ⟨rfl, Ee.pk []⟩
theorem tole_go (w : World) (a : List UInt64) (ha : zf a = 4) : Calls zB 71 #[.agg (zc (zg a))] w fun e w' => e = .returned (.agg (zc (bys (lb 32 (nv a))))) ∧ Ev w [] w' [] := by
 refine d_0 [(0, .agg (zc (zg a)))] 21 Tryz.func71 Tryz.ntmps71 (Heap.nil _) fun ED EE EF => wp_seq <| zj <| f_o <| m_m 24 (zg a) EE EF fun _ _ Ed EG EH => f_o <| m_z 56 (bys (zd 32 0)) EG EH fun _ _ Ef EI Eg => f_e <| ze <| wp_seq <| zj <| f_o <| m_z 56 (bys (zd 32 0)) EI Eg fun _ _ Ea Eh Ei => f_e <| ze <| wp_seq <| d_s [1,2,3,5] [] Eh fun _ Ej => ?_
 refine wp_block <| ZT (fun Ek ac wo => ∃ (i : Nat) (x : List UInt8), Ek = (33 - i : Nat) ∧ Env ac 21 [(1, pt Ed), (2, pt Ef), (3, pt Ea), (5, ni i)] ∧ Ev w [] wo [.box Ea (bys x) 56, .box Ed (zg a) 24, .box Ef (bys (zd 32 0)) 56] ∧ (i ≤ 32) ∧ (zf x = 32) ∧ (zD i x = lb i (nv a))) ⟨_, 0, zd 32 0, rfl, Ej.sb, Ei.pk [2, 0, 1], by omega, zh, rfl⟩ ?_
 rintro EJ _ _ ⟨i, x, rfl, El, Eb, hi, hx, hxv⟩
 refine d_s [1,2,3,5,6] [] El fun _ Ec => ?_
 refine wp_seq <| c_d (((i : Nat) : Int) < (32 : Int)) Ec (fun Em => ?_) (fun Em => ?_)
 ·
  refine wp_skip <| ze <| wp_seq <| wp_block <| d_s [1,2,3,4,5] [] Ec fun _ En => zj <| d_k [1,2,3,4,5,8,10] [(2, g_i .i64 (show IntKind.wrap .i64 (Yj ((i : Nat) : Int) (8 : Int)) = ((i / 8 : Nat) : Int) from ZN (a := ((i : Nat) : Int)) (n := i) (m := 8) rfl (by omega)))] 3 En fun _ Eo => f_o <| q_v (x := Instr.indexAt 24 (pt Ed) (ni (i / 8))) (v := .pointer (some ⟨Ed, i / 8, none⟩)) Eo (zs (e := 22) (sz := 1) (m := 4) (j := i / 8) (o := i / 8) (by kernel_rfl) (by kernel_rfl) (by omega) (by omega) (by omega) _) fun _ Ep => f_o ?_
  have Eq : i / 8 < zf a := by rw [ha]; omega
  refine m_v 1 (i / 8) (zm (zb a (i / 8) 0)) Ep Eb rfl (zO Eq) fun _ Er => d_k [1,2,3,5,8,12,15] [(6, g_i .i64 (show YG ((i : Nat) : Int) (8 : Int) = ((i % 8 : Nat) : Int) from ZQ (a := ((i : Nat) : Int)) (n := i) (m := 8) rfl (by omega))), (7, g_n (w_m 8 (i % 8)))] 8 Er fun _ Es => f_o <| q_v Es (QU (zb a (i / 8) 0) .i64 (8 * (i % 8)) (by omega) _) fun _ Et => d_k [1,2,3,5,8,17] [(9, g_i .u8 (Xq (x := (zb a (i / 8) 0) >>> zi (8 * (i % 8))) rfl))] 10 Et fun _ Eu => f_o <| q_v (x := Instr.indexAt 56 (pt Ea) (ni i)) (v := .pointer (some ⟨Ea, i, none⟩)) Eu (zs (e := 5) (sz := 1) (m := 32) (j := i) (o := i) (by kernel_rfl) (by kernel_rfl) (by omega) (by omega) (by omega) _) fun _ Ew => f_o ?_
  have Ex : i < zf x := by rw [hx]; omega
  refine m_t 0 i (bv (QF ((zb a (i / 8) 0) >>> zi (8 * (i % 8))))) _ Ew Eb rfl (Z0 Ex) (bys_set _ _ _) rfl fun _ _ Ey Ez => f_e <| zw <| ze <| d_r [1,2,3,5] [(0, g_n (w_a i 1))] Ey fun _ EA => ze <| ⟨_, ⟨i + 1, (zt x i (QF ((zb a (i / 8) 0) >>> zi (8 * (i % 8))))), rfl, EA.sb, Ez.pk [0, 1, 2], by omega, (List.length_set.trans hx), by rw [take_set_succ (by omega), hxv, byte_at ha (by omega), lb_snoc]⟩, ?_⟩
  omega
 refine wp_exit <| zF <| zF <| zX <| ze <| wp_seq <| zj <| f_o <| Zn 0 32 (bys x) Ec Eb rfl (Zi hx) fun _ EB => f_o <| zW 2 32 (bys x) [.box Ea (bys x) 56, .box Ed (zg a) 24, .box Ef (bys x) 56] EB Eb rfl (Zi hx) (Zi (zh)) (bys_one _) rfl fun _ _ EC Ee => f_e <| ze <| wp_ret <| zU (v := .agg (zc (bys x))) (t := 2) (T := 56) (ad := ⟨Ef, 0, none⟩) EC (by kernel_rfl) (by kernel_rfl) (zC (t := 56) (k := 2) (off := 0) (m := 32) (xs := bys x) Ee rfl (zn (Zi hx)) (Zi hx) (by kernel_rfl) (by kernel_rfl)) ?_
 have hi32 : i = 32 := by omega
 have hxe : x = lb 32 (nv a) := by rw [hi32, zx (by omega)] at hxv; exact hxv
 subst hxe
 exact ⟨rfl, Ee.pk []⟩
theorem rfromle_go (w : World) (b : List UInt8) (hb : zf b = 32) : Calls zB 68 #[.agg (zc (bys b))] w fun e w' => e = .returned (.agg (zc (zg (nd (lv b))))) ∧ Ev w [] w' [] := by
 refine d_0 [(0, .agg (zc (bys b)))] 26 Tryz.func68 Tryz.ntmps68 (Heap.nil _) fun EJ EK EL => wp_seq <| zj <| f_o <| m_m 56 (bys b) EK EL fun _ _ Ec EM EN => f_o <| m_z 24 (zg (zd 4 0)) EM EN fun _ _ Eg EO EC => f_e <| ze <| wp_seq <| zj <| f_o <| m_z 24 (zg (zd 4 0)) EO EC fun _ _ Ea ED EE => f_e <| ze <| wp_seq <| d_s [1,2,3,4] [] ED fun _ EF => ?_
 refine wp_block <| ZT (fun EG ac wo => ∃ (i : Nat) (x : List UInt64), EG = (33 - i : Nat) ∧ Env ac 26 [(1, pt Ec), (2, pt Eg), (3, pt Ea), (4, ni i)] ∧ Ev w [] wo [.box Ea (zg x) 24, .box Ec (bys b) 56, .box Eg (zg (zd 4 0)) 24] ∧ (i ≤ 32) ∧ (zf x = 4) ∧ (nv x = lv (zD i b))) ⟨_, 0, zd 4 0, rfl, EF.sb, EE.pk [2, 0, 1], by omega, zh, rfl⟩ ?_
 rintro EP _ _ ⟨i, x, rfl, EH, Ed, hi, hx, hxv⟩
 refine wp_seq <| d_s [1,2,3,4,6] [] EH fun _ Ef => ?_
 refine c_d (((i : Nat) : Int) < (32 : Int)) Ef (fun EI => ?_) (fun EI => ?_)
 ·
  refine wp_skip <| ze <| wp_seq <| wp_block <| r_c (fun ac wo => Env ac 26 [(1, pt Ec), (2, pt Eg), (3, pt Ea), (4, ni i)] ∧ Ev w [] wo [.box Ea (zg (zt x (i / 8) ((zb x (i / 8) 0) ||| ((Z3 (zb b i 0)) <<< zi (8 * (i % 8)))))) 24, .box Ec (bys b) 56, .box Eg (zg (zd 4 0)) 24]) ?_ ?_
  ·
   refine h_s (fun wv => Ev w [] wv [.box Ea (zg x) 24, .box Ec (bys b) 56]) [16] 17 ?_
   have Eb := Ed.trans (zN Ed.heap)
   refine q_s [0,1,2,3] [(1, g_i .i64 (show IntKind.wrap .i64 (Yj ((i : Nat) : Int) (8 : Int)) = ((i / 8 : Nat) : Int) from ZN (a := ((i : Nat) : Int)) (n := i) (m := 8) rfl (by omega))), (3, g_i .i64 (show IntKind.wrap .i64 (Yj ((i : Nat) : Int) (8 : Int)) = ((i / 8 : Nat) : Int) from ZN (a := ((i : Nat) : Int)) (n := i) (m := 8) rfl (by omega)))] 13 Ef (Eb.pk [0, 1]) fun _ Eh => q_f 4 (s := Instr.indexAt 24 (pt Ea) (ni (i / 8))) (v := .pointer (some ⟨Ea, i / 8, none⟩)) Eh (fun _ => zs (e := 22) (sz := 1) (m := 4) (j := i / 8) (o := i / 8) (by kernel_rfl) (by kernel_rfl) (by omega) (by omega) (by omega) _) (fun _ => Eb.pk [0, 1]) fun _ Ei => ?_
   have Ej : i / 8 < zf x := by rw [hx]; omega
   refine q_r 5 (s := Instr.loadAt 22 (.pointer (some ⟨Ea, i / 8, none⟩))) (v := zm (zb x (i / 8) 0)) Ei (fun w hS => Zt (by kernel_rfl) (hS.heap.cell (k := 0) rfl (zO Ej))) (Eb.pk [0, 1]) fun _ Ek => q_s [6] [] 10 Ek (Eb.pk [0, 1]) fun _ El => q_f 7 (s := Instr.indexAt 56 (pt Ec) (ni i)) (v := .pointer (some ⟨Ec, i, none⟩)) El (fun _ => zs (e := 5) (sz := 1) (m := 32) (j := i) (o := i) (by kernel_rfl) (by kernel_rfl) (by omega) (by omega) (by omega) _) (fun _ => Eb.pk [0, 1]) fun _ Em => ?_
   have En : i < zf b := by rw [hb]; omega
   refine q_r 8 (s := Instr.loadAt 5 (.pointer (some ⟨Ec, i, none⟩))) (v := bv (zb b i 0)) Em (fun w hS => Zt (by kernel_rfl) (hS.heap.cell (k := 1) rfl (Z0 En))) (Eb.pk [0, 1]) fun _ Eo => q_s [9,10,11,12] [(9, g_i .u64 (Ki (x := zb b i 0) rfl)), (11, g_i .i64 (show YG ((i : Nat) : Int) (8 : Int) = ((i % 8 : Nat) : Int) from ZQ (a := ((i : Nat) : Int)) (n := i) (m := 8) rfl (by omega))), (12, g_n (w_m 8 (i % 8)))] 4 Eo (Eb.pk [0, 1]) fun _ Ep => q_f 13 Ep (fun _ => Jj (Z3 (zb b i 0)) .i64 (8 * (i % 8)) (by omega) _) (fun _ => Eb.pk [0, 1]) fun _ Eq => q_s [14] [(14, g_i .u64 (Qb (x := zb x (i / 8) 0) (y := (Z3 (zb b i 0)) <<< zi (8 * (i % 8))) rfl rfl))] 2 Eq (Eb.pk [0, 1]) fun _ Er => q_f 15 (s := Instr.indexAt 24 (pt Ea) (ni (i / 8))) (v := .pointer (some ⟨Ea, i / 8, none⟩)) Er (fun _ => zs (e := 22) (sz := 1) (m := 4) (j := i / 8) (o := i / 8) (by kernel_rfl) (by kernel_rfl) (by omega) (by omega) (by omega) _) (fun _ => Eb.pk [0, 1]) fun _ Es => q_t 16 ?_
   have Et : i / 8 < zf x := by rw [hx]; omega
   refine m_t 0 (i / 8) (zm ((zb x (i / 8) 0) ||| ((Z3 (zb b i 0)) <<< zi (8 * (i % 8))))) _ Es Eb rfl (zO Et) (Z7 _ _ _) rfl fun _ _ Eu Ew => ⟨q_y, ?_⟩
   exact h_e ⟨Eu.sb, Ew.pk [0, 1, 2]⟩
  rintro _ _ ⟨Ex, Ey⟩
  refine zw <| ze <| d_r [1,2,3,4] [(1, g_n (w_a i 1))] Ex fun _ Ez => ze <| ⟨_, ⟨i + 1, (zt x (i / 8) ((zb x (i / 8) 0) ||| ((Z3 (zb b i 0)) <<< zi (8 * (i % 8))))), rfl, Ez.sb, Ey.pk [0, 1, 2], by omega, (List.length_set.trans hx), (or_at hx (by omega) (by rw [hxv]; exact Yb (lv_lt _) (QX (by decide) (by rw [Zg]; omega))) _).trans (by rw [hxv, ← lv_take_succ _ _ (by omega)])⟩, ?_⟩
  omega
 refine wp_exit <| zF <| zF <| zX <| ze <| wp_seq <| zj <| f_o <| Zn 0 4 (zg x) Ef Ed rfl (za hx) fun _ EA => f_o <| zW 2 4 (zg x) [.box Ea (zg x) 24, .box Ec (bys b) 56, .box Eg (zg x) 24] EA Ed rfl (za hx) (za (zh)) (zq _) rfl fun _ _ EB Ee => f_e <| ze <| wp_ret <| zU (v := .agg (zc (zg x))) (t := 2) (T := 24) (ad := ⟨Eg, 0, none⟩) EB (by kernel_rfl) (by kernel_rfl) (zC (t := 24) (k := 2) (off := 0) (m := 4) (xs := zg x) Ee rfl (zn (za hx)) (za hx) (by kernel_rfl) (by kernel_rfl)) ?_
 have hi32 : i = 32 := by omega
 have hxe : x = nd (lv b) := nd_of hx (by rw [hxv, hi32, zx (by omega)])
 subst hxe
 exact ⟨rfl, Ee.pk []⟩
theorem rtole_go (w : World) (a : List UInt64) (ha : zf a = 4) : Calls zB 66 #[.agg (zc (zg a))] w fun e w' => e = .returned (.agg (zc (bys (lb 32 (nv a))))) ∧ Ev w [] w' [] := by
 refine d_0 [(0, .agg (zc (zg a)))] 21 Tryz.func66 Tryz.ntmps66 (Heap.nil _) fun EC ED EE => wp_seq <| zj <| f_o <| m_m 24 (zg a) ED EE fun _ _ Ed EF EG => f_o <| m_z 56 (bys (zd 32 0)) EF EG fun _ _ Ef EH Eg => f_e <| ze <| wp_seq <| zj <| f_o <| m_z 56 (bys (zd 32 0)) EH Eg fun _ _ Ea Eh Ei => f_e <| ze <| wp_seq <| d_s [1,2,3,4] [] Eh fun _ Ej => ?_
 refine wp_block <| ZT (fun Ek ac wo => ∃ (i : Nat) (x : List UInt8), Ek = (33 - i : Nat) ∧ Env ac 21 [(1, pt Ed), (2, pt Ef), (3, pt Ea), (4, ni i)] ∧ Ev w [] wo [.box Ea (bys x) 56, .box Ed (zg a) 24, .box Ef (bys (zd 32 0)) 56] ∧ (i ≤ 32) ∧ (zf x = 32) ∧ (zD i x = lb i (nv a))) ⟨_, 0, zd 32 0, rfl, Ej.sb, Ei.pk [2, 0, 1], by omega, zh, rfl⟩ ?_
 rintro EI _ _ ⟨i, x, rfl, El, Eb, hi, hx, hxv⟩
 refine wp_seq <| d_s [1,2,3,4,6] [] El fun _ Ec => ?_
 refine c_d (((i : Nat) : Int) < (32 : Int)) Ec (fun Em => ?_) (fun Em => ?_)
 ·
  refine wp_skip <| ze <| wp_seq <| wp_block <| zj <| d_k [1,2,3,4,9,11] [(2, g_i .i64 (show IntKind.wrap .i64 (Yj ((i : Nat) : Int) (8 : Int)) = ((i / 8 : Nat) : Int) from ZN (a := ((i : Nat) : Int)) (n := i) (m := 8) rfl (by omega)))] 3 Ec fun _ En => f_o <| q_v (x := Instr.indexAt 24 (pt Ed) (ni (i / 8))) (v := .pointer (some ⟨Ed, i / 8, none⟩)) En (zs (e := 22) (sz := 1) (m := 4) (j := i / 8) (o := i / 8) (by kernel_rfl) (by kernel_rfl) (by omega) (by omega) (by omega) _) fun _ Eo => f_o ?_
  have Ep : i / 8 < zf a := by rw [ha]; omega
  refine m_v 1 (i / 8) (zm (zb a (i / 8) 0)) Eo Eb rfl (zO Ep) fun _ Eq => d_k [1,2,3,4,9,13,16] [(6, g_i .i64 (show YG ((i : Nat) : Int) (8 : Int) = ((i % 8 : Nat) : Int) from ZQ (a := ((i : Nat) : Int)) (n := i) (m := 8) rfl (by omega))), (7, g_n (w_m 8 (i % 8)))] 8 Eq fun _ Er => f_o <| q_v Er (QU (zb a (i / 8) 0) .i64 (8 * (i % 8)) (by omega) _) fun _ Es => d_k [1,2,3,4,9,18] [(9, g_i .u8 (Xq (x := (zb a (i / 8) 0) >>> zi (8 * (i % 8))) rfl))] 10 Es fun _ Et => f_o <| q_v (x := Instr.indexAt 56 (pt Ea) (ni i)) (v := .pointer (some ⟨Ea, i, none⟩)) Et (zs (e := 5) (sz := 1) (m := 32) (j := i) (o := i) (by kernel_rfl) (by kernel_rfl) (by omega) (by omega) (by omega) _) fun _ Eu => f_o ?_
  have Ew : i < zf x := by rw [hx]; omega
  refine m_t 0 i (bv (QF ((zb a (i / 8) 0) >>> zi (8 * (i % 8))))) _ Eu Eb rfl (Z0 Ew) (bys_set _ _ _) rfl fun _ _ Ex Ey => f_e <| zw <| ze <| d_r [1,2,3,4] [(1, g_n (w_a i 1))] Ex fun _ Ez => ze <| ⟨_, ⟨i + 1, (zt x i (QF ((zb a (i / 8) 0) >>> zi (8 * (i % 8))))), rfl, Ez.sb, Ey.pk [0, 1, 2], by omega, (List.length_set.trans hx), by rw [take_set_succ (by omega), hxv, byte_at ha (by omega), lb_snoc]⟩, ?_⟩
  omega
 refine wp_exit <| zF <| zF <| zX <| ze <| wp_seq <| zj <| f_o <| Zn 0 32 (bys x) Ec Eb rfl (Zi hx) fun _ EA => f_o <| zW 2 32 (bys x) [.box Ea (bys x) 56, .box Ed (zg a) 24, .box Ef (bys x) 56] EA Eb rfl (Zi hx) (Zi (zh)) (bys_one _) rfl fun _ _ EB Ee => f_e <| ze <| wp_ret <| zU (v := .agg (zc (bys x))) (t := 2) (T := 56) (ad := ⟨Ef, 0, none⟩) EB (by kernel_rfl) (by kernel_rfl) (zC (t := 56) (k := 2) (off := 0) (m := 32) (xs := bys x) Ee rfl (zn (Zi hx)) (Zi hx) (by kernel_rfl) (by kernel_rfl)) ?_
 have hi32 : i = 32 := by omega
 have hxe : x = lb 32 (nv a) := by rw [hi32, zx (by omega)] at hxv; exact hxv
 subst hxe
 exact ⟨rfl, Ee.pk []⟩
def LeftOk (f : Int) : Prop := ∀ (w : World) (n : List UInt64), zf n = 17 → DG n → dv 4294967296 n < 4294967296 ^ 16 → Calls zB 63 #[.int .i64 f, .agg (zc (zg n))] w fun e w' => e = .returned (.agg (zc (zg (nd (dv 4294967296 n % mF f))))) ∧ Ev w [] w' []
theorem leftOk3 {f : Int} (h3 : f = 1 ∨ f = 2 ∨ f = 3) : LeftOk f := fun w n hn hd _ => left3_go w f h3 n hn hd
theorem left_at {f : Int} (hL : LeftOk f) (w : World) {n : List UInt64} (V : Nat) (hn : zf n = 17) (hd : DG n) (hv : dv 4294967296 n = V) (hb : V < 4294967296 ^ 16) : Calls zB 63 #[.int .i64 f, .agg (zc (zg n))] w fun e w' => e = .returned (.agg (zc (zg (nd (V % mF f))))) ∧ Ev w [] w' [] := by
  have h := hL w n hn hd (by rw [hv]; exact hb)
  rwa [hv] at h
theorem dv_n32 {n : Nat} (h : n < 4294967296 ^ 16) : dv 4294967296 (n32 17 n) = n := by rw [n32_val, zQ (Yb h (by decide))]
theorem w256_32 : zR = 4294967296 ^ 8 := by decide
theorem prod_lt {x y : Nat} (hx : x < zR) (hy : y < zR) : x * y < 4294967296 ^ 16 := by
  have h : x * y ≤ (zR - 1) * (zR - 1) := QI (by omega) (by omega)
  refine J7 h (by decide)
theorem carry8 {x y : Nat} (hx : x < zR) (hy : y < zR) : dv 4294967296 (zt (n32 17 (nv (nd (x + y)))) 8 (u1 (zR ≤ x + y))) = x + y := by
  have h := XR 4294967296 (u1 (zR ≤ x + y)) (n32 17 (nv (nd (x + y)))) 8 (by rw [Y6]; decide)
  have g := n32_get 17 (nv (nd (x + y))) 8 (by decide)
  have e : nv (nd (x + y)) / 4294967296 ^ 8 = 0 := Nat.div_eq_of_lt (by rw [← w256_32]; exact Z1 (zl _ _))
  rw [e, Nat.zero_mod] at g
  rw [g, Qm, ZP, dv_n32 (z6 (Z1 (zl _ _)) (by decide)), u1_val, ← w256_32] at h
  have k := nd_val (x + y)
  clear g e
  generalize dv 4294967296 (zt (n32 17 (nv (nd (x + y)))) 8 (u1 (zR ≤ x + y))) = G at *
  generalize nv (nd (x + y)) = Z at *
  simp only [zR] at *
  split at h <;> omega
theorem sum_lt {x y : Nat} (hx : x < zR) (hy : y < zR) : x + y < 4294967296 ^ 16 := by
  simp only [zR] at *
  have e : (4294967296 : Nat) ^ 16 = 13407807929942597099574024998205846127479365820592393377723561443721764030073546976801874298166903427690031858186486050853753882811946569946433649006084096 := by decide
  omega
theorem u1_dig (p : Prop) [Decidable p] : (u1 p).toNat < 4294967296 := J7 (u1_le p) (by decide)
theorem rsub_fin1 {x y M : Nat} (hx : x < M) (hy : y < M) (hM : M < zR) (h : nv (nd x) < nv (nd y)) : nd (nv (nd M) + zR - nv (nd (nv (nd y) + zR - nv (nd x)))) = nd ((x + M - y) % M) := by
  rw [Z6 (by omega), Z6 (by omega)] at h
  rw [Z6 hM, Z6 (n := y) (by omega), Z6 (n := x) (by omega), nd_val, zQ (a := x + M - y) (by omega), ← nd_mod, ← nd_mod (x + M - y)]
  congr 1
  simp only [zR] at *
  omega
theorem rsub_fin2 {x y M : Nat} (hx : x < M) (hy : y < M) (hM : M < zR) (h : ¬ nv (nd x) < nv (nd y)) : nd (nv (nd x) + zR - nv (nd y)) = nd ((x + M - y) % M) := by
  rw [Z6 (by omega), Z6 (by omega)] at *
  exact sub_fin2 hx hy hM h
theorem radd_go (w : World) (f : Int) (hf : f = 1 ∨ f = 2 ∨ f = 3 ∨ f = 4) (hL : LeftOk f) (a b : List UInt64) (ha : zf a = 4) (hb : zf b = 4) : Calls zB 35 #[.int .i64 f, .agg (zc (zg a)), .agg (zc (zg b))] w fun e w' => e = .returned (.agg (zc (zg (nd (addM f (nv a) (nv b)))))) ∧ Ev w [] w' [] := by
 refine d_0 [(0, .int .i64 f), (1, .agg (zc (zg a))), (2, .agg (zc (zg b)))] 29 Tryz.func35 Tryz.ntmps35 (Heap.nil _) fun EP EQ ER => wp_seq <| zj <| f_o <| m_m 24 (zg a) EQ ER fun _ _ EN ES ET => f_o <| m_m 24 (zg b) ES ET fun _ _ EO EU Ei => f_o <| m_z 24 (zg (zd 4 0)) EU Ei fun _ _ Ea Ej Ek => f_e <| ze <| wp_seq <| zj <| d_k [0,4,5,6,11] [] 1 Ej fun _ El => f_o <| c_p El Ek (Xy _ f hf) fun _ _ Em Eb => ?_
 refine d_e [0,4,5,6,7] [] Em fun _ En => ze <| wp_seq <| d_s [0,4,5,6,14] [] En fun _ Ec => c_f Ec ?_
 refine wp_skip <| ze <| wp_seq <| zj <| f_o <| Zn 0 4 (zg a) Ec Eb rfl (za ha) fun _ Eo => f_o <| Zn 1 4 (zg b) Eo Eb rfl (za hb) fun _ Ep => f_o <| c_p Ep Eb (rplus_go _ a b ha hb) fun _ _ Eq Er => d_k [0,6,20,21] [] 6 Eq fun _ Es => f_o <| m_z 24 (zg (zd 4 0)) Es Er fun _ _ Ed Et Eu => f_o <| zW 3 4 (zg (nd (nv a + nv b))) _ Et Eu rfl (za (zl _ _)) (za (zh)) (zq _) rfl fun _ _ Ew Ee => ?_
 refine d_e [0,6,8,9] [] Ew fun _ Ex => ze <| wp_seq <| zj <| f_o <| Zn 3 4 (zg (nd (nv a + nv b))) Ex Ee rfl (za (zl _ _)) fun _ Ey => f_o <| c_p Ey Ee (digits_go _ (nd (nv a + nv b)) (zl _ _)) fun _ _ Ez EA => f_o <| m_z 82 (zg (zd 17 0)) Ez EA fun _ _ Ef EB EC => f_o <| zW 4 17 (zg (n32 17 (nv (nd (nv a + nv b))))) [.box EN (zg a) 24, .box EO (zg b) 24, .box Ea (zg (zd 4 0)) 24, .box Ed (zg (nd (nv a + nv b))) 24, .box Ef (zg (n32 17 (nv (nd (nv a + nv b))))) 82] EB EC rfl (za (Y6 _ _)) (za (zh)) (zq _) rfl fun _ _ ED EE => f_e <| ze <| wp_seq <| zj <| d_k [0,6,8,10,24,25] [] 2 ED fun _ EF => ?_
 refine f_o ?_
 have EG : 8 < zf (n32 17 (nv (nd (nv a + nv b)))) := by rw [(Y6 _ _)]; omega
 refine m_t 4 8 (zm (u1 (zR ≤ nv a + nv b))) _ EF EE rfl (zO EG) (Z7 _ _ _) rfl fun _ _ EH Eg => f_e <| ze <| wp_seq <| zj <| d_k [0,6,8,10,26] [] 1 EH fun _ EI => f_o <| Zn 4 17 (zg (zt (n32 17 (nv (nd (nv a + nv b)))) 8 (u1 (zR ≤ nv a + nv b)))) EI Eg rfl (za (List.length_set.trans (Y6 _ _))) fun _ EJ => f_o <| c_p EJ Eg (left_at hL _ (nv a + nv b) (List.length_set.trans (Y6 _ _)) ((Xx _ _).set (u1_dig _)) (carry8 (Z1 ha) (Z1 hb)) (sum_lt (Z1 ha) (Z1 hb))) fun _ _ EK EL => f_o <| zW 2 4 (zg (nd ((nv a + nv b) % mF f))) [.box EN (zg a) 24, .box EO (zg b) 24, .box Ea (zg (nd ((nv a + nv b) % mF f))) 24, .box Ed (zg (nd (nv a + nv b))) 24, .box Ef (zg (zt (n32 17 (nv (nd (nv a + nv b)))) 8 (u1 (zR ≤ nv a + nv b)))) 82] EK EL rfl (za (zl _ _)) (za (zh)) (zq _) rfl fun _ _ EM Eh => f_e <| ze <| wp_ret <| zU (v := .agg (zc (zg (nd ((nv a + nv b) % mF f))))) (t := 6) (T := 24) (ad := ⟨Ea, 0, none⟩) EM (by kernel_rfl) (by kernel_rfl) (zC (t := 24) (k := 2) (off := 0) (m := 4) (xs := zg (nd ((nv a + nv b) % mF f))) Eh rfl (zn (za (zl _ _))) (za (zl _ _)) (by kernel_rfl) (by kernel_rfl)) ?_
 exact ⟨rfl, Eh.pk []⟩
theorem rmul_go (w : World) (f : Int) (hf : f = 1 ∨ f = 2 ∨ f = 3 ∨ f = 4) (hL : LeftOk f) (a b : List UInt64) (ha : zf a = 4) (hb : zf b = 4) : Calls zB 25 #[.int .i64 f, .agg (zc (zg a)), .agg (zc (zg b))] w fun e w' => e = .returned (.agg (zc (zg (nd (mulM f (nv a) (nv b)))))) ∧ Ev w [] w' [] := by
 refine d_0 [(0, .int .i64 f), (1, .agg (zc (zg a))), (2, .agg (zc (zg b)))] 18 Tryz.func25 Tryz.ntmps25 (Heap.nil _) fun Es Et Eu => wp_seq <| zj <| f_o <| m_m 24 (zg a) Et Eu fun _ _ Ez Ew Ex => f_o <| m_m 24 (zg b) Ew Ex fun _ _ EA Ey Ed => f_o <| m_z 24 (zg (zd 4 0)) Ey Ed fun _ _ Ee Ef Eg => f_e <| ze <| wp_seq <| zj <| d_k [0,4,5,6,8] [] 1 Ef fun _ Eh => f_o <| c_p Eh Eg (Xy _ f hf) fun _ _ Ei Ea => ?_
 refine d_e [0,4,5,6,7] [] Ei fun _ Ej => ze <| wp_seq <| d_s [0,4,5,6,11] [] Ej fun _ Eb => c_f Eb ?_
 refine wp_skip <| ze <| wp_seq <| zj <| d_k [0,4,5,6,13] [] 1 Eb fun _ Ek => f_o <| Zn 0 4 (zg a) Ek Ea rfl (za ha) fun _ El => f_o <| Zn 1 4 (zg b) El Ea rfl (za hb) fun _ Em => f_o <| c_p Em Ea (times_go _ a b ha hb) fun _ _ En Eo => f_o <| c_p En Eo (left_at hL _ (nv a * nv b) (Y6 _ _) (Xx _ _) (dv_n32 (by first | exact prod_lt (Z1 ha) (Z1 hb) | exact z6 (Z1 ha) (by decide) | exact z6 (Z1 hb) (by decide))) (by first | exact prod_lt (Z1 ha) (Z1 hb) | exact z6 (Z1 ha) (by decide) | exact z6 (Z1 hb) (by decide))) fun _ _ Ep Eq => f_o <| zW 2 4 (zg (nd ((nv a * nv b) % mF f))) _ Ep Eq rfl (za (zl _ _)) (za (zh)) (zq _) rfl fun _ _ Er Ec => ?_
 refine f_e <| ze <| wp_ret <| zU (v := .agg (zc (zg (nd ((nv a * nv b) % mF f))))) (t := 6) (T := 24) (ad := ⟨Ee, 0, none⟩) Er (by kernel_rfl) (by kernel_rfl) (zC (t := 24) (k := 2) (off := 0) (m := 4) (xs := zg (nd ((nv a * nv b) % mF f))) Ec rfl (zn (za (zl _ _))) (za (zl _ _)) (by kernel_rfl) (by kernel_rfl)) ?_
 exact ⟨rfl, Ec.pk []⟩
theorem rsub_go (w : World) (f : Int) (hf : f = 1 ∨ f = 2 ∨ f = 3 ∨ f = 4) (hL : LeftOk f) (a b : List UInt64) (ha : zf a = 4) (hb : zf b = 4) : Calls zB 88 #[.int .i64 f, .agg (zc (zg a)), .agg (zc (zg b))] w fun e w' => e = .returned (.agg (zc (zg (nd (subM f (nv a) (nv b)))))) ∧ Ev w [] w' [] := by
 have hla : nv a % mF f < mF f := Z4 _ (z6 Q6 (JT hf))
 have hlb : nv b % mF f < mF f := Z4 _ (z6 Q6 (JT hf))
 have hmw := mF_lt f
 refine d_0 [(0, .int .i64 f), (1, .agg (zc (zg a))), (2, .agg (zc (zg b)))] 35 Tryz.func88 Tryz.ntmps88 (Heap.nil _) fun E7 E8 E9 => wp_seq <| zj <| f_o <| m_m 24 (zg a) E8 E9 fun _ _ E5 Ha Hb => f_o <| m_m 24 (zg b) Ha Hb fun _ _ E6 Hc EE => f_o <| m_z 24 (zg (zd 4 0)) Hc EE fun _ _ Ea EF EG => f_e <| ze <| wp_seq <| zj <| d_k [0,4,5,6,10] [] 1 EF fun _ EH => f_o <| c_p EH EG (Xy _ f hf) fun _ _ EI En => ?_
 refine d_e [0,4,5,6,7] [] EI fun _ EJ => ze <| wp_seq <| d_s [0,4,5,6,13] [] EJ fun _ Eo => c_f Eo ?_
 refine wp_skip <| ze <| wp_seq <| zj <| d_k [0,4,5,6,15] [] 1 Eo fun _ EK => f_o <| Zn 0 4 (zg a) EK En rfl (za ha) fun _ EL => f_o <| c_p EL En (digits_go _ a ha) fun _ _ EM EN => f_o <| c_p EM EN (left_at hL _ (nv a) (Y6 _ _) (Xx _ _) (dv_n32 (by first | exact prod_lt (Z1 ha) (Z1 hb) | exact z6 (Z1 ha) (by decide) | exact z6 (Z1 hb) (by decide))) (by first | exact prod_lt (Z1 ha) (Z1 hb) | exact z6 (Z1 ha) (by decide) | exact z6 (Z1 hb) (by decide))) fun _ _ EO EP => f_o <| m_z 24 (zg (zd 4 0)) EO EP fun _ _ Eb EQ ER => f_o <| zW 3 4 (zg (nd ((nv a) % mF f))) _ EQ ER rfl (za (zl _ _)) (za (zh)) (zq _) rfl fun _ _ ES Ep => ?_
 refine f_e <| ze <| wp_seq <| zj <| d_k [0,5,6,8,19] [] 1 ES fun _ ET => f_o <| Zn 1 4 (zg b) ET Ep rfl (za hb) fun _ EU => f_o <| c_p EU Ep (digits_go _ b hb) fun _ _ EV EW => f_o <| c_p EV EW (left_at hL _ (nv b) (Y6 _ _) (Xx _ _) (dv_n32 (by first | exact prod_lt (Z1 ha) (Z1 hb) | exact z6 (Z1 ha) (by decide) | exact z6 (Z1 hb) (by decide))) (by first | exact prod_lt (Z1 ha) (Z1 hb) | exact z6 (Z1 ha) (by decide) | exact z6 (Z1 hb) (by decide))) fun _ _ EX EY => f_o <| m_z 24 (zg (zd 4 0)) EX EY fun _ _ Ec EZ E0 => f_o <| zW 4 4 (zg (nd ((nv b) % mF f))) [.box E5 (zg a) 24, .box E6 (zg b) 24, .box Ea (zg (zd 4 0)) 24, .box Eb (zg (nd ((nv a) % mF f))) 24, .box Ec (zg (nd ((nv b) % mF f))) 24] EZ E0 rfl (za (zl _ _)) (za (zh)) (zq _) rfl fun _ _ E1 El => ?_
 refine f_e <| ze <| wp_seq <| wp_seq <| zj <| f_o <| Zn 3 4 (zg (nd ((nv a) % mF f))) E1 El rfl (za (zl _ _)) fun _ E2 => f_o <| Zn 4 4 (zg (nd ((nv b) % mF f))) E2 El rfl (za (zl _ _)) fun _ E3 => f_o <| c_p E3 El (rless_go _ (nd ((nv a) % mF f)) (nd ((nv b) % mF f)) (zl _ _) (zl _ _)) fun _ _ Em Ed => ?_
 refine f_e <| ze <| c_d (nv (nd ((nv a) % mF f)) < nv (nd ((nv b) % mF f))) Em (fun E4 => ?_) (fun E4 => ?_)
 ·
  refine wp_seq <| r_c (fun ac wo => Env ac 35 [(0, .int .i64 f), (6, pt Ea), (8, pt Eb), (9, pt Ec)] ∧ Ev w [] wo [.box Ea (zg (nd (nv (nd (mF f)) + zR - nv (nd (nv (nd ((nv b) % mF f)) + zR - nv (nd ((nv a) % mF f))))))) 24, .box Eb (zg (nd ((nv a) % mF f))) 24, .box Ec (zg (nd ((nv b) % mF f))) 24]) ?_ ?_
  ·
   refine h_s (fun wv => Ev w [] wv [.box Eb (zg (nd ((nv a) % mF f))) 24, .box Ec (zg (nd ((nv b) % mF f))) 24]) [] 7 ?_
   have Ee := Ed.trans (zN Ed.heap)
   refine q_s [0] [] 6 Em (Ee.pk [3, 4]) fun _ Eq => q_r 2 (s := Instr.loadAt 24 (pt Ec)) (v := .agg (zc (zg (nd ((nv b) % mF f))))) Eq (fun w hS => run_loadAgg2 (m := 4) (cs := zg (nd ((nv b) % mF f))) (za (zl _ _)) (by kernel_rfl) (by kernel_rfl) (hS.heap.cells (k := 1) (off := 0) (m := 4) rfl (zn (za (zl _ _))))) (Ee.pk [3, 4]) fun _ Er => q_r 3 (s := Instr.loadAt 24 (pt Eb)) (v := .agg (zc (zg (nd ((nv a) % mF f))))) Er (fun w hS => run_loadAgg2 (m := 4) (cs := zg (nd ((nv a) % mF f))) (za (zl _ _)) (by kernel_rfl) (by kernel_rfl) (hS.heap.cells (k := 0) (off := 0) (m := 4) rfl (zn (za (zl _ _))))) (Ee.pk [3, 4]) fun _ Es => q_t 1 ?_
   refine c_p Es Ee (rmodulus_go _ f) fun _ _ Et Ef => ⟨fun _ => Ef.pk [3, 4], ?_⟩
   refine q_t 4 ?_
   refine c_p Et Ef (Xp _ (nd ((nv b) % mF f)) (nd ((nv a) % mF f)) (zl _ _) (zl _ _)) fun _ _ Eu Eg => ⟨fun _ => Eg.pk [3, 4], ?_⟩
   refine q_t 5 ?_
   refine c_p Eu Eg (Xp _ (nd (mF f)) (nd (nv (nd ((nv b) % mF f)) + zR - nv (nd ((nv a) % mF f)))) (zl _ _) (zl _ _)) fun _ _ Ew Eh => ⟨fun _ => Eh.pk [3, 4], ?_⟩
   refine q_t 6 ?_
   refine zW 2 4 (zg (nd (nv (nd (mF f)) + zR - nv (nd (nv (nd ((nv b) % mF f)) + zR - nv (nd ((nv a) % mF f))))))) _ Ew Eh rfl (za (zl _ _)) (za (zh)) (zq _) rfl fun _ _ Ex Ei => ⟨fun _ => Ei.pk [3, 4], ?_⟩
   exact h_e ⟨Ex.sb, Ei.pk [2, 3, 4]⟩
  rintro _ _ ⟨Ey, Ej⟩
  refine ze <| wp_ret <| z9 <| zU (v := .agg (zc (zg (nd (nv (nd (mF f)) + zR - nv (nd (nv (nd ((nv b) % mF f)) + zR - nv (nd ((nv a) % mF f))))))))) (t := 6) (T := 24) (ad := ⟨Ea, 0, none⟩) Ey (by kernel_rfl) (by kernel_rfl) (zC (t := 24) (k := 0) (off := 0) (m := 4) (xs := zg (nd (nv (nd (mF f)) + zR - nv (nd (nv (nd ((nv b) % mF f)) + zR - nv (nd ((nv a) % mF f))))))) Ej rfl (zn (za (zl _ _))) (za (zl _ _)) (by kernel_rfl) (by kernel_rfl)) ?_
  have e : nd (nv (nd (mF f)) + zR - nv (nd (nv (nd ((nv b) % mF f)) + zR - nv (nd ((nv a) % mF f))))) = nd (subM f (nv a) (nv b)) := rsub_fin1 hla hlb hmw (by assumption)
  exact ⟨by rw [e], Ej.pk []⟩
 refine wp_skip <| ze <| wp_seq <| zj <| f_o <| Zn 3 4 (zg (nd ((nv a) % mF f))) Em Ed rfl (za (zl _ _)) fun _ Ez => f_o <| Zn 4 4 (zg (nd ((nv b) % mF f))) Ez Ed rfl (za (zl _ _)) fun _ EA => f_o <| c_p EA Ed (Xp _ (nd ((nv a) % mF f)) (nd ((nv b) % mF f)) (zl _ _) (zl _ _)) fun _ _ EB EC => f_o <| zW 2 4 (zg (nd (nv (nd ((nv a) % mF f)) + zR - nv (nd ((nv b) % mF f))))) [.box E5 (zg a) 24, .box E6 (zg b) 24, .box Ea (zg (nd (nv (nd ((nv a) % mF f)) + zR - nv (nd ((nv b) % mF f))))) 24, .box Eb (zg (nd ((nv a) % mF f))) 24, .box Ec (zg (nd ((nv b) % mF f))) 24] EB EC rfl (za (zl _ _)) (za (zh)) (zq _) rfl fun _ _ ED Ek => f_e <| ze <| wp_ret <| zU (v := .agg (zc (zg (nd (nv (nd ((nv a) % mF f)) + zR - nv (nd ((nv b) % mF f))))))) (t := 6) (T := 24) (ad := ⟨Ea, 0, none⟩) ED (by kernel_rfl) (by kernel_rfl) (zC (t := 24) (k := 2) (off := 0) (m := 4) (xs := zg (nd (nv (nd ((nv a) % mF f)) + zR - nv (nd ((nv b) % mF f))))) Ek rfl (zn (za (zl _ _))) (za (zl _ _)) (by kernel_rfl) (by kernel_rfl)) ?_
 have e : nd (nv (nd ((nv a) % mF f)) + zR - nv (nd ((nv b) % mF f))) = nd (subM f (nv a) (nv b)) := rsub_fin2 hla hlb hmw (by assumption)
 exact ⟨by rw [e], Ek.pk []⟩
end Go.Proofs.YtpfhmbbiadpbeaaGreat
