import Derived.Test.YtlnogkmnklfjlaaGreatDoorSg4
open List renaming getD → za, length → zb, replicate → zd, toArray → zg, length_replicate → zi, take → zn, drop → zo, set → zp, length_take → zs, getD_eq_getElem?_getD → zI, getElem?_eq_getElem → zN, length_cons → zX, take_of_length_le → Zt, getElem?_eq_none → ZS, getD_cons_succ → QC, drop_length → Y7, getD_cons_zero → Jc, take_succ_cons → XT
open UInt64 renaming ofNat → zc, toUInt8 → zj, toNat → zw, toNat_add → ZN, toNat_or → Ya, toNat_mul → Yc
open Go.Dbr renaming then_normal → ze, u64s_lenh → zf, u64s → zh, region_from → zk, uv64 → zm, load_whole → zq, u64s_one → zt, block_normal → zv, u64s_getD → zx, then_exit → zy, loop_once → zF, bys_lenh → zH, block_exit → zL, m_gw → zQ, d_cell1 → z9, run_load1 → Zf, m_aw → Zp, then_ret → ZE, loop_m → ZR, u64s_set → ZU, d_cell_tmp → Z6, bys_getD → Z9, dv_cons → Y6, dv_set → JU
open Go.Proofs.YtlnogkmnklfjlaaGreatDoor renaming nds_len → zl, W256 → zU, subM → z7, n32_len → ZM, nv_lt → Qi, nv_nd → Qw, n32_dig → YG, mF_pos → Jn, rminus_go → J6, ris_go_yes → Xa, low_high → XL, high32 → X5, low32 → Km, or_shl → Ky
open Go.Dbr.Ev renaming cellAgg → zB, drew → zO
open Nat renaming mod_eq_of_lt → zG, mul_comm → zZ, pow_succ → z8, mul_assoc → Ze, add_mul → Zo, lt_trans → Zu, div_div_eq_div_mul → Zv, add_zero → Zx, shiftLeft_eq → Zy, add_assoc → ZK, mod_lt → ZL, pow_zero → ZX, mul_le_mul_right → Z0, shiftLeft_add_eq_or_of_lt → Z3, zero_mul → Z4, mul_zero → Z5, pow_add → Qc, lt_or_ge → Qe, mul_mod → Qg, mul_add → Qs, pow_mul → Qx, zero_mod → QF, lt_of_le_of_lt → QK, pow_le_pow_right → QM, mul_le_mul → QO, zero_lt_one → QS, lt_of_lt_of_le → QU, div_one → Yr, add_mod → YB, mul_pos → JK, mod_one → JN, pow_pos → XM
open UInt8 renaming ofNat → zK, toUInt64 → Zc, toNat_toUInt64 → JL
open Int renaming tdiv → YU, tmod → Jd
namespace Go.Proofs.YtlnogkmnklfjlaaGreatDoor
open Go.Dbr
set_option maxRecDepth 100000
set_option maxHeartbeats 2000000
set_option linter.unusedVariables false
set_option linter.unusedSimpArgs false
theorem dg_eq (a0 a1 a2 a3 : UInt64) : [a0 &&& 4294967295, a0 >>> zc 32, a1 &&& 4294967295, a1 >>> zc 32, a2 &&& 4294967295, a2 >>> zc 32, a3 &&& 4294967295, a3 >>> zc 32, 0, 0, 0, 0, 0, 0, 0, 0, 0] = n32 17 (nv [a0, a1, a2, a3]) := by
  have z : (0 : UInt64).toNat < 4294967296 := by decide
  refine n32_of rfl ?_ ?_
  · simp only [DG.cons]
    exact ⟨Km _, X5 _, Km _, X5 _, Km _, X5 _, Km _, X5 _, z, z, z, z, z, z, z, z, z, DG.nil⟩
  · have h0 := XL a0
    have h1 := XL a1
    have h2 := XL a2
    have h3 := XL a3
    rw [nv4]
    simp only [dv, show (0 : UInt64).toNat = 0 from rfl, Z5, Zx]
    omega
theorem num_eq {w : List UInt64} (hl : w.length = 17) (hd : DG w) : [za w 0 0 ||| (za w 1 0 <<< zc 32), za w 2 0 ||| (za w 3 0 <<< zc 32), za w 4 0 ||| (za w 5 0 <<< zc 32), za w 6 0 ||| (za w 7 0 <<< zc 32)] = nd (dv 4294967296 w) := by
  refine nv_inj rfl (zl _ _) ?_
  rw [nd_val, nv4, Ky (hd 0) (hd 1), Ky (hd 2) (hd 3), Ky (hd 4) (hd 5), Ky (hd 6) (hd 7)]
  have g0 := hd 0; have g1 := hd 1; have g2 := hd 2; have g3 := hd 3; have g4 := hd 4; have g5 := hd 5; have g6 := hd 6; have g7 := hd 7
  match w, hl with
  | x0 :: x1 :: x2 :: x3 :: x4 :: x5 :: x6 :: x7 :: r, _ =>
    simp only [Y6]
    generalize dv 4294967296 r = R
    simp only [Jc, QC, zU] at *
    omega
def dk (l : List UInt64) : Nat → Nat
  | 0 => 0
  | k + 1 => dk l k + (za l k 0).toNat * 4294967296 ^ k
theorem dk_cons (x : UInt64) (r : List UInt64) : ∀ k, dk (x :: r) (k + 1) = x.toNat + 4294967296 * dk r k
  | 0 => by simp [dk]
  | k + 1 => by
    rw [dk, dk_cons x r k, dk, QC, z8, Qs, ZK, ← Ze, zZ _ 4294967296]
theorem dk_split : ∀ (l : List UInt64) (k : Nat), dv 4294967296 l = dk l k + 4294967296 ^ k * dv 4294967296 (zo k l)
  | l, 0 => by simp [dk]
  | [], k + 1 => by
    have : ∀ j, dk [] j = 0 := fun j => by
      induction j with
      | zero => rfl
      | succ j ih => rw [dk, ih]; simp
    rw [this]; simp [dv]
  | x :: r, k + 1 => by
    rw [Y6, dk_cons, List.drop_succ_cons, dk_split r k, Qs, ZK, z8]
    ac_rfl
theorem dk_lt {l : List UInt64} (h : DG l) : ∀ k, dk l k < 4294967296 ^ k
  | 0 => by rw [dk, ZX]; exact Nat.one_pos
  | k + 1 => by
    have h1 := dk_lt h k
    have h2 := h k
    rw [dk, z8]
    generalize 4294967296 ^ k = q at *
    have : (za l k 0).toNat * q ≤ 4294967295 * q := Z0 q (by omega)
    omega
theorem n32_get : ∀ (k n j : Nat), j < k → (za (n32 k n) j 0).toNat = n / 4294967296 ^ j % 4294967296
  | k + 1, n, 0, _ => by rw [n32, Jc, n32_hd, ZX, Yr]
  | k + 1, n, j + 1, h => by rw [n32, QC, n32_get k _ j (by omega), Zv, z8, zZ]
theorem dk_n32 {k n : Nat} : ∀ j, j ≤ k → dk (n32 k n) j = n % 4294967296 ^ j
  | 0, _ => by rw [ZX, JN]; rfl
  | j + 1, h => by rw [dk, dk_n32 j (by omega), n32_get k n j (by omega), Nat.mod_pow_succ, zZ]
theorem mac32 {p x y c : UInt64} (hp : p.toNat < 4294967296) (hx : x.toNat < 4294967296) (hy : y.toNat < 4294967296) (hc : c.toNat < 4294967296) : (p + x * y + c).toNat = p.toNat + x.toNat * y.toNat + c.toNat := by
  have h : x.toNat * y.toNat ≤ 4294967295 * 4294967295 := QO (by omega) (by omega)
  rw [ZN, ZN, Yc]
  generalize x.toNat * y.toNat = e at *
  omega
theorem mac32' {p x y c : UInt64} (hp : p.toNat < 4294967296) (hx : x.toNat < 4294967296) (hy : y.toNat < 4294967296) (hc : c.toNat < 4294967296) : (p + c + x * y).toNat = p.toNat + x.toNat * y.toNat + c.toNat := by
  have h : x.toNat * y.toNat ≤ 4294967295 * 4294967295 := QO (by omega) (by omega)
  rw [ZN, ZN, Yc]
  generalize x.toNat * y.toNat = e at *
  omega
theorem set32 {w : List UInt64} {j : Nat} {t c : UInt64} {P e : Nat} (hj : j < w.length) (hv : dv 4294967296 w + c.toNat * 4294967296 ^ j = P) (ht : t.toNat = (za w j 0).toNat + e + c.toNat) :
    dv 4294967296 (zp w j (t &&& 4294967295)) + (t >>> zc 32).toNat * 4294967296 ^ (j + 1) = P + e * 4294967296 ^ j := by
  have h1 := JU 4294967296 (t &&& 4294967295) w j hj
  have h2 := XL t
  rw [ht] at h2
  have m2 := congrArg (· * 4294967296 ^ j) h2
  simp only [Zo] at m2
  rw [z8, zZ (4294967296 ^ j), ← Ze, zZ _ 4294967296]
  generalize 4294967296 ^ j = q at *
  omega
theorem times_in {A y w : List UInt64} {B i k : Nat} {c : UInt64} {t : UInt64} (hlw : w.length = 17) (hj : i + k < 17) (hw : DG w) (hA : DG A) (hy : DG y) (hc : c.toNat < 4294967296)
    (hv : dv 4294967296 w + c.toNat * 4294967296 ^ (i + k) = B + dk y k * (za A i 0).toNat * 4294967296 ^ i) (ht : t = za w (i + k) 0 + za A i 0 * za y k 0 + c) :
    dv 4294967296 (zp w (i + k) (t &&& 4294967295)) + (t >>> zc 32).toNat * 4294967296 ^ (i + (k + 1)) = B + dk y (k + 1) * (za A i 0).toNat * 4294967296 ^ i := by
  rw [← ZK, set32 (by omega) hv (by rw [ht]; exact mac32 (hw _) (hA _) (hy _) hc), dk, Zo, Zo, ZK]
  congr 2
  rw [Qc]
  ac_rfl
theorem times_out {x y w : List UInt64} {b i : Nat} {c : UInt64} (hlw : w.length = 17) (hi : i < 8) (hz : za w (i + 8) 0 = 0) (hb : dk y 8 = b)
    (hv : dv 4294967296 w + c.toNat * 4294967296 ^ (i + 8) = dk x i * b + dk y 8 * (za x i 0).toNat * 4294967296 ^ i) : dv 4294967296 (zp w (i + 8) c) = dk x (i + 1) * b := by
  have e := JU 4294967296 c w (i + 8) (by omega)
  rw [hz, show (0 : UInt64).toNat = 0 from rfl, Z4, Zx, hv, hb] at e
  rw [e, dk, Zo]
  congr 1
  ac_rfl
theorem zeros17 (j : Nat) : za (zd 17 (0 : UInt64)) j 0 = 0 := by
  simp only [zI, List.getElem?_replicate]
  split <;> rfl
theorem d8w : 4294967296 ^ 8 = zU := by decide
theorem dk_nv {a : List UInt64} (ha : a.length = 4) : dk (n32 17 (nv a)) 8 = nv a := by rw [dk_n32 8 (by decide), d8w, zG (Qi ha)]
theorem DG.rep : DG (zd 17 (0 : UInt64)) := fun j => by rw [zeros17]; decide
theorem digits4 (w : World) (a0 a1 a2 a3 : UInt64) : Calls Tryz.prog 63 #[.agg #[zm a0, zm a1, zm a2, zm a3]] w fun e w' => e = .returned (.agg (zg (zh (n32 17 (nv [a0, a1, a2, a3]))))) ∧ Ev w [] w' [] := by
 refine d_0 [(0, .agg #[zm a0, zm a1, zm a2, zm a3])] 25 Go.Proofs.Tryz.func63 Go.Proofs.Tryz.ntmps63 (Heap.nil _) fun Hg Hh Hi => wp_seq <| zk <| f_o <| m_m 33 [zm a0, zm a1, zm a2, zm a3] Hh Hi fun _ _ EE Hj Hk => f_o <| m_z 87 (zh (zd 17 0)) Hj Hk fun _ _ Ef Hl EF => f_e <| ze <| wp_seq <| zk <| f_o <| m_z 87 (zh (zd 17 0)) Hl EF fun _ _ Ea EG Eg => ?_
 refine f_e <| ze <| wp_seq <| d_s [1,2,3,4] [] EG fun _ EH => wp_block <| loop_enter ?_
 refine zF <| wp_seq <| d_s [1,2,3,4,6] [] EH fun _ Eh => c_t Eh ?_
 refine wp_skip <| ze <| wp_seq <| wp_block <| wp_seq <| zk <| d_k [1,2,3,4,10,12] [] 4 Eh fun _ EI => f_o <| m_l 0 EI Eg fun _ EJ => d_k [1,2,3,4,14,15] [(5, g_i .u64 (Go.Dbr.u64_and (x := a0) (y := (4294967295 : UInt64)) rfl rfl))] 7 EJ fun _ EK => f_o ?_
 have EL : 0 < zb (zd 17 0) := by rw [(zi)]; omega
 refine m_t 2 0 (zm (a0 &&& (4294967295 : UInt64))) _ EK Eg rfl (zx EL) (ZU _ _ _) rfl fun _ _ EM Ei => f_e <| ze <| zk <| d_k [1,2,3,4,18,20] [] 5 EM fun _ EN => f_o <| m_l 0 EN Ei fun _ EO => d_k [1,2,3,4,22,23] [(6, g_i .u64 (Go.Dbr.u64_shr (x := a0) (n := 32) rfl (by decide)))] 8 EO fun _ EP => ?_
 refine f_o ?_
 have EQ : 1 < zb (zp (zd 17 0) 0 (a0 &&& (4294967295 : UInt64))) := by rw [(List.length_set.trans (zi))]; omega
 refine m_t 2 1 (zm (a0 >>> zc 32)) [.box EE [zm a0, zm a1, zm a2, zm a3] 33, .box Ef (zh (zd 17 0)) 87, .box Ea (zh (zp (zp (zd 17 0) 0 (a0 &&& (4294967295 : UInt64))) 1 (a0 >>> zc 32))) 87] EP Ei rfl (zx EQ) (ZU _ _ _) rfl fun _ _ ER Ej => f_e <| zv <| ze <| d_r [1,2,3,4] [] ER fun _ ES => ze <| zF <| wp_seq <| d_s [1,2,3,4,6] [] ES fun _ Ek => c_t Ek ?_
 refine wp_skip <| ze <| wp_seq <| wp_block <| wp_seq <| zk <| d_k [1,2,3,4,10,12] [] 4 Ek fun _ ET => f_o <| m_l 0 ET Ej fun _ EU => d_k [1,2,3,4,14,15] [(5, g_i .u64 (Go.Dbr.u64_and (x := a1) (y := (4294967295 : UInt64)) rfl rfl))] 7 EU fun _ EV => f_o ?_
 have EW : 2 < zb (zp (zp (zd 17 0) 0 (a0 &&& (4294967295 : UInt64))) 1 (a0 >>> zc 32)) := by rw [(List.length_set.trans (List.length_set.trans (zi)))]; omega
 refine m_t 2 2 (zm (a1 &&& (4294967295 : UInt64))) _ EV Ej rfl (zx EW) (ZU _ _ _) rfl fun _ _ EX El => f_e <| ze <| zk <| d_k [1,2,3,4,18,20] [] 5 EX fun _ EY => f_o <| m_l 0 EY El fun _ EZ => d_k [1,2,3,4,22,23] [(6, g_i .u64 (Go.Dbr.u64_shr (x := a1) (n := 32) rfl (by decide)))] 8 EZ fun _ E0 => ?_
 refine f_o ?_
 have E1 : 3 < zb (zp (zp (zp (zd 17 0) 0 (a0 &&& (4294967295 : UInt64))) 1 (a0 >>> zc 32)) 2 (a1 &&& (4294967295 : UInt64))) := by rw [(List.length_set.trans (List.length_set.trans (List.length_set.trans (zi))))]; omega
 refine m_t 2 3 (zm (a1 >>> zc 32)) [.box EE [zm a0, zm a1, zm a2, zm a3] 33, .box Ef (zh (zd 17 0)) 87, .box Ea (zh (zp (zp (zp (zp (zd 17 0) 0 (a0 &&& (4294967295 : UInt64))) 1 (a0 >>> zc 32)) 2 (a1 &&& (4294967295 : UInt64))) 3 (a1 >>> zc 32))) 87] E0 El rfl (zx E1) (ZU _ _ _) rfl fun _ _ E2 Em => f_e <| zv <| ze <| d_r [1,2,3,4] [] E2 fun _ E3 => ze <| zF <| wp_seq <| d_s [1,2,3,4,6] [] E3 fun _ En => c_t En ?_
 refine wp_skip <| ze <| wp_seq <| wp_block <| wp_seq <| zk <| d_k [1,2,3,4,10,12] [] 4 En fun _ E4 => f_o <| m_l 0 E4 Em fun _ E5 => d_k [1,2,3,4,14,15] [(5, g_i .u64 (Go.Dbr.u64_and (x := a2) (y := (4294967295 : UInt64)) rfl rfl))] 7 E5 fun _ E6 => f_o ?_
 have E7 : 4 < zb (zp (zp (zp (zp (zd 17 0) 0 (a0 &&& (4294967295 : UInt64))) 1 (a0 >>> zc 32)) 2 (a1 &&& (4294967295 : UInt64))) 3 (a1 >>> zc 32)) := by rw [(List.length_set.trans (List.length_set.trans (List.length_set.trans (List.length_set.trans (zi)))))]; omega
 refine m_t 2 4 (zm (a2 &&& (4294967295 : UInt64))) _ E6 Em rfl (zx E7) (ZU _ _ _) rfl fun _ _ E8 Eo => f_e <| ze <| zk <| d_k [1,2,3,4,18,20] [] 5 E8 fun _ E9 => f_o <| m_l 0 E9 Eo fun _ Ha => d_k [1,2,3,4,22,23] [(6, g_i .u64 (Go.Dbr.u64_shr (x := a2) (n := 32) rfl (by decide)))] 8 Ha fun _ Hb => ?_
 refine f_o ?_
 have Hc : 5 < zb (zp (zp (zp (zp (zp (zd 17 0) 0 (a0 &&& (4294967295 : UInt64))) 1 (a0 >>> zc 32)) 2 (a1 &&& (4294967295 : UInt64))) 3 (a1 >>> zc 32)) 4 (a2 &&& (4294967295 : UInt64))) := by rw [(List.length_set.trans (List.length_set.trans (List.length_set.trans (List.length_set.trans (List.length_set.trans (zi))))))]; omega
 refine m_t 2 5 (zm (a2 >>> zc 32)) [.box EE [zm a0, zm a1, zm a2, zm a3] 33, .box Ef (zh (zd 17 0)) 87, .box Ea (zh (zp (zp (zp (zp (zp (zp (zd 17 0) 0 (a0 &&& (4294967295 : UInt64))) 1 (a0 >>> zc 32)) 2 (a1 &&& (4294967295 : UInt64))) 3 (a1 >>> zc 32)) 4 (a2 &&& (4294967295 : UInt64))) 5 (a2 >>> zc 32))) 87] Hb Eo rfl (zx Hc) (ZU _ _ _) rfl fun _ _ Hd Ep => f_e <| zv <| ze <| d_r [1,2,3,4] [] Hd fun _ He => ze <| zF <| wp_seq <| d_s [1,2,3,4,6] [] He fun _ Eq => c_t Eq ?_
 refine wp_skip <| ze <| wp_seq <| wp_block <| wp_seq <| zk <| d_k [1,2,3,4,10,12] [] 4 Eq fun _ Hf => f_o <| m_l 0 Hf Ep fun _ Er => d_k [1,2,3,4,14,15] [(5, g_i .u64 (Go.Dbr.u64_and (x := a3) (y := (4294967295 : UInt64)) rfl rfl))] 7 Er fun _ Es => f_o ?_
 have Et : 6 < zb (zp (zp (zp (zp (zp (zp (zd 17 0) 0 (a0 &&& (4294967295 : UInt64))) 1 (a0 >>> zc 32)) 2 (a1 &&& (4294967295 : UInt64))) 3 (a1 >>> zc 32)) 4 (a2 &&& (4294967295 : UInt64))) 5 (a2 >>> zc 32)) := by rw [(List.length_set.trans (List.length_set.trans (List.length_set.trans (List.length_set.trans (List.length_set.trans (List.length_set.trans (zi)))))))]; omega
 refine m_t 2 6 (zm (a3 &&& (4294967295 : UInt64))) _ Es Ep rfl (zx Et) (ZU _ _ _) rfl fun _ _ Eu Eb => f_e <| ze <| zk <| d_k [1,2,3,4,18,20] [] 5 Eu fun _ Ew => f_o <| m_l 0 Ew Eb fun _ Ex => d_k [1,2,3,4,22,23] [(6, g_i .u64 (Go.Dbr.u64_shr (x := a3) (n := 32) rfl (by decide)))] 8 Ex fun _ Ey => ?_
 refine f_o ?_
 have Ez : 7 < zb (zp (zp (zp (zp (zp (zp (zp (zd 17 0) 0 (a0 &&& (4294967295 : UInt64))) 1 (a0 >>> zc 32)) 2 (a1 &&& (4294967295 : UInt64))) 3 (a1 >>> zc 32)) 4 (a2 &&& (4294967295 : UInt64))) 5 (a2 >>> zc 32)) 6 (a3 &&& (4294967295 : UInt64))) := by rw [(List.length_set.trans (List.length_set.trans (List.length_set.trans (List.length_set.trans (List.length_set.trans (List.length_set.trans (List.length_set.trans (zi))))))))]; omega
 refine m_t 2 7 (zm (a3 >>> zc 32)) [.box EE [zm a0, zm a1, zm a2, zm a3] 33, .box Ef (zh (zd 17 0)) 87, .box Ea (zh (zp (zp (zp (zp (zp (zp (zp (zp (zd 17 0) 0 (a0 &&& (4294967295 : UInt64))) 1 (a0 >>> zc 32)) 2 (a1 &&& (4294967295 : UInt64))) 3 (a1 >>> zc 32)) 4 (a2 &&& (4294967295 : UInt64))) 5 (a2 >>> zc 32)) 6 (a3 &&& (4294967295 : UInt64))) 7 (a3 >>> zc 32))) 87] Ey Eb rfl (zx Ez) (ZU _ _ _) rfl fun _ _ EA Ec => f_e <| zv <| ze <| d_r [1,2,3,4] [] EA fun _ EB => ze <| zF <| wp_seq <| d_s [1,2,3,4,6] [] EB fun _ Ed => c_f Ed ?_
 refine wp_exit <| zy <| zy <| zL <| ze <| wp_seq <| zk <| f_o <| Zp 2 17 (zh (zp (zp (zp (zp (zp (zp (zp (zp (zd 17 0) 0 (a0 &&& (4294967295 : UInt64))) 1 (a0 >>> zc 32)) 2 (a1 &&& (4294967295 : UInt64))) 3 (a1 >>> zc 32)) 4 (a2 &&& (4294967295 : UInt64))) 5 (a2 >>> zc 32)) 6 (a3 &&& (4294967295 : UInt64))) 7 (a3 >>> zc 32))) Ed Ec rfl (zf (List.length_set.trans (List.length_set.trans (List.length_set.trans (List.length_set.trans (List.length_set.trans (List.length_set.trans (List.length_set.trans (List.length_set.trans (zi)))))))))) fun _ EC => f_o <| zQ 1 17 (zh (zp (zp (zp (zp (zp (zp (zp (zp (zd 17 0) 0 (a0 &&& (4294967295 : UInt64))) 1 (a0 >>> zc 32)) 2 (a1 &&& (4294967295 : UInt64))) 3 (a1 >>> zc 32)) 4 (a2 &&& (4294967295 : UInt64))) 5 (a2 >>> zc 32)) 6 (a3 &&& (4294967295 : UInt64))) 7 (a3 >>> zc 32))) _ EC Ec rfl (zf (List.length_set.trans (List.length_set.trans (List.length_set.trans (List.length_set.trans (List.length_set.trans (List.length_set.trans (List.length_set.trans (List.length_set.trans (zi)))))))))) (zf (zi)) (zt _) rfl fun _ _ ED Ee => f_e <| ze <| wp_ret <| z9 (v := .agg (zg (zh (zp (zp (zp (zp (zp (zp (zp (zp (zd 17 0) 0 (a0 &&& (4294967295 : UInt64))) 1 (a0 >>> zc 32)) 2 (a1 &&& (4294967295 : UInt64))) 3 (a1 >>> zc 32)) 4 (a2 &&& (4294967295 : UInt64))) 5 (a2 >>> zc 32)) 6 (a3 &&& (4294967295 : UInt64))) 7 (a3 >>> zc 32))))) (t := 2) (T := 87) (ad := ⟨Ef, 0, none⟩) ED (by kernel_rfl) (by kernel_rfl) (zB (t := 87) (k := 1) (off := 0) (m := 17) (xs := zh (zp (zp (zp (zp (zp (zp (zp (zp (zd 17 0) 0 (a0 &&& (4294967295 : UInt64))) 1 (a0 >>> zc 32)) 2 (a1 &&& (4294967295 : UInt64))) 3 (a1 >>> zc 32)) 4 (a2 &&& (4294967295 : UInt64))) 5 (a2 >>> zc 32)) 6 (a3 &&& (4294967295 : UInt64))) 7 (a3 >>> zc 32))) Ee rfl (zq (zf (List.length_set.trans (List.length_set.trans (List.length_set.trans (List.length_set.trans (List.length_set.trans (List.length_set.trans (List.length_set.trans (List.length_set.trans (zi))))))))))) (zf (List.length_set.trans (List.length_set.trans (List.length_set.trans (List.length_set.trans (List.length_set.trans (List.length_set.trans (List.length_set.trans (List.length_set.trans (zi)))))))))) (by kernel_rfl) (by kernel_rfl)) ?_
 have e : zp (zp (zp (zp (zp (zp (zp (zp (zd 17 0) 0 (a0 &&& (4294967295 : UInt64))) 1 (a0 >>> zc 32)) 2 (a1 &&& (4294967295 : UInt64))) 3 (a1 >>> zc 32)) 4 (a2 &&& (4294967295 : UInt64))) 5 (a2 >>> zc 32)) 6 (a3 &&& (4294967295 : UInt64))) 7 (a3 >>> zc 32) = n32 17 (nv [a0, a1, a2, a3]) := dg_eq a0 a1 a2 a3
 rw [e]
 exact ⟨rfl, Ee.pk []⟩
theorem digits_go (w : World) (a : List UInt64) (ha : zb a = 4) : Calls Tryz.prog 63 #[.agg (zg (zh a))] w fun e w' => e = .returned (.agg (zg (zh (n32 17 (nv a))))) ∧ Ev w [] w' [] := by
  match a, ha with
  | [a0, a1, a2, a3], _ => exact digits4 w a0 a1 a2 a3
theorem number_go (w : World) (x : List UInt64) (hx : zb x = 17) (hd : DG x) : Calls Tryz.prog 93 #[.agg (zg (zh x))] w fun e w' => e = .returned (.agg (zg (zh (nd (dv 4294967296 x))))) ∧ Ev w [] w' [] := by
 refine d_0 [(0, .agg (zg (zh x)))] 28 Go.Proofs.Tryz.func93 Go.Proofs.Tryz.ntmps93 (Heap.nil _) fun ED EE EF => wp_seq <| zk <| f_o <| m_m 87 (zh x) EE EF fun _ _ EK EG EH => f_o <| m_z 33 (zh (zd 4 0)) EG EH fun _ _ EI EJ Ea => f_e <| ze <| wp_seq <| zk <| d_k [1,2,3] [] 1 EJ fun _ Ec => ?_
 refine f_o ?_
 have Ed : 0 < zb x := by rw [hx]; omega
 refine m_v 0 0 (zm (za x 0 0)) Ec Ea rfl (zx Ed) fun _ Ee => d_k [1,2,4,5] [] 3 Ee fun _ Ef => f_o ?_
 have Eg : 1 < zb x := by rw [hx]; omega
 refine m_v 0 1 (zm (za x 1 0)) Ef Ea rfl (zx Eg) fun _ Eh => d_k [1,2,8,9] [(4, g_i .u64 (Go.Dbr.u64_shl (x := za x 1 0) (n := 32) rfl (by decide))), (5, g_i .u64 (Go.Dbr.u64_or (x := za x 0 0) (y := (za x 1 0) <<< zc 32) rfl rfl))] 7 Eh fun _ Ei => f_o ?_
 have Ej : 2 < zb x := by rw [hx]; omega
 refine m_v 0 2 (zm (za x 2 0)) Ei Ea rfl (zx Ej) fun _ Ek => d_k [1,2,8,10,11] [] 9 Ek fun _ El => f_o ?_
 have Em : 3 < zb x := by rw [hx]; omega
 refine m_v 0 3 (zm (za x 3 0)) El Ea rfl (zx Em) fun _ En => d_k [1,2,8,14,15] [(10, g_i .u64 (Go.Dbr.u64_shl (x := za x 3 0) (n := 32) rfl (by decide))), (11, g_i .u64 (Go.Dbr.u64_or (x := za x 2 0) (y := (za x 3 0) <<< zc 32) rfl rfl))] 13 En fun _ Eo => f_o ?_
 have Ep : 4 < zb x := by rw [hx]; omega
 refine m_v 0 4 (zm (za x 4 0)) Eo Ea rfl (zx Ep) fun _ Eq => d_k [1,2,8,14,16,17] [] 15 Eq fun _ Er => f_o ?_
 have Es : 5 < zb x := by rw [hx]; omega
 refine m_v 0 5 (zm (za x 5 0)) Er Ea rfl (zx Es) fun _ Et => d_k [1,2,8,14,20,21] [(16, g_i .u64 (Go.Dbr.u64_shl (x := za x 5 0) (n := 32) rfl (by decide))), (17, g_i .u64 (Go.Dbr.u64_or (x := za x 4 0) (y := (za x 5 0) <<< zc 32) rfl rfl))] 19 Et fun _ Eu => f_o ?_
 have Ew : 6 < zb x := by rw [hx]; omega
 refine m_v 0 6 (zm (za x 6 0)) Eu Ea rfl (zx Ew) fun _ Ex => d_k [2,8,14,20,22,23] [] 21 Ex fun _ Ey => f_o ?_
 have Ez : 7 < zb x := by rw [hx]; omega
 refine m_v 0 7 (zm (za x 7 0)) Ey Ea rfl (zx Ez) fun _ EA => d_k [2,27] [(22, g_i .u64 (Go.Dbr.u64_shl (x := za x 7 0) (n := 32) rfl (by decide))), (23, g_i .u64 (Go.Dbr.u64_or (x := za x 6 0) (y := (za x 7 0) <<< zc 32) rfl rfl))] 25 EA fun _ EB => f_o <| zQ 1 4 (zh ([(za x 0 0) ||| ((za x 1 0) <<< zc 32), (za x 2 0) ||| ((za x 3 0) <<< zc 32), (za x 4 0) ||| ((za x 5 0) <<< zc 32), (za x 6 0) ||| ((za x 7 0) <<< zc 32)] : List UInt64)) _ EB Ea rfl (zf (show zb ([(za x 0 0) ||| ((za x 1 0) <<< zc 32), (za x 2 0) ||| ((za x 3 0) <<< zc 32), (za x 4 0) ||| ((za x 5 0) <<< zc 32), (za x 6 0) ||| ((za x 7 0) <<< zc 32)] : List UInt64) = 4 from rfl)) (zf (zi)) (zt _) rfl fun _ _ EC Eb => f_e <| ze <| wp_ret <| z9 (v := .agg (zg (zh ([(za x 0 0) ||| ((za x 1 0) <<< zc 32), (za x 2 0) ||| ((za x 3 0) <<< zc 32), (za x 4 0) ||| ((za x 5 0) <<< zc 32), (za x 6 0) ||| ((za x 7 0) <<< zc 32)] : List UInt64)))) (t := 2) (T := 33) (ad := ⟨EI, 0, none⟩) EC (by kernel_rfl) (by kernel_rfl) (zB (t := 33) (k := 1) (off := 0) (m := 4) (xs := zh ([(za x 0 0) ||| ((za x 1 0) <<< zc 32), (za x 2 0) ||| ((za x 3 0) <<< zc 32), (za x 4 0) ||| ((za x 5 0) <<< zc 32), (za x 6 0) ||| ((za x 7 0) <<< zc 32)] : List UInt64)) Eb rfl (zq (zf (show zb ([(za x 0 0) ||| ((za x 1 0) <<< zc 32), (za x 2 0) ||| ((za x 3 0) <<< zc 32), (za x 4 0) ||| ((za x 5 0) <<< zc 32), (za x 6 0) ||| ((za x 7 0) <<< zc 32)] : List UInt64) = 4 from rfl))) (zf (show zb ([(za x 0 0) ||| ((za x 1 0) <<< zc 32), (za x 2 0) ||| ((za x 3 0) <<< zc 32), (za x 4 0) ||| ((za x 5 0) <<< zc 32), (za x 6 0) ||| ((za x 7 0) <<< zc 32)] : List UInt64) = 4 from rfl)) (by kernel_rfl) (by kernel_rfl)) ?_
 have e : ([(za x 0 0) ||| ((za x 1 0) <<< zc 32), (za x 2 0) ||| ((za x 3 0) <<< zc 32), (za x 4 0) ||| ((za x 5 0) <<< zc 32), (za x 6 0) ||| ((za x 7 0) <<< zc 32)] : List UInt64) = nd (dv 4294967296 x) := num_eq hx hd
 have e2 : Ending.returned (.agg (zg (zh ([(za x 0 0) ||| ((za x 1 0) <<< zc 32), (za x 2 0) ||| ((za x 3 0) <<< zc 32), (za x 4 0) ||| ((za x 5 0) <<< zc 32), (za x 6 0) ||| ((za x 7 0) <<< zc 32)] : List UInt64)))) = Ending.returned (.agg (zg (zh (nd (dv 4294967296 x))))) := congrArg (fun l : List UInt64 => Ending.returned (Value.agg (zh l).toArray)) e
 exact ⟨e2, Eb.pk []⟩
theorem times_go (w : World) (a b : List UInt64) (ha : zb a = 4) (hb : zb b = 4) : Calls Tryz.prog 65 #[.agg (zg (zh a)), .agg (zg (zh b))] w fun e w' => e = .returned (.agg (zg (zh (n32 17 (nv a * nv b))))) ∧ Ev w [] w' [] := by
 refine d_0 [(0, .agg (zg (zh a))), (1, .agg (zg (zh b)))] 52 Go.Proofs.Tryz.func65 Go.Proofs.Tryz.ntmps65 (Heap.nil _) fun Hi Hj Hk => wp_seq <| zk <| f_o <| m_m 33 (zh a) Hj Hk fun _ _ Hl Hm Hn => f_o <| m_m 33 (zh b) Hm Hn fun _ _ Ho Hp ER => f_o <| m_z 87 (zh (zd 17 0)) Hp ER fun _ _ Ee ES Ek => ?_
 refine f_e <| ze <| wp_seq <| zk <| f_o <| Zp 0 4 (zh a) ES Ek rfl (zf ha) fun _ ET => f_o <| c_p ET Ek (digits_go _ a ha) fun _ _ EU EV => f_o <| m_z 87 (zh (zd 17 0)) EU EV fun _ _ Eb EW EX => f_o <| zQ 3 17 (zh (n32 17 (nv a))) _ EW EX rfl (zf (ZM _ _)) (zf (zi)) (zt _) rfl fun _ _ EY El => ?_
 refine f_e <| ze <| wp_seq <| zk <| f_o <| Zp 1 4 (zh b) EY El rfl (zf hb) fun _ EZ => f_o <| c_p EZ El (digits_go _ b hb) fun _ _ E0 E1 => f_o <| m_z 87 (zh (zd 17 0)) E0 E1 fun _ _ Ec E2 E3 => f_o <| zQ 4 17 (zh (n32 17 (nv b))) [.box Hl (zh a) 33, .box Ho (zh b) 33, .box Ee (zh (zd 17 0)) 87, .box Eb (zh (n32 17 (nv a))) 87, .box Ec (zh (n32 17 (nv b))) 87] E2 E3 rfl (zf (ZM _ _)) (zf (zi)) (zt _) rfl fun _ _ E4 E5 => ?_
 refine f_e <| ze <| wp_seq <| zk <| f_o <| m_z 87 (zh (zd 17 0)) E4 E5 fun _ _ Ea E6 E7 => f_e <| ze <| wp_seq <| wp_seq <| d_r [4,5,6,7,8] [] E6 fun _ E8 => ze <| wp_block <| ZR (fun E9 ac wo => ∃ (i : Nat) (t : List UInt64), E9 = (8 - i : Nat) ∧ Env ac 52 [(4, pt Ee), (5, pt Eb), (6, pt Ec), (7, pt Ea), (8, ni i)] ∧ Ev w [] wo [.box Ea (zh t) 87, .box Ee (zh (zd 17 0)) 87, .box Eb (zh (n32 17 (nv a))) 87, .box Ec (zh (n32 17 (nv b))) 87] ∧ (i ≤ 8) ∧ (zb t = 17) ∧ (DG t) ∧ (dv 4294967296 t = dk (n32 17 (nv a)) i * nv b) ∧ (∀ j, i + 8 ≤ j → za t j 0 = 0)) ⟨_, 0, zd 17 0, rfl, E8.sb, E7.pk [5, 2, 3, 4], by omega, (zi), DG.rep, by rw [dv_replicate]; simp [dk], fun j _ => zeros17 j⟩ ?_
 rintro Hq _ _ ⟨i, t, rfl, Ha, Eg, hi, hlt, hdt, hv, hz⟩
 refine wp_seq <| wp_seq <| d_r [4,5,6,7,8,17] [] Ha fun _ Eh => ?_
 refine ze <| c_d (((i : Nat) : Int) < (8 : Int)) Eh (fun Hb => ?_) (fun Hb => ?_)
 ·
  refine wp_skip <| ze <| wp_seq <| wp_block <| wp_seq <| d_r [4,5,6,7,8,9] [] Eh fun _ Hc => ze <| wp_seq <| wp_seq <| d_r [4,5,6,7,8,9,10] [] Hc fun _ Hd => ze <| wp_block <| ZR (fun He ac wo => ∃ (k : Nat) (u : List UInt64) (c : UInt64), He = (8 - k : Nat) ∧ Env ac 52 [(4, pt Ee), (5, pt Eb), (6, pt Ec), (7, pt Ea), (8, ni i), (9, zm c), (10, ni k)] ∧ Ev w [] wo [.box Ea (zh u) 87, .box Ee (zh (zd 17 0)) 87, .box Eb (zh (n32 17 (nv a))) 87, .box Ec (zh (n32 17 (nv b))) 87] ∧ (k ≤ 8) ∧ (zb u = 17) ∧ (DG u) ∧ (c.toNat < 4294967296) ∧ (dv 4294967296 u + c.toNat * 4294967296 ^ (i + k) = dk (n32 17 (nv a)) i * nv b + dk (n32 17 (nv b)) k * (za (n32 17 (nv a)) i 0).toNat * 4294967296 ^ i) ∧ (∀ j, i + 8 ≤ j → za u j 0 = 0)) ⟨_, 0, t, 0, rfl, Hd.sb, Eg.pk [0, 1, 2, 3], by omega, hlt, hdt, by decide, by rw [hv]; simp [dk], hz⟩ ?_
  rintro Hr _ _ ⟨k, u, c, rfl, Hf, Ei, hk, hlu, hdu, hcu, hv2, Hg⟩
  refine wp_seq <| wp_seq <| d_r [4,5,6,7,8,9,10,21] [] Hf fun _ Ej => ?_
  refine ze <| c_d (((k : Nat) : Int) < (8 : Int)) Ej (fun Hh => ?_) (fun Hh => ?_)
  ·
   refine wp_skip <| ze <| wp_seq <| wp_block <| wp_seq <| r_c (fun ac wo => Env ac 52 [(4, pt Ee), (5, pt Eb), (6, pt Ec), (7, pt Ea), (8, ni i), (9, zm c), (10, ni k), (11, zm (((za u (i + k) 0) + ((za (n32 17 (nv a)) i 0) * (za (n32 17 (nv b)) k 0))) + c))] ∧ Ev w [] wo [.box Ea (zh u) 87, .box Ee (zh (zd 17 0)) 87, .box Eb (zh (n32 17 (nv a))) 87, .box Ec (zh (n32 17 (nv b))) 87]) ?_ ?_
   ·
    refine h_s (fun wv => Ev w [] wv [.box Ea (zh u) 87, .box Eb (zh (n32 17 (nv a))) 87, .box Ec (zh (n32 17 (nv b))) 87]) [] 16 ?_
    have Ed := Ei.trans (zO Ei.heap)
    refine q_s [0,1,2] [(2, g_n (w_a i k))] 13 Ej (Ed.pk [0, 2, 3]) fun _ Em => q_f 3 (s := Instr.indexAt 87 (pt Ea) (ni (i + k))) (v := .pointer (some ⟨Ea, i + k, none⟩)) Em (fun _ => Go.Dbr.run_indexarr (e := 31) (sz := 1) (m := 17) (j := i + k) (o := i + k) (by kernel_rfl) (by kernel_rfl) (by omega) (by omega) (by omega) _) (fun _ => Ed.pk [0, 2, 3]) fun _ En => ?_
    have Eo : i + k < zb u := by rw [hlu]; omega
    refine q_r 4 (s := Instr.loadAt 31 (.pointer (some ⟨Ea, i + k, none⟩))) (v := zm (za u (i + k) 0)) En (fun w hS => Zf (by kernel_rfl) (hS.heap.cell (k := 0) rfl (zx Eo))) (Ed.pk [0, 2, 3]) fun _ Ep => q_s [5] [] 10 Ep (Ed.pk [0, 2, 3]) fun _ Eq => q_f 6 (s := Instr.indexAt 87 (pt Eb) (ni i)) (v := .pointer (some ⟨Eb, i, none⟩)) Eq (fun _ => Go.Dbr.run_indexarr (e := 31) (sz := 1) (m := 17) (j := i) (o := i) (by kernel_rfl) (by kernel_rfl) (by omega) (by omega) (by omega) _) (fun _ => Ed.pk [0, 2, 3]) fun _ Er => ?_
    have Es : i < zb (n32 17 (nv a)) := by rw [(ZM _ _)]; omega
    refine q_r 7 (s := Instr.loadAt 31 (.pointer (some ⟨Eb, i, none⟩))) (v := zm (za (n32 17 (nv a)) i 0)) Er (fun w hS => Zf (by kernel_rfl) (hS.heap.cell (k := 1) rfl (zx Es))) (Ed.pk [0, 2, 3]) fun _ Et => q_s [8] [] 7 Et (Ed.pk [0, 2, 3]) fun _ Eu => q_f 9 (s := Instr.indexAt 87 (pt Ec) (ni k)) (v := .pointer (some ⟨Ec, k, none⟩)) Eu (fun _ => Go.Dbr.run_indexarr (e := 31) (sz := 1) (m := 17) (j := k) (o := k) (by kernel_rfl) (by kernel_rfl) (by omega) (by omega) (by omega) _) (fun _ => Ed.pk [0, 2, 3]) fun _ Ew => ?_
    have Ex : k < zb (n32 17 (nv b)) := by rw [(ZM _ _)]; omega
    refine q_r 10 (s := Instr.loadAt 31 (.pointer (some ⟨Ec, k, none⟩))) (v := zm (za (n32 17 (nv b)) k 0)) Ew (fun w hS => Zf (by kernel_rfl) (hS.heap.cell (k := 2) rfl (zx Ex))) (Ed.pk [0, 2, 3]) fun _ Ey => q_s [11,12,13,14,15] [(11, g_i .u64 (Go.Dbr.u64_mul (x := za (n32 17 (nv a)) i 0) (y := za (n32 17 (nv b)) k 0) rfl rfl)), (12, g_i .u64 (Go.Dbr.u64_add (x := za u (i + k) 0) (y := (za (n32 17 (nv a)) i 0) * (za (n32 17 (nv b)) k 0)) rfl rfl)), (14, g_i .u64 (Go.Dbr.u64_add (x := (za u (i + k) 0) + ((za (n32 17 (nv a)) i 0) * (za (n32 17 (nv b)) k 0))) (y := c) rfl rfl))] 0 Ey (Ed.pk [0, 2, 3]) fun _ Ez => ?_
    exact h_e ⟨Ez.sb, Ed.pk [0, 1, 2, 3]⟩
   rintro _ _ ⟨EA, EB⟩
   refine ze <| wp_seq <| zk <| d_k [4,5,6,7,8,9,10,11,41,43] [(2, g_n (w_a i k)), (4, g_i .u64 (Go.Dbr.u64_and (x := ((za u (i + k) 0) + ((za (n32 17 (nv a)) i 0) * (za (n32 17 (nv b)) k 0))) + c) (y := (4294967295 : UInt64)) rfl rfl))] 5 EA fun _ EC => f_o <| q_v (x := Instr.indexAt 87 (pt Ea) (ni (i + k))) (v := .pointer (some ⟨Ea, i + k, none⟩)) EC (Go.Dbr.run_indexarr (e := 31) (sz := 1) (m := 17) (j := i + k) (o := i + k) (by kernel_rfl) (by kernel_rfl) (by omega) (by omega) (by omega) _) fun _ ED => f_o ?_
   have EE : i + k < zb u := by rw [hlu]; omega
   refine m_t 0 (i + k) (zm ((((za u (i + k) 0) + ((za (n32 17 (nv a)) i 0) * (za (n32 17 (nv b)) k 0))) + c) &&& (4294967295 : UInt64))) _ ED EB rfl (zx EE) (ZU _ _ _) rfl fun _ _ EF EG => f_e <| ze <| d_r [4,5,6,7,8,9,10,11] [(1, g_i .u64 (Go.Dbr.u64_shr (x := ((za u (i + k) 0) + ((za (n32 17 (nv a)) i 0) * (za (n32 17 (nv b)) k 0))) + c) (n := 32) rfl (by decide)))] EF fun _ EH => zv <| ze <| d_r [4,5,6,7,8,9,10,11] [(1, g_n (w_a k 1))] EH fun _ EI => ze <| ⟨_, ⟨k + 1, (zp u (i + k) ((((za u (i + k) 0) + ((za (n32 17 (nv a)) i 0) * (za (n32 17 (nv b)) k 0))) + c) &&& (4294967295 : UInt64))), ((((za u (i + k) 0) + ((za (n32 17 (nv a)) i 0) * (za (n32 17 (nv b)) k 0))) + c) >>> zc 32), rfl, EI.sb, EG.pk [0, 1, 2, 3], by omega, by simp [hlu], hdu.set (Km _), X5 _, times_in hlu (by omega) hdu (YG _ _) (YG _ _) hcu hv2 rfl, fun j hj => by rw [getD_set_ne _ (by omega)]; exact Hg j hj⟩, ?_⟩
   omega
  refine wp_exit <| zy <| zy <| zL <| ze ?_
  have hk8 : k = 8 := by omega
  refine zk <| d_k [4,5,6,7,8,9,10,48,49] [(1, g_n (w_a i 8))] 3 Ej fun _ EJ => f_o <| q_v (x := Instr.indexAt 87 (pt Ea) (ni (i + 8))) (v := .pointer (some ⟨Ea, i + 8, none⟩)) EJ (Go.Dbr.run_indexarr (e := 31) (sz := 1) (m := 17) (j := i + 8) (o := i + 8) (by kernel_rfl) (by kernel_rfl) (by omega) (by omega) (by omega) _) fun _ EK => f_o ?_
  have EL : i + 8 < zb u := by rw [hlu]; omega
  refine m_t 0 (i + 8) (zm c) [.box Ea (zh (zp u (i + 8) c)) 87, .box Ee (zh (zd 17 0)) 87, .box Eb (zh (n32 17 (nv a))) 87, .box Ec (zh (n32 17 (nv b))) 87] EK Ei rfl (zx EL) (ZU _ _ _) rfl fun _ _ EM EN => f_e <| zv <| ze <| d_r [4,5,6,7,8,9,10] [(1, g_n (w_a i 1))] EM fun _ EO => ze <| ⟨_, ⟨i + 1, (zp u (i + 8) c), rfl, EO.sb, EN.pk [0, 1, 2, 3], by omega, by simp [hlu], hdu.set hcu, times_out hlu (by omega) (Hg _ (by omega)) (dk_nv hb) (by rw [hk8] at hv2; exact hv2), fun j hj => by rw [getD_set_ne _ (by omega)]; exact Hg j (by omega)⟩, ?_⟩
  omega
 refine wp_exit <| zy <| zy <| zL <| ze <| wp_seq <| zk <| f_o <| Zp 0 17 (zh t) Eh Eg rfl (zf hlt) fun _ EP => f_o <| zQ 1 17 (zh t) _ EP Eg rfl (zf hlt) (zf (zi)) (zt _) rfl fun _ _ EQ Ef => f_e <| ze <| wp_ret <| z9 (v := .agg (zg (zh t))) (t := 4) (T := 87) (ad := ⟨Ee, 0, none⟩) EQ (by kernel_rfl) (by kernel_rfl) (zB (t := 87) (k := 1) (off := 0) (m := 17) (xs := zh t) Ef rfl (zq (zf hlt)) (zf hlt) (by kernel_rfl) (by kernel_rfl)) ?_
 have hi8 : i = 8 := by omega
 have hte : t = n32 17 (nv a * nv b) := n32_of hlt hdt (by rw [hv, hi8, dk_nv ha])
 subst hte
 exact ⟨rfl, Ef.pk []⟩
end Go.Proofs.YtlnogkmnklfjlaaGreatDoor

namespace Go.Proofs.YtlnogkmnklfjlaaGreatDoor
open Go.Dbr
set_option maxRecDepth 100000
set_option maxHeartbeats 2000000
set_option linter.unusedVariables false
set_option linter.unusedSimpArgs false
def cF (f : Int) : List UInt64 := if f = 1 then [38, 0, 0, 0, 0, 0, 0, 0] else if f = 2 then [1, 0, 0, 4294967295, 4294967295, 4294967295, 4294967294, 0] else [60611247, 205927741, 1491624315, 1125713234, 0, 0, 4294967295, 0]
def mny (f : Int) : Nat := if f = 1 then 1 else 7
def eF (f : Int) : Nat := if f = 1 then 2 else 1
theorem cF_len (f : Int) : (cF f).length = 8 := by unfold cF; split; rfl; split <;> rfl
theorem mny_le (f : Int) : mny f ≤ 7 := by unfold mny; split <;> decide
theorem DG8 {l : List UInt64} (h : (l.all fun x => decide (x.toNat < 4294967296)) = true) : DG l := fun j => by
  rcases Qe j l.length with q | q
  · rw [zI, zN q]
    exact of_decide_eq_true (List.all_eq_true.1 h _ (List.getElem_mem q))
  · rw [zI, ZS q]; decide
theorem cF_dig {f : Int} (h3 : f = 1 ∨ f = 2 ∨ f = 3) : DG (cF f) := by rcases h3 with rfl | rfl | rfl <;> exact DG8 (by decide +kernel)
theorem cF_val {f : Int} (h3 : f = 1 ∨ f = 2 ∨ f = 3) : dk (cF f) 7 + eF f * mF f = 4294967296 ^ 8 := by rcases h3 with rfl | rfl | rfl <;> decide +kernel
theorem cF_over {f : Int} (h3 : f = 1 ∨ f = 2 ∨ f = 3) {k : Nat} (hk : mny f ≤ k) : za (cF f) k 0 = 0 := by
  by_cases h8 : k < 8
  · rcases h3 with rfl | rfl | rfl
    · match k, hk, h8 with
      | 1, _, _ | 2, _, _ | 3, _, _ | 4, _, _ | 5, _, _ | 6, _, _ | 7, _, _ => rfl
    · match k, hk, h8 with
      | 7, _, _ => rfl
    · match k, hk, h8 with
      | 7, _, _ => rfl
  · rw [zI, ZS (by rw [cF_len]; omega)]; rfl
theorem dk_over {f : Int} (h3 : f = 1 ∨ f = 2 ∨ f = 3) {k : Nat} (hk : mny f ≤ k) : dk (cF f) k = dk (cF f) 7 := by
  have key : ∀ j, dk (cF f) (mny f + j) = dk (cF f) (mny f) := fun j => by
    induction j with
    | zero => rfl
    | succ j ih => rw [← ZK, dk, ih, cF_over h3 (by omega)]; simp
  have h7 := mny_le f
  have e1 := key (k - mny f)
  have e2 := key (7 - mny f)
  rw [show mny f + (k - mny f) = k by omega] at e1
  rw [show mny f + (7 - mny f) = 7 by omega] at e2
  rw [e1, e2]
theorem dk_c_lt {f : Int} (h3 : f = 1 ∨ f = 2 ∨ f = 3) (k : Nat) : dk (cF f) k < 4294967296 ^ 8 := by
  by_cases hk : mny f ≤ k
  · rw [dk_over h3 hk]; exact QU (dk_lt (cF_dig h3) 7) (by decide)
  · have := mny_le f
    exact QU (dk_lt (cF_dig h3) k) (QM (by decide) (by omega))
theorem left_in {u c : List UInt64} {V p k : Nat} {d t g : UInt64} (hlu : u.length = 17) (hj : p + k < 17) (hv : dv 4294967296 u + g.toNat * 4294967296 ^ (p + k) = V + d.toNat * dk c k * 4294967296 ^ p)
    (ht : t.toNat = (za u (p + k) 0).toNat + d.toNat * (za c k 0).toNat + g.toNat) :
    dv 4294967296 (zp u (p + k) (t &&& 4294967295)) + (t >>> zc 32).toNat * 4294967296 ^ (p + (k + 1)) = V + d.toNat * dk c (k + 1) * 4294967296 ^ p := by
  rw [← ZK, set32 (by omega) hv ht, dk, Qs, Zo, ZK]
  congr 2
  rw [Qc]
  ac_rfl
theorem left_idx {u c : List UInt64} {V p k : Nat} {d g : UInt64} (hp : p ≤ 8) (hV : V < 4294967296 ^ (p + 8)) (hd : d.toNat < 4294967296) (hC : dk c k < 4294967296 ^ 8) (hg : 0 < g.toNat)
    (hv : dv 4294967296 u + g.toNat * 4294967296 ^ (p + k) = V + d.toNat * dk c k * 4294967296 ^ p) : k ≤ 8 := by
  rcases Qe 8 k with h | h
  · exfalso
    have h1 : 4294967296 ^ (p + 9) ≤ 4294967296 ^ (p + k) := QM (by decide) (by omega)
    have h2 : 4294967296 ^ (p + k) ≤ g.toNat * 4294967296 ^ (p + k) := Nat.le_mul_of_pos_left _ hg
    have h3 : d.toNat * dk c k ≤ 4294967295 * 4294967296 ^ 8 := QO (by omega) (by omega)
    have h4 : d.toNat * dk c k * 4294967296 ^ p ≤ 4294967295 * 4294967296 ^ 8 * 4294967296 ^ p := Z0 _ h3
    rw [Qc] at hV h1
    rw [z8 4294967296 8] at h1
    generalize 4294967296 ^ p = q at *
    have e8 : (4294967296 : Nat) ^ 8 = 115792089237316195423570985008687907853269984665640564039457584007913129639936 := by decide
    rw [e8] at hV h1 h4
    omega
  · exact h
theorem zero_above {w : List UInt64} (hd : DG w) {q : Nat} (h : dv 4294967296 w < 4294967296 ^ (q + 1)) : dv 4294967296 w = dk w q + (za w q 0).toNat * 4294967296 ^ q := by
  have e := dk_split w (q + 1)
  have h0 : dv 4294967296 (zo (q + 1) w) = 0 := by
    rcases Nat.eq_zero_or_pos (dv 4294967296 (zo (q + 1) w)) with z | z
    · exact z
    · have := Nat.le_mul_of_pos_right (4294967296 ^ (q + 1)) z
      omega
  rw [h0, Z5, Zx] at e
  exact e
theorem top_out {w : List UInt64} (hd : DG w) {q : Nat} (hq : q < w.length) (h : dv 4294967296 w < 4294967296 ^ (q + 1)) : dv 4294967296 (zp w q 0) = dk w q ∧ dv 4294967296 (zp w q 0) < 4294967296 ^ q ∧ dv 4294967296 w = dv 4294967296 (zp w q 0) + (za w q 0).toNat * 4294967296 ^ q := by
  have e := zero_above hd h
  have e2 := JU 4294967296 0 w q hq
  have l := dk_lt hd q
  rw [show (0 : UInt64).toNat = 0 from rfl, Z4] at e2
  omega
theorem left_out {f : Int} (h3 : f = 1 ∨ f = 2 ∨ f = 3) {u w : List UInt64} {q k n : Nat} {g : UInt64} (hq : 8 ≤ q) (hk : mny f ≤ k) (hg : g.toNat = 0) (hw : dv 4294967296 w = dv 4294967296 (zp w q 0) + (za w q 0).toNat * 4294967296 ^ q) (h0 : (za w q 0).toNat ≠ 0)
    (hm : dv 4294967296 w % mF f = n % mF f) (hv : dv 4294967296 u + g.toNat * 4294967296 ^ (q - 8 + k) = dv 4294967296 (zp w q 0) + (za w q 0).toNat * dk (cF f) k * 4294967296 ^ (q - 8)) :
    dv 4294967296 u % mF f = n % mF f ∧ dv 4294967296 u < dv 4294967296 w := by
  have hc := cF_val h3
  have hcl : dk (cF f) 7 < 4294967296 ^ 8 := dk_c_lt h3 7
  rw [hg, Z4, Zx, dk_over h3 hk] at hv
  have hq2 : 4294967296 ^ q = 4294967296 ^ 8 * 4294967296 ^ (q - 8) := by rw [← Qc, show 8 + (q - 8) = q by omega]
  rw [hq2, ← hc] at hw
  have ex : (za w q 0).toNat * ((dk (cF f) 7 + eF f * mF f) * 4294967296 ^ (q - 8)) = (za w q 0).toNat * dk (cF f) 7 * 4294967296 ^ (q - 8) + mF f * ((za w q 0).toNat * eF f * 4294967296 ^ (q - 8)) := by
    rw [Zo, Qs]
    congr 1
    · rw [Ze]
    · ac_rfl
  rw [ex] at hw
  constructor
  · rw [← hm, hw, hv, ← ZK, Nat.add_mul_mod_self_left]
  · have hpos : 0 < mF f * ((za w q 0).toNat * eF f * 4294967296 ^ (q - 8)) := by
      refine JK ?_ (JK (JK (by omega) ?_) (XM (by decide)))
      · have := Jn (f := f) (by omega); omega
      · unfold eF; split <;> decide
    omega
theorem above1 (w : World) : Calls Tryz.prog 92 #[.int .i64 1] w fun e w' => e = .returned (.tuple #[.agg (zg (zh (cF 1))), ni (mny 1)]) ∧ Ev w [] w' [] := by
 refine d_0 [(0, .int .i64 1)] 12 Go.Proofs.Tryz.func92 Go.Proofs.Tryz.ntmps92 (Heap.nil _) fun Ef Eg Eh => wp_seq <| zk <| f_o <| m_z 99 (zh (zd 8 0)) Eg Eh fun _ _ Ei Ej Ek => d_e [0,2,3] [] Ej fun _ El => ze <| wp_seq <| d_s [2,3,4] [] El fun _ Em => ?_
 refine wp_block <| d_s [2,3,4,5] [] Em fun _ Ea => c_t Ea ?_
 refine wp_seq <| zk <| d_k [2,3,4,7] [] 1 Ea fun _ Ec => f_o <| zQ 0 8 (zh ([38, 0, 0, 0, 0, 0, 0, 0] : List UInt64)) _ Ec Ek rfl (zf (show zb ([38, 0, 0, 0, 0, 0, 0, 0] : List UInt64) = 8 from rfl)) (zf (zi)) (zt _) rfl fun _ _ Ed Eb => d_e [2,3,4] [] Ed fun _ Ee => ze <| wp_ret <| block_ret <| ZE <| Z6 (v := .agg (zg (zh ([38, 0, 0, 0, 0, 0, 0, 0] : List UInt64)))) (x := .int .i64 1) (t := 2) (T := 99) (ad := ⟨Ei, 0, none⟩) (u := 3) Ee (by kernel_rfl) (by kernel_rfl) (zB (t := 99) (k := 0) (off := 0) (m := 8) (xs := zh ([38, 0, 0, 0, 0, 0, 0, 0] : List UInt64)) Eb rfl (zq (zf (show zb ([38, 0, 0, 0, 0, 0, 0, 0] : List UInt64) = 8 from rfl))) (zf (show zb ([38, 0, 0, 0, 0, 0, 0, 0] : List UInt64) = 8 from rfl)) (by kernel_rfl) (by kernel_rfl)) (by kernel_rfl) ?_
 exact ⟨by kernel_rfl, Eb.pk []⟩
theorem above2 (w : World) : Calls Tryz.prog 92 #[.int .i64 2] w fun e w' => e = .returned (.tuple #[.agg (zg (zh (cF 2))), ni (mny 2)]) ∧ Ev w [] w' [] := by
 refine d_0 [(0, .int .i64 2)] 12 Go.Proofs.Tryz.func92 Go.Proofs.Tryz.ntmps92 (Heap.nil _) fun Eg Eh Ei => wp_seq <| zk <| f_o <| m_z 99 (zh (zd 8 0)) Eh Ei fun _ _ Ej Ek El => d_e [0,2,3] [] Ek fun _ Em => ze <| wp_seq <| d_s [2,3,4] [] Em fun _ En => ?_
 refine wp_block <| d_s [2,3,4,5] [] En fun _ Ea => c_f Ea ?_
 refine d_s [2,3,4,8] [] Ea fun _ Eb => c_t Eb ?_
 refine wp_seq <| zk <| d_k [2,3,4,10] [] 1 Eb fun _ Ed => f_o <| zQ 0 8 (zh ([1, 0, 0, 4294967295, 4294967295, 4294967295, 4294967294, 0] : List UInt64)) _ Ed El rfl (zf (show zb ([1, 0, 0, 4294967295, 4294967295, 4294967295, 4294967294, 0] : List UInt64) = 8 from rfl)) (zf (zi)) (zt _) rfl fun _ _ Ee Ec => d_e [2,3,4] [] Ee fun _ Ef => ze <| wp_ret <| block_ret <| ZE <| Z6 (v := .agg (zg (zh ([1, 0, 0, 4294967295, 4294967295, 4294967295, 4294967294, 0] : List UInt64)))) (x := .int .i64 7) (t := 2) (T := 99) (ad := ⟨Ej, 0, none⟩) (u := 3) Ef (by kernel_rfl) (by kernel_rfl) (zB (t := 99) (k := 0) (off := 0) (m := 8) (xs := zh ([1, 0, 0, 4294967295, 4294967295, 4294967295, 4294967294, 0] : List UInt64)) Ec rfl (zq (zf (show zb ([1, 0, 0, 4294967295, 4294967295, 4294967295, 4294967294, 0] : List UInt64) = 8 from rfl))) (zf (show zb ([1, 0, 0, 4294967295, 4294967295, 4294967295, 4294967294, 0] : List UInt64) = 8 from rfl)) (by kernel_rfl) (by kernel_rfl)) (by kernel_rfl) ?_
 exact ⟨by kernel_rfl, Ec.pk []⟩
theorem above3 (w : World) : Calls Tryz.prog 92 #[.int .i64 3] w fun e w' => e = .returned (.tuple #[.agg (zg (zh (cF 3))), ni (mny 3)]) ∧ Ev w [] w' [] := by
 refine d_0 [(0, .int .i64 3)] 12 Go.Proofs.Tryz.func92 Go.Proofs.Tryz.ntmps92 (Heap.nil _) fun Eg Eh Ei => wp_seq <| zk <| f_o <| m_z 99 (zh (zd 8 0)) Eh Ei fun _ _ Ej Ek El => d_e [0,2,3] [] Ek fun _ Em => ze <| wp_seq <| d_s [2,3,4] [] Em fun _ En => ?_
 refine wp_block <| d_s [2,3,4,5] [] En fun _ Ea => c_f Ea ?_
 refine d_s [2,3,4,8] [] Ea fun _ Eb => c_f Eb ?_
 refine wp_skip <| zv <| ze <| wp_seq <| zk <| d_k [2,3,4,11] [] 1 Eb fun _ Ed => f_o <| zQ 0 8 (zh ([60611247, 205927741, 1491624315, 1125713234, 0, 0, 4294967295, 0] : List UInt64)) _ Ed El rfl (zf (show zb ([60611247, 205927741, 1491624315, 1125713234, 0, 0, 4294967295, 0] : List UInt64) = 8 from rfl)) (zf (zi)) (zt _) rfl fun _ _ Ee Ec => d_e [2,3,4] [] Ee fun _ Ef => ze <| wp_ret <| Z6 (v := .agg (zg (zh ([60611247, 205927741, 1491624315, 1125713234, 0, 0, 4294967295, 0] : List UInt64)))) (x := .int .i64 7) (t := 2) (T := 99) (ad := ⟨Ej, 0, none⟩) (u := 3) Ef (by kernel_rfl) (by kernel_rfl) (zB (t := 99) (k := 0) (off := 0) (m := 8) (xs := zh ([60611247, 205927741, 1491624315, 1125713234, 0, 0, 4294967295, 0] : List UInt64)) Ec rfl (zq (zf (show zb ([60611247, 205927741, 1491624315, 1125713234, 0, 0, 4294967295, 0] : List UInt64) = 8 from rfl))) (zf (show zb ([60611247, 205927741, 1491624315, 1125713234, 0, 0, 4294967295, 0] : List UInt64) = 8 from rfl)) (by kernel_rfl) (by kernel_rfl)) (by kernel_rfl) ?_
 exact ⟨by kernel_rfl, Ec.pk []⟩
theorem above_go (w : World) (f : Int) (h3 : f = 1 ∨ f = 2 ∨ f = 3) : Calls Tryz.prog 92 #[.int .i64 f] w fun e w' => e = .returned (.tuple #[.agg (zg (zh (cF f))), ni (mny f)]) ∧ Ev w [] w' [] := by
  rcases h3 with rfl | rfl | rfl
  · exact above1 w
  · exact above2 w
  · exact above3 w
theorem dv_lt32 {l : List UInt64} (h : DG l) : dv 4294967296 l < 4294967296 ^ l.length := by
  have e := dk_split l l.length
  rw [Y7, show dv 4294967296 [] = 0 from rfl, Z5, Zx] at e
  rw [e]
  exact dk_lt h _
theorem add32 {p c : UInt64} (hp : p.toNat < 4294967296) (hc : c.toNat < 4294967296) : (p + c).toNat = p.toNat + c.toNat := by
  rw [ZN]
  omega
theorem left3_go (w : World) (f : Int) (h3 : f = 1 ∨ f = 2 ∨ f = 3) (n : List UInt64) (hn : zb n = 17) (hdn : DG n) : Calls Tryz.prog 64 #[.int .i64 f, .agg (zg (zh n))] w fun e w' => e = .returned (.agg (zg (zh (nd (dv 4294967296 n % mF f))))) ∧ Ev w [] w' [] := by
 refine d_0 [(0, .int .i64 f), (1, .agg (zg (zh n)))] 85 Go.Proofs.Tryz.func64 Go.Proofs.Tryz.ntmps64 (Heap.nil _) fun aj ak al => wp_seq <| zk <| f_o <| m_m 87 (zh n) ak al fun _ _ Ec am an => f_o <| m_z 33 (zh (zd 4 0)) am an fun _ _ Ee ao HD => f_e <| ze <| wp_seq <| zk <| d_k [0,3,4,14] [] 1 ao fun _ HE => ?_
 refine f_o <| c_p HE HD (rmodulus_go _ f) fun _ _ HF HG => f_o <| m_z 33 (zh (zd 4 0)) HF HG fun _ _ Eb HH HI => f_o <| zQ 2 4 (zh (nd (mF f))) _ HH HI rfl (zf (zl _ _)) (zf (zi)) (zt _) rfl fun _ _ HJ HK => f_e <| ze <| wp_seq <| wp_seq <| d_r [0,3,4,5,17] [(1, g_b (show (f == (4 : Int)) = false from (beq_eq_false_iff_ne.2 (by omega))))] HJ fun _ Ew => ?_
 refine ze <| c_f Ew ?_
 refine wp_skip <| ze <| wp_seq <| zk <| d_k [0,3,4,5,22] [] 1 Ew fun _ HL => f_o <| c_p HL HK (above_go _ f h3) fun _ _ HM HN => d_k [0,3,4,5,24,25] [] 5 HM fun _ HO => f_o <| m_z 99 (zh (zd 8 0)) HO HN fun _ _ Ea HP HQ => ?_
 refine f_o <| zQ 3 8 (zh (cF f)) [.box Ec (zh n) 87, .box Ee (zh (zd 4 0)) 33, .box Eb (zh (nd (mF f))) 33, .box Ea (zh (cF f)) 99] HP HQ rfl (zf (cF_len _)) (zf (zi)) (zt _) rfl fun _ _ HR HS => d_e [0,3,4,5,6,7] [] HR fun _ HT => ze <| wp_seq <| wp_seq <| d_r [0,3,4,5,6,7,8] [] HT fun _ HU => ze <| wp_block <| ZR (fun HV ac wo => ∃ (q : Nat) (v : List UInt64), HV = (q + 1 : Nat) ∧ Env ac 85 [(0, .int .i64 f), (3, pt Ec), (4, pt Ee), (5, pt Eb), (6, pt Ea), (7, ni (mny f)), (8, ni q)] ∧ Ev w [] wo [.box Ec (zh v) 87, .box Ee (zh (zd 4 0)) 33, .box Eb (zh (nd (mF f))) 33, .box Ea (zh (cF f)) 99] ∧ (7 ≤ q ∧ q ≤ 16) ∧ (zb v = 17) ∧ (DG v) ∧ (dv 4294967296 v % mF f = dv 4294967296 n % mF f) ∧ (dv 4294967296 v < 4294967296 ^ (q + 1))) ⟨_, 16, n, rfl, HU.sb, HS.pk [0, 1, 2, 3], by omega, hn, hdn, rfl, by have := dv_lt32 hdn; rwa [hn] at this⟩ ?_
 rintro ap _ _ ⟨q, v, rfl, HW, Es, hq, hlv, hdv, hmv, hbv⟩
 refine wp_seq <| wp_seq <| d_r [0,3,4,5,6,7,8,27] [] HW fun _ Et => ?_
 refine ze <| c_d (((q : Nat) : Int) ≥ (8 : Int)) Et (fun HX => ?_) (fun HX => ?_)
 ·
  refine wp_skip <| ze <| wp_seq <| wp_block <| wp_block <| ZR (fun HY ac wo => ∃ (w1 : List UInt64), HY = (dv 4294967296 w1 : Nat) ∧ Env ac 85 [(0, .int .i64 f), (3, pt Ec), (4, pt Ee), (5, pt Eb), (6, pt Ea), (7, ni (mny f)), (8, ni q)] ∧ Ev w [] wo [.box Ec (zh w1) 87, .box Ee (zh (zd 4 0)) 33, .box Eb (zh (nd (mF f))) 33, .box Ea (zh (cF f)) 99] ∧ (zb w1 = 17) ∧ (DG w1) ∧ (dv 4294967296 w1 % mF f = dv 4294967296 n % mF f) ∧ (dv 4294967296 w1 < 4294967296 ^ (q + 1))) ⟨_, v, rfl, Et.sb, Es.pk [0, 1, 2, 3], hlv, hdv, hmv, hbv⟩ ?_
  rintro aq _ _ ⟨w1, rfl, HZ, Eo, hlw, hdw, hmw, hbw⟩
  refine wp_seq <| wp_seq <| zk <| d_k [0,3,4,5,6,7,8,30] [] 1 HZ fun _ H0 => f_o <| q_v (x := Instr.indexAt 87 (pt Ec) (ni q)) (v := .pointer (some ⟨Ec, q, none⟩)) H0 (Go.Dbr.run_indexarr (e := 31) (sz := 1) (m := 17) (j := q) (o := q) (by kernel_rfl) (by kernel_rfl) (by omega) (by omega) (by omega) _) fun _ H1 => f_o ?_
  have H2 : q < zb w1 := by rw [hlw]; omega
  refine m_v 0 q (zm (za w1 q 0)) H1 Eo rfl (zx H2) fun _ H3 => d_e [0,3,4,5,6,7,8,33] [] H3 fun _ Eu => ?_
  refine ze <| c_n ((zw (za w1 q 0) : Nat) : Int) (0 : Int) Eu (fun H4 => ?_) (fun H4 => ?_)
  ·
   refine wp_skip <| ze <| wp_block <| wp_seq <| zk <| d_k [0,3,4,5,6,7,8,34] [] 1 Eu fun _ H5 => f_o <| q_v (x := Instr.indexAt 87 (pt Ec) (ni q)) (v := .pointer (some ⟨Ec, q, none⟩)) H5 (Go.Dbr.run_indexarr (e := 31) (sz := 1) (m := 17) (j := q) (o := q) (by kernel_rfl) (by kernel_rfl) (by omega) (by omega) (by omega) _) fun _ H6 => f_o ?_
   have H7 : q < zb w1 := by rw [hlw]; omega
   refine m_v 0 q (zm (za w1 q 0)) H6 Eo rfl (zx H7) fun _ H8 => d_e [0,3,4,5,6,7,8,9] [] H8 fun _ H9 => ze <| wp_seq <| zk <| d_k [0,3,4,5,6,7,8,9,37] [] 1 H9 fun _ aa => f_o <| q_v (x := Instr.indexAt 87 (pt Ec) (ni q)) (v := .pointer (some ⟨Ec, q, none⟩)) aa (Go.Dbr.run_indexarr (e := 31) (sz := 1) (m := 17) (j := q) (o := q) (by kernel_rfl) (by kernel_rfl) (by omega) (by omega) (by omega) _) fun _ ab => ?_
   refine f_o ?_
   have ae : q < zb w1 := by rw [hlw]; omega
   refine m_t 0 q (.int .u64 0) _ ab Eo rfl (zx ae) (ZU _ _ (0 : UInt64)) rfl fun _ _ af ag => f_e <| ze <| wp_seq <| d_r [0,3,4,5,6,7,8,9,10] [] af fun _ Ex => ze <| wp_seq <| d_r [0,3,4,5,6,7,8,9,10,11] [] Ex fun _ Ey => ze <| wp_block ?_
   have hto := top_out hdw (by omega) hbw
   refine ZR (fun Ez ac wo => ∃ (k : Nat) (u : List UInt64) (g : UInt64), Ez = (10 - k : Nat) ∧ Env ac 85 [(0, .int .i64 f), (3, pt Ec), (4, pt Ee), (5, pt Eb), (6, pt Ea), (7, ni (mny f)), (8, ni q), (9, zm (za w1 q 0)), (10, zm g), (11, ni k)] ∧ Ev w [] wo [.box Ec (zh u) 87, .box Ee (zh (zd 4 0)) 33, .box Eb (zh (nd (mF f))) 33, .box Ea (zh (cF f)) 99] ∧ (k ≤ 9) ∧ (zb u = 17) ∧ (DG u) ∧ (g.toNat < 4294967296) ∧ (dv 4294967296 u + g.toNat * 4294967296 ^ (q - 8 + k) = dv 4294967296 (zp w1 q 0) + (za w1 q 0).toNat * dk (cF f) k * 4294967296 ^ (q - 8))) ⟨_, 0, zp w1 q 0, 0, rfl, Ey.sb, ag.pk [0, 1, 2, 3], by omega, by simp [hlw], hdw.set (by decide), by decide, by simp [dk]⟩ ?_
   rintro ah _ _ ⟨k, u, g, rfl, EA, Ed, hk, hlu, hdu, hgu, hvu⟩
   refine wp_seq <| wp_seq ?_
   have hC8 := dk_c_lt h3 k
   refine zk <| d_k [0,3,4,5,6,7,8,9,10,11,42] [] 4 EA fun _ Ep => ?_
   rcases Bool.eq_false_or_eq_true (decide (((k : Nat) : Int) < ((mny f : Nat) : Int))) with Ef | Ef
   ·
    have EB := Ep.fx (t := 42) (congrArg Value.bool Ef)
    have hp115 : ((k : Nat) : Int) < ((mny f : Nat) : Int) := of_decide_eq_true Ef
    refine d_e [0,3,4,5,6,7,8,9,10,11,45] [] EB fun _ Eq => ze <| c_t Eq ?_
    refine wp_skip <| ze <| wp_seq <| wp_block <| wp_seq ?_
    have hk8 : k ≤ 8 := by by_cases hmk : mny f ≤ k <;> first | (have := mny_le f; omega) | exact left_idx (u := u) (by omega) (by rw [show q - 8 + 8 = q by omega]; exact hto.2.1) (hdw q) (dk_c_lt h3 k) (by omega) hvu
    have hqk : q - 8 + k < 17 := by omega
    have hm7 := mny_le f
    refine zk <| d_k [0,3,4,5,6,7,8,9,10,11,51] [(1, g_n (w_r (e := ((q : Nat) : Int) - (8 : Int)) (x := ((q - 8 : Nat) : Int)) (by omega))), (3, g_n (w_a (q - 8) k))] 4 Eq fun _ EC => f_o <| q_v (x := Instr.indexAt 87 (pt Ec) (ni ((q - 8) + k))) (v := .pointer (some ⟨Ec, (q - 8) + k, none⟩)) EC (Go.Dbr.run_indexarr (e := 31) (sz := 1) (m := 17) (j := (q - 8) + k) (o := (q - 8) + k) (by kernel_rfl) (by kernel_rfl) (by omega) (by omega) (by omega) _) fun _ ED => f_o ?_
    have EE : (q - 8) + k < zb u := by rw [hlu]; omega
    refine m_v 0 ((q - 8) + k) (zm (za u ((q - 8) + k) 0)) ED Ed rfl (zx EE) fun _ EF => d_e [0,3,4,5,6,7,8,9,10,11,12] [(7, g_i .u64 (Go.Dbr.u64_add (x := za u ((q - 8) + k) 0) (y := g) rfl rfl))] EF fun _ EG => ze <| wp_seq <| wp_seq <| d_r [0,3,4,5,6,7,8,9,10,11,12,58] [] EG fun _ Ej => ?_
    refine ze <| region_cut (F := fun ac wo => ∃ (t : UInt64), Env ac 85 [(0, .int .i64 f), (3, pt Ec), (4, pt Ee), (5, pt Eb), (6, pt Ea), (7, ni (mny f)), (8, ni q), (9, zm (za w1 q 0)), (10, zm g), (11, ni k), (12, zm t)] ∧ Ev w [] wo [.box Ec (zh u) 87, .box Ee (zh (zd 4 0)) 33, .box Eb (zh (nd (mF f))) 33, .box Ea (zh (cF f)) 99] ∧ (t.toNat = (za u (q - 8 + k) 0).toNat + (za w1 q 0).toNat * (za (cF f) k 0).toNat + g.toNat)) ?_ ?_
    ·
     refine c_d (((k : Nat) : Int) < ((mny f : Nat) : Int)) Ej (fun EH => ?_) (fun EH => ?_)
     ·
      refine zk <| d_k [0,3,4,5,6,7,8,9,10,11,12,59,60,61] [] 3 Ej fun _ EI => f_o <| q_v (x := Instr.indexAt 99 (pt Ea) (ni k)) (v := .pointer (some ⟨Ea, k, none⟩)) EI (Go.Dbr.run_indexarr (e := 31) (sz := 1) (m := 8) (j := k) (o := k) (by kernel_rfl) (by kernel_rfl) (by omega) (by omega) (by omega) _) fun _ EJ => f_o ?_
      have EK : k < zb (cF f) := by rw [(cF_len _)]; omega
      refine m_v 3 k (zm (za (cF f) k 0)) EJ Ed rfl (zx EK) fun _ EL => d_e [0,3,4,5,6,7,8,9,10,11,12] [(5, g_i .u64 (Go.Dbr.u64_mul (x := za w1 q 0) (y := za (cF f) k 0) rfl rfl)), (6, g_i .u64 (Go.Dbr.u64_add (x := (za u ((q - 8) + k) 0) + g) (y := (za w1 q 0) * (za (cF f) k 0)) rfl rfl))] EL fun _ EM => ?_
      exact ⟨rfl, ⟨(((za u ((q - 8) + k) 0) + g) + ((za w1 q 0) * (za (cF f) k 0))), EM.sb, Ed.pk [0, 1, 2, 3], by first | exact mac32' (hdu _) (hdw q) (cF_dig h3 k) hgu | (rw [cF_over h3 (by omega), show (0 : UInt64).toNat = 0 from rfl, Z5, Zx]; exact add32 (hdu _) hgu)⟩⟩
     refine wp_skip ?_
     exact ⟨rfl, ⟨((za u ((q - 8) + k) 0) + g), Ej.sb, Ed.pk [0, 1, 2, 3], by first | exact mac32' (hdu _) (hdw q) (cF_dig h3 k) hgu | (rw [cF_over h3 (by omega), show (0 : UInt64).toNat = 0 from rfl, Z5, Zx]; exact add32 (hdu _) hgu)⟩⟩
    rintro _ _ ⟨t, EN, EO, hte⟩
    refine ze <| wp_seq <| zk <| d_k [0,3,4,5,6,7,8,9,10,11,12,69,71] [(1, g_n (w_r (e := ((q : Nat) : Int) - (8 : Int)) (x := ((q - 8 : Nat) : Int)) (by omega))), (3, g_n (w_a (q - 8) k)), (5, g_i .u64 (Go.Dbr.u64_and (x := t) (y := (4294967295 : UInt64)) rfl rfl))] 6 EN fun _ EP => f_o <| q_v (x := Instr.indexAt 87 (pt Ec) (ni ((q - 8) + k))) (v := .pointer (some ⟨Ec, (q - 8) + k, none⟩)) EP (Go.Dbr.run_indexarr (e := 31) (sz := 1) (m := 17) (j := (q - 8) + k) (o := (q - 8) + k) (by kernel_rfl) (by kernel_rfl) (by omega) (by omega) (by omega) _) fun _ EQ => f_o ?_
    have ER : (q - 8) + k < zb u := by rw [hlu]; omega
    refine m_t 0 ((q - 8) + k) (zm (t &&& (4294967295 : UInt64))) [.box Ec (zh (zp u ((q - 8) + k) (t &&& (4294967295 : UInt64)))) 87, .box Ee (zh (zd 4 0)) 33, .box Eb (zh (nd (mF f))) 33, .box Ea (zh (cF f)) 99] EQ EO rfl (zx ER) (ZU _ _ _) rfl fun _ _ ES ET => f_e <| ze <| d_r [0,3,4,5,6,7,8,9,10,11,12] [(1, g_i .u64 (Go.Dbr.u64_shr (x := t) (n := 32) rfl (by decide)))] ES fun _ EU => zv <| ze <| d_r [0,3,4,5,6,7,8,9,10,11,12] [(1, g_n (w_a k 1))] EU fun _ EV => ze <| ⟨_, ⟨k + 1, (zp u ((q - 8) + k) (t &&& (4294967295 : UInt64))), (t >>> zc 32), rfl, EV.sb, ET.pk [0, 1, 2, 3], by omega, by simp [hlu], hdu.set (Km _), X5 _, left_in hlu (by omega) hvu hte⟩, ?_⟩
    omega
   have EW := Ep.fx (t := 42) (congrArg Value.bool Ef)
   have hp157 : ¬ (((k : Nat) : Int) < ((mny f : Nat) : Int)) := of_decide_eq_false Ef
   refine d_e [0,3,4,5,6,7,8,9,10,11,45] [] EW fun _ Ek => ?_
   refine ze <| c_d (((zw g : Nat) : Int) > (0 : Int)) Ek (fun EX => ?_) (fun EX => ?_)
   ·
    refine wp_skip <| ze <| wp_seq <| wp_block <| wp_seq ?_
    have hk8 : k ≤ 8 := by by_cases hmk : mny f ≤ k <;> first | (have := mny_le f; omega) | exact left_idx (u := u) (by omega) (by rw [show q - 8 + 8 = q by omega]; exact hto.2.1) (hdw q) (dk_c_lt h3 k) (by omega) hvu
    have hqk : q - 8 + k < 17 := by omega
    have hm7 := mny_le f
    refine zk <| d_k [0,3,4,5,6,7,8,9,10,11,51] [(1, g_n (w_r (e := ((q : Nat) : Int) - (8 : Int)) (x := ((q - 8 : Nat) : Int)) (by omega))), (3, g_n (w_a (q - 8) k))] 4 Ek fun _ EY => f_o <| q_v (x := Instr.indexAt 87 (pt Ec) (ni ((q - 8) + k))) (v := .pointer (some ⟨Ec, (q - 8) + k, none⟩)) EY (Go.Dbr.run_indexarr (e := 31) (sz := 1) (m := 17) (j := (q - 8) + k) (o := (q - 8) + k) (by kernel_rfl) (by kernel_rfl) (by omega) (by omega) (by omega) _) fun _ EZ => f_o ?_
    have E0 : (q - 8) + k < zb u := by rw [hlu]; omega
    refine m_v 0 ((q - 8) + k) (zm (za u ((q - 8) + k) 0)) EZ Ed rfl (zx E0) fun _ E1 => d_e [0,3,4,5,6,7,8,9,10,11,12] [(7, g_i .u64 (Go.Dbr.u64_add (x := za u ((q - 8) + k) 0) (y := g) rfl rfl))] E1 fun _ E2 => ze <| wp_seq <| wp_seq <| d_r [0,3,4,5,6,7,8,9,10,11,12,58] [] E2 fun _ El => ?_
    refine ze <| region_cut (F := fun ac wo => ∃ (t : UInt64), Env ac 85 [(0, .int .i64 f), (3, pt Ec), (4, pt Ee), (5, pt Eb), (6, pt Ea), (7, ni (mny f)), (8, ni q), (9, zm (za w1 q 0)), (10, zm g), (11, ni k), (12, zm t)] ∧ Ev w [] wo [.box Ec (zh u) 87, .box Ee (zh (zd 4 0)) 33, .box Eb (zh (nd (mF f))) 33, .box Ea (zh (cF f)) 99] ∧ (t.toNat = (za u (q - 8 + k) 0).toNat + (za w1 q 0).toNat * (za (cF f) k 0).toNat + g.toNat)) ?_ ?_
    ·
     refine c_d (((k : Nat) : Int) < ((mny f : Nat) : Int)) El (fun E3 => ?_) (fun E3 => ?_)
     ·
      refine zk <| d_k [0,3,4,5,6,7,8,9,10,11,12,59,60,61] [] 3 El fun _ E4 => f_o <| q_v (x := Instr.indexAt 99 (pt Ea) (ni k)) (v := .pointer (some ⟨Ea, k, none⟩)) E4 (Go.Dbr.run_indexarr (e := 31) (sz := 1) (m := 8) (j := k) (o := k) (by kernel_rfl) (by kernel_rfl) (by omega) (by omega) (by omega) _) fun _ E5 => f_o ?_
      have E6 : k < zb (cF f) := by rw [(cF_len _)]; omega
      refine m_v 3 k (zm (za (cF f) k 0)) E5 Ed rfl (zx E6) fun _ E7 => d_e [0,3,4,5,6,7,8,9,10,11,12] [(5, g_i .u64 (Go.Dbr.u64_mul (x := za w1 q 0) (y := za (cF f) k 0) rfl rfl)), (6, g_i .u64 (Go.Dbr.u64_add (x := (za u ((q - 8) + k) 0) + g) (y := (za w1 q 0) * (za (cF f) k 0)) rfl rfl))] E7 fun _ E8 => ?_
      exact ⟨rfl, ⟨(((za u ((q - 8) + k) 0) + g) + ((za w1 q 0) * (za (cF f) k 0))), E8.sb, Ed.pk [0, 1, 2, 3], by first | exact mac32' (hdu _) (hdw q) (cF_dig h3 k) hgu | (rw [cF_over h3 (by omega), show (0 : UInt64).toNat = 0 from rfl, Z5, Zx]; exact add32 (hdu _) hgu)⟩⟩
     refine wp_skip ?_
     exact ⟨rfl, ⟨((za u ((q - 8) + k) 0) + g), El.sb, Ed.pk [0, 1, 2, 3], by first | exact mac32' (hdu _) (hdw q) (cF_dig h3 k) hgu | (rw [cF_over h3 (by omega), show (0 : UInt64).toNat = 0 from rfl, Z5, Zx]; exact add32 (hdu _) hgu)⟩⟩
    rintro _ _ ⟨t, E9, Ha, hte⟩
    refine ze <| wp_seq <| zk <| d_k [0,3,4,5,6,7,8,9,10,11,12,69,71] [(1, g_n (w_r (e := ((q : Nat) : Int) - (8 : Int)) (x := ((q - 8 : Nat) : Int)) (by omega))), (3, g_n (w_a (q - 8) k)), (5, g_i .u64 (Go.Dbr.u64_and (x := t) (y := (4294967295 : UInt64)) rfl rfl))] 6 E9 fun _ Hb => f_o <| q_v (x := Instr.indexAt 87 (pt Ec) (ni ((q - 8) + k))) (v := .pointer (some ⟨Ec, (q - 8) + k, none⟩)) Hb (Go.Dbr.run_indexarr (e := 31) (sz := 1) (m := 17) (j := (q - 8) + k) (o := (q - 8) + k) (by kernel_rfl) (by kernel_rfl) (by omega) (by omega) (by omega) _) fun _ Hc => f_o ?_
    have Hd : (q - 8) + k < zb u := by rw [hlu]; omega
    refine m_t 0 ((q - 8) + k) (zm (t &&& (4294967295 : UInt64))) _ Hc Ha rfl (zx Hd) (ZU _ _ _) rfl fun _ _ He Hf => f_e <| ze <| d_r [0,3,4,5,6,7,8,9,10,11,12] [(1, g_i .u64 (Go.Dbr.u64_shr (x := t) (n := 32) rfl (by decide)))] He fun _ Hg => zv <| ze <| d_r [0,3,4,5,6,7,8,9,10,11,12] [(1, g_n (w_a k 1))] Hg fun _ Hh => ze <| ⟨_, ⟨k + 1, (zp u ((q - 8) + k) (t &&& (4294967295 : UInt64))), (t >>> zc 32), rfl, Hh.sb, Hf.pk [0, 1, 2, 3], by omega, by simp [hlu], hdu.set (Km _), X5 _, left_in hlu (by omega) hvu hte⟩, ?_⟩
    omega
   refine wp_exit <| zy <| zy <| zL <| zv <| ze ?_
   have hlo := left_out h3 (by omega) (by omega) (by omega) hto.2.2 (by omega) hmw hvu
   refine ⟨_, ⟨u, rfl, Ek.sb, Ed.pk [0, 1, 2, 3], hlu, hdu, hlo.1, Zu hlo.2 hbw⟩, ?_⟩
   exact hlo.2
  refine wp_exit <| zy <| zy <| zL <| zv <| ze ?_
  have hbq : dv 4294967296 w1 < 4294967296 ^ q := by have e := zero_above hdw hbw; have l := dk_lt hdw q; rw [show (za w1 q 0).toNat = 0 by omega] at e; omega
  refine d_r [0,3,4,5,6,7,8] [(1, g_n (w_r (e := ((q : Nat) : Int) - (1 : Int)) (x := ((q - 1 : Nat) : Int)) (by omega)))] Eu fun _ Hi => ze <| ⟨_, ⟨q - 1, w1, rfl, Hi.sb, Eo.pk [0, 1, 2, 3], by omega, hlw, hdw, hmw, by rw [show q - 1 + 1 = q by omega]; exact hbq⟩, ?_⟩
  omega
 refine wp_exit <| zy <| zy <| zL <| ze <| wp_seq <| zk <| f_o <| Zp 0 17 (zh v) Et Es rfl (zf hlv) fun _ Hj => f_o <| c_p Hj Es (number_go _ v hlv hdv) fun _ _ Hk Hl => f_o <| m_z 33 (zh (zd 4 0)) Hk Hl fun _ _ Ei Hm Hn => f_o <| zQ 4 4 (zh (nd (dv 4294967296 v))) [.box Ec (zh v) 87, .box Ee (zh (zd 4 0)) 33, .box Eb (zh (nd (mF f))) 33, .box Ea (zh (cF f)) 99, .box Ei (zh (nd (dv 4294967296 v))) 33] Hm Hn rfl (zf (zl _ _)) (zf (zi)) (zt _) rfl fun _ _ Ho Hp => ?_
 refine f_e <| ze <| wp_seq <| wp_block ?_
 have hq7 : q = 7 := by omega
 rw [hq7, d8w] at hbv
 refine ZR (fun Hq ac wo => ∃ (x : List UInt64), Hq = (nv x : Nat) ∧ Env ac 85 [(0, .int .i64 f), (3, pt Ec), (4, pt Ee), (5, pt Eb), (6, pt Ea), (7, ni (mny f)), (8, ni q), (13, pt Ei)] ∧ Ev w [] wo [.box Ei (zh x) 33, .box Ec (zh v) 87, .box Ee (zh (zd 4 0)) 33, .box Eb (zh (nd (mF f))) 33, .box Ea (zh (cF f)) 99] ∧ (zb x = 4) ∧ (nv x % mF f = dv 4294967296 n % mF f)) ⟨_, (nd (dv 4294967296 v)), rfl, Ho.sb, Hp.pk [4, 0, 1, 2, 3], zl _ _, by rw [Qw hbv]; exact hmv⟩ ?_
 rintro ai _ _ ⟨x, rfl, Hr, Em, hx, hxm⟩
 refine wp_seq <| wp_seq <| zk <| f_o <| Zp 0 4 (zh x) Hr Em rfl (zf hx) fun _ Hs => f_o <| Zp 3 4 (zh (nd (mF f))) Hs Em rfl (zf (zl _ _)) fun _ Ht => f_o <| c_p Ht Em (rless_go _ x (nd (mF f)) hx (zl _ _)) fun _ _ Hu Eg => d_e [0,3,4,5,6,7,8,13,80] [] Hu fun _ En => ?_
 refine ze <| cond_at En (t := !(decide (nv x < nv (nd (mF f))))) (by kernel_rfl) (fun Eh => ?_) (fun Eh => ?_)
 ·
  replace Eh : ¬ (nv x < nv (nd (mF f))) := by simpa using Eh
  refine wp_skip <| ze <| wp_block <| zk <| f_o <| Zp 0 4 (zh x) En Eg rfl (zf hx) fun _ Hv => f_o <| Zp 3 4 (zh (nd (mF f))) Hv Eg rfl (zf (zl _ _)) fun _ Hw => f_o <| c_p Hw Eg (J6 _ x (nd (mF f)) hx (zl _ _)) fun _ _ Hx Hy => f_o <| zQ 0 4 (zh (nd (nv x + zU - nv (nd (mF f))))) _ Hx Hy rfl (zf (zl _ _)) (zf hx) (zt _) rfl fun _ _ Hz HA => ?_
  refine f_e <| zv <| ze <| ⟨_, ⟨(nd (nv x + zU - nv (nd (mF f)))), rfl, Hz.sb, HA.pk [0, 1, 2, 3, 4], zl _ _, by rw [sub_nd hx (by omega), ← hxm]; exact (by rw [nv_mF]; exact (Nat.mod_eq_sub_mod (by rw [nv_mF] at *; omega)).symm)⟩, ?_⟩
  rw [sub_nd hx (by omega)]; have := Jn (f := f) (by omega); rw [nv_mF] at *; omega
 replace Eh : nv x < nv (nd (mF f)) := by simpa using Eh
 refine wp_exit <| zy <| zy <| zL <| ze <| wp_seq <| zk <| f_o <| Zp 0 4 (zh x) En Eg rfl (zf hx) fun _ HB => f_o <| zQ 2 4 (zh x) [.box Ei (zh x) 33, .box Ec (zh v) 87, .box Ee (zh x) 33, .box Eb (zh (nd (mF f))) 33, .box Ea (zh (cF f)) 99] HB Eg rfl (zf hx) (zf (zi)) (zt _) rfl fun _ _ HC Er => f_e <| ze <| wp_ret <| z9 (v := .agg (zg (zh x))) (t := 4) (T := 33) (ad := ⟨Ee, 0, none⟩) HC (by kernel_rfl) (by kernel_rfl) (zB (t := 33) (k := 2) (off := 0) (m := 4) (xs := zh x) Er rfl (zq (zf hx)) (zf hx) (by kernel_rfl) (by kernel_rfl)) ?_
 have hxe : x = nd (dv 4294967296 n % mF f) := nd_of hx (by rw [← hxm]; exact (zG (by rw [nv_mF] at *; omega)).symm)
 subst hxe
 exact ⟨rfl, Er.pk []⟩
end Go.Proofs.YtlnogkmnklfjlaaGreatDoor

namespace Go.Proofs.YtlnogkmnklfjlaaGreatDoor
open Go.Dbr
set_option maxRecDepth 100000
set_option maxHeartbeats 2000000
set_option linter.unusedVariables false
set_option linter.unusedSimpArgs false
def lv : List UInt8 → Nat
  | [] => 0
  | x :: r => x.toNat + 256 * lv r
theorem lv_lt : ∀ l, lv l < 256 ^ l.length
  | [] => by decide
  | x :: r => by
    have h1 := lv_lt r
    have h2 : x.toNat < 256 := x.toNat_lt
    rw [lv, zX, z8]
    generalize 256 ^ r.length = q at *
    omega
theorem lv_take_succ : ∀ (l : List UInt8) (i : Nat), i < l.length → lv (zn (i + 1) l) = lv (zn i l) + (za l i 0).toNat * 256 ^ i
  | x :: r, 0, _ => by simp [lv]
  | x :: r, i + 1, h => by
    have e := lv_take_succ r i (by simpa using h)
    rw [XT, XT, lv, lv, e, QC, z8, Qs, ZK]
    congr 2
    ac_rfl
def lb : Nat → Nat → List UInt8
  | 0, _ => []
  | k + 1, n => zK n :: lb k (n / 256)
theorem lb_len : ∀ (k n : Nat), (lb k n).length = k
  | 0, _ => rfl
  | k + 1, n => by rw [lb, zX, lb_len k]
theorem ofNat8_val (n : Nat) : (zK n).toNat = n % 256 := by
  show (BitVec.ofNat 8 n).toNat = n % 256
  rw [BitVec.toNat_ofNat]
theorem lb_val : ∀ (k n : Nat), lv (lb k n) = n % 256 ^ k
  | 0, n => by rw [ZX, JN]; rfl
  | k + 1, n => by rw [lb, lv, lb_val k, ofNat8_val, z8, zZ (256 ^ k), Nat.mod_mul]
theorem lb_snoc : ∀ (k n : Nat), lb (k + 1) n = lb k n ++ [zK (n / 256 ^ k)]
  | 0, n => by simp [lb]
  | k + 1, n => by rw [lb, lb_snoc k (n / 256), lb, List.cons_append, Zv, z8, zZ 256]
theorem dv_dig : ∀ (l : List UInt64) (j : Nat), (za l j 0).toNat = dv 18446744073709551616 l / 18446744073709551616 ^ j % 18446744073709551616
  | [], j => by simp [dv]
  | x :: r, 0 => by have := lt64 x; rw [Jc, Y6, ZX, Yr]; omega
  | x :: r, j + 1 => by
    have := lt64 x
    rw [QC, dv_dig r j, Y6, z8, zZ (_ ^ j), ← Zv]
    congr 2
    omega
theorem p64 : 18446744073709551616 = 256 ^ 8 := by decide
theorem or_at {a : List UInt64} (ha : a.length = 4) {i : Nat} (hi : i < 32) (h : nv a < 256 ^ i) (x : UInt8) : nv (zp a (i / 8) (za a (i / 8) 0 ||| (Zc x <<< zc (8 * (i % 8))))) = nv a + x.toNat * 256 ^ i := by
  have hx : x.toNat < 256 := x.toNat_lt
  have hd := dv_dig a (i / 8)
  have hp : 256 ^ i = 256 ^ (i % 8) * 18446744073709551616 ^ (i / 8) := by rw [p64, ← Qx, ← Qc]; congr 1; omega
  have hq : (za a (i / 8) 0).toNat < 256 ^ (i % 8) := by
    rw [hd]
    refine QK (Nat.mod_le _ _) ((Nat.div_lt_iff_lt_mul (XM (by decide))).2 ?_)
    rw [← hp]; exact h
  have hr : 256 ^ (i % 8) = 2 ^ (8 * (i % 8)) := by rw [show (256 : Nat) = 2 ^ 8 from rfl, ← Qx]
  have h64 : x.toNat * 2 ^ (8 * (i % 8)) < 18446744073709551616 := by
    have e1 : 2 ^ (8 * (i % 8)) ≤ 2 ^ 56 := QM (by decide) (by omega)
    have e2 : x.toNat * 2 ^ (8 * (i % 8)) ≤ 255 * 2 ^ 56 := QO (by omega) e1
    omega
  have e : (za a (i / 8) 0 ||| (Zc x <<< zc (8 * (i % 8)))).toNat = (za a (i / 8) 0).toNat + x.toNat * 256 ^ (i % 8) := by
    have hs : (zc (8 * (i % 8))).toNat % 64 = 8 * (i % 8) := by rw [ofNat_val]; omega
    rw [Ya, UInt64.toNat_shiftLeft, hs, JL, Zy, zG h64, Nat.or_comm, ← Zy, ← Z3 (by rw [← hr]; exact hq), Zy, hr]
    omega
  have hs := JU 18446744073709551616 (za a (i / 8) 0 ||| (Zc x <<< zc (8 * (i % 8)))) a (i / 8) (by omega)
  rw [e, Zo, Ze, ← hp] at hs
  show dv _ _ = dv _ _ + _
  omega
theorem take_set_succ {α : Type} {l : List α} {i : Nat} {x : α} (h : i < l.length) : zn (i + 1) (zp l i x) = zn i l ++ [x] := by
  rw [List.take_add_one, List.take_set_of_le (Nat.le_refl i), List.getElem?_set_self h]
  rfl
theorem byte_at {a : List UInt64} (ha : a.length = 4) {i : Nat} (hi : i < 32) : zj (za a (i / 8) 0 >>> zc (8 * (i % 8))) = zK (nv a / 256 ^ i) := by
  apply UInt8.toNat_inj.1
  have hs : (zc (8 * (i % 8))).toNat % 64 = 8 * (i % 8) := by rw [ofNat_val]; omega
  have hp : 256 ^ i = 18446744073709551616 ^ (i / 8) * 256 ^ (i % 8) := by rw [p64, ← Qx, ← Qc]; congr 1; omega
  rw [UInt64.toNat_toUInt8, UInt64.toNat_shiftRight, hs, ofNat8_val, dv_dig, Nat.shiftRight_eq_div_pow, hp, ← Zv]
  show _ = dv _ _ / _ / _ % _
  generalize dv 18446744073709551616 a / 18446744073709551616 ^ (i / 8) = d
  have hr : 2 ^ (8 * (i % 8)) = 256 ^ (i % 8) := by rw [show (256 : Nat) = 2 ^ 8 from rfl, ← Qx]
  have hB : 18446744073709551616 = 256 ^ (i % 8) * 256 ^ (8 - i % 8) := by rw [p64, ← Qc]; congr 1; omega
  rw [hr]
  conv => lhs; rw [hB]
  rw [Nat.mod_mul_right_div_self, Nat.mod_mod_of_dvd]
  exact ⟨256 ^ (8 - i % 8 - 1), by rw [← Nat.pow_succ']; congr 1; omega⟩
theorem fromle_go (w : World) (b : List UInt8) (hb : zb b = 32) : Calls Tryz.prog 30 #[.agg (zg (bys b))] w fun e w' => e = .returned (.agg (zg (zh (nd (lv b))))) ∧ Ev w [] w' [] := by
 refine d_0 [(0, .agg (zg (bys b)))] 24 Go.Proofs.Tryz.func30 Go.Proofs.Tryz.ntmps30 (Heap.nil _) fun EK EL EM => wp_seq <| zk <| f_o <| m_m 22 (bys b) EL EM fun _ _ Ec EN EO => f_o <| m_z 33 (zh (zd 4 0)) EN EO fun _ _ Eg EP EC => f_e <| ze <| wp_seq <| zk <| f_o <| m_z 33 (zh (zd 4 0)) EP EC fun _ _ Ea ED EE => ?_
 refine f_e <| ze <| wp_seq <| d_s [1,2,3,5] [] ED fun _ EF => wp_block <| ZR (fun EG ac wo => ∃ (i : Nat) (x : List UInt64), EG = (33 - i : Nat) ∧ Env ac 24 [(1, pt Ec), (2, pt Eg), (3, pt Ea), (5, ni i)] ∧ Ev w [] wo [.box Ea (zh x) 33, .box Ec (bys b) 22, .box Eg (zh (zd 4 0)) 33] ∧ (i ≤ 32) ∧ (zb x = 4) ∧ (nv x = lv (zn i b))) ⟨_, 0, zd 4 0, rfl, EF.sb, EE.pk [2, 0, 1], by omega, zi, rfl⟩ ?_
 rintro EQ _ _ ⟨i, x, rfl, EH, Ed, hi, hx, hxv⟩
 refine d_s [1,2,3,5,6] [] EH fun _ Ef => ?_
 refine wp_seq <| c_d (((i : Nat) : Int) < (32 : Int)) Ef (fun EI => ?_) (fun EI => ?_)
 ·
  refine wp_skip <| ze <| wp_seq <| wp_block <| d_s [1,2,3,4,5] [] Ef fun _ EJ => ?_
  refine r_c (fun ac wo => Env ac 24 [(1, pt Ec), (2, pt Eg), (3, pt Ea), (5, ni i)] ∧ Ev w [] wo [.box Ea (zh (zp x (i / 8) ((za x (i / 8) 0) ||| ((Zc (za b i 0)) <<< zc (8 * (i % 8)))))) 33, .box Ec (bys b) 22, .box Eg (zh (zd 4 0)) 33]) ?_ ?_
  ·
   refine h_s (fun wv => Ev w [] wv [.box Ea (zh x) 33, .box Ec (bys b) 22]) [14] 15 ?_
   have Eb := Ed.trans (zO Ed.heap)
   refine q_s [0,1] [(1, g_i .i64 (show IntKind.wrap .i64 (YU ((i : Nat) : Int) (8 : Int)) = ((i / 8 : Nat) : Int) from Go.Dbr.i64_quo_nat (a := ((i : Nat) : Int)) (n := i) (m := 8) rfl (by omega)))] 13 EJ (Eb.pk [0, 1]) fun _ Eh => q_f 2 (s := Instr.indexAt 33 (pt Ea) (ni (i / 8))) (v := .pointer (some ⟨Ea, i / 8, none⟩)) Eh (fun _ => Go.Dbr.run_indexarr (e := 31) (sz := 1) (m := 4) (j := i / 8) (o := i / 8) (by kernel_rfl) (by kernel_rfl) (by omega) (by omega) (by omega) _) (fun _ => Eb.pk [0, 1]) fun _ Ei => ?_
   have Ej : i / 8 < zb x := by rw [hx]; omega
   refine q_r 3 (s := Instr.loadAt 31 (.pointer (some ⟨Ea, i / 8, none⟩))) (v := zm (za x (i / 8) 0)) Ei (fun w hS => Zf (by kernel_rfl) (hS.heap.cell (k := 0) rfl (zx Ej))) (Eb.pk [0, 1]) fun _ Ek => q_s [4] [] 10 Ek (Eb.pk [0, 1]) fun _ El => q_f 5 (s := Instr.indexAt 22 (pt Ec) (ni i)) (v := .pointer (some ⟨Ec, i, none⟩)) El (fun _ => Go.Dbr.run_indexarr (e := 5) (sz := 1) (m := 32) (j := i) (o := i) (by kernel_rfl) (by kernel_rfl) (by omega) (by omega) (by omega) _) (fun _ => Eb.pk [0, 1]) fun _ Em => ?_
   have En : i < zb b := by rw [hb]; omega
   refine q_r 6 (s := Instr.loadAt 5 (.pointer (some ⟨Ec, i, none⟩))) (v := bv (za b i 0)) Em (fun w hS => Zf (by kernel_rfl) (hS.heap.cell (k := 1) rfl (Z9 En))) (Eb.pk [0, 1]) fun _ Eo => q_s [7,8,9,10] [(7, g_i .u64 (Go.Dbr.u8_to_u64 (x := za b i 0) rfl)), (9, g_i .i64 (show Jd ((i : Nat) : Int) (8 : Int) = ((i % 8 : Nat) : Int) from Go.Dbr.i64_rem_nat (a := ((i : Nat) : Int)) (n := i) (m := 8) rfl (by omega))), (10, g_n (w_m 8 (i % 8)))] 4 Eo (Eb.pk [0, 1]) fun _ Ep => q_f 11 Ep (fun _ => Go.Dbr.run_shl_u64 (Zc (za b i 0)) .i64 (8 * (i % 8)) (by omega) _) (fun _ => Eb.pk [0, 1]) fun _ Eq => q_s [12] [(12, g_i .u64 (Go.Dbr.u64_or (x := za x (i / 8) 0) (y := (Zc (za b i 0)) <<< zc (8 * (i % 8))) rfl rfl))] 2 Eq (Eb.pk [0, 1]) fun _ Er => ?_
   refine q_f 13 (s := Instr.indexAt 33 (pt Ea) (ni (i / 8))) (v := .pointer (some ⟨Ea, i / 8, none⟩)) Er (fun _ => Go.Dbr.run_indexarr (e := 31) (sz := 1) (m := 4) (j := i / 8) (o := i / 8) (by kernel_rfl) (by kernel_rfl) (by omega) (by omega) (by omega) _) (fun _ => Eb.pk [0, 1]) fun _ Es => q_t 14 ?_
   have Et : i / 8 < zb x := by rw [hx]; omega
   refine m_t 0 (i / 8) (zm ((za x (i / 8) 0) ||| ((Zc (za b i 0)) <<< zc (8 * (i % 8))))) _ Es Eb rfl (zx Et) (ZU _ _ _) rfl fun _ _ Eu Ew => ⟨q_y, ?_⟩
   exact h_e ⟨Eu.sb, Ew.pk [0, 1, 2]⟩
  rintro _ _ ⟨Ex, Ey⟩
  refine zv <| ze <| d_r [1,2,3,5] [(0, g_n (w_a i 1))] Ex fun _ Ez => ze <| ⟨_, ⟨i + 1, (zp x (i / 8) ((za x (i / 8) 0) ||| ((Zc (za b i 0)) <<< zc (8 * (i % 8))))), rfl, Ez.sb, Ey.pk [0, 1, 2], by omega, (List.length_set.trans hx), (or_at hx (by omega) (by rw [hxv]; exact QU (lv_lt _) (QM (by decide) (by rw [zs]; omega))) _).trans (by rw [hxv, ← lv_take_succ _ _ (by omega)])⟩, ?_⟩
  omega
 refine wp_exit <| zy <| zy <| zL <| ze <| wp_seq <| zk <| f_o <| Zp 0 4 (zh x) Ef Ed rfl (zf hx) fun _ EA => f_o <| zQ 2 4 (zh x) [.box Ea (zh x) 33, .box Ec (bys b) 22, .box Eg (zh x) 33] EA Ed rfl (zf hx) (zf (zi)) (zt _) rfl fun _ _ EB Ee => f_e <| ze <| wp_ret <| z9 (v := .agg (zg (zh x))) (t := 2) (T := 33) (ad := ⟨Eg, 0, none⟩) EB (by kernel_rfl) (by kernel_rfl) (zB (t := 33) (k := 2) (off := 0) (m := 4) (xs := zh x) Ee rfl (zq (zf hx)) (zf hx) (by kernel_rfl) (by kernel_rfl)) ?_
 have hi32 : i = 32 := by omega
 have hxe : x = nd (lv b) := nd_of hx (by rw [hxv, hi32, Zt (by omega)])
 subst hxe
 exact ⟨rfl, Ee.pk []⟩
theorem tole_go (w : World) (a : List UInt64) (ha : zb a = 4) : Calls Tryz.prog 22 #[.agg (zg (zh a))] w fun e w' => e = .returned (.agg (zg (bys (lb 32 (nv a))))) ∧ Ev w [] w' [] := by
 refine d_0 [(0, .agg (zg (zh a)))] 21 Go.Proofs.Tryz.func22 Go.Proofs.Tryz.ntmps22 (Heap.nil _) fun ED EE EF => wp_seq <| zk <| f_o <| m_m 33 (zh a) EE EF fun _ _ Ed EG EH => f_o <| m_z 22 (bys (zd 32 0)) EG EH fun _ _ Ef EI Eg => f_e <| ze <| wp_seq <| zk <| f_o <| m_z 22 (bys (zd 32 0)) EI Eg fun _ _ Ea Eh Ei => ?_
 refine f_e <| ze <| wp_seq <| d_s [1,2,3,5] [] Eh fun _ Ej => wp_block <| ZR (fun Ek ac wo => ∃ (i : Nat) (x : List UInt8), Ek = (33 - i : Nat) ∧ Env ac 21 [(1, pt Ed), (2, pt Ef), (3, pt Ea), (5, ni i)] ∧ Ev w [] wo [.box Ea (bys x) 22, .box Ed (zh a) 33, .box Ef (bys (zd 32 0)) 22] ∧ (i ≤ 32) ∧ (zb x = 32) ∧ (zn i x = lb i (nv a))) ⟨_, 0, zd 32 0, rfl, Ej.sb, Ei.pk [2, 0, 1], by omega, zi, rfl⟩ ?_
 rintro EJ _ _ ⟨i, x, rfl, El, Eb, hi, hx, hxv⟩
 refine d_s [1,2,3,5,6] [] El fun _ Ec => ?_
 refine wp_seq <| c_d (((i : Nat) : Int) < (32 : Int)) Ec (fun Em => ?_) (fun Em => ?_)
 ·
  refine wp_skip <| ze <| wp_seq <| wp_block <| d_s [1,2,3,4,5] [] Ec fun _ En => zk <| d_k [1,2,3,4,5,8,10] [(2, g_i .i64 (show IntKind.wrap .i64 (YU ((i : Nat) : Int) (8 : Int)) = ((i / 8 : Nat) : Int) from Go.Dbr.i64_quo_nat (a := ((i : Nat) : Int)) (n := i) (m := 8) rfl (by omega)))] 3 En fun _ Eo => f_o <| q_v (x := Instr.indexAt 33 (pt Ed) (ni (i / 8))) (v := .pointer (some ⟨Ed, i / 8, none⟩)) Eo (Go.Dbr.run_indexarr (e := 31) (sz := 1) (m := 4) (j := i / 8) (o := i / 8) (by kernel_rfl) (by kernel_rfl) (by omega) (by omega) (by omega) _) fun _ Ep => f_o ?_
  have Eq : i / 8 < zb a := by rw [ha]; omega
  refine m_v 1 (i / 8) (zm (za a (i / 8) 0)) Ep Eb rfl (zx Eq) fun _ Er => d_k [1,2,3,5,8,12,15] [(6, g_i .i64 (show Jd ((i : Nat) : Int) (8 : Int) = ((i % 8 : Nat) : Int) from Go.Dbr.i64_rem_nat (a := ((i : Nat) : Int)) (n := i) (m := 8) rfl (by omega))), (7, g_n (w_m 8 (i % 8)))] 8 Er fun _ Es => f_o <| q_v Es (Go.Dbr.run_shr_u64 (za a (i / 8) 0) .i64 (8 * (i % 8)) (by omega) _) fun _ Et => d_k [1,2,3,5,8,17] [(9, g_i .u8 (Go.Dbr.u64_to_u8 (x := (za a (i / 8) 0) >>> zc (8 * (i % 8))) rfl))] 10 Et fun _ Eu => ?_
  refine f_o <| q_v (x := Instr.indexAt 22 (pt Ea) (ni i)) (v := .pointer (some ⟨Ea, i, none⟩)) Eu (Go.Dbr.run_indexarr (e := 5) (sz := 1) (m := 32) (j := i) (o := i) (by kernel_rfl) (by kernel_rfl) (by omega) (by omega) (by omega) _) fun _ Ew => f_o ?_
  have Ex : i < zb x := by rw [hx]; omega
  refine m_t 0 i (bv (zj ((za a (i / 8) 0) >>> zc (8 * (i % 8))))) _ Ew Eb rfl (Z9 Ex) (bys_set _ _ _) rfl fun _ _ Ey Ez => f_e <| zv <| ze <| d_r [1,2,3,5] [(0, g_n (w_a i 1))] Ey fun _ EA => ze <| ⟨_, ⟨i + 1, (zp x i (zj ((za a (i / 8) 0) >>> zc (8 * (i % 8))))), rfl, EA.sb, Ez.pk [0, 1, 2], by omega, (List.length_set.trans hx), by rw [take_set_succ (by omega), hxv, byte_at ha (by omega), lb_snoc]⟩, ?_⟩
  omega
 refine wp_exit <| zy <| zy <| zL <| ze <| wp_seq <| zk <| f_o <| Zp 0 32 (bys x) Ec Eb rfl (zH hx) fun _ EB => f_o <| zQ 2 32 (bys x) [.box Ea (bys x) 22, .box Ed (zh a) 33, .box Ef (bys x) 22] EB Eb rfl (zH hx) (zH (zi)) (bys_one _) rfl fun _ _ EC Ee => f_e <| ze <| wp_ret <| z9 (v := .agg (zg (bys x))) (t := 2) (T := 22) (ad := ⟨Ef, 0, none⟩) EC (by kernel_rfl) (by kernel_rfl) (zB (t := 22) (k := 2) (off := 0) (m := 32) (xs := bys x) Ee rfl (zq (zH hx)) (zH hx) (by kernel_rfl) (by kernel_rfl)) ?_
 have hi32 : i = 32 := by omega
 have hxe : x = lb 32 (nv a) := by rw [hi32, Zt (by omega)] at hxv; exact hxv
 subst hxe
 exact ⟨rfl, Ee.pk []⟩
theorem rfromle_go (w : World) (b : List UInt8) (hb : zb b = 32) : Calls Tryz.prog 35 #[.agg (zg (bys b))] w fun e w' => e = .returned (.agg (zg (zh (nd (lv b))))) ∧ Ev w [] w' [] := by
 refine d_0 [(0, .agg (zg (bys b)))] 26 Go.Proofs.Tryz.func35 Go.Proofs.Tryz.ntmps35 (Heap.nil _) fun EJ EK EL => wp_seq <| zk <| f_o <| m_m 22 (bys b) EK EL fun _ _ Ec EM EN => f_o <| m_z 33 (zh (zd 4 0)) EM EN fun _ _ Eg EO EC => f_e <| ze <| wp_seq <| zk <| f_o <| m_z 33 (zh (zd 4 0)) EO EC fun _ _ Ea ED EE => ?_
 refine f_e <| ze <| wp_seq <| d_s [1,2,3,4] [] ED fun _ EF => wp_block <| ZR (fun EG ac wo => ∃ (i : Nat) (x : List UInt64), EG = (33 - i : Nat) ∧ Env ac 26 [(1, pt Ec), (2, pt Eg), (3, pt Ea), (4, ni i)] ∧ Ev w [] wo [.box Ea (zh x) 33, .box Ec (bys b) 22, .box Eg (zh (zd 4 0)) 33] ∧ (i ≤ 32) ∧ (zb x = 4) ∧ (nv x = lv (zn i b))) ⟨_, 0, zd 4 0, rfl, EF.sb, EE.pk [2, 0, 1], by omega, zi, rfl⟩ ?_
 rintro EP _ _ ⟨i, x, rfl, EH, Ed, hi, hx, hxv⟩
 refine wp_seq <| d_s [1,2,3,4,6] [] EH fun _ Ef => ?_
 refine c_d (((i : Nat) : Int) < (32 : Int)) Ef (fun EI => ?_) (fun EI => ?_)
 ·
  refine wp_skip <| ze <| wp_seq <| wp_block <| r_c (fun ac wo => Env ac 26 [(1, pt Ec), (2, pt Eg), (3, pt Ea), (4, ni i)] ∧ Ev w [] wo [.box Ea (zh (zp x (i / 8) ((za x (i / 8) 0) ||| ((Zc (za b i 0)) <<< zc (8 * (i % 8)))))) 33, .box Ec (bys b) 22, .box Eg (zh (zd 4 0)) 33]) ?_ ?_
  ·
   refine h_s (fun wv => Ev w [] wv [.box Ea (zh x) 33, .box Ec (bys b) 22]) [16] 17 ?_
   have Eb := Ed.trans (zO Ed.heap)
   refine q_s [0,1,2,3] [(1, g_i .i64 (show IntKind.wrap .i64 (YU ((i : Nat) : Int) (8 : Int)) = ((i / 8 : Nat) : Int) from Go.Dbr.i64_quo_nat (a := ((i : Nat) : Int)) (n := i) (m := 8) rfl (by omega))), (3, g_i .i64 (show IntKind.wrap .i64 (YU ((i : Nat) : Int) (8 : Int)) = ((i / 8 : Nat) : Int) from Go.Dbr.i64_quo_nat (a := ((i : Nat) : Int)) (n := i) (m := 8) rfl (by omega)))] 13 Ef (Eb.pk [0, 1]) fun _ Eh => q_f 4 (s := Instr.indexAt 33 (pt Ea) (ni (i / 8))) (v := .pointer (some ⟨Ea, i / 8, none⟩)) Eh (fun _ => Go.Dbr.run_indexarr (e := 31) (sz := 1) (m := 4) (j := i / 8) (o := i / 8) (by kernel_rfl) (by kernel_rfl) (by omega) (by omega) (by omega) _) (fun _ => Eb.pk [0, 1]) fun _ Ei => ?_
   have Ej : i / 8 < zb x := by rw [hx]; omega
   refine q_r 5 (s := Instr.loadAt 31 (.pointer (some ⟨Ea, i / 8, none⟩))) (v := zm (za x (i / 8) 0)) Ei (fun w hS => Zf (by kernel_rfl) (hS.heap.cell (k := 0) rfl (zx Ej))) (Eb.pk [0, 1]) fun _ Ek => q_s [6] [] 10 Ek (Eb.pk [0, 1]) fun _ El => q_f 7 (s := Instr.indexAt 22 (pt Ec) (ni i)) (v := .pointer (some ⟨Ec, i, none⟩)) El (fun _ => Go.Dbr.run_indexarr (e := 5) (sz := 1) (m := 32) (j := i) (o := i) (by kernel_rfl) (by kernel_rfl) (by omega) (by omega) (by omega) _) (fun _ => Eb.pk [0, 1]) fun _ Em => ?_
   have En : i < zb b := by rw [hb]; omega
   refine q_r 8 (s := Instr.loadAt 5 (.pointer (some ⟨Ec, i, none⟩))) (v := bv (za b i 0)) Em (fun w hS => Zf (by kernel_rfl) (hS.heap.cell (k := 1) rfl (Z9 En))) (Eb.pk [0, 1]) fun _ Eo => q_s [9,10,11,12] [(9, g_i .u64 (Go.Dbr.u8_to_u64 (x := za b i 0) rfl)), (11, g_i .i64 (show Jd ((i : Nat) : Int) (8 : Int) = ((i % 8 : Nat) : Int) from Go.Dbr.i64_rem_nat (a := ((i : Nat) : Int)) (n := i) (m := 8) rfl (by omega))), (12, g_n (w_m 8 (i % 8)))] 4 Eo (Eb.pk [0, 1]) fun _ Ep => q_f 13 Ep (fun _ => Go.Dbr.run_shl_u64 (Zc (za b i 0)) .i64 (8 * (i % 8)) (by omega) _) (fun _ => Eb.pk [0, 1]) fun _ Eq => q_s [14] [(14, g_i .u64 (Go.Dbr.u64_or (x := za x (i / 8) 0) (y := (Zc (za b i 0)) <<< zc (8 * (i % 8))) rfl rfl))] 2 Eq (Eb.pk [0, 1]) fun _ Er => ?_
   refine q_f 15 (s := Instr.indexAt 33 (pt Ea) (ni (i / 8))) (v := .pointer (some ⟨Ea, i / 8, none⟩)) Er (fun _ => Go.Dbr.run_indexarr (e := 31) (sz := 1) (m := 4) (j := i / 8) (o := i / 8) (by kernel_rfl) (by kernel_rfl) (by omega) (by omega) (by omega) _) (fun _ => Eb.pk [0, 1]) fun _ Es => q_t 16 ?_
   have Et : i / 8 < zb x := by rw [hx]; omega
   refine m_t 0 (i / 8) (zm ((za x (i / 8) 0) ||| ((Zc (za b i 0)) <<< zc (8 * (i % 8))))) _ Es Eb rfl (zx Et) (ZU _ _ _) rfl fun _ _ Eu Ew => ⟨q_y, ?_⟩
   exact h_e ⟨Eu.sb, Ew.pk [0, 1, 2]⟩
  rintro _ _ ⟨Ex, Ey⟩
  refine zv <| ze <| d_r [1,2,3,4] [(1, g_n (w_a i 1))] Ex fun _ Ez => ze <| ⟨_, ⟨i + 1, (zp x (i / 8) ((za x (i / 8) 0) ||| ((Zc (za b i 0)) <<< zc (8 * (i % 8))))), rfl, Ez.sb, Ey.pk [0, 1, 2], by omega, (List.length_set.trans hx), (or_at hx (by omega) (by rw [hxv]; exact QU (lv_lt _) (QM (by decide) (by rw [zs]; omega))) _).trans (by rw [hxv, ← lv_take_succ _ _ (by omega)])⟩, ?_⟩
  omega
 refine wp_exit <| zy <| zy <| zL <| ze <| wp_seq <| zk <| f_o <| Zp 0 4 (zh x) Ef Ed rfl (zf hx) fun _ EA => f_o <| zQ 2 4 (zh x) [.box Ea (zh x) 33, .box Ec (bys b) 22, .box Eg (zh x) 33] EA Ed rfl (zf hx) (zf (zi)) (zt _) rfl fun _ _ EB Ee => f_e <| ze <| wp_ret <| z9 (v := .agg (zg (zh x))) (t := 2) (T := 33) (ad := ⟨Eg, 0, none⟩) EB (by kernel_rfl) (by kernel_rfl) (zB (t := 33) (k := 2) (off := 0) (m := 4) (xs := zh x) Ee rfl (zq (zf hx)) (zf hx) (by kernel_rfl) (by kernel_rfl)) ?_
 have hi32 : i = 32 := by omega
 have hxe : x = nd (lv b) := nd_of hx (by rw [hxv, hi32, Zt (by omega)])
 subst hxe
 exact ⟨rfl, Ee.pk []⟩
theorem rtole_go (w : World) (a : List UInt64) (ha : zb a = 4) : Calls Tryz.prog 26 #[.agg (zg (zh a))] w fun e w' => e = .returned (.agg (zg (bys (lb 32 (nv a))))) ∧ Ev w [] w' [] := by
 refine d_0 [(0, .agg (zg (zh a)))] 21 Go.Proofs.Tryz.func26 Go.Proofs.Tryz.ntmps26 (Heap.nil _) fun EC ED EE => wp_seq <| zk <| f_o <| m_m 33 (zh a) ED EE fun _ _ Ed EF EG => f_o <| m_z 22 (bys (zd 32 0)) EF EG fun _ _ Ef EH Eg => f_e <| ze <| wp_seq <| zk <| f_o <| m_z 22 (bys (zd 32 0)) EH Eg fun _ _ Ea Eh Ei => ?_
 refine f_e <| ze <| wp_seq <| d_s [1,2,3,4] [] Eh fun _ Ej => wp_block <| ZR (fun Ek ac wo => ∃ (i : Nat) (x : List UInt8), Ek = (33 - i : Nat) ∧ Env ac 21 [(1, pt Ed), (2, pt Ef), (3, pt Ea), (4, ni i)] ∧ Ev w [] wo [.box Ea (bys x) 22, .box Ed (zh a) 33, .box Ef (bys (zd 32 0)) 22] ∧ (i ≤ 32) ∧ (zb x = 32) ∧ (zn i x = lb i (nv a))) ⟨_, 0, zd 32 0, rfl, Ej.sb, Ei.pk [2, 0, 1], by omega, zi, rfl⟩ ?_
 rintro EI _ _ ⟨i, x, rfl, El, Eb, hi, hx, hxv⟩
 refine wp_seq <| d_s [1,2,3,4,6] [] El fun _ Ec => ?_
 refine c_d (((i : Nat) : Int) < (32 : Int)) Ec (fun Em => ?_) (fun Em => ?_)
 ·
  refine wp_skip <| ze <| wp_seq <| wp_block <| zk <| d_k [1,2,3,4,9,11] [(2, g_i .i64 (show IntKind.wrap .i64 (YU ((i : Nat) : Int) (8 : Int)) = ((i / 8 : Nat) : Int) from Go.Dbr.i64_quo_nat (a := ((i : Nat) : Int)) (n := i) (m := 8) rfl (by omega)))] 3 Ec fun _ En => f_o <| q_v (x := Instr.indexAt 33 (pt Ed) (ni (i / 8))) (v := .pointer (some ⟨Ed, i / 8, none⟩)) En (Go.Dbr.run_indexarr (e := 31) (sz := 1) (m := 4) (j := i / 8) (o := i / 8) (by kernel_rfl) (by kernel_rfl) (by omega) (by omega) (by omega) _) fun _ Eo => f_o ?_
  have Ep : i / 8 < zb a := by rw [ha]; omega
  refine m_v 1 (i / 8) (zm (za a (i / 8) 0)) Eo Eb rfl (zx Ep) fun _ Eq => d_k [1,2,3,4,9,13,16] [(6, g_i .i64 (show Jd ((i : Nat) : Int) (8 : Int) = ((i % 8 : Nat) : Int) from Go.Dbr.i64_rem_nat (a := ((i : Nat) : Int)) (n := i) (m := 8) rfl (by omega))), (7, g_n (w_m 8 (i % 8)))] 8 Eq fun _ Er => f_o <| q_v Er (Go.Dbr.run_shr_u64 (za a (i / 8) 0) .i64 (8 * (i % 8)) (by omega) _) fun _ Es => d_k [1,2,3,4,9,18] [(9, g_i .u8 (Go.Dbr.u64_to_u8 (x := (za a (i / 8) 0) >>> zc (8 * (i % 8))) rfl))] 10 Es fun _ Et => ?_
  refine f_o <| q_v (x := Instr.indexAt 22 (pt Ea) (ni i)) (v := .pointer (some ⟨Ea, i, none⟩)) Et (Go.Dbr.run_indexarr (e := 5) (sz := 1) (m := 32) (j := i) (o := i) (by kernel_rfl) (by kernel_rfl) (by omega) (by omega) (by omega) _) fun _ Eu => f_o ?_
  have Ew : i < zb x := by rw [hx]; omega
  refine m_t 0 i (bv (zj ((za a (i / 8) 0) >>> zc (8 * (i % 8))))) _ Eu Eb rfl (Z9 Ew) (bys_set _ _ _) rfl fun _ _ Ex Ey => f_e <| zv <| ze <| d_r [1,2,3,4] [(1, g_n (w_a i 1))] Ex fun _ Ez => ze <| ⟨_, ⟨i + 1, (zp x i (zj ((za a (i / 8) 0) >>> zc (8 * (i % 8))))), rfl, Ez.sb, Ey.pk [0, 1, 2], by omega, (List.length_set.trans hx), by rw [take_set_succ (by omega), hxv, byte_at ha (by omega), lb_snoc]⟩, ?_⟩
  omega
 refine wp_exit <| zy <| zy <| zL <| ze <| wp_seq <| zk <| f_o <| Zp 0 32 (bys x) Ec Eb rfl (zH hx) fun _ EA => f_o <| zQ 2 32 (bys x) [.box Ea (bys x) 22, .box Ed (zh a) 33, .box Ef (bys x) 22] EA Eb rfl (zH hx) (zH (zi)) (bys_one _) rfl fun _ _ EB Ee => f_e <| ze <| wp_ret <| z9 (v := .agg (zg (bys x))) (t := 2) (T := 22) (ad := ⟨Ef, 0, none⟩) EB (by kernel_rfl) (by kernel_rfl) (zB (t := 22) (k := 2) (off := 0) (m := 32) (xs := bys x) Ee rfl (zq (zH hx)) (zH hx) (by kernel_rfl) (by kernel_rfl)) ?_
 have hi32 : i = 32 := by omega
 have hxe : x = lb 32 (nv a) := by rw [hi32, Zt (by omega)] at hxv; exact hxv
 subst hxe
 exact ⟨rfl, Ee.pk []⟩
end Go.Proofs.YtlnogkmnklfjlaaGreatDoor

namespace Go.Proofs.YtlnogkmnklfjlaaGreatDoor
open Go.Dbr
set_option maxRecDepth 100000
set_option maxHeartbeats 2000000
set_option linter.unusedVariables false
set_option linter.unusedSimpArgs false
def LeftOk (f : Int) : Prop := ∀ (w : World) (n : List UInt64), zb n = 17 → DG n → dv 4294967296 n < 4294967296 ^ 16 → Calls Tryz.prog 64 #[.int .i64 f, .agg (zg (zh n))] w fun e w' => e = .returned (.agg (zg (zh (nd (dv 4294967296 n % mF f))))) ∧ Ev w [] w' []
theorem leftOk3 {f : Int} (h3 : f = 1 ∨ f = 2 ∨ f = 3) : LeftOk f := fun w n hn hd _ => left3_go w f h3 n hn hd
theorem left_at {f : Int} (hL : LeftOk f) (w : World) {n : List UInt64} (V : Nat) (hn : zb n = 17) (hd : DG n) (hv : dv 4294967296 n = V) (hb : V < 4294967296 ^ 16) : Calls Tryz.prog 64 #[.int .i64 f, .agg (zg (zh n))] w fun e w' => e = .returned (.agg (zg (zh (nd (V % mF f))))) ∧ Ev w [] w' [] := by
  have h := hL w n hn hd (by rw [hv]; exact hb)
  rwa [hv] at h
theorem dv_n32 {n : Nat} (h : n < 4294967296 ^ 16) : dv 4294967296 (n32 17 n) = n := by rw [n32_val, zG (QU h (by decide))]
theorem w256_32 : zU = 4294967296 ^ 8 := by decide
theorem prod_lt {x y : Nat} (hx : x < zU) (hy : y < zU) : x * y < 4294967296 ^ 16 := by
  have h : x * y ≤ (zU - 1) * (zU - 1) := QO (by omega) (by omega)
  refine QK h (by decide)
theorem carry8 {x y : Nat} (hx : x < zU) (hy : y < zU) : dv 4294967296 (zp (n32 17 (nv (nd (x + y)))) 8 (u1 (zU ≤ x + y))) = x + y := by
  have h := JU 4294967296 (u1 (zU ≤ x + y)) (n32 17 (nv (nd (x + y)))) 8 (by rw [ZM]; decide)
  have g := n32_get 17 (nv (nd (x + y))) 8 (by decide)
  have e : nv (nd (x + y)) / 4294967296 ^ 8 = 0 := Nat.div_eq_of_lt (by rw [← w256_32]; exact Qi (zl _ _))
  rw [e, QF] at g
  rw [g, Z4, Zx, dv_n32 (Zu (Qi (zl _ _)) (by decide)), u1_val, ← w256_32] at h
  have k := nd_val (x + y)
  clear g e
  generalize dv 4294967296 (zp (n32 17 (nv (nd (x + y)))) 8 (u1 (zU ≤ x + y))) = G at *
  generalize nv (nd (x + y)) = Z at *
  simp only [zU] at *
  split at h <;> omega
theorem sum_lt {x y : Nat} (hx : x < zU) (hy : y < zU) : x + y < 4294967296 ^ 16 := by
  simp only [zU] at *
  have e : (4294967296 : Nat) ^ 16 = 13407807929942597099574024998205846127479365820592393377723561443721764030073546976801874298166903427690031858186486050853753882811946569946433649006084096 := by decide
  omega
theorem u1_dig (p : Prop) [Decidable p] : (u1 p).toNat < 4294967296 := QK (u1_le p) (by decide)
theorem rsub_fin1 {x y M : Nat} (hx : x < M) (hy : y < M) (hM : M < zU) (h : nv (nd x) < nv (nd y)) : nd (nv (nd M) + zU - nv (nd (nv (nd y) + zU - nv (nd x)))) = nd ((x + M - y) % M) := by
  rw [Qw (by omega), Qw (by omega)] at h
  rw [Qw hM, Qw (n := y) (by omega), Qw (n := x) (by omega), nd_val, zG (a := x + M - y) (by omega), ← nd_mod, ← nd_mod (x + M - y)]
  congr 1
  simp only [zU] at *
  omega
theorem rsub_fin2 {x y M : Nat} (hx : x < M) (hy : y < M) (hM : M < zU) (h : ¬ nv (nd x) < nv (nd y)) : nd (nv (nd x) + zU - nv (nd y)) = nd ((x + M - y) % M) := by
  rw [Qw (by omega), Qw (by omega)] at *
  exact sub_fin2 hx hy hM h
theorem or_low {V : Nat} (hV : V < zU) (x : UInt8) : dv 4294967296 (zp (n32 17 (V * 256)) 0 (za (n32 17 (V * 256)) 0 0 ||| Zc x)) = V * 256 + x.toNat ∧ (za (n32 17 (V * 256)) 0 0 ||| Zc x).toNat < 4294967296 := by
  have hx : x.toNat < 256 := x.toNat_lt
  have g := n32_get 17 (V * 256) 0 (by decide)
  rw [ZX, Yr] at g
  have e : (za (n32 17 (V * 256)) 0 0 ||| Zc x).toNat = (za (n32 17 (V * 256)) 0 0).toNat + x.toNat := by
    rw [Ya, JL, g]
    have e2 : V * 256 % 4294967296 = (V % 16777216) <<< 8 := by rw [Zy]; omega
    rw [e2, ← Z3 (by omega)]
  have h := JU 4294967296 (za (n32 17 (V * 256)) 0 0 ||| Zc x) (n32 17 (V * 256)) 0 (by rw [ZM]; decide)
  have hl : dv 4294967296 (n32 17 (V * 256)) = V * 256 := dv_n32 (by
    have e3 : (4294967296 : Nat) ^ 16 = 13407807929942597099574024998205846127479365820592393377723561443721764030073546976801874298166903427690031858186486050853753882811946569946433649006084096 := by decide
    simp only [zU] at *
    omega)
  rw [e, hl, ZX] at h
  constructor
  · omega
  · rw [e, g]
    have : V * 256 % 4294967296 % 256 = 0 := by omega
    omega
theorem lv_drop {l : List UInt8} {q : Nat} (h : q < l.length) : lv (zo q l) = (za l q 0).toNat + 256 * lv (zo (q + 1) l) := by
  rw [List.drop_eq_getElem_cons h, lv, zI, zN h]
  rfl
theorem wide_lt (V : Nat) (x : UInt8) : nv (nd V) * 256 + x.toNat < 4294967296 ^ 16 := by
  have h := Qi (zl 4 V)
  have g : x.toNat < 256 := x.toNat_lt
  have e3 : (4294967296 : Nat) ^ 16 = 13407807929942597099574024998205846127479365820592393377723561443721764030073546976801874298166903427690031858186486050853753882811946569946433649006084096 := by decide
  show nv (nd V) * 256 + x.toNat < 4294967296 ^ 16
  generalize nv (nd V) = Z at *
  simp only [zU] at *
  omega
theorem wide_step {f : Int} (hf : f = 1 ∨ f = 2 ∨ f = 3 ∨ f = 4) {l : List UInt8} {q : Nat} (h1 : 1 ≤ q) (h : q ≤ l.length) : nd ((nv (nd (lv (zo q l) % mF f)) * 256 + (za l (q - 1) 0).toNat) % mF f) = nd (lv (zo (q - 1) l) % mF f) := by
  rw [lv_drop (l := l) (q := q - 1) (by omega), show q - 1 + 1 = q by omega, Qw (mod_lt_w hf)]
  congr 1
  rw [Nat.add_comm, YB, zZ, Qg, Nat.mod_mod, ← Qg, ← YB]
theorem radd_go (w : World) (f : Int) (hf : f = 1 ∨ f = 2 ∨ f = 3 ∨ f = 4) (hL : LeftOk f) (a b : List UInt64) (ha : zb a = 4) (hb : zb b = 4) : Calls Tryz.prog 27 #[.int .i64 f, .agg (zg (zh a)), .agg (zg (zh b))] w fun e w' => e = .returned (.agg (zg (zh (nd (addM f (nv a) (nv b)))))) ∧ Ev w [] w' [] := by
 refine d_0 [(0, .int .i64 f), (1, .agg (zg (zh a))), (2, .agg (zg (zh b)))] 29 Go.Proofs.Tryz.func27 Go.Proofs.Tryz.ntmps27 (Heap.nil _) fun EP EQ ER => wp_seq <| zk <| f_o <| m_m 33 (zh a) EQ ER fun _ _ EN ES ET => f_o <| m_m 33 (zh b) ES ET fun _ _ EO EU Ei => f_o <| m_z 33 (zh (zd 4 0)) EU Ei fun _ _ Ea Ej Ek => ?_
 refine f_e <| ze <| wp_seq <| zk <| d_k [0,4,5,6,11] [] 1 Ej fun _ El => f_o <| c_p El Ek (Xa _ f hf) fun _ _ Em Eb => d_e [0,4,5,6,7] [] Em fun _ En => ze <| wp_seq <| d_s [0,4,5,6,14] [] En fun _ Ec => ?_
 refine c_f Ec ?_
 refine wp_skip <| ze <| wp_seq <| zk <| f_o <| Zp 0 4 (zh a) Ec Eb rfl (zf ha) fun _ Eo => f_o <| Zp 1 4 (zh b) Eo Eb rfl (zf hb) fun _ Ep => f_o <| c_p Ep Eb (rplus_go _ a b ha hb) fun _ _ Eq Er => d_k [0,6,20,21] [] 6 Eq fun _ Es => ?_
 refine f_o <| m_z 33 (zh (zd 4 0)) Es Er fun _ _ Ed Et Eu => f_o <| zQ 3 4 (zh (nd (nv a + nv b))) _ Et Eu rfl (zf (zl _ _)) (zf (zi)) (zt _) rfl fun _ _ Ew Ee => d_e [0,6,8,9] [] Ew fun _ Ex => ze <| wp_seq <| zk <| f_o <| Zp 3 4 (zh (nd (nv a + nv b))) Ex Ee rfl (zf (zl _ _)) fun _ Ey => ?_
 refine f_o <| c_p Ey Ee (digits_go _ (nd (nv a + nv b)) (zl _ _)) fun _ _ Ez EA => f_o <| m_z 87 (zh (zd 17 0)) Ez EA fun _ _ Ef EB EC => f_o <| zQ 4 17 (zh (n32 17 (nv (nd (nv a + nv b))))) [.box EN (zh a) 33, .box EO (zh b) 33, .box Ea (zh (zd 4 0)) 33, .box Ed (zh (nd (nv a + nv b))) 33, .box Ef (zh (n32 17 (nv (nd (nv a + nv b))))) 87] EB EC rfl (zf (ZM _ _)) (zf (zi)) (zt _) rfl fun _ _ ED EE => f_e <| ze <| wp_seq <| zk <| d_k [0,6,8,10,24,25] [] 2 ED fun _ EF => ?_
 refine f_o ?_
 have EG : 8 < zb (n32 17 (nv (nd (nv a + nv b)))) := by rw [(ZM _ _)]; omega
 refine m_t 4 8 (zm (u1 (zU ≤ nv a + nv b))) _ EF EE rfl (zx EG) (ZU _ _ _) rfl fun _ _ EH Eg => f_e <| ze <| wp_seq <| zk <| d_k [0,6,8,10,26] [] 1 EH fun _ EI => f_o <| Zp 4 17 (zh (zp (n32 17 (nv (nd (nv a + nv b)))) 8 (u1 (zU ≤ nv a + nv b)))) EI Eg rfl (zf (List.length_set.trans (ZM _ _))) fun _ EJ => f_o <| c_p EJ Eg (left_at hL _ (nv a + nv b) (List.length_set.trans (ZM _ _)) ((YG _ _).set (u1_dig _)) (carry8 (Qi ha) (Qi hb)) (sum_lt (Qi ha) (Qi hb))) fun _ _ EK EL => ?_
 refine f_o <| zQ 2 4 (zh (nd ((nv a + nv b) % mF f))) [.box EN (zh a) 33, .box EO (zh b) 33, .box Ea (zh (nd ((nv a + nv b) % mF f))) 33, .box Ed (zh (nd (nv a + nv b))) 33, .box Ef (zh (zp (n32 17 (nv (nd (nv a + nv b)))) 8 (u1 (zU ≤ nv a + nv b)))) 87] EK EL rfl (zf (zl _ _)) (zf (zi)) (zt _) rfl fun _ _ EM Eh => f_e <| ze <| wp_ret <| z9 (v := .agg (zg (zh (nd ((nv a + nv b) % mF f))))) (t := 6) (T := 33) (ad := ⟨Ea, 0, none⟩) EM (by kernel_rfl) (by kernel_rfl) (zB (t := 33) (k := 2) (off := 0) (m := 4) (xs := zh (nd ((nv a + nv b) % mF f))) Eh rfl (zq (zf (zl _ _))) (zf (zl _ _)) (by kernel_rfl) (by kernel_rfl)) ?_
 exact ⟨rfl, Eh.pk []⟩
theorem rmul_go (w : World) (f : Int) (hf : f = 1 ∨ f = 2 ∨ f = 3 ∨ f = 4) (hL : LeftOk f) (a b : List UInt64) (ha : zb a = 4) (hb : zb b = 4) : Calls Tryz.prog 28 #[.int .i64 f, .agg (zg (zh a)), .agg (zg (zh b))] w fun e w' => e = .returned (.agg (zg (zh (nd (mulM f (nv a) (nv b)))))) ∧ Ev w [] w' [] := by
 refine d_0 [(0, .int .i64 f), (1, .agg (zg (zh a))), (2, .agg (zg (zh b)))] 18 Go.Proofs.Tryz.func28 Go.Proofs.Tryz.ntmps28 (Heap.nil _) fun Es Et Eu => wp_seq <| zk <| f_o <| m_m 33 (zh a) Et Eu fun _ _ Ez Ew Ex => f_o <| m_m 33 (zh b) Ew Ex fun _ _ EA Ey Ed => f_o <| m_z 33 (zh (zd 4 0)) Ey Ed fun _ _ Ee Ef Eg => ?_
 refine f_e <| ze <| wp_seq <| zk <| d_k [0,4,5,6,8] [] 1 Ef fun _ Eh => f_o <| c_p Eh Eg (Xa _ f hf) fun _ _ Ei Ea => d_e [0,4,5,6,7] [] Ei fun _ Ej => ze <| wp_seq <| d_s [0,4,5,6,11] [] Ej fun _ Eb => ?_
 refine c_f Eb ?_
 refine wp_skip <| ze <| wp_seq <| zk <| d_k [0,4,5,6,13] [] 1 Eb fun _ Ek => f_o <| Zp 0 4 (zh a) Ek Ea rfl (zf ha) fun _ El => f_o <| Zp 1 4 (zh b) El Ea rfl (zf hb) fun _ Em => f_o <| c_p Em Ea (times_go _ a b ha hb) fun _ _ En Eo => ?_
 refine f_o <| c_p En Eo (left_at hL _ (nv a * nv b) (ZM _ _) (YG _ _) (dv_n32 (by first | exact prod_lt (Qi ha) (Qi hb) | exact Zu (Qi ha) (by decide) | exact Zu (Qi hb) (by decide))) (by first | exact prod_lt (Qi ha) (Qi hb) | exact Zu (Qi ha) (by decide) | exact Zu (Qi hb) (by decide))) fun _ _ Ep Eq => f_o <| zQ 2 4 (zh (nd ((nv a * nv b) % mF f))) _ Ep Eq rfl (zf (zl _ _)) (zf (zi)) (zt _) rfl fun _ _ Er Ec => f_e <| ze <| wp_ret <| z9 (v := .agg (zg (zh (nd ((nv a * nv b) % mF f))))) (t := 6) (T := 33) (ad := ⟨Ee, 0, none⟩) Er (by kernel_rfl) (by kernel_rfl) (zB (t := 33) (k := 2) (off := 0) (m := 4) (xs := zh (nd ((nv a * nv b) % mF f))) Ec rfl (zq (zf (zl _ _))) (zf (zl _ _)) (by kernel_rfl) (by kernel_rfl)) ?_
 exact ⟨rfl, Ec.pk []⟩
theorem rsub_go (w : World) (f : Int) (hf : f = 1 ∨ f = 2 ∨ f = 3 ∨ f = 4) (hL : LeftOk f) (a b : List UInt64) (ha : zb a = 4) (hb : zb b = 4) : Calls Tryz.prog 76 #[.int .i64 f, .agg (zg (zh a)), .agg (zg (zh b))] w fun e w' => e = .returned (.agg (zg (zh (nd (z7 f (nv a) (nv b)))))) ∧ Ev w [] w' [] := by
 have hla : nv a % mF f < mF f := ZL _ (Zu QS (Jn hf))
 have hlb : nv b % mF f < mF f := ZL _ (Zu QS (Jn hf))
 have hmw := mF_lt f
 refine d_0 [(0, .int .i64 f), (1, .agg (zg (zh a))), (2, .agg (zg (zh b)))] 35 Go.Proofs.Tryz.func76 Go.Proofs.Tryz.ntmps76 (Heap.nil _) fun E7 E8 E9 => wp_seq <| zk <| f_o <| m_m 33 (zh a) E8 E9 fun _ _ E5 Ha Hb => f_o <| m_m 33 (zh b) Ha Hb fun _ _ E6 Hc EE => f_o <| m_z 33 (zh (zd 4 0)) Hc EE fun _ _ Ea EF EG => ?_
 refine f_e <| ze <| wp_seq <| zk <| d_k [0,4,5,6,10] [] 1 EF fun _ EH => f_o <| c_p EH EG (Xa _ f hf) fun _ _ EI En => d_e [0,4,5,6,7] [] EI fun _ EJ => ze <| wp_seq <| d_s [0,4,5,6,13] [] EJ fun _ Eo => ?_
 refine c_f Eo ?_
 refine wp_skip <| ze <| wp_seq <| zk <| d_k [0,4,5,6,15] [] 1 Eo fun _ EK => f_o <| Zp 0 4 (zh a) EK En rfl (zf ha) fun _ EL => f_o <| c_p EL En (digits_go _ a ha) fun _ _ EM EN => f_o <| c_p EM EN (left_at hL _ (nv a) (ZM _ _) (YG _ _) (dv_n32 (by first | exact prod_lt (Qi ha) (Qi hb) | exact Zu (Qi ha) (by decide) | exact Zu (Qi hb) (by decide))) (by first | exact prod_lt (Qi ha) (Qi hb) | exact Zu (Qi ha) (by decide) | exact Zu (Qi hb) (by decide))) fun _ _ EO EP => ?_
 refine f_o <| m_z 33 (zh (zd 4 0)) EO EP fun _ _ Eb EQ ER => f_o <| zQ 3 4 (zh (nd ((nv a) % mF f))) _ EQ ER rfl (zf (zl _ _)) (zf (zi)) (zt _) rfl fun _ _ ES Ep => f_e <| ze <| wp_seq <| zk <| d_k [0,5,6,8,19] [] 1 ES fun _ ET => f_o <| Zp 1 4 (zh b) ET Ep rfl (zf hb) fun _ EU => ?_
 refine f_o <| c_p EU Ep (digits_go _ b hb) fun _ _ EV EW => f_o <| c_p EV EW (left_at hL _ (nv b) (ZM _ _) (YG _ _) (dv_n32 (by first | exact prod_lt (Qi ha) (Qi hb) | exact Zu (Qi ha) (by decide) | exact Zu (Qi hb) (by decide))) (by first | exact prod_lt (Qi ha) (Qi hb) | exact Zu (Qi ha) (by decide) | exact Zu (Qi hb) (by decide))) fun _ _ EX EY => f_o <| m_z 33 (zh (zd 4 0)) EX EY fun _ _ Ec EZ E0 => f_o <| zQ 4 4 (zh (nd ((nv b) % mF f))) [.box E5 (zh a) 33, .box E6 (zh b) 33, .box Ea (zh (zd 4 0)) 33, .box Eb (zh (nd ((nv a) % mF f))) 33, .box Ec (zh (nd ((nv b) % mF f))) 33] EZ E0 rfl (zf (zl _ _)) (zf (zi)) (zt _) rfl fun _ _ E1 El => ?_
 refine f_e <| ze <| wp_seq <| wp_seq <| zk <| f_o <| Zp 3 4 (zh (nd ((nv a) % mF f))) E1 El rfl (zf (zl _ _)) fun _ E2 => f_o <| Zp 4 4 (zh (nd ((nv b) % mF f))) E2 El rfl (zf (zl _ _)) fun _ E3 => f_o <| c_p E3 El (rless_go _ (nd ((nv a) % mF f)) (nd ((nv b) % mF f)) (zl _ _) (zl _ _)) fun _ _ Em Ed => ?_
 refine f_e <| ze <| c_d (nv (nd ((nv a) % mF f)) < nv (nd ((nv b) % mF f))) Em (fun E4 => ?_) (fun E4 => ?_)
 ·
  refine wp_seq <| r_c (fun ac wo => Env ac 35 [(0, .int .i64 f), (6, pt Ea), (8, pt Eb), (9, pt Ec)] ∧ Ev w [] wo [.box Ea (zh (nd (nv (nd (mF f)) + zU - nv (nd (nv (nd ((nv b) % mF f)) + zU - nv (nd ((nv a) % mF f))))))) 33, .box Eb (zh (nd ((nv a) % mF f))) 33, .box Ec (zh (nd ((nv b) % mF f))) 33]) ?_ ?_
  ·
   refine h_s (fun wv => Ev w [] wv [.box Eb (zh (nd ((nv a) % mF f))) 33, .box Ec (zh (nd ((nv b) % mF f))) 33]) [] 7 ?_
   have Ee := Ed.trans (zO Ed.heap)
   refine q_s [0] [] 6 Em (Ee.pk [3, 4]) fun _ Eq => q_r 2 (s := Instr.loadAt 33 (pt Ec)) (v := .agg (zg (zh (nd ((nv b) % mF f))))) Eq (fun w hS => run_loadAgg2 (m := 4) (cs := zh (nd ((nv b) % mF f))) (zf (zl _ _)) (by kernel_rfl) (by kernel_rfl) (hS.heap.cells (k := 1) (off := 0) (m := 4) rfl (zq (zf (zl _ _))))) (Ee.pk [3, 4]) fun _ Er => q_r 3 (s := Instr.loadAt 33 (pt Eb)) (v := .agg (zg (zh (nd ((nv a) % mF f))))) Er (fun w hS => run_loadAgg2 (m := 4) (cs := zh (nd ((nv a) % mF f))) (zf (zl _ _)) (by kernel_rfl) (by kernel_rfl) (hS.heap.cells (k := 0) (off := 0) (m := 4) rfl (zq (zf (zl _ _))))) (Ee.pk [3, 4]) fun _ Es => q_t 1 ?_
   refine c_p Es Ee (rmodulus_go _ f) fun _ _ Et Ef => ⟨fun _ => Ef.pk [3, 4], ?_⟩
   refine q_t 4 ?_
   refine c_p Et Ef (J6 _ (nd ((nv b) % mF f)) (nd ((nv a) % mF f)) (zl _ _) (zl _ _)) fun _ _ Eu Eg => ⟨fun _ => Eg.pk [3, 4], ?_⟩
   refine q_t 5 ?_
   refine c_p Eu Eg (J6 _ (nd (mF f)) (nd (nv (nd ((nv b) % mF f)) + zU - nv (nd ((nv a) % mF f)))) (zl _ _) (zl _ _)) fun _ _ Ew Eh => ⟨fun _ => Eh.pk [3, 4], ?_⟩
   refine q_t 6 ?_
   refine zQ 2 4 (zh (nd (nv (nd (mF f)) + zU - nv (nd (nv (nd ((nv b) % mF f)) + zU - nv (nd ((nv a) % mF f))))))) _ Ew Eh rfl (zf (zl _ _)) (zf (zi)) (zt _) rfl fun _ _ Ex Ei => ⟨fun _ => Ei.pk [3, 4], ?_⟩
   exact h_e ⟨Ex.sb, Ei.pk [2, 3, 4]⟩
  rintro _ _ ⟨Ey, Ej⟩
  refine ze <| wp_ret <| ZE <| z9 (v := .agg (zg (zh (nd (nv (nd (mF f)) + zU - nv (nd (nv (nd ((nv b) % mF f)) + zU - nv (nd ((nv a) % mF f))))))))) (t := 6) (T := 33) (ad := ⟨Ea, 0, none⟩) Ey (by kernel_rfl) (by kernel_rfl) (zB (t := 33) (k := 0) (off := 0) (m := 4) (xs := zh (nd (nv (nd (mF f)) + zU - nv (nd (nv (nd ((nv b) % mF f)) + zU - nv (nd ((nv a) % mF f))))))) Ej rfl (zq (zf (zl _ _))) (zf (zl _ _)) (by kernel_rfl) (by kernel_rfl)) ?_
  have e : nd (nv (nd (mF f)) + zU - nv (nd (nv (nd ((nv b) % mF f)) + zU - nv (nd ((nv a) % mF f))))) = nd (z7 f (nv a) (nv b)) := rsub_fin1 hla hlb hmw (by assumption)
  exact ⟨by rw [e], Ej.pk []⟩
 refine wp_skip <| ze <| wp_seq <| zk <| f_o <| Zp 3 4 (zh (nd ((nv a) % mF f))) Em Ed rfl (zf (zl _ _)) fun _ Ez => f_o <| Zp 4 4 (zh (nd ((nv b) % mF f))) Ez Ed rfl (zf (zl _ _)) fun _ EA => f_o <| c_p EA Ed (J6 _ (nd ((nv a) % mF f)) (nd ((nv b) % mF f)) (zl _ _) (zl _ _)) fun _ _ EB EC => f_o <| zQ 2 4 (zh (nd (nv (nd ((nv a) % mF f)) + zU - nv (nd ((nv b) % mF f))))) [.box E5 (zh a) 33, .box E6 (zh b) 33, .box Ea (zh (nd (nv (nd ((nv a) % mF f)) + zU - nv (nd ((nv b) % mF f))))) 33, .box Eb (zh (nd ((nv a) % mF f))) 33, .box Ec (zh (nd ((nv b) % mF f))) 33] EB EC rfl (zf (zl _ _)) (zf (zi)) (zt _) rfl fun _ _ ED Ek => ?_
 refine f_e <| ze <| wp_ret <| z9 (v := .agg (zg (zh (nd (nv (nd ((nv a) % mF f)) + zU - nv (nd ((nv b) % mF f))))))) (t := 6) (T := 33) (ad := ⟨Ea, 0, none⟩) ED (by kernel_rfl) (by kernel_rfl) (zB (t := 33) (k := 2) (off := 0) (m := 4) (xs := zh (nd (nv (nd ((nv a) % mF f)) + zU - nv (nd ((nv b) % mF f))))) Ek rfl (zq (zf (zl _ _))) (zf (zl _ _)) (by kernel_rfl) (by kernel_rfl)) ?_
 have e : nd (nv (nd ((nv a) % mF f)) + zU - nv (nd ((nv b) % mF f))) = nd (z7 f (nv a) (nv b)) := rsub_fin2 hla hlb hmw (by assumption)
 exact ⟨by rw [e], Ek.pk []⟩
theorem rneg_go (w : World) (f : Int) (hf : (f = 1 ∨ f = 2 ∨ f = 3 ∨ f = 4)) (hL : LeftOk f) (a : List UInt64) (ha : zb a = 4) : Calls Tryz.prog 110 #[.int .i64 f, .agg (zg (zh a))] w fun e w' => e = .returned (.agg (zg (zh (nd (z7 f 0 (nv a)))))) ∧ Ev w [] w' [] := by
 refine d_0 [(0, .int .i64 f), (1, .agg (zg (zh a)))] 9 Go.Proofs.Tryz.func110 Go.Proofs.Tryz.ntmps110 (Heap.nil _) fun Eh Ei Ej => wp_seq <| zk <| f_o <| m_m 33 (zh a) Ei Ej fun _ _ Eo Ek El => f_o <| m_z 33 (zh (zd 4 0)) Ek El fun _ _ Em En Ea => f_e <| ze <| wp_seq <| zk <| d_k [3,4,5,6] [] 2 En fun _ Ec => ?_
 refine f_o <| Zp 0 4 (zh a) Ec Ea rfl (zf ha) fun _ Ed => f_o <| c_p Ed Ea (rsub_go _ f hf hL ([0, 0, 0, 0] : List UInt64) a (show zb ([0, 0, 0, 0] : List UInt64) = 4 from rfl) ha) fun _ _ Ee Ef => f_o <| zQ 1 4 (zh (nd (z7 f (nv ([0, 0, 0, 0] : List UInt64)) (nv a)))) _ Ee Ef rfl (zf (zl _ _)) (zf (zi)) (zt _) rfl fun _ _ Eg Eb => f_e <| ze <| wp_ret <| z9 (v := .agg (zg (zh (nd (z7 f (nv ([0, 0, 0, 0] : List UInt64)) (nv a)))))) (t := 4) (T := 33) (ad := ⟨Em, 0, none⟩) Eg (by kernel_rfl) (by kernel_rfl) (zB (t := 33) (k := 1) (off := 0) (m := 4) (xs := zh (nd (z7 f (nv ([0, 0, 0, 0] : List UInt64)) (nv a)))) Eb rfl (zq (zf (zl _ _))) (zf (zl _ _)) (by kernel_rfl) (by kernel_rfl)) ?_
 exact ⟨rfl, Eb.pk []⟩
theorem rwide_go (w : World) (f : Int) (hf : f = 1 ∨ f = 2 ∨ f = 3 ∨ f = 4) (hL : LeftOk f) (ab : Option Addr) (nb cb : Nat) (lb : List UInt8) (eb : nb = zb lb) (ib : InB w [] ab cb lb) : Calls Tryz.prog 60 #[.int .i64 f, .slice ab nb cb] w fun e w' => e = .returned (.agg (zg (zh (nd (lv lb % mF f))))) ∧ Ev w [] w' [] := by
 subst eb
 have hsm := ib.small
 refine d_0 [(0, .int .i64 f), (1, .slice ab (zb lb) cb)] 37 Go.Proofs.Tryz.func60 Go.Proofs.Tryz.ntmps60 (Heap.nil _) fun E0 E1 E2 => wp_seq <| zk <| f_o <| m_z 33 (zh (zd 4 0)) E1 E2 fun _ _ Ej E3 E4 => f_e <| ze <| wp_seq <| zk <| d_k [0,1,4,9] [] 1 E3 fun _ E5 => f_o <| c_p E5 E4 (Xa _ f hf) fun _ _ EJ EK => ?_
 refine d_e [0,1,4,5] [] EJ fun _ EL => ze <| wp_seq <| wp_seq <| d_r [0,1,4,12] [] EL fun _ El => ze <| c_f El ?_
 refine wp_skip <| ze <| wp_seq <| zk <| f_o <| m_z 33 (zh (zd 4 0)) El EK fun _ _ Ec EM EN => f_e <| ze <| wp_seq <| wp_seq <| d_r [0,1,4,6,7] [(2, g_n (w_r (e := ((zb lb : Nat) : Int) - (1 : Int)) (x := ((zb lb : Nat) : Int) - (1 : Int)) (by omega)))] EM fun _ EO => ze <| wp_block <| ZR (fun EP ac wo => ∃ (q : Nat) (x : List UInt64), EP = (q + 1 : Nat) ∧ Env ac 37 [(0, .int .i64 f), (1, .slice ab (zb lb) cb), (4, pt Ej), (6, pt Ec), (7, .int .i64 (((q : Nat) : Int) - (1 : Int)))] ∧ Ev w [] wo [.box Ec (zh x) 33, .box Ej (zh (zd 4 0)) 33] ∧ (q ≤ zb lb) ∧ (zb x = 4) ∧ (x = nd (lv (zo q lb) % mF f))) ⟨_, zb lb, zd 4 0, rfl, EO.sb, EN.pk [1, 0], by omega, zi, by rw [Y7, lv, QF]; rfl⟩ ?_
 rintro E6 _ _ ⟨q, x, rfl, EQ, Ed, hq, hx, hxe⟩
 refine wp_seq <| wp_seq <| d_r [0,1,4,6,7,18] [] EQ fun _ Ek => ?_
 refine ze <| c_d (((q : Nat) : Int) - (1 : Int) ≥ (0 : Int)) Ek (fun ER => ?_) (fun ER => ?_)
 ·
  refine wp_skip <| ze <| wp_seq <| wp_block <| wp_seq ?_
  have ES := Env.fx (t := 7) (v := .int .i64 (((q : Nat) : Int) - (1 : Int))) (u := ni (q - 1)) Ek (congrArg (Value.int .i64) (show ((q : Nat) : Int) - (1 : Int) = ((q - 1 : Nat) : Int) by omega))
  rw [hxe] at Ed
  refine zk <| f_o <| Zp 0 4 (zh (nd (lv (zo q lb) % mF f))) ES Ed rfl (zf (zl _ _)) fun _ ET => d_k [0,1,4,6,7,21,22] [] 2 ET fun _ EU => f_o <| c_p EU Ed (times_go _ (nd (lv (zo q lb) % mF f)) ([256, 0, 0, 0] : List UInt64) (zl _ _) (show zb ([256, 0, 0, 0] : List UInt64) = 4 from rfl)) fun _ _ EV EW => f_o <| m_z 87 (zh (zd 17 0)) EV EW fun _ _ Ee EX EY => ?_
  refine f_o <| zQ 2 17 (zh (n32 17 (nv (nd (lv (zo q lb) % mF f)) * nv ([256, 0, 0, 0] : List UInt64)))) _ EX EY rfl (zf (ZM _ _)) (zf (zi)) (zt _) rfl fun _ _ EZ Em => ?_
  refine f_e <| ze <| wp_seq <| r_c (fun ac wo => Env ac 37 [(0, .int .i64 f), (1, .slice ab (zb lb) cb), (4, pt Ej), (6, pt Ec), (7, ni (q - 1)), (8, pt Ee)] ∧ Ev w [] wo [.box Ec (zh (nd (lv (zo q lb) % mF f))) 33, .box Ej (zh (zd 4 0)) 33, .box Ee (zh (zp (n32 17 (nv (nd (lv (zo q lb) % mF f)) * nv ([256, 0, 0, 0] : List UInt64))) 0 ((za (n32 17 (nv (nd (lv (zo q lb) % mF f)) * nv ([256, 0, 0, 0] : List UInt64))) 0 0) ||| (Zc (za lb (q - 1) 0))))) 87]) ?_ ?_
  ·
   refine h_s (fun wv => Ev w [] wv [.box Ee (zh (n32 17 (nv (nd (lv (zo q lb) % mF f)) * nv ([256, 0, 0, 0] : List UInt64)))) 87]) [9] 10 ?_
   have Ea := Em.trans (zO Em.heap)
   have En : 0 < zb (n32 17 (nv (nd (lv (zo q lb) % mF f)) * nv ([256, 0, 0, 0] : List UInt64))) := by rw [(ZM _ _)]; omega
   refine q_s [0] [] 9 EZ (Ea.pk [2]) fun _ Eo => q_r 1 (s := Instr.loadAt 31 (pt Ee)) (v := zm (za (n32 17 (nv (nd (lv (zo q lb) % mF f)) * nv ([256, 0, 0, 0] : List UInt64))) 0 0)) Eo (fun w hS => Zf (by kernel_rfl) (hS.heap.cell (k := 0) rfl (zx En))) (Ea.pk [2]) fun _ Ep => ?_
   have Eg : q - 1 < zb lb := (by omega)
   obtain ⟨Eb, Ef⟩ := some_of ib.nz Eg
   refine q_s [2,3] [] 6 Ep (Ea.pk [2]) fun _ Eq => q_f 4 (s := Instr.indexAt 23 (.slice ab (zb lb) cb) (ni (q - 1))) (v := .pointer (some (Addr.add Eb (q - 1)))) Eq (fun _ => Go.Dbr.run_indexsl (e := 5) (sz := 1) (j := q - 1) (jo := q - 1) Ef (by kernel_rfl) (by kernel_rfl) (by omega) Eg (Nat.mul_one _) _) (fun _ => Ea.pk [2]) fun _ Er => ?_
   have Es : q - 1 < zb lb := by omega
   refine q_r 5 (s := Instr.loadAt 5 (.pointer (some (Addr.add Eb (q - 1))))) (v := bv (za lb (q - 1) 0)) Er (fun w hS => run_loadel (ad := Eb) (o := q - 1) rfl (ib.ev hS).reads Ef (Z9 Es) (by kernel_rfl)) (Ea.pk [2]) fun _ Et => q_s [6,7,8] [(6, g_i .u64 (Go.Dbr.u8_to_u64 (x := za lb (q - 1) 0) rfl)), (7, g_i .u64 (Go.Dbr.u64_or (x := za (n32 17 (nv (nd (lv (zo q lb) % mF f)) * nv ([256, 0, 0, 0] : List UInt64))) 0 0) (y := Zc (za lb (q - 1) 0)) rfl rfl))] 1 Et (Ea.pk [2]) fun _ Eu => q_t 9 ?_
   have Ew : 0 < zb (n32 17 (nv (nd (lv (zo q lb) % mF f)) * nv ([256, 0, 0, 0] : List UInt64))) := by rw [(ZM _ _)]; omega
   refine m_t 2 0 (zm ((za (n32 17 (nv (nd (lv (zo q lb) % mF f)) * nv ([256, 0, 0, 0] : List UInt64))) 0 0) ||| (Zc (za lb (q - 1) 0)))) [.box Ec (zh (nd (lv (zo q lb) % mF f))) 33, .box Ej (zh (zd 4 0)) 33, .box Ee (zh (zp (n32 17 (nv (nd (lv (zo q lb) % mF f)) * nv ([256, 0, 0, 0] : List UInt64))) 0 ((za (n32 17 (nv (nd (lv (zo q lb) % mF f)) * nv ([256, 0, 0, 0] : List UInt64))) 0 0) ||| (Zc (za lb (q - 1) 0))))) 87] Eu Ea rfl (zx Ew) (ZU _ _ _) rfl fun _ _ Ex Ey => ⟨q_y, ?_⟩
   exact h_e ⟨Ex.sb, Ey.pk [0, 1, 2]⟩
  rintro _ _ ⟨Ez, Eh⟩
  refine ze <| zk <| d_k [0,1,4,6,7,8,33] [] 1 Ez fun _ EA => f_o <| Zp 2 17 (zh (zp (n32 17 (nv (nd (lv (zo q lb) % mF f)) * nv ([256, 0, 0, 0] : List UInt64))) 0 ((za (n32 17 (nv (nd (lv (zo q lb) % mF f)) * nv ([256, 0, 0, 0] : List UInt64))) 0 0) ||| (Zc (za lb (q - 1) 0))))) EA Eh rfl (zf (List.length_set.trans (ZM _ _))) fun _ EB => f_o <| c_p EB Eh (left_at hL _ (nv (nd (lv (zo q lb) % mF f)) * 256 + (za lb (q - 1) 0).toNat) (List.length_set.trans (ZM _ _)) ((YG _ _).set (or_low (Qi (zl _ _)) _).2) (or_low (Qi (zl _ _)) _).1 (wide_lt _ _)) fun _ _ EC ED => f_o <| zQ 0 4 (zh (nd ((nv (nd (lv (zo q lb) % mF f)) * 256 + (za lb (q - 1) 0).toNat) % mF f))) _ EC ED rfl (zf (zl _ _)) (zf (zl _ _)) (zt _) rfl fun _ _ EE EF => ?_
  refine f_e <| zv <| ze <| d_r [0,1,4,6,7,8] [(1, g_n (w_r (e := ((q - 1 : Nat) : Int) - (1 : Int)) (x := ((q - 1 : Nat) : Int) - (1 : Int)) (by omega)))] EE fun _ EG => ze <| ⟨_, ⟨q - 1, (nd ((nv (nd (lv (zo q lb) % mF f)) * 256 + (za lb (q - 1) 0).toNat) % mF f)), rfl, EG.sb, EF.pk [0, 1], by omega, (zl _ _), wide_step hf (by omega) (by omega)⟩, ?_⟩
  omega
 refine wp_exit <| zy <| zy <| zL <| ze <| wp_seq ?_
 rw [hxe] at Ed
 refine zk <| f_o <| Zp 0 4 (zh (nd (lv (zo q lb) % mF f))) Ek Ed rfl (zf (zl _ _)) fun _ EH => f_o <| zQ 1 4 (zh (nd (lv (zo q lb) % mF f))) [.box Ec (zh (nd (lv (zo q lb) % mF f))) 33, .box Ej (zh (nd (lv (zo q lb) % mF f))) 33] EH Ed rfl (zf (zl _ _)) (zf (zi)) (zt _) rfl fun _ _ EI Ei => f_e <| ze <| wp_ret <| z9 (v := .agg (zg (zh (nd (lv (zo q lb) % mF f))))) (t := 4) (T := 33) (ad := ⟨Ej, 0, none⟩) EI (by kernel_rfl) (by kernel_rfl) (zB (t := 33) (k := 1) (off := 0) (m := 4) (xs := zh (nd (lv (zo q lb) % mF f))) Ei rfl (zq (zf (zl _ _))) (zf (zl _ _)) (by kernel_rfl) (by kernel_rfl)) ?_
 have hq0 : q = 0 := by omega
 subst hq0
 exact ⟨rfl, Ei.pk []⟩
end Go.Proofs.YtlnogkmnklfjlaaGreatDoor
