import Derived.Test.YtlnogkmnklfjlaaDoorPo4
open UInt64 renaming ofNat → za, toUInt8 → zj, toNat → zt, toNat_add → Zl, toNat_mul → QU
open Go.Dbr renaming u64s_lenh → zb, then_normal → zg, u64s → zh, uv64 → zl, region_from → zm, load_whole → zn, store_whole → zo, u64s_one → zu, block_normal → zv, then_exit → zy, u64s_getD → zE, loop_once → zF, bys_lenh → zU, block_exit → zV, d_cell1 → z5, d_cell_tmp → Zn, run_load1 → ZC, bys_getD → ZS, u64s_set → Z4, loop_m → Qa, dv_cons → Yf, dv_set → JK
open List renaming replicate → zc, length_replicate → zd, length → ze, getD → zf, toArray → zi, set → zp, take → zr, drop → zs, length_take → zI, getD_eq_getElem?_getD → zR, length_cons → Zj, take_of_length_le → ZI, getElem?_eq_none → ZO, getD_cons_succ → ZT, getD_cons_zero → Yj, take_succ_cons → Xb
open Go.Proofs.YtlnogkmnklfjlaaDoor renaming nds_len → zk, n32_len → Ya, low_high → J2, high32 → Xg, low32 → Xy, or_shl → XE
open Go.Dbr.Ev renaming cellAgg → zx, drew → zQ
open UInt8 renaming ofNat → zA, toUInt64 → Zi
open Nat renaming mod_eq_of_lt → zB, mul_comm → zY, pow_succ → z6, shiftLeft_eq → Zk, add_mul → Zo, add_zero → Zp, add_assoc → Zq, div_div_eq_div_mul → Zt, pow_add → Zy, mul_assoc → Zz, lt_or_ge → ZJ, pow_zero → ZK, zero_mul → ZQ, mul_zero → ZY, mul_le_mul_right → Z0, pow_mul → Z6, mul_le_mul → Qd, mul_add → Qq, lt_of_lt_of_le → QC, pow_le_pow_right → QN, mod_one → YZ, div_one → Y3, mul_pos → JX, pow_pos → XG
open Int renaming tdiv → YY, tmod → Jf
/- Layer 4, the document: products of digits, what they leave. -/

namespace Go.Proofs.YtlnogkmnklfjlaaDoor
open Go.Dbr
set_option maxRecDepth 100000
set_option maxHeartbeats 2000000
set_option linter.unusedVariables false
set_option linter.unusedSimpArgs false

theorem dg_eq (a0 a1 a2 a3 : UInt64) : [a0 &&& 4294967295, a0 >>> za 32, a1 &&& 4294967295, a1 >>> za 32, a2 &&& 4294967295, a2 >>> za 32, a3 &&& 4294967295, a3 >>> za 32, 0, 0, 0, 0, 0, 0, 0, 0, 0] = n32 17 (nv [a0, a1, a2, a3]) := by
  have z : (0 : UInt64).toNat < 4294967296 := by decide
  refine n32_of rfl ?_ ?_
  · simp only [DG.cons]
    exact ⟨Xy _, Xg _, Xy _, Xg _, Xy _, Xg _, Xy _, Xg _, z, z, z, z, z, z, z, z, z, DG.nil⟩
  · have h0 := J2 a0
    have h1 := J2 a1
    have h2 := J2 a2
    have h3 := J2 a3
    rw [nv4]
    simp only [dv, show (0 : UInt64).toNat = 0 from rfl, ZY, Zp]
    omega
theorem num_eq {w : List UInt64} (hl : w.length = 17) (hd : DG w) : [zf w 0 0 ||| (zf w 1 0 <<< za 32), zf w 2 0 ||| (zf w 3 0 <<< za 32), zf w 4 0 ||| (zf w 5 0 <<< za 32), zf w 6 0 ||| (zf w 7 0 <<< za 32)] = nd (dv 4294967296 w) := by
  refine nv_inj rfl (zk _ _) ?_
  rw [nd_val, nv4, XE (hd 0) (hd 1), XE (hd 2) (hd 3), XE (hd 4) (hd 5), XE (hd 6) (hd 7)]
  have g0 := hd 0; have g1 := hd 1; have g2 := hd 2; have g3 := hd 3; have g4 := hd 4; have g5 := hd 5; have g6 := hd 6; have g7 := hd 7
  match w, hl with
  | x0 :: x1 :: x2 :: x3 :: x4 :: x5 :: x6 :: x7 :: r, _ =>
    simp only [Yf]
    generalize dv 4294967296 r = R
    simp only [Yj, ZT, W256] at *
    omega
/-- the number of the lowest digits of 32 bits -/
def dk (l : List UInt64) : Nat → Nat
  | 0 => 0
  | k + 1 => dk l k + (zf l k 0).toNat * 4294967296 ^ k
theorem dk_cons (x : UInt64) (r : List UInt64) : ∀ k, dk (x :: r) (k + 1) = x.toNat + 4294967296 * dk r k
  | 0 => by simp [dk]
  | k + 1 => by
    rw [dk, dk_cons x r k, dk, ZT, z6, Qq, Zq, ← Zz, zY _ 4294967296]
theorem dk_split : ∀ (l : List UInt64) (k : Nat), dv 4294967296 l = dk l k + 4294967296 ^ k * dv 4294967296 (zs k l)
  | l, 0 => by simp [dk]
  | [], k + 1 => by
    have : ∀ j, dk [] j = 0 := fun j => by
      induction j with
      | zero => rfl
      | succ j ih => rw [dk, ih]; simp
    rw [this]; simp [dv]
  | x :: r, k + 1 => by
    rw [Yf, dk_cons, List.drop_succ_cons, dk_split r k, Qq, Zq, z6]
    ac_rfl
theorem dk_lt {l : List UInt64} (h : DG l) : ∀ k, dk l k < 4294967296 ^ k
  | 0 => by rw [dk, ZK]; exact Nat.one_pos
  | k + 1 => by
    have h1 := dk_lt h k
    have h2 := h k
    rw [dk, z6]
    generalize 4294967296 ^ k = q at *
    have : (zf l k 0).toNat * q ≤ 4294967295 * q := Z0 q (by omega)
    omega
theorem n32_get : ∀ (k n j : Nat), j < k → (zf (n32 k n) j 0).toNat = n / 4294967296 ^ j % 4294967296
  | k + 1, n, 0, _ => by rw [n32, Yj, n32_hd, ZK, Y3]
  | k + 1, n, j + 1, h => by rw [n32, ZT, n32_get k _ j (by omega), Zt, z6, zY]
theorem dk_n32 {k n : Nat} : ∀ j, j ≤ k → dk (n32 k n) j = n % 4294967296 ^ j
  | 0, _ => by rw [ZK, YZ]; rfl
  | j + 1, h => by rw [dk, dk_n32 j (by omega), n32_get k n j (by omega), Nat.mod_pow_succ, zY]
theorem mac32 {p x y c : UInt64} (hp : p.toNat < 4294967296) (hx : x.toNat < 4294967296) (hy : y.toNat < 4294967296) (hc : c.toNat < 4294967296) : (p + x * y + c).toNat = p.toNat + x.toNat * y.toNat + c.toNat := by
  have h : x.toNat * y.toNat ≤ 4294967295 * 4294967295 := Qd (by omega) (by omega)
  rw [Zl, Zl, QU]
  generalize x.toNat * y.toNat = e at *
  omega
theorem mac32' {p x y c : UInt64} (hp : p.toNat < 4294967296) (hx : x.toNat < 4294967296) (hy : y.toNat < 4294967296) (hc : c.toNat < 4294967296) : (p + c + x * y).toNat = p.toNat + x.toNat * y.toNat + c.toNat := by
  have h : x.toNat * y.toNat ≤ 4294967295 * 4294967295 := Qd (by omega) (by omega)
  rw [Zl, Zl, QU]
  generalize x.toNat * y.toNat = e at *
  omega
theorem set32 {w : List UInt64} {j : Nat} {t c : UInt64} {P e : Nat} (hj : j < w.length) (hv : dv 4294967296 w + c.toNat * 4294967296 ^ j = P) (ht : t.toNat = (zf w j 0).toNat + e + c.toNat) :
    dv 4294967296 (zp w j (t &&& 4294967295)) + (t >>> za 32).toNat * 4294967296 ^ (j + 1) = P + e * 4294967296 ^ j := by
  have h1 := JK 4294967296 (t &&& 4294967295) w j hj
  have h2 := J2 t
  rw [ht] at h2
  have m2 := congrArg (· * 4294967296 ^ j) h2
  simp only [Zo] at m2
  rw [z6, zY (4294967296 ^ j), ← Zz, zY _ 4294967296]
  generalize 4294967296 ^ j = q at *
  omega
theorem times_in {A y w : List UInt64} {B i k : Nat} {c : UInt64} {t : UInt64} (hlw : w.length = 17) (hj : i + k < 17) (hw : DG w) (hA : DG A) (hy : DG y) (hc : c.toNat < 4294967296)
    (hv : dv 4294967296 w + c.toNat * 4294967296 ^ (i + k) = B + dk y k * (zf A i 0).toNat * 4294967296 ^ i) (ht : t = zf w (i + k) 0 + zf A i 0 * zf y k 0 + c) :
    dv 4294967296 (zp w (i + k) (t &&& 4294967295)) + (t >>> za 32).toNat * 4294967296 ^ (i + (k + 1)) = B + dk y (k + 1) * (zf A i 0).toNat * 4294967296 ^ i := by
  rw [← Zq, set32 (by omega) hv (by rw [ht]; exact mac32 (hw _) (hA _) (hy _) hc), dk, Zo, Zo, Zq]
  congr 2
  rw [Zy]
  ac_rfl
theorem times_out {x y w : List UInt64} {b i : Nat} {c : UInt64} (hlw : w.length = 17) (hi : i < 8) (hz : zf w (i + 8) 0 = 0) (hb : dk y 8 = b)
    (hv : dv 4294967296 w + c.toNat * 4294967296 ^ (i + 8) = dk x i * b + dk y 8 * (zf x i 0).toNat * 4294967296 ^ i) : dv 4294967296 (zp w (i + 8) c) = dk x (i + 1) * b := by
  have e := JK 4294967296 c w (i + 8) (by omega)
  rw [hz, show (0 : UInt64).toNat = 0 from rfl, ZQ, Zp, hv, hb] at e
  rw [e, dk, Zo]
  congr 1
  ac_rfl
theorem zeros17 (j : Nat) : zf (zc 17 (0 : UInt64)) j 0 = 0 := by
  simp only [zR, List.getElem?_replicate]
  split <;> rfl
theorem d8w : 4294967296 ^ 8 = W256 := by decide
theorem dk_nv {a : List UInt64} (ha : a.length = 4) : dk (n32 17 (nv a)) 8 = nv a := by rw [dk_n32 8 (by decide), d8w, zB (nv_lt ha)]
theorem DG.rep : DG (zc 17 (0 : UInt64)) := fun j => by rw [zeros17]; decide

theorem digits4 (w : World) (a0 a1 a2 a3 : UInt64) : Calls Tryd.prog 85 #[.agg #[zl a0, zl a1, zl a2, zl a3]] w fun e w' => e = .returned (.agg (zi (zh (n32 17 (nv [a0, a1, a2, a3]))))) ∧ Ev w [] w' [] := by
 refine d_0 [(0, .agg #[zl a0, zl a1, zl a2, zl a3])] 25 Go.Proofs.Tryd.func85 Go.Proofs.Tryd.ntmps85 (Heap.nil _) fun act0 En0 Hv0 => ?_
 refine wp_seq <| zm <| f_o <| m_m 34 [zl a0, zl a1, zl a2, zl a3] En0 Hv0 fun _ _ bk1 En4 Hv5 => ?_
 refine f_o <| m_z 100 (zh (zc 17 0)) En4 Hv5 fun _ _ bk6 En9 Hv10 => ?_
 refine f_e <| zg <| wp_seq <| zm <| f_o <| m_z 100 (zh (zc 17 0)) En9 Hv10 fun _ _ bk11 En14 Hv15 => ?_
 refine f_e <| zg <| wp_seq <| d_s [1,2,3,4] [] En14 fun _ En17 => ?_
 refine wp_block <| loop_enter ?_
 refine zF <| wp_seq <| d_s [1,2,3,4,6] [] En17 fun _ En19 => ?_
 refine c_t En19 ?_
 refine wp_skip <| zg <| wp_seq <| wp_block <| wp_seq <| zm <| d_k [1,2,3,4,10,12] [] 4 En19 fun _ En21 => ?_
 refine f_o <| m_l 0 En21 Hv15 fun _ En23 => ?_
 refine d_k [1,2,3,4,14,15] [(5, g_i .u64 (Go.Dbr.u64_and (x := a0) (y := (4294967295 : UInt64)) rfl rfl))] 7 En23 fun _ En25 => ?_
 refine f_o ?_
 have hb26 : 0 < ze (zc 17 0) := by rw [(zd)]; omega
 refine m_t 2 0 (zl (a0 &&& (4294967295 : UInt64))) [.box bk1 [zl a0, zl a1, zl a2, zl a3] 34, .box bk6 (zh (zc 17 0)) 100, .box bk11 (zh (zp (zc 17 0) 0 (a0 &&& (4294967295 : UInt64)))) 100] En25 Hv15 rfl (zE hb26) (Z4 _ _ _) rfl fun _ _ En29 Hv30 => ?_
 refine f_e <| zg <| zm <| d_k [1,2,3,4,18,20] [] 5 En29 fun _ En32 => ?_
 refine f_o <| m_l 0 En32 Hv30 fun _ En34 => ?_
 refine d_k [1,2,3,4,22,23] [(6, g_i .u64 (Go.Dbr.u64_shr (x := a0) (n := 32) rfl (by decide)))] 8 En34 fun _ En36 => ?_
 refine f_o ?_
 have hb37 : 1 < ze (zp (zc 17 0) 0 (a0 &&& (4294967295 : UInt64))) := by rw [(List.length_set.trans (zd))]; omega
 refine m_t 2 1 (zl (a0 >>> za 32)) [.box bk1 [zl a0, zl a1, zl a2, zl a3] 34, .box bk6 (zh (zc 17 0)) 100, .box bk11 (zh (zp (zp (zc 17 0) 0 (a0 &&& (4294967295 : UInt64))) 1 (a0 >>> za 32))) 100] En36 Hv30 rfl (zE hb37) (Z4 _ _ _) rfl fun _ _ En40 Hv41 => ?_
 refine f_e <| zv <| zg <| d_r [1,2,3,4] [] En40 fun _ En43 => ?_
 refine zg <| zF <| wp_seq <| d_s [1,2,3,4,6] [] En43 fun _ En45 => ?_
 refine c_t En45 ?_
 refine wp_skip <| zg <| wp_seq <| wp_block <| wp_seq <| zm <| d_k [1,2,3,4,10,12] [] 4 En45 fun _ En47 => ?_
 refine f_o <| m_l 0 En47 Hv41 fun _ En49 => ?_
 refine d_k [1,2,3,4,14,15] [(5, g_i .u64 (Go.Dbr.u64_and (x := a1) (y := (4294967295 : UInt64)) rfl rfl))] 7 En49 fun _ En51 => ?_
 refine f_o ?_
 have hb52 : 2 < ze (zp (zp (zc 17 0) 0 (a0 &&& (4294967295 : UInt64))) 1 (a0 >>> za 32)) := by rw [(List.length_set.trans (List.length_set.trans (zd)))]; omega
 refine m_t 2 2 (zl (a1 &&& (4294967295 : UInt64))) [.box bk1 [zl a0, zl a1, zl a2, zl a3] 34, .box bk6 (zh (zc 17 0)) 100, .box bk11 (zh (zp (zp (zp (zc 17 0) 0 (a0 &&& (4294967295 : UInt64))) 1 (a0 >>> za 32)) 2 (a1 &&& (4294967295 : UInt64)))) 100] En51 Hv41 rfl (zE hb52) (Z4 _ _ _) rfl fun _ _ En55 Hv56 => ?_
 refine f_e <| zg <| zm <| d_k [1,2,3,4,18,20] [] 5 En55 fun _ En58 => ?_
 refine f_o <| m_l 0 En58 Hv56 fun _ En60 => ?_
 refine d_k [1,2,3,4,22,23] [(6, g_i .u64 (Go.Dbr.u64_shr (x := a1) (n := 32) rfl (by decide)))] 8 En60 fun _ En62 => ?_
 refine f_o ?_
 have hb63 : 3 < ze (zp (zp (zp (zc 17 0) 0 (a0 &&& (4294967295 : UInt64))) 1 (a0 >>> za 32)) 2 (a1 &&& (4294967295 : UInt64))) := by rw [(List.length_set.trans (List.length_set.trans (List.length_set.trans (zd))))]; omega
 refine m_t 2 3 (zl (a1 >>> za 32)) [.box bk1 [zl a0, zl a1, zl a2, zl a3] 34, .box bk6 (zh (zc 17 0)) 100, .box bk11 (zh (zp (zp (zp (zp (zc 17 0) 0 (a0 &&& (4294967295 : UInt64))) 1 (a0 >>> za 32)) 2 (a1 &&& (4294967295 : UInt64))) 3 (a1 >>> za 32))) 100] En62 Hv56 rfl (zE hb63) (Z4 _ _ _) rfl fun _ _ En66 Hv67 => ?_
 refine f_e <| zv <| zg <| d_r [1,2,3,4] [] En66 fun _ En69 => ?_
 refine zg <| zF <| wp_seq <| d_s [1,2,3,4,6] [] En69 fun _ En71 => ?_
 refine c_t En71 ?_
 refine wp_skip <| zg <| wp_seq <| wp_block <| wp_seq <| zm <| d_k [1,2,3,4,10,12] [] 4 En71 fun _ En73 => ?_
 refine f_o <| m_l 0 En73 Hv67 fun _ En75 => ?_
 refine d_k [1,2,3,4,14,15] [(5, g_i .u64 (Go.Dbr.u64_and (x := a2) (y := (4294967295 : UInt64)) rfl rfl))] 7 En75 fun _ En77 => ?_
 refine f_o ?_
 have hb78 : 4 < ze (zp (zp (zp (zp (zc 17 0) 0 (a0 &&& (4294967295 : UInt64))) 1 (a0 >>> za 32)) 2 (a1 &&& (4294967295 : UInt64))) 3 (a1 >>> za 32)) := by rw [(List.length_set.trans (List.length_set.trans (List.length_set.trans (List.length_set.trans (zd)))))]; omega
 refine m_t 2 4 (zl (a2 &&& (4294967295 : UInt64))) [.box bk1 [zl a0, zl a1, zl a2, zl a3] 34, .box bk6 (zh (zc 17 0)) 100, .box bk11 (zh (zp (zp (zp (zp (zp (zc 17 0) 0 (a0 &&& (4294967295 : UInt64))) 1 (a0 >>> za 32)) 2 (a1 &&& (4294967295 : UInt64))) 3 (a1 >>> za 32)) 4 (a2 &&& (4294967295 : UInt64)))) 100] En77 Hv67 rfl (zE hb78) (Z4 _ _ _) rfl fun _ _ En81 Hv82 => ?_
 refine f_e <| zg <| zm <| d_k [1,2,3,4,18,20] [] 5 En81 fun _ En84 => ?_
 refine f_o <| m_l 0 En84 Hv82 fun _ En86 => ?_
 refine d_k [1,2,3,4,22,23] [(6, g_i .u64 (Go.Dbr.u64_shr (x := a2) (n := 32) rfl (by decide)))] 8 En86 fun _ En88 => ?_
 refine f_o ?_
 have hb89 : 5 < ze (zp (zp (zp (zp (zp (zc 17 0) 0 (a0 &&& (4294967295 : UInt64))) 1 (a0 >>> za 32)) 2 (a1 &&& (4294967295 : UInt64))) 3 (a1 >>> za 32)) 4 (a2 &&& (4294967295 : UInt64))) := by rw [(List.length_set.trans (List.length_set.trans (List.length_set.trans (List.length_set.trans (List.length_set.trans (zd))))))]; omega
 refine m_t 2 5 (zl (a2 >>> za 32)) [.box bk1 [zl a0, zl a1, zl a2, zl a3] 34, .box bk6 (zh (zc 17 0)) 100, .box bk11 (zh (zp (zp (zp (zp (zp (zp (zc 17 0) 0 (a0 &&& (4294967295 : UInt64))) 1 (a0 >>> za 32)) 2 (a1 &&& (4294967295 : UInt64))) 3 (a1 >>> za 32)) 4 (a2 &&& (4294967295 : UInt64))) 5 (a2 >>> za 32))) 100] En88 Hv82 rfl (zE hb89) (Z4 _ _ _) rfl fun _ _ En92 Hv93 => ?_
 refine f_e <| zv <| zg <| d_r [1,2,3,4] [] En92 fun _ En95 => ?_
 refine zg <| zF <| wp_seq <| d_s [1,2,3,4,6] [] En95 fun _ En97 => ?_
 refine c_t En97 ?_
 refine wp_skip <| zg <| wp_seq <| wp_block <| wp_seq <| zm <| d_k [1,2,3,4,10,12] [] 4 En97 fun _ En99 => ?_
 refine f_o <| m_l 0 En99 Hv93 fun _ En101 => ?_
 refine d_k [1,2,3,4,14,15] [(5, g_i .u64 (Go.Dbr.u64_and (x := a3) (y := (4294967295 : UInt64)) rfl rfl))] 7 En101 fun _ En103 => ?_
 refine f_o ?_
 have hb104 : 6 < ze (zp (zp (zp (zp (zp (zp (zc 17 0) 0 (a0 &&& (4294967295 : UInt64))) 1 (a0 >>> za 32)) 2 (a1 &&& (4294967295 : UInt64))) 3 (a1 >>> za 32)) 4 (a2 &&& (4294967295 : UInt64))) 5 (a2 >>> za 32)) := by rw [(List.length_set.trans (List.length_set.trans (List.length_set.trans (List.length_set.trans (List.length_set.trans (List.length_set.trans (zd)))))))]; omega
 refine m_t 2 6 (zl (a3 &&& (4294967295 : UInt64))) [.box bk1 [zl a0, zl a1, zl a2, zl a3] 34, .box bk6 (zh (zc 17 0)) 100, .box bk11 (zh (zp (zp (zp (zp (zp (zp (zp (zc 17 0) 0 (a0 &&& (4294967295 : UInt64))) 1 (a0 >>> za 32)) 2 (a1 &&& (4294967295 : UInt64))) 3 (a1 >>> za 32)) 4 (a2 &&& (4294967295 : UInt64))) 5 (a2 >>> za 32)) 6 (a3 &&& (4294967295 : UInt64)))) 100] En103 Hv93 rfl (zE hb104) (Z4 _ _ _) rfl fun _ _ En107 Hv108 => ?_
 refine f_e <| zg <| zm <| d_k [1,2,3,4,18,20] [] 5 En107 fun _ En110 => ?_
 refine f_o <| m_l 0 En110 Hv108 fun _ En112 => ?_
 refine d_k [1,2,3,4,22,23] [(6, g_i .u64 (Go.Dbr.u64_shr (x := a3) (n := 32) rfl (by decide)))] 8 En112 fun _ En114 => ?_
 refine f_o ?_
 have hb115 : 7 < ze (zp (zp (zp (zp (zp (zp (zp (zc 17 0) 0 (a0 &&& (4294967295 : UInt64))) 1 (a0 >>> za 32)) 2 (a1 &&& (4294967295 : UInt64))) 3 (a1 >>> za 32)) 4 (a2 &&& (4294967295 : UInt64))) 5 (a2 >>> za 32)) 6 (a3 &&& (4294967295 : UInt64))) := by rw [(List.length_set.trans (List.length_set.trans (List.length_set.trans (List.length_set.trans (List.length_set.trans (List.length_set.trans (List.length_set.trans (zd))))))))]; omega
 refine m_t 2 7 (zl (a3 >>> za 32)) [.box bk1 [zl a0, zl a1, zl a2, zl a3] 34, .box bk6 (zh (zc 17 0)) 100, .box bk11 (zh (zp (zp (zp (zp (zp (zp (zp (zp (zc 17 0) 0 (a0 &&& (4294967295 : UInt64))) 1 (a0 >>> za 32)) 2 (a1 &&& (4294967295 : UInt64))) 3 (a1 >>> za 32)) 4 (a2 &&& (4294967295 : UInt64))) 5 (a2 >>> za 32)) 6 (a3 &&& (4294967295 : UInt64))) 7 (a3 >>> za 32))) 100] En114 Hv108 rfl (zE hb115) (Z4 _ _ _) rfl fun _ _ En118 Hv119 => ?_
 refine f_e <| zv <| zg <| d_r [1,2,3,4] [] En118 fun _ En121 => ?_
 refine zg <| zF <| wp_seq <| d_s [1,2,3,4,6] [] En121 fun _ En123 => ?_
 refine c_f En123 ?_
 refine wp_exit <| zy <| zy <| zV <| zg <| wp_seq <| zm <| f_o <| m_a 2 0 17 (zh (zp (zp (zp (zp (zp (zp (zp (zp (zc 17 0) 0 (a0 &&& (4294967295 : UInt64))) 1 (a0 >>> za 32)) 2 (a1 &&& (4294967295 : UInt64))) 3 (a1 >>> za 32)) 4 (a2 &&& (4294967295 : UInt64))) 5 (a2 >>> za 32)) 6 (a3 &&& (4294967295 : UInt64))) 7 (a3 >>> za 32))) En123 Hv119 rfl (zn (zb (List.length_set.trans (List.length_set.trans (List.length_set.trans (List.length_set.trans (List.length_set.trans (List.length_set.trans (List.length_set.trans (List.length_set.trans (zd))))))))))) (zb (List.length_set.trans (List.length_set.trans (List.length_set.trans (List.length_set.trans (List.length_set.trans (List.length_set.trans (List.length_set.trans (List.length_set.trans (zd)))))))))) fun _ En125 => ?_
 refine f_o <| m_g 1 0 17 (zh (zp (zp (zp (zp (zp (zp (zp (zp (zc 17 0) 0 (a0 &&& (4294967295 : UInt64))) 1 (a0 >>> za 32)) 2 (a1 &&& (4294967295 : UInt64))) 3 (a1 >>> za 32)) 4 (a2 &&& (4294967295 : UInt64))) 5 (a2 >>> za 32)) 6 (a3 &&& (4294967295 : UInt64))) 7 (a3 >>> za 32))) _ [.box bk1 [zl a0, zl a1, zl a2, zl a3] 34, .box bk6 (zh (zp (zp (zp (zp (zp (zp (zp (zp (zc 17 0) 0 (a0 &&& (4294967295 : UInt64))) 1 (a0 >>> za 32)) 2 (a1 &&& (4294967295 : UInt64))) 3 (a1 >>> za 32)) 4 (a2 &&& (4294967295 : UInt64))) 5 (a2 >>> za 32)) 6 (a3 &&& (4294967295 : UInt64))) 7 (a3 >>> za 32))) 100, .box bk11 (zh (zp (zp (zp (zp (zp (zp (zp (zp (zc 17 0) 0 (a0 &&& (4294967295 : UInt64))) 1 (a0 >>> za 32)) 2 (a1 &&& (4294967295 : UInt64))) 3 (a1 >>> za 32)) 4 (a2 &&& (4294967295 : UInt64))) 5 (a2 >>> za 32)) 6 (a3 &&& (4294967295 : UInt64))) 7 (a3 >>> za 32))) 100] En125 Hv119 rfl (zb (List.length_set.trans (List.length_set.trans (List.length_set.trans (List.length_set.trans (List.length_set.trans (List.length_set.trans (List.length_set.trans (List.length_set.trans (zd)))))))))) (by rw [(zb (zd))]; first | decide | (simp; done)) (zu _) (zo (zb (zd))) rfl fun _ _ En128 Hv129 => ?_
 refine f_e <| zg <| wp_ret <| z5 (v := .agg (zi (zh (zp (zp (zp (zp (zp (zp (zp (zp (zc 17 0) 0 (a0 &&& (4294967295 : UInt64))) 1 (a0 >>> za 32)) 2 (a1 &&& (4294967295 : UInt64))) 3 (a1 >>> za 32)) 4 (a2 &&& (4294967295 : UInt64))) 5 (a2 >>> za 32)) 6 (a3 &&& (4294967295 : UInt64))) 7 (a3 >>> za 32))))) (t := 2) (T := 100) (ad := ⟨bk6, 0, none⟩) En128 (by kernel_rfl) (by kernel_rfl) (zx (t := 100) (k := 1) (off := 0) (m := 17) (xs := zh (zp (zp (zp (zp (zp (zp (zp (zp (zc 17 0) 0 (a0 &&& (4294967295 : UInt64))) 1 (a0 >>> za 32)) 2 (a1 &&& (4294967295 : UInt64))) 3 (a1 >>> za 32)) 4 (a2 &&& (4294967295 : UInt64))) 5 (a2 >>> za 32)) 6 (a3 &&& (4294967295 : UInt64))) 7 (a3 >>> za 32))) Hv129 rfl (zn (zb (List.length_set.trans (List.length_set.trans (List.length_set.trans (List.length_set.trans (List.length_set.trans (List.length_set.trans (List.length_set.trans (List.length_set.trans (zd))))))))))) (zb (List.length_set.trans (List.length_set.trans (List.length_set.trans (List.length_set.trans (List.length_set.trans (List.length_set.trans (List.length_set.trans (List.length_set.trans (zd)))))))))) (by kernel_rfl) (by kernel_rfl)) ?_
 have e : zp (zp (zp (zp (zp (zp (zp (zp (zc 17 0) 0 (a0 &&& (4294967295 : UInt64))) 1 (a0 >>> za 32)) 2 (a1 &&& (4294967295 : UInt64))) 3 (a1 >>> za 32)) 4 (a2 &&& (4294967295 : UInt64))) 5 (a2 >>> za 32)) 6 (a3 &&& (4294967295 : UInt64))) 7 (a3 >>> za 32) = n32 17 (nv [a0, a1, a2, a3]) := dg_eq a0 a1 a2 a3
 rw [e]
 exact ⟨rfl, Hv129.pk []⟩

theorem digits_go (w : World) (a : List UInt64) (ha : ze a = 4) : Calls Tryd.prog 85 #[.agg (zi (zh a))] w fun e w' => e = .returned (.agg (zi (zh (n32 17 (nv a))))) ∧ Ev w [] w' [] := by
  match a, ha with
  | [a0, a1, a2, a3], _ => exact digits4 w a0 a1 a2 a3

theorem number_go (w : World) (x : List UInt64) (hx : ze x = 17) (hd : DG x) : Calls Tryd.prog 96 #[.agg (zi (zh x))] w fun e w' => e = .returned (.agg (zi (zh (nd (dv 4294967296 x))))) ∧ Ev w [] w' [] := by
 refine d_0 [(0, .agg (zi (zh x)))] 28 Go.Proofs.Tryd.func96 Go.Proofs.Tryd.ntmps96 (Heap.nil _) fun act0 En0 Hv0 => ?_
 refine wp_seq <| zm <| f_o <| m_m 100 (zh x) En0 Hv0 fun _ _ bk1 En4 Hv5 => ?_
 refine f_o <| m_z 34 (zh (zc 4 0)) En4 Hv5 fun _ _ bk6 En9 Hv10 => ?_
 refine f_e <| zg <| wp_seq <| zm <| d_k [1,2,3] [] 1 En9 fun _ En12 => ?_
 refine f_o ?_
 have hb13 : 0 < ze x := by rw [hx]; omega
 refine m_v 0 0 (zl (zf x 0 0)) En12 Hv10 rfl (zE hb13) fun _ En15 => ?_
 refine d_k [1,2,4,5] [] 3 En15 fun _ En17 => ?_
 refine f_o ?_
 have hb18 : 1 < ze x := by rw [hx]; omega
 refine m_v 0 1 (zl (zf x 1 0)) En17 Hv10 rfl (zE hb18) fun _ En20 => ?_
 refine d_k [1,2,8,9] [(4, g_i .u64 (Go.Dbr.u64_shl (x := zf x 1 0) (n := 32) rfl (by decide))), (5, g_i .u64 (Go.Dbr.u64_or (x := zf x 0 0) (y := (zf x 1 0) <<< za 32) rfl rfl))] 7 En20 fun _ En22 => ?_
 refine f_o ?_
 have hb23 : 2 < ze x := by rw [hx]; omega
 refine m_v 0 2 (zl (zf x 2 0)) En22 Hv10 rfl (zE hb23) fun _ En25 => ?_
 refine d_k [1,2,8,10,11] [] 9 En25 fun _ En27 => ?_
 refine f_o ?_
 have hb28 : 3 < ze x := by rw [hx]; omega
 refine m_v 0 3 (zl (zf x 3 0)) En27 Hv10 rfl (zE hb28) fun _ En30 => ?_
 refine d_k [1,2,8,14,15] [(10, g_i .u64 (Go.Dbr.u64_shl (x := zf x 3 0) (n := 32) rfl (by decide))), (11, g_i .u64 (Go.Dbr.u64_or (x := zf x 2 0) (y := (zf x 3 0) <<< za 32) rfl rfl))] 13 En30 fun _ En32 => ?_
 refine f_o ?_
 have hb33 : 4 < ze x := by rw [hx]; omega
 refine m_v 0 4 (zl (zf x 4 0)) En32 Hv10 rfl (zE hb33) fun _ En35 => ?_
 refine d_k [1,2,8,14,16,17] [] 15 En35 fun _ En37 => ?_
 refine f_o ?_
 have hb38 : 5 < ze x := by rw [hx]; omega
 refine m_v 0 5 (zl (zf x 5 0)) En37 Hv10 rfl (zE hb38) fun _ En40 => ?_
 refine d_k [1,2,8,14,20,21] [(16, g_i .u64 (Go.Dbr.u64_shl (x := zf x 5 0) (n := 32) rfl (by decide))), (17, g_i .u64 (Go.Dbr.u64_or (x := zf x 4 0) (y := (zf x 5 0) <<< za 32) rfl rfl))] 19 En40 fun _ En42 => ?_
 refine f_o ?_
 have hb43 : 6 < ze x := by rw [hx]; omega
 refine m_v 0 6 (zl (zf x 6 0)) En42 Hv10 rfl (zE hb43) fun _ En45 => ?_
 refine d_k [2,8,14,20,22,23] [] 21 En45 fun _ En47 => ?_
 refine f_o ?_
 have hb48 : 7 < ze x := by rw [hx]; omega
 refine m_v 0 7 (zl (zf x 7 0)) En47 Hv10 rfl (zE hb48) fun _ En50 => ?_
 refine d_k [2,27] [(22, g_i .u64 (Go.Dbr.u64_shl (x := zf x 7 0) (n := 32) rfl (by decide))), (23, g_i .u64 (Go.Dbr.u64_or (x := zf x 6 0) (y := (zf x 7 0) <<< za 32) rfl rfl))] 25 En50 fun _ En52 => ?_
 refine f_o <| m_g 1 0 4 (zh ([(zf x 0 0) ||| ((zf x 1 0) <<< za 32), (zf x 2 0) ||| ((zf x 3 0) <<< za 32), (zf x 4 0) ||| ((zf x 5 0) <<< za 32), (zf x 6 0) ||| ((zf x 7 0) <<< za 32)] : List UInt64)) _ [.box bk1 (zh x) 100, .box bk6 (zh ([(zf x 0 0) ||| ((zf x 1 0) <<< za 32), (zf x 2 0) ||| ((zf x 3 0) <<< za 32), (zf x 4 0) ||| ((zf x 5 0) <<< za 32), (zf x 6 0) ||| ((zf x 7 0) <<< za 32)] : List UInt64)) 34] En52 Hv10 rfl (zb (show ze ([(zf x 0 0) ||| ((zf x 1 0) <<< za 32), (zf x 2 0) ||| ((zf x 3 0) <<< za 32), (zf x 4 0) ||| ((zf x 5 0) <<< za 32), (zf x 6 0) ||| ((zf x 7 0) <<< za 32)] : List UInt64) = 4 from rfl)) (by rw [(zb (zd))]; first | decide | (simp; done)) (zu _) (zo (zb (zd))) rfl fun _ _ En55 Hv56 => ?_
 refine f_e <| zg <| wp_ret <| z5 (v := .agg (zi (zh ([(zf x 0 0) ||| ((zf x 1 0) <<< za 32), (zf x 2 0) ||| ((zf x 3 0) <<< za 32), (zf x 4 0) ||| ((zf x 5 0) <<< za 32), (zf x 6 0) ||| ((zf x 7 0) <<< za 32)] : List UInt64)))) (t := 2) (T := 34) (ad := ⟨bk6, 0, none⟩) En55 (by kernel_rfl) (by kernel_rfl) (zx (t := 34) (k := 1) (off := 0) (m := 4) (xs := zh ([(zf x 0 0) ||| ((zf x 1 0) <<< za 32), (zf x 2 0) ||| ((zf x 3 0) <<< za 32), (zf x 4 0) ||| ((zf x 5 0) <<< za 32), (zf x 6 0) ||| ((zf x 7 0) <<< za 32)] : List UInt64)) Hv56 rfl (zn (zb (show ze ([(zf x 0 0) ||| ((zf x 1 0) <<< za 32), (zf x 2 0) ||| ((zf x 3 0) <<< za 32), (zf x 4 0) ||| ((zf x 5 0) <<< za 32), (zf x 6 0) ||| ((zf x 7 0) <<< za 32)] : List UInt64) = 4 from rfl))) (zb (show ze ([(zf x 0 0) ||| ((zf x 1 0) <<< za 32), (zf x 2 0) ||| ((zf x 3 0) <<< za 32), (zf x 4 0) ||| ((zf x 5 0) <<< za 32), (zf x 6 0) ||| ((zf x 7 0) <<< za 32)] : List UInt64) = 4 from rfl)) (by kernel_rfl) (by kernel_rfl)) ?_
 have e : ([(zf x 0 0) ||| ((zf x 1 0) <<< za 32), (zf x 2 0) ||| ((zf x 3 0) <<< za 32), (zf x 4 0) ||| ((zf x 5 0) <<< za 32), (zf x 6 0) ||| ((zf x 7 0) <<< za 32)] : List UInt64) = nd (dv 4294967296 x) := num_eq hx hd
 have e2 : Ending.returned (.agg (zi (zh ([(zf x 0 0) ||| ((zf x 1 0) <<< za 32), (zf x 2 0) ||| ((zf x 3 0) <<< za 32), (zf x 4 0) ||| ((zf x 5 0) <<< za 32), (zf x 6 0) ||| ((zf x 7 0) <<< za 32)] : List UInt64)))) = Ending.returned (.agg (zi (zh (nd (dv 4294967296 x))))) := congrArg (fun l : List UInt64 => Ending.returned (Value.agg (zh l).toArray)) e
 exact ⟨e2, Hv56.pk []⟩

theorem times_go (w : World) (a b : List UInt64) (ha : ze a = 4) (hb : ze b = 4) : Calls Tryd.prog 84 #[.agg (zi (zh a)), .agg (zi (zh b))] w fun e w' => e = .returned (.agg (zi (zh (n32 17 (nv a * nv b))))) ∧ Ev w [] w' [] := by
 refine d_0 [(0, .agg (zi (zh a))), (1, .agg (zi (zh b)))] 52 Go.Proofs.Tryd.func84 Go.Proofs.Tryd.ntmps84 (Heap.nil _) fun act0 En0 Hv0 => ?_
 refine wp_seq <| zm <| f_o <| m_m 34 (zh a) En0 Hv0 fun _ _ bk1 En4 Hv5 => ?_
 refine f_o <| m_m 34 (zh b) En4 Hv5 fun _ _ bk6 En9 Hv10 => ?_
 refine f_o <| m_z 100 (zh (zc 17 0)) En9 Hv10 fun _ _ bk11 En14 Hv15 => ?_
 refine f_e <| zg <| wp_seq <| zm <| f_o <| m_a 0 0 4 (zh a) En14 Hv15 rfl (zn (zb ha)) (zb ha) fun _ En17 => ?_
 refine f_o <| c_p En17 Hv15 (digits_go _ a ha) fun _ _ En23 Hv24 => ?_
 refine f_o <| m_z 100 (zh (zc 17 0)) En23 Hv24 fun _ _ bk25 En28 Hv29 => ?_
 refine f_o <| m_g 3 0 17 (zh (n32 17 (nv a))) _ [.box bk1 (zh a) 34, .box bk6 (zh b) 34, .box bk11 (zh (zc 17 0)) 100, .box bk25 (zh (n32 17 (nv a))) 100] En28 Hv29 rfl (zb (Ya _ _)) (by rw [(zb (zd))]; first | decide | (simp; done)) (zu _) (zo (zb (zd))) rfl fun _ _ En32 Hv33 => ?_
 refine f_e <| zg <| wp_seq <| zm <| f_o <| m_a 1 0 4 (zh b) En32 Hv33 rfl (zn (zb hb)) (zb hb) fun _ En35 => ?_
 refine f_o <| c_p En35 Hv33 (digits_go _ b hb) fun _ _ En41 Hv42 => ?_
 refine f_o <| m_z 100 (zh (zc 17 0)) En41 Hv42 fun _ _ bk43 En46 Hv47 => ?_
 refine f_o <| m_g 4 0 17 (zh (n32 17 (nv b))) _ [.box bk1 (zh a) 34, .box bk6 (zh b) 34, .box bk11 (zh (zc 17 0)) 100, .box bk25 (zh (n32 17 (nv a))) 100, .box bk43 (zh (n32 17 (nv b))) 100] En46 Hv47 rfl (zb (Ya _ _)) (by rw [(zb (zd))]; first | decide | (simp; done)) (zu _) (zo (zb (zd))) rfl fun _ _ En50 Hv51 => ?_
 refine f_e <| zg <| wp_seq <| zm <| f_o <| m_z 100 (zh (zc 17 0)) En50 Hv51 fun _ _ bk52 En55 Hv56 => ?_
 refine f_e <| zg <| wp_seq <| wp_seq <| d_r [4,5,6,7,8] [] En55 fun _ En58 => ?_
 refine zg <| wp_block <| Qa (fun ms59 ac wo => ∃ (i : Nat) (t : List UInt64), ms59 = (8 - i : Nat) ∧ Env ac 52 [(4, pt bk11), (5, pt bk25), (6, pt bk43), (7, pt bk52), (8, ni i)] ∧ Ev w [] wo [.box bk52 (zh t) 100, .box bk11 (zh (zc 17 0)) 100, .box bk25 (zh (n32 17 (nv a))) 100, .box bk43 (zh (n32 17 (nv b))) 100] ∧ (i ≤ 8) ∧ (ze t = 17) ∧ (DG t) ∧ (dv 4294967296 t = dk (n32 17 (nv a)) i * nv b) ∧ (∀ j, i + 8 ≤ j → zf t j 0 = 0)) ⟨_, 0, zc 17 0, rfl, En58.sb, Hv56.pk [5, 2, 3, 4], by omega, (zd), DG.rep, by rw [dv_replicate]; simp [dk], fun j _ => zeros17 j⟩ ?_
 rintro mm65 _ _ ⟨i, t, rfl, En63, Hv64, hi, hlt, hdt, hv, hz⟩
 refine wp_seq <| wp_seq <| d_r [4,5,6,7,8,17] [] En63 fun _ En67 => ?_
 refine zg <| c_d (((i : Nat) : Int) < (8 : Int)) En67 (fun hc68 => ?_) (fun hc68 => ?_)
 ·
  refine wp_skip <| zg <| wp_seq <| wp_block <| wp_seq <| d_r [4,5,6,7,8,9] [] En67 fun _ En70 => ?_
  refine zg <| wp_seq <| wp_seq <| d_r [4,5,6,7,8,9,10] [] En70 fun _ En72 => ?_
  refine zg <| wp_block <| Qa (fun ms73 ac wo => ∃ (k : Nat) (u : List UInt64) (c : UInt64), ms73 = (8 - k : Nat) ∧ Env ac 52 [(4, pt bk11), (5, pt bk25), (6, pt bk43), (7, pt bk52), (8, ni i), (9, zl c), (10, ni k)] ∧ Ev w [] wo [.box bk52 (zh u) 100, .box bk11 (zh (zc 17 0)) 100, .box bk25 (zh (n32 17 (nv a))) 100, .box bk43 (zh (n32 17 (nv b))) 100] ∧ (k ≤ 8) ∧ (ze u = 17) ∧ (DG u) ∧ (c.toNat < 4294967296) ∧ (dv 4294967296 u + c.toNat * 4294967296 ^ (i + k) = dk (n32 17 (nv a)) i * nv b + dk (n32 17 (nv b)) k * (zf (n32 17 (nv a)) i 0).toNat * 4294967296 ^ i) ∧ (∀ j, i + 8 ≤ j → zf u j 0 = 0)) ⟨_, 0, t, 0, rfl, En72.sb, Hv64.pk [0, 1, 2, 3], by omega, hlt, hdt, by decide, by rw [hv]; simp [dk], hz⟩ ?_
  rintro mm79 _ _ ⟨k, u, c, rfl, En77, Hv78, hk, hlu, hdu, hcu, hv2, hz2⟩
  refine wp_seq <| wp_seq <| d_r [4,5,6,7,8,9,10,21] [] En77 fun _ En81 => ?_
  refine zg <| c_d (((k : Nat) : Int) < (8 : Int)) En81 (fun hc82 => ?_) (fun hc82 => ?_)
  ·
   refine wp_skip <| zg <| wp_seq <| wp_block <| wp_seq <| r_c (fun ac wo => Env ac 52 [(4, pt bk11), (5, pt bk25), (6, pt bk43), (7, pt bk52), (8, ni i), (9, zl c), (10, ni k), (11, zl (((zf u (i + k) 0) + ((zf (n32 17 (nv a)) i 0) * (zf (n32 17 (nv b)) k 0))) + c))] ∧ Ev w [] wo [.box bk52 (zh u) 100, .box bk11 (zh (zc 17 0)) 100, .box bk25 (zh (n32 17 (nv a))) 100, .box bk43 (zh (n32 17 (nv b))) 100]) ?_ ?_
   ·
    refine h_s (fun wv => Ev w [] wv [.box bk52 (zh u) 100, .box bk25 (zh (n32 17 (nv a))) 100, .box bk43 (zh (n32 17 (nv b))) 100]) [] 16 ?_
    have wo83 := Hv78.trans (zQ Hv78.heap)
    refine q_s [0,1,2] [(2, g_n (w_a i k))] 13 En81 (wo83.pk [0, 2, 3]) fun _ En166 => ?_
    refine q_f 3 (s := Instr.indexAt 100 (pt bk52) (ni (i + k))) (v := .pointer (some ⟨bk52, i + k, none⟩)) En166 (fun _ => Go.Dbr.run_indexarr (e := 32) (sz := 1) (m := 17) (j := i + k) (o := i + k) (by kernel_rfl) (by kernel_rfl) (by omega) (by omega) (by omega) _) (fun _ => wo83.pk [0, 2, 3]) fun _ En168 => ?_
    have hb169 : i + k < ze u := by rw [hlu]; omega
    refine q_r 4 (s := Instr.loadAt 32 (.pointer (some ⟨bk52, i + k, none⟩))) (v := zl (zf u (i + k) 0)) En168 (fun w hS => ZC (by kernel_rfl) (hS.heap.cell (k := 0) rfl (zE hb169))) (wo83.pk [0, 2, 3]) fun _ En171 => ?_
    refine q_s [5] [] 10 En171 (wo83.pk [0, 2, 3]) fun _ En173 => ?_
    refine q_f 6 (s := Instr.indexAt 100 (pt bk25) (ni i)) (v := .pointer (some ⟨bk25, i, none⟩)) En173 (fun _ => Go.Dbr.run_indexarr (e := 32) (sz := 1) (m := 17) (j := i) (o := i) (by kernel_rfl) (by kernel_rfl) (by omega) (by omega) (by omega) _) (fun _ => wo83.pk [0, 2, 3]) fun _ En175 => ?_
    have hb176 : i < ze (n32 17 (nv a)) := by rw [(Ya _ _)]; omega
    refine q_r 7 (s := Instr.loadAt 32 (.pointer (some ⟨bk25, i, none⟩))) (v := zl (zf (n32 17 (nv a)) i 0)) En175 (fun w hS => ZC (by kernel_rfl) (hS.heap.cell (k := 1) rfl (zE hb176))) (wo83.pk [0, 2, 3]) fun _ En178 => ?_
    refine q_s [8] [] 7 En178 (wo83.pk [0, 2, 3]) fun _ En180 => ?_
    refine q_f 9 (s := Instr.indexAt 100 (pt bk43) (ni k)) (v := .pointer (some ⟨bk43, k, none⟩)) En180 (fun _ => Go.Dbr.run_indexarr (e := 32) (sz := 1) (m := 17) (j := k) (o := k) (by kernel_rfl) (by kernel_rfl) (by omega) (by omega) (by omega) _) (fun _ => wo83.pk [0, 2, 3]) fun _ En182 => ?_
    have hb183 : k < ze (n32 17 (nv b)) := by rw [(Ya _ _)]; omega
    refine q_r 10 (s := Instr.loadAt 32 (.pointer (some ⟨bk43, k, none⟩))) (v := zl (zf (n32 17 (nv b)) k 0)) En182 (fun w hS => ZC (by kernel_rfl) (hS.heap.cell (k := 2) rfl (zE hb183))) (wo83.pk [0, 2, 3]) fun _ En185 => ?_
    refine q_s [11,12,13,14,15] [(11, g_i .u64 (Go.Dbr.u64_mul (x := zf (n32 17 (nv a)) i 0) (y := zf (n32 17 (nv b)) k 0) rfl rfl)), (12, g_i .u64 (Go.Dbr.u64_add (x := zf u (i + k) 0) (y := (zf (n32 17 (nv a)) i 0) * (zf (n32 17 (nv b)) k 0)) rfl rfl)), (14, g_i .u64 (Go.Dbr.u64_add (x := (zf u (i + k) 0) + ((zf (n32 17 (nv a)) i 0) * (zf (n32 17 (nv b)) k 0))) (y := c) rfl rfl))] 0 En185 (wo83.pk [0, 2, 3]) fun _ En187 => ?_
    exact h_e ⟨En187.sb, wo83.pk [0, 1, 2, 3]⟩
   rintro _ _ ⟨En190, Hv191⟩
   refine zg <| wp_seq <| zm <| d_k [4,5,6,7,8,9,10,11,41,43] [(2, g_n (w_a i k)), (4, g_i .u64 (Go.Dbr.u64_and (x := ((zf u (i + k) 0) + ((zf (n32 17 (nv a)) i 0) * (zf (n32 17 (nv b)) k 0))) + c) (y := (4294967295 : UInt64)) rfl rfl))] 5 En190 fun _ En193 => ?_
   refine f_o <| q_v (x := Instr.indexAt 100 (pt bk52) (ni (i + k))) (v := .pointer (some ⟨bk52, i + k, none⟩)) En193 (Go.Dbr.run_indexarr (e := 32) (sz := 1) (m := 17) (j := i + k) (o := i + k) (by kernel_rfl) (by kernel_rfl) (by omega) (by omega) (by omega) _) fun _ En195 => ?_
   refine f_o ?_
   have hb196 : i + k < ze u := by rw [hlu]; omega
   refine m_t 0 (i + k) (zl ((((zf u (i + k) 0) + ((zf (n32 17 (nv a)) i 0) * (zf (n32 17 (nv b)) k 0))) + c) &&& (4294967295 : UInt64))) [.box bk52 (zh (zp u (i + k) ((((zf u (i + k) 0) + ((zf (n32 17 (nv a)) i 0) * (zf (n32 17 (nv b)) k 0))) + c) &&& (4294967295 : UInt64)))) 100, .box bk11 (zh (zc 17 0)) 100, .box bk25 (zh (n32 17 (nv a))) 100, .box bk43 (zh (n32 17 (nv b))) 100] En195 Hv191 rfl (zE hb196) (Z4 _ _ _) rfl fun _ _ En199 Hv200 => ?_
   refine f_e <| zg <| d_r [4,5,6,7,8,9,10,11] [(1, g_i .u64 (Go.Dbr.u64_shr (x := ((zf u (i + k) 0) + ((zf (n32 17 (nv a)) i 0) * (zf (n32 17 (nv b)) k 0))) + c) (n := 32) rfl (by decide)))] En199 fun _ En202 => ?_
   refine zv <| zg <| d_r [4,5,6,7,8,9,10,11] [(1, g_n (w_a k 1))] En202 fun _ En204 => ?_
   refine zg <| ⟨_, ⟨k + 1, (zp u (i + k) ((((zf u (i + k) 0) + ((zf (n32 17 (nv a)) i 0) * (zf (n32 17 (nv b)) k 0))) + c) &&& (4294967295 : UInt64))), ((((zf u (i + k) 0) + ((zf (n32 17 (nv a)) i 0) * (zf (n32 17 (nv b)) k 0))) + c) >>> za 32), rfl, En204.sb, Hv200.pk [0, 1, 2, 3], by omega, by simp [hlu], hdu.set (Xy _), Xg _, times_in hlu (by omega) hdu (n32_dig _ _) (n32_dig _ _) hcu hv2 rfl, fun j hj => by rw [getD_set_ne _ (by omega)]; exact hz2 j hj⟩, ?_⟩
   omega
  refine wp_exit <| zy <| zy <| zV <| zg ?_
  have hk8 : k = 8 := by omega
  refine zm <| d_k [4,5,6,7,8,9,10,48,49] [(1, g_n (w_a i 8))] 3 En81 fun _ En206 => ?_
  refine f_o <| q_v (x := Instr.indexAt 100 (pt bk52) (ni (i + 8))) (v := .pointer (some ⟨bk52, i + 8, none⟩)) En206 (Go.Dbr.run_indexarr (e := 32) (sz := 1) (m := 17) (j := i + 8) (o := i + 8) (by kernel_rfl) (by kernel_rfl) (by omega) (by omega) (by omega) _) fun _ En208 => ?_
  refine f_o ?_
  have hb209 : i + 8 < ze u := by rw [hlu]; omega
  refine m_t 0 (i + 8) (zl c) [.box bk52 (zh (zp u (i + 8) c)) 100, .box bk11 (zh (zc 17 0)) 100, .box bk25 (zh (n32 17 (nv a))) 100, .box bk43 (zh (n32 17 (nv b))) 100] En208 Hv78 rfl (zE hb209) (Z4 _ _ _) rfl fun _ _ En212 Hv213 => ?_
  refine f_e <| zv <| zg <| d_r [4,5,6,7,8,9,10] [(1, g_n (w_a i 1))] En212 fun _ En215 => ?_
  refine zg <| ⟨_, ⟨i + 1, (zp u (i + 8) c), rfl, En215.sb, Hv213.pk [0, 1, 2, 3], by omega, by simp [hlu], hdu.set hcu, times_out hlu (by omega) (hz2 _ (by omega)) (dk_nv hb) (by rw [hk8] at hv2; exact hv2), fun j hj => by rw [getD_set_ne _ (by omega)]; exact hz2 j (by omega)⟩, ?_⟩
  omega
 refine wp_exit <| zy <| zy <| zV <| zg <| wp_seq <| zm <| f_o <| m_a 0 0 17 (zh t) En67 Hv64 rfl (zn (zb hlt)) (zb hlt) fun _ En217 => ?_
 refine f_o <| m_g 1 0 17 (zh t) _ [.box bk52 (zh t) 100, .box bk11 (zh t) 100, .box bk25 (zh (n32 17 (nv a))) 100, .box bk43 (zh (n32 17 (nv b))) 100] En217 Hv64 rfl (zb hlt) (by rw [(zb (zd))]; first | decide | (simp; done)) (zu _) (zo (zb (zd))) rfl fun _ _ En220 Hv221 => ?_
 refine f_e <| zg <| wp_ret <| z5 (v := .agg (zi (zh t))) (t := 4) (T := 100) (ad := ⟨bk11, 0, none⟩) En220 (by kernel_rfl) (by kernel_rfl) (zx (t := 100) (k := 1) (off := 0) (m := 17) (xs := zh t) Hv221 rfl (zn (zb hlt)) (zb hlt) (by kernel_rfl) (by kernel_rfl)) ?_
 have hi8 : i = 8 := by omega
 have hte : t = n32 17 (nv a * nv b) := n32_of hlt hdt (by rw [hv, hi8, dk_nv ha])
 subst hte
 exact ⟨rfl, Hv221.pk []⟩

end Go.Proofs.YtlnogkmnklfjlaaDoor

/- Layer 4, the document: what digits leave. -/

namespace Go.Proofs.YtlnogkmnklfjlaaDoor
open Go.Dbr
set_option maxRecDepth 100000
set_option maxHeartbeats 2000000
set_option linter.unusedVariables false
set_option linter.unusedSimpArgs false

/-- what 2^256 leaves: its digits, and how many there are -/
def cF (f : Int) : List UInt64 := if f = 1 then [38, 0, 0, 0, 0, 0, 0, 0] else if f = 2 then [1, 0, 0, 4294967295, 4294967295, 4294967295, 4294967294, 0] else [60611247, 205927741, 1491624315, 1125713234, 0, 0, 4294967295, 0]
def mny (f : Int) : Nat := if f = 1 then 1 else 7
def eF (f : Int) : Nat := if f = 1 then 2 else 1
theorem cF_len (f : Int) : (cF f).length = 8 := by unfold cF; split; rfl; split <;> rfl
theorem mny_le (f : Int) : mny f ≤ 7 := by unfold mny; split <;> decide
theorem DG8 {l : List UInt64} (h : (l.all fun x => decide (x.toNat < 4294967296)) = true) : DG l := fun j => by
  rcases ZJ j l.length with q | q
  · rw [zR, List.getElem?_eq_getElem q]
    exact of_decide_eq_true (List.all_eq_true.1 h _ (List.getElem_mem q))
  · rw [zR, ZO q]; decide
theorem cF_dig {f : Int} (h3 : f = 1 ∨ f = 2 ∨ f = 3) : DG (cF f) := by rcases h3 with rfl | rfl | rfl <;> exact DG8 (by decide +kernel)
theorem cF_val {f : Int} (h3 : f = 1 ∨ f = 2 ∨ f = 3) : dk (cF f) 7 + eF f * mF f = 4294967296 ^ 8 := by rcases h3 with rfl | rfl | rfl <;> decide +kernel
theorem cF_over {f : Int} (h3 : f = 1 ∨ f = 2 ∨ f = 3) {k : Nat} (hk : mny f ≤ k) : zf (cF f) k 0 = 0 := by
  by_cases h8 : k < 8
  · rcases h3 with rfl | rfl | rfl
    · match k, hk, h8 with
      | 1, _, _ | 2, _, _ | 3, _, _ | 4, _, _ | 5, _, _ | 6, _, _ | 7, _, _ => rfl
    · match k, hk, h8 with
      | 7, _, _ => rfl
    · match k, hk, h8 with
      | 7, _, _ => rfl
  · rw [zR, ZO (by rw [cF_len]; omega)]; rfl
theorem dk_over {f : Int} (h3 : f = 1 ∨ f = 2 ∨ f = 3) {k : Nat} (hk : mny f ≤ k) : dk (cF f) k = dk (cF f) 7 := by
  have key : ∀ j, dk (cF f) (mny f + j) = dk (cF f) (mny f) := fun j => by
    induction j with
    | zero => rfl
    | succ j ih => rw [← Zq, dk, ih, cF_over h3 (by omega)]; simp
  have h7 := mny_le f
  have e1 := key (k - mny f)
  have e2 := key (7 - mny f)
  rw [show mny f + (k - mny f) = k by omega] at e1
  rw [show mny f + (7 - mny f) = 7 by omega] at e2
  rw [e1, e2]
theorem dk_c_lt {f : Int} (h3 : f = 1 ∨ f = 2 ∨ f = 3) (k : Nat) : dk (cF f) k < 4294967296 ^ 8 := by
  by_cases hk : mny f ≤ k
  · rw [dk_over h3 hk]; exact QC (dk_lt (cF_dig h3) 7) (by decide)
  · have := mny_le f
    exact QC (dk_lt (cF_dig h3) k) (QN (by decide) (by omega))
/-- one more digit of what is added -/
theorem left_in {u c : List UInt64} {V p k : Nat} {d t g : UInt64} (hlu : u.length = 17) (hj : p + k < 17) (hv : dv 4294967296 u + g.toNat * 4294967296 ^ (p + k) = V + d.toNat * dk c k * 4294967296 ^ p)
    (ht : t.toNat = (zf u (p + k) 0).toNat + d.toNat * (zf c k 0).toNat + g.toNat) :
    dv 4294967296 (zp u (p + k) (t &&& 4294967295)) + (t >>> za 32).toNat * 4294967296 ^ (p + (k + 1)) = V + d.toNat * dk c (k + 1) * 4294967296 ^ p := by
  rw [← Zq, set32 (by omega) hv ht, dk, Qq, Zo, Zq]
  congr 2
  rw [Zy]
  ac_rfl
theorem left_idx {u c : List UInt64} {V p k : Nat} {d g : UInt64} (hp : p ≤ 8) (hV : V < 4294967296 ^ (p + 8)) (hd : d.toNat < 4294967296) (hC : dk c k < 4294967296 ^ 8) (hg : 0 < g.toNat)
    (hv : dv 4294967296 u + g.toNat * 4294967296 ^ (p + k) = V + d.toNat * dk c k * 4294967296 ^ p) : k ≤ 8 := by
  rcases ZJ 8 k with h | h
  · exfalso
    have h1 : 4294967296 ^ (p + 9) ≤ 4294967296 ^ (p + k) := QN (by decide) (by omega)
    have h2 : 4294967296 ^ (p + k) ≤ g.toNat * 4294967296 ^ (p + k) := Nat.le_mul_of_pos_left _ hg
    have h3 : d.toNat * dk c k ≤ 4294967295 * 4294967296 ^ 8 := Qd (by omega) (by omega)
    have h4 : d.toNat * dk c k * 4294967296 ^ p ≤ 4294967295 * 4294967296 ^ 8 * 4294967296 ^ p := Z0 _ h3
    rw [Zy] at hV h1
    rw [z6 4294967296 8] at h1
    generalize 4294967296 ^ p = q at *
    have e8 : (4294967296 : Nat) ^ 8 = 115792089237316195423570985008687907853269984665640564039457584007913129639936 := by decide
    rw [e8] at hV h1 h4
    omega
  · exact h
theorem zero_above {w : List UInt64} (hd : DG w) {q : Nat} (h : dv 4294967296 w < 4294967296 ^ (q + 1)) : dv 4294967296 w = dk w q + (zf w q 0).toNat * 4294967296 ^ q := by
  have e := dk_split w (q + 1)
  have h0 : dv 4294967296 (zs (q + 1) w) = 0 := by
    rcases Nat.eq_zero_or_pos (dv 4294967296 (zs (q + 1) w)) with z | z
    · exact z
    · have := Nat.le_mul_of_pos_right (4294967296 ^ (q + 1)) z
      omega
  rw [h0, ZY, Zp] at e
  exact e
theorem top_out {w : List UInt64} (hd : DG w) {q : Nat} (hq : q < w.length) (h : dv 4294967296 w < 4294967296 ^ (q + 1)) : dv 4294967296 (zp w q 0) = dk w q ∧ dv 4294967296 (zp w q 0) < 4294967296 ^ q ∧ dv 4294967296 w = dv 4294967296 (zp w q 0) + (zf w q 0).toNat * 4294967296 ^ q := by
  have e := zero_above hd h
  have e2 := JK 4294967296 0 w q hq
  have l := dk_lt hd q
  rw [show (0 : UInt64).toNat = 0 from rfl, ZQ] at e2
  omega
/-- what comes of a digit that is taken away -/
theorem left_out {f : Int} (h3 : f = 1 ∨ f = 2 ∨ f = 3) {u w : List UInt64} {q k n : Nat} {g : UInt64} (hq : 8 ≤ q) (hk : mny f ≤ k) (hg : g.toNat = 0) (hw : dv 4294967296 w = dv 4294967296 (zp w q 0) + (zf w q 0).toNat * 4294967296 ^ q) (h0 : (zf w q 0).toNat ≠ 0)
    (hm : dv 4294967296 w % mF f = n % mF f) (hv : dv 4294967296 u + g.toNat * 4294967296 ^ (q - 8 + k) = dv 4294967296 (zp w q 0) + (zf w q 0).toNat * dk (cF f) k * 4294967296 ^ (q - 8)) :
    dv 4294967296 u % mF f = n % mF f ∧ dv 4294967296 u < dv 4294967296 w := by
  have hc := cF_val h3
  have hcl : dk (cF f) 7 < 4294967296 ^ 8 := dk_c_lt h3 7
  rw [hg, ZQ, Zp, dk_over h3 hk] at hv
  have hq2 : 4294967296 ^ q = 4294967296 ^ 8 * 4294967296 ^ (q - 8) := by rw [← Zy, show 8 + (q - 8) = q by omega]
  rw [hq2, ← hc] at hw
  have ex : (zf w q 0).toNat * ((dk (cF f) 7 + eF f * mF f) * 4294967296 ^ (q - 8)) = (zf w q 0).toNat * dk (cF f) 7 * 4294967296 ^ (q - 8) + mF f * ((zf w q 0).toNat * eF f * 4294967296 ^ (q - 8)) := by
    rw [Zo, Qq]
    congr 1
    · rw [Zz]
    · ac_rfl
  rw [ex] at hw
  constructor
  · rw [← hm, hw, hv, ← Zq, Nat.add_mul_mod_self_left]
  · have hpos : 0 < mF f * ((zf w q 0).toNat * eF f * 4294967296 ^ (q - 8)) := by
      refine JX ?_ (JX (JX (by omega) ?_) (XG (by decide)))
      · have := mF_pos (f := f) (by omega); omega
      · unfold eF; split <;> decide
    omega

theorem above1 (w : World) : Calls Tryd.prog 95 #[.int .i64 1] w fun e w' => e = .returned (.tuple #[.agg (zi (zh (cF 1))), ni (mny 1)]) ∧ Ev w [] w' [] := by
 refine d_0 [(0, .int .i64 1)] 12 Go.Proofs.Tryd.func95 Go.Proofs.Tryd.ntmps95 (Heap.nil _) fun act0 En0 Hv0 => ?_
 refine wp_seq <| zm <| f_o <| m_z 91 (zh (zc 8 0)) En0 Hv0 fun _ _ bk1 En4 Hv5 => ?_
 refine d_e [0,2,3] [] En4 fun _ En7 => ?_
 refine zg <| wp_seq <| d_s [2,3,4] [] En7 fun _ En9 => ?_
 refine wp_block <| d_s [2,3,4,5] [] En9 fun _ En11 => ?_
 refine c_t En11 ?_
 refine wp_seq <| zm <| d_k [2,3,4,7] [] 1 En11 fun _ En13 => ?_
 refine f_o <| m_g 0 0 8 (zh ([38, 0, 0, 0, 0, 0, 0, 0] : List UInt64)) _ [.box bk1 (zh ([38, 0, 0, 0, 0, 0, 0, 0] : List UInt64)) 91] En13 Hv5 rfl (zb (show ze ([38, 0, 0, 0, 0, 0, 0, 0] : List UInt64) = 8 from rfl)) (by rw [(zb (zd))]; first | decide | (simp; done)) (zu _) (zo (zb (zd))) rfl fun _ _ En16 Hv17 => ?_
 refine d_e [2,3,4] [] En16 fun _ En19 => ?_
 refine zg <| wp_ret <| block_ret <| then_ret <| Zn (v := .agg (zi (zh ([38, 0, 0, 0, 0, 0, 0, 0] : List UInt64)))) (x := .int .i64 1) (t := 2) (T := 91) (ad := ⟨bk1, 0, none⟩) (u := 3) En19 (by kernel_rfl) (by kernel_rfl) (zx (t := 91) (k := 0) (off := 0) (m := 8) (xs := zh ([38, 0, 0, 0, 0, 0, 0, 0] : List UInt64)) Hv17 rfl (zn (zb (show ze ([38, 0, 0, 0, 0, 0, 0, 0] : List UInt64) = 8 from rfl))) (zb (show ze ([38, 0, 0, 0, 0, 0, 0, 0] : List UInt64) = 8 from rfl)) (by kernel_rfl) (by kernel_rfl)) (by kernel_rfl) ?_
 exact ⟨by kernel_rfl, Hv17.pk []⟩

theorem above2 (w : World) : Calls Tryd.prog 95 #[.int .i64 2] w fun e w' => e = .returned (.tuple #[.agg (zi (zh (cF 2))), ni (mny 2)]) ∧ Ev w [] w' [] := by
 refine d_0 [(0, .int .i64 2)] 12 Go.Proofs.Tryd.func95 Go.Proofs.Tryd.ntmps95 (Heap.nil _) fun act0 En0 Hv0 => ?_
 refine wp_seq <| zm <| f_o <| m_z 91 (zh (zc 8 0)) En0 Hv0 fun _ _ bk1 En4 Hv5 => ?_
 refine d_e [0,2,3] [] En4 fun _ En7 => ?_
 refine zg <| wp_seq <| d_s [2,3,4] [] En7 fun _ En9 => ?_
 refine wp_block <| d_s [2,3,4,5] [] En9 fun _ En11 => ?_
 refine c_f En11 ?_
 refine d_s [2,3,4,8] [] En11 fun _ En13 => ?_
 refine c_t En13 ?_
 refine wp_seq <| zm <| d_k [2,3,4,10] [] 1 En13 fun _ En15 => ?_
 refine f_o <| m_g 0 0 8 (zh ([1, 0, 0, 4294967295, 4294967295, 4294967295, 4294967294, 0] : List UInt64)) _ [.box bk1 (zh ([1, 0, 0, 4294967295, 4294967295, 4294967295, 4294967294, 0] : List UInt64)) 91] En15 Hv5 rfl (zb (show ze ([1, 0, 0, 4294967295, 4294967295, 4294967295, 4294967294, 0] : List UInt64) = 8 from rfl)) (by rw [(zb (zd))]; first | decide | (simp; done)) (zu _) (zo (zb (zd))) rfl fun _ _ En18 Hv19 => ?_
 refine d_e [2,3,4] [] En18 fun _ En21 => ?_
 refine zg <| wp_ret <| block_ret <| then_ret <| Zn (v := .agg (zi (zh ([1, 0, 0, 4294967295, 4294967295, 4294967295, 4294967294, 0] : List UInt64)))) (x := .int .i64 7) (t := 2) (T := 91) (ad := ⟨bk1, 0, none⟩) (u := 3) En21 (by kernel_rfl) (by kernel_rfl) (zx (t := 91) (k := 0) (off := 0) (m := 8) (xs := zh ([1, 0, 0, 4294967295, 4294967295, 4294967295, 4294967294, 0] : List UInt64)) Hv19 rfl (zn (zb (show ze ([1, 0, 0, 4294967295, 4294967295, 4294967295, 4294967294, 0] : List UInt64) = 8 from rfl))) (zb (show ze ([1, 0, 0, 4294967295, 4294967295, 4294967295, 4294967294, 0] : List UInt64) = 8 from rfl)) (by kernel_rfl) (by kernel_rfl)) (by kernel_rfl) ?_
 exact ⟨by kernel_rfl, Hv19.pk []⟩

theorem above3 (w : World) : Calls Tryd.prog 95 #[.int .i64 3] w fun e w' => e = .returned (.tuple #[.agg (zi (zh (cF 3))), ni (mny 3)]) ∧ Ev w [] w' [] := by
 refine d_0 [(0, .int .i64 3)] 12 Go.Proofs.Tryd.func95 Go.Proofs.Tryd.ntmps95 (Heap.nil _) fun act0 En0 Hv0 => ?_
 refine wp_seq <| zm <| f_o <| m_z 91 (zh (zc 8 0)) En0 Hv0 fun _ _ bk1 En4 Hv5 => ?_
 refine d_e [0,2,3] [] En4 fun _ En7 => ?_
 refine zg <| wp_seq <| d_s [2,3,4] [] En7 fun _ En9 => ?_
 refine wp_block <| d_s [2,3,4,5] [] En9 fun _ En11 => ?_
 refine c_f En11 ?_
 refine d_s [2,3,4,8] [] En11 fun _ En13 => ?_
 refine c_f En13 ?_
 refine wp_skip <| zv <| zg <| wp_seq <| zm <| d_k [2,3,4,11] [] 1 En13 fun _ En15 => ?_
 refine f_o <| m_g 0 0 8 (zh ([60611247, 205927741, 1491624315, 1125713234, 0, 0, 4294967295, 0] : List UInt64)) _ [.box bk1 (zh ([60611247, 205927741, 1491624315, 1125713234, 0, 0, 4294967295, 0] : List UInt64)) 91] En15 Hv5 rfl (zb (show ze ([60611247, 205927741, 1491624315, 1125713234, 0, 0, 4294967295, 0] : List UInt64) = 8 from rfl)) (by rw [(zb (zd))]; first | decide | (simp; done)) (zu _) (zo (zb (zd))) rfl fun _ _ En18 Hv19 => ?_
 refine d_e [2,3,4] [] En18 fun _ En21 => ?_
 refine zg <| wp_ret <| Zn (v := .agg (zi (zh ([60611247, 205927741, 1491624315, 1125713234, 0, 0, 4294967295, 0] : List UInt64)))) (x := .int .i64 7) (t := 2) (T := 91) (ad := ⟨bk1, 0, none⟩) (u := 3) En21 (by kernel_rfl) (by kernel_rfl) (zx (t := 91) (k := 0) (off := 0) (m := 8) (xs := zh ([60611247, 205927741, 1491624315, 1125713234, 0, 0, 4294967295, 0] : List UInt64)) Hv19 rfl (zn (zb (show ze ([60611247, 205927741, 1491624315, 1125713234, 0, 0, 4294967295, 0] : List UInt64) = 8 from rfl))) (zb (show ze ([60611247, 205927741, 1491624315, 1125713234, 0, 0, 4294967295, 0] : List UInt64) = 8 from rfl)) (by kernel_rfl) (by kernel_rfl)) (by kernel_rfl) ?_
 exact ⟨by kernel_rfl, Hv19.pk []⟩

theorem above_go (w : World) (f : Int) (h3 : f = 1 ∨ f = 2 ∨ f = 3) : Calls Tryd.prog 95 #[.int .i64 f] w fun e w' => e = .returned (.tuple #[.agg (zi (zh (cF f))), ni (mny f)]) ∧ Ev w [] w' [] := by
  rcases h3 with rfl | rfl | rfl
  · exact above1 w
  · exact above2 w
  · exact above3 w

theorem dv_lt32 {l : List UInt64} (h : DG l) : dv 4294967296 l < 4294967296 ^ l.length := by
  have e := dk_split l l.length
  rw [List.drop_length, show dv 4294967296 [] = 0 from rfl, ZY, Zp] at e
  rw [e]
  exact dk_lt h _

theorem add32 {p c : UInt64} (hp : p.toNat < 4294967296) (hc : c.toNat < 4294967296) : (p + c).toNat = p.toNat + c.toNat := by
  rw [Zl]
  omega

theorem left3_go (w : World) (f : Int) (h3 : f = 1 ∨ f = 2 ∨ f = 3) (n : List UInt64) (hn : ze n = 17) (hdn : DG n) : Calls Tryd.prog 83 #[.int .i64 f, .agg (zi (zh n))] w fun e w' => e = .returned (.agg (zi (zh (nd (dv 4294967296 n % mF f))))) ∧ Ev w [] w' [] := by
 refine d_0 [(0, .int .i64 f), (1, .agg (zi (zh n)))] 85 Go.Proofs.Tryd.func83 Go.Proofs.Tryd.ntmps83 (Heap.nil _) fun act0 En0 Hv0 => ?_
 refine wp_seq <| zm <| f_o <| m_m 100 (zh n) En0 Hv0 fun _ _ bk1 En4 Hv5 => ?_
 refine f_o <| m_z 34 (zh (zc 4 0)) En4 Hv5 fun _ _ bk6 En9 Hv10 => ?_
 refine f_e <| zg <| wp_seq <| zm <| d_k [0,3,4,14] [] 1 En9 fun _ En12 => ?_
 refine f_o <| c_p En12 Hv10 (rmodulus_go _ f) fun _ _ En18 Hv19 => ?_
 refine f_o <| m_z 34 (zh (zc 4 0)) En18 Hv19 fun _ _ bk20 En23 Hv24 => ?_
 refine f_o <| m_g 2 0 4 (zh (nd (mF f))) _ [.box bk1 (zh n) 100, .box bk6 (zh (zc 4 0)) 34, .box bk20 (zh (nd (mF f))) 34] En23 Hv24 rfl (zb (zk _ _)) (by rw [(zb (zd))]; first | decide | (simp; done)) (zu _) (zo (zb (zd))) rfl fun _ _ En27 Hv28 => ?_
 refine f_e <| zg <| wp_seq <| wp_seq <| d_r [0,3,4,5,17] [(1, g_b (show (f == (4 : Int)) = false from (beq_eq_false_iff_ne.2 (by omega))))] En27 fun _ En30 => ?_
 refine zg <| c_f En30 ?_
 refine wp_skip <| zg <| wp_seq <| zm <| d_k [0,3,4,5,22] [] 1 En30 fun _ En32 => ?_
 refine f_o <| c_p En32 Hv28 (above_go _ f h3) fun _ _ En38 Hv39 => ?_
 refine d_k [0,3,4,5,24,25] [] 5 En38 fun _ En41 => ?_
 refine f_o <| m_z 91 (zh (zc 8 0)) En41 Hv39 fun _ _ bk42 En45 Hv46 => ?_
 refine f_o <| m_g 3 0 8 (zh (cF f)) _ [.box bk1 (zh n) 100, .box bk6 (zh (zc 4 0)) 34, .box bk20 (zh (nd (mF f))) 34, .box bk42 (zh (cF f)) 91] En45 Hv46 rfl (zb (cF_len _)) (by rw [(zb (zd))]; first | decide | (simp; done)) (zu _) (zo (zb (zd))) rfl fun _ _ En49 Hv50 => ?_
 refine d_e [0,3,4,5,6,7] [] En49 fun _ En52 => ?_
 refine zg <| wp_seq <| wp_seq <| d_r [0,3,4,5,6,7,8] [] En52 fun _ En54 => ?_
 refine zg <| wp_block <| Qa (fun ms55 ac wo => ∃ (q : Nat) (v : List UInt64), ms55 = (q + 1 : Nat) ∧ Env ac 85 [(0, .int .i64 f), (3, pt bk1), (4, pt bk6), (5, pt bk20), (6, pt bk42), (7, ni (mny f)), (8, ni q)] ∧ Ev w [] wo [.box bk1 (zh v) 100, .box bk6 (zh (zc 4 0)) 34, .box bk20 (zh (nd (mF f))) 34, .box bk42 (zh (cF f)) 91] ∧ (7 ≤ q ∧ q ≤ 16) ∧ (ze v = 17) ∧ (DG v) ∧ (dv 4294967296 v % mF f = dv 4294967296 n % mF f) ∧ (dv 4294967296 v < 4294967296 ^ (q + 1))) ⟨_, 16, n, rfl, En54.sb, Hv50.pk [0, 1, 2, 3], by omega, hn, hdn, rfl, by have := dv_lt32 hdn; rwa [hn] at this⟩ ?_
 rintro mm61 _ _ ⟨q, v, rfl, En59, Hv60, hq, hlv, hdv, hmv, hbv⟩
 refine wp_seq <| wp_seq <| d_r [0,3,4,5,6,7,8,27] [] En59 fun _ En63 => ?_
 refine zg <| c_d (((q : Nat) : Int) ≥ (8 : Int)) En63 (fun hc64 => ?_) (fun hc64 => ?_)
 ·
  refine wp_skip <| zg <| wp_seq <| wp_block <| wp_block <| Qa (fun ms65 ac wo => ∃ (w1 : List UInt64), ms65 = (dv 4294967296 w1 : Nat) ∧ Env ac 85 [(0, .int .i64 f), (3, pt bk1), (4, pt bk6), (5, pt bk20), (6, pt bk42), (7, ni (mny f)), (8, ni q)] ∧ Ev w [] wo [.box bk1 (zh w1) 100, .box bk6 (zh (zc 4 0)) 34, .box bk20 (zh (nd (mF f))) 34, .box bk42 (zh (cF f)) 91] ∧ (ze w1 = 17) ∧ (DG w1) ∧ (dv 4294967296 w1 % mF f = dv 4294967296 n % mF f) ∧ (dv 4294967296 w1 < 4294967296 ^ (q + 1))) ⟨_, v, rfl, En63.sb, Hv60.pk [0, 1, 2, 3], hlv, hdv, hmv, hbv⟩ ?_
  rintro mm71 _ _ ⟨w1, rfl, En69, Hv70, hlw, hdw, hmw, hbw⟩
  refine wp_seq <| wp_seq <| zm <| d_k [0,3,4,5,6,7,8,30] [] 1 En69 fun _ En73 => ?_
  refine f_o <| q_v (x := Instr.indexAt 100 (pt bk1) (ni q)) (v := .pointer (some ⟨bk1, q, none⟩)) En73 (Go.Dbr.run_indexarr (e := 32) (sz := 1) (m := 17) (j := q) (o := q) (by kernel_rfl) (by kernel_rfl) (by omega) (by omega) (by omega) _) fun _ En75 => ?_
  refine f_o ?_
  have hb76 : q < ze w1 := by rw [hlw]; omega
  refine m_v 0 q (zl (zf w1 q 0)) En75 Hv70 rfl (zE hb76) fun _ En78 => ?_
  refine d_e [0,3,4,5,6,7,8,33] [] En78 fun _ En80 => ?_
  refine zg <| c_n ((zt (zf w1 q 0) : Nat) : Int) (0 : Int) En80 (fun hc81 => ?_) (fun hc81 => ?_)
  ·
   refine wp_skip <| zg <| wp_block <| wp_seq <| zm <| d_k [0,3,4,5,6,7,8,34] [] 1 En80 fun _ En83 => ?_
   refine f_o <| q_v (x := Instr.indexAt 100 (pt bk1) (ni q)) (v := .pointer (some ⟨bk1, q, none⟩)) En83 (Go.Dbr.run_indexarr (e := 32) (sz := 1) (m := 17) (j := q) (o := q) (by kernel_rfl) (by kernel_rfl) (by omega) (by omega) (by omega) _) fun _ En85 => ?_
   refine f_o ?_
   have hb86 : q < ze w1 := by rw [hlw]; omega
   refine m_v 0 q (zl (zf w1 q 0)) En85 Hv70 rfl (zE hb86) fun _ En88 => ?_
   refine d_e [0,3,4,5,6,7,8,9] [] En88 fun _ En90 => ?_
   refine zg <| wp_seq <| zm <| d_k [0,3,4,5,6,7,8,9,37] [] 1 En90 fun _ En92 => ?_
   refine f_o <| q_v (x := Instr.indexAt 100 (pt bk1) (ni q)) (v := .pointer (some ⟨bk1, q, none⟩)) En92 (Go.Dbr.run_indexarr (e := 32) (sz := 1) (m := 17) (j := q) (o := q) (by kernel_rfl) (by kernel_rfl) (by omega) (by omega) (by omega) _) fun _ En94 => ?_
   refine f_o ?_
   have hb95 : q < ze w1 := by rw [hlw]; omega
   refine m_t 0 q (.int .u64 0) [.box bk1 (zh (zp w1 q (0 : UInt64))) 100, .box bk6 (zh (zc 4 0)) 34, .box bk20 (zh (nd (mF f))) 34, .box bk42 (zh (cF f)) 91] En94 Hv70 rfl (zE hb95) (Z4 _ _ (0 : UInt64)) rfl fun _ _ En98 Hv99 => ?_
   refine f_e <| zg <| wp_seq <| d_r [0,3,4,5,6,7,8,9,10] [] En98 fun _ En101 => ?_
   refine zg <| wp_seq <| d_r [0,3,4,5,6,7,8,9,10,11] [] En101 fun _ En103 => ?_
   refine zg <| wp_block ?_
   have hto := top_out hdw (by omega) hbw
   refine Qa (fun ms104 ac wo => ∃ (k : Nat) (u : List UInt64) (g : UInt64), ms104 = (10 - k : Nat) ∧ Env ac 85 [(0, .int .i64 f), (3, pt bk1), (4, pt bk6), (5, pt bk20), (6, pt bk42), (7, ni (mny f)), (8, ni q), (9, zl (zf w1 q 0)), (10, zl g), (11, ni k)] ∧ Ev w [] wo [.box bk1 (zh u) 100, .box bk6 (zh (zc 4 0)) 34, .box bk20 (zh (nd (mF f))) 34, .box bk42 (zh (cF f)) 91] ∧ (k ≤ 9) ∧ (ze u = 17) ∧ (DG u) ∧ (g.toNat < 4294967296) ∧ (dv 4294967296 u + g.toNat * 4294967296 ^ (q - 8 + k) = dv 4294967296 (zp w1 q 0) + (zf w1 q 0).toNat * dk (cF f) k * 4294967296 ^ (q - 8))) ⟨_, 0, zp w1 q 0, 0, rfl, En103.sb, Hv99.pk [0, 1, 2, 3], by omega, by simp [hlw], hdw.set (by decide), by decide, by simp [dk]⟩ ?_
   rintro mm110 _ _ ⟨k, u, g, rfl, En108, Hv109, hk, hlu, hdu, hgu, hvu⟩
   refine wp_seq <| wp_seq ?_
   have hC8 := dk_c_lt h3 k
   refine zm <| d_k [0,3,4,5,6,7,8,9,10,11,42] [] 4 En108 fun _ En112 => ?_
   rcases Bool.eq_false_or_eq_true (decide (((k : Nat) : Int) < ((mny f : Nat) : Int))) with hb113 | hb113
   ·
    have En114 := En112.fx (t := 42) (congrArg Value.bool hb113)
    have hp115 : ((k : Nat) : Int) < ((mny f : Nat) : Int) := of_decide_eq_true hb113
    refine d_e [0,3,4,5,6,7,8,9,10,11,45] [] En114 fun _ En117 => ?_
    refine zg <| c_t En117 ?_
    refine wp_skip <| zg <| wp_seq <| wp_block <| wp_seq ?_
    have hk8 : k ≤ 8 := by by_cases hmk : mny f ≤ k <;> first | (have := mny_le f; omega) | exact left_idx (u := u) (by omega) (by rw [show q - 8 + 8 = q by omega]; exact hto.2.1) (hdw q) (dk_c_lt h3 k) (by omega) hvu
    have hqk : q - 8 + k < 17 := by omega
    have hm7 := mny_le f
    refine zm <| d_k [0,3,4,5,6,7,8,9,10,11,51] [(1, g_n (w_r (e := ((q : Nat) : Int) - (8 : Int)) (x := ((q - 8 : Nat) : Int)) (by omega))), (3, g_n (w_a (q - 8) k))] 4 En117 fun _ En119 => ?_
    refine f_o <| q_v (x := Instr.indexAt 100 (pt bk1) (ni ((q - 8) + k))) (v := .pointer (some ⟨bk1, (q - 8) + k, none⟩)) En119 (Go.Dbr.run_indexarr (e := 32) (sz := 1) (m := 17) (j := (q - 8) + k) (o := (q - 8) + k) (by kernel_rfl) (by kernel_rfl) (by omega) (by omega) (by omega) _) fun _ En121 => ?_
    refine f_o ?_
    have hb122 : (q - 8) + k < ze u := by rw [hlu]; omega
    refine m_v 0 ((q - 8) + k) (zl (zf u ((q - 8) + k) 0)) En121 Hv109 rfl (zE hb122) fun _ En124 => ?_
    refine d_e [0,3,4,5,6,7,8,9,10,11,12] [(7, g_i .u64 (Go.Dbr.u64_add (x := zf u ((q - 8) + k) 0) (y := g) rfl rfl))] En124 fun _ En126 => ?_
    refine zg <| wp_seq <| wp_seq <| d_r [0,3,4,5,6,7,8,9,10,11,12,58] [] En126 fun _ En128 => ?_
    refine zg <| region_cut (F := fun ac wo => ∃ (t : UInt64), Env ac 85 [(0, .int .i64 f), (3, pt bk1), (4, pt bk6), (5, pt bk20), (6, pt bk42), (7, ni (mny f)), (8, ni q), (9, zl (zf w1 q 0)), (10, zl g), (11, ni k), (12, zl t)] ∧ Ev w [] wo [.box bk1 (zh u) 100, .box bk6 (zh (zc 4 0)) 34, .box bk20 (zh (nd (mF f))) 34, .box bk42 (zh (cF f)) 91] ∧ (t.toNat = (zf u (q - 8 + k) 0).toNat + (zf w1 q 0).toNat * (zf (cF f) k 0).toNat + g.toNat)) ?_ ?_
    ·
     refine c_d (((k : Nat) : Int) < ((mny f : Nat) : Int)) En128 (fun hc129 => ?_) (fun hc129 => ?_)
     ·
      refine zm <| d_k [0,3,4,5,6,7,8,9,10,11,12,59,60,61] [] 3 En128 fun _ En131 => ?_
      refine f_o <| q_v (x := Instr.indexAt 91 (pt bk42) (ni k)) (v := .pointer (some ⟨bk42, k, none⟩)) En131 (Go.Dbr.run_indexarr (e := 32) (sz := 1) (m := 8) (j := k) (o := k) (by kernel_rfl) (by kernel_rfl) (by omega) (by omega) (by omega) _) fun _ En133 => ?_
      refine f_o ?_
      have hb134 : k < ze (cF f) := by rw [(cF_len _)]; omega
      refine m_v 3 k (zl (zf (cF f) k 0)) En133 Hv109 rfl (zE hb134) fun _ En136 => ?_
      refine d_e [0,3,4,5,6,7,8,9,10,11,12] [(5, g_i .u64 (Go.Dbr.u64_mul (x := zf w1 q 0) (y := zf (cF f) k 0) rfl rfl)), (6, g_i .u64 (Go.Dbr.u64_add (x := (zf u ((q - 8) + k) 0) + g) (y := (zf w1 q 0) * (zf (cF f) k 0)) rfl rfl))] En136 fun _ En138 => ?_
      exact ⟨rfl, ⟨(((zf u ((q - 8) + k) 0) + g) + ((zf w1 q 0) * (zf (cF f) k 0))), En138.sb, Hv109.pk [0, 1, 2, 3], by first | exact mac32' (hdu _) (hdw q) (cF_dig h3 k) hgu | (rw [cF_over h3 (by omega), show (0 : UInt64).toNat = 0 from rfl, ZY, Zp]; exact add32 (hdu _) hgu)⟩⟩
     refine wp_skip ?_
     exact ⟨rfl, ⟨((zf u ((q - 8) + k) 0) + g), En128.sb, Hv109.pk [0, 1, 2, 3], by first | exact mac32' (hdu _) (hdw q) (cF_dig h3 k) hgu | (rw [cF_over h3 (by omega), show (0 : UInt64).toNat = 0 from rfl, ZY, Zp]; exact add32 (hdu _) hgu)⟩⟩
    rintro _ _ ⟨t, En141, Hv142, hte⟩
    refine zg <| wp_seq <| zm <| d_k [0,3,4,5,6,7,8,9,10,11,12,69,71] [(1, g_n (w_r (e := ((q : Nat) : Int) - (8 : Int)) (x := ((q - 8 : Nat) : Int)) (by omega))), (3, g_n (w_a (q - 8) k)), (5, g_i .u64 (Go.Dbr.u64_and (x := t) (y := (4294967295 : UInt64)) rfl rfl))] 6 En141 fun _ En144 => ?_
    refine f_o <| q_v (x := Instr.indexAt 100 (pt bk1) (ni ((q - 8) + k))) (v := .pointer (some ⟨bk1, (q - 8) + k, none⟩)) En144 (Go.Dbr.run_indexarr (e := 32) (sz := 1) (m := 17) (j := (q - 8) + k) (o := (q - 8) + k) (by kernel_rfl) (by kernel_rfl) (by omega) (by omega) (by omega) _) fun _ En146 => ?_
    refine f_o ?_
    have hb147 : (q - 8) + k < ze u := by rw [hlu]; omega
    refine m_t 0 ((q - 8) + k) (zl (t &&& (4294967295 : UInt64))) [.box bk1 (zh (zp u ((q - 8) + k) (t &&& (4294967295 : UInt64)))) 100, .box bk6 (zh (zc 4 0)) 34, .box bk20 (zh (nd (mF f))) 34, .box bk42 (zh (cF f)) 91] En146 Hv142 rfl (zE hb147) (Z4 _ _ _) rfl fun _ _ En150 Hv151 => ?_
    refine f_e <| zg <| d_r [0,3,4,5,6,7,8,9,10,11,12] [(1, g_i .u64 (Go.Dbr.u64_shr (x := t) (n := 32) rfl (by decide)))] En150 fun _ En153 => ?_
    refine zv <| zg <| d_r [0,3,4,5,6,7,8,9,10,11,12] [(1, g_n (w_a k 1))] En153 fun _ En155 => ?_
    refine zg <| ⟨_, ⟨k + 1, (zp u ((q - 8) + k) (t &&& (4294967295 : UInt64))), (t >>> za 32), rfl, En155.sb, Hv151.pk [0, 1, 2, 3], by omega, by simp [hlu], hdu.set (Xy _), Xg _, left_in hlu (by omega) hvu hte⟩, ?_⟩
    omega
   have En156 := En112.fx (t := 42) (congrArg Value.bool hb113)
   have hp157 : ¬ (((k : Nat) : Int) < ((mny f : Nat) : Int)) := of_decide_eq_false hb113
   refine d_e [0,3,4,5,6,7,8,9,10,11,45] [] En156 fun _ En159 => ?_
   refine zg <| c_d (((zt g : Nat) : Int) > (0 : Int)) En159 (fun hc160 => ?_) (fun hc160 => ?_)
   ·
    refine wp_skip <| zg <| wp_seq <| wp_block <| wp_seq ?_
    have hk8 : k ≤ 8 := by by_cases hmk : mny f ≤ k <;> first | (have := mny_le f; omega) | exact left_idx (u := u) (by omega) (by rw [show q - 8 + 8 = q by omega]; exact hto.2.1) (hdw q) (dk_c_lt h3 k) (by omega) hvu
    have hqk : q - 8 + k < 17 := by omega
    have hm7 := mny_le f
    refine zm <| d_k [0,3,4,5,6,7,8,9,10,11,51] [(1, g_n (w_r (e := ((q : Nat) : Int) - (8 : Int)) (x := ((q - 8 : Nat) : Int)) (by omega))), (3, g_n (w_a (q - 8) k))] 4 En159 fun _ En162 => ?_
    refine f_o <| q_v (x := Instr.indexAt 100 (pt bk1) (ni ((q - 8) + k))) (v := .pointer (some ⟨bk1, (q - 8) + k, none⟩)) En162 (Go.Dbr.run_indexarr (e := 32) (sz := 1) (m := 17) (j := (q - 8) + k) (o := (q - 8) + k) (by kernel_rfl) (by kernel_rfl) (by omega) (by omega) (by omega) _) fun _ En164 => ?_
    refine f_o ?_
    have hb165 : (q - 8) + k < ze u := by rw [hlu]; omega
    refine m_v 0 ((q - 8) + k) (zl (zf u ((q - 8) + k) 0)) En164 Hv109 rfl (zE hb165) fun _ En167 => ?_
    refine d_e [0,3,4,5,6,7,8,9,10,11,12] [(7, g_i .u64 (Go.Dbr.u64_add (x := zf u ((q - 8) + k) 0) (y := g) rfl rfl))] En167 fun _ En169 => ?_
    refine zg <| wp_seq <| wp_seq <| d_r [0,3,4,5,6,7,8,9,10,11,12,58] [] En169 fun _ En171 => ?_
    refine zg <| region_cut (F := fun ac wo => ∃ (t : UInt64), Env ac 85 [(0, .int .i64 f), (3, pt bk1), (4, pt bk6), (5, pt bk20), (6, pt bk42), (7, ni (mny f)), (8, ni q), (9, zl (zf w1 q 0)), (10, zl g), (11, ni k), (12, zl t)] ∧ Ev w [] wo [.box bk1 (zh u) 100, .box bk6 (zh (zc 4 0)) 34, .box bk20 (zh (nd (mF f))) 34, .box bk42 (zh (cF f)) 91] ∧ (t.toNat = (zf u (q - 8 + k) 0).toNat + (zf w1 q 0).toNat * (zf (cF f) k 0).toNat + g.toNat)) ?_ ?_
    ·
     refine c_d (((k : Nat) : Int) < ((mny f : Nat) : Int)) En171 (fun hc172 => ?_) (fun hc172 => ?_)
     ·
      refine zm <| d_k [0,3,4,5,6,7,8,9,10,11,12,59,60,61] [] 3 En171 fun _ En174 => ?_
      refine f_o <| q_v (x := Instr.indexAt 91 (pt bk42) (ni k)) (v := .pointer (some ⟨bk42, k, none⟩)) En174 (Go.Dbr.run_indexarr (e := 32) (sz := 1) (m := 8) (j := k) (o := k) (by kernel_rfl) (by kernel_rfl) (by omega) (by omega) (by omega) _) fun _ En176 => ?_
      refine f_o ?_
      have hb177 : k < ze (cF f) := by rw [(cF_len _)]; omega
      refine m_v 3 k (zl (zf (cF f) k 0)) En176 Hv109 rfl (zE hb177) fun _ En179 => ?_
      refine d_e [0,3,4,5,6,7,8,9,10,11,12] [(5, g_i .u64 (Go.Dbr.u64_mul (x := zf w1 q 0) (y := zf (cF f) k 0) rfl rfl)), (6, g_i .u64 (Go.Dbr.u64_add (x := (zf u ((q - 8) + k) 0) + g) (y := (zf w1 q 0) * (zf (cF f) k 0)) rfl rfl))] En179 fun _ En181 => ?_
      exact ⟨rfl, ⟨(((zf u ((q - 8) + k) 0) + g) + ((zf w1 q 0) * (zf (cF f) k 0))), En181.sb, Hv109.pk [0, 1, 2, 3], by first | exact mac32' (hdu _) (hdw q) (cF_dig h3 k) hgu | (rw [cF_over h3 (by omega), show (0 : UInt64).toNat = 0 from rfl, ZY, Zp]; exact add32 (hdu _) hgu)⟩⟩
     refine wp_skip ?_
     exact ⟨rfl, ⟨((zf u ((q - 8) + k) 0) + g), En171.sb, Hv109.pk [0, 1, 2, 3], by first | exact mac32' (hdu _) (hdw q) (cF_dig h3 k) hgu | (rw [cF_over h3 (by omega), show (0 : UInt64).toNat = 0 from rfl, ZY, Zp]; exact add32 (hdu _) hgu)⟩⟩
    rintro _ _ ⟨t, En184, Hv185, hte⟩
    refine zg <| wp_seq <| zm <| d_k [0,3,4,5,6,7,8,9,10,11,12,69,71] [(1, g_n (w_r (e := ((q : Nat) : Int) - (8 : Int)) (x := ((q - 8 : Nat) : Int)) (by omega))), (3, g_n (w_a (q - 8) k)), (5, g_i .u64 (Go.Dbr.u64_and (x := t) (y := (4294967295 : UInt64)) rfl rfl))] 6 En184 fun _ En187 => ?_
    refine f_o <| q_v (x := Instr.indexAt 100 (pt bk1) (ni ((q - 8) + k))) (v := .pointer (some ⟨bk1, (q - 8) + k, none⟩)) En187 (Go.Dbr.run_indexarr (e := 32) (sz := 1) (m := 17) (j := (q - 8) + k) (o := (q - 8) + k) (by kernel_rfl) (by kernel_rfl) (by omega) (by omega) (by omega) _) fun _ En189 => ?_
    refine f_o ?_
    have hb190 : (q - 8) + k < ze u := by rw [hlu]; omega
    refine m_t 0 ((q - 8) + k) (zl (t &&& (4294967295 : UInt64))) [.box bk1 (zh (zp u ((q - 8) + k) (t &&& (4294967295 : UInt64)))) 100, .box bk6 (zh (zc 4 0)) 34, .box bk20 (zh (nd (mF f))) 34, .box bk42 (zh (cF f)) 91] En189 Hv185 rfl (zE hb190) (Z4 _ _ _) rfl fun _ _ En193 Hv194 => ?_
    refine f_e <| zg <| d_r [0,3,4,5,6,7,8,9,10,11,12] [(1, g_i .u64 (Go.Dbr.u64_shr (x := t) (n := 32) rfl (by decide)))] En193 fun _ En196 => ?_
    refine zv <| zg <| d_r [0,3,4,5,6,7,8,9,10,11,12] [(1, g_n (w_a k 1))] En196 fun _ En198 => ?_
    refine zg <| ⟨_, ⟨k + 1, (zp u ((q - 8) + k) (t &&& (4294967295 : UInt64))), (t >>> za 32), rfl, En198.sb, Hv194.pk [0, 1, 2, 3], by omega, by simp [hlu], hdu.set (Xy _), Xg _, left_in hlu (by omega) hvu hte⟩, ?_⟩
    omega
   refine wp_exit <| zy <| zy <| zV <| zv <| zg ?_
   have hlo := left_out h3 (by omega) (by omega) (by omega) hto.2.2 (by omega) hmw hvu
   refine ⟨_, ⟨u, rfl, En159.sb, Hv109.pk [0, 1, 2, 3], hlu, hdu, hlo.1, Nat.lt_trans hlo.2 hbw⟩, ?_⟩
   exact hlo.2
  refine wp_exit <| zy <| zy <| zV <| zv <| zg ?_
  have hbq : dv 4294967296 w1 < 4294967296 ^ q := by have e := zero_above hdw hbw; have l := dk_lt hdw q; rw [show (zf w1 q 0).toNat = 0 by omega] at e; omega
  refine d_r [0,3,4,5,6,7,8] [(1, g_n (w_r (e := ((q : Nat) : Int) - (1 : Int)) (x := ((q - 1 : Nat) : Int)) (by omega)))] En80 fun _ En200 => ?_
  refine zg <| ⟨_, ⟨q - 1, w1, rfl, En200.sb, Hv70.pk [0, 1, 2, 3], by omega, hlw, hdw, hmw, by rw [show q - 1 + 1 = q by omega]; exact hbq⟩, ?_⟩
  omega
 refine wp_exit <| zy <| zy <| zV <| zg <| wp_seq <| zm <| f_o <| m_a 0 0 17 (zh v) En63 Hv60 rfl (zn (zb hlv)) (zb hlv) fun _ En202 => ?_
 refine f_o <| c_p En202 Hv60 (number_go _ v hlv hdv) fun _ _ En208 Hv209 => ?_
 refine f_o <| m_z 34 (zh (zc 4 0)) En208 Hv209 fun _ _ bk210 En213 Hv214 => ?_
 refine f_o <| m_g 4 0 4 (zh (nd (dv 4294967296 v))) _ [.box bk1 (zh v) 100, .box bk6 (zh (zc 4 0)) 34, .box bk20 (zh (nd (mF f))) 34, .box bk42 (zh (cF f)) 91, .box bk210 (zh (nd (dv 4294967296 v))) 34] En213 Hv214 rfl (zb (zk _ _)) (by rw [(zb (zd))]; first | decide | (simp; done)) (zu _) (zo (zb (zd))) rfl fun _ _ En217 Hv218 => ?_
 refine f_e <| zg <| wp_seq <| wp_block ?_
 have hq7 : q = 7 := by omega
 rw [hq7, d8w] at hbv
 refine Qa (fun ms219 ac wo => ∃ (x : List UInt64), ms219 = (nv x : Nat) ∧ Env ac 85 [(0, .int .i64 f), (3, pt bk1), (4, pt bk6), (5, pt bk20), (6, pt bk42), (7, ni (mny f)), (8, ni q), (13, pt bk210)] ∧ Ev w [] wo [.box bk210 (zh x) 34, .box bk1 (zh v) 100, .box bk6 (zh (zc 4 0)) 34, .box bk20 (zh (nd (mF f))) 34, .box bk42 (zh (cF f)) 91] ∧ (ze x = 4) ∧ (nv x % mF f = dv 4294967296 n % mF f)) ⟨_, (nd (dv 4294967296 v)), rfl, En217.sb, Hv218.pk [4, 0, 1, 2, 3], zk _ _, by rw [nv_nd hbv]; exact hmv⟩ ?_
 rintro mm225 _ _ ⟨x, rfl, En223, Hv224, hx, hxm⟩
 refine wp_seq <| wp_seq <| zm <| f_o <| m_a 0 0 4 (zh x) En223 Hv224 rfl (zn (zb hx)) (zb hx) fun _ En227 => ?_
 refine f_o <| m_a 3 0 4 (zh (nd (mF f))) En227 Hv224 rfl (zn (zb (zk _ _))) (zb (zk _ _)) fun _ En229 => ?_
 refine f_o <| c_p En229 Hv224 (rless_go _ x (nd (mF f)) hx (zk _ _)) fun _ _ En235 Hv236 => ?_
 refine d_e [0,3,4,5,6,7,8,13,80] [] En235 fun _ En238 => ?_
 refine zg <| cond_at En238 (t := !(decide (nv x < nv (nd (mF f))))) (by kernel_rfl) (fun hc239 => ?_) (fun hc239 => ?_)
 ·
  replace hc239 : ¬ (nv x < nv (nd (mF f))) := by simpa using hc239
  refine wp_skip <| zg <| wp_block <| zm <| f_o <| m_a 0 0 4 (zh x) En238 Hv236 rfl (zn (zb hx)) (zb hx) fun _ En241 => ?_
  refine f_o <| m_a 3 0 4 (zh (nd (mF f))) En241 Hv236 rfl (zn (zb (zk _ _))) (zb (zk _ _)) fun _ En243 => ?_
  refine f_o <| c_p En243 Hv236 (rminus_go _ x (nd (mF f)) hx (zk _ _)) fun _ _ En249 Hv250 => ?_
  refine f_o <| m_g 0 0 4 (zh (nd (nv x + W256 - nv (nd (mF f))))) _ [.box bk210 (zh (nd (nv x + W256 - nv (nd (mF f))))) 34, .box bk1 (zh v) 100, .box bk6 (zh (zc 4 0)) 34, .box bk20 (zh (nd (mF f))) 34, .box bk42 (zh (cF f)) 91] En249 Hv250 rfl (zb (zk _ _)) (by rw [(zb hx)]; first | decide | (simp; done)) (zu _) (zo (zb hx)) rfl fun _ _ En253 Hv254 => ?_
  refine f_e <| zv <| zg <| ⟨_, ⟨(nd (nv x + W256 - nv (nd (mF f)))), rfl, En253.sb, Hv254.pk [0, 1, 2, 3, 4], zk _ _, by rw [sub_nd hx (by omega), ← hxm]; exact (by rw [nv_mF]; exact (Nat.mod_eq_sub_mod (by rw [nv_mF] at *; omega)).symm)⟩, ?_⟩
  rw [sub_nd hx (by omega)]; have := mF_pos (f := f) (by omega); rw [nv_mF] at *; omega
 replace hc239 : nv x < nv (nd (mF f)) := by simpa using hc239
 refine wp_exit <| zy <| zy <| zV <| zg <| wp_seq <| zm <| f_o <| m_a 0 0 4 (zh x) En238 Hv236 rfl (zn (zb hx)) (zb hx) fun _ En256 => ?_
 refine f_o <| m_g 2 0 4 (zh x) _ [.box bk210 (zh x) 34, .box bk1 (zh v) 100, .box bk6 (zh x) 34, .box bk20 (zh (nd (mF f))) 34, .box bk42 (zh (cF f)) 91] En256 Hv236 rfl (zb hx) (by rw [(zb (zd))]; first | decide | (simp; done)) (zu _) (zo (zb (zd))) rfl fun _ _ En259 Hv260 => ?_
 refine f_e <| zg <| wp_ret <| z5 (v := .agg (zi (zh x))) (t := 4) (T := 34) (ad := ⟨bk6, 0, none⟩) En259 (by kernel_rfl) (by kernel_rfl) (zx (t := 34) (k := 2) (off := 0) (m := 4) (xs := zh x) Hv260 rfl (zn (zb hx)) (zb hx) (by kernel_rfl) (by kernel_rfl)) ?_
 have hxe : x = nd (dv 4294967296 n % mF f) := nd_of hx (by rw [← hxm]; exact (zB (by rw [nv_mF] at *; omega)).symm)
 subst hxe
 exact ⟨rfl, Hv260.pk []⟩

end Go.Proofs.YtlnogkmnklfjlaaDoor

/- Layer 4: bytes of numbers. -/

namespace Go.Proofs.YtlnogkmnklfjlaaDoor
open Go.Dbr
set_option maxRecDepth 100000
set_option maxHeartbeats 2000000
set_option linter.unusedVariables false
set_option linter.unusedSimpArgs false

/-- the number of bytes, the lowest first -/
def lv : List UInt8 → Nat
  | [] => 0
  | x :: r => x.toNat + 256 * lv r
theorem lv_lt : ∀ l, lv l < 256 ^ l.length
  | [] => by decide
  | x :: r => by
    have h1 := lv_lt r
    have h2 : x.toNat < 256 := x.toNat_lt
    rw [lv, Zj, z6]
    generalize 256 ^ r.length = q at *
    omega
theorem lv_take_succ : ∀ (l : List UInt8) (i : Nat), i < l.length → lv (zr (i + 1) l) = lv (zr i l) + (zf l i 0).toNat * 256 ^ i
  | x :: r, 0, _ => by simp [lv]
  | x :: r, i + 1, h => by
    have e := lv_take_succ r i (by simpa using h)
    rw [Xb, Xb, lv, lv, e, ZT, z6, Qq, Zq]
    congr 2
    ac_rfl
/-- bytes of a number, the lowest first -/
def lb : Nat → Nat → List UInt8
  | 0, _ => []
  | k + 1, n => zA n :: lb k (n / 256)
theorem lb_len : ∀ (k n : Nat), (lb k n).length = k
  | 0, _ => rfl
  | k + 1, n => by rw [lb, Zj, lb_len k]
theorem ofNat8_val (n : Nat) : (zA n).toNat = n % 256 := by
  show (BitVec.ofNat 8 n).toNat = n % 256
  rw [BitVec.toNat_ofNat]
theorem lb_val : ∀ (k n : Nat), lv (lb k n) = n % 256 ^ k
  | 0, n => by rw [ZK, YZ]; rfl
  | k + 1, n => by rw [lb, lv, lb_val k, ofNat8_val, z6, zY (256 ^ k), Nat.mod_mul]
theorem lb_snoc : ∀ (k n : Nat), lb (k + 1) n = lb k n ++ [zA (n / 256 ^ k)]
  | 0, n => by simp [lb]
  | k + 1, n => by rw [lb, lb_snoc k (n / 256), lb, List.cons_append, Zt, z6, zY 256]
theorem dv_dig : ∀ (l : List UInt64) (j : Nat), (zf l j 0).toNat = dv 18446744073709551616 l / 18446744073709551616 ^ j % 18446744073709551616
  | [], j => by simp [dv]
  | x :: r, 0 => by have := lt64 x; rw [Yj, Yf, ZK, Y3]; omega
  | x :: r, j + 1 => by
    have := lt64 x
    rw [ZT, dv_dig r j, Yf, z6, zY (_ ^ j), ← Zt]
    congr 2
    omega
theorem p64 : 18446744073709551616 = 256 ^ 8 := by decide
theorem or_at {a : List UInt64} (ha : a.length = 4) {i : Nat} (hi : i < 32) (h : nv a < 256 ^ i) (x : UInt8) : nv (zp a (i / 8) (zf a (i / 8) 0 ||| (Zi x <<< za (8 * (i % 8))))) = nv a + x.toNat * 256 ^ i := by
  have hx : x.toNat < 256 := x.toNat_lt
  have hd := dv_dig a (i / 8)
  have hp : 256 ^ i = 256 ^ (i % 8) * 18446744073709551616 ^ (i / 8) := by rw [p64, ← Z6, ← Zy]; congr 1; omega
  have hq : (zf a (i / 8) 0).toNat < 256 ^ (i % 8) := by
    rw [hd]
    refine Nat.lt_of_le_of_lt (Nat.mod_le _ _) ((Nat.div_lt_iff_lt_mul (XG (by decide))).2 ?_)
    rw [← hp]; exact h
  have hr : 256 ^ (i % 8) = 2 ^ (8 * (i % 8)) := by rw [show (256 : Nat) = 2 ^ 8 from rfl, ← Z6]
  have h64 : x.toNat * 2 ^ (8 * (i % 8)) < 18446744073709551616 := by
    have e1 : 2 ^ (8 * (i % 8)) ≤ 2 ^ 56 := QN (by decide) (by omega)
    have e2 : x.toNat * 2 ^ (8 * (i % 8)) ≤ 255 * 2 ^ 56 := Qd (by omega) e1
    omega
  have e : (zf a (i / 8) 0 ||| (Zi x <<< za (8 * (i % 8)))).toNat = (zf a (i / 8) 0).toNat + x.toNat * 256 ^ (i % 8) := by
    have hs : (za (8 * (i % 8))).toNat % 64 = 8 * (i % 8) := by rw [ofNat_val]; omega
    rw [UInt64.toNat_or, UInt64.toNat_shiftLeft, hs, UInt8.toNat_toUInt64, Zk, zB h64, Nat.or_comm, ← Zk, ← Nat.shiftLeft_add_eq_or_of_lt (by rw [← hr]; exact hq), Zk, hr]
    omega
  have hs := JK 18446744073709551616 (zf a (i / 8) 0 ||| (Zi x <<< za (8 * (i % 8)))) a (i / 8) (by omega)
  rw [e, Zo, Zz, ← hp] at hs
  show dv _ _ = dv _ _ + _
  omega
theorem take_set_succ {α : Type} {l : List α} {i : Nat} {x : α} (h : i < l.length) : zr (i + 1) (zp l i x) = zr i l ++ [x] := by
  rw [List.take_add_one, List.take_set_of_le (Nat.le_refl i), List.getElem?_set_self h]
  rfl
theorem byte_at {a : List UInt64} (ha : a.length = 4) {i : Nat} (hi : i < 32) : zj (zf a (i / 8) 0 >>> za (8 * (i % 8))) = zA (nv a / 256 ^ i) := by
  apply UInt8.toNat_inj.1
  have hs : (za (8 * (i % 8))).toNat % 64 = 8 * (i % 8) := by rw [ofNat_val]; omega
  have hp : 256 ^ i = 18446744073709551616 ^ (i / 8) * 256 ^ (i % 8) := by rw [p64, ← Z6, ← Zy]; congr 1; omega
  rw [UInt64.toNat_toUInt8, UInt64.toNat_shiftRight, hs, ofNat8_val, dv_dig, Nat.shiftRight_eq_div_pow, hp, ← Zt]
  show _ = dv _ _ / _ / _ % _
  generalize dv 18446744073709551616 a / 18446744073709551616 ^ (i / 8) = d
  have hr : 2 ^ (8 * (i % 8)) = 256 ^ (i % 8) := by rw [show (256 : Nat) = 2 ^ 8 from rfl, ← Z6]
  have hB : 18446744073709551616 = 256 ^ (i % 8) * 256 ^ (8 - i % 8) := by rw [p64, ← Zy]; congr 1; omega
  rw [hr]
  conv => lhs; rw [hB]
  rw [Nat.mod_mul_right_div_self, Nat.mod_mod_of_dvd]
  exact ⟨256 ^ (8 - i % 8 - 1), by rw [← Nat.pow_succ']; congr 1; omega⟩

theorem fromle_go (w : World) (b : List UInt8) (hb : ze b = 32) : Calls Tryd.prog 19 #[.agg (zi (bys b))] w fun e w' => e = .returned (.agg (zi (zh (nd (lv b))))) ∧ Ev w [] w' [] := by
 refine d_0 [(0, .agg (zi (bys b)))] 24 Go.Proofs.Tryd.func19 Go.Proofs.Tryd.ntmps19 (Heap.nil _) fun act0 En0 Hv0 => ?_
 refine wp_seq <| zm <| f_o <| m_m 22 (bys b) En0 Hv0 fun _ _ bk1 En4 Hv5 => ?_
 refine f_o <| m_z 34 (zh (zc 4 0)) En4 Hv5 fun _ _ bk6 En9 Hv10 => ?_
 refine f_e <| zg <| wp_seq <| zm <| f_o <| m_z 34 (zh (zc 4 0)) En9 Hv10 fun _ _ bk11 En14 Hv15 => ?_
 refine f_e <| zg <| wp_seq <| d_s [1,2,3,5] [] En14 fun _ En17 => ?_
 refine wp_block <| Qa (fun ms18 ac wo => ∃ (i : Nat) (x : List UInt64), ms18 = (33 - i : Nat) ∧ Env ac 24 [(1, pt bk1), (2, pt bk6), (3, pt bk11), (5, ni i)] ∧ Ev w [] wo [.box bk11 (zh x) 34, .box bk1 (bys b) 22, .box bk6 (zh (zc 4 0)) 34] ∧ (i ≤ 32) ∧ (ze x = 4) ∧ (nv x = lv (zr i b))) ⟨_, 0, zc 4 0, rfl, En17.sb, Hv15.pk [2, 0, 1], by omega, zd, rfl⟩ ?_
 rintro mm24 _ _ ⟨i, x, rfl, En22, Hv23, hi, hx, hxv⟩
 refine d_s [1,2,3,5,6] [] En22 fun _ En26 => ?_
 refine wp_seq <| c_d (((i : Nat) : Int) < (32 : Int)) En26 (fun hc27 => ?_) (fun hc27 => ?_)
 ·
  refine wp_skip <| zg <| wp_seq <| wp_block <| d_s [1,2,3,4,5] [] En26 fun _ En29 => ?_
  refine r_c (fun ac wo => Env ac 24 [(1, pt bk1), (2, pt bk6), (3, pt bk11), (5, ni i)] ∧ Ev w [] wo [.box bk11 (zh (zp x (i / 8) ((zf x (i / 8) 0) ||| ((Zi (zf b i 0)) <<< za (8 * (i % 8)))))) 34, .box bk1 (bys b) 22, .box bk6 (zh (zc 4 0)) 34]) ?_ ?_
  ·
   refine h_s (fun wv => Ev w [] wv [.box bk11 (zh x) 34, .box bk1 (bys b) 22]) [14] 15 ?_
   have wo30 := Hv23.trans (zQ Hv23.heap)
   refine q_s [0,1] [(1, g_i .i64 (show IntKind.wrap .i64 (YY ((i : Nat) : Int) (8 : Int)) = ((i / 8 : Nat) : Int) from Go.Dbr.i64_quo_nat (a := ((i : Nat) : Int)) (n := i) (m := 8) rfl (by omega)))] 13 En29 (wo30.pk [0, 1]) fun _ En107 => ?_
   refine q_f 2 (s := Instr.indexAt 34 (pt bk11) (ni (i / 8))) (v := .pointer (some ⟨bk11, i / 8, none⟩)) En107 (fun _ => Go.Dbr.run_indexarr (e := 32) (sz := 1) (m := 4) (j := i / 8) (o := i / 8) (by kernel_rfl) (by kernel_rfl) (by omega) (by omega) (by omega) _) (fun _ => wo30.pk [0, 1]) fun _ En109 => ?_
   have hb110 : i / 8 < ze x := by rw [hx]; omega
   refine q_r 3 (s := Instr.loadAt 32 (.pointer (some ⟨bk11, i / 8, none⟩))) (v := zl (zf x (i / 8) 0)) En109 (fun w hS => ZC (by kernel_rfl) (hS.heap.cell (k := 0) rfl (zE hb110))) (wo30.pk [0, 1]) fun _ En112 => ?_
   refine q_s [4] [] 10 En112 (wo30.pk [0, 1]) fun _ En114 => ?_
   refine q_f 5 (s := Instr.indexAt 22 (pt bk1) (ni i)) (v := .pointer (some ⟨bk1, i, none⟩)) En114 (fun _ => Go.Dbr.run_indexarr (e := 5) (sz := 1) (m := 32) (j := i) (o := i) (by kernel_rfl) (by kernel_rfl) (by omega) (by omega) (by omega) _) (fun _ => wo30.pk [0, 1]) fun _ En116 => ?_
   have hb117 : i < ze b := by rw [hb]; omega
   refine q_r 6 (s := Instr.loadAt 5 (.pointer (some ⟨bk1, i, none⟩))) (v := bv (zf b i 0)) En116 (fun w hS => ZC (by kernel_rfl) (hS.heap.cell (k := 1) rfl (ZS hb117))) (wo30.pk [0, 1]) fun _ En119 => ?_
   refine q_s [7,8,9,10] [(7, g_i .u64 (Go.Dbr.u8_to_u64 (x := zf b i 0) rfl)), (9, g_i .i64 (show Jf ((i : Nat) : Int) (8 : Int) = ((i % 8 : Nat) : Int) from Go.Dbr.i64_rem_nat (a := ((i : Nat) : Int)) (n := i) (m := 8) rfl (by omega))), (10, g_n (w_m 8 (i % 8)))] 4 En119 (wo30.pk [0, 1]) fun _ En121 => ?_
   refine q_f 11 En121 (fun _ => Go.Dbr.run_shl_u64 (Zi (zf b i 0)) .i64 (8 * (i % 8)) (by omega) _) (fun _ => wo30.pk [0, 1]) fun _ En123 => ?_
   refine q_s [12] [(12, g_i .u64 (Go.Dbr.u64_or (x := zf x (i / 8) 0) (y := (Zi (zf b i 0)) <<< za (8 * (i % 8))) rfl rfl))] 2 En123 (wo30.pk [0, 1]) fun _ En125 => ?_
   refine q_f 13 (s := Instr.indexAt 34 (pt bk11) (ni (i / 8))) (v := .pointer (some ⟨bk11, i / 8, none⟩)) En125 (fun _ => Go.Dbr.run_indexarr (e := 32) (sz := 1) (m := 4) (j := i / 8) (o := i / 8) (by kernel_rfl) (by kernel_rfl) (by omega) (by omega) (by omega) _) (fun _ => wo30.pk [0, 1]) fun _ En127 => ?_
   refine q_t 14 ?_
   have hb128 : i / 8 < ze x := by rw [hx]; omega
   refine m_t 0 (i / 8) (zl ((zf x (i / 8) 0) ||| ((Zi (zf b i 0)) <<< za (8 * (i % 8))))) [.box bk11 (zh (zp x (i / 8) ((zf x (i / 8) 0) ||| ((Zi (zf b i 0)) <<< za (8 * (i % 8)))))) 34, .box bk1 (bys b) 22, .box bk6 (zh (zc 4 0)) 34] En127 wo30 rfl (zE hb128) (Z4 _ _ _) rfl fun _ _ En131 Hv132 => ?_
   refine ⟨q_y, ?_⟩
   exact h_e ⟨En131.sb, Hv132.pk [0, 1, 2]⟩
  rintro _ _ ⟨En135, Hv136⟩
  refine zv <| zg <| d_r [1,2,3,5] [(0, g_n (w_a i 1))] En135 fun _ En138 => ?_
  refine zg <| ⟨_, ⟨i + 1, (zp x (i / 8) ((zf x (i / 8) 0) ||| ((Zi (zf b i 0)) <<< za (8 * (i % 8))))), rfl, En138.sb, Hv136.pk [0, 1, 2], by omega, (List.length_set.trans hx), (or_at hx (by omega) (by rw [hxv]; exact QC (lv_lt _) (QN (by decide) (by rw [zI]; omega))) _).trans (by rw [hxv, ← lv_take_succ _ _ (by omega)])⟩, ?_⟩
  omega
 refine wp_exit <| zy <| zy <| zV <| zg <| wp_seq <| zm <| f_o <| m_a 0 0 4 (zh x) En26 Hv23 rfl (zn (zb hx)) (zb hx) fun _ En140 => ?_
 refine f_o <| m_g 2 0 4 (zh x) _ [.box bk11 (zh x) 34, .box bk1 (bys b) 22, .box bk6 (zh x) 34] En140 Hv23 rfl (zb hx) (by rw [(zb (zd))]; first | decide | (simp; done)) (zu _) (zo (zb (zd))) rfl fun _ _ En143 Hv144 => ?_
 refine f_e <| zg <| wp_ret <| z5 (v := .agg (zi (zh x))) (t := 2) (T := 34) (ad := ⟨bk6, 0, none⟩) En143 (by kernel_rfl) (by kernel_rfl) (zx (t := 34) (k := 2) (off := 0) (m := 4) (xs := zh x) Hv144 rfl (zn (zb hx)) (zb hx) (by kernel_rfl) (by kernel_rfl)) ?_
 have hi32 : i = 32 := by omega
 have hxe : x = nd (lv b) := nd_of hx (by rw [hxv, hi32, ZI (by omega)])
 subst hxe
 exact ⟨rfl, Hv144.pk []⟩

theorem tole_go (w : World) (a : List UInt64) (ha : ze a = 4) : Calls Tryd.prog 28 #[.agg (zi (zh a))] w fun e w' => e = .returned (.agg (zi (bys (lb 32 (nv a))))) ∧ Ev w [] w' [] := by
 refine d_0 [(0, .agg (zi (zh a)))] 21 Go.Proofs.Tryd.func28 Go.Proofs.Tryd.ntmps28 (Heap.nil _) fun act0 En0 Hv0 => ?_
 refine wp_seq <| zm <| f_o <| m_m 34 (zh a) En0 Hv0 fun _ _ bk1 En4 Hv5 => ?_
 refine f_o <| m_z 22 (bys (zc 32 0)) En4 Hv5 fun _ _ bk6 En9 Hv10 => ?_
 refine f_e <| zg <| wp_seq <| zm <| f_o <| m_z 22 (bys (zc 32 0)) En9 Hv10 fun _ _ bk11 En14 Hv15 => ?_
 refine f_e <| zg <| wp_seq <| d_s [1,2,3,5] [] En14 fun _ En17 => ?_
 refine wp_block <| Qa (fun ms18 ac wo => ∃ (i : Nat) (x : List UInt8), ms18 = (33 - i : Nat) ∧ Env ac 21 [(1, pt bk1), (2, pt bk6), (3, pt bk11), (5, ni i)] ∧ Ev w [] wo [.box bk11 (bys x) 22, .box bk1 (zh a) 34, .box bk6 (bys (zc 32 0)) 22] ∧ (i ≤ 32) ∧ (ze x = 32) ∧ (zr i x = lb i (nv a))) ⟨_, 0, zc 32 0, rfl, En17.sb, Hv15.pk [2, 0, 1], by omega, zd, rfl⟩ ?_
 rintro mm24 _ _ ⟨i, x, rfl, En22, Hv23, hi, hx, hxv⟩
 refine d_s [1,2,3,5,6] [] En22 fun _ En26 => ?_
 refine wp_seq <| c_d (((i : Nat) : Int) < (32 : Int)) En26 (fun hc27 => ?_) (fun hc27 => ?_)
 ·
  refine wp_skip <| zg <| wp_seq <| wp_block <| d_s [1,2,3,4,5] [] En26 fun _ En29 => ?_
  refine zm <| d_k [1,2,3,4,5,8,10] [(2, g_i .i64 (show IntKind.wrap .i64 (YY ((i : Nat) : Int) (8 : Int)) = ((i / 8 : Nat) : Int) from Go.Dbr.i64_quo_nat (a := ((i : Nat) : Int)) (n := i) (m := 8) rfl (by omega)))] 3 En29 fun _ En31 => ?_
  refine f_o <| q_v (x := Instr.indexAt 34 (pt bk1) (ni (i / 8))) (v := .pointer (some ⟨bk1, i / 8, none⟩)) En31 (Go.Dbr.run_indexarr (e := 32) (sz := 1) (m := 4) (j := i / 8) (o := i / 8) (by kernel_rfl) (by kernel_rfl) (by omega) (by omega) (by omega) _) fun _ En33 => ?_
  refine f_o ?_
  have hb34 : i / 8 < ze a := by rw [ha]; omega
  refine m_v 1 (i / 8) (zl (zf a (i / 8) 0)) En33 Hv23 rfl (zE hb34) fun _ En36 => ?_
  refine d_k [1,2,3,5,8,12,15] [(6, g_i .i64 (show Jf ((i : Nat) : Int) (8 : Int) = ((i % 8 : Nat) : Int) from Go.Dbr.i64_rem_nat (a := ((i : Nat) : Int)) (n := i) (m := 8) rfl (by omega))), (7, g_n (w_m 8 (i % 8)))] 8 En36 fun _ En38 => ?_
  refine f_o <| q_v En38 (Go.Dbr.run_shr_u64 (zf a (i / 8) 0) .i64 (8 * (i % 8)) (by omega) _) fun _ En40 => ?_
  refine d_k [1,2,3,5,8,17] [(9, g_i .u8 (Go.Dbr.u64_to_u8 (x := (zf a (i / 8) 0) >>> za (8 * (i % 8))) rfl))] 10 En40 fun _ En42 => ?_
  refine f_o <| q_v (x := Instr.indexAt 22 (pt bk11) (ni i)) (v := .pointer (some ⟨bk11, i, none⟩)) En42 (Go.Dbr.run_indexarr (e := 5) (sz := 1) (m := 32) (j := i) (o := i) (by kernel_rfl) (by kernel_rfl) (by omega) (by omega) (by omega) _) fun _ En44 => ?_
  refine f_o ?_
  have hb45 : i < ze x := by rw [hx]; omega
  refine m_t 0 i (bv (zj ((zf a (i / 8) 0) >>> za (8 * (i % 8))))) [.box bk11 (bys (zp x i (zj ((zf a (i / 8) 0) >>> za (8 * (i % 8)))))) 22, .box bk1 (zh a) 34, .box bk6 (bys (zc 32 0)) 22] En44 Hv23 rfl (ZS hb45) (bys_set _ _ _) rfl fun _ _ En48 Hv49 => ?_
  refine f_e <| zv <| zg <| d_r [1,2,3,5] [(0, g_n (w_a i 1))] En48 fun _ En51 => ?_
  refine zg <| ⟨_, ⟨i + 1, (zp x i (zj ((zf a (i / 8) 0) >>> za (8 * (i % 8))))), rfl, En51.sb, Hv49.pk [0, 1, 2], by omega, (List.length_set.trans hx), by rw [take_set_succ (by omega), hxv, byte_at ha (by omega), lb_snoc]⟩, ?_⟩
  omega
 refine wp_exit <| zy <| zy <| zV <| zg <| wp_seq <| zm <| f_o <| m_a 0 0 32 (bys x) En26 Hv23 rfl (zn (zU hx)) (zU hx) fun _ En53 => ?_
 refine f_o <| m_g 2 0 32 (bys x) _ [.box bk11 (bys x) 22, .box bk1 (zh a) 34, .box bk6 (bys x) 22] En53 Hv23 rfl (zU hx) (by rw [(zU (zd))]; first | decide | (simp; done)) (bys_one _) (zo (zU (zd))) rfl fun _ _ En56 Hv57 => ?_
 refine f_e <| zg <| wp_ret <| z5 (v := .agg (zi (bys x))) (t := 2) (T := 22) (ad := ⟨bk6, 0, none⟩) En56 (by kernel_rfl) (by kernel_rfl) (zx (t := 22) (k := 2) (off := 0) (m := 32) (xs := bys x) Hv57 rfl (zn (zU hx)) (zU hx) (by kernel_rfl) (by kernel_rfl)) ?_
 have hi32 : i = 32 := by omega
 have hxe : x = lb 32 (nv a) := by rw [hi32, ZI (by omega)] at hxv; exact hxv
 subst hxe
 exact ⟨rfl, Hv57.pk []⟩

theorem rfromle_go (w : World) (b : List UInt8) (hb : ze b = 32) : Calls Tryd.prog 12 #[.agg (zi (bys b))] w fun e w' => e = .returned (.agg (zi (zh (nd (lv b))))) ∧ Ev w [] w' [] := by
 refine d_0 [(0, .agg (zi (bys b)))] 26 Go.Proofs.Tryd.func12 Go.Proofs.Tryd.ntmps12 (Heap.nil _) fun act0 En0 Hv0 => ?_
 refine wp_seq <| zm <| f_o <| m_m 22 (bys b) En0 Hv0 fun _ _ bk1 En4 Hv5 => ?_
 refine f_o <| m_z 34 (zh (zc 4 0)) En4 Hv5 fun _ _ bk6 En9 Hv10 => ?_
 refine f_e <| zg <| wp_seq <| zm <| f_o <| m_z 34 (zh (zc 4 0)) En9 Hv10 fun _ _ bk11 En14 Hv15 => ?_
 refine f_e <| zg <| wp_seq <| d_s [1,2,3,4] [] En14 fun _ En17 => ?_
 refine wp_block <| Qa (fun ms18 ac wo => ∃ (i : Nat) (x : List UInt64), ms18 = (33 - i : Nat) ∧ Env ac 26 [(1, pt bk1), (2, pt bk6), (3, pt bk11), (4, ni i)] ∧ Ev w [] wo [.box bk11 (zh x) 34, .box bk1 (bys b) 22, .box bk6 (zh (zc 4 0)) 34] ∧ (i ≤ 32) ∧ (ze x = 4) ∧ (nv x = lv (zr i b))) ⟨_, 0, zc 4 0, rfl, En17.sb, Hv15.pk [2, 0, 1], by omega, zd, rfl⟩ ?_
 rintro mm24 _ _ ⟨i, x, rfl, En22, Hv23, hi, hx, hxv⟩
 refine wp_seq <| d_s [1,2,3,4,6] [] En22 fun _ En26 => ?_
 refine c_d (((i : Nat) : Int) < (32 : Int)) En26 (fun hc27 => ?_) (fun hc27 => ?_)
 ·
  refine wp_skip <| zg <| wp_seq <| wp_block <| r_c (fun ac wo => Env ac 26 [(1, pt bk1), (2, pt bk6), (3, pt bk11), (4, ni i)] ∧ Ev w [] wo [.box bk11 (zh (zp x (i / 8) ((zf x (i / 8) 0) ||| ((Zi (zf b i 0)) <<< za (8 * (i % 8)))))) 34, .box bk1 (bys b) 22, .box bk6 (zh (zc 4 0)) 34]) ?_ ?_
  ·
   refine h_s (fun wv => Ev w [] wv [.box bk11 (zh x) 34, .box bk1 (bys b) 22]) [16] 17 ?_
   have wo28 := Hv23.trans (zQ Hv23.heap)
   refine q_s [0,1,2,3] [(1, g_i .i64 (show IntKind.wrap .i64 (YY ((i : Nat) : Int) (8 : Int)) = ((i / 8 : Nat) : Int) from Go.Dbr.i64_quo_nat (a := ((i : Nat) : Int)) (n := i) (m := 8) rfl (by omega))), (3, g_i .i64 (show IntKind.wrap .i64 (YY ((i : Nat) : Int) (8 : Int)) = ((i / 8 : Nat) : Int) from Go.Dbr.i64_quo_nat (a := ((i : Nat) : Int)) (n := i) (m := 8) rfl (by omega)))] 13 En26 (wo28.pk [0, 1]) fun _ En105 => ?_
   refine q_f 4 (s := Instr.indexAt 34 (pt bk11) (ni (i / 8))) (v := .pointer (some ⟨bk11, i / 8, none⟩)) En105 (fun _ => Go.Dbr.run_indexarr (e := 32) (sz := 1) (m := 4) (j := i / 8) (o := i / 8) (by kernel_rfl) (by kernel_rfl) (by omega) (by omega) (by omega) _) (fun _ => wo28.pk [0, 1]) fun _ En107 => ?_
   have hb108 : i / 8 < ze x := by rw [hx]; omega
   refine q_r 5 (s := Instr.loadAt 32 (.pointer (some ⟨bk11, i / 8, none⟩))) (v := zl (zf x (i / 8) 0)) En107 (fun w hS => ZC (by kernel_rfl) (hS.heap.cell (k := 0) rfl (zE hb108))) (wo28.pk [0, 1]) fun _ En110 => ?_
   refine q_s [6] [] 10 En110 (wo28.pk [0, 1]) fun _ En112 => ?_
   refine q_f 7 (s := Instr.indexAt 22 (pt bk1) (ni i)) (v := .pointer (some ⟨bk1, i, none⟩)) En112 (fun _ => Go.Dbr.run_indexarr (e := 5) (sz := 1) (m := 32) (j := i) (o := i) (by kernel_rfl) (by kernel_rfl) (by omega) (by omega) (by omega) _) (fun _ => wo28.pk [0, 1]) fun _ En114 => ?_
   have hb115 : i < ze b := by rw [hb]; omega
   refine q_r 8 (s := Instr.loadAt 5 (.pointer (some ⟨bk1, i, none⟩))) (v := bv (zf b i 0)) En114 (fun w hS => ZC (by kernel_rfl) (hS.heap.cell (k := 1) rfl (ZS hb115))) (wo28.pk [0, 1]) fun _ En117 => ?_
   refine q_s [9,10,11,12] [(9, g_i .u64 (Go.Dbr.u8_to_u64 (x := zf b i 0) rfl)), (11, g_i .i64 (show Jf ((i : Nat) : Int) (8 : Int) = ((i % 8 : Nat) : Int) from Go.Dbr.i64_rem_nat (a := ((i : Nat) : Int)) (n := i) (m := 8) rfl (by omega))), (12, g_n (w_m 8 (i % 8)))] 4 En117 (wo28.pk [0, 1]) fun _ En119 => ?_
   refine q_f 13 En119 (fun _ => Go.Dbr.run_shl_u64 (Zi (zf b i 0)) .i64 (8 * (i % 8)) (by omega) _) (fun _ => wo28.pk [0, 1]) fun _ En121 => ?_
   refine q_s [14] [(14, g_i .u64 (Go.Dbr.u64_or (x := zf x (i / 8) 0) (y := (Zi (zf b i 0)) <<< za (8 * (i % 8))) rfl rfl))] 2 En121 (wo28.pk [0, 1]) fun _ En123 => ?_
   refine q_f 15 (s := Instr.indexAt 34 (pt bk11) (ni (i / 8))) (v := .pointer (some ⟨bk11, i / 8, none⟩)) En123 (fun _ => Go.Dbr.run_indexarr (e := 32) (sz := 1) (m := 4) (j := i / 8) (o := i / 8) (by kernel_rfl) (by kernel_rfl) (by omega) (by omega) (by omega) _) (fun _ => wo28.pk [0, 1]) fun _ En125 => ?_
   refine q_t 16 ?_
   have hb126 : i / 8 < ze x := by rw [hx]; omega
   refine m_t 0 (i / 8) (zl ((zf x (i / 8) 0) ||| ((Zi (zf b i 0)) <<< za (8 * (i % 8))))) [.box bk11 (zh (zp x (i / 8) ((zf x (i / 8) 0) ||| ((Zi (zf b i 0)) <<< za (8 * (i % 8)))))) 34, .box bk1 (bys b) 22, .box bk6 (zh (zc 4 0)) 34] En125 wo28 rfl (zE hb126) (Z4 _ _ _) rfl fun _ _ En129 Hv130 => ?_
   refine ⟨q_y, ?_⟩
   exact h_e ⟨En129.sb, Hv130.pk [0, 1, 2]⟩
  rintro _ _ ⟨En133, Hv134⟩
  refine zv <| zg <| d_r [1,2,3,4] [(1, g_n (w_a i 1))] En133 fun _ En136 => ?_
  refine zg <| ⟨_, ⟨i + 1, (zp x (i / 8) ((zf x (i / 8) 0) ||| ((Zi (zf b i 0)) <<< za (8 * (i % 8))))), rfl, En136.sb, Hv134.pk [0, 1, 2], by omega, (List.length_set.trans hx), (or_at hx (by omega) (by rw [hxv]; exact QC (lv_lt _) (QN (by decide) (by rw [zI]; omega))) _).trans (by rw [hxv, ← lv_take_succ _ _ (by omega)])⟩, ?_⟩
  omega
 refine wp_exit <| zy <| zy <| zV <| zg <| wp_seq <| zm <| f_o <| m_a 0 0 4 (zh x) En26 Hv23 rfl (zn (zb hx)) (zb hx) fun _ En138 => ?_
 refine f_o <| m_g 2 0 4 (zh x) _ [.box bk11 (zh x) 34, .box bk1 (bys b) 22, .box bk6 (zh x) 34] En138 Hv23 rfl (zb hx) (by rw [(zb (zd))]; first | decide | (simp; done)) (zu _) (zo (zb (zd))) rfl fun _ _ En141 Hv142 => ?_
 refine f_e <| zg <| wp_ret <| z5 (v := .agg (zi (zh x))) (t := 2) (T := 34) (ad := ⟨bk6, 0, none⟩) En141 (by kernel_rfl) (by kernel_rfl) (zx (t := 34) (k := 2) (off := 0) (m := 4) (xs := zh x) Hv142 rfl (zn (zb hx)) (zb hx) (by kernel_rfl) (by kernel_rfl)) ?_
 have hi32 : i = 32 := by omega
 have hxe : x = nd (lv b) := nd_of hx (by rw [hxv, hi32, ZI (by omega)])
 subst hxe
 exact ⟨rfl, Hv142.pk []⟩

end Go.Proofs.YtlnogkmnklfjlaaDoor
