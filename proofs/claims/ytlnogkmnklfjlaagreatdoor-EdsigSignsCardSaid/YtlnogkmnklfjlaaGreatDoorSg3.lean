import Derived.Test.YtlnogkmnklfjlaaGreatDoorSg1
import Derived.Test.YtlnogkmnklfjlaaGreatDoorSg2
open List renaming getD → za, length → zb, replicate → zd, toArray → zg, length_replicate → zi, set → zp, getD_eq_getElem?_getD → zI, length_cons → zX, getElem?_replicate → Qh, getElem?_cons_zero → Q8, getElem?_cons_succ → Yv
open UInt64 renaming ofNat → zc, toNat → zw, toNat_add → ZN, toNat_inj → Qr
open Go.Dbr renaming then_normal → ze, u64s_lenh → zf, u64s → zh, region_from → zk, uv64 → zm, load_whole → zq, u64s_one → zt, block_normal → zv, u64s_getD → zx, then_exit → zy, loop_once → zF, block_exit → zL, m_gw → zQ, addHi → zT, addLo → zV, subHi → z0, d_cell1 → z9, loop_m → ZR, u64s_set → ZU, subLo → Qd, loop_enter → QI, mulHi → Yh, addHi_le → YM, subHi_le → J9, add_val → Xd, op_ext → Xk, h_ext → Xz, sub_val → Kq
open Go.Dbr.Ev renaming cellAgg → zB, drew → zO
open Nat renaming mod_eq_of_lt → zG, mul_comm → zZ, pow_succ → z8, mul_assoc → Ze, add_mul → Zo, lt_trans → Zu, add_zero → Zx, add_assoc → ZK, pow_zero → ZX, zero_mul → Z4, mul_zero → Z5, mul_add → Qs, zero_le → JM
open Option renaming getD_some → JF
namespace Go.Proofs.YtlnogkmnklfjlaaGreatDoor
open Go.Dbr
set_option maxRecDepth 100000
set_option maxHeartbeats 2000000
set_option linter.unusedVariables false
set_option linter.unusedSimpArgs false
abbrev pt (b : Nat) : Value := .pointer (some (Addr.mk b 0 none))
abbrev ni (n : Nat) : Value := .int .i64 (n : Int)
abbrev W256 : Nat := 115792089237316195423570985008687907853269984665640564039457584007913129639936
abbrev nv (l : List UInt64) : Nat := dv 18446744073709551616 l
def nds : Nat → Nat → List UInt64
  | 0, _ => []
  | k + 1, n => zc n :: nds k (n / 18446744073709551616)
abbrev nd (n : Nat) : List UInt64 := nds 4 n
theorem nds_len : ∀ (k n : Nat), (nds k n).length = k
  | 0, _ => rfl
  | k + 1, n => by rw [nds, zX, nds_len k]
theorem ofNat_val (n : Nat) : (zc n).toNat = n % 18446744073709551616 := by
  show (BitVec.ofNat 64 n).toNat = n % 18446744073709551616
  rw [BitVec.toNat_ofNat]
theorem nds_val : ∀ (k n : Nat), dv 18446744073709551616 (nds k n) = n % 18446744073709551616 ^ k
  | 0, n => by rw [ZX, Nat.mod_one]; rfl
  | k + 1, n => by
    rw [nds, dv_cons, nds_val k, ofNat_val, z8, zZ (18446744073709551616 ^ k), Nat.mod_mul]
theorem w256_pow : 18446744073709551616 ^ 4 = W256 := by decide
theorem nd_val (n : Nat) : nv (nd n) = n % W256 := by rw [nv, nd, nds_val, w256_pow]
theorem nds_dv : ∀ (l : List UInt64), nds l.length (dv 18446744073709551616 l) = l
  | [] => rfl
  | x :: r => by
    have hx := lt64 x
    rw [zX, nds, dv_cons]
    have h1 : (x.toNat + 18446744073709551616 * dv 18446744073709551616 r) / 18446744073709551616 = dv 18446744073709551616 r := by omega
    have h2 : zc (x.toNat + 18446744073709551616 * dv 18446744073709551616 r) = x := by
      apply Qr.1
      rw [ofNat_val]
      omega
    rw [h1, h2, nds_dv r]
theorem nds_of {l : List UInt64} {k n : Nat} (hl : l.length = k) (h : dv 18446744073709551616 l = n) : l = nds k n := by rw [← h, ← hl, nds_dv]
theorem nds_mod : ∀ (k n : Nat), nds k (n % 18446744073709551616 ^ k) = nds k n
  | k, n => (nds_of (nds_len k n) (nds_val k n)).symm
theorem nd_mod (n : Nat) : nd (n % W256) = nd n := by rw [← w256_pow]; exact nds_mod 4 n
theorem nd_of {l : List UInt64} {n : Nat} (hl : l.length = 4) (h : nv l = n) : l = nd n := nds_of hl h
theorem dv_lt : ∀ (l : List UInt64), dv 18446744073709551616 l < 18446744073709551616 ^ l.length
  | [] => by decide
  | x :: r => by
    have h1 := dv_lt r
    have h2 := lt64 x
    rw [dv_cons, zX, z8]
    generalize 18446744073709551616 ^ r.length = q at *
    generalize dv 18446744073709551616 r = d at *
    have : 18446744073709551616 * (d + 1) ≤ 18446744073709551616 * q := Nat.mul_le_mul_left _ h1
    rw [zZ q]
    omega
theorem nv_lt {l : List UInt64} (hl : l.length = 4) : nv l < W256 := by
  have := dv_lt l
  rw [hl, w256_pow] at this
  exact this
theorem nv_inj {l m : List UInt64} (hl : l.length = 4) (hm : m.length = 4) (h : nv l = nv m) : l = m := (nd_of hl h).trans (nd_of hm rfl).symm
theorem nv4 (a b c d : UInt64) : nv [a, b, c, d] = a.toNat + 18446744073709551616 * (b.toNat + 18446744073709551616 * (c.toNat + 18446744073709551616 * d.toNat)) := by
  simp only [nv, dv, Z5, Zx]
def sbF (a b : List UInt64) : Nat → UInt64
  | 0 => 0
  | i + 1 => z0 (za a i 0) (za b i 0) (sbF a b i)
def adF (a b : List UInt64) : Nat → UInt64
  | 0 => 0
  | i + 1 => zT (za a i 0) (za b i 0) (adF a b i)
def minL (a b : List UInt64) : List UInt64 := [Qd (za a 0 0) (za b 0 0) (sbF a b 0), Qd (za a 1 0) (za b 1 0) (sbF a b 1), Qd (za a 2 0) (za b 2 0) (sbF a b 2), Qd (za a 3 0) (za b 3 0) (sbF a b 3)]
def plusL (a b : List UInt64) : List UInt64 := [zV (za a 0 0) (za b 0 0) (adF a b 0), zV (za a 1 0) (za b 1 0) (adF a b 1), zV (za a 2 0) (za b 2 0) (adF a b 2), zV (za a 3 0) (za b 3 0) (adF a b 3)]
theorem sbF_le (a b : List UInt64) : ∀ i, (sbF a b i).toNat ≤ 1
  | 0 => JM 1
  | _ + 1 => J9
theorem adF_le (a b : List UInt64) : ∀ i, (adF a b i).toNat ≤ 1
  | 0 => JM 1
  | i + 1 => YM (adF_le a b i)
theorem min_eq {a b : List UInt64} (ha : a.length = 4) (hb : b.length = 4) : nv (minL a b) + nv b = nv a + W256 * (sbF a b 4).toNat := by
  match a, ha, b, hb with
  | [a0, a1, a2, a3], _, [b0, b1, b2, b3], _ =>
    have l0 := sbF_le [a0, a1, a2, a3] [b0, b1, b2, b3] 0
    have l1 := sbF_le [a0, a1, a2, a3] [b0, b1, b2, b3] 1
    have l2 := sbF_le [a0, a1, a2, a3] [b0, b1, b2, b3] 2
    have l3 := sbF_le [a0, a1, a2, a3] [b0, b1, b2, b3] 3
    have e0 := Kq (x := a0) (y := b0) l0
    have e1 := Kq (x := a1) (y := b1) l1
    have e2 := Kq (x := a2) (y := b2) l2
    have e3 := Kq (x := a3) (y := b3) l3
    have z : (sbF [a0, a1, a2, a3] [b0, b1, b2, b3] 0).toNat = 0 := rfl
    rw [minL, nv4, nv4, nv4]
    change _ = _ + 115792089237316195423570985008687907853269984665640564039457584007913129639936 * (z0 a3 b3 (sbF [a0, a1, a2, a3] [b0, b1, b2, b3] 3)).toNat
    simp only [za, Q8, Yv, JF] at *
    change _ = a0.toNat + 18446744073709551616 * (sbF [a0, a1, a2, a3] [b0, b1, b2, b3] 1).toNat at e0
    change _ = a1.toNat + 18446744073709551616 * (sbF [a0, a1, a2, a3] [b0, b1, b2, b3] 2).toNat at e1
    change _ = a2.toNat + 18446744073709551616 * (sbF [a0, a1, a2, a3] [b0, b1, b2, b3] 3).toNat at e2
    omega
theorem plus_eq {a b : List UInt64} (ha : a.length = 4) (hb : b.length = 4) : nv (plusL a b) + W256 * (adF a b 4).toNat = nv a + nv b := by
  match a, ha, b, hb with
  | [a0, a1, a2, a3], _, [b0, b1, b2, b3], _ =>
    have e0 := Xd (x := a0) (y := b0) (c := adF [a0, a1, a2, a3] [b0, b1, b2, b3] 0)
    have e1 := Xd (x := a1) (y := b1) (c := adF [a0, a1, a2, a3] [b0, b1, b2, b3] 1)
    have e2 := Xd (x := a2) (y := b2) (c := adF [a0, a1, a2, a3] [b0, b1, b2, b3] 2)
    have e3 := Xd (x := a3) (y := b3) (c := adF [a0, a1, a2, a3] [b0, b1, b2, b3] 3)
    have z : (adF [a0, a1, a2, a3] [b0, b1, b2, b3] 0).toNat = 0 := rfl
    rw [plusL, nv4, nv4, nv4]
    change _ + 115792089237316195423570985008687907853269984665640564039457584007913129639936 * (zT a3 b3 (adF [a0, a1, a2, a3] [b0, b1, b2, b3] 3)).toNat = _
    simp only [za, Q8, Yv, JF] at *
    change _ + 18446744073709551616 * (adF [a0, a1, a2, a3] [b0, b1, b2, b3] 1).toNat = _ at e0
    change _ + 18446744073709551616 * (adF [a0, a1, a2, a3] [b0, b1, b2, b3] 2).toNat = _ at e1
    change _ + 18446744073709551616 * (adF [a0, a1, a2, a3] [b0, b1, b2, b3] 3).toNat = _ at e2
    omega
theorem minL_len (a b : List UInt64) : (minL a b).length = 4 := rfl
theorem plusL_len (a b : List UInt64) : (plusL a b).length = 4 := rfl
def u1 (p : Prop) [Decidable p] : UInt64 := if p then 1 else 0
theorem u1_le (p : Prop) [Decidable p] : (u1 p).toNat ≤ 1 := by unfold u1; split <;> decide
theorem u1_val (p : Prop) [Decidable p] : (u1 p).toNat = if p then 1 else 0 := by unfold u1; split <;> rfl
theorem sb_nd {a b : List UInt64} (ha : a.length = 4) (hb : b.length = 4) : sbF a b 4 = u1 (nv a < nv b) := by
  have h := min_eq ha hb
  have h1 := nv_lt ha
  have h2 := nv_lt hb
  have h3 := nv_lt (minL_len a b)
  have h4 := sbF_le a b 4
  simp only [W256] at *
  apply Qr.1
  rw [u1_val]
  split <;> omega
theorem min_nd {a b : List UInt64} (ha : a.length = 4) (hb : b.length = 4) : minL a b = nd (nv a + W256 - nv b) := by
  have h := min_eq ha hb
  have h1 := nv_lt ha
  have h2 := nv_lt hb
  have h3 := nv_lt (minL_len a b)
  have h4 := sbF_le a b 4
  simp only [W256] at *
  refine nv_inj rfl (nds_len _ _) ?_
  rw [nd_val]
  simp only [W256] at *
  omega
theorem ad_nd {a b : List UInt64} (ha : a.length = 4) (hb : b.length = 4) : adF a b 4 = u1 (W256 ≤ nv a + nv b) := by
  have h := plus_eq ha hb
  have h1 := nv_lt ha
  have h2 := nv_lt hb
  have h3 := nv_lt (plusL_len a b)
  have h4 := adF_le a b 4
  simp only [W256] at *
  apply Qr.1
  rw [u1_val]
  split <;> omega
theorem plus_nd {a b : List UInt64} (ha : a.length = 4) (hb : b.length = 4) : plusL a b = nd (nv a + nv b) := by
  have h := plus_eq ha hb
  have h1 := nv_lt ha
  have h2 := nv_lt hb
  have h3 := nv_lt (plusL_len a b)
  have h4 := adF_le a b 4
  simp only [W256] at *
  refine nv_inj rfl (nds_len _ _) ?_
  rw [nd_val]
  simp only [W256] at *
  omega
theorem u1_one (p : Prop) [Decidable p] : (((u1 p).toNat : Int) == (1 : Int)) = decide p := by
  rw [u1_val]
  by_cases h : p
  · rw [if_pos h, decide_eq_true h]; rfl
  · rw [if_neg h, decide_eq_false h]; rfl
theorem less4 (w : World) (ba bb : Nat) (a0 a1 a2 a3 b0 b1 b2 b3 : UInt64) (hH : Heap w [.box ba [zm a0, zm a1, zm a2, zm a3] 33, .box bb [zm b0, zm b1, zm b2, zm b3] 33]) : Calls Tryz.prog 54 #[pt ba, pt bb] w fun e w' => e = .returned (.bool (decide (nv [a0, a1, a2, a3] < nv [b0, b1, b2, b3]))) ∧ Ev w [.box ba [zm a0, zm a1, zm a2, zm a3] 33, .box bb [zm b0, zm b1, zm b2, zm b3] 33] w' [.box ba [zm a0, zm a1, zm a2, zm a3] 33, .box bb [zm b0, zm b1, zm b2, zm b3] 33] := by
 refine d_0 [(0, pt ba), (1, pt bb)] 28 Go.Proofs.Tryz.func54 Go.Proofs.Tryz.ntmps54 (hH) fun E4 E5 E2 => d_s [0,1,4] [] E5 fun _ E6 => d_s [0,1,4,5] [] E6 fun _ E7 => wp_seq <| d_s [0,1,4,5,7] [] E7 fun _ E8 => ?_
 refine wp_block <| QI ?_
 refine zF <| d_s [0,1,4,5,7,8] [] E8 fun _ E3 => wp_seq <| c_t E3 ?_
 refine wp_skip <| ze <| wp_seq <| wp_block <| d_s [0,1,4,5,6,7] [] E3 fun _ ER => ?_
 refine r_c (fun ac wo => Env ac 28 [(0, pt ba), (1, pt bb), (4, .bool false), (5, zm (z0 a0 b0 (0 : UInt64))), (7, .int .i64 0)] ∧ Ev w [.box ba [zm a0, zm a1, zm a2, zm a3] 33, .box bb [zm b0, zm b1, zm b2, zm b3] 33] wo [.box ba [zm a0, zm a1, zm a2, zm a3] 33, .box bb [zm b0, zm b1, zm b2, zm b3] 33]) ?_ ?_
 ·
  refine h_s (fun wv => Ev w [.box ba [zm a0, zm a1, zm a2, zm a3] 33, .box bb [zm b0, zm b1, zm b2, zm b3] 33] wv [.box ba [zm a0, zm a1, zm a2, zm a3] 33, .box bb [zm b0, zm b1, zm b2, zm b3] 33]) [] 16 ?_
  have Ec := E2.trans (zO E2.heap)
  refine q_s [0,1,2,3] [] 12 ER (Ec.pk [0, 1]) fun _ ES => q_l 0 4 ES (Ec.pk [0, 1]) fun _ ET => q_s [5,6,7,8] [] 7 ET (Ec.pk [0, 1]) fun _ EU => q_l 1 9 EU (Ec.pk [0, 1]) fun _ EV => ?_
  refine q_s [10] [] 5 EV (Ec.pk [0, 1]) fun _ EW => Xz (d := some 22) (f := 86) (args := #[zm a0, zm b0, zm (0 : UInt64)]) (v := .tuple #[zm (Qd a0 b0 (0 : UInt64)), zm (z0 a0 b0 (0 : UInt64))]) EW 11 (by kernel_rfl) (Go.Dbr.ext_sub64 Go.Proofs.Tryz.func86 (by kernel_rfl) (by kernel_rfl) (by kernel_rfl) (by kernel_rfl) a0 b0 (0 : UInt64) (by decide)) (by kernel_rfl) rfl (fun _ => Ec.pk [0, 1]) fun _ EX => q_s [12,13,14,15] [] 0 EX (Ec.pk [0, 1]) fun _ EY => ?_
  exact h_e ⟨EY.sb, Ec.pk [0, 1]⟩
 rintro _ _ ⟨EZ, Ej⟩
 refine zv <| ze <| d_r [0,1,4,5,7] [] EZ fun _ E0 => ze <| zF <| d_s [0,1,4,5,7,8] [] E0 fun _ Ek => wp_seq <| c_t Ek ?_
 refine wp_skip <| ze <| wp_seq <| wp_block <| d_s [0,1,4,5,6,7] [] Ek fun _ E1 => ?_
 refine r_c (fun ac wo => Env ac 28 [(0, pt ba), (1, pt bb), (4, .bool false), (5, zm (z0 a1 b1 (z0 a0 b0 (0 : UInt64)))), (7, .int .i64 1)] ∧ Ev w [.box ba [zm a0, zm a1, zm a2, zm a3] 33, .box bb [zm b0, zm b1, zm b2, zm b3] 33] wo [.box ba [zm a0, zm a1, zm a2, zm a3] 33, .box bb [zm b0, zm b1, zm b2, zm b3] 33]) ?_ ?_
 ·
  refine h_s (fun wv => Ev w [.box ba [zm a0, zm a1, zm a2, zm a3] 33, .box bb [zm b0, zm b1, zm b2, zm b3] 33] wv [.box ba [zm a0, zm a1, zm a2, zm a3] 33, .box bb [zm b0, zm b1, zm b2, zm b3] 33]) [] 16 ?_
  have Ed := Ej.trans (zO Ej.heap)
  refine q_s [0,1,2,3] [] 12 E1 (Ed.pk [0, 1]) fun _ El => q_l 0 4 El (Ed.pk [0, 1]) fun _ Em => q_s [5,6,7,8] [] 7 Em (Ed.pk [0, 1]) fun _ En => q_l 1 9 En (Ed.pk [0, 1]) fun _ Eo => ?_
  refine q_s [10] [] 5 Eo (Ed.pk [0, 1]) fun _ Ep => Xz (d := some 22) (f := 86) (args := #[zm a1, zm b1, zm (z0 a0 b0 (0 : UInt64))]) (v := .tuple #[zm (Qd a1 b1 (z0 a0 b0 (0 : UInt64))), zm (z0 a1 b1 (z0 a0 b0 (0 : UInt64)))]) Ep 11 (by kernel_rfl) (Go.Dbr.ext_sub64 Go.Proofs.Tryz.func86 (by kernel_rfl) (by kernel_rfl) (by kernel_rfl) (by kernel_rfl) a1 b1 (z0 a0 b0 (0 : UInt64)) (J9)) (by kernel_rfl) rfl (fun _ => Ed.pk [0, 1]) fun _ Eq => q_s [12,13,14,15] [] 0 Eq (Ed.pk [0, 1]) fun _ Er => ?_
  exact h_e ⟨Er.sb, Ed.pk [0, 1]⟩
 rintro _ _ ⟨Es, Ee⟩
 refine zv <| ze <| d_r [0,1,4,5,7] [] Es fun _ Et => ze <| zF <| d_s [0,1,4,5,7,8] [] Et fun _ Ef => wp_seq <| c_t Ef ?_
 refine wp_skip <| ze <| wp_seq <| wp_block <| d_s [0,1,4,5,6,7] [] Ef fun _ Eu => ?_
 refine r_c (fun ac wo => Env ac 28 [(0, pt ba), (1, pt bb), (4, .bool false), (5, zm (z0 a2 b2 (z0 a1 b1 (z0 a0 b0 (0 : UInt64))))), (7, .int .i64 2)] ∧ Ev w [.box ba [zm a0, zm a1, zm a2, zm a3] 33, .box bb [zm b0, zm b1, zm b2, zm b3] 33] wo [.box ba [zm a0, zm a1, zm a2, zm a3] 33, .box bb [zm b0, zm b1, zm b2, zm b3] 33]) ?_ ?_
 ·
  refine h_s (fun wv => Ev w [.box ba [zm a0, zm a1, zm a2, zm a3] 33, .box bb [zm b0, zm b1, zm b2, zm b3] 33] wv [.box ba [zm a0, zm a1, zm a2, zm a3] 33, .box bb [zm b0, zm b1, zm b2, zm b3] 33]) [] 16 ?_
  have Ea := Ee.trans (zO Ee.heap)
  refine q_s [0,1,2,3] [] 12 Eu (Ea.pk [0, 1]) fun _ Ew => q_l 0 4 Ew (Ea.pk [0, 1]) fun _ Ex => q_s [5,6,7,8] [] 7 Ex (Ea.pk [0, 1]) fun _ Ey => q_l 1 9 Ey (Ea.pk [0, 1]) fun _ Ez => ?_
  refine q_s [10] [] 5 Ez (Ea.pk [0, 1]) fun _ EA => Xz (d := some 22) (f := 86) (args := #[zm a2, zm b2, zm (z0 a1 b1 (z0 a0 b0 (0 : UInt64)))]) (v := .tuple #[zm (Qd a2 b2 (z0 a1 b1 (z0 a0 b0 (0 : UInt64)))), zm (z0 a2 b2 (z0 a1 b1 (z0 a0 b0 (0 : UInt64))))]) EA 11 (by kernel_rfl) (Go.Dbr.ext_sub64 Go.Proofs.Tryz.func86 (by kernel_rfl) (by kernel_rfl) (by kernel_rfl) (by kernel_rfl) a2 b2 (z0 a1 b1 (z0 a0 b0 (0 : UInt64))) (J9)) (by kernel_rfl) rfl (fun _ => Ea.pk [0, 1]) fun _ EB => q_s [12,13,14,15] [] 0 EB (Ea.pk [0, 1]) fun _ EC => ?_
  exact h_e ⟨EC.sb, Ea.pk [0, 1]⟩
 rintro _ _ ⟨ED, Eg⟩
 refine zv <| ze <| d_r [0,1,4,5,7] [] ED fun _ EE => ze <| zF <| d_s [0,1,4,5,7,8] [] EE fun _ Eh => wp_seq <| c_t Eh ?_
 refine wp_skip <| ze <| wp_seq <| wp_block <| d_s [0,1,4,5,6,7] [] Eh fun _ EF => ?_
 refine r_c (fun ac wo => Env ac 28 [(0, pt ba), (1, pt bb), (4, .bool false), (5, zm (z0 a3 b3 (z0 a2 b2 (z0 a1 b1 (z0 a0 b0 (0 : UInt64)))))), (7, .int .i64 3)] ∧ Ev w [.box ba [zm a0, zm a1, zm a2, zm a3] 33, .box bb [zm b0, zm b1, zm b2, zm b3] 33] wo [.box ba [zm a0, zm a1, zm a2, zm a3] 33, .box bb [zm b0, zm b1, zm b2, zm b3] 33]) ?_ ?_
 ·
  refine h_s (fun wv => Ev w [.box ba [zm a0, zm a1, zm a2, zm a3] 33, .box bb [zm b0, zm b1, zm b2, zm b3] 33] wv [.box ba [zm a0, zm a1, zm a2, zm a3] 33, .box bb [zm b0, zm b1, zm b2, zm b3] 33]) [] 16 ?_
  have Eb := Eg.trans (zO Eg.heap)
  refine q_s [0,1,2,3] [] 12 EF (Eb.pk [0, 1]) fun _ EG => q_l 0 4 EG (Eb.pk [0, 1]) fun _ EH => q_s [5,6,7,8] [] 7 EH (Eb.pk [0, 1]) fun _ EI => q_l 1 9 EI (Eb.pk [0, 1]) fun _ EJ => ?_
  refine q_s [10] [] 5 EJ (Eb.pk [0, 1]) fun _ EK => Xz (d := some 22) (f := 86) (args := #[zm a3, zm b3, zm (z0 a2 b2 (z0 a1 b1 (z0 a0 b0 (0 : UInt64))))]) (v := .tuple #[zm (Qd a3 b3 (z0 a2 b2 (z0 a1 b1 (z0 a0 b0 (0 : UInt64))))), zm (z0 a3 b3 (z0 a2 b2 (z0 a1 b1 (z0 a0 b0 (0 : UInt64)))))]) EK 11 (by kernel_rfl) (Go.Dbr.ext_sub64 Go.Proofs.Tryz.func86 (by kernel_rfl) (by kernel_rfl) (by kernel_rfl) (by kernel_rfl) a3 b3 (z0 a2 b2 (z0 a1 b1 (z0 a0 b0 (0 : UInt64)))) (J9)) (by kernel_rfl) rfl (fun _ => Eb.pk [0, 1]) fun _ EL => q_s [12,13,14,15] [] 0 EL (Eb.pk [0, 1]) fun _ EM => ?_
  exact h_e ⟨EM.sb, Eb.pk [0, 1]⟩
 rintro _ _ ⟨EN, EO⟩
 refine zv <| ze <| d_r [0,1,4,5,7] [] EN fun _ EP => ze <| zF <| d_s [0,1,4,5,7,8] [] EP fun _ Ei => wp_seq <| c_f Ei ?_
 refine wp_exit <| zy <| zy <| zL <| ze <| d_s [0,1,4,5,7] [] Ei fun _ EQ => wp_ret <| d_ret1 (t := 4) (v := .bool (((zw (z0 a3 b3 (z0 a2 b2 (z0 a1 b1 (z0 a0 b0 (0 : UInt64))))) : Nat) : Int) == (1 : Int))) EQ (by kernel_rfl) (by kernel_rfl) ?_
 have e : (((zw (z0 a3 b3 (z0 a2 b2 (z0 a1 b1 (z0 a0 b0 (0 : UInt64))))) : Nat) : Int) == (1 : Int)) = decide (nv [a0, a1, a2, a3] < nv [b0, b1, b2, b3]) := by
  change (((zw (sbF [a0, a1, a2, a3] [b0, b1, b2, b3] 4) : Nat) : Int) == (1 : Int)) = _
  rw [sb_nd rfl rfl, u1_one]
 exact ⟨by rw [e], EO.pk [0, 1]⟩
theorem less_go (w : World) (ba bb : Nat) (a b : List UInt64) (ha : zb a = 4) (hb : zb b = 4) (hH : Heap w [.box ba (zh a) 33, .box bb (zh b) 33]) : Calls Tryz.prog 54 #[pt ba, pt bb] w fun e w' => e = .returned (.bool (decide (nv a < nv b))) ∧ Ev w [.box ba (zh a) 33, .box bb (zh b) 33] w' [.box ba (zh a) 33, .box bb (zh b) 33] := by
  match a, ha, b, hb with
  | [a0, a1, a2, a3], _, [b0, b1, b2, b3], _ => exact less4 w ba bb a0 a1 a2 a3 b0 b1 b2 b3 hH
theorem minus4 (w : World) (a0 a1 a2 a3 b0 b1 b2 b3 : UInt64) : Calls Tryz.prog 55 #[.agg #[zm a0, zm a1, zm a2, zm a3], .agg #[zm b0, zm b1, zm b2, zm b3]] w fun e w' => e = .returned (.tuple #[.agg (zg (zh (minL [a0, a1, a2, a3] [b0, b1, b2, b3]))), zm (sbF [a0, a1, a2, a3] [b0, b1, b2, b3] 4)]) ∧ Ev w [] w' [] := by
 refine d_0 [(0, .agg #[zm a0, zm a1, zm a2, zm a3]), (1, .agg #[zm b0, zm b1, zm b2, zm b3])] 27 Go.Proofs.Tryz.func55 Go.Proofs.Tryz.ntmps55 (Heap.nil _) fun Hs Ht Hu => wp_seq <| zk <| f_o <| m_m 33 [zm a0, zm a1, zm a2, zm a3] Ht Hu fun _ _ Ef Hv Hw => f_o <| m_m 33 [zm b0, zm b1, zm b2, zm b3] Hv Hw fun _ _ Eg Hx Hb => f_o <| m_z 33 (zh (zd 4 0)) Hx Hb fun _ _ Ea Hc Eq => ?_
 refine d_e [2,3,4,5] [] Hc fun _ Hd => ze <| d_s [2,3,4,5,6] [] Hd fun _ He => wp_seq <| d_s [2,3,4,5,6,8] [] He fun _ Hf => wp_block <| QI ?_
 refine zF <| d_s [2,3,4,5,6,8,9] [] Hf fun _ Er => wp_seq <| c_t Er ?_
 refine wp_skip <| ze <| wp_seq <| wp_block <| d_s [2,3,4,5,6,7,8] [] Er fun _ Hg => ?_
 refine r_c (fun ac wo => Env ac 27 [(2, pt Ef), (3, pt Eg), (4, pt Ea), (5, .int .u64 0), (6, zm (z0 a0 b0 (0 : UInt64))), (8, .int .i64 0)] ∧ Ev w [] wo [.box Ef [zm (Qd a0 b0 (0 : UInt64)), zm a1, zm a2, zm a3] 33, .box Eg [zm b0, zm b1, zm b2, zm b3] 33, .box Ea (zh (zd 4 0)) 33]) ?_ ?_
 ·
  refine h_s (fun wv => Ev w [] wv [.box Ef [zm a0, zm a1, zm a2, zm a3] 33, .box Eg [zm b0, zm b1, zm b2, zm b3] 33]) [13] 15 ?_
  have Ee := Eq.trans (zO Eq.heap)
  refine q_s [0,1,2] [] 12 Hg (Ee.pk [0, 1]) fun _ Hh => q_l 0 3 Hh (Ee.pk [0, 1]) fun _ Hi => q_s [4,5] [] 9 Hi (Ee.pk [0, 1]) fun _ Hj => q_l 1 6 Hj (Ee.pk [0, 1]) fun _ Hk => ?_
  refine q_s [7] [] 7 Hk (Ee.pk [0, 1]) fun _ Hl => Xz (d := some 20) (f := 86) (args := #[zm a0, zm b0, zm (0 : UInt64)]) (v := .tuple #[zm (Qd a0 b0 (0 : UInt64)), zm (z0 a0 b0 (0 : UInt64))]) Hl 8 (by kernel_rfl) (Go.Dbr.ext_sub64 Go.Proofs.Tryz.func86 (by kernel_rfl) (by kernel_rfl) (by kernel_rfl) (by kernel_rfl) a0 b0 (0 : UInt64) (by decide)) (by kernel_rfl) rfl (fun _ => Ee.pk [0, 1]) fun _ Hm => q_s [9,10,11,12] [] 2 Hm (Ee.pk [0, 1]) fun _ Hn => q_t 13 ?_
  refine m_s 0 [.box Ef [zm (Qd a0 b0 (0 : UInt64)), zm a1, zm a2, zm a3] 33, .box Eg [zm b0, zm b1, zm b2, zm b3] 33, .box Ea (zh (zd 4 0)) 33] Hn Ee fun _ _ Ho Hp => ⟨q_y, ?_⟩
  refine q_n [14] [] 0 Ho fun _ Hq => ?_
  exact h_e ⟨Hq.sb, Hp.pk [0, 1, 2]⟩
 rintro _ _ ⟨Hr, Eh⟩
 refine zv <| ze <| d_r [2,3,4,5,6,8] [] Hr fun _ Es => ze <| zF <| d_s [2,3,4,5,6,8,9] [] Es fun _ Ei => wp_seq <| c_t Ei ?_
 refine wp_skip <| ze <| wp_seq <| wp_block <| d_s [2,3,4,5,6,7,8] [] Ei fun _ Et => ?_
 refine r_c (fun ac wo => Env ac 27 [(2, pt Ef), (3, pt Eg), (4, pt Ea), (5, .int .u64 0), (6, zm (z0 a1 b1 (z0 a0 b0 (0 : UInt64)))), (8, .int .i64 1)] ∧ Ev w [] wo [.box Ef [zm (Qd a0 b0 (0 : UInt64)), zm (Qd a1 b1 (z0 a0 b0 (0 : UInt64))), zm a2, zm a3] 33, .box Eg [zm b0, zm b1, zm b2, zm b3] 33, .box Ea (zh (zd 4 0)) 33]) ?_ ?_
 ·
  refine h_s (fun wv => Ev w [] wv [.box Ef [zm (Qd a0 b0 (0 : UInt64)), zm a1, zm a2, zm a3] 33, .box Eg [zm b0, zm b1, zm b2, zm b3] 33]) [13] 15 ?_
  have Eb := Eh.trans (zO Eh.heap)
  refine q_s [0,1,2] [] 12 Et (Eb.pk [0, 1]) fun _ Eu => q_l 0 3 Eu (Eb.pk [0, 1]) fun _ Ew => q_s [4,5] [] 9 Ew (Eb.pk [0, 1]) fun _ Ex => q_l 1 6 Ex (Eb.pk [0, 1]) fun _ Ey => ?_
  refine q_s [7] [] 7 Ey (Eb.pk [0, 1]) fun _ Ez => Xz (d := some 20) (f := 86) (args := #[zm a1, zm b1, zm (z0 a0 b0 (0 : UInt64))]) (v := .tuple #[zm (Qd a1 b1 (z0 a0 b0 (0 : UInt64))), zm (z0 a1 b1 (z0 a0 b0 (0 : UInt64)))]) Ez 8 (by kernel_rfl) (Go.Dbr.ext_sub64 Go.Proofs.Tryz.func86 (by kernel_rfl) (by kernel_rfl) (by kernel_rfl) (by kernel_rfl) a1 b1 (z0 a0 b0 (0 : UInt64)) (J9)) (by kernel_rfl) rfl (fun _ => Eb.pk [0, 1]) fun _ EA => q_s [9,10,11,12] [] 2 EA (Eb.pk [0, 1]) fun _ EB => q_t 13 ?_
  refine m_s 0 [.box Ef [zm (Qd a0 b0 (0 : UInt64)), zm (Qd a1 b1 (z0 a0 b0 (0 : UInt64))), zm a2, zm a3] 33, .box Eg [zm b0, zm b1, zm b2, zm b3] 33, .box Ea (zh (zd 4 0)) 33] EB Eb fun _ _ EC ED => ⟨q_y, ?_⟩
  refine q_n [14] [] 0 EC fun _ EE => ?_
  exact h_e ⟨EE.sb, ED.pk [0, 1, 2]⟩
 rintro _ _ ⟨EF, Ej⟩
 refine zv <| ze <| d_r [2,3,4,5,6,8] [] EF fun _ EG => ze <| zF <| d_s [2,3,4,5,6,8,9] [] EG fun _ Ek => wp_seq <| c_t Ek ?_
 refine wp_skip <| ze <| wp_seq <| wp_block <| d_s [2,3,4,5,6,7,8] [] Ek fun _ EH => ?_
 refine r_c (fun ac wo => Env ac 27 [(2, pt Ef), (3, pt Eg), (4, pt Ea), (5, .int .u64 0), (6, zm (z0 a2 b2 (z0 a1 b1 (z0 a0 b0 (0 : UInt64))))), (8, .int .i64 2)] ∧ Ev w [] wo [.box Ef [zm (Qd a0 b0 (0 : UInt64)), zm (Qd a1 b1 (z0 a0 b0 (0 : UInt64))), zm (Qd a2 b2 (z0 a1 b1 (z0 a0 b0 (0 : UInt64)))), zm a3] 33, .box Eg [zm b0, zm b1, zm b2, zm b3] 33, .box Ea (zh (zd 4 0)) 33]) ?_ ?_
 ·
  refine h_s (fun wv => Ev w [] wv [.box Ef [zm (Qd a0 b0 (0 : UInt64)), zm (Qd a1 b1 (z0 a0 b0 (0 : UInt64))), zm a2, zm a3] 33, .box Eg [zm b0, zm b1, zm b2, zm b3] 33]) [13] 15 ?_
  have Ec := Ej.trans (zO Ej.heap)
  refine q_s [0,1,2] [] 12 EH (Ec.pk [0, 1]) fun _ EI => q_l 0 3 EI (Ec.pk [0, 1]) fun _ EJ => q_s [4,5] [] 9 EJ (Ec.pk [0, 1]) fun _ EK => q_l 1 6 EK (Ec.pk [0, 1]) fun _ EL => ?_
  refine q_s [7] [] 7 EL (Ec.pk [0, 1]) fun _ EM => Xz (d := some 20) (f := 86) (args := #[zm a2, zm b2, zm (z0 a1 b1 (z0 a0 b0 (0 : UInt64)))]) (v := .tuple #[zm (Qd a2 b2 (z0 a1 b1 (z0 a0 b0 (0 : UInt64)))), zm (z0 a2 b2 (z0 a1 b1 (z0 a0 b0 (0 : UInt64))))]) EM 8 (by kernel_rfl) (Go.Dbr.ext_sub64 Go.Proofs.Tryz.func86 (by kernel_rfl) (by kernel_rfl) (by kernel_rfl) (by kernel_rfl) a2 b2 (z0 a1 b1 (z0 a0 b0 (0 : UInt64))) (J9)) (by kernel_rfl) rfl (fun _ => Ec.pk [0, 1]) fun _ EN => q_s [9,10,11,12] [] 2 EN (Ec.pk [0, 1]) fun _ EO => q_t 13 ?_
  refine m_s 0 [.box Ef [zm (Qd a0 b0 (0 : UInt64)), zm (Qd a1 b1 (z0 a0 b0 (0 : UInt64))), zm (Qd a2 b2 (z0 a1 b1 (z0 a0 b0 (0 : UInt64)))), zm a3] 33, .box Eg [zm b0, zm b1, zm b2, zm b3] 33, .box Ea (zh (zd 4 0)) 33] EO Ec fun _ _ EP EQ => ⟨q_y, ?_⟩
  refine q_n [14] [] 0 EP fun _ ER => ?_
  exact h_e ⟨ER.sb, EQ.pk [0, 1, 2]⟩
 rintro _ _ ⟨ES, El⟩
 refine zv <| ze <| d_r [2,3,4,5,6,8] [] ES fun _ ET => ze <| zF <| d_s [2,3,4,5,6,8,9] [] ET fun _ Em => wp_seq <| c_t Em ?_
 refine wp_skip <| ze <| wp_seq <| wp_block <| d_s [2,3,4,5,6,7,8] [] Em fun _ EU => ?_
 refine r_c (fun ac wo => Env ac 27 [(2, pt Ef), (3, pt Eg), (4, pt Ea), (5, .int .u64 0), (6, zm (z0 a3 b3 (z0 a2 b2 (z0 a1 b1 (z0 a0 b0 (0 : UInt64)))))), (8, .int .i64 3)] ∧ Ev w [] wo [.box Ef [zm (Qd a0 b0 (0 : UInt64)), zm (Qd a1 b1 (z0 a0 b0 (0 : UInt64))), zm (Qd a2 b2 (z0 a1 b1 (z0 a0 b0 (0 : UInt64)))), zm (Qd a3 b3 (z0 a2 b2 (z0 a1 b1 (z0 a0 b0 (0 : UInt64)))))] 33, .box Eg [zm b0, zm b1, zm b2, zm b3] 33, .box Ea (zh (zd 4 0)) 33]) ?_ ?_
 ·
  refine h_s (fun wv => Ev w [] wv [.box Ef [zm (Qd a0 b0 (0 : UInt64)), zm (Qd a1 b1 (z0 a0 b0 (0 : UInt64))), zm (Qd a2 b2 (z0 a1 b1 (z0 a0 b0 (0 : UInt64)))), zm a3] 33, .box Eg [zm b0, zm b1, zm b2, zm b3] 33]) [13] 15 ?_
  have Ed := El.trans (zO El.heap)
  refine q_s [0,1,2] [] 12 EU (Ed.pk [0, 1]) fun _ EV => q_l 0 3 EV (Ed.pk [0, 1]) fun _ EW => q_s [4,5] [] 9 EW (Ed.pk [0, 1]) fun _ EX => q_l 1 6 EX (Ed.pk [0, 1]) fun _ EY => ?_
  refine q_s [7] [] 7 EY (Ed.pk [0, 1]) fun _ EZ => Xz (d := some 20) (f := 86) (args := #[zm a3, zm b3, zm (z0 a2 b2 (z0 a1 b1 (z0 a0 b0 (0 : UInt64))))]) (v := .tuple #[zm (Qd a3 b3 (z0 a2 b2 (z0 a1 b1 (z0 a0 b0 (0 : UInt64))))), zm (z0 a3 b3 (z0 a2 b2 (z0 a1 b1 (z0 a0 b0 (0 : UInt64)))))]) EZ 8 (by kernel_rfl) (Go.Dbr.ext_sub64 Go.Proofs.Tryz.func86 (by kernel_rfl) (by kernel_rfl) (by kernel_rfl) (by kernel_rfl) a3 b3 (z0 a2 b2 (z0 a1 b1 (z0 a0 b0 (0 : UInt64)))) (J9)) (by kernel_rfl) rfl (fun _ => Ed.pk [0, 1]) fun _ E0 => q_s [9,10,11,12] [] 2 E0 (Ed.pk [0, 1]) fun _ E1 => q_t 13 ?_
  refine m_s 0 [.box Ef [zm (Qd a0 b0 (0 : UInt64)), zm (Qd a1 b1 (z0 a0 b0 (0 : UInt64))), zm (Qd a2 b2 (z0 a1 b1 (z0 a0 b0 (0 : UInt64)))), zm (Qd a3 b3 (z0 a2 b2 (z0 a1 b1 (z0 a0 b0 (0 : UInt64)))))] 33, .box Eg [zm b0, zm b1, zm b2, zm b3] 33, .box Ea (zh (zd 4 0)) 33] E1 Ed fun _ _ E2 E3 => ⟨q_y, ?_⟩
  refine q_n [14] [] 0 E2 fun _ E4 => ?_
  exact h_e ⟨E4.sb, E3.pk [0, 1, 2]⟩
 rintro _ _ ⟨E5, En⟩
 refine zv <| ze <| d_r [2,3,4,5,6,8] [] E5 fun _ E6 => ze <| zF <| d_s [2,3,4,5,6,8,9] [] E6 fun _ Eo => wp_seq <| c_f Eo ?_
 refine wp_exit <| zy <| zy <| zL <| ze <| wp_seq <| zk <| f_o <| m_a 0 0 4 [zm (Qd a0 b0 (0 : UInt64)), zm (Qd a1 b1 (z0 a0 b0 (0 : UInt64))), zm (Qd a2 b2 (z0 a1 b1 (z0 a0 b0 (0 : UInt64)))), zm (Qd a3 b3 (z0 a2 b2 (z0 a1 b1 (z0 a0 b0 (0 : UInt64)))))] Eo En rfl rfl rfl fun _ E7 => d_k [2,3,4,5,6,8,25,26] [] 2 E7 fun _ E8 => f_o <| zQ 2 4 [zm (Qd a0 b0 (0 : UInt64)), zm (Qd a1 b1 (z0 a0 b0 (0 : UInt64))), zm (Qd a2 b2 (z0 a1 b1 (z0 a0 b0 (0 : UInt64)))), zm (Qd a3 b3 (z0 a2 b2 (z0 a1 b1 (z0 a0 b0 (0 : UInt64)))))] _ E8 En rfl rfl (zf (zi)) (one_all (by kernel_rfl)) rfl fun _ _ E9 Ep => d_e [2,3,4,5,6,8] [] E9 fun _ Ha => ?_
 refine ze <| wp_ret <| d_cell_tmp (v := .agg #[zm (Qd a0 b0 (0 : UInt64)), zm (Qd a1 b1 (z0 a0 b0 (0 : UInt64))), zm (Qd a2 b2 (z0 a1 b1 (z0 a0 b0 (0 : UInt64)))), zm (Qd a3 b3 (z0 a2 b2 (z0 a1 b1 (z0 a0 b0 (0 : UInt64)))))]) (x := zm (z0 a3 b3 (z0 a2 b2 (z0 a1 b1 (z0 a0 b0 (0 : UInt64)))))) (t := 4) (T := 33) (ad := ⟨Ea, 0, none⟩) (u := 5) Ha (by kernel_rfl) (by kernel_rfl) (zB (t := 33) (k := 2) (off := 0) (m := 4) (xs := [zm (Qd a0 b0 (0 : UInt64)), zm (Qd a1 b1 (z0 a0 b0 (0 : UInt64))), zm (Qd a2 b2 (z0 a1 b1 (z0 a0 b0 (0 : UInt64)))), zm (Qd a3 b3 (z0 a2 b2 (z0 a1 b1 (z0 a0 b0 (0 : UInt64)))))]) Ep rfl rfl rfl (by kernel_rfl) (by kernel_rfl)) (by kernel_rfl) ?_
 exact ⟨rfl, Ep.pk []⟩
theorem minus_go (w : World) (a b : List UInt64) (ha : zb a = 4) (hb : zb b = 4) : Calls Tryz.prog 55 #[.agg (zg (zh a)), .agg (zg (zh b))] w fun e w' => e = .returned (.tuple #[.agg (zg (zh (nd (nv a + W256 - nv b)))), zm (u1 (nv a < nv b))]) ∧ Ev w [] w' [] := by
  rw [← min_nd ha hb, ← sb_nd ha hb]
  match a, ha, b, hb with
  | [a0, a1, a2, a3], _, [b0, b1, b2, b3], _ => exact minus4 w a0 a1 a2 a3 b0 b1 b2 b3
theorem plus4 (w : World) (a0 a1 a2 a3 b0 b1 b2 b3 : UInt64) : Calls Tryz.prog 52 #[.agg #[zm a0, zm a1, zm a2, zm a3], .agg #[zm b0, zm b1, zm b2, zm b3]] w fun e w' => e = .returned (.tuple #[.agg (zg (zh (plusL [a0, a1, a2, a3] [b0, b1, b2, b3]))), zm (adF [a0, a1, a2, a3] [b0, b1, b2, b3] 4)]) ∧ Ev w [] w' [] := by
 refine d_0 [(0, .agg #[zm a0, zm a1, zm a2, zm a3]), (1, .agg #[zm b0, zm b1, zm b2, zm b3])] 27 Go.Proofs.Tryz.func52 Go.Proofs.Tryz.ntmps52 (Heap.nil _) fun Hs Ht Hu => wp_seq <| zk <| f_o <| m_m 33 [zm a0, zm a1, zm a2, zm a3] Ht Hu fun _ _ Ef Hv Hw => f_o <| m_m 33 [zm b0, zm b1, zm b2, zm b3] Hv Hw fun _ _ Eg Hx Hb => f_o <| m_z 33 (zh (zd 4 0)) Hx Hb fun _ _ Ea Hc Eq => ?_
 refine d_e [2,3,4,5] [] Hc fun _ Hd => ze <| d_s [2,3,4,5,6] [] Hd fun _ He => wp_seq <| d_s [2,3,4,5,6,8] [] He fun _ Hf => wp_block <| QI ?_
 refine zF <| d_s [2,3,4,5,6,8,9] [] Hf fun _ Er => wp_seq <| c_t Er ?_
 refine wp_skip <| ze <| wp_seq <| wp_block <| d_s [2,3,4,5,6,7,8] [] Er fun _ Hg => ?_
 refine r_c (fun ac wo => Env ac 27 [(2, pt Ef), (3, pt Eg), (4, pt Ea), (5, .int .u64 0), (6, zm (zT a0 b0 (0 : UInt64))), (8, .int .i64 0)] ∧ Ev w [] wo [.box Ef [zm (zV a0 b0 (0 : UInt64)), zm a1, zm a2, zm a3] 33, .box Eg [zm b0, zm b1, zm b2, zm b3] 33, .box Ea (zh (zd 4 0)) 33]) ?_ ?_
 ·
  refine h_s (fun wv => Ev w [] wv [.box Ef [zm a0, zm a1, zm a2, zm a3] 33, .box Eg [zm b0, zm b1, zm b2, zm b3] 33]) [13] 15 ?_
  have Ee := Eq.trans (zO Eq.heap)
  refine q_s [0,1,2] [] 12 Hg (Ee.pk [0, 1]) fun _ Hh => q_l 0 3 Hh (Ee.pk [0, 1]) fun _ Hi => q_s [4,5] [] 9 Hi (Ee.pk [0, 1]) fun _ Hj => q_l 1 6 Hj (Ee.pk [0, 1]) fun _ Hk => ?_
  refine q_s [7] [] 7 Hk (Ee.pk [0, 1]) fun _ Hl => Xz (d := some 20) (f := 85) (args := #[zm a0, zm b0, zm (0 : UInt64)]) (v := .tuple #[zm (zV a0 b0 (0 : UInt64)), zm (zT a0 b0 (0 : UInt64))]) Hl 8 (by kernel_rfl) (Go.Dbr.ext_add64 Go.Proofs.Tryz.func85 (by kernel_rfl) (by kernel_rfl) (by kernel_rfl) (by kernel_rfl) a0 b0 (0 : UInt64) (by decide)) (by kernel_rfl) rfl (fun _ => Ee.pk [0, 1]) fun _ Hm => q_s [9,10,11,12] [] 2 Hm (Ee.pk [0, 1]) fun _ Hn => q_t 13 ?_
  refine m_s 0 [.box Ef [zm (zV a0 b0 (0 : UInt64)), zm a1, zm a2, zm a3] 33, .box Eg [zm b0, zm b1, zm b2, zm b3] 33, .box Ea (zh (zd 4 0)) 33] Hn Ee fun _ _ Ho Hp => ⟨q_y, ?_⟩
  refine q_n [14] [] 0 Ho fun _ Hq => ?_
  exact h_e ⟨Hq.sb, Hp.pk [0, 1, 2]⟩
 rintro _ _ ⟨Hr, Eh⟩
 refine zv <| ze <| d_r [2,3,4,5,6,8] [] Hr fun _ Es => ze <| zF <| d_s [2,3,4,5,6,8,9] [] Es fun _ Ei => wp_seq <| c_t Ei ?_
 refine wp_skip <| ze <| wp_seq <| wp_block <| d_s [2,3,4,5,6,7,8] [] Ei fun _ Et => ?_
 refine r_c (fun ac wo => Env ac 27 [(2, pt Ef), (3, pt Eg), (4, pt Ea), (5, .int .u64 0), (6, zm (zT a1 b1 (zT a0 b0 (0 : UInt64)))), (8, .int .i64 1)] ∧ Ev w [] wo [.box Ef [zm (zV a0 b0 (0 : UInt64)), zm (zV a1 b1 (zT a0 b0 (0 : UInt64))), zm a2, zm a3] 33, .box Eg [zm b0, zm b1, zm b2, zm b3] 33, .box Ea (zh (zd 4 0)) 33]) ?_ ?_
 ·
  refine h_s (fun wv => Ev w [] wv [.box Ef [zm (zV a0 b0 (0 : UInt64)), zm a1, zm a2, zm a3] 33, .box Eg [zm b0, zm b1, zm b2, zm b3] 33]) [13] 15 ?_
  have Eb := Eh.trans (zO Eh.heap)
  refine q_s [0,1,2] [] 12 Et (Eb.pk [0, 1]) fun _ Eu => q_l 0 3 Eu (Eb.pk [0, 1]) fun _ Ew => q_s [4,5] [] 9 Ew (Eb.pk [0, 1]) fun _ Ex => q_l 1 6 Ex (Eb.pk [0, 1]) fun _ Ey => ?_
  refine q_s [7] [] 7 Ey (Eb.pk [0, 1]) fun _ Ez => Xz (d := some 20) (f := 85) (args := #[zm a1, zm b1, zm (zT a0 b0 (0 : UInt64))]) (v := .tuple #[zm (zV a1 b1 (zT a0 b0 (0 : UInt64))), zm (zT a1 b1 (zT a0 b0 (0 : UInt64)))]) Ez 8 (by kernel_rfl) (Go.Dbr.ext_add64 Go.Proofs.Tryz.func85 (by kernel_rfl) (by kernel_rfl) (by kernel_rfl) (by kernel_rfl) a1 b1 (zT a0 b0 (0 : UInt64)) (YM (by decide))) (by kernel_rfl) rfl (fun _ => Eb.pk [0, 1]) fun _ EA => q_s [9,10,11,12] [] 2 EA (Eb.pk [0, 1]) fun _ EB => q_t 13 ?_
  refine m_s 0 [.box Ef [zm (zV a0 b0 (0 : UInt64)), zm (zV a1 b1 (zT a0 b0 (0 : UInt64))), zm a2, zm a3] 33, .box Eg [zm b0, zm b1, zm b2, zm b3] 33, .box Ea (zh (zd 4 0)) 33] EB Eb fun _ _ EC ED => ⟨q_y, ?_⟩
  refine q_n [14] [] 0 EC fun _ EE => ?_
  exact h_e ⟨EE.sb, ED.pk [0, 1, 2]⟩
 rintro _ _ ⟨EF, Ej⟩
 refine zv <| ze <| d_r [2,3,4,5,6,8] [] EF fun _ EG => ze <| zF <| d_s [2,3,4,5,6,8,9] [] EG fun _ Ek => wp_seq <| c_t Ek ?_
 refine wp_skip <| ze <| wp_seq <| wp_block <| d_s [2,3,4,5,6,7,8] [] Ek fun _ EH => ?_
 refine r_c (fun ac wo => Env ac 27 [(2, pt Ef), (3, pt Eg), (4, pt Ea), (5, .int .u64 0), (6, zm (zT a2 b2 (zT a1 b1 (zT a0 b0 (0 : UInt64))))), (8, .int .i64 2)] ∧ Ev w [] wo [.box Ef [zm (zV a0 b0 (0 : UInt64)), zm (zV a1 b1 (zT a0 b0 (0 : UInt64))), zm (zV a2 b2 (zT a1 b1 (zT a0 b0 (0 : UInt64)))), zm a3] 33, .box Eg [zm b0, zm b1, zm b2, zm b3] 33, .box Ea (zh (zd 4 0)) 33]) ?_ ?_
 ·
  refine h_s (fun wv => Ev w [] wv [.box Ef [zm (zV a0 b0 (0 : UInt64)), zm (zV a1 b1 (zT a0 b0 (0 : UInt64))), zm a2, zm a3] 33, .box Eg [zm b0, zm b1, zm b2, zm b3] 33]) [13] 15 ?_
  have Ec := Ej.trans (zO Ej.heap)
  refine q_s [0,1,2] [] 12 EH (Ec.pk [0, 1]) fun _ EI => q_l 0 3 EI (Ec.pk [0, 1]) fun _ EJ => q_s [4,5] [] 9 EJ (Ec.pk [0, 1]) fun _ EK => q_l 1 6 EK (Ec.pk [0, 1]) fun _ EL => ?_
  refine q_s [7] [] 7 EL (Ec.pk [0, 1]) fun _ EM => Xz (d := some 20) (f := 85) (args := #[zm a2, zm b2, zm (zT a1 b1 (zT a0 b0 (0 : UInt64)))]) (v := .tuple #[zm (zV a2 b2 (zT a1 b1 (zT a0 b0 (0 : UInt64)))), zm (zT a2 b2 (zT a1 b1 (zT a0 b0 (0 : UInt64))))]) EM 8 (by kernel_rfl) (Go.Dbr.ext_add64 Go.Proofs.Tryz.func85 (by kernel_rfl) (by kernel_rfl) (by kernel_rfl) (by kernel_rfl) a2 b2 (zT a1 b1 (zT a0 b0 (0 : UInt64))) (YM (YM (by decide)))) (by kernel_rfl) rfl (fun _ => Ec.pk [0, 1]) fun _ EN => q_s [9,10,11,12] [] 2 EN (Ec.pk [0, 1]) fun _ EO => q_t 13 ?_
  refine m_s 0 [.box Ef [zm (zV a0 b0 (0 : UInt64)), zm (zV a1 b1 (zT a0 b0 (0 : UInt64))), zm (zV a2 b2 (zT a1 b1 (zT a0 b0 (0 : UInt64)))), zm a3] 33, .box Eg [zm b0, zm b1, zm b2, zm b3] 33, .box Ea (zh (zd 4 0)) 33] EO Ec fun _ _ EP EQ => ⟨q_y, ?_⟩
  refine q_n [14] [] 0 EP fun _ ER => ?_
  exact h_e ⟨ER.sb, EQ.pk [0, 1, 2]⟩
 rintro _ _ ⟨ES, El⟩
 refine zv <| ze <| d_r [2,3,4,5,6,8] [] ES fun _ ET => ze <| zF <| d_s [2,3,4,5,6,8,9] [] ET fun _ Em => wp_seq <| c_t Em ?_
 refine wp_skip <| ze <| wp_seq <| wp_block <| d_s [2,3,4,5,6,7,8] [] Em fun _ EU => ?_
 refine r_c (fun ac wo => Env ac 27 [(2, pt Ef), (3, pt Eg), (4, pt Ea), (5, .int .u64 0), (6, zm (zT a3 b3 (zT a2 b2 (zT a1 b1 (zT a0 b0 (0 : UInt64)))))), (8, .int .i64 3)] ∧ Ev w [] wo [.box Ef [zm (zV a0 b0 (0 : UInt64)), zm (zV a1 b1 (zT a0 b0 (0 : UInt64))), zm (zV a2 b2 (zT a1 b1 (zT a0 b0 (0 : UInt64)))), zm (zV a3 b3 (zT a2 b2 (zT a1 b1 (zT a0 b0 (0 : UInt64)))))] 33, .box Eg [zm b0, zm b1, zm b2, zm b3] 33, .box Ea (zh (zd 4 0)) 33]) ?_ ?_
 ·
  refine h_s (fun wv => Ev w [] wv [.box Ef [zm (zV a0 b0 (0 : UInt64)), zm (zV a1 b1 (zT a0 b0 (0 : UInt64))), zm (zV a2 b2 (zT a1 b1 (zT a0 b0 (0 : UInt64)))), zm a3] 33, .box Eg [zm b0, zm b1, zm b2, zm b3] 33]) [13] 15 ?_
  have Ed := El.trans (zO El.heap)
  refine q_s [0,1,2] [] 12 EU (Ed.pk [0, 1]) fun _ EV => q_l 0 3 EV (Ed.pk [0, 1]) fun _ EW => q_s [4,5] [] 9 EW (Ed.pk [0, 1]) fun _ EX => q_l 1 6 EX (Ed.pk [0, 1]) fun _ EY => ?_
  refine q_s [7] [] 7 EY (Ed.pk [0, 1]) fun _ EZ => Xz (d := some 20) (f := 85) (args := #[zm a3, zm b3, zm (zT a2 b2 (zT a1 b1 (zT a0 b0 (0 : UInt64))))]) (v := .tuple #[zm (zV a3 b3 (zT a2 b2 (zT a1 b1 (zT a0 b0 (0 : UInt64))))), zm (zT a3 b3 (zT a2 b2 (zT a1 b1 (zT a0 b0 (0 : UInt64)))))]) EZ 8 (by kernel_rfl) (Go.Dbr.ext_add64 Go.Proofs.Tryz.func85 (by kernel_rfl) (by kernel_rfl) (by kernel_rfl) (by kernel_rfl) a3 b3 (zT a2 b2 (zT a1 b1 (zT a0 b0 (0 : UInt64)))) (YM (YM (YM (by decide))))) (by kernel_rfl) rfl (fun _ => Ed.pk [0, 1]) fun _ E0 => q_s [9,10,11,12] [] 2 E0 (Ed.pk [0, 1]) fun _ E1 => q_t 13 ?_
  refine m_s 0 [.box Ef [zm (zV a0 b0 (0 : UInt64)), zm (zV a1 b1 (zT a0 b0 (0 : UInt64))), zm (zV a2 b2 (zT a1 b1 (zT a0 b0 (0 : UInt64)))), zm (zV a3 b3 (zT a2 b2 (zT a1 b1 (zT a0 b0 (0 : UInt64)))))] 33, .box Eg [zm b0, zm b1, zm b2, zm b3] 33, .box Ea (zh (zd 4 0)) 33] E1 Ed fun _ _ E2 E3 => ⟨q_y, ?_⟩
  refine q_n [14] [] 0 E2 fun _ E4 => ?_
  exact h_e ⟨E4.sb, E3.pk [0, 1, 2]⟩
 rintro _ _ ⟨E5, En⟩
 refine zv <| ze <| d_r [2,3,4,5,6,8] [] E5 fun _ E6 => ze <| zF <| d_s [2,3,4,5,6,8,9] [] E6 fun _ Eo => wp_seq <| c_f Eo ?_
 refine wp_exit <| zy <| zy <| zL <| ze <| wp_seq <| zk <| f_o <| m_a 0 0 4 [zm (zV a0 b0 (0 : UInt64)), zm (zV a1 b1 (zT a0 b0 (0 : UInt64))), zm (zV a2 b2 (zT a1 b1 (zT a0 b0 (0 : UInt64)))), zm (zV a3 b3 (zT a2 b2 (zT a1 b1 (zT a0 b0 (0 : UInt64)))))] Eo En rfl rfl rfl fun _ E7 => d_k [2,3,4,5,6,8,25,26] [] 2 E7 fun _ E8 => f_o <| zQ 2 4 [zm (zV a0 b0 (0 : UInt64)), zm (zV a1 b1 (zT a0 b0 (0 : UInt64))), zm (zV a2 b2 (zT a1 b1 (zT a0 b0 (0 : UInt64)))), zm (zV a3 b3 (zT a2 b2 (zT a1 b1 (zT a0 b0 (0 : UInt64)))))] _ E8 En rfl rfl (zf (zi)) (one_all (by kernel_rfl)) rfl fun _ _ E9 Ep => d_e [2,3,4,5,6,8] [] E9 fun _ Ha => ?_
 refine ze <| wp_ret <| d_cell_tmp (v := .agg #[zm (zV a0 b0 (0 : UInt64)), zm (zV a1 b1 (zT a0 b0 (0 : UInt64))), zm (zV a2 b2 (zT a1 b1 (zT a0 b0 (0 : UInt64)))), zm (zV a3 b3 (zT a2 b2 (zT a1 b1 (zT a0 b0 (0 : UInt64)))))]) (x := zm (zT a3 b3 (zT a2 b2 (zT a1 b1 (zT a0 b0 (0 : UInt64)))))) (t := 4) (T := 33) (ad := ⟨Ea, 0, none⟩) (u := 5) Ha (by kernel_rfl) (by kernel_rfl) (zB (t := 33) (k := 2) (off := 0) (m := 4) (xs := [zm (zV a0 b0 (0 : UInt64)), zm (zV a1 b1 (zT a0 b0 (0 : UInt64))), zm (zV a2 b2 (zT a1 b1 (zT a0 b0 (0 : UInt64)))), zm (zV a3 b3 (zT a2 b2 (zT a1 b1 (zT a0 b0 (0 : UInt64)))))]) Ep rfl rfl rfl (by kernel_rfl) (by kernel_rfl)) (by kernel_rfl) ?_
 exact ⟨rfl, Ep.pk []⟩
theorem plus_go (w : World) (a b : List UInt64) (ha : zb a = 4) (hb : zb b = 4) : Calls Tryz.prog 52 #[.agg (zg (zh a)), .agg (zg (zh b))] w fun e w' => e = .returned (.tuple #[.agg (zg (zh (nd (nv a + nv b)))), zm (u1 (W256 ≤ nv a + nv b))]) ∧ Ev w [] w' [] := by
  rw [← plus_nd ha hb, ← ad_nd ha hb]
  match a, ha, b, hb with
  | [a0, a1, a2, a3], _, [b0, b1, b2, b3], _ => exact plus4 w a0 a1 a2 a3 b0 b1 b2 b3
end Go.Proofs.YtlnogkmnklfjlaaGreatDoor

namespace Go.Proofs.YtlnogkmnklfjlaaGreatDoor
open Go.Dbr
set_option maxRecDepth 100000
set_option maxHeartbeats 2000000
set_option linter.unusedVariables false
set_option linter.unusedSimpArgs false
theorem sub_nd {x m : List UInt64} (hx : x.length = 4) (h : nv m ≤ nv x) : nv (nd (nv x + W256 - nv m)) = nv x - nv m := by
  have h1 := nv_lt hx
  rw [nd_val]
  simp only [W256] at *
  omega
theorem mac_val {x y t c : UInt64} : (zV (zV (x * y) t 0) c 0).toNat + 18446744073709551616 * (Yh x y + zT (x * y) t 0 + zT (zV (x * y) t 0) c 0).toNat = x.toNat * y.toNat + t.toNat + c.toNat := by
  have e1 := mul_val (x := x) (y := y)
  have e2 := Xd (x := x * y) (y := t) (c := 0)
  have e3 := Xd (x := zV (x * y) t 0) (y := c) (c := 0)
  have b := mul_lt x y
  have h1 := lt64 t
  have h2 := lt64 c
  have z : (0 : UInt64).toNat = 0 := rfl
  rw [ZN, ZN]
  generalize x.toNat * y.toNat = p at *
  omega
def dvk (l : List UInt64) : Nat → Nat
  | 0 => 0
  | k + 1 => dvk l k + (za l k 0).toNat * 18446744073709551616 ^ k
theorem dvk_cons (x : UInt64) (r : List UInt64) : ∀ k, dvk (x :: r) (k + 1) = x.toNat + 18446744073709551616 * dvk r k
  | 0 => by simp [dvk]
  | k + 1 => by
    rw [dvk, dvk_cons x r k, dvk, List.getD_cons_succ, z8, Qs, ZK, ← Ze, zZ _ 18446744073709551616]
theorem dvk_all : ∀ (l : List UInt64), dvk l l.length = dv 18446744073709551616 l
  | [] => rfl
  | x :: r => by rw [zX, dvk_cons, dvk_all r]; rfl
theorem dvk4 {l : List UInt64} (h : l.length = 4) : dvk l 4 = nv l := by rw [← h]; exact dvk_all l
theorem set_step {u : List UInt64} {j : Nat} {x y c : UInt64} {P : Nat} (hj : j < u.length) (hv : dv 18446744073709551616 u + c.toNat * 18446744073709551616 ^ j = P) :
    dv 18446744073709551616 (zp u j (zV (zV (x * y) (za u j 0) 0) c 0)) + (Yh x y + zT (x * y) (za u j 0) 0 + zT (zV (x * y) (za u j 0) 0) c 0).toNat * 18446744073709551616 ^ (j + 1) = P + x.toNat * y.toNat * 18446744073709551616 ^ j := by
  have e := dv_set 18446744073709551616 (zV (zV (x * y) (za u j 0) 0) c 0) u j hj
  have m := mac_val (x := x) (y := y) (t := za u j 0) (c := c)
  rw [z8, zZ (18446744073709551616 ^ j), ← Ze]
  have m2 := congrArg (· * 18446744073709551616 ^ j) m
  simp only [Zo] at m2
  rw [zZ 18446744073709551616 (zw _)] at m2
  generalize 18446744073709551616 ^ j = q at *
  omega
theorem whole_in {a b u : List UInt64} {i k : Nat} {c : UInt64} (hlu : u.length = 8) (hj : i + k < 8)
    (hv : dv 18446744073709551616 u + c.toNat * 18446744073709551616 ^ (i + k) = nv a * dvk b i + dvk a k * (za b i 0).toNat * 18446744073709551616 ^ i) :
    dv 18446744073709551616 (zp u (i + k) (zV (zV (za a k 0 * za b i 0) (za u (i + k) 0) 0) c 0)) + (Yh (za a k 0) (za b i 0) + zT (za a k 0 * za b i 0) (za u (i + k) 0) 0 + zT (zV (za a k 0 * za b i 0) (za u (i + k) 0) 0) c 0).toNat * 18446744073709551616 ^ (i + (k + 1)) = nv a * dvk b i + dvk a (k + 1) * (za b i 0).toNat * 18446744073709551616 ^ i := by
  rw [← ZK, set_step (by omega) hv, dvk, Zo, Zo, ZK]
  congr 2
  rw [Nat.pow_add]
  ac_rfl
theorem whole_out {a b u : List UInt64} {i : Nat} {c : UInt64} (ha : a.length = 4) (hlu : u.length = 8) (hi : i < 4) (hz : za u (i + 4) 0 = 0)
    (hv : dv 18446744073709551616 u + c.toNat * 18446744073709551616 ^ (i + 4) = nv a * dvk b i + dvk a 4 * (za b i 0).toNat * 18446744073709551616 ^ i) :
    dv 18446744073709551616 (zp u (i + 4) c) = nv a * dvk b (i + 1) := by
  have e := dv_set 18446744073709551616 c u (i + 4) (by omega)
  rw [hz, show (0 : UInt64).toNat = 0 from rfl, Z4, Zx, hv, dvk4 ha] at e
  rw [e, dvk, Qs, Ze]
theorem getD_set_ne {u : List UInt64} {i j : Nat} (x : UInt64) (h : i ≠ j) : za (zp u i x) j 0 = za u j 0 := by
  simp only [zI]
  rw [List.getElem?_set_ne h]
theorem zeros8 (j : Nat) : za (zd 8 (0 : UInt64)) j 0 = 0 := by
  simp only [zI, Qh]
  split <;> rfl
theorem right_go (w : World) (a m : List UInt64) (ha : zb a = 4) (hm : zb m = 4) (h0 : 0 < nv m) : Calls Tryz.prog 53 #[.agg (zg (zh a)), .agg (zg (zh m))] w fun e w' => e = .returned (.agg (zg (zh (nd (nv a % nv m))))) ∧ Ev w [] w' [] := by
 refine d_0 [(0, .agg (zg (zh a))), (1, .agg (zg (zh m)))] 14 Go.Proofs.Tryz.func53 Go.Proofs.Tryz.ntmps53 (Heap.nil _) fun Ez EA EB => wp_seq <| zk <| f_o <| m_m 33 (zh a) EA EB fun _ _ Ee EC ED => f_o <| m_m 33 (zh m) EC ED fun _ _ Ef EE Eh => f_o <| m_z 33 (zh (zd 4 0)) EE Eh fun _ _ Ea Ei Ej => ?_
 refine f_e <| ze <| wp_seq <| wp_block <| ZR (fun Ek ac wo => ∃ (x : List UInt64), Ek = (nv x : Nat) ∧ Env ac 14 [(2, pt Ee), (3, pt Ef), (4, pt Ea)] ∧ Ev w [] wo [.box Ee (zh x) 33, .box Ef (zh m) 33, .box Ea (zh (zd 4 0)) 33] ∧ (zb x = 4) ∧ (nv x % nv m = nv a % nv m)) ⟨_, a, rfl, Ei.sb, Ej.pk [0, 1, 2], ha, rfl⟩ ?_
 rintro EF _ _ ⟨x, rfl, El, Em, hx, hxm⟩
 refine wp_seq <| wp_seq <| zk <| f_o <| c_l [0,1] (M := [.box Ee (zh x) 33, .box Ef (zh m) 33]) El Em (fun hM23 => less_go _ Ee Ef x m hx hm hM23) ?_
 rintro _ _ ⟨rfl, En⟩
 refine ⟨_, _, [.box Ee (zh x) 33, .box Ef (zh m) 33, .box Ea (zh (zd 4 0)) 33], rfl, En, by kernel_rfl, fun _ Eo Eb => ?_⟩
 refine d_e [2,3,4,6] [] Eo fun _ Ed => ?_
 refine ze <| cond_at Ed (t := !(decide (nv x < nv m))) (by kernel_rfl) (fun Ec => ?_) (fun Ec => ?_)
 ·
  replace Ec : ¬ (nv x < nv m) := by simpa using Ec
  refine wp_skip <| ze <| wp_block <| zk <| f_o <| m_aw 0 4 (zh x) Ed Eb rfl (zf hx) fun _ Ep => f_o <| m_aw 1 4 (zh m) Ep Eb rfl (zf hm) fun _ Eq => f_o <| c_p Eq Eb (minus_go _ x m hx hm) fun _ _ Er Es => d_k [2,3,4,11] [] 6 Er fun _ Et => ?_
  refine f_o <| zQ 0 4 (zh (nd (nv x + W256 - nv m))) _ Et Es rfl (zf (nds_len _ _)) (zf hx) (zt _) rfl fun _ _ Eu Ew => f_e <| zv <| ze <| ⟨_, ⟨(nd (nv x + W256 - nv m)), rfl, Eu.sb, Ew.pk [0, 1, 2], nds_len _ _, by rw [sub_nd hx (by omega), ← hxm]; exact (Nat.mod_eq_sub_mod (by omega)).symm⟩, ?_⟩
  rw [sub_nd hx (by omega)]; omega
 replace Ec : nv x < nv m := by simpa using Ec
 refine wp_exit <| zy <| zy <| zL <| ze <| wp_seq <| zk <| f_o <| m_aw 0 4 (zh x) Ed Eb rfl (zf hx) fun _ Ex => f_o <| zQ 2 4 (zh x) [.box Ee (zh x) 33, .box Ef (zh m) 33, .box Ea (zh x) 33] Ex Eb rfl (zf hx) (zf (zi)) (zt _) rfl fun _ _ Ey Eg => f_e <| ze <| wp_ret <| z9 (v := .agg (zg (zh x))) (t := 4) (T := 33) (ad := ⟨Ea, 0, none⟩) Ey (by kernel_rfl) (by kernel_rfl) (zB (t := 33) (k := 2) (off := 0) (m := 4) (xs := zh x) Eg rfl (zq (zf hx)) (zf hx) (by kernel_rfl) (by kernel_rfl)) ?_
 have hxe : x = nd (nv a % nv m) := nd_of hx (by rw [← hxm, zG (by omega)])
 subst hxe
 exact ⟨rfl, Eg.pk []⟩
theorem mul_go (w : World) (x y : UInt64) : Calls Tryz.prog 88 #[zm x, zm y] w fun e w' => e = .returned (.tuple #[zm (Yh x y), zm (x * y)]) ∧ Ev w [] w' [] := by
 refine d_0 [(0, zm x), (1, zm y)] 51 Go.Proofs.Tryz.func88 Go.Proofs.Tryz.ntmps88 (Heap.nil _) fun Ei Ej Ek => d_s [0,1,4,5] [] Ej fun _ El => d_s [0,1,4,5,6] [(1, g_i .u64 (Go.Dbr.u64_and (x := x) (y := (4294967295 : UInt64)) rfl rfl))] El fun _ Em => d_s [0,1,4,5,6,7] [(1, g_i .u64 (Go.Dbr.u64_shr (x := x) (n := 32) rfl (by decide)))] Em fun _ En => ?_
 refine d_s [0,1,4,5,6,7,8] [(1, g_i .u64 (Go.Dbr.u64_and (x := y) (y := (4294967295 : UInt64)) rfl rfl))] En fun _ Eo => d_s [0,1,4,5,6,7,8,9] [(1, g_i .u64 (Go.Dbr.u64_shr (x := y) (n := 32) rfl (by decide)))] Eo fun _ Ea => d_s [0,1,4,5,6,7,8,9,10] [(2, g_i .u64 (Go.Dbr.u64_mul (x := x &&& (4294967295 : UInt64)) (y := y &&& (4294967295 : UInt64)) rfl rfl))] Ea fun _ Eb => d_s [0,1,4,5,6,7,8,9,11] [(2, g_i .u64 (Go.Dbr.u64_mul (x := x >>> zc 32) (y := y &&& (4294967295 : UInt64)) rfl rfl)), (4, g_i .u64 (Go.Dbr.u64_shr (x := (x &&& (4294967295 : UInt64)) * (y &&& (4294967295 : UInt64))) (n := 32) rfl (by decide))), (5, g_i .u64 (Go.Dbr.u64_add (x := (x >>> zc 32) * (y &&& (4294967295 : UInt64))) (y := ((x &&& (4294967295 : UInt64)) * (y &&& (4294967295 : UInt64))) >>> zc 32) rfl rfl))] Eb fun _ Ec => ?_
 refine d_s [0,1,4,5,6,7,8,9,11,12] [(1, g_i .u64 (Go.Dbr.u64_and (x := ((x >>> zc 32) * (y &&& (4294967295 : UInt64))) + (((x &&& (4294967295 : UInt64)) * (y &&& (4294967295 : UInt64))) >>> zc 32)) (y := (4294967295 : UInt64)) rfl rfl))] Ec fun _ Ed => d_s [0,1,4,5,6,7,8,9,11,12,13] [(1, g_i .u64 (Go.Dbr.u64_shr (x := ((x >>> zc 32) * (y &&& (4294967295 : UInt64))) + (((x &&& (4294967295 : UInt64)) * (y &&& (4294967295 : UInt64))) >>> zc 32)) (n := 32) rfl (by decide)))] Ed fun _ Ee => d_s [0,1,4,5,6,7,8,9,11,12,13] [(3, g_i .u64 (Go.Dbr.u64_mul (x := x &&& (4294967295 : UInt64)) (y := y >>> zc 32) rfl rfl)), (4, g_i .u64 (Go.Dbr.u64_add (x := (((x >>> zc 32) * (y &&& (4294967295 : UInt64))) + (((x &&& (4294967295 : UInt64)) * (y &&& (4294967295 : UInt64))) >>> zc 32)) &&& (4294967295 : UInt64)) (y := (x &&& (4294967295 : UInt64)) * (y >>> zc 32)) rfl rfl))] Ee fun _ Ef => d_s [0,1,4,5,6,7,8,9,11,12] [(2, g_i .u64 (Go.Dbr.u64_mul (x := x >>> zc 32) (y := y >>> zc 32) rfl rfl)), (4, g_i .u64 (Go.Dbr.u64_add (x := (x >>> zc 32) * (y >>> zc 32)) (y := (((x >>> zc 32) * (y &&& (4294967295 : UInt64))) + (((x &&& (4294967295 : UInt64)) * (y &&& (4294967295 : UInt64))) >>> zc 32)) >>> zc 32) rfl rfl)), (6, g_i .u64 (Go.Dbr.u64_shr (x := ((((x >>> zc 32) * (y &&& (4294967295 : UInt64))) + (((x &&& (4294967295 : UInt64)) * (y &&& (4294967295 : UInt64))) >>> zc 32)) &&& (4294967295 : UInt64)) + ((x &&& (4294967295 : UInt64)) * (y >>> zc 32))) (n := 32) rfl (by decide))), (7, g_i .u64 (Go.Dbr.u64_add (x := ((x >>> zc 32) * (y >>> zc 32)) + ((((x >>> zc 32) * (y &&& (4294967295 : UInt64))) + (((x &&& (4294967295 : UInt64)) * (y &&& (4294967295 : UInt64))) >>> zc 32)) >>> zc 32)) (y := (((((x >>> zc 32) * (y &&& (4294967295 : UInt64))) + (((x &&& (4294967295 : UInt64)) * (y &&& (4294967295 : UInt64))) >>> zc 32)) &&& (4294967295 : UInt64)) + ((x &&& (4294967295 : UInt64)) * (y >>> zc 32))) >>> zc 32) rfl rfl))] Ef fun _ Eg => ?_
 refine d_s [0,1,4,5,6,7,8,9,11,12] [(2, g_i .u64 (Go.Dbr.u64_mul (x := x) (y := y) rfl rfl))] Eg fun _ Eh => wp_ret <| d_ret2 (t := 4) (u := 5) (v := zm ((((x >>> zc 32) * (y >>> zc 32)) + ((((x >>> zc 32) * (y &&& (4294967295 : UInt64))) + (((x &&& (4294967295 : UInt64)) * (y &&& (4294967295 : UInt64))) >>> zc 32)) >>> zc 32)) + ((((((x >>> zc 32) * (y &&& (4294967295 : UInt64))) + (((x &&& (4294967295 : UInt64)) * (y &&& (4294967295 : UInt64))) >>> zc 32)) &&& (4294967295 : UInt64)) + ((x &&& (4294967295 : UInt64)) * (y >>> zc 32))) >>> zc 32))) (x := zm (x * y)) Eh (by kernel_rfl) (by kernel_rfl) (by kernel_rfl) ?_
 have e : (((x >>> zc 32) * (y >>> zc 32)) + ((((x >>> zc 32) * (y &&& (4294967295 : UInt64))) + (((x &&& (4294967295 : UInt64)) * (y &&& (4294967295 : UInt64))) >>> zc 32)) >>> zc 32)) + ((((((x >>> zc 32) * (y &&& (4294967295 : UInt64))) + (((x &&& (4294967295 : UInt64)) * (y &&& (4294967295 : UInt64))) >>> zc 32)) &&& (4294967295 : UInt64)) + ((x &&& (4294967295 : UInt64)) * (y >>> zc 32))) >>> zc 32) = Yh x y := mul_high x y
 exact ⟨by rw [e], Ek.pk []⟩
theorem whole_go (w : World) (ba bb : Nat) (a b : List UInt64) (ha : zb a = 4) (hb : zb b = 4) (hH : Heap w [.box ba (zh a) 33, .box bb (zh b) 33]) : Calls Tryz.prog 87 #[pt ba, pt bb] w fun e w' => e = .returned (.agg (zg (zh (nds 8 (nv a * nv b))))) ∧ Ev w [.box ba (zh a) 33, .box bb (zh b) 33] w' [.box ba (zh a) 33, .box bb (zh b) 33] := by
 refine d_0 [(0, pt ba), (1, pt bb)] 66 Go.Proofs.Tryz.func87 Go.Proofs.Tryz.ntmps87 (hH) fun E7 E8 E9 => wp_seq <| zk <| f_o <| m_z 99 (zh (zd 8 0)) E8 E9 fun _ _ Ed Ha Hb => f_e <| ze <| wp_seq <| zk <| f_o <| m_z 99 (zh (zd 8 0)) Ha Hb fun _ _ Eb Hc EU => f_e <| ze <| wp_seq <| wp_seq <| d_r [0,1,4,5,13] [] Hc fun _ EV => ?_
 refine ze <| wp_block <| ZR (fun EW ac wo => ∃ (i : Nat) (t : List UInt64), EW = (4 - i : Nat) ∧ Env ac 66 [(0, pt ba), (1, pt bb), (4, pt Ed), (5, pt Eb), (13, ni i)] ∧ Ev w [.box ba (zh a) 33, .box bb (zh b) 33] wo [.box Eb (zh t) 99, .box ba (zh a) 33, .box bb (zh b) 33, .box Ed (zh (zd 8 0)) 99] ∧ (i ≤ 4) ∧ (zb t = 8) ∧ (dv 18446744073709551616 t = nv a * dvk b i) ∧ (∀ j, i + 4 ≤ j → za t j 0 = 0)) ⟨_, 0, zd 8 0, rfl, EV.sb, EU.pk [3, 0, 1, 2], by omega, (zi), rfl, fun j _ => zeros8 j⟩ ?_
 rintro Hd _ _ ⟨i, t, rfl, EX, Eg, hi, hlt, hv, hz⟩
 refine wp_seq <| d_r [0,1,4,5,13,14] [] EX fun _ Eh => ?_
 refine ze <| wp_seq <| c_d (((i : Nat) : Int) < (4 : Int)) Eh (fun EY => ?_) (fun EY => ?_)
 ·
  refine wp_skip <| ze <| wp_seq <| wp_block <| wp_seq <| d_r [0,1,4,5,6,13] [] Eh fun _ EZ => ze <| wp_seq <| d_r [0,1,4,5,6,7,13] [] EZ fun _ E0 => ze <| wp_seq <| wp_seq <| d_r [0,1,4,5,6,7,13,16] [] E0 fun _ E1 => ze <| wp_block <| ZR (fun E2 ac wo => ∃ (k : Nat) (u : List UInt64) (c : UInt64), E2 = (4 - k : Nat) ∧ Env ac 66 [(0, pt ba), (1, pt bb), (4, pt Ed), (5, pt Eb), (6, ni i), (7, zm c), (13, ni i), (16, ni k)] ∧ Ev w [.box ba (zh a) 33, .box bb (zh b) 33] wo [.box Eb (zh u) 99, .box ba (zh a) 33, .box bb (zh b) 33, .box Ed (zh (zd 8 0)) 99] ∧ (k ≤ 4) ∧ (zb u = 8) ∧ (dv 18446744073709551616 u + c.toNat * 18446744073709551616 ^ (i + k) = nv a * dvk b i + dvk a k * (za b i 0).toNat * 18446744073709551616 ^ i) ∧ (∀ j, i + 4 ≤ j → za u j 0 = 0)) ⟨_, 0, t, 0, rfl, E1.sb, Eg.pk [0, 1, 2, 3], by omega, hlt, by rw [hv]; simp [dvk], hz⟩ ?_
  rintro He _ _ ⟨k, u, c, rfl, E3, Ei, hk, hlu, hv2, E4⟩
  refine wp_seq <| d_r [0,1,4,5,6,7,13,16,17] [] E3 fun _ Ej => ?_
  refine ze <| wp_seq <| c_d (((k : Nat) : Int) < (4 : Int)) Ej (fun E5 => ?_) (fun E5 => ?_)
  ·
   refine wp_skip <| ze <| wp_seq <| wp_block <| wp_seq <| d_r [0,1,4,5,6,7,8,13,16] [] Ej fun _ E6 => ?_
   refine ze <| wp_seq <| r_c (fun ac wo => Env ac 66 [(0, pt ba), (1, pt bb), (4, pt Ed), (5, pt Eb), (6, ni i), (7, zm c), (8, ni k), (9, zm (Yh (za a k 0) (za b i 0))), (10, zm ((za a k 0) * (za b i 0))), (13, ni i), (16, ni k)] ∧ Ev w [.box ba (zh a) 33, .box bb (zh b) 33] wo [.box Eb (zh u) 99, .box ba (zh a) 33, .box bb (zh b) 33, .box Ed (zh (zd 8 0)) 99]) ?_ ?_
   ·
    refine h_s (fun wv => Ev w [.box ba (zh a) 33, .box bb (zh b) 33] wv [.box ba (zh a) 33, .box bb (zh b) 33]) [] 16 ?_
    have Ea := Ei.trans (zO Ei.heap)
    refine q_s [0,1,2] [] 13 E6 (Ea.pk [1, 2]) fun _ Ek => q_f 3 (s := Instr.indexAt 33 (pt ba) (ni k)) (v := .pointer (some ⟨ba, k, none⟩)) Ek (fun _ => Go.Dbr.run_indexarr (e := 31) (sz := 1) (m := 4) (j := k) (o := k) (by kernel_rfl) (by kernel_rfl) (by omega) (by omega) (by omega) _) (fun _ => Ea.pk [1, 2]) fun _ El => ?_
    have Em : k < zb a := by rw [ha]; omega
    refine q_r 4 (s := Instr.loadAt 31 (.pointer (some ⟨ba, k, none⟩))) (v := zm (za a k 0)) El (fun w hS => run_load1 (by kernel_rfl) (hS.heap.cell (k := 0) rfl (zx Em))) (Ea.pk [1, 2]) fun _ En => q_s [5,6,7] [] 8 En (Ea.pk [1, 2]) fun _ Eo => q_f 8 (s := Instr.indexAt 33 (pt bb) (ni i)) (v := .pointer (some ⟨bb, i, none⟩)) Eo (fun _ => Go.Dbr.run_indexarr (e := 31) (sz := 1) (m := 4) (j := i) (o := i) (by kernel_rfl) (by kernel_rfl) (by omega) (by omega) (by omega) _) (fun _ => Ea.pk [1, 2]) fun _ Ep => ?_
    have Eq : i < zb b := by rw [hb]; omega
    refine q_r 9 (s := Instr.loadAt 31 (.pointer (some ⟨bb, i, none⟩))) (v := zm (za b i 0)) Ep (fun w hS => run_load1 (by kernel_rfl) (hS.heap.cell (k := 1) rfl (zx Eq))) (Ea.pk [1, 2]) fun _ Er => q_t 10 ?_
    refine c_p Er Ea (mul_go _ (za a k 0) (za b i 0)) fun _ _ Es Ec => ⟨fun _ => Ec.pk [1, 2], ?_⟩
    refine q_s [11,12,13,14,15] [] 0 Es (Ec.pk [1, 2]) fun _ Et => ?_
    exact h_e ⟨Et.sb, Ec.pk [0, 1, 2, 3]⟩
   rintro _ _ ⟨Eu, Ee⟩
   refine ze <| wp_seq <| zk <| d_k [0,1,4,5,6,7,8,9,10,13,16,34,37] [(3, g_n (w_a i k))] 4 Eu fun _ Ew => f_o <| q_v (x := Instr.indexAt 99 (pt Eb) (ni (i + k))) (v := .pointer (some ⟨Eb, i + k, none⟩)) Ew (Go.Dbr.run_indexarr (e := 31) (sz := 1) (m := 8) (j := i + k) (o := i + k) (by kernel_rfl) (by kernel_rfl) (by omega) (by omega) (by omega) _) fun _ Ex => f_o ?_
   have Ey : i + k < zb u := by rw [hlu]; omega
   refine m_v 0 (i + k) (zm (za u (i + k) 0)) Ex Ee rfl (zx Ey) fun _ Ez => f_o <| Xk (d := some 40) (f := 85) (args := #[zm ((za a k 0) * (za b i 0)), zm (za u (i + k) 0), zm (0 : UInt64)]) (v := .tuple #[zm (zV ((za a k 0) * (za b i 0)) (za u (i + k) 0) (0 : UInt64)), zm (zT ((za a k 0) * (za b i 0)) (za u (i + k) 0) (0 : UInt64))]) Ez (by kernel_rfl) (Go.Dbr.ext_add64 Go.Proofs.Tryz.func85 (by kernel_rfl) (by kernel_rfl) (by kernel_rfl) (by kernel_rfl) ((za a k 0) * (za b i 0)) (za u (i + k) 0) (0 : UInt64) (by decide)) ?_
   intro _ EA
   refine d_e [0,1,4,5,6,7,8,9,10,11,13,16] [] EA fun _ EB => ze <| wp_seq <| zk <| d_k [0,1,4,5,6,7,8,9,10,11,13,16,44,45] [] 2 EB fun _ EC => f_o <| Xk (d := some 46) (f := 85) (args := #[zm (zV ((za a k 0) * (za b i 0)) (za u (i + k) 0) (0 : UInt64)), zm c, zm (0 : UInt64)]) (v := .tuple #[zm (zV (zV ((za a k 0) * (za b i 0)) (za u (i + k) 0) (0 : UInt64)) c (0 : UInt64)), zm (zT (zV ((za a k 0) * (za b i 0)) (za u (i + k) 0) (0 : UInt64)) c (0 : UInt64))]) EC (by kernel_rfl) (Go.Dbr.ext_add64 Go.Proofs.Tryz.func85 (by kernel_rfl) (by kernel_rfl) (by kernel_rfl) (by kernel_rfl) (zV ((za a k 0) * (za b i 0)) (za u (i + k) 0) (0 : UInt64)) c (0 : UInt64) (by decide)) ?_
   intro _ ED
   refine d_e [0,1,4,5,6,7,8,9,10,11,12,13,16] [] ED fun _ EE => ze <| zk <| d_k [0,1,4,5,6,7,8,10,13,16,51,52,57] [(2, g_n (w_a i k)), (6, g_i .u64 (Go.Dbr.u64_add (x := Yh (za a k 0) (za b i 0)) (y := zT ((za a k 0) * (za b i 0)) (za u (i + k) 0) (0 : UInt64)) rfl rfl)), (8, g_i .u64 (Go.Dbr.u64_add (x := (Yh (za a k 0) (za b i 0)) + (zT ((za a k 0) * (za b i 0)) (za u (i + k) 0) (0 : UInt64))) (y := zT (zV ((za a k 0) * (za b i 0)) (za u (i + k) 0) (0 : UInt64)) c (0 : UInt64)) rfl rfl))] 9 EE fun _ EF => f_o <| q_v (x := Instr.indexAt 99 (pt Eb) (ni (i + k))) (v := .pointer (some ⟨Eb, i + k, none⟩)) EF (Go.Dbr.run_indexarr (e := 31) (sz := 1) (m := 8) (j := i + k) (o := i + k) (by kernel_rfl) (by kernel_rfl) (by omega) (by omega) (by omega) _) fun _ EG => f_o ?_
   have EH : i + k < zb u := by rw [hlu]; omega
   refine m_t 0 (i + k) (zm (zV (zV ((za a k 0) * (za b i 0)) (za u (i + k) 0) (0 : UInt64)) c (0 : UInt64))) _ EG Ee rfl (zx EH) (ZU _ _ _) rfl fun _ _ EI EJ => d_e [0,1,4,5,6,7,8,10,13,16] [] EI fun _ EK => zv <| ze <| d_r [0,1,4,5,6,7,8,10,13,16] [(0, g_n (w_a k 1))] EK fun _ EL => ze <| ⟨_, ⟨k + 1, (zp u (i + k) (zV (zV ((za a k 0) * (za b i 0)) (za u (i + k) 0) (0 : UInt64)) c (0 : UInt64))), (((Yh (za a k 0) (za b i 0)) + (zT ((za a k 0) * (za b i 0)) (za u (i + k) 0) (0 : UInt64))) + (zT (zV ((za a k 0) * (za b i 0)) (za u (i + k) 0) (0 : UInt64)) c (0 : UInt64))), rfl, EL.sb, EJ.pk [0, 1, 2, 3], by omega, by simp [hlu], whole_in hlu (by omega) hv2, fun j hj => by rw [getD_set_ne _ (by omega)]; exact E4 j hj⟩, ?_⟩
   omega
  refine wp_exit <| zy <| zy <| zL <| ze ?_
  have hk4 : k = 4 := by omega
  refine zk <| d_k [0,1,4,5,6,7,13,16,61,62] [(1, g_n (w_a i 4))] 3 Ej fun _ EM => f_o <| q_v (x := Instr.indexAt 99 (pt Eb) (ni (i + 4))) (v := .pointer (some ⟨Eb, i + 4, none⟩)) EM (Go.Dbr.run_indexarr (e := 31) (sz := 1) (m := 8) (j := i + 4) (o := i + 4) (by kernel_rfl) (by kernel_rfl) (by omega) (by omega) (by omega) _) fun _ EN => f_o ?_
  have EO : i + 4 < zb u := by rw [hlu]; omega
  refine m_t 0 (i + 4) (zm c) [.box Eb (zh (zp u (i + 4) c)) 99, .box ba (zh a) 33, .box bb (zh b) 33, .box Ed (zh (zd 8 0)) 99] EN Ei rfl (zx EO) (ZU _ _ _) rfl fun _ _ EP EQ => f_e <| zv <| ze <| d_r [0,1,4,5,6,7,13,16] [(0, g_n (w_a i 1))] EP fun _ ER => ze <| ⟨_, ⟨i + 1, (zp u (i + 4) c), rfl, ER.sb, EQ.pk [0, 1, 2, 3], by omega, by simp [hlu], whole_out ha hlu (by omega) (E4 _ (by omega)) (by rw [hk4] at hv2; exact hv2), fun j hj => by rw [getD_set_ne _ (by omega)]; exact E4 j (by omega)⟩, ?_⟩
  omega
 refine wp_exit <| zy <| zy <| zL <| ze <| wp_seq <| zk <| f_o <| m_aw 0 8 (zh t) Eh Eg rfl (zf hlt) fun _ ES => f_o <| zQ 3 8 (zh t) _ ES Eg rfl (zf hlt) (zf (zi)) (zt _) rfl fun _ _ ET Ef => f_e <| ze <| wp_ret <| z9 (v := .agg (zg (zh t))) (t := 4) (T := 99) (ad := ⟨Ed, 0, none⟩) ET (by kernel_rfl) (by kernel_rfl) (zB (t := 99) (k := 3) (off := 0) (m := 8) (xs := zh t) Ef rfl (zq (zf hlt)) (zf hlt) (by kernel_rfl) (by kernel_rfl)) ?_
 have hi4 : i = 4 := by omega
 have hte : t = nds 8 (nv a * nv b) := nds_of hlt (by rw [hv, hi4, dvk4 hb])
 subst hte
 exact ⟨rfl, Ef.pk [1, 2]⟩
end Go.Proofs.YtlnogkmnklfjlaaGreatDoor

namespace Go.Proofs.YtlnogkmnklfjlaaGreatDoor
open Go.Dbr
set_option maxRecDepth 100000
set_option maxHeartbeats 2000000
set_option linter.unusedVariables false
set_option linter.unusedSimpArgs false
def mF (f : Int) : Nat := if f = 1 then 57896044618658097711785492504343953926634992332820282019728792003956564819949 else if f = 2 then 115792089210356248762697446949407573530086143415290314195533631308867097853951 else if f = 3 then 115792089210356248762697446949407573529996955224135760342422259061068512044369 else if f = 4 then 7237005577332262213973186563042994240857116359379907606001950938285454250989 else 0
theorem mF_lt (f : Int) : mF f < W256 := by
  unfold mF
  repeat' split
  all_goals decide
theorem mF_pos {f : Int} (h : f = 1 ∨ f = 2 ∨ f = 3 ∨ f = 4) : 1 < mF f := by rcases h with rfl | rfl | rfl | rfl <;> decide
theorem nv_nd {n : Nat} (h : n < W256) : nv (nd n) = n := by rw [nd_val, zG h]
theorem nv_mF (f : Int) : nv (nd (mF f)) = mF f := nv_nd (mF_lt f)
theorem mod_lt_w {n : Nat} {f : Int} (h : f = 1 ∨ f = 2 ∨ f = 3 ∨ f = 4) : n % mF f < W256 := Zu (Nat.mod_lt _ (Zu Nat.zero_lt_one (mF_pos h))) (mF_lt f)
def f38 (t : List UInt64) : Nat → Nat
  | 0 => 0
  | i + 1 => f38 t i + ((za t (i + 4) 0).toNat * 38 + (za t i 0).toNat) * 18446744073709551616 ^ i
theorem set_new {o : List UInt64} {i : Nat} {x y t c : UInt64} {P : Nat} (hi : i < o.length) (hz : za o i 0 = 0) (hv : dv 18446744073709551616 o + c.toNat * 18446744073709551616 ^ i = P) :
    dv 18446744073709551616 (zp o i (zV (zV (x * y) t 0) c 0)) + (Yh x y + zT (x * y) t 0 + zT (zV (x * y) t 0) c 0).toNat * 18446744073709551616 ^ (i + 1) = P + (x.toNat * y.toNat + t.toNat) * 18446744073709551616 ^ i := by
  have e := dv_set 18446744073709551616 (zV (zV (x * y) t 0) c 0) o i hi
  have m := mac_val (x := x) (y := y) (t := t) (c := c)
  rw [hz, show (0 : UInt64).toNat = 0 from rfl, Z4, Zx] at e
  rw [z8, zZ (18446744073709551616 ^ i), ← Ze]
  have m2 := congrArg (· * 18446744073709551616 ^ i) m
  simp only [Zo] at m2 ⊢
  rw [zZ 18446744073709551616 (zw _)] at m2
  generalize 18446744073709551616 ^ i = q at *
  omega
theorem f38_in {o t : List UInt64} {i : Nat} {c : UInt64} (hlo : o.length = 4) (hi : i < 4) (hz : ∀ j, i ≤ j → za o j 0 = 0) (hv : dv 18446744073709551616 o + c.toNat * 18446744073709551616 ^ i = f38 t i) :
    dv 18446744073709551616 (zp o i (zV (zV (za t (i + 4) 0 * 38) (za t i 0) 0) c 0)) + (Yh (za t (i + 4) 0) 38 + zT (za t (i + 4) 0 * 38) (za t i 0) 0 + zT (zV (za t (i + 4) 0 * 38) (za t i 0) 0) c 0).toNat * 18446744073709551616 ^ (i + 1) = f38 t (i + 1) := by
  rw [set_new (by omega) (hz i (Nat.le_refl _)) hv, f38]
  rfl
theorem f38_val {t : List UInt64} (h : t.length = 8) : ∃ H, H < W256 ∧ dv 18446744073709551616 t = f38 t 4 + 2 * mF 1 * H ∧ f38 t 4 ≤ 39 * W256 - 39 := by
  match t, h with
  | [t0, t1, t2, t3, t4, t5, t6, t7], _ =>
    have h1 := nv_lt (l := [t4, t5, t6, t7]) rfl
    have h0 := nv_lt (l := [t0, t1, t2, t3]) rfl
    refine ⟨nv [t4, t5, t6, t7], h1, ?_⟩
    have hm : 2 * mF 1 = 115792089237316195423570985008687907853269984665640564039457584007913129639898 := by decide
    rw [hm]
    rw [nv4] at h0 h1 ⊢
    simp only [dv, f38, za, Q8, Yv, JF, Z5, Zx, Nat.zero_add, ZX, Nat.mul_one, Nat.reducePow, Nat.reduceAdd]
    simp only [W256] at *
    constructor
    · omega
    · omega
theorem zeros4 (j : Nat) : za (zd 4 (0 : UInt64)) j 0 = 0 := by
  simp only [zI, Qh]
  split <;> rfl
theorem num1 (x : UInt64) : nv [x, 0, 0, 0] = x.toNat := by
  rw [nv4, show (0 : UInt64).toNat = 0 from rfl]
  omega
theorem c38 {c : UInt64} (h : c.toNat ≤ 38) : (38 * c).toNat = 38 * c.toNat := by
  rw [UInt64.toNat_mul, show (38 : UInt64).toNat = 38 from rfl]
  omega
theorem step38 {o : List UInt64} {c : UInt64} {R : Nat} (hl : o.length = 4) (hc : c.toNat ≤ 38) (hm : (nv o + W256 * c.toNat) % mF 1 = R) :
    (nv (nd (nv o + nv [38 * c, 0, 0, 0])) + W256 * (u1 (W256 ≤ nv o + nv [38 * c, 0, 0, 0])).toNat) % mF 1 = R ∧ nv (nd (nv o + nv [38 * c, 0, 0, 0])) + W256 * (u1 (W256 ≤ nv o + nv [38 * c, 0, 0, 0])).toNat = nv o + 38 * c.toNat := by
  have ho := nv_lt hl
  have e : nv (nd (nv o + nv [38 * c, 0, 0, 0])) + W256 * (u1 (W256 ≤ nv o + nv [38 * c, 0, 0, 0])).toNat = nv o + 38 * c.toNat := by
    rw [nd_val, num1, c38 hc, u1_val]
    simp only [W256] at *
    split <;> omega
  rw [e]
  refine ⟨?_, rfl⟩
  rw [← hm, show mF 1 = 57896044618658097711785492504343953926634992332820282019728792003956564819949 from rfl]
  simp only [W256] at *
  omega
theorem prime1_go (w : World) : Calls Tryz.prog 81 #[] w fun e w' => e = .returned (.agg (zg (zh (nd (mF 1))))) ∧ Ev w [] w' [] := by
 refine d_0 [] 2 Go.Proofs.Tryz.func81 Go.Proofs.Tryz.ntmps81 (Heap.nil _) fun Ec Ed Ee => wp_seq <| zk <| f_o <| m_z 33 (zh (zd 4 0)) Ed Ee fun _ _ Ef Eg Eh => f_e <| ze <| wp_seq <| zk <| d_k [0,1] [] 1 Eg fun _ Ei => f_o <| zQ 0 4 (zh ([18446744073709551597, 18446744073709551615, 18446744073709551615, 9223372036854775807] : List UInt64)) _ Ei Eh rfl (zf (show zb ([18446744073709551597, 18446744073709551615, 18446744073709551615, 9223372036854775807] : List UInt64) = 4 from rfl)) (zf (zi)) (zt _) rfl fun _ _ Eb Ea => ?_
 refine f_e <| ze <| wp_ret <| z9 (v := .agg (zg (zh ([18446744073709551597, 18446744073709551615, 18446744073709551615, 9223372036854775807] : List UInt64)))) (t := 0) (T := 33) (ad := ⟨Ef, 0, none⟩) Eb (by kernel_rfl) (by kernel_rfl) (zB (t := 33) (k := 0) (off := 0) (m := 4) (xs := zh ([18446744073709551597, 18446744073709551615, 18446744073709551615, 9223372036854775807] : List UInt64)) Ea rfl (zq (zf (show zb ([18446744073709551597, 18446744073709551615, 18446744073709551615, 9223372036854775807] : List UInt64) = 4 from rfl))) (zf (show zb ([18446744073709551597, 18446744073709551615, 18446744073709551615, 9223372036854775807] : List UInt64) = 4 from rfl)) (by kernel_rfl) (by kernel_rfl)) ?_
 exact ⟨by kernel_rfl, Ea.pk []⟩
theorem prime2_go (w : World) : Calls Tryz.prog 82 #[] w fun e w' => e = .returned (.agg (zg (zh (nd (mF 2))))) ∧ Ev w [] w' [] := by
 refine d_0 [] 2 Go.Proofs.Tryz.func82 Go.Proofs.Tryz.ntmps82 (Heap.nil _) fun Ec Ed Ee => wp_seq <| zk <| f_o <| m_z 33 (zh (zd 4 0)) Ed Ee fun _ _ Ef Eg Eh => f_e <| ze <| wp_seq <| zk <| d_k [0,1] [] 1 Eg fun _ Ei => f_o <| zQ 0 4 (zh ([18446744073709551615, 4294967295, 0, 18446744069414584321] : List UInt64)) _ Ei Eh rfl (zf (show zb ([18446744073709551615, 4294967295, 0, 18446744069414584321] : List UInt64) = 4 from rfl)) (zf (zi)) (zt _) rfl fun _ _ Eb Ea => ?_
 refine f_e <| ze <| wp_ret <| z9 (v := .agg (zg (zh ([18446744073709551615, 4294967295, 0, 18446744069414584321] : List UInt64)))) (t := 0) (T := 33) (ad := ⟨Ef, 0, none⟩) Eb (by kernel_rfl) (by kernel_rfl) (zB (t := 33) (k := 0) (off := 0) (m := 4) (xs := zh ([18446744073709551615, 4294967295, 0, 18446744069414584321] : List UInt64)) Ea rfl (zq (zf (show zb ([18446744073709551615, 4294967295, 0, 18446744069414584321] : List UInt64) = 4 from rfl))) (zf (show zb ([18446744073709551615, 4294967295, 0, 18446744069414584321] : List UInt64) = 4 from rfl)) (by kernel_rfl) (by kernel_rfl)) ?_
 exact ⟨by kernel_rfl, Ea.pk []⟩
theorem prime3_go (w : World) : Calls Tryz.prog 83 #[.agg #[]] w fun e w' => e = .returned (.agg (zg (zh (nd (mF 3))))) ∧ Ev w [] w' [] := by
 refine d_0 [(0, .agg #[])] 4 Go.Proofs.Tryz.func83 Go.Proofs.Tryz.ntmps83 (Heap.nil _) fun Ee Ef Eg => wp_seq <| zk <| f_o <| m_m 80 [] Ef Eg fun _ _ El Eh Ei => f_o <| m_z 33 (zh (zd 4 0)) Eh Ei fun _ _ Ej Ek Eb => f_e <| ze <| wp_seq <| zk <| d_k [2,3] [] 1 Ek fun _ Ec => ?_
 refine f_o <| zQ 1 4 (zh ([17562291160714782033, 13611842547513532036, 18446744073709551615, 18446744069414584320] : List UInt64)) _ Ec Eb rfl (zf (show zb ([17562291160714782033, 13611842547513532036, 18446744073709551615, 18446744069414584320] : List UInt64) = 4 from rfl)) (zf (zi)) (zt _) rfl fun _ _ Ed Ea => f_e <| ze <| wp_ret <| z9 (v := .agg (zg (zh ([17562291160714782033, 13611842547513532036, 18446744073709551615, 18446744069414584320] : List UInt64)))) (t := 2) (T := 33) (ad := ⟨Ej, 0, none⟩) Ed (by kernel_rfl) (by kernel_rfl) (zB (t := 33) (k := 1) (off := 0) (m := 4) (xs := zh ([17562291160714782033, 13611842547513532036, 18446744073709551615, 18446744069414584320] : List UInt64)) Ea rfl (zq (zf (show zb ([17562291160714782033, 13611842547513532036, 18446744073709551615, 18446744069414584320] : List UInt64) = 4 from rfl))) (zf (show zb ([17562291160714782033, 13611842547513532036, 18446744073709551615, 18446744069414584320] : List UInt64) = 4 from rfl)) (by kernel_rfl) (by kernel_rfl)) ?_
 exact ⟨by kernel_rfl, Ea.pk []⟩
theorem prime4_go (w : World) : Calls Tryz.prog 84 #[.agg #[]] w fun e w' => e = .returned (.agg (zg (zh (nd (mF 4))))) ∧ Ev w [] w' [] := by
 refine d_0 [(0, .agg #[])] 4 Go.Proofs.Tryz.func84 Go.Proofs.Tryz.ntmps84 (Heap.nil _) fun Ee Ef Eg => wp_seq <| zk <| f_o <| m_m 83 [] Ef Eg fun _ _ El Eh Ei => f_o <| m_z 33 (zh (zd 4 0)) Eh Ei fun _ _ Ej Ek Eb => f_e <| ze <| wp_seq <| zk <| d_k [2,3] [] 1 Ek fun _ Ec => ?_
 refine f_o <| zQ 1 4 (zh ([6346243789798364141, 1503914060200516822, 0, 1152921504606846976] : List UInt64)) _ Ec Eb rfl (zf (show zb ([6346243789798364141, 1503914060200516822, 0, 1152921504606846976] : List UInt64) = 4 from rfl)) (zf (zi)) (zt _) rfl fun _ _ Ed Ea => f_e <| ze <| wp_ret <| z9 (v := .agg (zg (zh ([6346243789798364141, 1503914060200516822, 0, 1152921504606846976] : List UInt64)))) (t := 2) (T := 33) (ad := ⟨Ej, 0, none⟩) Ed (by kernel_rfl) (by kernel_rfl) (zB (t := 33) (k := 1) (off := 0) (m := 4) (xs := zh ([6346243789798364141, 1503914060200516822, 0, 1152921504606846976] : List UInt64)) Ea rfl (zq (zf (show zb ([6346243789798364141, 1503914060200516822, 0, 1152921504606846976] : List UInt64) = 4 from rfl))) (zf (show zb ([6346243789798364141, 1503914060200516822, 0, 1152921504606846976] : List UInt64) = 4 from rfl)) (by kernel_rfl) (by kernel_rfl)) ?_
 exact ⟨by kernel_rfl, Ea.pk []⟩
theorem f38_end {a b o : List UInt64} {c : UInt64} {H : Nat} (ha : a.length = 4) (hb : b.length = 4) (hl : o.length = 4) (h1 : dv 18446744073709551616 (nds 8 (nv a * nv b)) = dv 18446744073709551616 o + c.toNat * 18446744073709551616 ^ 4 + 2 * mF 1 * H) (h2 : dv 18446744073709551616 o + c.toNat * 18446744073709551616 ^ 4 ≤ 39 * W256 - 39) : (nv o + W256 * c.toNat) % mF 1 = (nv a * nv b) % mF 1 ∧ c.toNat ≤ 38 := by
  have hlt : nv a * nv b < 18446744073709551616 ^ 8 := Nat.lt_of_lt_of_eq (Nat.mul_lt_mul'' (nv_lt ha) (nv_lt hb)) (by decide)
  rw [nds_val, zG hlt, w256_pow] at h1
  rw [w256_pow] at h2
  constructor
  · rw [h1, zZ W256, Ze 2, Nat.mul_left_comm 2, Nat.add_mul_mod_self_left]
  · simp only [W256] at h2
    omega
theorem mul25_go (w : World) (a b : List UInt64) (ha : zb a = 4) (hb : zb b = 4) : Calls Tryz.prog 56 #[.agg (zg (zh a)), .agg (zg (zh b))] w fun e w' => e = .returned (.agg (zg (zh (nd ((nv a * nv b) % mF 1))))) ∧ Ev w [] w' [] := by
 refine d_0 [(0, .agg (zg (zh a))), (1, .agg (zg (zh b)))] 61 Go.Proofs.Tryz.func56 Go.Proofs.Tryz.ntmps56 (Heap.nil _) fun Hl Hm Hn => wp_seq <| zk <| f_o <| m_m 33 (zh a) Hm Hn fun _ _ ED Ho Hp => f_o <| m_m 33 (zh b) Ho Hp fun _ _ EE Hq EF => f_o <| m_z 33 (zh (zd 4 0)) Hq EF fun _ _ Ec EG EH => ?_
 refine f_e <| ze <| wp_seq <| zk <| f_o <| c_l [0,1] (M := [.box ED (zh a) 33, .box EE (zh b) 33]) EG EH (fun hM16 => whole_go _ ED EE a b ha hb hM16) ?_
 rintro _ _ ⟨rfl, EI⟩
 refine ⟨_, _, [.box ED (zh a) 33, .box EE (zh b) 33, .box Ec (zh (zd 4 0)) 33], rfl, EI, by kernel_rfl, fun _ EJ EK => ?_⟩
 refine f_o <| m_z 99 (zh (zd 8 0)) EJ EK fun _ _ Ea EL EM => f_o <| zQ 3 8 (zh (nds 8 (nv a * nv b))) _ EL EM rfl (zf (nds_len _ _)) (zf (zi)) (zt _) rfl fun _ _ EN EO => f_e <| ze <| d_s [4,5,6] [] EN fun _ EP => wp_seq <| zk <| f_o <| m_z 33 (zh (zd 4 0)) EP EO fun _ _ Eb EQ ER => ?_
 refine f_e <| ze <| wp_seq <| d_s [4,5,6,7,14] [] EQ fun _ ES => wp_block ?_
 have ht8 : zb (nds 8 (nv a * nv b)) = 8 := nds_len _ _
 refine ZR (fun ET ac wo => ∃ (i : Nat) (o : List UInt64) (c : UInt64), ET = (4 - i : Nat) ∧ Env ac 61 [(4, pt Ec), (5, pt Ea), (6, zm c), (7, pt Eb), (14, ni i)] ∧ Ev w [] wo [.box Eb (zh o) 33, .box Ec (zh (zd 4 0)) 33, .box Ea (zh (nds 8 (nv a * nv b))) 99] ∧ (i ≤ 4) ∧ (zb o = 4) ∧ (dv 18446744073709551616 o + c.toNat * 18446744073709551616 ^ i = f38 (nds 8 (nv a * nv b)) i) ∧ (∀ j, i ≤ j → za o j 0 = 0)) ⟨_, 0, zd 4 0, 0, rfl, ES.sb, ER.pk [4, 2, 3], by omega, (zi), rfl, fun j _ => zeros4 j⟩ ?_
 rintro Hr _ _ ⟨i, o, c, rfl, EU, Ek, hi, hlo, hv, hz⟩
 refine d_s [4,5,6,7,14,15] [] EU fun _ El => ?_
 refine wp_seq <| c_d (((i : Nat) : Int) < (4 : Int)) El (fun EV => ?_) (fun EV => ?_)
 ·
  refine wp_skip <| ze <| wp_seq <| wp_block <| d_s [4,5,6,7,8,14] [] El fun _ EW => wp_seq <| zk <| d_k [4,5,6,7,8,14,19] [(1, g_n (w_a i 4))] 2 EW fun _ EX => f_o <| q_v (x := Instr.indexAt 99 (pt Ea) (ni (i + 4))) (v := .pointer (some ⟨Ea, i + 4, none⟩)) EX (Go.Dbr.run_indexarr (e := 31) (sz := 1) (m := 8) (j := i + 4) (o := i + 4) (by kernel_rfl) (by kernel_rfl) (by omega) (by omega) (by omega) _) fun _ EY => f_o ?_
  have EZ : i + 4 < zb (nds 8 (nv a * nv b)) := by rw [(nds_len _ _)]; omega
  refine m_v 2 (i + 4) (zm (za (nds 8 (nv a * nv b)) (i + 4) 0)) EY Ek rfl (zx EZ) fun _ E0 => f_o <| c_p E0 Ek (mul_go _ (za (nds 8 (nv a * nv b)) (i + 4) 0) (38 : UInt64)) fun _ _ E1 Em => d_e [4,5,6,7,8,9,10,14] [] E1 fun _ E2 => ze <| wp_seq <| zk <| d_k [4,5,6,7,8,9,10,14,26,27] [] 2 E2 fun _ E3 => ?_
  refine f_o <| q_v (x := Instr.indexAt 99 (pt Ea) (ni i)) (v := .pointer (some ⟨Ea, i, none⟩)) E3 (Go.Dbr.run_indexarr (e := 31) (sz := 1) (m := 8) (j := i) (o := i) (by kernel_rfl) (by kernel_rfl) (by omega) (by omega) (by omega) _) fun _ E4 => f_o ?_
  have E5 : i < zb (nds 8 (nv a * nv b)) := by rw [(nds_len _ _)]; omega
  refine m_v 2 i (zm (za (nds 8 (nv a * nv b)) i 0)) E4 Em rfl (zx E5) fun _ E6 => f_o <| Xk (d := some 30) (f := 85) (args := #[zm ((za (nds 8 (nv a * nv b)) (i + 4) 0) * (38 : UInt64)), zm (za (nds 8 (nv a * nv b)) i 0), zm (0 : UInt64)]) (v := .tuple #[zm (zV ((za (nds 8 (nv a * nv b)) (i + 4) 0) * (38 : UInt64)) (za (nds 8 (nv a * nv b)) i 0) (0 : UInt64)), zm (zT ((za (nds 8 (nv a * nv b)) (i + 4) 0) * (38 : UInt64)) (za (nds 8 (nv a * nv b)) i 0) (0 : UInt64))]) E6 (by kernel_rfl) (Go.Dbr.ext_add64 Go.Proofs.Tryz.func85 (by kernel_rfl) (by kernel_rfl) (by kernel_rfl) (by kernel_rfl) ((za (nds 8 (nv a * nv b)) (i + 4) 0) * (38 : UInt64)) (za (nds 8 (nv a * nv b)) i 0) (0 : UInt64) (by decide)) ?_
  intro _ E7
  refine d_e [4,5,6,7,8,9,10,11,14] [] E7 fun _ E8 => ze <| wp_seq <| zk <| d_k [4,5,6,7,8,9,10,11,14,34,35] [] 2 E8 fun _ E9 => f_o <| Xk (d := some 36) (f := 85) (args := #[zm (zV ((za (nds 8 (nv a * nv b)) (i + 4) 0) * (38 : UInt64)) (za (nds 8 (nv a * nv b)) i 0) (0 : UInt64)), zm c, zm (0 : UInt64)]) (v := .tuple #[zm (zV (zV ((za (nds 8 (nv a * nv b)) (i + 4) 0) * (38 : UInt64)) (za (nds 8 (nv a * nv b)) i 0) (0 : UInt64)) c (0 : UInt64)), zm (zT (zV ((za (nds 8 (nv a * nv b)) (i + 4) 0) * (38 : UInt64)) (za (nds 8 (nv a * nv b)) i 0) (0 : UInt64)) c (0 : UInt64))]) E9 (by kernel_rfl) (Go.Dbr.ext_add64 Go.Proofs.Tryz.func85 (by kernel_rfl) (by kernel_rfl) (by kernel_rfl) (by kernel_rfl) (zV ((za (nds 8 (nv a * nv b)) (i + 4) 0) * (38 : UInt64)) (za (nds 8 (nv a * nv b)) i 0) (0 : UInt64)) c (0 : UInt64) (by decide)) ?_
  intro _ Ha
  refine d_e [4,5,6,7,8,9,10,11,12,14] [] Ha fun _ Hb => ze <| zk <| d_k [4,5,6,7,8,10,14,39,40,45] [(4, g_i .u64 (Go.Dbr.u64_add (x := Yh (za (nds 8 (nv a * nv b)) (i + 4) 0) (38 : UInt64)) (y := zT ((za (nds 8 (nv a * nv b)) (i + 4) 0) * (38 : UInt64)) (za (nds 8 (nv a * nv b)) i 0) (0 : UInt64)) rfl rfl)), (6, g_i .u64 (Go.Dbr.u64_add (x := (Yh (za (nds 8 (nv a * nv b)) (i + 4) 0) (38 : UInt64)) + (zT ((za (nds 8 (nv a * nv b)) (i + 4) 0) * (38 : UInt64)) (za (nds 8 (nv a * nv b)) i 0) (0 : UInt64))) (y := zT (zV ((za (nds 8 (nv a * nv b)) (i + 4) 0) * (38 : UInt64)) (za (nds 8 (nv a * nv b)) i 0) (0 : UInt64)) c (0 : UInt64)) rfl rfl))] 7 Hb fun _ Hc => f_o <| q_v (x := Instr.indexAt 33 (pt Eb) (ni i)) (v := .pointer (some ⟨Eb, i, none⟩)) Hc (Go.Dbr.run_indexarr (e := 31) (sz := 1) (m := 4) (j := i) (o := i) (by kernel_rfl) (by kernel_rfl) (by omega) (by omega) (by omega) _) fun _ Hd => f_o ?_
  have He : i < zb o := by rw [hlo]; omega
  refine m_t 0 i (zm (zV (zV ((za (nds 8 (nv a * nv b)) (i + 4) 0) * (38 : UInt64)) (za (nds 8 (nv a * nv b)) i 0) (0 : UInt64)) c (0 : UInt64))) [.box Eb (zh (zp o i (zV (zV ((za (nds 8 (nv a * nv b)) (i + 4) 0) * (38 : UInt64)) (za (nds 8 (nv a * nv b)) i 0) (0 : UInt64)) c (0 : UInt64)))) 33, .box Ec (zh (zd 4 0)) 33, .box Ea (zh (nds 8 (nv a * nv b))) 99] Hd Em rfl (zx He) (ZU _ _ _) rfl fun _ _ Hf Hg => d_e [4,5,6,7,8,10,14] [] Hf fun _ Hh => zv <| ze <| d_r [4,5,6,7,8,10,14] [(0, g_n (w_a i 1))] Hh fun _ Hi => ze <| ⟨_, ⟨i + 1, (zp o i (zV (zV ((za (nds 8 (nv a * nv b)) (i + 4) 0) * (38 : UInt64)) (za (nds 8 (nv a * nv b)) i 0) (0 : UInt64)) c (0 : UInt64))), (((Yh (za (nds 8 (nv a * nv b)) (i + 4) 0) (38 : UInt64)) + (zT ((za (nds 8 (nv a * nv b)) (i + 4) 0) * (38 : UInt64)) (za (nds 8 (nv a * nv b)) i 0) (0 : UInt64))) + (zT (zV ((za (nds 8 (nv a * nv b)) (i + 4) 0) * (38 : UInt64)) (za (nds 8 (nv a * nv b)) i 0) (0 : UInt64)) c (0 : UInt64))), rfl, Hi.sb, Hg.pk [0, 1, 2], by omega, by simp [hlo], f38_in hlo (by omega) hz hv, fun j hj => by rw [getD_set_ne _ (by omega)]; exact hz j (by omega)⟩, ?_⟩
  omega
 refine wp_exit <| zy <| zy <| zL <| ze <| wp_seq <| wp_block ?_
 have hi4 : i = 4 := by omega
 rw [hi4] at hv
 obtain ⟨H, hH0, hH1, hH2⟩ := f38_val (nds_len 8 (nv a * nv b))
 rw [← hv] at hH1 hH2
 have hq : (nv o + W256 * c.toNat) % mF 1 = (nv a * nv b) % mF 1 ∧ c.toNat ≤ 38 := f38_end ha hb hlo hH1 hH2
 refine ZR (fun Hj ac wo => ∃ (p : List UInt64) (d : UInt64), Hj = (nv p + W256 * d.toNat : Nat) ∧ Env ac 61 [(4, pt Ec), (5, pt Ea), (6, zm d), (7, pt Eb), (14, ni i)] ∧ Ev w [] wo [.box Eb (zh p) 33, .box Ec (zh (zd 4 0)) 33, .box Ea (zh (nds 8 (nv a * nv b))) 99] ∧ (zb p = 4) ∧ ((nv p + W256 * d.toNat) % mF 1 = (nv a * nv b) % mF 1) ∧ (d.toNat ≤ 38)) ⟨_, o, c, rfl, El.sb, Ek.pk [0, 1, 2], hlo, hq.1, hq.2⟩ ?_
 rintro Hk _ _ ⟨p, d, rfl, En, Ed, hlp, hmp, hcp⟩
 refine wp_seq <| d_s [4,5,6,7,14,49] [] En fun _ Ee => ?_
 refine c_n ((zw d : Nat) : Int) (0 : Int) Ee (fun Eo => ?_) (fun Eo => ?_)
 ·
  refine wp_skip <| ze <| wp_block <| zk <| f_o <| m_aw 0 4 (zh p) Ee Ed rfl (zf hlp) fun _ Ep => d_k [4,5,6,7,14,51,54] [(2, g_i .u64 (Go.Dbr.u64_mul (x := (38 : UInt64)) (y := d) rfl rfl))] 4 Ep fun _ Eq => f_o <| c_p Eq Ed (plus_go _ p ([(38 : UInt64) * d, 0, 0, 0] : List UInt64) hlp (show zb ([(38 : UInt64) * d, 0, 0, 0] : List UInt64) = 4 from rfl)) fun _ _ Er Es => d_k [4,5,6,7,14,56,57] [] 8 Er fun _ Et => ?_
  refine f_o <| zQ 0 4 (zh (nd (nv p + nv ([(38 : UInt64) * d, 0, 0, 0] : List UInt64)))) _ Et Es rfl (zf (nds_len _ _)) (zf hlp) (zt _) rfl fun _ _ Eu Ew => d_e [4,5,6,7,14] [] Eu fun _ Ex => zv <| ze <| ⟨_, ⟨(nd (nv p + nv ([(38 : UInt64) * d, 0, 0, 0] : List UInt64))), (u1 (W256 ≤ nv p + nv ([(38 : UInt64) * d, 0, 0, 0] : List UInt64))), rfl, Ex.sb, Ew.pk [0, 1, 2], nds_len _ _, (step38 hlp hcp hmp).1, Nat.le_trans (u1_le _) (by decide)⟩, ?_⟩
  rw [(step38 hlp hcp hmp).2]; simp only [W256]; omega
 refine wp_exit <| zy <| zy <| zL <| ze <| wp_seq <| r_c (fun ac wo => Env ac 61 [(4, pt Ec), (5, pt Ea), (6, zm d), (7, pt Eb), (14, ni i)] ∧ Ev w [] wo [.box Eb (zh p) 33, .box Ec (zh (nd (nv p % nv (nd (mF 1))))) 33, .box Ea (zh (nds 8 (nv a * nv b))) 99]) ?_ ?_
 ·
  refine h_s (fun wv => Ev w [] wv [.box Eb (zh p) 33]) [] 4 ?_
  have Ef := Ed.trans (zO Ed.heap)
  refine q_r 0 (s := Instr.loadAt 33 (pt Eb)) (v := .agg (zg (zh p))) Ee (fun w hS => run_loadAgg2 (m := 4) (cs := zh p) (zf hlp) (by kernel_rfl) (by kernel_rfl) (hS.heap.cells (k := 0) (off := 0) (m := 4) rfl (zq (zf hlp)))) (Ef.pk [0]) fun _ Ey => q_t 1 ?_
  refine c_p Ey Ef (prime1_go _) fun _ _ Ez Eg => ⟨fun _ => Eg.pk [0], ?_⟩
  refine q_t 2 ?_
  refine c_p Ez Eg (right_go _ p (nd (mF 1)) hlp (nds_len _ _) (by rw [nv_mF]; decide)) fun _ _ EA Eh => ⟨fun _ => Eh.pk [0], ?_⟩
  refine q_t 3 ?_
  refine zQ 1 4 (zh (nd (nv p % nv (nd (mF 1))))) [.box Eb (zh p) 33, .box Ec (zh (nd (nv p % nv (nd (mF 1))))) 33, .box Ea (zh (nds 8 (nv a * nv b))) 99] EA Eh rfl (zf (nds_len _ _)) (zf (zi)) (zt _) rfl fun _ _ EB Ei => ⟨fun _ => Ei.pk [0], ?_⟩
  exact h_e ⟨EB.sb, Ei.pk [0, 1, 2]⟩
 rintro _ _ ⟨EC, Ej⟩
 refine ze <| wp_ret <| z9 (v := .agg (zg (zh (nd (nv p % nv (nd (mF 1))))))) (t := 4) (T := 33) (ad := ⟨Ec, 0, none⟩) EC (by kernel_rfl) (by kernel_rfl) (zB (t := 33) (k := 1) (off := 0) (m := 4) (xs := zh (nd (nv p % nv (nd (mF 1))))) Ej rfl (zq (zf (nds_len _ _))) (zf (nds_len _ _)) (by kernel_rfl) (by kernel_rfl)) ?_
 have hd0 : d.toNat = 0 := by omega
 have he : nd (nv p % nv (nd (mF 1))) = nd ((nv a * nv b) % mF 1) := by rw [← hmp, hd0, nv_mF, Z5, Zx]
 exact ⟨by rw [he], Ej.pk []⟩
end Go.Proofs.YtlnogkmnklfjlaaGreatDoor
