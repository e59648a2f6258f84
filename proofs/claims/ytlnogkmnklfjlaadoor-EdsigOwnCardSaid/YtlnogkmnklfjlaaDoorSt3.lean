import Derived.Test.YtlnogkmnklfjlaaDoorSt1
import Derived.Test.YtlnogkmnklfjlaaDoorSt2
open List renaming length → za, getD → zb, replicate → ze, length_replicate → zf, toArray → zi, set → zy, getD_eq_getElem?_getD → Zf, length_cons → Zu, getElem?_replicate → Qj, getElem?_cons_zero → QM, getElem?_cons_succ → Yd
open Go.Dbr renaming u64s_lenh → zc, then_normal → zg, u64s → zh, region_from → zm, uv64 → zn, load_whole → zq, store_whole → zs, u64s_one → zv, block_normal → zA, addHi → zH, then_exit → zI, addLo → zL, subHi → zO, u64s_getD → zY, loop_once → z7, block_exit → z9, d_cell1 → Zj, subLo → Zz, loop_m → Qh, mulHi → QX, u64s_set → Yn, addHi_le → Yp, loop_enter → YB, subHi_le → Jy, add_val → JG, op_ext → JK, h_ext → J1, sub_val → XJ
open UInt64 renaming ofNat → zd, toNat → zB, toNat_add → ZH, toNat_inj → QR
open Nat renaming mod_eq_of_lt → zK, mul_comm → z5, mul_assoc → Ze, pow_succ → Zl, add_mul → Zm, add_zero → ZM, zero_mul → ZN, lt_trans → Z4, add_assoc → Z8, pow_zero → Qf, mul_zero → Qv, mul_add → Qz, zero_le → JF
open Go.Dbr.Ev renaming cellAgg → zM, drew → z4
open Option renaming getD_some → Je
/- Layer 4: numbers of four words: differences, sums. -/




namespace Go.Proofs.YtlnogkmnklfjlaaDoor
open Go.Dbr
set_option maxRecDepth 100000
set_option maxHeartbeats 2000000
set_option linter.unusedVariables false
set_option linter.unusedSimpArgs false

abbrev pt (b : Nat) : Value := .pointer (some (Addr.mk b 0 none))
abbrev ni (n : Nat) : Value := .int .i64 (n : Int)
/-- 2^256 -/
abbrev W256 : Nat := 115792089237316195423570985008687907853269984665640564039457584007913129639936
abbrev nv (l : List UInt64) : Nat := dv 18446744073709551616 l
/-- so many digits of a number, the lowest first -/
def nds : Nat → Nat → List UInt64
  | 0, _ => []
  | k + 1, n => zd n :: nds k (n / 18446744073709551616)
abbrev nd (n : Nat) : List UInt64 := nds 4 n
theorem nds_len : ∀ (k n : Nat), (nds k n).length = k
  | 0, _ => rfl
  | k + 1, n => by rw [nds, Zu, nds_len k]
theorem ofNat_val (n : Nat) : (zd n).toNat = n % 18446744073709551616 := by
  show (BitVec.ofNat 64 n).toNat = n % 18446744073709551616
  rw [BitVec.toNat_ofNat]
theorem nds_val : ∀ (k n : Nat), dv 18446744073709551616 (nds k n) = n % 18446744073709551616 ^ k
  | 0, n => by rw [Qf, Nat.mod_one]; rfl
  | k + 1, n => by
    rw [nds, dv_cons, nds_val k, ofNat_val, Zl, z5 (18446744073709551616 ^ k), Nat.mod_mul]
theorem w256_pow : 18446744073709551616 ^ 4 = W256 := by decide
theorem nd_val (n : Nat) : nv (nd n) = n % W256 := by rw [nv, nd, nds_val, w256_pow]
theorem nds_dv : ∀ (l : List UInt64), nds l.length (dv 18446744073709551616 l) = l
  | [] => rfl
  | x :: r => by
    have hx := lt64 x
    rw [Zu, nds, dv_cons]
    have h1 : (x.toNat + 18446744073709551616 * dv 18446744073709551616 r) / 18446744073709551616 = dv 18446744073709551616 r := by omega
    have h2 : zd (x.toNat + 18446744073709551616 * dv 18446744073709551616 r) = x := by
      apply QR.1
      rw [ofNat_val]
      omega
    rw [h1, h2, nds_dv r]
theorem nds_of {l : List UInt64} {k n : Nat} (hl : l.length = k) (h : dv 18446744073709551616 l = n) : l = nds k n := by rw [← h, ← hl, nds_dv]
theorem nds_mod : ∀ (k n : Nat), nds k (n % 18446744073709551616 ^ k) = nds k n
  | k, n => (nds_of (nds_len k n) (nds_val k n)).symm
theorem nd_mod (n : Nat) : nd (n % W256) = nd n := by rw [← w256_pow]; exact nds_mod 4 n
theorem nd_of {l : List UInt64} {n : Nat} (hl : l.length = 4) (h : nv l = n) : l = nd n := nds_of hl h
theorem dv_lt : ∀ (l : List UInt64), dv 18446744073709551616 l < 18446744073709551616 ^ l.length
  | [] => by decide
  | x :: r => by
    have h1 := dv_lt r
    have h2 := lt64 x
    rw [dv_cons, Zu, Zl]
    generalize 18446744073709551616 ^ r.length = q at *
    generalize dv 18446744073709551616 r = d at *
    have : 18446744073709551616 * (d + 1) ≤ 18446744073709551616 * q := Nat.mul_le_mul_left _ h1
    rw [z5 q]
    omega
theorem nv_lt {l : List UInt64} (hl : l.length = 4) : nv l < W256 := by
  have := dv_lt l
  rw [hl, w256_pow] at this
  exact this
theorem nv_inj {l m : List UInt64} (hl : l.length = 4) (hm : m.length = 4) (h : nv l = nv m) : l = m := (nd_of hl h).trans (nd_of hm rfl).symm
theorem nv4 (a b c d : UInt64) : nv [a, b, c, d] = a.toNat + 18446744073709551616 * (b.toNat + 18446744073709551616 * (c.toNat + 18446744073709551616 * d.toNat)) := by
  simp only [nv, dv, Qv, ZM]
/-- what is borrowed from the digit -/
def sbF (a b : List UInt64) : Nat → UInt64
  | 0 => 0
  | i + 1 => zO (zb a i 0) (zb b i 0) (sbF a b i)
def adF (a b : List UInt64) : Nat → UInt64
  | 0 => 0
  | i + 1 => zH (zb a i 0) (zb b i 0) (adF a b i)
def minL (a b : List UInt64) : List UInt64 := [Zz (zb a 0 0) (zb b 0 0) (sbF a b 0), Zz (zb a 1 0) (zb b 1 0) (sbF a b 1), Zz (zb a 2 0) (zb b 2 0) (sbF a b 2), Zz (zb a 3 0) (zb b 3 0) (sbF a b 3)]
def plusL (a b : List UInt64) : List UInt64 := [zL (zb a 0 0) (zb b 0 0) (adF a b 0), zL (zb a 1 0) (zb b 1 0) (adF a b 1), zL (zb a 2 0) (zb b 2 0) (adF a b 2), zL (zb a 3 0) (zb b 3 0) (adF a b 3)]
theorem sbF_le (a b : List UInt64) : ∀ i, (sbF a b i).toNat ≤ 1
  | 0 => JF 1
  | _ + 1 => Jy
theorem adF_le (a b : List UInt64) : ∀ i, (adF a b i).toNat ≤ 1
  | 0 => JF 1
  | i + 1 => Yp (adF_le a b i)
theorem min_eq {a b : List UInt64} (ha : a.length = 4) (hb : b.length = 4) : nv (minL a b) + nv b = nv a + W256 * (sbF a b 4).toNat := by
  match a, ha, b, hb with
  | [a0, a1, a2, a3], _, [b0, b1, b2, b3], _ =>
    have l0 := sbF_le [a0, a1, a2, a3] [b0, b1, b2, b3] 0
    have l1 := sbF_le [a0, a1, a2, a3] [b0, b1, b2, b3] 1
    have l2 := sbF_le [a0, a1, a2, a3] [b0, b1, b2, b3] 2
    have l3 := sbF_le [a0, a1, a2, a3] [b0, b1, b2, b3] 3
    have e0 := XJ (x := a0) (y := b0) l0
    have e1 := XJ (x := a1) (y := b1) l1
    have e2 := XJ (x := a2) (y := b2) l2
    have e3 := XJ (x := a3) (y := b3) l3
    have z : (sbF [a0, a1, a2, a3] [b0, b1, b2, b3] 0).toNat = 0 := rfl
    rw [minL, nv4, nv4, nv4]
    change _ = _ + 115792089237316195423570985008687907853269984665640564039457584007913129639936 * (zO a3 b3 (sbF [a0, a1, a2, a3] [b0, b1, b2, b3] 3)).toNat
    simp only [zb, QM, Yd, Je] at *
    change _ = a0.toNat + 18446744073709551616 * (sbF [a0, a1, a2, a3] [b0, b1, b2, b3] 1).toNat at e0
    change _ = a1.toNat + 18446744073709551616 * (sbF [a0, a1, a2, a3] [b0, b1, b2, b3] 2).toNat at e1
    change _ = a2.toNat + 18446744073709551616 * (sbF [a0, a1, a2, a3] [b0, b1, b2, b3] 3).toNat at e2
    omega
theorem plus_eq {a b : List UInt64} (ha : a.length = 4) (hb : b.length = 4) : nv (plusL a b) + W256 * (adF a b 4).toNat = nv a + nv b := by
  match a, ha, b, hb with
  | [a0, a1, a2, a3], _, [b0, b1, b2, b3], _ =>
    have e0 := JG (x := a0) (y := b0) (c := adF [a0, a1, a2, a3] [b0, b1, b2, b3] 0)
    have e1 := JG (x := a1) (y := b1) (c := adF [a0, a1, a2, a3] [b0, b1, b2, b3] 1)
    have e2 := JG (x := a2) (y := b2) (c := adF [a0, a1, a2, a3] [b0, b1, b2, b3] 2)
    have e3 := JG (x := a3) (y := b3) (c := adF [a0, a1, a2, a3] [b0, b1, b2, b3] 3)
    have z : (adF [a0, a1, a2, a3] [b0, b1, b2, b3] 0).toNat = 0 := rfl
    rw [plusL, nv4, nv4, nv4]
    change _ + 115792089237316195423570985008687907853269984665640564039457584007913129639936 * (zH a3 b3 (adF [a0, a1, a2, a3] [b0, b1, b2, b3] 3)).toNat = _
    simp only [zb, QM, Yd, Je] at *
    change _ + 18446744073709551616 * (adF [a0, a1, a2, a3] [b0, b1, b2, b3] 1).toNat = _ at e0
    change _ + 18446744073709551616 * (adF [a0, a1, a2, a3] [b0, b1, b2, b3] 2).toNat = _ at e1
    change _ + 18446744073709551616 * (adF [a0, a1, a2, a3] [b0, b1, b2, b3] 3).toNat = _ at e2
    omega
theorem minL_len (a b : List UInt64) : (minL a b).length = 4 := rfl
theorem plusL_len (a b : List UInt64) : (plusL a b).length = 4 := rfl
/-- 1 where it holds -/
def u1 (p : Prop) [Decidable p] : UInt64 := if p then 1 else 0
theorem u1_le (p : Prop) [Decidable p] : (u1 p).toNat ≤ 1 := by unfold u1; split <;> decide
theorem u1_val (p : Prop) [Decidable p] : (u1 p).toNat = if p then 1 else 0 := by unfold u1; split <;> rfl
theorem sb_nd {a b : List UInt64} (ha : a.length = 4) (hb : b.length = 4) : sbF a b 4 = u1 (nv a < nv b) := by
  have h := min_eq ha hb
  have h1 := nv_lt ha
  have h2 := nv_lt hb
  have h3 := nv_lt (minL_len a b)
  have h4 := sbF_le a b 4
  simp only [W256] at *
  apply QR.1
  rw [u1_val]
  split <;> omega
theorem min_nd {a b : List UInt64} (ha : a.length = 4) (hb : b.length = 4) : minL a b = nd (nv a + W256 - nv b) := by
  have h := min_eq ha hb
  have h1 := nv_lt ha
  have h2 := nv_lt hb
  have h3 := nv_lt (minL_len a b)
  have h4 := sbF_le a b 4
  simp only [W256] at *
  refine nv_inj rfl (nds_len _ _) ?_
  rw [nd_val]
  simp only [W256] at *
  omega
theorem ad_nd {a b : List UInt64} (ha : a.length = 4) (hb : b.length = 4) : adF a b 4 = u1 (W256 ≤ nv a + nv b) := by
  have h := plus_eq ha hb
  have h1 := nv_lt ha
  have h2 := nv_lt hb
  have h3 := nv_lt (plusL_len a b)
  have h4 := adF_le a b 4
  simp only [W256] at *
  apply QR.1
  rw [u1_val]
  split <;> omega
theorem plus_nd {a b : List UInt64} (ha : a.length = 4) (hb : b.length = 4) : plusL a b = nd (nv a + nv b) := by
  have h := plus_eq ha hb
  have h1 := nv_lt ha
  have h2 := nv_lt hb
  have h3 := nv_lt (plusL_len a b)
  have h4 := adF_le a b 4
  simp only [W256] at *
  refine nv_inj rfl (nds_len _ _) ?_
  rw [nd_val]
  simp only [W256] at *
  omega
theorem u1_one (p : Prop) [Decidable p] : (((u1 p).toNat : Int) == (1 : Int)) = decide p := by
  rw [u1_val]
  by_cases h : p
  · rw [if_pos h, decide_eq_true h]; rfl
  · rw [if_neg h, decide_eq_false h]; rfl

theorem less4 (w : World) (ba bb : Nat) (a0 a1 a2 a3 b0 b1 b2 b3 : UInt64) (hH : Heap w [.box ba [zn a0, zn a1, zn a2, zn a3] 34, .box bb [zn b0, zn b1, zn b2, zn b3] 34]) : Calls Tryd.prog 44 #[pt ba, pt bb] w fun e w' => e = .returned (.bool (decide (nv [a0, a1, a2, a3] < nv [b0, b1, b2, b3]))) ∧ Ev w [.box ba [zn a0, zn a1, zn a2, zn a3] 34, .box bb [zn b0, zn b1, zn b2, zn b3] 34] w' [.box ba [zn a0, zn a1, zn a2, zn a3] 34, .box bb [zn b0, zn b1, zn b2, zn b3] 34] := by
 refine d_0 [(0, pt ba), (1, pt bb)] 28 Go.Proofs.Tryd.func44 Go.Proofs.Tryd.ntmps44 (hH) fun act0 En0 Hv0 => ?_
 refine d_s [0,1,4] [] En0 fun _ En2 => ?_
 refine d_s [0,1,4,5] [] En2 fun _ En4 => ?_
 refine wp_seq <| d_s [0,1,4,5,7] [] En4 fun _ En6 => ?_
 refine wp_block <| YB ?_
 refine z7 <| d_s [0,1,4,5,7,8] [] En6 fun _ En8 => ?_
 refine wp_seq <| c_t En8 ?_
 refine wp_skip <| zg <| wp_seq <| wp_block <| d_s [0,1,4,5,6,7] [] En8 fun _ En10 => ?_
 refine r_c (fun ac wo => Env ac 28 [(0, pt ba), (1, pt bb), (4, .bool false), (5, zn (zO a0 b0 (0 : UInt64))), (7, .int .i64 0)] ∧ Ev w [.box ba [zn a0, zn a1, zn a2, zn a3] 34, .box bb [zn b0, zn b1, zn b2, zn b3] 34] wo [.box ba [zn a0, zn a1, zn a2, zn a3] 34, .box bb [zn b0, zn b1, zn b2, zn b3] 34]) ?_ ?_
 ·
  refine h_s (fun wv => Ev w [.box ba [zn a0, zn a1, zn a2, zn a3] 34, .box bb [zn b0, zn b1, zn b2, zn b3] 34] wv [.box ba [zn a0, zn a1, zn a2, zn a3] 34, .box bb [zn b0, zn b1, zn b2, zn b3] 34]) [] 16 ?_
  have wo11 := Hv0.trans (z4 Hv0.heap)
  refine q_s [0,1,2,3] [] 12 En10 (wo11.pk [0, 1]) fun _ En45 => ?_
  refine q_l 0 4 En45 (wo11.pk [0, 1]) fun _ En47 => ?_
  refine q_s [5,6,7,8] [] 7 En47 (wo11.pk [0, 1]) fun _ En49 => ?_
  refine q_l 1 9 En49 (wo11.pk [0, 1]) fun _ En51 => ?_
  refine q_s [10] [] 5 En51 (wo11.pk [0, 1]) fun _ En53 => ?_
  refine J1 (d := some 22) (f := 68) (args := #[zn a0, zn b0, zn (0 : UInt64)]) (v := .tuple #[zn (Zz a0 b0 (0 : UInt64)), zn (zO a0 b0 (0 : UInt64))]) En53 11 (by kernel_rfl) (Go.Dbr.ext_sub64 Go.Proofs.Tryd.func68 (by kernel_rfl) (by kernel_rfl) (by kernel_rfl) (by kernel_rfl) a0 b0 (0 : UInt64) (by decide)) (by kernel_rfl) rfl (fun _ => wo11.pk [0, 1]) fun _ En55 => ?_
  refine q_s [12,13,14,15] [] 0 En55 (wo11.pk [0, 1]) fun _ En57 => ?_
  exact h_e ⟨En57.sb, wo11.pk [0, 1]⟩
 rintro _ _ ⟨En60, Hv61⟩
 refine zA <| zg <| d_r [0,1,4,5,7] [] En60 fun _ En63 => ?_
 refine zg <| z7 <| d_s [0,1,4,5,7,8] [] En63 fun _ En65 => ?_
 refine wp_seq <| c_t En65 ?_
 refine wp_skip <| zg <| wp_seq <| wp_block <| d_s [0,1,4,5,6,7] [] En65 fun _ En67 => ?_
 refine r_c (fun ac wo => Env ac 28 [(0, pt ba), (1, pt bb), (4, .bool false), (5, zn (zO a1 b1 (zO a0 b0 (0 : UInt64)))), (7, .int .i64 1)] ∧ Ev w [.box ba [zn a0, zn a1, zn a2, zn a3] 34, .box bb [zn b0, zn b1, zn b2, zn b3] 34] wo [.box ba [zn a0, zn a1, zn a2, zn a3] 34, .box bb [zn b0, zn b1, zn b2, zn b3] 34]) ?_ ?_
 ·
  refine h_s (fun wv => Ev w [.box ba [zn a0, zn a1, zn a2, zn a3] 34, .box bb [zn b0, zn b1, zn b2, zn b3] 34] wv [.box ba [zn a0, zn a1, zn a2, zn a3] 34, .box bb [zn b0, zn b1, zn b2, zn b3] 34]) [] 16 ?_
  have wo68 := Hv61.trans (z4 Hv61.heap)
  refine q_s [0,1,2,3] [] 12 En67 (wo68.pk [0, 1]) fun _ En102 => ?_
  refine q_l 0 4 En102 (wo68.pk [0, 1]) fun _ En104 => ?_
  refine q_s [5,6,7,8] [] 7 En104 (wo68.pk [0, 1]) fun _ En106 => ?_
  refine q_l 1 9 En106 (wo68.pk [0, 1]) fun _ En108 => ?_
  refine q_s [10] [] 5 En108 (wo68.pk [0, 1]) fun _ En110 => ?_
  refine J1 (d := some 22) (f := 68) (args := #[zn a1, zn b1, zn (zO a0 b0 (0 : UInt64))]) (v := .tuple #[zn (Zz a1 b1 (zO a0 b0 (0 : UInt64))), zn (zO a1 b1 (zO a0 b0 (0 : UInt64)))]) En110 11 (by kernel_rfl) (Go.Dbr.ext_sub64 Go.Proofs.Tryd.func68 (by kernel_rfl) (by kernel_rfl) (by kernel_rfl) (by kernel_rfl) a1 b1 (zO a0 b0 (0 : UInt64)) (Jy)) (by kernel_rfl) rfl (fun _ => wo68.pk [0, 1]) fun _ En112 => ?_
  refine q_s [12,13,14,15] [] 0 En112 (wo68.pk [0, 1]) fun _ En114 => ?_
  exact h_e ⟨En114.sb, wo68.pk [0, 1]⟩
 rintro _ _ ⟨En117, Hv118⟩
 refine zA <| zg <| d_r [0,1,4,5,7] [] En117 fun _ En120 => ?_
 refine zg <| z7 <| d_s [0,1,4,5,7,8] [] En120 fun _ En122 => ?_
 refine wp_seq <| c_t En122 ?_
 refine wp_skip <| zg <| wp_seq <| wp_block <| d_s [0,1,4,5,6,7] [] En122 fun _ En124 => ?_
 refine r_c (fun ac wo => Env ac 28 [(0, pt ba), (1, pt bb), (4, .bool false), (5, zn (zO a2 b2 (zO a1 b1 (zO a0 b0 (0 : UInt64))))), (7, .int .i64 2)] ∧ Ev w [.box ba [zn a0, zn a1, zn a2, zn a3] 34, .box bb [zn b0, zn b1, zn b2, zn b3] 34] wo [.box ba [zn a0, zn a1, zn a2, zn a3] 34, .box bb [zn b0, zn b1, zn b2, zn b3] 34]) ?_ ?_
 ·
  refine h_s (fun wv => Ev w [.box ba [zn a0, zn a1, zn a2, zn a3] 34, .box bb [zn b0, zn b1, zn b2, zn b3] 34] wv [.box ba [zn a0, zn a1, zn a2, zn a3] 34, .box bb [zn b0, zn b1, zn b2, zn b3] 34]) [] 16 ?_
  have wo125 := Hv118.trans (z4 Hv118.heap)
  refine q_s [0,1,2,3] [] 12 En124 (wo125.pk [0, 1]) fun _ En159 => ?_
  refine q_l 0 4 En159 (wo125.pk [0, 1]) fun _ En161 => ?_
  refine q_s [5,6,7,8] [] 7 En161 (wo125.pk [0, 1]) fun _ En163 => ?_
  refine q_l 1 9 En163 (wo125.pk [0, 1]) fun _ En165 => ?_
  refine q_s [10] [] 5 En165 (wo125.pk [0, 1]) fun _ En167 => ?_
  refine J1 (d := some 22) (f := 68) (args := #[zn a2, zn b2, zn (zO a1 b1 (zO a0 b0 (0 : UInt64)))]) (v := .tuple #[zn (Zz a2 b2 (zO a1 b1 (zO a0 b0 (0 : UInt64)))), zn (zO a2 b2 (zO a1 b1 (zO a0 b0 (0 : UInt64))))]) En167 11 (by kernel_rfl) (Go.Dbr.ext_sub64 Go.Proofs.Tryd.func68 (by kernel_rfl) (by kernel_rfl) (by kernel_rfl) (by kernel_rfl) a2 b2 (zO a1 b1 (zO a0 b0 (0 : UInt64))) (Jy)) (by kernel_rfl) rfl (fun _ => wo125.pk [0, 1]) fun _ En169 => ?_
  refine q_s [12,13,14,15] [] 0 En169 (wo125.pk [0, 1]) fun _ En171 => ?_
  exact h_e ⟨En171.sb, wo125.pk [0, 1]⟩
 rintro _ _ ⟨En174, Hv175⟩
 refine zA <| zg <| d_r [0,1,4,5,7] [] En174 fun _ En177 => ?_
 refine zg <| z7 <| d_s [0,1,4,5,7,8] [] En177 fun _ En179 => ?_
 refine wp_seq <| c_t En179 ?_
 refine wp_skip <| zg <| wp_seq <| wp_block <| d_s [0,1,4,5,6,7] [] En179 fun _ En181 => ?_
 refine r_c (fun ac wo => Env ac 28 [(0, pt ba), (1, pt bb), (4, .bool false), (5, zn (zO a3 b3 (zO a2 b2 (zO a1 b1 (zO a0 b0 (0 : UInt64)))))), (7, .int .i64 3)] ∧ Ev w [.box ba [zn a0, zn a1, zn a2, zn a3] 34, .box bb [zn b0, zn b1, zn b2, zn b3] 34] wo [.box ba [zn a0, zn a1, zn a2, zn a3] 34, .box bb [zn b0, zn b1, zn b2, zn b3] 34]) ?_ ?_
 ·
  refine h_s (fun wv => Ev w [.box ba [zn a0, zn a1, zn a2, zn a3] 34, .box bb [zn b0, zn b1, zn b2, zn b3] 34] wv [.box ba [zn a0, zn a1, zn a2, zn a3] 34, .box bb [zn b0, zn b1, zn b2, zn b3] 34]) [] 16 ?_
  have wo182 := Hv175.trans (z4 Hv175.heap)
  refine q_s [0,1,2,3] [] 12 En181 (wo182.pk [0, 1]) fun _ En216 => ?_
  refine q_l 0 4 En216 (wo182.pk [0, 1]) fun _ En218 => ?_
  refine q_s [5,6,7,8] [] 7 En218 (wo182.pk [0, 1]) fun _ En220 => ?_
  refine q_l 1 9 En220 (wo182.pk [0, 1]) fun _ En222 => ?_
  refine q_s [10] [] 5 En222 (wo182.pk [0, 1]) fun _ En224 => ?_
  refine J1 (d := some 22) (f := 68) (args := #[zn a3, zn b3, zn (zO a2 b2 (zO a1 b1 (zO a0 b0 (0 : UInt64))))]) (v := .tuple #[zn (Zz a3 b3 (zO a2 b2 (zO a1 b1 (zO a0 b0 (0 : UInt64))))), zn (zO a3 b3 (zO a2 b2 (zO a1 b1 (zO a0 b0 (0 : UInt64)))))]) En224 11 (by kernel_rfl) (Go.Dbr.ext_sub64 Go.Proofs.Tryd.func68 (by kernel_rfl) (by kernel_rfl) (by kernel_rfl) (by kernel_rfl) a3 b3 (zO a2 b2 (zO a1 b1 (zO a0 b0 (0 : UInt64)))) (Jy)) (by kernel_rfl) rfl (fun _ => wo182.pk [0, 1]) fun _ En226 => ?_
  refine q_s [12,13,14,15] [] 0 En226 (wo182.pk [0, 1]) fun _ En228 => ?_
  exact h_e ⟨En228.sb, wo182.pk [0, 1]⟩
 rintro _ _ ⟨En231, Hv232⟩
 refine zA <| zg <| d_r [0,1,4,5,7] [] En231 fun _ En234 => ?_
 refine zg <| z7 <| d_s [0,1,4,5,7,8] [] En234 fun _ En236 => ?_
 refine wp_seq <| c_f En236 ?_
 refine wp_exit <| zI <| zI <| z9 <| zg <| d_s [0,1,4,5,7] [] En236 fun _ En238 => ?_
 refine wp_ret <| d_ret1 (t := 4) (v := .bool (((zB (zO a3 b3 (zO a2 b2 (zO a1 b1 (zO a0 b0 (0 : UInt64))))) : Nat) : Int) == (1 : Int))) En238 (by kernel_rfl) (by kernel_rfl) ?_
 have e : (((zB (zO a3 b3 (zO a2 b2 (zO a1 b1 (zO a0 b0 (0 : UInt64))))) : Nat) : Int) == (1 : Int)) = decide (nv [a0, a1, a2, a3] < nv [b0, b1, b2, b3]) := by
  change (((zB (sbF [a0, a1, a2, a3] [b0, b1, b2, b3] 4) : Nat) : Int) == (1 : Int)) = _
  rw [sb_nd rfl rfl, u1_one]
 exact ⟨by rw [e], Hv232.pk [0, 1]⟩

theorem less_go (w : World) (ba bb : Nat) (a b : List UInt64) (ha : za a = 4) (hb : za b = 4) (hH : Heap w [.box ba (zh a) 34, .box bb (zh b) 34]) : Calls Tryd.prog 44 #[pt ba, pt bb] w fun e w' => e = .returned (.bool (decide (nv a < nv b))) ∧ Ev w [.box ba (zh a) 34, .box bb (zh b) 34] w' [.box ba (zh a) 34, .box bb (zh b) 34] := by
  match a, ha, b, hb with
  | [a0, a1, a2, a3], _, [b0, b1, b2, b3], _ => exact less4 w ba bb a0 a1 a2 a3 b0 b1 b2 b3 hH

theorem minus4 (w : World) (a0 a1 a2 a3 b0 b1 b2 b3 : UInt64) : Calls Tryd.prog 51 #[.agg #[zn a0, zn a1, zn a2, zn a3], .agg #[zn b0, zn b1, zn b2, zn b3]] w fun e w' => e = .returned (.tuple #[.agg (zi (zh (minL [a0, a1, a2, a3] [b0, b1, b2, b3]))), zn (sbF [a0, a1, a2, a3] [b0, b1, b2, b3] 4)]) ∧ Ev w [] w' [] := by
 refine d_0 [(0, .agg #[zn a0, zn a1, zn a2, zn a3]), (1, .agg #[zn b0, zn b1, zn b2, zn b3])] 27 Go.Proofs.Tryd.func51 Go.Proofs.Tryd.ntmps51 (Heap.nil _) fun act0 En0 Hv0 => ?_
 refine wp_seq <| zm <| f_o <| m_m 34 [zn a0, zn a1, zn a2, zn a3] En0 Hv0 fun _ _ bk1 En4 Hv5 => ?_
 refine f_o <| m_m 34 [zn b0, zn b1, zn b2, zn b3] En4 Hv5 fun _ _ bk6 En9 Hv10 => ?_
 refine f_o <| m_z 34 (zh (ze 4 0)) En9 Hv10 fun _ _ bk11 En14 Hv15 => ?_
 refine d_e [2,3,4,5] [] En14 fun _ En17 => ?_
 refine zg <| d_s [2,3,4,5,6] [] En17 fun _ En19 => ?_
 refine wp_seq <| d_s [2,3,4,5,6,8] [] En19 fun _ En21 => ?_
 refine wp_block <| YB ?_
 refine z7 <| d_s [2,3,4,5,6,8,9] [] En21 fun _ En23 => ?_
 refine wp_seq <| c_t En23 ?_
 refine wp_skip <| zg <| wp_seq <| wp_block <| d_s [2,3,4,5,6,7,8] [] En23 fun _ En25 => ?_
 refine r_c (fun ac wo => Env ac 27 [(2, pt bk1), (3, pt bk6), (4, pt bk11), (5, .int .u64 0), (6, zn (zO a0 b0 (0 : UInt64))), (8, .int .i64 0)] ∧ Ev w [] wo [.box bk1 [zn (Zz a0 b0 (0 : UInt64)), zn a1, zn a2, zn a3] 34, .box bk6 [zn b0, zn b1, zn b2, zn b3] 34, .box bk11 (zh (ze 4 0)) 34]) ?_ ?_
 ·
  refine h_s (fun wv => Ev w [] wv [.box bk1 [zn a0, zn a1, zn a2, zn a3] 34, .box bk6 [zn b0, zn b1, zn b2, zn b3] 34]) [13] 15 ?_
  have wo26 := Hv15.trans (z4 Hv15.heap)
  refine q_s [0,1,2] [] 12 En25 (wo26.pk [0, 1]) fun _ En78 => ?_
  refine q_l 0 3 En78 (wo26.pk [0, 1]) fun _ En80 => ?_
  refine q_s [4,5] [] 9 En80 (wo26.pk [0, 1]) fun _ En82 => ?_
  refine q_l 1 6 En82 (wo26.pk [0, 1]) fun _ En84 => ?_
  refine q_s [7] [] 7 En84 (wo26.pk [0, 1]) fun _ En86 => ?_
  refine J1 (d := some 20) (f := 68) (args := #[zn a0, zn b0, zn (0 : UInt64)]) (v := .tuple #[zn (Zz a0 b0 (0 : UInt64)), zn (zO a0 b0 (0 : UInt64))]) En86 8 (by kernel_rfl) (Go.Dbr.ext_sub64 Go.Proofs.Tryd.func68 (by kernel_rfl) (by kernel_rfl) (by kernel_rfl) (by kernel_rfl) a0 b0 (0 : UInt64) (by decide)) (by kernel_rfl) rfl (fun _ => wo26.pk [0, 1]) fun _ En88 => ?_
  refine q_s [9,10,11,12] [] 2 En88 (wo26.pk [0, 1]) fun _ En90 => ?_
  refine q_t 13 ?_
  refine m_s 0 [.box bk1 [zn (Zz a0 b0 (0 : UInt64)), zn a1, zn a2, zn a3] 34, .box bk6 [zn b0, zn b1, zn b2, zn b3] 34, .box bk11 (zh (ze 4 0)) 34] En90 wo26 fun _ _ En93 Hv94 => ?_
  refine ⟨q_y, ?_⟩
  refine q_n [14] [] 0 En93 fun _ En96 => ?_
  exact h_e ⟨En96.sb, Hv94.pk [0, 1, 2]⟩
 rintro _ _ ⟨En99, Hv100⟩
 refine zA <| zg <| d_r [2,3,4,5,6,8] [] En99 fun _ En102 => ?_
 refine zg <| z7 <| d_s [2,3,4,5,6,8,9] [] En102 fun _ En104 => ?_
 refine wp_seq <| c_t En104 ?_
 refine wp_skip <| zg <| wp_seq <| wp_block <| d_s [2,3,4,5,6,7,8] [] En104 fun _ En106 => ?_
 refine r_c (fun ac wo => Env ac 27 [(2, pt bk1), (3, pt bk6), (4, pt bk11), (5, .int .u64 0), (6, zn (zO a1 b1 (zO a0 b0 (0 : UInt64)))), (8, .int .i64 1)] ∧ Ev w [] wo [.box bk1 [zn (Zz a0 b0 (0 : UInt64)), zn (Zz a1 b1 (zO a0 b0 (0 : UInt64))), zn a2, zn a3] 34, .box bk6 [zn b0, zn b1, zn b2, zn b3] 34, .box bk11 (zh (ze 4 0)) 34]) ?_ ?_
 ·
  refine h_s (fun wv => Ev w [] wv [.box bk1 [zn (Zz a0 b0 (0 : UInt64)), zn a1, zn a2, zn a3] 34, .box bk6 [zn b0, zn b1, zn b2, zn b3] 34]) [13] 15 ?_
  have wo107 := Hv100.trans (z4 Hv100.heap)
  refine q_s [0,1,2] [] 12 En106 (wo107.pk [0, 1]) fun _ En159 => ?_
  refine q_l 0 3 En159 (wo107.pk [0, 1]) fun _ En161 => ?_
  refine q_s [4,5] [] 9 En161 (wo107.pk [0, 1]) fun _ En163 => ?_
  refine q_l 1 6 En163 (wo107.pk [0, 1]) fun _ En165 => ?_
  refine q_s [7] [] 7 En165 (wo107.pk [0, 1]) fun _ En167 => ?_
  refine J1 (d := some 20) (f := 68) (args := #[zn a1, zn b1, zn (zO a0 b0 (0 : UInt64))]) (v := .tuple #[zn (Zz a1 b1 (zO a0 b0 (0 : UInt64))), zn (zO a1 b1 (zO a0 b0 (0 : UInt64)))]) En167 8 (by kernel_rfl) (Go.Dbr.ext_sub64 Go.Proofs.Tryd.func68 (by kernel_rfl) (by kernel_rfl) (by kernel_rfl) (by kernel_rfl) a1 b1 (zO a0 b0 (0 : UInt64)) (Jy)) (by kernel_rfl) rfl (fun _ => wo107.pk [0, 1]) fun _ En169 => ?_
  refine q_s [9,10,11,12] [] 2 En169 (wo107.pk [0, 1]) fun _ En171 => ?_
  refine q_t 13 ?_
  refine m_s 0 [.box bk1 [zn (Zz a0 b0 (0 : UInt64)), zn (Zz a1 b1 (zO a0 b0 (0 : UInt64))), zn a2, zn a3] 34, .box bk6 [zn b0, zn b1, zn b2, zn b3] 34, .box bk11 (zh (ze 4 0)) 34] En171 wo107 fun _ _ En174 Hv175 => ?_
  refine ⟨q_y, ?_⟩
  refine q_n [14] [] 0 En174 fun _ En177 => ?_
  exact h_e ⟨En177.sb, Hv175.pk [0, 1, 2]⟩
 rintro _ _ ⟨En180, Hv181⟩
 refine zA <| zg <| d_r [2,3,4,5,6,8] [] En180 fun _ En183 => ?_
 refine zg <| z7 <| d_s [2,3,4,5,6,8,9] [] En183 fun _ En185 => ?_
 refine wp_seq <| c_t En185 ?_
 refine wp_skip <| zg <| wp_seq <| wp_block <| d_s [2,3,4,5,6,7,8] [] En185 fun _ En187 => ?_
 refine r_c (fun ac wo => Env ac 27 [(2, pt bk1), (3, pt bk6), (4, pt bk11), (5, .int .u64 0), (6, zn (zO a2 b2 (zO a1 b1 (zO a0 b0 (0 : UInt64))))), (8, .int .i64 2)] ∧ Ev w [] wo [.box bk1 [zn (Zz a0 b0 (0 : UInt64)), zn (Zz a1 b1 (zO a0 b0 (0 : UInt64))), zn (Zz a2 b2 (zO a1 b1 (zO a0 b0 (0 : UInt64)))), zn a3] 34, .box bk6 [zn b0, zn b1, zn b2, zn b3] 34, .box bk11 (zh (ze 4 0)) 34]) ?_ ?_
 ·
  refine h_s (fun wv => Ev w [] wv [.box bk1 [zn (Zz a0 b0 (0 : UInt64)), zn (Zz a1 b1 (zO a0 b0 (0 : UInt64))), zn a2, zn a3] 34, .box bk6 [zn b0, zn b1, zn b2, zn b3] 34]) [13] 15 ?_
  have wo188 := Hv181.trans (z4 Hv181.heap)
  refine q_s [0,1,2] [] 12 En187 (wo188.pk [0, 1]) fun _ En240 => ?_
  refine q_l 0 3 En240 (wo188.pk [0, 1]) fun _ En242 => ?_
  refine q_s [4,5] [] 9 En242 (wo188.pk [0, 1]) fun _ En244 => ?_
  refine q_l 1 6 En244 (wo188.pk [0, 1]) fun _ En246 => ?_
  refine q_s [7] [] 7 En246 (wo188.pk [0, 1]) fun _ En248 => ?_
  refine J1 (d := some 20) (f := 68) (args := #[zn a2, zn b2, zn (zO a1 b1 (zO a0 b0 (0 : UInt64)))]) (v := .tuple #[zn (Zz a2 b2 (zO a1 b1 (zO a0 b0 (0 : UInt64)))), zn (zO a2 b2 (zO a1 b1 (zO a0 b0 (0 : UInt64))))]) En248 8 (by kernel_rfl) (Go.Dbr.ext_sub64 Go.Proofs.Tryd.func68 (by kernel_rfl) (by kernel_rfl) (by kernel_rfl) (by kernel_rfl) a2 b2 (zO a1 b1 (zO a0 b0 (0 : UInt64))) (Jy)) (by kernel_rfl) rfl (fun _ => wo188.pk [0, 1]) fun _ En250 => ?_
  refine q_s [9,10,11,12] [] 2 En250 (wo188.pk [0, 1]) fun _ En252 => ?_
  refine q_t 13 ?_
  refine m_s 0 [.box bk1 [zn (Zz a0 b0 (0 : UInt64)), zn (Zz a1 b1 (zO a0 b0 (0 : UInt64))), zn (Zz a2 b2 (zO a1 b1 (zO a0 b0 (0 : UInt64)))), zn a3] 34, .box bk6 [zn b0, zn b1, zn b2, zn b3] 34, .box bk11 (zh (ze 4 0)) 34] En252 wo188 fun _ _ En255 Hv256 => ?_
  refine ⟨q_y, ?_⟩
  refine q_n [14] [] 0 En255 fun _ En258 => ?_
  exact h_e ⟨En258.sb, Hv256.pk [0, 1, 2]⟩
 rintro _ _ ⟨En261, Hv262⟩
 refine zA <| zg <| d_r [2,3,4,5,6,8] [] En261 fun _ En264 => ?_
 refine zg <| z7 <| d_s [2,3,4,5,6,8,9] [] En264 fun _ En266 => ?_
 refine wp_seq <| c_t En266 ?_
 refine wp_skip <| zg <| wp_seq <| wp_block <| d_s [2,3,4,5,6,7,8] [] En266 fun _ En268 => ?_
 refine r_c (fun ac wo => Env ac 27 [(2, pt bk1), (3, pt bk6), (4, pt bk11), (5, .int .u64 0), (6, zn (zO a3 b3 (zO a2 b2 (zO a1 b1 (zO a0 b0 (0 : UInt64)))))), (8, .int .i64 3)] ∧ Ev w [] wo [.box bk1 [zn (Zz a0 b0 (0 : UInt64)), zn (Zz a1 b1 (zO a0 b0 (0 : UInt64))), zn (Zz a2 b2 (zO a1 b1 (zO a0 b0 (0 : UInt64)))), zn (Zz a3 b3 (zO a2 b2 (zO a1 b1 (zO a0 b0 (0 : UInt64)))))] 34, .box bk6 [zn b0, zn b1, zn b2, zn b3] 34, .box bk11 (zh (ze 4 0)) 34]) ?_ ?_
 ·
  refine h_s (fun wv => Ev w [] wv [.box bk1 [zn (Zz a0 b0 (0 : UInt64)), zn (Zz a1 b1 (zO a0 b0 (0 : UInt64))), zn (Zz a2 b2 (zO a1 b1 (zO a0 b0 (0 : UInt64)))), zn a3] 34, .box bk6 [zn b0, zn b1, zn b2, zn b3] 34]) [13] 15 ?_
  have wo269 := Hv262.trans (z4 Hv262.heap)
  refine q_s [0,1,2] [] 12 En268 (wo269.pk [0, 1]) fun _ En321 => ?_
  refine q_l 0 3 En321 (wo269.pk [0, 1]) fun _ En323 => ?_
  refine q_s [4,5] [] 9 En323 (wo269.pk [0, 1]) fun _ En325 => ?_
  refine q_l 1 6 En325 (wo269.pk [0, 1]) fun _ En327 => ?_
  refine q_s [7] [] 7 En327 (wo269.pk [0, 1]) fun _ En329 => ?_
  refine J1 (d := some 20) (f := 68) (args := #[zn a3, zn b3, zn (zO a2 b2 (zO a1 b1 (zO a0 b0 (0 : UInt64))))]) (v := .tuple #[zn (Zz a3 b3 (zO a2 b2 (zO a1 b1 (zO a0 b0 (0 : UInt64))))), zn (zO a3 b3 (zO a2 b2 (zO a1 b1 (zO a0 b0 (0 : UInt64)))))]) En329 8 (by kernel_rfl) (Go.Dbr.ext_sub64 Go.Proofs.Tryd.func68 (by kernel_rfl) (by kernel_rfl) (by kernel_rfl) (by kernel_rfl) a3 b3 (zO a2 b2 (zO a1 b1 (zO a0 b0 (0 : UInt64)))) (Jy)) (by kernel_rfl) rfl (fun _ => wo269.pk [0, 1]) fun _ En331 => ?_
  refine q_s [9,10,11,12] [] 2 En331 (wo269.pk [0, 1]) fun _ En333 => ?_
  refine q_t 13 ?_
  refine m_s 0 [.box bk1 [zn (Zz a0 b0 (0 : UInt64)), zn (Zz a1 b1 (zO a0 b0 (0 : UInt64))), zn (Zz a2 b2 (zO a1 b1 (zO a0 b0 (0 : UInt64)))), zn (Zz a3 b3 (zO a2 b2 (zO a1 b1 (zO a0 b0 (0 : UInt64)))))] 34, .box bk6 [zn b0, zn b1, zn b2, zn b3] 34, .box bk11 (zh (ze 4 0)) 34] En333 wo269 fun _ _ En336 Hv337 => ?_
  refine ⟨q_y, ?_⟩
  refine q_n [14] [] 0 En336 fun _ En339 => ?_
  exact h_e ⟨En339.sb, Hv337.pk [0, 1, 2]⟩
 rintro _ _ ⟨En342, Hv343⟩
 refine zA <| zg <| d_r [2,3,4,5,6,8] [] En342 fun _ En345 => ?_
 refine zg <| z7 <| d_s [2,3,4,5,6,8,9] [] En345 fun _ En347 => ?_
 refine wp_seq <| c_f En347 ?_
 refine wp_exit <| zI <| zI <| z9 <| zg <| wp_seq <| zm <| f_o <| m_a 0 0 4 [zn (Zz a0 b0 (0 : UInt64)), zn (Zz a1 b1 (zO a0 b0 (0 : UInt64))), zn (Zz a2 b2 (zO a1 b1 (zO a0 b0 (0 : UInt64)))), zn (Zz a3 b3 (zO a2 b2 (zO a1 b1 (zO a0 b0 (0 : UInt64)))))] En347 Hv343 rfl rfl rfl fun _ En349 => ?_
 refine d_k [2,3,4,5,6,8,25,26] [] 2 En349 fun _ En351 => ?_
 refine f_o <| m_g 2 0 4 [zn (Zz a0 b0 (0 : UInt64)), zn (Zz a1 b1 (zO a0 b0 (0 : UInt64))), zn (Zz a2 b2 (zO a1 b1 (zO a0 b0 (0 : UInt64)))), zn (Zz a3 b3 (zO a2 b2 (zO a1 b1 (zO a0 b0 (0 : UInt64)))))] _ [.box bk1 [zn (Zz a0 b0 (0 : UInt64)), zn (Zz a1 b1 (zO a0 b0 (0 : UInt64))), zn (Zz a2 b2 (zO a1 b1 (zO a0 b0 (0 : UInt64)))), zn (Zz a3 b3 (zO a2 b2 (zO a1 b1 (zO a0 b0 (0 : UInt64)))))] 34, .box bk6 [zn b0, zn b1, zn b2, zn b3] 34, .box bk11 [zn (Zz a0 b0 (0 : UInt64)), zn (Zz a1 b1 (zO a0 b0 (0 : UInt64))), zn (Zz a2 b2 (zO a1 b1 (zO a0 b0 (0 : UInt64)))), zn (Zz a3 b3 (zO a2 b2 (zO a1 b1 (zO a0 b0 (0 : UInt64)))))] 34] En351 Hv343 rfl rfl (by rw [(zc (zf))]; first | decide | (simp; done)) (one_all (by kernel_rfl)) (zs (zc (zf))) rfl fun _ _ En354 Hv355 => ?_
 refine d_e [2,3,4,5,6,8] [] En354 fun _ En357 => ?_
 refine zg <| wp_ret <| d_cell_tmp (v := .agg #[zn (Zz a0 b0 (0 : UInt64)), zn (Zz a1 b1 (zO a0 b0 (0 : UInt64))), zn (Zz a2 b2 (zO a1 b1 (zO a0 b0 (0 : UInt64)))), zn (Zz a3 b3 (zO a2 b2 (zO a1 b1 (zO a0 b0 (0 : UInt64)))))]) (x := zn (zO a3 b3 (zO a2 b2 (zO a1 b1 (zO a0 b0 (0 : UInt64)))))) (t := 4) (T := 34) (ad := ⟨bk11, 0, none⟩) (u := 5) En357 (by kernel_rfl) (by kernel_rfl) (zM (t := 34) (k := 2) (off := 0) (m := 4) (xs := [zn (Zz a0 b0 (0 : UInt64)), zn (Zz a1 b1 (zO a0 b0 (0 : UInt64))), zn (Zz a2 b2 (zO a1 b1 (zO a0 b0 (0 : UInt64)))), zn (Zz a3 b3 (zO a2 b2 (zO a1 b1 (zO a0 b0 (0 : UInt64)))))]) Hv355 rfl rfl rfl (by kernel_rfl) (by kernel_rfl)) (by kernel_rfl) ?_
 exact ⟨rfl, Hv355.pk []⟩

theorem minus_go (w : World) (a b : List UInt64) (ha : za a = 4) (hb : za b = 4) : Calls Tryd.prog 51 #[.agg (zi (zh a)), .agg (zi (zh b))] w fun e w' => e = .returned (.tuple #[.agg (zi (zh (nd (nv a + W256 - nv b)))), zn (u1 (nv a < nv b))]) ∧ Ev w [] w' [] := by
  rw [← min_nd ha hb, ← sb_nd ha hb]
  match a, ha, b, hb with
  | [a0, a1, a2, a3], _, [b0, b1, b2, b3], _ => exact minus4 w a0 a1 a2 a3 b0 b1 b2 b3

theorem plus4 (w : World) (a0 a1 a2 a3 b0 b1 b2 b3 : UInt64) : Calls Tryd.prog 49 #[.agg #[zn a0, zn a1, zn a2, zn a3], .agg #[zn b0, zn b1, zn b2, zn b3]] w fun e w' => e = .returned (.tuple #[.agg (zi (zh (plusL [a0, a1, a2, a3] [b0, b1, b2, b3]))), zn (adF [a0, a1, a2, a3] [b0, b1, b2, b3] 4)]) ∧ Ev w [] w' [] := by
 refine d_0 [(0, .agg #[zn a0, zn a1, zn a2, zn a3]), (1, .agg #[zn b0, zn b1, zn b2, zn b3])] 27 Go.Proofs.Tryd.func49 Go.Proofs.Tryd.ntmps49 (Heap.nil _) fun act0 En0 Hv0 => ?_
 refine wp_seq <| zm <| f_o <| m_m 34 [zn a0, zn a1, zn a2, zn a3] En0 Hv0 fun _ _ bk1 En4 Hv5 => ?_
 refine f_o <| m_m 34 [zn b0, zn b1, zn b2, zn b3] En4 Hv5 fun _ _ bk6 En9 Hv10 => ?_
 refine f_o <| m_z 34 (zh (ze 4 0)) En9 Hv10 fun _ _ bk11 En14 Hv15 => ?_
 refine d_e [2,3,4,5] [] En14 fun _ En17 => ?_
 refine zg <| d_s [2,3,4,5,6] [] En17 fun _ En19 => ?_
 refine wp_seq <| d_s [2,3,4,5,6,8] [] En19 fun _ En21 => ?_
 refine wp_block <| YB ?_
 refine z7 <| d_s [2,3,4,5,6,8,9] [] En21 fun _ En23 => ?_
 refine wp_seq <| c_t En23 ?_
 refine wp_skip <| zg <| wp_seq <| wp_block <| d_s [2,3,4,5,6,7,8] [] En23 fun _ En25 => ?_
 refine r_c (fun ac wo => Env ac 27 [(2, pt bk1), (3, pt bk6), (4, pt bk11), (5, .int .u64 0), (6, zn (zH a0 b0 (0 : UInt64))), (8, .int .i64 0)] ∧ Ev w [] wo [.box bk1 [zn (zL a0 b0 (0 : UInt64)), zn a1, zn a2, zn a3] 34, .box bk6 [zn b0, zn b1, zn b2, zn b3] 34, .box bk11 (zh (ze 4 0)) 34]) ?_ ?_
 ·
  refine h_s (fun wv => Ev w [] wv [.box bk1 [zn a0, zn a1, zn a2, zn a3] 34, .box bk6 [zn b0, zn b1, zn b2, zn b3] 34]) [13] 15 ?_
  have wo26 := Hv15.trans (z4 Hv15.heap)
  refine q_s [0,1,2] [] 12 En25 (wo26.pk [0, 1]) fun _ En78 => ?_
  refine q_l 0 3 En78 (wo26.pk [0, 1]) fun _ En80 => ?_
  refine q_s [4,5] [] 9 En80 (wo26.pk [0, 1]) fun _ En82 => ?_
  refine q_l 1 6 En82 (wo26.pk [0, 1]) fun _ En84 => ?_
  refine q_s [7] [] 7 En84 (wo26.pk [0, 1]) fun _ En86 => ?_
  refine J1 (d := some 20) (f := 72) (args := #[zn a0, zn b0, zn (0 : UInt64)]) (v := .tuple #[zn (zL a0 b0 (0 : UInt64)), zn (zH a0 b0 (0 : UInt64))]) En86 8 (by kernel_rfl) (Go.Dbr.ext_add64 Go.Proofs.Tryd.func72 (by kernel_rfl) (by kernel_rfl) (by kernel_rfl) (by kernel_rfl) a0 b0 (0 : UInt64) (by decide)) (by kernel_rfl) rfl (fun _ => wo26.pk [0, 1]) fun _ En88 => ?_
  refine q_s [9,10,11,12] [] 2 En88 (wo26.pk [0, 1]) fun _ En90 => ?_
  refine q_t 13 ?_
  refine m_s 0 [.box bk1 [zn (zL a0 b0 (0 : UInt64)), zn a1, zn a2, zn a3] 34, .box bk6 [zn b0, zn b1, zn b2, zn b3] 34, .box bk11 (zh (ze 4 0)) 34] En90 wo26 fun _ _ En93 Hv94 => ?_
  refine ⟨q_y, ?_⟩
  refine q_n [14] [] 0 En93 fun _ En96 => ?_
  exact h_e ⟨En96.sb, Hv94.pk [0, 1, 2]⟩
 rintro _ _ ⟨En99, Hv100⟩
 refine zA <| zg <| d_r [2,3,4,5,6,8] [] En99 fun _ En102 => ?_
 refine zg <| z7 <| d_s [2,3,4,5,6,8,9] [] En102 fun _ En104 => ?_
 refine wp_seq <| c_t En104 ?_
 refine wp_skip <| zg <| wp_seq <| wp_block <| d_s [2,3,4,5,6,7,8] [] En104 fun _ En106 => ?_
 refine r_c (fun ac wo => Env ac 27 [(2, pt bk1), (3, pt bk6), (4, pt bk11), (5, .int .u64 0), (6, zn (zH a1 b1 (zH a0 b0 (0 : UInt64)))), (8, .int .i64 1)] ∧ Ev w [] wo [.box bk1 [zn (zL a0 b0 (0 : UInt64)), zn (zL a1 b1 (zH a0 b0 (0 : UInt64))), zn a2, zn a3] 34, .box bk6 [zn b0, zn b1, zn b2, zn b3] 34, .box bk11 (zh (ze 4 0)) 34]) ?_ ?_
 ·
  refine h_s (fun wv => Ev w [] wv [.box bk1 [zn (zL a0 b0 (0 : UInt64)), zn a1, zn a2, zn a3] 34, .box bk6 [zn b0, zn b1, zn b2, zn b3] 34]) [13] 15 ?_
  have wo107 := Hv100.trans (z4 Hv100.heap)
  refine q_s [0,1,2] [] 12 En106 (wo107.pk [0, 1]) fun _ En159 => ?_
  refine q_l 0 3 En159 (wo107.pk [0, 1]) fun _ En161 => ?_
  refine q_s [4,5] [] 9 En161 (wo107.pk [0, 1]) fun _ En163 => ?_
  refine q_l 1 6 En163 (wo107.pk [0, 1]) fun _ En165 => ?_
  refine q_s [7] [] 7 En165 (wo107.pk [0, 1]) fun _ En167 => ?_
  refine J1 (d := some 20) (f := 72) (args := #[zn a1, zn b1, zn (zH a0 b0 (0 : UInt64))]) (v := .tuple #[zn (zL a1 b1 (zH a0 b0 (0 : UInt64))), zn (zH a1 b1 (zH a0 b0 (0 : UInt64)))]) En167 8 (by kernel_rfl) (Go.Dbr.ext_add64 Go.Proofs.Tryd.func72 (by kernel_rfl) (by kernel_rfl) (by kernel_rfl) (by kernel_rfl) a1 b1 (zH a0 b0 (0 : UInt64)) (Yp (by decide))) (by kernel_rfl) rfl (fun _ => wo107.pk [0, 1]) fun _ En169 => ?_
  refine q_s [9,10,11,12] [] 2 En169 (wo107.pk [0, 1]) fun _ En171 => ?_
  refine q_t 13 ?_
  refine m_s 0 [.box bk1 [zn (zL a0 b0 (0 : UInt64)), zn (zL a1 b1 (zH a0 b0 (0 : UInt64))), zn a2, zn a3] 34, .box bk6 [zn b0, zn b1, zn b2, zn b3] 34, .box bk11 (zh (ze 4 0)) 34] En171 wo107 fun _ _ En174 Hv175 => ?_
  refine ⟨q_y, ?_⟩
  refine q_n [14] [] 0 En174 fun _ En177 => ?_
  exact h_e ⟨En177.sb, Hv175.pk [0, 1, 2]⟩
 rintro _ _ ⟨En180, Hv181⟩
 refine zA <| zg <| d_r [2,3,4,5,6,8] [] En180 fun _ En183 => ?_
 refine zg <| z7 <| d_s [2,3,4,5,6,8,9] [] En183 fun _ En185 => ?_
 refine wp_seq <| c_t En185 ?_
 refine wp_skip <| zg <| wp_seq <| wp_block <| d_s [2,3,4,5,6,7,8] [] En185 fun _ En187 => ?_
 refine r_c (fun ac wo => Env ac 27 [(2, pt bk1), (3, pt bk6), (4, pt bk11), (5, .int .u64 0), (6, zn (zH a2 b2 (zH a1 b1 (zH a0 b0 (0 : UInt64))))), (8, .int .i64 2)] ∧ Ev w [] wo [.box bk1 [zn (zL a0 b0 (0 : UInt64)), zn (zL a1 b1 (zH a0 b0 (0 : UInt64))), zn (zL a2 b2 (zH a1 b1 (zH a0 b0 (0 : UInt64)))), zn a3] 34, .box bk6 [zn b0, zn b1, zn b2, zn b3] 34, .box bk11 (zh (ze 4 0)) 34]) ?_ ?_
 ·
  refine h_s (fun wv => Ev w [] wv [.box bk1 [zn (zL a0 b0 (0 : UInt64)), zn (zL a1 b1 (zH a0 b0 (0 : UInt64))), zn a2, zn a3] 34, .box bk6 [zn b0, zn b1, zn b2, zn b3] 34]) [13] 15 ?_
  have wo188 := Hv181.trans (z4 Hv181.heap)
  refine q_s [0,1,2] [] 12 En187 (wo188.pk [0, 1]) fun _ En240 => ?_
  refine q_l 0 3 En240 (wo188.pk [0, 1]) fun _ En242 => ?_
  refine q_s [4,5] [] 9 En242 (wo188.pk [0, 1]) fun _ En244 => ?_
  refine q_l 1 6 En244 (wo188.pk [0, 1]) fun _ En246 => ?_
  refine q_s [7] [] 7 En246 (wo188.pk [0, 1]) fun _ En248 => ?_
  refine J1 (d := some 20) (f := 72) (args := #[zn a2, zn b2, zn (zH a1 b1 (zH a0 b0 (0 : UInt64)))]) (v := .tuple #[zn (zL a2 b2 (zH a1 b1 (zH a0 b0 (0 : UInt64)))), zn (zH a2 b2 (zH a1 b1 (zH a0 b0 (0 : UInt64))))]) En248 8 (by kernel_rfl) (Go.Dbr.ext_add64 Go.Proofs.Tryd.func72 (by kernel_rfl) (by kernel_rfl) (by kernel_rfl) (by kernel_rfl) a2 b2 (zH a1 b1 (zH a0 b0 (0 : UInt64))) (Yp (Yp (by decide)))) (by kernel_rfl) rfl (fun _ => wo188.pk [0, 1]) fun _ En250 => ?_
  refine q_s [9,10,11,12] [] 2 En250 (wo188.pk [0, 1]) fun _ En252 => ?_
  refine q_t 13 ?_
  refine m_s 0 [.box bk1 [zn (zL a0 b0 (0 : UInt64)), zn (zL a1 b1 (zH a0 b0 (0 : UInt64))), zn (zL a2 b2 (zH a1 b1 (zH a0 b0 (0 : UInt64)))), zn a3] 34, .box bk6 [zn b0, zn b1, zn b2, zn b3] 34, .box bk11 (zh (ze 4 0)) 34] En252 wo188 fun _ _ En255 Hv256 => ?_
  refine ⟨q_y, ?_⟩
  refine q_n [14] [] 0 En255 fun _ En258 => ?_
  exact h_e ⟨En258.sb, Hv256.pk [0, 1, 2]⟩
 rintro _ _ ⟨En261, Hv262⟩
 refine zA <| zg <| d_r [2,3,4,5,6,8] [] En261 fun _ En264 => ?_
 refine zg <| z7 <| d_s [2,3,4,5,6,8,9] [] En264 fun _ En266 => ?_
 refine wp_seq <| c_t En266 ?_
 refine wp_skip <| zg <| wp_seq <| wp_block <| d_s [2,3,4,5,6,7,8] [] En266 fun _ En268 => ?_
 refine r_c (fun ac wo => Env ac 27 [(2, pt bk1), (3, pt bk6), (4, pt bk11), (5, .int .u64 0), (6, zn (zH a3 b3 (zH a2 b2 (zH a1 b1 (zH a0 b0 (0 : UInt64)))))), (8, .int .i64 3)] ∧ Ev w [] wo [.box bk1 [zn (zL a0 b0 (0 : UInt64)), zn (zL a1 b1 (zH a0 b0 (0 : UInt64))), zn (zL a2 b2 (zH a1 b1 (zH a0 b0 (0 : UInt64)))), zn (zL a3 b3 (zH a2 b2 (zH a1 b1 (zH a0 b0 (0 : UInt64)))))] 34, .box bk6 [zn b0, zn b1, zn b2, zn b3] 34, .box bk11 (zh (ze 4 0)) 34]) ?_ ?_
 ·
  refine h_s (fun wv => Ev w [] wv [.box bk1 [zn (zL a0 b0 (0 : UInt64)), zn (zL a1 b1 (zH a0 b0 (0 : UInt64))), zn (zL a2 b2 (zH a1 b1 (zH a0 b0 (0 : UInt64)))), zn a3] 34, .box bk6 [zn b0, zn b1, zn b2, zn b3] 34]) [13] 15 ?_
  have wo269 := Hv262.trans (z4 Hv262.heap)
  refine q_s [0,1,2] [] 12 En268 (wo269.pk [0, 1]) fun _ En321 => ?_
  refine q_l 0 3 En321 (wo269.pk [0, 1]) fun _ En323 => ?_
  refine q_s [4,5] [] 9 En323 (wo269.pk [0, 1]) fun _ En325 => ?_
  refine q_l 1 6 En325 (wo269.pk [0, 1]) fun _ En327 => ?_
  refine q_s [7] [] 7 En327 (wo269.pk [0, 1]) fun _ En329 => ?_
  refine J1 (d := some 20) (f := 72) (args := #[zn a3, zn b3, zn (zH a2 b2 (zH a1 b1 (zH a0 b0 (0 : UInt64))))]) (v := .tuple #[zn (zL a3 b3 (zH a2 b2 (zH a1 b1 (zH a0 b0 (0 : UInt64))))), zn (zH a3 b3 (zH a2 b2 (zH a1 b1 (zH a0 b0 (0 : UInt64)))))]) En329 8 (by kernel_rfl) (Go.Dbr.ext_add64 Go.Proofs.Tryd.func72 (by kernel_rfl) (by kernel_rfl) (by kernel_rfl) (by kernel_rfl) a3 b3 (zH a2 b2 (zH a1 b1 (zH a0 b0 (0 : UInt64)))) (Yp (Yp (Yp (by decide))))) (by kernel_rfl) rfl (fun _ => wo269.pk [0, 1]) fun _ En331 => ?_
  refine q_s [9,10,11,12] [] 2 En331 (wo269.pk [0, 1]) fun _ En333 => ?_
  refine q_t 13 ?_
  refine m_s 0 [.box bk1 [zn (zL a0 b0 (0 : UInt64)), zn (zL a1 b1 (zH a0 b0 (0 : UInt64))), zn (zL a2 b2 (zH a1 b1 (zH a0 b0 (0 : UInt64)))), zn (zL a3 b3 (zH a2 b2 (zH a1 b1 (zH a0 b0 (0 : UInt64)))))] 34, .box bk6 [zn b0, zn b1, zn b2, zn b3] 34, .box bk11 (zh (ze 4 0)) 34] En333 wo269 fun _ _ En336 Hv337 => ?_
  refine ⟨q_y, ?_⟩
  refine q_n [14] [] 0 En336 fun _ En339 => ?_
  exact h_e ⟨En339.sb, Hv337.pk [0, 1, 2]⟩
 rintro _ _ ⟨En342, Hv343⟩
 refine zA <| zg <| d_r [2,3,4,5,6,8] [] En342 fun _ En345 => ?_
 refine zg <| z7 <| d_s [2,3,4,5,6,8,9] [] En345 fun _ En347 => ?_
 refine wp_seq <| c_f En347 ?_
 refine wp_exit <| zI <| zI <| z9 <| zg <| wp_seq <| zm <| f_o <| m_a 0 0 4 [zn (zL a0 b0 (0 : UInt64)), zn (zL a1 b1 (zH a0 b0 (0 : UInt64))), zn (zL a2 b2 (zH a1 b1 (zH a0 b0 (0 : UInt64)))), zn (zL a3 b3 (zH a2 b2 (zH a1 b1 (zH a0 b0 (0 : UInt64)))))] En347 Hv343 rfl rfl rfl fun _ En349 => ?_
 refine d_k [2,3,4,5,6,8,25,26] [] 2 En349 fun _ En351 => ?_
 refine f_o <| m_g 2 0 4 [zn (zL a0 b0 (0 : UInt64)), zn (zL a1 b1 (zH a0 b0 (0 : UInt64))), zn (zL a2 b2 (zH a1 b1 (zH a0 b0 (0 : UInt64)))), zn (zL a3 b3 (zH a2 b2 (zH a1 b1 (zH a0 b0 (0 : UInt64)))))] _ [.box bk1 [zn (zL a0 b0 (0 : UInt64)), zn (zL a1 b1 (zH a0 b0 (0 : UInt64))), zn (zL a2 b2 (zH a1 b1 (zH a0 b0 (0 : UInt64)))), zn (zL a3 b3 (zH a2 b2 (zH a1 b1 (zH a0 b0 (0 : UInt64)))))] 34, .box bk6 [zn b0, zn b1, zn b2, zn b3] 34, .box bk11 [zn (zL a0 b0 (0 : UInt64)), zn (zL a1 b1 (zH a0 b0 (0 : UInt64))), zn (zL a2 b2 (zH a1 b1 (zH a0 b0 (0 : UInt64)))), zn (zL a3 b3 (zH a2 b2 (zH a1 b1 (zH a0 b0 (0 : UInt64)))))] 34] En351 Hv343 rfl rfl (by rw [(zc (zf))]; first | decide | (simp; done)) (one_all (by kernel_rfl)) (zs (zc (zf))) rfl fun _ _ En354 Hv355 => ?_
 refine d_e [2,3,4,5,6,8] [] En354 fun _ En357 => ?_
 refine zg <| wp_ret <| d_cell_tmp (v := .agg #[zn (zL a0 b0 (0 : UInt64)), zn (zL a1 b1 (zH a0 b0 (0 : UInt64))), zn (zL a2 b2 (zH a1 b1 (zH a0 b0 (0 : UInt64)))), zn (zL a3 b3 (zH a2 b2 (zH a1 b1 (zH a0 b0 (0 : UInt64)))))]) (x := zn (zH a3 b3 (zH a2 b2 (zH a1 b1 (zH a0 b0 (0 : UInt64)))))) (t := 4) (T := 34) (ad := ⟨bk11, 0, none⟩) (u := 5) En357 (by kernel_rfl) (by kernel_rfl) (zM (t := 34) (k := 2) (off := 0) (m := 4) (xs := [zn (zL a0 b0 (0 : UInt64)), zn (zL a1 b1 (zH a0 b0 (0 : UInt64))), zn (zL a2 b2 (zH a1 b1 (zH a0 b0 (0 : UInt64)))), zn (zL a3 b3 (zH a2 b2 (zH a1 b1 (zH a0 b0 (0 : UInt64)))))]) Hv355 rfl rfl rfl (by kernel_rfl) (by kernel_rfl)) (by kernel_rfl) ?_
 exact ⟨rfl, Hv355.pk []⟩

theorem plus_go (w : World) (a b : List UInt64) (ha : za a = 4) (hb : za b = 4) : Calls Tryd.prog 49 #[.agg (zi (zh a)), .agg (zi (zh b))] w fun e w' => e = .returned (.tuple #[.agg (zi (zh (nd (nv a + nv b)))), zn (u1 (W256 ≤ nv a + nv b))]) ∧ Ev w [] w' [] := by
  rw [← plus_nd ha hb, ← ad_nd ha hb]
  match a, ha, b, hb with
  | [a0, a1, a2, a3], _, [b0, b1, b2, b3], _ => exact plus4 w a0 a1 a2 a3 b0 b1 b2 b3

end Go.Proofs.YtlnogkmnklfjlaaDoor

/- Layer 4: what a number leaves; products. -/

namespace Go.Proofs.YtlnogkmnklfjlaaDoor
open Go.Dbr
set_option maxRecDepth 100000
set_option maxHeartbeats 2000000
set_option linter.unusedVariables false
set_option linter.unusedSimpArgs false

theorem sub_nd {x m : List UInt64} (hx : x.length = 4) (h : nv m ≤ nv x) : nv (nd (nv x + W256 - nv m)) = nv x - nv m := by
  have h1 := nv_lt hx
  rw [nd_val]
  simp only [W256] at *
  omega
theorem mac_val {x y t c : UInt64} : (zL (zL (x * y) t 0) c 0).toNat + 18446744073709551616 * (QX x y + zH (x * y) t 0 + zH (zL (x * y) t 0) c 0).toNat = x.toNat * y.toNat + t.toNat + c.toNat := by
  have e1 := mul_val (x := x) (y := y)
  have e2 := JG (x := x * y) (y := t) (c := 0)
  have e3 := JG (x := zL (x * y) t 0) (y := c) (c := 0)
  have b := mul_lt x y
  have h1 := lt64 t
  have h2 := lt64 c
  have z : (0 : UInt64).toNat = 0 := rfl
  rw [ZH, ZH]
  generalize x.toNat * y.toNat = p at *
  omega
/-- the number of the lowest digits -/
def dvk (l : List UInt64) : Nat → Nat
  | 0 => 0
  | k + 1 => dvk l k + (zb l k 0).toNat * 18446744073709551616 ^ k
theorem dvk_cons (x : UInt64) (r : List UInt64) : ∀ k, dvk (x :: r) (k + 1) = x.toNat + 18446744073709551616 * dvk r k
  | 0 => by simp [dvk]
  | k + 1 => by
    rw [dvk, dvk_cons x r k, dvk, List.getD_cons_succ, Zl, Qz, Z8, ← Ze, z5 _ 18446744073709551616]
theorem dvk_all : ∀ (l : List UInt64), dvk l l.length = dv 18446744073709551616 l
  | [] => rfl
  | x :: r => by rw [Zu, dvk_cons, dvk_all r]; rfl
theorem dvk4 {l : List UInt64} (h : l.length = 4) : dvk l 4 = nv l := by rw [← h]; exact dvk_all l
theorem set_step {u : List UInt64} {j : Nat} {x y c : UInt64} {P : Nat} (hj : j < u.length) (hv : dv 18446744073709551616 u + c.toNat * 18446744073709551616 ^ j = P) :
    dv 18446744073709551616 (zy u j (zL (zL (x * y) (zb u j 0) 0) c 0)) + (QX x y + zH (x * y) (zb u j 0) 0 + zH (zL (x * y) (zb u j 0) 0) c 0).toNat * 18446744073709551616 ^ (j + 1) = P + x.toNat * y.toNat * 18446744073709551616 ^ j := by
  have e := dv_set 18446744073709551616 (zL (zL (x * y) (zb u j 0) 0) c 0) u j hj
  have m := mac_val (x := x) (y := y) (t := zb u j 0) (c := c)
  rw [Zl, z5 (18446744073709551616 ^ j), ← Ze]
  have m2 := congrArg (· * 18446744073709551616 ^ j) m
  simp only [Zm] at m2
  rw [z5 18446744073709551616 (zB _)] at m2
  generalize 18446744073709551616 ^ j = q at *
  omega
theorem whole_in {a b u : List UInt64} {i k : Nat} {c : UInt64} (hlu : u.length = 8) (hj : i + k < 8)
    (hv : dv 18446744073709551616 u + c.toNat * 18446744073709551616 ^ (i + k) = nv a * dvk b i + dvk a k * (zb b i 0).toNat * 18446744073709551616 ^ i) :
    dv 18446744073709551616 (zy u (i + k) (zL (zL (zb a k 0 * zb b i 0) (zb u (i + k) 0) 0) c 0)) + (QX (zb a k 0) (zb b i 0) + zH (zb a k 0 * zb b i 0) (zb u (i + k) 0) 0 + zH (zL (zb a k 0 * zb b i 0) (zb u (i + k) 0) 0) c 0).toNat * 18446744073709551616 ^ (i + (k + 1)) = nv a * dvk b i + dvk a (k + 1) * (zb b i 0).toNat * 18446744073709551616 ^ i := by
  rw [← Z8, set_step (by omega) hv, dvk, Zm, Zm, Z8]
  congr 2
  rw [Nat.pow_add]
  ac_rfl
theorem whole_out {a b u : List UInt64} {i : Nat} {c : UInt64} (ha : a.length = 4) (hlu : u.length = 8) (hi : i < 4) (hz : zb u (i + 4) 0 = 0)
    (hv : dv 18446744073709551616 u + c.toNat * 18446744073709551616 ^ (i + 4) = nv a * dvk b i + dvk a 4 * (zb b i 0).toNat * 18446744073709551616 ^ i) :
    dv 18446744073709551616 (zy u (i + 4) c) = nv a * dvk b (i + 1) := by
  have e := dv_set 18446744073709551616 c u (i + 4) (by omega)
  rw [hz, show (0 : UInt64).toNat = 0 from rfl, ZN, ZM, hv, dvk4 ha] at e
  rw [e, dvk, Qz, Ze]
theorem getD_set_ne {u : List UInt64} {i j : Nat} (x : UInt64) (h : i ≠ j) : zb (zy u i x) j 0 = zb u j 0 := by
  simp only [Zf]
  rw [List.getElem?_set_ne h]
theorem zeros8 (j : Nat) : zb (ze 8 (0 : UInt64)) j 0 = 0 := by
  simp only [Zf, Qj]
  split <;> rfl

theorem right_go (w : World) (a m : List UInt64) (ha : za a = 4) (hm : za m = 4) (h0 : 0 < nv m) : Calls Tryd.prog 50 #[.agg (zi (zh a)), .agg (zi (zh m))] w fun e w' => e = .returned (.agg (zi (zh (nd (nv a % nv m))))) ∧ Ev w [] w' [] := by
 refine d_0 [(0, .agg (zi (zh a))), (1, .agg (zi (zh m)))] 14 Go.Proofs.Tryd.func50 Go.Proofs.Tryd.ntmps50 (Heap.nil _) fun act0 En0 Hv0 => ?_
 refine wp_seq <| zm <| f_o <| m_m 34 (zh a) En0 Hv0 fun _ _ bk1 En4 Hv5 => ?_
 refine f_o <| m_m 34 (zh m) En4 Hv5 fun _ _ bk6 En9 Hv10 => ?_
 refine f_o <| m_z 34 (zh (ze 4 0)) En9 Hv10 fun _ _ bk11 En14 Hv15 => ?_
 refine f_e <| zg <| wp_seq <| wp_block <| Qh (fun ms16 ac wo => ∃ (x : List UInt64), ms16 = (nv x : Nat) ∧ Env ac 14 [(2, pt bk1), (3, pt bk6), (4, pt bk11)] ∧ Ev w [] wo [.box bk1 (zh x) 34, .box bk6 (zh m) 34, .box bk11 (zh (ze 4 0)) 34] ∧ (za x = 4) ∧ (nv x % nv m = nv a % nv m)) ⟨_, a, rfl, En14.sb, Hv15.pk [0, 1, 2], ha, rfl⟩ ?_
 rintro mm22 _ _ ⟨x, rfl, En20, Hv21, hx, hxm⟩
 refine wp_seq <| wp_seq <| zm <| f_o <| c_l [0,1] (M := [.box bk1 (zh x) 34, .box bk6 (zh m) 34]) En20 Hv21 (fun hM23 => less_go _ bk1 bk6 x m hx hm hM23) ?_
 rintro _ _ ⟨rfl, he25⟩
 refine ⟨_, _, [.box bk1 (zh x) 34, .box bk6 (zh m) 34, .box bk11 (zh (ze 4 0)) 34], rfl, he25, by kernel_rfl, fun _ En28 Hv29 => ?_⟩
 refine d_e [2,3,4,6] [] En28 fun _ En31 => ?_
 refine zg <| cond_at En31 (t := !(decide (nv x < nv m))) (by kernel_rfl) (fun hc32 => ?_) (fun hc32 => ?_)
 ·
  replace hc32 : ¬ (nv x < nv m) := by simpa using hc32
  refine wp_skip <| zg <| wp_block <| zm <| f_o <| m_a 0 0 4 (zh x) En31 Hv29 rfl (zq (zc hx)) (zc hx) fun _ En34 => ?_
  refine f_o <| m_a 1 0 4 (zh m) En34 Hv29 rfl (zq (zc hm)) (zc hm) fun _ En36 => ?_
  refine f_o <| c_p En36 Hv29 (minus_go _ x m hx hm) fun _ _ En42 Hv43 => ?_
  refine d_k [2,3,4,11] [] 6 En42 fun _ En45 => ?_
  refine f_o <| m_g 0 0 4 (zh (nd (nv x + W256 - nv m))) _ [.box bk1 (zh (nd (nv x + W256 - nv m))) 34, .box bk6 (zh m) 34, .box bk11 (zh (ze 4 0)) 34] En45 Hv43 rfl (zc (nds_len _ _)) (by rw [(zc hx)]; first | decide | (simp; done)) (zv _) (zs (zc hx)) rfl fun _ _ En48 Hv49 => ?_
  refine f_e <| zA <| zg <| ⟨_, ⟨(nd (nv x + W256 - nv m)), rfl, En48.sb, Hv49.pk [0, 1, 2], nds_len _ _, by rw [sub_nd hx (by omega), ← hxm]; exact (Nat.mod_eq_sub_mod (by omega)).symm⟩, ?_⟩
  rw [sub_nd hx (by omega)]; omega
 replace hc32 : nv x < nv m := by simpa using hc32
 refine wp_exit <| zI <| zI <| z9 <| zg <| wp_seq <| zm <| f_o <| m_a 0 0 4 (zh x) En31 Hv29 rfl (zq (zc hx)) (zc hx) fun _ En51 => ?_
 refine f_o <| m_g 2 0 4 (zh x) _ [.box bk1 (zh x) 34, .box bk6 (zh m) 34, .box bk11 (zh x) 34] En51 Hv29 rfl (zc hx) (by rw [(zc (zf))]; first | decide | (simp; done)) (zv _) (zs (zc (zf))) rfl fun _ _ En54 Hv55 => ?_
 refine f_e <| zg <| wp_ret <| Zj (v := .agg (zi (zh x))) (t := 4) (T := 34) (ad := ⟨bk11, 0, none⟩) En54 (by kernel_rfl) (by kernel_rfl) (zM (t := 34) (k := 2) (off := 0) (m := 4) (xs := zh x) Hv55 rfl (zq (zc hx)) (zc hx) (by kernel_rfl) (by kernel_rfl)) ?_
 have hxe : x = nd (nv a % nv m) := nd_of hx (by rw [← hxm, zK (by omega)])
 subst hxe
 exact ⟨rfl, Hv55.pk []⟩

theorem mul_go (w : World) (x y : UInt64) : Calls Tryd.prog 74 #[zn x, zn y] w fun e w' => e = .returned (.tuple #[zn (QX x y), zn (x * y)]) ∧ Ev w [] w' [] := by
 refine d_0 [(0, zn x), (1, zn y)] 51 Go.Proofs.Tryd.func74 Go.Proofs.Tryd.ntmps74 (Heap.nil _) fun act0 En0 Hv0 => ?_
 refine d_s [0,1,4,5] [] En0 fun _ En2 => ?_
 refine d_s [0,1,4,5,6] [(1, g_i .u64 (Go.Dbr.u64_and (x := x) (y := (4294967295 : UInt64)) rfl rfl))] En2 fun _ En4 => ?_
 refine d_s [0,1,4,5,6,7] [(1, g_i .u64 (Go.Dbr.u64_shr (x := x) (n := 32) rfl (by decide)))] En4 fun _ En6 => ?_
 refine d_s [0,1,4,5,6,7,8] [(1, g_i .u64 (Go.Dbr.u64_and (x := y) (y := (4294967295 : UInt64)) rfl rfl))] En6 fun _ En8 => ?_
 refine d_s [0,1,4,5,6,7,8,9] [(1, g_i .u64 (Go.Dbr.u64_shr (x := y) (n := 32) rfl (by decide)))] En8 fun _ En10 => ?_
 refine d_s [0,1,4,5,6,7,8,9,10] [(2, g_i .u64 (Go.Dbr.u64_mul (x := x &&& (4294967295 : UInt64)) (y := y &&& (4294967295 : UInt64)) rfl rfl))] En10 fun _ En12 => ?_
 refine d_s [0,1,4,5,6,7,8,9,11] [(2, g_i .u64 (Go.Dbr.u64_mul (x := x >>> zd 32) (y := y &&& (4294967295 : UInt64)) rfl rfl)), (4, g_i .u64 (Go.Dbr.u64_shr (x := (x &&& (4294967295 : UInt64)) * (y &&& (4294967295 : UInt64))) (n := 32) rfl (by decide))), (5, g_i .u64 (Go.Dbr.u64_add (x := (x >>> zd 32) * (y &&& (4294967295 : UInt64))) (y := ((x &&& (4294967295 : UInt64)) * (y &&& (4294967295 : UInt64))) >>> zd 32) rfl rfl))] En12 fun _ En14 => ?_
 refine d_s [0,1,4,5,6,7,8,9,11,12] [(1, g_i .u64 (Go.Dbr.u64_and (x := ((x >>> zd 32) * (y &&& (4294967295 : UInt64))) + (((x &&& (4294967295 : UInt64)) * (y &&& (4294967295 : UInt64))) >>> zd 32)) (y := (4294967295 : UInt64)) rfl rfl))] En14 fun _ En16 => ?_
 refine d_s [0,1,4,5,6,7,8,9,11,12,13] [(1, g_i .u64 (Go.Dbr.u64_shr (x := ((x >>> zd 32) * (y &&& (4294967295 : UInt64))) + (((x &&& (4294967295 : UInt64)) * (y &&& (4294967295 : UInt64))) >>> zd 32)) (n := 32) rfl (by decide)))] En16 fun _ En18 => ?_
 refine d_s [0,1,4,5,6,7,8,9,11,12,13] [(3, g_i .u64 (Go.Dbr.u64_mul (x := x &&& (4294967295 : UInt64)) (y := y >>> zd 32) rfl rfl)), (4, g_i .u64 (Go.Dbr.u64_add (x := (((x >>> zd 32) * (y &&& (4294967295 : UInt64))) + (((x &&& (4294967295 : UInt64)) * (y &&& (4294967295 : UInt64))) >>> zd 32)) &&& (4294967295 : UInt64)) (y := (x &&& (4294967295 : UInt64)) * (y >>> zd 32)) rfl rfl))] En18 fun _ En20 => ?_
 refine d_s [0,1,4,5,6,7,8,9,11,12] [(2, g_i .u64 (Go.Dbr.u64_mul (x := x >>> zd 32) (y := y >>> zd 32) rfl rfl)), (4, g_i .u64 (Go.Dbr.u64_add (x := (x >>> zd 32) * (y >>> zd 32)) (y := (((x >>> zd 32) * (y &&& (4294967295 : UInt64))) + (((x &&& (4294967295 : UInt64)) * (y &&& (4294967295 : UInt64))) >>> zd 32)) >>> zd 32) rfl rfl)), (6, g_i .u64 (Go.Dbr.u64_shr (x := ((((x >>> zd 32) * (y &&& (4294967295 : UInt64))) + (((x &&& (4294967295 : UInt64)) * (y &&& (4294967295 : UInt64))) >>> zd 32)) &&& (4294967295 : UInt64)) + ((x &&& (4294967295 : UInt64)) * (y >>> zd 32))) (n := 32) rfl (by decide))), (7, g_i .u64 (Go.Dbr.u64_add (x := ((x >>> zd 32) * (y >>> zd 32)) + ((((x >>> zd 32) * (y &&& (4294967295 : UInt64))) + (((x &&& (4294967295 : UInt64)) * (y &&& (4294967295 : UInt64))) >>> zd 32)) >>> zd 32)) (y := (((((x >>> zd 32) * (y &&& (4294967295 : UInt64))) + (((x &&& (4294967295 : UInt64)) * (y &&& (4294967295 : UInt64))) >>> zd 32)) &&& (4294967295 : UInt64)) + ((x &&& (4294967295 : UInt64)) * (y >>> zd 32))) >>> zd 32) rfl rfl))] En20 fun _ En22 => ?_
 refine d_s [0,1,4,5,6,7,8,9,11,12] [(2, g_i .u64 (Go.Dbr.u64_mul (x := x) (y := y) rfl rfl))] En22 fun _ En24 => ?_
 refine wp_ret <| d_ret2 (t := 4) (u := 5) (v := zn ((((x >>> zd 32) * (y >>> zd 32)) + ((((x >>> zd 32) * (y &&& (4294967295 : UInt64))) + (((x &&& (4294967295 : UInt64)) * (y &&& (4294967295 : UInt64))) >>> zd 32)) >>> zd 32)) + ((((((x >>> zd 32) * (y &&& (4294967295 : UInt64))) + (((x &&& (4294967295 : UInt64)) * (y &&& (4294967295 : UInt64))) >>> zd 32)) &&& (4294967295 : UInt64)) + ((x &&& (4294967295 : UInt64)) * (y >>> zd 32))) >>> zd 32))) (x := zn (x * y)) En24 (by kernel_rfl) (by kernel_rfl) (by kernel_rfl) ?_
 have e : (((x >>> zd 32) * (y >>> zd 32)) + ((((x >>> zd 32) * (y &&& (4294967295 : UInt64))) + (((x &&& (4294967295 : UInt64)) * (y &&& (4294967295 : UInt64))) >>> zd 32)) >>> zd 32)) + ((((((x >>> zd 32) * (y &&& (4294967295 : UInt64))) + (((x &&& (4294967295 : UInt64)) * (y &&& (4294967295 : UInt64))) >>> zd 32)) &&& (4294967295 : UInt64)) + ((x &&& (4294967295 : UInt64)) * (y >>> zd 32))) >>> zd 32) = QX x y := mul_high x y
 exact ⟨by rw [e], Hv0.pk []⟩

theorem whole_go (w : World) (ba bb : Nat) (a b : List UInt64) (ha : za a = 4) (hb : za b = 4) (hH : Heap w [.box ba (zh a) 34, .box bb (zh b) 34]) : Calls Tryd.prog 73 #[pt ba, pt bb] w fun e w' => e = .returned (.agg (zi (zh (nds 8 (nv a * nv b))))) ∧ Ev w [.box ba (zh a) 34, .box bb (zh b) 34] w' [.box ba (zh a) 34, .box bb (zh b) 34] := by
 refine d_0 [(0, pt ba), (1, pt bb)] 66 Go.Proofs.Tryd.func73 Go.Proofs.Tryd.ntmps73 (hH) fun act0 En0 Hv0 => ?_
 refine wp_seq <| zm <| f_o <| m_z 91 (zh (ze 8 0)) En0 Hv0 fun _ _ bk1 En4 Hv5 => ?_
 refine f_e <| zg <| wp_seq <| zm <| f_o <| m_z 91 (zh (ze 8 0)) En4 Hv5 fun _ _ bk6 En9 Hv10 => ?_
 refine f_e <| zg <| wp_seq <| wp_seq <| d_r [0,1,4,5,13] [] En9 fun _ En12 => ?_
 refine zg <| wp_block <| Qh (fun ms13 ac wo => ∃ (i : Nat) (t : List UInt64), ms13 = (4 - i : Nat) ∧ Env ac 66 [(0, pt ba), (1, pt bb), (4, pt bk1), (5, pt bk6), (13, ni i)] ∧ Ev w [.box ba (zh a) 34, .box bb (zh b) 34] wo [.box bk6 (zh t) 91, .box ba (zh a) 34, .box bb (zh b) 34, .box bk1 (zh (ze 8 0)) 91] ∧ (i ≤ 4) ∧ (za t = 8) ∧ (dv 18446744073709551616 t = nv a * dvk b i) ∧ (∀ j, i + 4 ≤ j → zb t j 0 = 0)) ⟨_, 0, ze 8 0, rfl, En12.sb, Hv10.pk [3, 0, 1, 2], by omega, (zf), rfl, fun j _ => zeros8 j⟩ ?_
 rintro mm19 _ _ ⟨i, t, rfl, En17, Hv18, hi, hlt, hv, hz⟩
 refine wp_seq <| d_r [0,1,4,5,13,14] [] En17 fun _ En21 => ?_
 refine zg <| wp_seq <| c_d (((i : Nat) : Int) < (4 : Int)) En21 (fun hc22 => ?_) (fun hc22 => ?_)
 ·
  refine wp_skip <| zg <| wp_seq <| wp_block <| wp_seq <| d_r [0,1,4,5,6,13] [] En21 fun _ En24 => ?_
  refine zg <| wp_seq <| d_r [0,1,4,5,6,7,13] [] En24 fun _ En26 => ?_
  refine zg <| wp_seq <| wp_seq <| d_r [0,1,4,5,6,7,13,16] [] En26 fun _ En28 => ?_
  refine zg <| wp_block <| Qh (fun ms29 ac wo => ∃ (k : Nat) (u : List UInt64) (c : UInt64), ms29 = (4 - k : Nat) ∧ Env ac 66 [(0, pt ba), (1, pt bb), (4, pt bk1), (5, pt bk6), (6, ni i), (7, zn c), (13, ni i), (16, ni k)] ∧ Ev w [.box ba (zh a) 34, .box bb (zh b) 34] wo [.box bk6 (zh u) 91, .box ba (zh a) 34, .box bb (zh b) 34, .box bk1 (zh (ze 8 0)) 91] ∧ (k ≤ 4) ∧ (za u = 8) ∧ (dv 18446744073709551616 u + c.toNat * 18446744073709551616 ^ (i + k) = nv a * dvk b i + dvk a k * (zb b i 0).toNat * 18446744073709551616 ^ i) ∧ (∀ j, i + 4 ≤ j → zb u j 0 = 0)) ⟨_, 0, t, 0, rfl, En28.sb, Hv18.pk [0, 1, 2, 3], by omega, hlt, by rw [hv]; simp [dvk], hz⟩ ?_
  rintro mm35 _ _ ⟨k, u, c, rfl, En33, Hv34, hk, hlu, hv2, hz2⟩
  refine wp_seq <| d_r [0,1,4,5,6,7,13,16,17] [] En33 fun _ En37 => ?_
  refine zg <| wp_seq <| c_d (((k : Nat) : Int) < (4 : Int)) En37 (fun hc38 => ?_) (fun hc38 => ?_)
  ·
   refine wp_skip <| zg <| wp_seq <| wp_block <| wp_seq <| d_r [0,1,4,5,6,7,8,13,16] [] En37 fun _ En40 => ?_
   refine zg <| wp_seq <| r_c (fun ac wo => Env ac 66 [(0, pt ba), (1, pt bb), (4, pt bk1), (5, pt bk6), (6, ni i), (7, zn c), (8, ni k), (9, zn (QX (zb a k 0) (zb b i 0))), (10, zn ((zb a k 0) * (zb b i 0))), (13, ni i), (16, ni k)] ∧ Ev w [.box ba (zh a) 34, .box bb (zh b) 34] wo [.box bk6 (zh u) 91, .box ba (zh a) 34, .box bb (zh b) 34, .box bk1 (zh (ze 8 0)) 91]) ?_ ?_
   ·
    refine h_s (fun wv => Ev w [.box ba (zh a) 34, .box bb (zh b) 34] wv [.box ba (zh a) 34, .box bb (zh b) 34]) [] 16 ?_
    have wo41 := Hv34.trans (z4 Hv34.heap)
    refine q_s [0,1,2] [] 13 En40 (wo41.pk [1, 2]) fun _ En104 => ?_
    refine q_f 3 (s := Instr.indexAt 34 (pt ba) (ni k)) (v := .pointer (some ⟨ba, k, none⟩)) En104 (fun _ => Go.Dbr.run_indexarr (e := 32) (sz := 1) (m := 4) (j := k) (o := k) (by kernel_rfl) (by kernel_rfl) (by omega) (by omega) (by omega) _) (fun _ => wo41.pk [1, 2]) fun _ En106 => ?_
    have hb107 : k < za a := by rw [ha]; omega
    refine q_r 4 (s := Instr.loadAt 32 (.pointer (some ⟨ba, k, none⟩))) (v := zn (zb a k 0)) En106 (fun w hS => run_load1 (by kernel_rfl) (hS.heap.cell (k := 0) rfl (zY hb107))) (wo41.pk [1, 2]) fun _ En109 => ?_
    refine q_s [5,6,7] [] 8 En109 (wo41.pk [1, 2]) fun _ En111 => ?_
    refine q_f 8 (s := Instr.indexAt 34 (pt bb) (ni i)) (v := .pointer (some ⟨bb, i, none⟩)) En111 (fun _ => Go.Dbr.run_indexarr (e := 32) (sz := 1) (m := 4) (j := i) (o := i) (by kernel_rfl) (by kernel_rfl) (by omega) (by omega) (by omega) _) (fun _ => wo41.pk [1, 2]) fun _ En113 => ?_
    have hb114 : i < za b := by rw [hb]; omega
    refine q_r 9 (s := Instr.loadAt 32 (.pointer (some ⟨bb, i, none⟩))) (v := zn (zb b i 0)) En113 (fun w hS => run_load1 (by kernel_rfl) (hS.heap.cell (k := 1) rfl (zY hb114))) (wo41.pk [1, 2]) fun _ En116 => ?_
    refine q_t 10 ?_
    refine c_p En116 wo41 (mul_go _ (zb a k 0) (zb b i 0)) fun _ _ En122 Hv123 => ?_
    refine ⟨fun _ => Hv123.pk [1, 2], ?_⟩
    refine q_s [11,12,13,14,15] [] 0 En122 (Hv123.pk [1, 2]) fun _ En125 => ?_
    exact h_e ⟨En125.sb, Hv123.pk [0, 1, 2, 3]⟩
   rintro _ _ ⟨En128, Hv129⟩
   refine zg <| wp_seq <| zm <| d_k [0,1,4,5,6,7,8,9,10,13,16,34,37] [(3, g_n (w_a i k))] 4 En128 fun _ En131 => ?_
   refine f_o <| q_v (x := Instr.indexAt 91 (pt bk6) (ni (i + k))) (v := .pointer (some ⟨bk6, i + k, none⟩)) En131 (Go.Dbr.run_indexarr (e := 32) (sz := 1) (m := 8) (j := i + k) (o := i + k) (by kernel_rfl) (by kernel_rfl) (by omega) (by omega) (by omega) _) fun _ En133 => ?_
   refine f_o ?_
   have hb134 : i + k < za u := by rw [hlu]; omega
   refine m_v 0 (i + k) (zn (zb u (i + k) 0)) En133 Hv129 rfl (zY hb134) fun _ En136 => ?_
   refine f_o <| JK (d := some 40) (f := 72) (args := #[zn ((zb a k 0) * (zb b i 0)), zn (zb u (i + k) 0), zn (0 : UInt64)]) (v := .tuple #[zn (zL ((zb a k 0) * (zb b i 0)) (zb u (i + k) 0) (0 : UInt64)), zn (zH ((zb a k 0) * (zb b i 0)) (zb u (i + k) 0) (0 : UInt64))]) En136 (by kernel_rfl) (Go.Dbr.ext_add64 Go.Proofs.Tryd.func72 (by kernel_rfl) (by kernel_rfl) (by kernel_rfl) (by kernel_rfl) ((zb a k 0) * (zb b i 0)) (zb u (i + k) 0) (0 : UInt64) (by decide)) ?_
   intro _ En138
   refine d_e [0,1,4,5,6,7,8,9,10,11,13,16] [] En138 fun _ En140 => ?_
   refine zg <| wp_seq <| zm <| d_k [0,1,4,5,6,7,8,9,10,11,13,16,44,45] [] 2 En140 fun _ En142 => ?_
   refine f_o <| JK (d := some 46) (f := 72) (args := #[zn (zL ((zb a k 0) * (zb b i 0)) (zb u (i + k) 0) (0 : UInt64)), zn c, zn (0 : UInt64)]) (v := .tuple #[zn (zL (zL ((zb a k 0) * (zb b i 0)) (zb u (i + k) 0) (0 : UInt64)) c (0 : UInt64)), zn (zH (zL ((zb a k 0) * (zb b i 0)) (zb u (i + k) 0) (0 : UInt64)) c (0 : UInt64))]) En142 (by kernel_rfl) (Go.Dbr.ext_add64 Go.Proofs.Tryd.func72 (by kernel_rfl) (by kernel_rfl) (by kernel_rfl) (by kernel_rfl) (zL ((zb a k 0) * (zb b i 0)) (zb u (i + k) 0) (0 : UInt64)) c (0 : UInt64) (by decide)) ?_
   intro _ En144
   refine d_e [0,1,4,5,6,7,8,9,10,11,12,13,16] [] En144 fun _ En146 => ?_
   refine zg <| zm <| d_k [0,1,4,5,6,7,8,10,13,16,51,52,57] [(2, g_n (w_a i k)), (6, g_i .u64 (Go.Dbr.u64_add (x := QX (zb a k 0) (zb b i 0)) (y := zH ((zb a k 0) * (zb b i 0)) (zb u (i + k) 0) (0 : UInt64)) rfl rfl)), (8, g_i .u64 (Go.Dbr.u64_add (x := (QX (zb a k 0) (zb b i 0)) + (zH ((zb a k 0) * (zb b i 0)) (zb u (i + k) 0) (0 : UInt64))) (y := zH (zL ((zb a k 0) * (zb b i 0)) (zb u (i + k) 0) (0 : UInt64)) c (0 : UInt64)) rfl rfl))] 9 En146 fun _ En148 => ?_
   refine f_o <| q_v (x := Instr.indexAt 91 (pt bk6) (ni (i + k))) (v := .pointer (some ⟨bk6, i + k, none⟩)) En148 (Go.Dbr.run_indexarr (e := 32) (sz := 1) (m := 8) (j := i + k) (o := i + k) (by kernel_rfl) (by kernel_rfl) (by omega) (by omega) (by omega) _) fun _ En150 => ?_
   refine f_o ?_
   have hb151 : i + k < za u := by rw [hlu]; omega
   refine m_t 0 (i + k) (zn (zL (zL ((zb a k 0) * (zb b i 0)) (zb u (i + k) 0) (0 : UInt64)) c (0 : UInt64))) [.box bk6 (zh (zy u (i + k) (zL (zL ((zb a k 0) * (zb b i 0)) (zb u (i + k) 0) (0 : UInt64)) c (0 : UInt64)))) 91, .box ba (zh a) 34, .box bb (zh b) 34, .box bk1 (zh (ze 8 0)) 91] En150 Hv129 rfl (zY hb151) (Yn _ _ _) rfl fun _ _ En154 Hv155 => ?_
   refine d_e [0,1,4,5,6,7,8,10,13,16] [] En154 fun _ En157 => ?_
   refine zA <| zg <| d_r [0,1,4,5,6,7,8,10,13,16] [(0, g_n (w_a k 1))] En157 fun _ En159 => ?_
   refine zg <| ⟨_, ⟨k + 1, (zy u (i + k) (zL (zL ((zb a k 0) * (zb b i 0)) (zb u (i + k) 0) (0 : UInt64)) c (0 : UInt64))), (((QX (zb a k 0) (zb b i 0)) + (zH ((zb a k 0) * (zb b i 0)) (zb u (i + k) 0) (0 : UInt64))) + (zH (zL ((zb a k 0) * (zb b i 0)) (zb u (i + k) 0) (0 : UInt64)) c (0 : UInt64))), rfl, En159.sb, Hv155.pk [0, 1, 2, 3], by omega, by simp [hlu], whole_in hlu (by omega) hv2, fun j hj => by rw [getD_set_ne _ (by omega)]; exact hz2 j hj⟩, ?_⟩
   omega
  refine wp_exit <| zI <| zI <| z9 <| zg ?_
  have hk4 : k = 4 := by omega
  refine zm <| d_k [0,1,4,5,6,7,13,16,61,62] [(1, g_n (w_a i 4))] 3 En37 fun _ En161 => ?_
  refine f_o <| q_v (x := Instr.indexAt 91 (pt bk6) (ni (i + 4))) (v := .pointer (some ⟨bk6, i + 4, none⟩)) En161 (Go.Dbr.run_indexarr (e := 32) (sz := 1) (m := 8) (j := i + 4) (o := i + 4) (by kernel_rfl) (by kernel_rfl) (by omega) (by omega) (by omega) _) fun _ En163 => ?_
  refine f_o ?_
  have hb164 : i + 4 < za u := by rw [hlu]; omega
  refine m_t 0 (i + 4) (zn c) [.box bk6 (zh (zy u (i + 4) c)) 91, .box ba (zh a) 34, .box bb (zh b) 34, .box bk1 (zh (ze 8 0)) 91] En163 Hv34 rfl (zY hb164) (Yn _ _ _) rfl fun _ _ En167 Hv168 => ?_
  refine f_e <| zA <| zg <| d_r [0,1,4,5,6,7,13,16] [(0, g_n (w_a i 1))] En167 fun _ En170 => ?_
  refine zg <| ⟨_, ⟨i + 1, (zy u (i + 4) c), rfl, En170.sb, Hv168.pk [0, 1, 2, 3], by omega, by simp [hlu], whole_out ha hlu (by omega) (hz2 _ (by omega)) (by rw [hk4] at hv2; exact hv2), fun j hj => by rw [getD_set_ne _ (by omega)]; exact hz2 j (by omega)⟩, ?_⟩
  omega
 refine wp_exit <| zI <| zI <| z9 <| zg <| wp_seq <| zm <| f_o <| m_a 0 0 8 (zh t) En21 Hv18 rfl (zq (zc hlt)) (zc hlt) fun _ En172 => ?_
 refine f_o <| m_g 3 0 8 (zh t) _ [.box bk6 (zh t) 91, .box ba (zh a) 34, .box bb (zh b) 34, .box bk1 (zh t) 91] En172 Hv18 rfl (zc hlt) (by rw [(zc (zf))]; first | decide | (simp; done)) (zv _) (zs (zc (zf))) rfl fun _ _ En175 Hv176 => ?_
 refine f_e <| zg <| wp_ret <| Zj (v := .agg (zi (zh t))) (t := 4) (T := 91) (ad := ⟨bk1, 0, none⟩) En175 (by kernel_rfl) (by kernel_rfl) (zM (t := 91) (k := 3) (off := 0) (m := 8) (xs := zh t) Hv176 rfl (zq (zc hlt)) (zc hlt) (by kernel_rfl) (by kernel_rfl)) ?_
 have hi4 : i = 4 := by omega
 have hte : t = nds 8 (nv a * nv b) := nds_of hlt (by rw [hv, hi4, dvk4 hb])
 subst hte
 exact ⟨rfl, Hv176.pk [1, 2]⟩

end Go.Proofs.YtlnogkmnklfjlaaDoor

/- Layer 4: the four fields; products modulo 2^255 - 19. -/

namespace Go.Proofs.YtlnogkmnklfjlaaDoor
open Go.Dbr
set_option maxRecDepth 100000
set_option maxHeartbeats 2000000
set_option linter.unusedVariables false
set_option linter.unusedSimpArgs false

/-- what is reckoned modulo -/
def mF (f : Int) : Nat := if f = 1 then 57896044618658097711785492504343953926634992332820282019728792003956564819949 else if f = 2 then 115792089210356248762697446949407573530086143415290314195533631308867097853951 else if f = 3 then 115792089210356248762697446949407573529996955224135760342422259061068512044369 else if f = 4 then 7237005577332262213973186563042994240857116359379907606001950938285454250989 else 0
theorem mF_lt (f : Int) : mF f < W256 := by
  unfold mF
  repeat' split
  all_goals decide
theorem mF_pos {f : Int} (h : f = 1 ∨ f = 2 ∨ f = 3 ∨ f = 4) : 1 < mF f := by rcases h with rfl | rfl | rfl | rfl <;> decide
theorem nv_nd {n : Nat} (h : n < W256) : nv (nd n) = n := by rw [nd_val, zK h]
theorem nv_mF (f : Int) : nv (nd (mF f)) = mF f := nv_nd (mF_lt f)
theorem mod_lt_w {n : Nat} {f : Int} (h : f = 1 ∨ f = 2 ∨ f = 3 ∨ f = 4) : n % mF f < W256 := Z4 (Nat.mod_lt _ (Z4 Nat.zero_lt_one (mF_pos h))) (mF_lt f)
def f38 (t : List UInt64) : Nat → Nat
  | 0 => 0
  | i + 1 => f38 t i + ((zb t (i + 4) 0).toNat * 38 + (zb t i 0).toNat) * 18446744073709551616 ^ i
theorem set_new {o : List UInt64} {i : Nat} {x y t c : UInt64} {P : Nat} (hi : i < o.length) (hz : zb o i 0 = 0) (hv : dv 18446744073709551616 o + c.toNat * 18446744073709551616 ^ i = P) :
    dv 18446744073709551616 (zy o i (zL (zL (x * y) t 0) c 0)) + (QX x y + zH (x * y) t 0 + zH (zL (x * y) t 0) c 0).toNat * 18446744073709551616 ^ (i + 1) = P + (x.toNat * y.toNat + t.toNat) * 18446744073709551616 ^ i := by
  have e := dv_set 18446744073709551616 (zL (zL (x * y) t 0) c 0) o i hi
  have m := mac_val (x := x) (y := y) (t := t) (c := c)
  rw [hz, show (0 : UInt64).toNat = 0 from rfl, ZN, ZM] at e
  rw [Zl, z5 (18446744073709551616 ^ i), ← Ze]
  have m2 := congrArg (· * 18446744073709551616 ^ i) m
  simp only [Zm] at m2 ⊢
  rw [z5 18446744073709551616 (zB _)] at m2
  generalize 18446744073709551616 ^ i = q at *
  omega
theorem f38_in {o t : List UInt64} {i : Nat} {c : UInt64} (hlo : o.length = 4) (hi : i < 4) (hz : ∀ j, i ≤ j → zb o j 0 = 0) (hv : dv 18446744073709551616 o + c.toNat * 18446744073709551616 ^ i = f38 t i) :
    dv 18446744073709551616 (zy o i (zL (zL (zb t (i + 4) 0 * 38) (zb t i 0) 0) c 0)) + (QX (zb t (i + 4) 0) 38 + zH (zb t (i + 4) 0 * 38) (zb t i 0) 0 + zH (zL (zb t (i + 4) 0 * 38) (zb t i 0) 0) c 0).toNat * 18446744073709551616 ^ (i + 1) = f38 t (i + 1) := by
  rw [set_new (by omega) (hz i (Nat.le_refl _)) hv, f38]
  rfl
theorem f38_val {t : List UInt64} (h : t.length = 8) : ∃ H, H < W256 ∧ dv 18446744073709551616 t = f38 t 4 + 2 * mF 1 * H ∧ f38 t 4 ≤ 39 * W256 - 39 := by
  match t, h with
  | [t0, t1, t2, t3, t4, t5, t6, t7], _ =>
    have h1 := nv_lt (l := [t4, t5, t6, t7]) rfl
    have h0 := nv_lt (l := [t0, t1, t2, t3]) rfl
    refine ⟨nv [t4, t5, t6, t7], h1, ?_⟩
    have hm : 2 * mF 1 = 115792089237316195423570985008687907853269984665640564039457584007913129639898 := by decide
    rw [hm]
    rw [nv4] at h0 h1 ⊢
    simp only [dv, f38, zb, QM, Yd, Je, Qv, ZM, Nat.zero_add, Qf, Nat.mul_one, Nat.reducePow, Nat.reduceAdd]
    simp only [W256] at *
    constructor
    · omega
    · omega
theorem zeros4 (j : Nat) : zb (ze 4 (0 : UInt64)) j 0 = 0 := by
  simp only [Zf, Qj]
  split <;> rfl
theorem num1 (x : UInt64) : nv [x, 0, 0, 0] = x.toNat := by
  rw [nv4, show (0 : UInt64).toNat = 0 from rfl]
  omega
theorem c38 {c : UInt64} (h : c.toNat ≤ 38) : (38 * c).toNat = 38 * c.toNat := by
  rw [UInt64.toNat_mul, show (38 : UInt64).toNat = 38 from rfl]
  omega
theorem step38 {o : List UInt64} {c : UInt64} {R : Nat} (hl : o.length = 4) (hc : c.toNat ≤ 38) (hm : (nv o + W256 * c.toNat) % mF 1 = R) :
    (nv (nd (nv o + nv [38 * c, 0, 0, 0])) + W256 * (u1 (W256 ≤ nv o + nv [38 * c, 0, 0, 0])).toNat) % mF 1 = R ∧ nv (nd (nv o + nv [38 * c, 0, 0, 0])) + W256 * (u1 (W256 ≤ nv o + nv [38 * c, 0, 0, 0])).toNat = nv o + 38 * c.toNat := by
  have ho := nv_lt hl
  have e : nv (nd (nv o + nv [38 * c, 0, 0, 0])) + W256 * (u1 (W256 ≤ nv o + nv [38 * c, 0, 0, 0])).toNat = nv o + 38 * c.toNat := by
    rw [nd_val, num1, c38 hc, u1_val]
    simp only [W256] at *
    split <;> omega
  rw [e]
  refine ⟨?_, rfl⟩
  rw [← hm, show mF 1 = 57896044618658097711785492504343953926634992332820282019728792003956564819949 from rfl]
  simp only [W256] at *
  omega

theorem prime1_go (w : World) : Calls Tryd.prog 64 #[] w fun e w' => e = .returned (.agg (zi (zh (nd (mF 1))))) ∧ Ev w [] w' [] := by
 refine d_0 [] 2 Go.Proofs.Tryd.func64 Go.Proofs.Tryd.ntmps64 (Heap.nil _) fun act0 En0 Hv0 => ?_
 refine wp_seq <| zm <| f_o <| m_z 34 (zh (ze 4 0)) En0 Hv0 fun _ _ bk1 En4 Hv5 => ?_
 refine f_e <| zg <| wp_seq <| zm <| d_k [0,1] [] 1 En4 fun _ En7 => ?_
 refine f_o <| m_g 0 0 4 (zh ([18446744073709551597, 18446744073709551615, 18446744073709551615, 9223372036854775807] : List UInt64)) _ [.box bk1 (zh ([18446744073709551597, 18446744073709551615, 18446744073709551615, 9223372036854775807] : List UInt64)) 34] En7 Hv5 rfl (zc (show za ([18446744073709551597, 18446744073709551615, 18446744073709551615, 9223372036854775807] : List UInt64) = 4 from rfl)) (by rw [(zc (zf))]; first | decide | (simp; done)) (zv _) (zs (zc (zf))) rfl fun _ _ En10 Hv11 => ?_
 refine f_e <| zg <| wp_ret <| Zj (v := .agg (zi (zh ([18446744073709551597, 18446744073709551615, 18446744073709551615, 9223372036854775807] : List UInt64)))) (t := 0) (T := 34) (ad := ⟨bk1, 0, none⟩) En10 (by kernel_rfl) (by kernel_rfl) (zM (t := 34) (k := 0) (off := 0) (m := 4) (xs := zh ([18446744073709551597, 18446744073709551615, 18446744073709551615, 9223372036854775807] : List UInt64)) Hv11 rfl (zq (zc (show za ([18446744073709551597, 18446744073709551615, 18446744073709551615, 9223372036854775807] : List UInt64) = 4 from rfl))) (zc (show za ([18446744073709551597, 18446744073709551615, 18446744073709551615, 9223372036854775807] : List UInt64) = 4 from rfl)) (by kernel_rfl) (by kernel_rfl)) ?_
 exact ⟨by kernel_rfl, Hv11.pk []⟩

theorem prime2_go (w : World) : Calls Tryd.prog 65 #[] w fun e w' => e = .returned (.agg (zi (zh (nd (mF 2))))) ∧ Ev w [] w' [] := by
 refine d_0 [] 2 Go.Proofs.Tryd.func65 Go.Proofs.Tryd.ntmps65 (Heap.nil _) fun act0 En0 Hv0 => ?_
 refine wp_seq <| zm <| f_o <| m_z 34 (zh (ze 4 0)) En0 Hv0 fun _ _ bk1 En4 Hv5 => ?_
 refine f_e <| zg <| wp_seq <| zm <| d_k [0,1] [] 1 En4 fun _ En7 => ?_
 refine f_o <| m_g 0 0 4 (zh ([18446744073709551615, 4294967295, 0, 18446744069414584321] : List UInt64)) _ [.box bk1 (zh ([18446744073709551615, 4294967295, 0, 18446744069414584321] : List UInt64)) 34] En7 Hv5 rfl (zc (show za ([18446744073709551615, 4294967295, 0, 18446744069414584321] : List UInt64) = 4 from rfl)) (by rw [(zc (zf))]; first | decide | (simp; done)) (zv _) (zs (zc (zf))) rfl fun _ _ En10 Hv11 => ?_
 refine f_e <| zg <| wp_ret <| Zj (v := .agg (zi (zh ([18446744073709551615, 4294967295, 0, 18446744069414584321] : List UInt64)))) (t := 0) (T := 34) (ad := ⟨bk1, 0, none⟩) En10 (by kernel_rfl) (by kernel_rfl) (zM (t := 34) (k := 0) (off := 0) (m := 4) (xs := zh ([18446744073709551615, 4294967295, 0, 18446744069414584321] : List UInt64)) Hv11 rfl (zq (zc (show za ([18446744073709551615, 4294967295, 0, 18446744069414584321] : List UInt64) = 4 from rfl))) (zc (show za ([18446744073709551615, 4294967295, 0, 18446744069414584321] : List UInt64) = 4 from rfl)) (by kernel_rfl) (by kernel_rfl)) ?_
 exact ⟨by kernel_rfl, Hv11.pk []⟩

theorem prime3_go (w : World) : Calls Tryd.prog 66 #[.agg #[]] w fun e w' => e = .returned (.agg (zi (zh (nd (mF 3))))) ∧ Ev w [] w' [] := by
 refine d_0 [(0, .agg #[])] 4 Go.Proofs.Tryd.func66 Go.Proofs.Tryd.ntmps66 (Heap.nil _) fun act0 En0 Hv0 => ?_
 refine wp_seq <| zm <| f_o <| m_m 78 [] En0 Hv0 fun _ _ bk1 En4 Hv5 => ?_
 refine f_o <| m_z 34 (zh (ze 4 0)) En4 Hv5 fun _ _ bk6 En9 Hv10 => ?_
 refine f_e <| zg <| wp_seq <| zm <| d_k [2,3] [] 1 En9 fun _ En12 => ?_
 refine f_o <| m_g 1 0 4 (zh ([17562291160714782033, 13611842547513532036, 18446744073709551615, 18446744069414584320] : List UInt64)) _ [.box bk1 [] 78, .box bk6 (zh ([17562291160714782033, 13611842547513532036, 18446744073709551615, 18446744069414584320] : List UInt64)) 34] En12 Hv10 rfl (zc (show za ([17562291160714782033, 13611842547513532036, 18446744073709551615, 18446744069414584320] : List UInt64) = 4 from rfl)) (by rw [(zc (zf))]; first | decide | (simp; done)) (zv _) (zs (zc (zf))) rfl fun _ _ En15 Hv16 => ?_
 refine f_e <| zg <| wp_ret <| Zj (v := .agg (zi (zh ([17562291160714782033, 13611842547513532036, 18446744073709551615, 18446744069414584320] : List UInt64)))) (t := 2) (T := 34) (ad := ⟨bk6, 0, none⟩) En15 (by kernel_rfl) (by kernel_rfl) (zM (t := 34) (k := 1) (off := 0) (m := 4) (xs := zh ([17562291160714782033, 13611842547513532036, 18446744073709551615, 18446744069414584320] : List UInt64)) Hv16 rfl (zq (zc (show za ([17562291160714782033, 13611842547513532036, 18446744073709551615, 18446744069414584320] : List UInt64) = 4 from rfl))) (zc (show za ([17562291160714782033, 13611842547513532036, 18446744073709551615, 18446744069414584320] : List UInt64) = 4 from rfl)) (by kernel_rfl) (by kernel_rfl)) ?_
 exact ⟨by kernel_rfl, Hv16.pk []⟩

theorem prime4_go (w : World) : Calls Tryd.prog 67 #[.agg #[]] w fun e w' => e = .returned (.agg (zi (zh (nd (mF 4))))) ∧ Ev w [] w' [] := by
 refine d_0 [(0, .agg #[])] 4 Go.Proofs.Tryd.func67 Go.Proofs.Tryd.ntmps67 (Heap.nil _) fun act0 En0 Hv0 => ?_
 refine wp_seq <| zm <| f_o <| m_m 81 [] En0 Hv0 fun _ _ bk1 En4 Hv5 => ?_
 refine f_o <| m_z 34 (zh (ze 4 0)) En4 Hv5 fun _ _ bk6 En9 Hv10 => ?_
 refine f_e <| zg <| wp_seq <| zm <| d_k [2,3] [] 1 En9 fun _ En12 => ?_
 refine f_o <| m_g 1 0 4 (zh ([6346243789798364141, 1503914060200516822, 0, 1152921504606846976] : List UInt64)) _ [.box bk1 [] 81, .box bk6 (zh ([6346243789798364141, 1503914060200516822, 0, 1152921504606846976] : List UInt64)) 34] En12 Hv10 rfl (zc (show za ([6346243789798364141, 1503914060200516822, 0, 1152921504606846976] : List UInt64) = 4 from rfl)) (by rw [(zc (zf))]; first | decide | (simp; done)) (zv _) (zs (zc (zf))) rfl fun _ _ En15 Hv16 => ?_
 refine f_e <| zg <| wp_ret <| Zj (v := .agg (zi (zh ([6346243789798364141, 1503914060200516822, 0, 1152921504606846976] : List UInt64)))) (t := 2) (T := 34) (ad := ⟨bk6, 0, none⟩) En15 (by kernel_rfl) (by kernel_rfl) (zM (t := 34) (k := 1) (off := 0) (m := 4) (xs := zh ([6346243789798364141, 1503914060200516822, 0, 1152921504606846976] : List UInt64)) Hv16 rfl (zq (zc (show za ([6346243789798364141, 1503914060200516822, 0, 1152921504606846976] : List UInt64) = 4 from rfl))) (zc (show za ([6346243789798364141, 1503914060200516822, 0, 1152921504606846976] : List UInt64) = 4 from rfl)) (by kernel_rfl) (by kernel_rfl)) ?_
 exact ⟨by kernel_rfl, Hv16.pk []⟩

theorem f38_end {a b o : List UInt64} {c : UInt64} {H : Nat} (ha : a.length = 4) (hb : b.length = 4) (hl : o.length = 4) (h1 : dv 18446744073709551616 (nds 8 (nv a * nv b)) = dv 18446744073709551616 o + c.toNat * 18446744073709551616 ^ 4 + 2 * mF 1 * H) (h2 : dv 18446744073709551616 o + c.toNat * 18446744073709551616 ^ 4 ≤ 39 * W256 - 39) : (nv o + W256 * c.toNat) % mF 1 = (nv a * nv b) % mF 1 ∧ c.toNat ≤ 38 := by
  have hlt : nv a * nv b < 18446744073709551616 ^ 8 := Nat.lt_of_lt_of_eq (Nat.mul_lt_mul'' (nv_lt ha) (nv_lt hb)) (by decide)
  rw [nds_val, zK hlt, w256_pow] at h1
  rw [w256_pow] at h2
  constructor
  · rw [h1, z5 W256, Ze 2, Nat.mul_left_comm 2, Nat.add_mul_mod_self_left]
  · simp only [W256] at h2
    omega

theorem mul25_go (w : World) (a b : List UInt64) (ha : za a = 4) (hb : za b = 4) : Calls Tryd.prog 52 #[.agg (zi (zh a)), .agg (zi (zh b))] w fun e w' => e = .returned (.agg (zi (zh (nd ((nv a * nv b) % mF 1))))) ∧ Ev w [] w' [] := by
 refine d_0 [(0, .agg (zi (zh a))), (1, .agg (zi (zh b)))] 61 Go.Proofs.Tryd.func52 Go.Proofs.Tryd.ntmps52 (Heap.nil _) fun act0 En0 Hv0 => ?_
 refine wp_seq <| zm <| f_o <| m_m 34 (zh a) En0 Hv0 fun _ _ bk1 En4 Hv5 => ?_
 refine f_o <| m_m 34 (zh b) En4 Hv5 fun _ _ bk6 En9 Hv10 => ?_
 refine f_o <| m_z 34 (zh (ze 4 0)) En9 Hv10 fun _ _ bk11 En14 Hv15 => ?_
 refine f_e <| zg <| wp_seq <| zm <| f_o <| c_l [0,1] (M := [.box bk1 (zh a) 34, .box bk6 (zh b) 34]) En14 Hv15 (fun hM16 => whole_go _ bk1 bk6 a b ha hb hM16) ?_
 rintro _ _ ⟨rfl, he18⟩
 refine ⟨_, _, [.box bk1 (zh a) 34, .box bk6 (zh b) 34, .box bk11 (zh (ze 4 0)) 34], rfl, he18, by kernel_rfl, fun _ En21 Hv22 => ?_⟩
 refine f_o <| m_z 91 (zh (ze 8 0)) En21 Hv22 fun _ _ bk23 En26 Hv27 => ?_
 refine f_o <| m_g 3 0 8 (zh (nds 8 (nv a * nv b))) _ [.box bk1 (zh a) 34, .box bk6 (zh b) 34, .box bk11 (zh (ze 4 0)) 34, .box bk23 (zh (nds 8 (nv a * nv b))) 91] En26 Hv27 rfl (zc (nds_len _ _)) (by rw [(zc (zf))]; first | decide | (simp; done)) (zv _) (zs (zc (zf))) rfl fun _ _ En30 Hv31 => ?_
 refine f_e <| zg <| d_s [4,5,6] [] En30 fun _ En33 => ?_
 refine wp_seq <| zm <| f_o <| m_z 34 (zh (ze 4 0)) En33 Hv31 fun _ _ bk34 En37 Hv38 => ?_
 refine f_e <| zg <| wp_seq <| d_s [4,5,6,7,14] [] En37 fun _ En40 => ?_
 refine wp_block ?_
 have ht8 : za (nds 8 (nv a * nv b)) = 8 := nds_len _ _
 refine Qh (fun ms41 ac wo => ∃ (i : Nat) (o : List UInt64) (c : UInt64), ms41 = (4 - i : Nat) ∧ Env ac 61 [(4, pt bk11), (5, pt bk23), (6, zn c), (7, pt bk34), (14, ni i)] ∧ Ev w [] wo [.box bk34 (zh o) 34, .box bk11 (zh (ze 4 0)) 34, .box bk23 (zh (nds 8 (nv a * nv b))) 91] ∧ (i ≤ 4) ∧ (za o = 4) ∧ (dv 18446744073709551616 o + c.toNat * 18446744073709551616 ^ i = f38 (nds 8 (nv a * nv b)) i) ∧ (∀ j, i ≤ j → zb o j 0 = 0)) ⟨_, 0, ze 4 0, 0, rfl, En40.sb, Hv38.pk [4, 2, 3], by omega, (zf), rfl, fun j _ => zeros4 j⟩ ?_
 rintro mm47 _ _ ⟨i, o, c, rfl, En45, Hv46, hi, hlo, hv, hz⟩
 refine d_s [4,5,6,7,14,15] [] En45 fun _ En49 => ?_
 refine wp_seq <| c_d (((i : Nat) : Int) < (4 : Int)) En49 (fun hc50 => ?_) (fun hc50 => ?_)
 ·
  refine wp_skip <| zg <| wp_seq <| wp_block <| d_s [4,5,6,7,8,14] [] En49 fun _ En52 => ?_
  refine wp_seq <| zm <| d_k [4,5,6,7,8,14,19] [(1, g_n (w_a i 4))] 2 En52 fun _ En54 => ?_
  refine f_o <| q_v (x := Instr.indexAt 91 (pt bk23) (ni (i + 4))) (v := .pointer (some ⟨bk23, i + 4, none⟩)) En54 (Go.Dbr.run_indexarr (e := 32) (sz := 1) (m := 8) (j := i + 4) (o := i + 4) (by kernel_rfl) (by kernel_rfl) (by omega) (by omega) (by omega) _) fun _ En56 => ?_
  refine f_o ?_
  have hb57 : i + 4 < za (nds 8 (nv a * nv b)) := by rw [(nds_len _ _)]; omega
  refine m_v 2 (i + 4) (zn (zb (nds 8 (nv a * nv b)) (i + 4) 0)) En56 Hv46 rfl (zY hb57) fun _ En59 => ?_
  refine f_o <| c_p En59 Hv46 (mul_go _ (zb (nds 8 (nv a * nv b)) (i + 4) 0) (38 : UInt64)) fun _ _ En65 Hv66 => ?_
  refine d_e [4,5,6,7,8,9,10,14] [] En65 fun _ En68 => ?_
  refine zg <| wp_seq <| zm <| d_k [4,5,6,7,8,9,10,14,26,27] [] 2 En68 fun _ En70 => ?_
  refine f_o <| q_v (x := Instr.indexAt 91 (pt bk23) (ni i)) (v := .pointer (some ⟨bk23, i, none⟩)) En70 (Go.Dbr.run_indexarr (e := 32) (sz := 1) (m := 8) (j := i) (o := i) (by kernel_rfl) (by kernel_rfl) (by omega) (by omega) (by omega) _) fun _ En72 => ?_
  refine f_o ?_
  have hb73 : i < za (nds 8 (nv a * nv b)) := by rw [(nds_len _ _)]; omega
  refine m_v 2 i (zn (zb (nds 8 (nv a * nv b)) i 0)) En72 Hv66 rfl (zY hb73) fun _ En75 => ?_
  refine f_o <| JK (d := some 30) (f := 72) (args := #[zn ((zb (nds 8 (nv a * nv b)) (i + 4) 0) * (38 : UInt64)), zn (zb (nds 8 (nv a * nv b)) i 0), zn (0 : UInt64)]) (v := .tuple #[zn (zL ((zb (nds 8 (nv a * nv b)) (i + 4) 0) * (38 : UInt64)) (zb (nds 8 (nv a * nv b)) i 0) (0 : UInt64)), zn (zH ((zb (nds 8 (nv a * nv b)) (i + 4) 0) * (38 : UInt64)) (zb (nds 8 (nv a * nv b)) i 0) (0 : UInt64))]) En75 (by kernel_rfl) (Go.Dbr.ext_add64 Go.Proofs.Tryd.func72 (by kernel_rfl) (by kernel_rfl) (by kernel_rfl) (by kernel_rfl) ((zb (nds 8 (nv a * nv b)) (i + 4) 0) * (38 : UInt64)) (zb (nds 8 (nv a * nv b)) i 0) (0 : UInt64) (by decide)) ?_
  intro _ En77
  refine d_e [4,5,6,7,8,9,10,11,14] [] En77 fun _ En79 => ?_
  refine zg <| wp_seq <| zm <| d_k [4,5,6,7,8,9,10,11,14,34,35] [] 2 En79 fun _ En81 => ?_
  refine f_o <| JK (d := some 36) (f := 72) (args := #[zn (zL ((zb (nds 8 (nv a * nv b)) (i + 4) 0) * (38 : UInt64)) (zb (nds 8 (nv a * nv b)) i 0) (0 : UInt64)), zn c, zn (0 : UInt64)]) (v := .tuple #[zn (zL (zL ((zb (nds 8 (nv a * nv b)) (i + 4) 0) * (38 : UInt64)) (zb (nds 8 (nv a * nv b)) i 0) (0 : UInt64)) c (0 : UInt64)), zn (zH (zL ((zb (nds 8 (nv a * nv b)) (i + 4) 0) * (38 : UInt64)) (zb (nds 8 (nv a * nv b)) i 0) (0 : UInt64)) c (0 : UInt64))]) En81 (by kernel_rfl) (Go.Dbr.ext_add64 Go.Proofs.Tryd.func72 (by kernel_rfl) (by kernel_rfl) (by kernel_rfl) (by kernel_rfl) (zL ((zb (nds 8 (nv a * nv b)) (i + 4) 0) * (38 : UInt64)) (zb (nds 8 (nv a * nv b)) i 0) (0 : UInt64)) c (0 : UInt64) (by decide)) ?_
  intro _ En83
  refine d_e [4,5,6,7,8,9,10,11,12,14] [] En83 fun _ En85 => ?_
  refine zg <| zm <| d_k [4,5,6,7,8,10,14,39,40,45] [(4, g_i .u64 (Go.Dbr.u64_add (x := QX (zb (nds 8 (nv a * nv b)) (i + 4) 0) (38 : UInt64)) (y := zH ((zb (nds 8 (nv a * nv b)) (i + 4) 0) * (38 : UInt64)) (zb (nds 8 (nv a * nv b)) i 0) (0 : UInt64)) rfl rfl)), (6, g_i .u64 (Go.Dbr.u64_add (x := (QX (zb (nds 8 (nv a * nv b)) (i + 4) 0) (38 : UInt64)) + (zH ((zb (nds 8 (nv a * nv b)) (i + 4) 0) * (38 : UInt64)) (zb (nds 8 (nv a * nv b)) i 0) (0 : UInt64))) (y := zH (zL ((zb (nds 8 (nv a * nv b)) (i + 4) 0) * (38 : UInt64)) (zb (nds 8 (nv a * nv b)) i 0) (0 : UInt64)) c (0 : UInt64)) rfl rfl))] 7 En85 fun _ En87 => ?_
  refine f_o <| q_v (x := Instr.indexAt 34 (pt bk34) (ni i)) (v := .pointer (some ⟨bk34, i, none⟩)) En87 (Go.Dbr.run_indexarr (e := 32) (sz := 1) (m := 4) (j := i) (o := i) (by kernel_rfl) (by kernel_rfl) (by omega) (by omega) (by omega) _) fun _ En89 => ?_
  refine f_o ?_
  have hb90 : i < za o := by rw [hlo]; omega
  refine m_t 0 i (zn (zL (zL ((zb (nds 8 (nv a * nv b)) (i + 4) 0) * (38 : UInt64)) (zb (nds 8 (nv a * nv b)) i 0) (0 : UInt64)) c (0 : UInt64))) [.box bk34 (zh (zy o i (zL (zL ((zb (nds 8 (nv a * nv b)) (i + 4) 0) * (38 : UInt64)) (zb (nds 8 (nv a * nv b)) i 0) (0 : UInt64)) c (0 : UInt64)))) 34, .box bk11 (zh (ze 4 0)) 34, .box bk23 (zh (nds 8 (nv a * nv b))) 91] En89 Hv66 rfl (zY hb90) (Yn _ _ _) rfl fun _ _ En93 Hv94 => ?_
  refine d_e [4,5,6,7,8,10,14] [] En93 fun _ En96 => ?_
  refine zA <| zg <| d_r [4,5,6,7,8,10,14] [(0, g_n (w_a i 1))] En96 fun _ En98 => ?_
  refine zg <| ⟨_, ⟨i + 1, (zy o i (zL (zL ((zb (nds 8 (nv a * nv b)) (i + 4) 0) * (38 : UInt64)) (zb (nds 8 (nv a * nv b)) i 0) (0 : UInt64)) c (0 : UInt64))), (((QX (zb (nds 8 (nv a * nv b)) (i + 4) 0) (38 : UInt64)) + (zH ((zb (nds 8 (nv a * nv b)) (i + 4) 0) * (38 : UInt64)) (zb (nds 8 (nv a * nv b)) i 0) (0 : UInt64))) + (zH (zL ((zb (nds 8 (nv a * nv b)) (i + 4) 0) * (38 : UInt64)) (zb (nds 8 (nv a * nv b)) i 0) (0 : UInt64)) c (0 : UInt64))), rfl, En98.sb, Hv94.pk [0, 1, 2], by omega, by simp [hlo], f38_in hlo (by omega) hz hv, fun j hj => by rw [getD_set_ne _ (by omega)]; exact hz j (by omega)⟩, ?_⟩
  omega
 refine wp_exit <| zI <| zI <| z9 <| zg <| wp_seq <| wp_block ?_
 have hi4 : i = 4 := by omega
 rw [hi4] at hv
 obtain ⟨H, hH0, hH1, hH2⟩ := f38_val (nds_len 8 (nv a * nv b))
 rw [← hv] at hH1 hH2
 have hq : (nv o + W256 * c.toNat) % mF 1 = (nv a * nv b) % mF 1 ∧ c.toNat ≤ 38 := f38_end ha hb hlo hH1 hH2
 refine Qh (fun ms99 ac wo => ∃ (p : List UInt64) (d : UInt64), ms99 = (nv p + W256 * d.toNat : Nat) ∧ Env ac 61 [(4, pt bk11), (5, pt bk23), (6, zn d), (7, pt bk34), (14, ni i)] ∧ Ev w [] wo [.box bk34 (zh p) 34, .box bk11 (zh (ze 4 0)) 34, .box bk23 (zh (nds 8 (nv a * nv b))) 91] ∧ (za p = 4) ∧ ((nv p + W256 * d.toNat) % mF 1 = (nv a * nv b) % mF 1) ∧ (d.toNat ≤ 38)) ⟨_, o, c, rfl, En49.sb, Hv46.pk [0, 1, 2], hlo, hq.1, hq.2⟩ ?_
 rintro mm105 _ _ ⟨p, d, rfl, En103, Hv104, hlp, hmp, hcp⟩
 refine wp_seq <| d_s [4,5,6,7,14,49] [] En103 fun _ En107 => ?_
 refine c_n ((zB d : Nat) : Int) (0 : Int) En107 (fun hc108 => ?_) (fun hc108 => ?_)
 ·
  refine wp_skip <| zg <| wp_block <| zm <| f_o <| m_a 0 0 4 (zh p) En107 Hv104 rfl (zq (zc hlp)) (zc hlp) fun _ En110 => ?_
  refine d_k [4,5,6,7,14,51,54] [(2, g_i .u64 (Go.Dbr.u64_mul (x := (38 : UInt64)) (y := d) rfl rfl))] 4 En110 fun _ En112 => ?_
  refine f_o <| c_p En112 Hv104 (plus_go _ p ([(38 : UInt64) * d, 0, 0, 0] : List UInt64) hlp (show za ([(38 : UInt64) * d, 0, 0, 0] : List UInt64) = 4 from rfl)) fun _ _ En118 Hv119 => ?_
  refine d_k [4,5,6,7,14,56,57] [] 8 En118 fun _ En121 => ?_
  refine f_o <| m_g 0 0 4 (zh (nd (nv p + nv ([(38 : UInt64) * d, 0, 0, 0] : List UInt64)))) _ [.box bk34 (zh (nd (nv p + nv ([(38 : UInt64) * d, 0, 0, 0] : List UInt64)))) 34, .box bk11 (zh (ze 4 0)) 34, .box bk23 (zh (nds 8 (nv a * nv b))) 91] En121 Hv119 rfl (zc (nds_len _ _)) (by rw [(zc hlp)]; first | decide | (simp; done)) (zv _) (zs (zc hlp)) rfl fun _ _ En124 Hv125 => ?_
  refine d_e [4,5,6,7,14] [] En124 fun _ En127 => ?_
  refine zA <| zg <| ⟨_, ⟨(nd (nv p + nv ([(38 : UInt64) * d, 0, 0, 0] : List UInt64))), (u1 (W256 ≤ nv p + nv ([(38 : UInt64) * d, 0, 0, 0] : List UInt64))), rfl, En127.sb, Hv125.pk [0, 1, 2], nds_len _ _, (step38 hlp hcp hmp).1, Nat.le_trans (u1_le _) (by decide)⟩, ?_⟩
  rw [(step38 hlp hcp hmp).2]; simp only [W256]; omega
 refine wp_exit <| zI <| zI <| z9 <| zg <| wp_seq <| r_c (fun ac wo => Env ac 61 [(4, pt bk11), (5, pt bk23), (6, zn d), (7, pt bk34), (14, ni i)] ∧ Ev w [] wo [.box bk34 (zh p) 34, .box bk11 (zh (nd (nv p % nv (nd (mF 1))))) 34, .box bk23 (zh (nds 8 (nv a * nv b))) 91]) ?_ ?_
 ·
  refine h_s (fun wv => Ev w [] wv [.box bk34 (zh p) 34]) [] 4 ?_
  have wo128 := Hv104.trans (z4 Hv104.heap)
  refine q_r 0 (s := Instr.loadAt 34 (pt bk34)) (v := .agg (zi (zh p))) En107 (fun w hS => run_loadAgg2 (m := 4) (cs := zh p) (zc hlp) (by kernel_rfl) (by kernel_rfl) (hS.heap.cells (k := 0) (off := 0) (m := 4) rfl (zq (zc hlp)))) (wo128.pk [0]) fun _ En190 => ?_
  refine q_t 1 ?_
  refine c_p En190 wo128 (prime1_go _) fun _ _ En196 Hv197 => ?_
  refine ⟨fun _ => Hv197.pk [0], ?_⟩
  refine q_t 2 ?_
  refine c_p En196 Hv197 (right_go _ p (nd (mF 1)) hlp (nds_len _ _) (by rw [nv_mF]; decide)) fun _ _ En203 Hv204 => ?_
  refine ⟨fun _ => Hv204.pk [0], ?_⟩
  refine q_t 3 ?_
  refine m_g 1 0 4 (zh (nd (nv p % nv (nd (mF 1))))) _ [.box bk34 (zh p) 34, .box bk11 (zh (nd (nv p % nv (nd (mF 1))))) 34, .box bk23 (zh (nds 8 (nv a * nv b))) 91] En203 Hv204 rfl (zc (nds_len _ _)) (by rw [(zc (zf))]; first | decide | (simp; done)) (zv _) (zs (zc (zf))) rfl fun _ _ En207 Hv208 => ?_
  refine ⟨fun _ => Hv208.pk [0], ?_⟩
  exact h_e ⟨En207.sb, Hv208.pk [0, 1, 2]⟩
 rintro _ _ ⟨En211, Hv212⟩
 refine zg <| wp_ret <| Zj (v := .agg (zi (zh (nd (nv p % nv (nd (mF 1))))))) (t := 4) (T := 34) (ad := ⟨bk11, 0, none⟩) En211 (by kernel_rfl) (by kernel_rfl) (zM (t := 34) (k := 1) (off := 0) (m := 4) (xs := zh (nd (nv p % nv (nd (mF 1))))) Hv212 rfl (zq (zc (nds_len _ _))) (zc (nds_len _ _)) (by kernel_rfl) (by kernel_rfl)) ?_
 have hd0 : d.toNat = 0 := by omega
 have he : nd (nv p % nv (nd (mF 1))) = nd ((nv a * nv b) % mF 1) := by rw [← hmp, hd0, nv_mF, Qv, ZM]
 exact ⟨by rw [he], Hv212.pk []⟩

end Go.Proofs.YtlnogkmnklfjlaaDoor
