/- Layer 4: numbers of four words: differences, sums. -/
import Derived.Test.YtpfhmbbiadpbeaaShape
import Derived.Test.YtpfhmbbiadpbeaaWide
import Derived.Test.YtpfhmbbiadpbeaaZero
import Derived.Test.YtpfhmbbiadpbeaaDense
namespace Go.Proofs.Ytpfhmbbiadpbeaa
open Go.Dbr
set_option maxRecDepth 100000
set_option maxHeartbeats 2000000
set_option linter.unusedVariables false
set_option linter.unusedSimpArgs false

abbrev pt (b : Nat) : Value := .pointer (some (Addr.mk b 0 none))
abbrev ni (n : Nat) : Value := .int .i64 (n : Int)
/-- 2^256 -/
abbrev W256 : Nat := 115792089237316195423570985008687907853269984665640564039457584007913129639936
abbrev nv (l : List UInt64) : Nat := dv 18446744073709551616 l
/-- so many digits of a number, the lowest first -/
def nds : Nat → Nat → List UInt64
  | 0, _ => []
  | k + 1, n => UInt64.ofNat n :: nds k (n / 18446744073709551616)
abbrev nd (n : Nat) : List UInt64 := nds 4 n
theorem nds_len : ∀ (k n : Nat), (nds k n).length = k
  | 0, _ => rfl
  | k + 1, n => by rw [nds, List.length_cons, nds_len k]
theorem ofNat_val (n : Nat) : (UInt64.ofNat n).toNat = n % 18446744073709551616 := by
  show (BitVec.ofNat 64 n).toNat = n % 18446744073709551616
  rw [BitVec.toNat_ofNat]
theorem nds_val : ∀ (k n : Nat), dv 18446744073709551616 (nds k n) = n % 18446744073709551616 ^ k
  | 0, n => by rw [Nat.pow_zero, Nat.mod_one]; rfl
  | k + 1, n => by
    rw [nds, dv_cons, nds_val k, ofNat_val, Nat.pow_succ, Nat.mul_comm (18446744073709551616 ^ k), Nat.mod_mul]
theorem w256_pow : 18446744073709551616 ^ 4 = W256 := by decide
theorem nd_val (n : Nat) : nv (nd n) = n % W256 := by rw [nv, nd, nds_val, w256_pow]
theorem nds_dv : ∀ (l : List UInt64), nds l.length (dv 18446744073709551616 l) = l
  | [] => rfl
  | x :: r => by
    have hx := lt64 x
    rw [List.length_cons, nds, dv_cons]
    have h1 : (x.toNat + 18446744073709551616 * dv 18446744073709551616 r) / 18446744073709551616 = dv 18446744073709551616 r := by omega
    have h2 : UInt64.ofNat (x.toNat + 18446744073709551616 * dv 18446744073709551616 r) = x := by
      apply UInt64.toNat_inj.1
      rw [ofNat_val]
      omega
    rw [h1, h2, nds_dv r]
theorem nds_of {l : List UInt64} {k n : Nat} (hl : l.length = k) (h : dv 18446744073709551616 l = n) : l = nds k n := by rw [← h, ← hl, nds_dv]
theorem nds_mod : ∀ (k n : Nat), nds k (n % 18446744073709551616 ^ k) = nds k n
  | k, n => (nds_of (nds_len k n) (nds_val k n)).symm
theorem nd_mod (n : Nat) : nd (n % W256) = nd n := by rw [← w256_pow]; exact nds_mod 4 n
theorem nd_of {l : List UInt64} {n : Nat} (hl : l.length = 4) (h : nv l = n) : l = nd n := nds_of hl h
theorem dv_lt : ∀ (l : List UInt64), dv 18446744073709551616 l < 18446744073709551616 ^ l.length
  | [] => by decide
  | x :: r => by
    have h1 := dv_lt r
    have h2 := lt64 x
    rw [dv_cons, List.length_cons, Nat.pow_succ]
    generalize 18446744073709551616 ^ r.length = q at *
    generalize dv 18446744073709551616 r = d at *
    have : 18446744073709551616 * (d + 1) ≤ 18446744073709551616 * q := Nat.mul_le_mul_left _ h1
    rw [Nat.mul_comm q]
    omega
theorem nv_lt {l : List UInt64} (hl : l.length = 4) : nv l < W256 := by
  have := dv_lt l
  rw [hl, w256_pow] at this
  exact this
theorem nv_inj {l m : List UInt64} (hl : l.length = 4) (hm : m.length = 4) (h : nv l = nv m) : l = m := (nd_of hl h).trans (nd_of hm rfl).symm
theorem nv4 (a b c d : UInt64) : nv [a, b, c, d] = a.toNat + 18446744073709551616 * (b.toNat + 18446744073709551616 * (c.toNat + 18446744073709551616 * d.toNat)) := by
  simp only [nv, dv, Nat.mul_zero, Nat.add_zero]
/-- what is borrowed from the digit -/
def sbF (a b : List UInt64) : Nat → UInt64
  | 0 => 0
  | i + 1 => subHi (List.getD a i 0) (List.getD b i 0) (sbF a b i)
def adF (a b : List UInt64) : Nat → UInt64
  | 0 => 0
  | i + 1 => addHi (List.getD a i 0) (List.getD b i 0) (adF a b i)
def minL (a b : List UInt64) : List UInt64 := [subLo (List.getD a 0 0) (List.getD b 0 0) (sbF a b 0), subLo (List.getD a 1 0) (List.getD b 1 0) (sbF a b 1), subLo (List.getD a 2 0) (List.getD b 2 0) (sbF a b 2), subLo (List.getD a 3 0) (List.getD b 3 0) (sbF a b 3)]
def plusL (a b : List UInt64) : List UInt64 := [addLo (List.getD a 0 0) (List.getD b 0 0) (adF a b 0), addLo (List.getD a 1 0) (List.getD b 1 0) (adF a b 1), addLo (List.getD a 2 0) (List.getD b 2 0) (adF a b 2), addLo (List.getD a 3 0) (List.getD b 3 0) (adF a b 3)]
theorem sbF_le (a b : List UInt64) : ∀ i, (sbF a b i).toNat ≤ 1
  | 0 => Nat.zero_le 1
  | _ + 1 => subHi_le
theorem adF_le (a b : List UInt64) : ∀ i, (adF a b i).toNat ≤ 1
  | 0 => Nat.zero_le 1
  | i + 1 => addHi_le (adF_le a b i)
theorem min_eq {a b : List UInt64} (ha : a.length = 4) (hb : b.length = 4) : nv (minL a b) + nv b = nv a + W256 * (sbF a b 4).toNat := by
  match a, ha, b, hb with
  | [a0, a1, a2, a3], _, [b0, b1, b2, b3], _ =>
    have l0 := sbF_le [a0, a1, a2, a3] [b0, b1, b2, b3] 0
    have l1 := sbF_le [a0, a1, a2, a3] [b0, b1, b2, b3] 1
    have l2 := sbF_le [a0, a1, a2, a3] [b0, b1, b2, b3] 2
    have l3 := sbF_le [a0, a1, a2, a3] [b0, b1, b2, b3] 3
    have e0 := sub_val (x := a0) (y := b0) l0
    have e1 := sub_val (x := a1) (y := b1) l1
    have e2 := sub_val (x := a2) (y := b2) l2
    have e3 := sub_val (x := a3) (y := b3) l3
    have z : (sbF [a0, a1, a2, a3] [b0, b1, b2, b3] 0).toNat = 0 := rfl
    rw [minL, nv4, nv4, nv4]
    change _ = _ + 115792089237316195423570985008687907853269984665640564039457584007913129639936 * (subHi a3 b3 (sbF [a0, a1, a2, a3] [b0, b1, b2, b3] 3)).toNat
    simp only [List.getD, List.getElem?_cons_zero, List.getElem?_cons_succ, Option.getD_some] at *
    change _ = a0.toNat + 18446744073709551616 * (sbF [a0, a1, a2, a3] [b0, b1, b2, b3] 1).toNat at e0
    change _ = a1.toNat + 18446744073709551616 * (sbF [a0, a1, a2, a3] [b0, b1, b2, b3] 2).toNat at e1
    change _ = a2.toNat + 18446744073709551616 * (sbF [a0, a1, a2, a3] [b0, b1, b2, b3] 3).toNat at e2
    omega
theorem plus_eq {a b : List UInt64} (ha : a.length = 4) (hb : b.length = 4) : nv (plusL a b) + W256 * (adF a b 4).toNat = nv a + nv b := by
  match a, ha, b, hb with
  | [a0, a1, a2, a3], _, [b0, b1, b2, b3], _ =>
    have e0 := add_val (x := a0) (y := b0) (c := adF [a0, a1, a2, a3] [b0, b1, b2, b3] 0)
    have e1 := add_val (x := a1) (y := b1) (c := adF [a0, a1, a2, a3] [b0, b1, b2, b3] 1)
    have e2 := add_val (x := a2) (y := b2) (c := adF [a0, a1, a2, a3] [b0, b1, b2, b3] 2)
    have e3 := add_val (x := a3) (y := b3) (c := adF [a0, a1, a2, a3] [b0, b1, b2, b3] 3)
    have z : (adF [a0, a1, a2, a3] [b0, b1, b2, b3] 0).toNat = 0 := rfl
    rw [plusL, nv4, nv4, nv4]
    change _ + 115792089237316195423570985008687907853269984665640564039457584007913129639936 * (addHi a3 b3 (adF [a0, a1, a2, a3] [b0, b1, b2, b3] 3)).toNat = _
    simp only [List.getD, List.getElem?_cons_zero, List.getElem?_cons_succ, Option.getD_some] at *
    change _ + 18446744073709551616 * (adF [a0, a1, a2, a3] [b0, b1, b2, b3] 1).toNat = _ at e0
    change _ + 18446744073709551616 * (adF [a0, a1, a2, a3] [b0, b1, b2, b3] 2).toNat = _ at e1
    change _ + 18446744073709551616 * (adF [a0, a1, a2, a3] [b0, b1, b2, b3] 3).toNat = _ at e2
    omega
theorem minL_len (a b : List UInt64) : (minL a b).length = 4 := rfl
theorem plusL_len (a b : List UInt64) : (plusL a b).length = 4 := rfl
/-- 1 where it holds -/
def u1 (p : Prop) [Decidable p] : UInt64 := if p then 1 else 0
theorem u1_le (p : Prop) [Decidable p] : (u1 p).toNat ≤ 1 := by unfold u1; split <;> decide
theorem u1_val (p : Prop) [Decidable p] : (u1 p).toNat = if p then 1 else 0 := by unfold u1; split <;> rfl
theorem sb_nd {a b : List UInt64} (ha : a.length = 4) (hb : b.length = 4) : sbF a b 4 = u1 (nv a < nv b) := by
  have h := min_eq ha hb
  have h1 := nv_lt ha
  have h2 := nv_lt hb
  have h3 := nv_lt (minL_len a b)
  have h4 := sbF_le a b 4
  simp only [W256] at *
  apply UInt64.toNat_inj.1
  rw [u1_val]
  split <;> omega
theorem min_nd {a b : List UInt64} (ha : a.length = 4) (hb : b.length = 4) : minL a b = nd (nv a + W256 - nv b) := by
  have h := min_eq ha hb
  have h1 := nv_lt ha
  have h2 := nv_lt hb
  have h3 := nv_lt (minL_len a b)
  have h4 := sbF_le a b 4
  simp only [W256] at *
  refine nv_inj rfl (nds_len _ _) ?_
  rw [nd_val]
  simp only [W256] at *
  omega
theorem ad_nd {a b : List UInt64} (ha : a.length = 4) (hb : b.length = 4) : adF a b 4 = u1 (W256 ≤ nv a + nv b) := by
  have h := plus_eq ha hb
  have h1 := nv_lt ha
  have h2 := nv_lt hb
  have h3 := nv_lt (plusL_len a b)
  have h4 := adF_le a b 4
  simp only [W256] at *
  apply UInt64.toNat_inj.1
  rw [u1_val]
  split <;> omega
theorem plus_nd {a b : List UInt64} (ha : a.length = 4) (hb : b.length = 4) : plusL a b = nd (nv a + nv b) := by
  have h := plus_eq ha hb
  have h1 := nv_lt ha
  have h2 := nv_lt hb
  have h3 := nv_lt (plusL_len a b)
  have h4 := adF_le a b 4
  simp only [W256] at *
  refine nv_inj rfl (nds_len _ _) ?_
  rw [nd_val]
  simp only [W256] at *
  omega
theorem u1_one (p : Prop) [Decidable p] : (((u1 p).toNat : Int) == (1 : Int)) = decide p := by
  rw [u1_val]
  by_cases h : p
  · rw [if_pos h, decide_eq_true h]; rfl
  · rw [if_neg h, decide_eq_false h]; rfl

theorem less4 (w : World) (ba bb : Nat) (a0 a1 a2 a3 b0 b1 b2 b3 : UInt64) (hH : Heap w [.box ba [uv64 a0, uv64 a1, uv64 a2, uv64 a3] 24, .box bb [uv64 b0, uv64 b1, uv64 b2, uv64 b3] 24]) : Calls Try.prog 66 #[pt ba, pt bb] w fun e w' => e = .returned (.bool (decide (nv [a0, a1, a2, a3] < nv [b0, b1, b2, b3]))) ∧ Ev w [.box ba [uv64 a0, uv64 a1, uv64 a2, uv64 a3] 24, .box bb [uv64 b0, uv64 b1, uv64 b2, uv64 b3] 24] w' [.box ba [uv64 a0, uv64 a1, uv64 a2, uv64 a3] 24, .box bb [uv64 b0, uv64 b1, uv64 b2, uv64 b3] 24] := by
 refine d_0 [(0, pt ba), (1, pt bb)] 28 Go.Proofs.Try.func66 Go.Proofs.Try.ntmps66 (hH) fun act0 En0 Hv0 => ?_
 refine d_s [0,1,4] [] En0 fun ac1 En2 => ?_
 refine d_s [0,1,4,5] [] En2 fun ac3 En4 => ?_
 refine wp_seq ?_
 refine d_s [0,1,4,5,7] [] En4 fun ac5 En6 => ?_
 refine wp_block ?_
 refine loop_enter ?_
 refine loop_once ?_
 refine d_s [0,1,4,5,7,8] [] En6 fun ac7 En8 => ?_
 refine wp_seq ?_
 refine c_t En8 ?_
 refine wp_skip ?_
 refine then_normal ?_
 refine wp_seq ?_
 refine wp_block ?_
 refine d_s [0,1,4,5,6,7] [] En8 fun ac9 En10 => ?_
 refine r_c (fun ac wo => Env ac 28 [(0, pt ba), (1, pt bb), (4, .bool false), (5, uv64 (subHi a0 b0 (0 : UInt64))), (7, .int .i64 0)] ∧ Ev w [.box ba [uv64 a0, uv64 a1, uv64 a2, uv64 a3] 24, .box bb [uv64 b0, uv64 b1, uv64 b2, uv64 b3] 24] wo [.box ba [uv64 a0, uv64 a1, uv64 a2, uv64 a3] 24, .box bb [uv64 b0, uv64 b1, uv64 b2, uv64 b3] 24]) ?_ ?_
 ·
  refine h_s (fun wv => Ev w [.box ba [uv64 a0, uv64 a1, uv64 a2, uv64 a3] 24, .box bb [uv64 b0, uv64 b1, uv64 b2, uv64 b3] 24] wv [.box ba [uv64 a0, uv64 a1, uv64 a2, uv64 a3] 24, .box bb [uv64 b0, uv64 b1, uv64 b2, uv64 b3] 24]) [] 16 ?_
  have wo11 := Hv0.trans (Ev.drew Hv0.heap)
  refine q_s [0,1,2,3] [] 12 En10 (wo11.pk [0, 1]) fun ac44 En45 => ?_
  refine q_l 0 4 En45 (wo11.pk [0, 1]) fun ac46 En47 => ?_
  refine q_s [5,6,7,8] [] 7 En47 (wo11.pk [0, 1]) fun ac48 En49 => ?_
  refine q_l 1 9 En49 (wo11.pk [0, 1]) fun ac50 En51 => ?_
  refine q_s [10] [] 5 En51 (wo11.pk [0, 1]) fun ac52 En53 => ?_
  refine h_ext (d := some 22) (f := 91) (args := #[uv64 a0, uv64 b0, uv64 (0 : UInt64)]) (v := .tuple #[uv64 (subLo a0 b0 (0 : UInt64)), uv64 (subHi a0 b0 (0 : UInt64))]) En53 11 (by kernel_rfl) (Go.Dbr.ext_sub64 Go.Proofs.Try.func91 (by kernel_rfl) (by kernel_rfl) (by kernel_rfl) (by kernel_rfl) a0 b0 (0 : UInt64) (by decide)) (by kernel_rfl) rfl (fun _ => wo11.pk [0, 1]) fun ac54 En55 => ?_
  refine q_s [12,13,14,15] [] 0 En55 (wo11.pk [0, 1]) fun ac56 En57 => ?_
  exact h_e ⟨En57.sb, wo11.pk [0, 1]⟩
 rintro ac58 wo59 ⟨En60, Hv61⟩
 refine block_normal ?_
 refine then_normal ?_
 refine d_r [0,1,4,5,7] [] En60 fun ac62 En63 => ?_
 refine then_normal ?_
 refine loop_once ?_
 refine d_s [0,1,4,5,7,8] [] En63 fun ac64 En65 => ?_
 refine wp_seq ?_
 refine c_t En65 ?_
 refine wp_skip ?_
 refine then_normal ?_
 refine wp_seq ?_
 refine wp_block ?_
 refine d_s [0,1,4,5,6,7] [] En65 fun ac66 En67 => ?_
 refine r_c (fun ac wo => Env ac 28 [(0, pt ba), (1, pt bb), (4, .bool false), (5, uv64 (subHi a1 b1 (subHi a0 b0 (0 : UInt64)))), (7, .int .i64 1)] ∧ Ev w [.box ba [uv64 a0, uv64 a1, uv64 a2, uv64 a3] 24, .box bb [uv64 b0, uv64 b1, uv64 b2, uv64 b3] 24] wo [.box ba [uv64 a0, uv64 a1, uv64 a2, uv64 a3] 24, .box bb [uv64 b0, uv64 b1, uv64 b2, uv64 b3] 24]) ?_ ?_
 ·
  refine h_s (fun wv => Ev w [.box ba [uv64 a0, uv64 a1, uv64 a2, uv64 a3] 24, .box bb [uv64 b0, uv64 b1, uv64 b2, uv64 b3] 24] wv [.box ba [uv64 a0, uv64 a1, uv64 a2, uv64 a3] 24, .box bb [uv64 b0, uv64 b1, uv64 b2, uv64 b3] 24]) [] 16 ?_
  have wo68 := Hv61.trans (Ev.drew Hv61.heap)
  refine q_s [0,1,2,3] [] 12 En67 (wo68.pk [0, 1]) fun ac101 En102 => ?_
  refine q_l 0 4 En102 (wo68.pk [0, 1]) fun ac103 En104 => ?_
  refine q_s [5,6,7,8] [] 7 En104 (wo68.pk [0, 1]) fun ac105 En106 => ?_
  refine q_l 1 9 En106 (wo68.pk [0, 1]) fun ac107 En108 => ?_
  refine q_s [10] [] 5 En108 (wo68.pk [0, 1]) fun ac109 En110 => ?_
  refine h_ext (d := some 22) (f := 91) (args := #[uv64 a1, uv64 b1, uv64 (subHi a0 b0 (0 : UInt64))]) (v := .tuple #[uv64 (subLo a1 b1 (subHi a0 b0 (0 : UInt64))), uv64 (subHi a1 b1 (subHi a0 b0 (0 : UInt64)))]) En110 11 (by kernel_rfl) (Go.Dbr.ext_sub64 Go.Proofs.Try.func91 (by kernel_rfl) (by kernel_rfl) (by kernel_rfl) (by kernel_rfl) a1 b1 (subHi a0 b0 (0 : UInt64)) (subHi_le)) (by kernel_rfl) rfl (fun _ => wo68.pk [0, 1]) fun ac111 En112 => ?_
  refine q_s [12,13,14,15] [] 0 En112 (wo68.pk [0, 1]) fun ac113 En114 => ?_
  exact h_e ⟨En114.sb, wo68.pk [0, 1]⟩
 rintro ac115 wo116 ⟨En117, Hv118⟩
 refine block_normal ?_
 refine then_normal ?_
 refine d_r [0,1,4,5,7] [] En117 fun ac119 En120 => ?_
 refine then_normal ?_
 refine loop_once ?_
 refine d_s [0,1,4,5,7,8] [] En120 fun ac121 En122 => ?_
 refine wp_seq ?_
 refine c_t En122 ?_
 refine wp_skip ?_
 refine then_normal ?_
 refine wp_seq ?_
 refine wp_block ?_
 refine d_s [0,1,4,5,6,7] [] En122 fun ac123 En124 => ?_
 refine r_c (fun ac wo => Env ac 28 [(0, pt ba), (1, pt bb), (4, .bool false), (5, uv64 (subHi a2 b2 (subHi a1 b1 (subHi a0 b0 (0 : UInt64))))), (7, .int .i64 2)] ∧ Ev w [.box ba [uv64 a0, uv64 a1, uv64 a2, uv64 a3] 24, .box bb [uv64 b0, uv64 b1, uv64 b2, uv64 b3] 24] wo [.box ba [uv64 a0, uv64 a1, uv64 a2, uv64 a3] 24, .box bb [uv64 b0, uv64 b1, uv64 b2, uv64 b3] 24]) ?_ ?_
 ·
  refine h_s (fun wv => Ev w [.box ba [uv64 a0, uv64 a1, uv64 a2, uv64 a3] 24, .box bb [uv64 b0, uv64 b1, uv64 b2, uv64 b3] 24] wv [.box ba [uv64 a0, uv64 a1, uv64 a2, uv64 a3] 24, .box bb [uv64 b0, uv64 b1, uv64 b2, uv64 b3] 24]) [] 16 ?_
  have wo125 := Hv118.trans (Ev.drew Hv118.heap)
  refine q_s [0,1,2,3] [] 12 En124 (wo125.pk [0, 1]) fun ac158 En159 => ?_
  refine q_l 0 4 En159 (wo125.pk [0, 1]) fun ac160 En161 => ?_
  refine q_s [5,6,7,8] [] 7 En161 (wo125.pk [0, 1]) fun ac162 En163 => ?_
  refine q_l 1 9 En163 (wo125.pk [0, 1]) fun ac164 En165 => ?_
  refine q_s [10] [] 5 En165 (wo125.pk [0, 1]) fun ac166 En167 => ?_
  refine h_ext (d := some 22) (f := 91) (args := #[uv64 a2, uv64 b2, uv64 (subHi a1 b1 (subHi a0 b0 (0 : UInt64)))]) (v := .tuple #[uv64 (subLo a2 b2 (subHi a1 b1 (subHi a0 b0 (0 : UInt64)))), uv64 (subHi a2 b2 (subHi a1 b1 (subHi a0 b0 (0 : UInt64))))]) En167 11 (by kernel_rfl) (Go.Dbr.ext_sub64 Go.Proofs.Try.func91 (by kernel_rfl) (by kernel_rfl) (by kernel_rfl) (by kernel_rfl) a2 b2 (subHi a1 b1 (subHi a0 b0 (0 : UInt64))) (subHi_le)) (by kernel_rfl) rfl (fun _ => wo125.pk [0, 1]) fun ac168 En169 => ?_
  refine q_s [12,13,14,15] [] 0 En169 (wo125.pk [0, 1]) fun ac170 En171 => ?_
  exact h_e ⟨En171.sb, wo125.pk [0, 1]⟩
 rintro ac172 wo173 ⟨En174, Hv175⟩
 refine block_normal ?_
 refine then_normal ?_
 refine d_r [0,1,4,5,7] [] En174 fun ac176 En177 => ?_
 refine then_normal ?_
 refine loop_once ?_
 refine d_s [0,1,4,5,7,8] [] En177 fun ac178 En179 => ?_
 refine wp_seq ?_
 refine c_t En179 ?_
 refine wp_skip ?_
 refine then_normal ?_
 refine wp_seq ?_
 refine wp_block ?_
 refine d_s [0,1,4,5,6,7] [] En179 fun ac180 En181 => ?_
 refine r_c (fun ac wo => Env ac 28 [(0, pt ba), (1, pt bb), (4, .bool false), (5, uv64 (subHi a3 b3 (subHi a2 b2 (subHi a1 b1 (subHi a0 b0 (0 : UInt64)))))), (7, .int .i64 3)] ∧ Ev w [.box ba [uv64 a0, uv64 a1, uv64 a2, uv64 a3] 24, .box bb [uv64 b0, uv64 b1, uv64 b2, uv64 b3] 24] wo [.box ba [uv64 a0, uv64 a1, uv64 a2, uv64 a3] 24, .box bb [uv64 b0, uv64 b1, uv64 b2, uv64 b3] 24]) ?_ ?_
 ·
  refine h_s (fun wv => Ev w [.box ba [uv64 a0, uv64 a1, uv64 a2, uv64 a3] 24, .box bb [uv64 b0, uv64 b1, uv64 b2, uv64 b3] 24] wv [.box ba [uv64 a0, uv64 a1, uv64 a2, uv64 a3] 24, .box bb [uv64 b0, uv64 b1, uv64 b2, uv64 b3] 24]) [] 16 ?_
  have wo182 := Hv175.trans (Ev.drew Hv175.heap)
  refine q_s [0,1,2,3] [] 12 En181 (wo182.pk [0, 1]) fun ac215 En216 => ?_
  refine q_l 0 4 En216 (wo182.pk [0, 1]) fun ac217 En218 => ?_
  refine q_s [5,6,7,8] [] 7 En218 (wo182.pk [0, 1]) fun ac219 En220 => ?_
  refine q_l 1 9 En220 (wo182.pk [0, 1]) fun ac221 En222 => ?_
  refine q_s [10] [] 5 En222 (wo182.pk [0, 1]) fun ac223 En224 => ?_
  refine h_ext (d := some 22) (f := 91) (args := #[uv64 a3, uv64 b3, uv64 (subHi a2 b2 (subHi a1 b1 (subHi a0 b0 (0 : UInt64))))]) (v := .tuple #[uv64 (subLo a3 b3 (subHi a2 b2 (subHi a1 b1 (subHi a0 b0 (0 : UInt64))))), uv64 (subHi a3 b3 (subHi a2 b2 (subHi a1 b1 (subHi a0 b0 (0 : UInt64)))))]) En224 11 (by kernel_rfl) (Go.Dbr.ext_sub64 Go.Proofs.Try.func91 (by kernel_rfl) (by kernel_rfl) (by kernel_rfl) (by kernel_rfl) a3 b3 (subHi a2 b2 (subHi a1 b1 (subHi a0 b0 (0 : UInt64)))) (subHi_le)) (by kernel_rfl) rfl (fun _ => wo182.pk [0, 1]) fun ac225 En226 => ?_
  refine q_s [12,13,14,15] [] 0 En226 (wo182.pk [0, 1]) fun ac227 En228 => ?_
  exact h_e ⟨En228.sb, wo182.pk [0, 1]⟩
 rintro ac229 wo230 ⟨En231, Hv232⟩
 refine block_normal ?_
 refine then_normal ?_
 refine d_r [0,1,4,5,7] [] En231 fun ac233 En234 => ?_
 refine then_normal ?_
 refine loop_once ?_
 refine d_s [0,1,4,5,7,8] [] En234 fun ac235 En236 => ?_
 refine wp_seq ?_
 refine c_f En236 ?_
 refine wp_exit ?_
 refine then_exit ?_
 refine then_exit ?_
 refine block_exit ?_
 refine then_normal ?_
 refine d_s [0,1,4,5,7] [] En236 fun ac237 En238 => ?_
 refine wp_ret ?_
 refine d_ret1 (t := 4) (v := .bool (((UInt64.toNat (subHi a3 b3 (subHi a2 b2 (subHi a1 b1 (subHi a0 b0 (0 : UInt64))))) : Nat) : Int) == (1 : Int))) En238 (by kernel_rfl) (by kernel_rfl) ?_
 have e : (((UInt64.toNat (subHi a3 b3 (subHi a2 b2 (subHi a1 b1 (subHi a0 b0 (0 : UInt64))))) : Nat) : Int) == (1 : Int)) = decide (nv [a0, a1, a2, a3] < nv [b0, b1, b2, b3]) := by
  change (((UInt64.toNat (sbF [a0, a1, a2, a3] [b0, b1, b2, b3] 4) : Nat) : Int) == (1 : Int)) = _
  rw [sb_nd rfl rfl, u1_one]
 exact ⟨by rw [e], Hv232.pk [0, 1]⟩

theorem less_go (w : World) (ba bb : Nat) (a b : List UInt64) (ha : List.length a = 4) (hb : List.length b = 4) (hH : Heap w [.box ba (u64s a) 24, .box bb (u64s b) 24]) : Calls Try.prog 66 #[pt ba, pt bb] w fun e w' => e = .returned (.bool (decide (nv a < nv b))) ∧ Ev w [.box ba (u64s a) 24, .box bb (u64s b) 24] w' [.box ba (u64s a) 24, .box bb (u64s b) 24] := by
  match a, ha, b, hb with
  | [a0, a1, a2, a3], _, [b0, b1, b2, b3], _ => exact less4 w ba bb a0 a1 a2 a3 b0 b1 b2 b3 hH

theorem minus4 (w : World) (a0 a1 a2 a3 b0 b1 b2 b3 : UInt64) : Calls Try.prog 77 #[.agg #[uv64 a0, uv64 a1, uv64 a2, uv64 a3], .agg #[uv64 b0, uv64 b1, uv64 b2, uv64 b3]] w fun e w' => e = .returned (.tuple #[.agg (List.toArray (u64s (minL [a0, a1, a2, a3] [b0, b1, b2, b3]))), uv64 (sbF [a0, a1, a2, a3] [b0, b1, b2, b3] 4)]) ∧ Ev w [] w' [] := by
 refine d_0 [(0, .agg #[uv64 a0, uv64 a1, uv64 a2, uv64 a3]), (1, .agg #[uv64 b0, uv64 b1, uv64 b2, uv64 b3])] 27 Go.Proofs.Try.func77 Go.Proofs.Try.ntmps77 (Heap.nil _) fun act0 En0 Hv0 => ?_
 refine wp_seq ?_
 refine region_from ?_
 refine f_o ?_
 refine m_m 24 [uv64 a0, uv64 a1, uv64 a2, uv64 a3] En0 Hv0 fun ac2 wo3 bk1 En4 Hv5 => ?_
 refine f_o ?_
 refine m_m 24 [uv64 b0, uv64 b1, uv64 b2, uv64 b3] En4 Hv5 fun ac7 wo8 bk6 En9 Hv10 => ?_
 refine f_o ?_
 refine m_z 24 (u64s (List.replicate 4 0)) En9 Hv10 fun ac12 wo13 bk11 En14 Hv15 => ?_
 refine d_e [2,3,4,5] [] En14 fun ac16 En17 => ?_
 refine then_normal ?_
 refine d_s [2,3,4,5,6] [] En17 fun ac18 En19 => ?_
 refine wp_seq ?_
 refine d_s [2,3,4,5,6,8] [] En19 fun ac20 En21 => ?_
 refine wp_block ?_
 refine loop_enter ?_
 refine loop_once ?_
 refine d_s [2,3,4,5,6,8,9] [] En21 fun ac22 En23 => ?_
 refine wp_seq ?_
 refine c_t En23 ?_
 refine wp_skip ?_
 refine then_normal ?_
 refine wp_seq ?_
 refine wp_block ?_
 refine d_s [2,3,4,5,6,7,8] [] En23 fun ac24 En25 => ?_
 refine r_c (fun ac wo => Env ac 27 [(2, pt bk1), (3, pt bk6), (4, pt bk11), (5, .int .u64 0), (6, uv64 (subHi a0 b0 (0 : UInt64))), (8, .int .i64 0)] ∧ Ev w [] wo [.box bk1 [uv64 (subLo a0 b0 (0 : UInt64)), uv64 a1, uv64 a2, uv64 a3] 24, .box bk6 [uv64 b0, uv64 b1, uv64 b2, uv64 b3] 24, .box bk11 (u64s (List.replicate 4 0)) 24]) ?_ ?_
 ·
  refine h_s (fun wv => Ev w [] wv [.box bk1 [uv64 a0, uv64 a1, uv64 a2, uv64 a3] 24, .box bk6 [uv64 b0, uv64 b1, uv64 b2, uv64 b3] 24]) [13] 15 ?_
  have wo26 := Hv15.trans (Ev.drew Hv15.heap)
  refine q_s [0,1,2] [] 12 En25 (wo26.pk [0, 1]) fun ac77 En78 => ?_
  refine q_l 0 3 En78 (wo26.pk [0, 1]) fun ac79 En80 => ?_
  refine q_s [4,5] [] 9 En80 (wo26.pk [0, 1]) fun ac81 En82 => ?_
  refine q_l 1 6 En82 (wo26.pk [0, 1]) fun ac83 En84 => ?_
  refine q_s [7] [] 7 En84 (wo26.pk [0, 1]) fun ac85 En86 => ?_
  refine h_ext (d := some 20) (f := 91) (args := #[uv64 a0, uv64 b0, uv64 (0 : UInt64)]) (v := .tuple #[uv64 (subLo a0 b0 (0 : UInt64)), uv64 (subHi a0 b0 (0 : UInt64))]) En86 8 (by kernel_rfl) (Go.Dbr.ext_sub64 Go.Proofs.Try.func91 (by kernel_rfl) (by kernel_rfl) (by kernel_rfl) (by kernel_rfl) a0 b0 (0 : UInt64) (by decide)) (by kernel_rfl) rfl (fun _ => wo26.pk [0, 1]) fun ac87 En88 => ?_
  refine q_s [9,10,11,12] [] 2 En88 (wo26.pk [0, 1]) fun ac89 En90 => ?_
  refine q_t 13 ?_
  refine m_s 0 [.box bk1 [uv64 (subLo a0 b0 (0 : UInt64)), uv64 a1, uv64 a2, uv64 a3] 24, .box bk6 [uv64 b0, uv64 b1, uv64 b2, uv64 b3] 24, .box bk11 (u64s (List.replicate 4 0)) 24] En90 wo26 fun ac91 wo92 En93 Hv94 => ?_
  refine ⟨q_y, ?_⟩
  refine q_n [14] [] 0 En93 fun ac95 En96 => ?_
  exact h_e ⟨En96.sb, Hv94.pk [0, 1, 2]⟩
 rintro ac97 wo98 ⟨En99, Hv100⟩
 refine block_normal ?_
 refine then_normal ?_
 refine d_r [2,3,4,5,6,8] [] En99 fun ac101 En102 => ?_
 refine then_normal ?_
 refine loop_once ?_
 refine d_s [2,3,4,5,6,8,9] [] En102 fun ac103 En104 => ?_
 refine wp_seq ?_
 refine c_t En104 ?_
 refine wp_skip ?_
 refine then_normal ?_
 refine wp_seq ?_
 refine wp_block ?_
 refine d_s [2,3,4,5,6,7,8] [] En104 fun ac105 En106 => ?_
 refine r_c (fun ac wo => Env ac 27 [(2, pt bk1), (3, pt bk6), (4, pt bk11), (5, .int .u64 0), (6, uv64 (subHi a1 b1 (subHi a0 b0 (0 : UInt64)))), (8, .int .i64 1)] ∧ Ev w [] wo [.box bk1 [uv64 (subLo a0 b0 (0 : UInt64)), uv64 (subLo a1 b1 (subHi a0 b0 (0 : UInt64))), uv64 a2, uv64 a3] 24, .box bk6 [uv64 b0, uv64 b1, uv64 b2, uv64 b3] 24, .box bk11 (u64s (List.replicate 4 0)) 24]) ?_ ?_
 ·
  refine h_s (fun wv => Ev w [] wv [.box bk1 [uv64 (subLo a0 b0 (0 : UInt64)), uv64 a1, uv64 a2, uv64 a3] 24, .box bk6 [uv64 b0, uv64 b1, uv64 b2, uv64 b3] 24]) [13] 15 ?_
  have wo107 := Hv100.trans (Ev.drew Hv100.heap)
  refine q_s [0,1,2] [] 12 En106 (wo107.pk [0, 1]) fun ac158 En159 => ?_
  refine q_l 0 3 En159 (wo107.pk [0, 1]) fun ac160 En161 => ?_
  refine q_s [4,5] [] 9 En161 (wo107.pk [0, 1]) fun ac162 En163 => ?_
  refine q_l 1 6 En163 (wo107.pk [0, 1]) fun ac164 En165 => ?_
  refine q_s [7] [] 7 En165 (wo107.pk [0, 1]) fun ac166 En167 => ?_
  refine h_ext (d := some 20) (f := 91) (args := #[uv64 a1, uv64 b1, uv64 (subHi a0 b0 (0 : UInt64))]) (v := .tuple #[uv64 (subLo a1 b1 (subHi a0 b0 (0 : UInt64))), uv64 (subHi a1 b1 (subHi a0 b0 (0 : UInt64)))]) En167 8 (by kernel_rfl) (Go.Dbr.ext_sub64 Go.Proofs.Try.func91 (by kernel_rfl) (by kernel_rfl) (by kernel_rfl) (by kernel_rfl) a1 b1 (subHi a0 b0 (0 : UInt64)) (subHi_le)) (by kernel_rfl) rfl (fun _ => wo107.pk [0, 1]) fun ac168 En169 => ?_
  refine q_s [9,10,11,12] [] 2 En169 (wo107.pk [0, 1]) fun ac170 En171 => ?_
  refine q_t 13 ?_
  refine m_s 0 [.box bk1 [uv64 (subLo a0 b0 (0 : UInt64)), uv64 (subLo a1 b1 (subHi a0 b0 (0 : UInt64))), uv64 a2, uv64 a3] 24, .box bk6 [uv64 b0, uv64 b1, uv64 b2, uv64 b3] 24, .box bk11 (u64s (List.replicate 4 0)) 24] En171 wo107 fun ac172 wo173 En174 Hv175 => ?_
  refine ⟨q_y, ?_⟩
  refine q_n [14] [] 0 En174 fun ac176 En177 => ?_
  exact h_e ⟨En177.sb, Hv175.pk [0, 1, 2]⟩
 rintro ac178 wo179 ⟨En180, Hv181⟩
 refine block_normal ?_
 refine then_normal ?_
 refine d_r [2,3,4,5,6,8] [] En180 fun ac182 En183 => ?_
 refine then_normal ?_
 refine loop_once ?_
 refine d_s [2,3,4,5,6,8,9] [] En183 fun ac184 En185 => ?_
 refine wp_seq ?_
 refine c_t En185 ?_
 refine wp_skip ?_
 refine then_normal ?_
 refine wp_seq ?_
 refine wp_block ?_
 refine d_s [2,3,4,5,6,7,8] [] En185 fun ac186 En187 => ?_
 refine r_c (fun ac wo => Env ac 27 [(2, pt bk1), (3, pt bk6), (4, pt bk11), (5, .int .u64 0), (6, uv64 (subHi a2 b2 (subHi a1 b1 (subHi a0 b0 (0 : UInt64))))), (8, .int .i64 2)] ∧ Ev w [] wo [.box bk1 [uv64 (subLo a0 b0 (0 : UInt64)), uv64 (subLo a1 b1 (subHi a0 b0 (0 : UInt64))), uv64 (subLo a2 b2 (subHi a1 b1 (subHi a0 b0 (0 : UInt64)))), uv64 a3] 24, .box bk6 [uv64 b0, uv64 b1, uv64 b2, uv64 b3] 24, .box bk11 (u64s (List.replicate 4 0)) 24]) ?_ ?_
 ·
  refine h_s (fun wv => Ev w [] wv [.box bk1 [uv64 (subLo a0 b0 (0 : UInt64)), uv64 (subLo a1 b1 (subHi a0 b0 (0 : UInt64))), uv64 a2, uv64 a3] 24, .box bk6 [uv64 b0, uv64 b1, uv64 b2, uv64 b3] 24]) [13] 15 ?_
  have wo188 := Hv181.trans (Ev.drew Hv181.heap)
  refine q_s [0,1,2] [] 12 En187 (wo188.pk [0, 1]) fun ac239 En240 => ?_
  refine q_l 0 3 En240 (wo188.pk [0, 1]) fun ac241 En242 => ?_
  refine q_s [4,5] [] 9 En242 (wo188.pk [0, 1]) fun ac243 En244 => ?_
  refine q_l 1 6 En244 (wo188.pk [0, 1]) fun ac245 En246 => ?_
  refine q_s [7] [] 7 En246 (wo188.pk [0, 1]) fun ac247 En248 => ?_
  refine h_ext (d := some 20) (f := 91) (args := #[uv64 a2, uv64 b2, uv64 (subHi a1 b1 (subHi a0 b0 (0 : UInt64)))]) (v := .tuple #[uv64 (subLo a2 b2 (subHi a1 b1 (subHi a0 b0 (0 : UInt64)))), uv64 (subHi a2 b2 (subHi a1 b1 (subHi a0 b0 (0 : UInt64))))]) En248 8 (by kernel_rfl) (Go.Dbr.ext_sub64 Go.Proofs.Try.func91 (by kernel_rfl) (by kernel_rfl) (by kernel_rfl) (by kernel_rfl) a2 b2 (subHi a1 b1 (subHi a0 b0 (0 : UInt64))) (subHi_le)) (by kernel_rfl) rfl (fun _ => wo188.pk [0, 1]) fun ac249 En250 => ?_
  refine q_s [9,10,11,12] [] 2 En250 (wo188.pk [0, 1]) fun ac251 En252 => ?_
  refine q_t 13 ?_
  refine m_s 0 [.box bk1 [uv64 (subLo a0 b0 (0 : UInt64)), uv64 (subLo a1 b1 (subHi a0 b0 (0 : UInt64))), uv64 (subLo a2 b2 (subHi a1 b1 (subHi a0 b0 (0 : UInt64)))), uv64 a3] 24, .box bk6 [uv64 b0, uv64 b1, uv64 b2, uv64 b3] 24, .box bk11 (u64s (List.replicate 4 0)) 24] En252 wo188 fun ac253 wo254 En255 Hv256 => ?_
  refine ⟨q_y, ?_⟩
  refine q_n [14] [] 0 En255 fun ac257 En258 => ?_
  exact h_e ⟨En258.sb, Hv256.pk [0, 1, 2]⟩
 rintro ac259 wo260 ⟨En261, Hv262⟩
 refine block_normal ?_
 refine then_normal ?_
 refine d_r [2,3,4,5,6,8] [] En261 fun ac263 En264 => ?_
 refine then_normal ?_
 refine loop_once ?_
 refine d_s [2,3,4,5,6,8,9] [] En264 fun ac265 En266 => ?_
 refine wp_seq ?_
 refine c_t En266 ?_
 refine wp_skip ?_
 refine then_normal ?_
 refine wp_seq ?_
 refine wp_block ?_
 refine d_s [2,3,4,5,6,7,8] [] En266 fun ac267 En268 => ?_
 refine r_c (fun ac wo => Env ac 27 [(2, pt bk1), (3, pt bk6), (4, pt bk11), (5, .int .u64 0), (6, uv64 (subHi a3 b3 (subHi a2 b2 (subHi a1 b1 (subHi a0 b0 (0 : UInt64)))))), (8, .int .i64 3)] ∧ Ev w [] wo [.box bk1 [uv64 (subLo a0 b0 (0 : UInt64)), uv64 (subLo a1 b1 (subHi a0 b0 (0 : UInt64))), uv64 (subLo a2 b2 (subHi a1 b1 (subHi a0 b0 (0 : UInt64)))), uv64 (subLo a3 b3 (subHi a2 b2 (subHi a1 b1 (subHi a0 b0 (0 : UInt64)))))] 24, .box bk6 [uv64 b0, uv64 b1, uv64 b2, uv64 b3] 24, .box bk11 (u64s (List.replicate 4 0)) 24]) ?_ ?_
 ·
  refine h_s (fun wv => Ev w [] wv [.box bk1 [uv64 (subLo a0 b0 (0 : UInt64)), uv64 (subLo a1 b1 (subHi a0 b0 (0 : UInt64))), uv64 (subLo a2 b2 (subHi a1 b1 (subHi a0 b0 (0 : UInt64)))), uv64 a3] 24, .box bk6 [uv64 b0, uv64 b1, uv64 b2, uv64 b3] 24]) [13] 15 ?_
  have wo269 := Hv262.trans (Ev.drew Hv262.heap)
  refine q_s [0,1,2] [] 12 En268 (wo269.pk [0, 1]) fun ac320 En321 => ?_
  refine q_l 0 3 En321 (wo269.pk [0, 1]) fun ac322 En323 => ?_
  refine q_s [4,5] [] 9 En323 (wo269.pk [0, 1]) fun ac324 En325 => ?_
  refine q_l 1 6 En325 (wo269.pk [0, 1]) fun ac326 En327 => ?_
  refine q_s [7] [] 7 En327 (wo269.pk [0, 1]) fun ac328 En329 => ?_
  refine h_ext (d := some 20) (f := 91) (args := #[uv64 a3, uv64 b3, uv64 (subHi a2 b2 (subHi a1 b1 (subHi a0 b0 (0 : UInt64))))]) (v := .tuple #[uv64 (subLo a3 b3 (subHi a2 b2 (subHi a1 b1 (subHi a0 b0 (0 : UInt64))))), uv64 (subHi a3 b3 (subHi a2 b2 (subHi a1 b1 (subHi a0 b0 (0 : UInt64)))))]) En329 8 (by kernel_rfl) (Go.Dbr.ext_sub64 Go.Proofs.Try.func91 (by kernel_rfl) (by kernel_rfl) (by kernel_rfl) (by kernel_rfl) a3 b3 (subHi a2 b2 (subHi a1 b1 (subHi a0 b0 (0 : UInt64)))) (subHi_le)) (by kernel_rfl) rfl (fun _ => wo269.pk [0, 1]) fun ac330 En331 => ?_
  refine q_s [9,10,11,12] [] 2 En331 (wo269.pk [0, 1]) fun ac332 En333 => ?_
  refine q_t 13 ?_
  refine m_s 0 [.box bk1 [uv64 (subLo a0 b0 (0 : UInt64)), uv64 (subLo a1 b1 (subHi a0 b0 (0 : UInt64))), uv64 (subLo a2 b2 (subHi a1 b1 (subHi a0 b0 (0 : UInt64)))), uv64 (subLo a3 b3 (subHi a2 b2 (subHi a1 b1 (subHi a0 b0 (0 : UInt64)))))] 24, .box bk6 [uv64 b0, uv64 b1, uv64 b2, uv64 b3] 24, .box bk11 (u64s (List.replicate 4 0)) 24] En333 wo269 fun ac334 wo335 En336 Hv337 => ?_
  refine ⟨q_y, ?_⟩
  refine q_n [14] [] 0 En336 fun ac338 En339 => ?_
  exact h_e ⟨En339.sb, Hv337.pk [0, 1, 2]⟩
 rintro ac340 wo341 ⟨En342, Hv343⟩
 refine block_normal ?_
 refine then_normal ?_
 refine d_r [2,3,4,5,6,8] [] En342 fun ac344 En345 => ?_
 refine then_normal ?_
 refine loop_once ?_
 refine d_s [2,3,4,5,6,8,9] [] En345 fun ac346 En347 => ?_
 refine wp_seq ?_
 refine c_f En347 ?_
 refine wp_exit ?_
 refine then_exit ?_
 refine then_exit ?_
 refine block_exit ?_
 refine then_normal ?_
 refine wp_seq ?_
 refine region_from ?_
 refine f_o ?_
 refine m_a 0 0 4 [uv64 (subLo a0 b0 (0 : UInt64)), uv64 (subLo a1 b1 (subHi a0 b0 (0 : UInt64))), uv64 (subLo a2 b2 (subHi a1 b1 (subHi a0 b0 (0 : UInt64)))), uv64 (subLo a3 b3 (subHi a2 b2 (subHi a1 b1 (subHi a0 b0 (0 : UInt64)))))] En347 Hv343 rfl rfl rfl fun ac348 En349 => ?_
 refine d_k [2,3,4,5,6,8,25,26] [] 2 En349 fun ac350 En351 => ?_
 refine f_o ?_
 refine m_g 2 0 4 [uv64 (subLo a0 b0 (0 : UInt64)), uv64 (subLo a1 b1 (subHi a0 b0 (0 : UInt64))), uv64 (subLo a2 b2 (subHi a1 b1 (subHi a0 b0 (0 : UInt64)))), uv64 (subLo a3 b3 (subHi a2 b2 (subHi a1 b1 (subHi a0 b0 (0 : UInt64)))))] [uv64 (subLo a0 b0 (0 : UInt64)), uv64 (subLo a1 b1 (subHi a0 b0 (0 : UInt64))), uv64 (subLo a2 b2 (subHi a1 b1 (subHi a0 b0 (0 : UInt64)))), uv64 (subLo a3 b3 (subHi a2 b2 (subHi a1 b1 (subHi a0 b0 (0 : UInt64)))))] [.box bk1 [uv64 (subLo a0 b0 (0 : UInt64)), uv64 (subLo a1 b1 (subHi a0 b0 (0 : UInt64))), uv64 (subLo a2 b2 (subHi a1 b1 (subHi a0 b0 (0 : UInt64)))), uv64 (subLo a3 b3 (subHi a2 b2 (subHi a1 b1 (subHi a0 b0 (0 : UInt64)))))] 24, .box bk6 [uv64 b0, uv64 b1, uv64 b2, uv64 b3] 24, .box bk11 [uv64 (subLo a0 b0 (0 : UInt64)), uv64 (subLo a1 b1 (subHi a0 b0 (0 : UInt64))), uv64 (subLo a2 b2 (subHi a1 b1 (subHi a0 b0 (0 : UInt64)))), uv64 (subLo a3 b3 (subHi a2 b2 (subHi a1 b1 (subHi a0 b0 (0 : UInt64)))))] 24] En351 Hv343 rfl rfl (by rw [(u64s_lenh (List.length_replicate))]; decide) (one_all (by kernel_rfl)) (store_whole (u64s_lenh (List.length_replicate))) rfl fun ac352 wo353 En354 Hv355 => ?_
 refine d_e [2,3,4,5,6,8] [] En354 fun ac356 En357 => ?_
 refine then_normal ?_
 refine wp_ret ?_
 refine d_cell_tmp (v := .agg #[uv64 (subLo a0 b0 (0 : UInt64)), uv64 (subLo a1 b1 (subHi a0 b0 (0 : UInt64))), uv64 (subLo a2 b2 (subHi a1 b1 (subHi a0 b0 (0 : UInt64)))), uv64 (subLo a3 b3 (subHi a2 b2 (subHi a1 b1 (subHi a0 b0 (0 : UInt64)))))]) (x := uv64 (subHi a3 b3 (subHi a2 b2 (subHi a1 b1 (subHi a0 b0 (0 : UInt64)))))) (t := 4) (T := 24) (ad := ⟨bk11, 0, none⟩) (u := 5) En357 (by kernel_rfl) (by kernel_rfl) (Ev.cellAgg (t := 24) (k := 2) (off := 0) (m := 4) (xs := [uv64 (subLo a0 b0 (0 : UInt64)), uv64 (subLo a1 b1 (subHi a0 b0 (0 : UInt64))), uv64 (subLo a2 b2 (subHi a1 b1 (subHi a0 b0 (0 : UInt64)))), uv64 (subLo a3 b3 (subHi a2 b2 (subHi a1 b1 (subHi a0 b0 (0 : UInt64)))))]) Hv355 rfl rfl rfl (by kernel_rfl) (by kernel_rfl)) (by kernel_rfl) ?_
 exact ⟨rfl, Hv355.pk []⟩

theorem minus_go (w : World) (a b : List UInt64) (ha : List.length a = 4) (hb : List.length b = 4) : Calls Try.prog 77 #[.agg (List.toArray (u64s a)), .agg (List.toArray (u64s b))] w fun e w' => e = .returned (.tuple #[.agg (List.toArray (u64s (nd (nv a + W256 - nv b)))), uv64 (u1 (nv a < nv b))]) ∧ Ev w [] w' [] := by
  rw [← min_nd ha hb, ← sb_nd ha hb]
  match a, ha, b, hb with
  | [a0, a1, a2, a3], _, [b0, b1, b2, b3], _ => exact minus4 w a0 a1 a2 a3 b0 b1 b2 b3

theorem plus4 (w : World) (a0 a1 a2 a3 b0 b1 b2 b3 : UInt64) : Calls Try.prog 81 #[.agg #[uv64 a0, uv64 a1, uv64 a2, uv64 a3], .agg #[uv64 b0, uv64 b1, uv64 b2, uv64 b3]] w fun e w' => e = .returned (.tuple #[.agg (List.toArray (u64s (plusL [a0, a1, a2, a3] [b0, b1, b2, b3]))), uv64 (adF [a0, a1, a2, a3] [b0, b1, b2, b3] 4)]) ∧ Ev w [] w' [] := by
 refine d_0 [(0, .agg #[uv64 a0, uv64 a1, uv64 a2, uv64 a3]), (1, .agg #[uv64 b0, uv64 b1, uv64 b2, uv64 b3])] 27 Go.Proofs.Try.func81 Go.Proofs.Try.ntmps81 (Heap.nil _) fun act0 En0 Hv0 => ?_
 refine wp_seq ?_
 refine region_from ?_
 refine f_o ?_
 refine m_m 24 [uv64 a0, uv64 a1, uv64 a2, uv64 a3] En0 Hv0 fun ac2 wo3 bk1 En4 Hv5 => ?_
 refine f_o ?_
 refine m_m 24 [uv64 b0, uv64 b1, uv64 b2, uv64 b3] En4 Hv5 fun ac7 wo8 bk6 En9 Hv10 => ?_
 refine f_o ?_
 refine m_z 24 (u64s (List.replicate 4 0)) En9 Hv10 fun ac12 wo13 bk11 En14 Hv15 => ?_
 refine d_e [2,3,4,5] [] En14 fun ac16 En17 => ?_
 refine then_normal ?_
 refine d_s [2,3,4,5,6] [] En17 fun ac18 En19 => ?_
 refine wp_seq ?_
 refine d_s [2,3,4,5,6,8] [] En19 fun ac20 En21 => ?_
 refine wp_block ?_
 refine loop_enter ?_
 refine loop_once ?_
 refine d_s [2,3,4,5,6,8,9] [] En21 fun ac22 En23 => ?_
 refine wp_seq ?_
 refine c_t En23 ?_
 refine wp_skip ?_
 refine then_normal ?_
 refine wp_seq ?_
 refine wp_block ?_
 refine d_s [2,3,4,5,6,7,8] [] En23 fun ac24 En25 => ?_
 refine r_c (fun ac wo => Env ac 27 [(2, pt bk1), (3, pt bk6), (4, pt bk11), (5, .int .u64 0), (6, uv64 (addHi a0 b0 (0 : UInt64))), (8, .int .i64 0)] ∧ Ev w [] wo [.box bk1 [uv64 (addLo a0 b0 (0 : UInt64)), uv64 a1, uv64 a2, uv64 a3] 24, .box bk6 [uv64 b0, uv64 b1, uv64 b2, uv64 b3] 24, .box bk11 (u64s (List.replicate 4 0)) 24]) ?_ ?_
 ·
  refine h_s (fun wv => Ev w [] wv [.box bk1 [uv64 a0, uv64 a1, uv64 a2, uv64 a3] 24, .box bk6 [uv64 b0, uv64 b1, uv64 b2, uv64 b3] 24]) [13] 15 ?_
  have wo26 := Hv15.trans (Ev.drew Hv15.heap)
  refine q_s [0,1,2] [] 12 En25 (wo26.pk [0, 1]) fun ac77 En78 => ?_
  refine q_l 0 3 En78 (wo26.pk [0, 1]) fun ac79 En80 => ?_
  refine q_s [4,5] [] 9 En80 (wo26.pk [0, 1]) fun ac81 En82 => ?_
  refine q_l 1 6 En82 (wo26.pk [0, 1]) fun ac83 En84 => ?_
  refine q_s [7] [] 7 En84 (wo26.pk [0, 1]) fun ac85 En86 => ?_
  refine h_ext (d := some 20) (f := 95) (args := #[uv64 a0, uv64 b0, uv64 (0 : UInt64)]) (v := .tuple #[uv64 (addLo a0 b0 (0 : UInt64)), uv64 (addHi a0 b0 (0 : UInt64))]) En86 8 (by kernel_rfl) (Go.Dbr.ext_add64 Go.Proofs.Try.func95 (by kernel_rfl) (by kernel_rfl) (by kernel_rfl) (by kernel_rfl) a0 b0 (0 : UInt64) (by decide)) (by kernel_rfl) rfl (fun _ => wo26.pk [0, 1]) fun ac87 En88 => ?_
  refine q_s [9,10,11,12] [] 2 En88 (wo26.pk [0, 1]) fun ac89 En90 => ?_
  refine q_t 13 ?_
  refine m_s 0 [.box bk1 [uv64 (addLo a0 b0 (0 : UInt64)), uv64 a1, uv64 a2, uv64 a3] 24, .box bk6 [uv64 b0, uv64 b1, uv64 b2, uv64 b3] 24, .box bk11 (u64s (List.replicate 4 0)) 24] En90 wo26 fun ac91 wo92 En93 Hv94 => ?_
  refine ⟨q_y, ?_⟩
  refine q_n [14] [] 0 En93 fun ac95 En96 => ?_
  exact h_e ⟨En96.sb, Hv94.pk [0, 1, 2]⟩
 rintro ac97 wo98 ⟨En99, Hv100⟩
 refine block_normal ?_
 refine then_normal ?_
 refine d_r [2,3,4,5,6,8] [] En99 fun ac101 En102 => ?_
 refine then_normal ?_
 refine loop_once ?_
 refine d_s [2,3,4,5,6,8,9] [] En102 fun ac103 En104 => ?_
 refine wp_seq ?_
 refine c_t En104 ?_
 refine wp_skip ?_
 refine then_normal ?_
 refine wp_seq ?_
 refine wp_block ?_
 refine d_s [2,3,4,5,6,7,8] [] En104 fun ac105 En106 => ?_
 refine r_c (fun ac wo => Env ac 27 [(2, pt bk1), (3, pt bk6), (4, pt bk11), (5, .int .u64 0), (6, uv64 (addHi a1 b1 (addHi a0 b0 (0 : UInt64)))), (8, .int .i64 1)] ∧ Ev w [] wo [.box bk1 [uv64 (addLo a0 b0 (0 : UInt64)), uv64 (addLo a1 b1 (addHi a0 b0 (0 : UInt64))), uv64 a2, uv64 a3] 24, .box bk6 [uv64 b0, uv64 b1, uv64 b2, uv64 b3] 24, .box bk11 (u64s (List.replicate 4 0)) 24]) ?_ ?_
 ·
  refine h_s (fun wv => Ev w [] wv [.box bk1 [uv64 (addLo a0 b0 (0 : UInt64)), uv64 a1, uv64 a2, uv64 a3] 24, .box bk6 [uv64 b0, uv64 b1, uv64 b2, uv64 b3] 24]) [13] 15 ?_
  have wo107 := Hv100.trans (Ev.drew Hv100.heap)
  refine q_s [0,1,2] [] 12 En106 (wo107.pk [0, 1]) fun ac158 En159 => ?_
  refine q_l 0 3 En159 (wo107.pk [0, 1]) fun ac160 En161 => ?_
  refine q_s [4,5] [] 9 En161 (wo107.pk [0, 1]) fun ac162 En163 => ?_
  refine q_l 1 6 En163 (wo107.pk [0, 1]) fun ac164 En165 => ?_
  refine q_s [7] [] 7 En165 (wo107.pk [0, 1]) fun ac166 En167 => ?_
  refine h_ext (d := some 20) (f := 95) (args := #[uv64 a1, uv64 b1, uv64 (addHi a0 b0 (0 : UInt64))]) (v := .tuple #[uv64 (addLo a1 b1 (addHi a0 b0 (0 : UInt64))), uv64 (addHi a1 b1 (addHi a0 b0 (0 : UInt64)))]) En167 8 (by kernel_rfl) (Go.Dbr.ext_add64 Go.Proofs.Try.func95 (by kernel_rfl) (by kernel_rfl) (by kernel_rfl) (by kernel_rfl) a1 b1 (addHi a0 b0 (0 : UInt64)) (addHi_le (by decide))) (by kernel_rfl) rfl (fun _ => wo107.pk [0, 1]) fun ac168 En169 => ?_
  refine q_s [9,10,11,12] [] 2 En169 (wo107.pk [0, 1]) fun ac170 En171 => ?_
  refine q_t 13 ?_
  refine m_s 0 [.box bk1 [uv64 (addLo a0 b0 (0 : UInt64)), uv64 (addLo a1 b1 (addHi a0 b0 (0 : UInt64))), uv64 a2, uv64 a3] 24, .box bk6 [uv64 b0, uv64 b1, uv64 b2, uv64 b3] 24, .box bk11 (u64s (List.replicate 4 0)) 24] En171 wo107 fun ac172 wo173 En174 Hv175 => ?_
  refine ⟨q_y, ?_⟩
  refine q_n [14] [] 0 En174 fun ac176 En177 => ?_
  exact h_e ⟨En177.sb, Hv175.pk [0, 1, 2]⟩
 rintro ac178 wo179 ⟨En180, Hv181⟩
 refine block_normal ?_
 refine then_normal ?_
 refine d_r [2,3,4,5,6,8] [] En180 fun ac182 En183 => ?_
 refine then_normal ?_
 refine loop_once ?_
 refine d_s [2,3,4,5,6,8,9] [] En183 fun ac184 En185 => ?_
 refine wp_seq ?_
 refine c_t En185 ?_
 refine wp_skip ?_
 refine then_normal ?_
 refine wp_seq ?_
 refine wp_block ?_
 refine d_s [2,3,4,5,6,7,8] [] En185 fun ac186 En187 => ?_
 refine r_c (fun ac wo => Env ac 27 [(2, pt bk1), (3, pt bk6), (4, pt bk11), (5, .int .u64 0), (6, uv64 (addHi a2 b2 (addHi a1 b1 (addHi a0 b0 (0 : UInt64))))), (8, .int .i64 2)] ∧ Ev w [] wo [.box bk1 [uv64 (addLo a0 b0 (0 : UInt64)), uv64 (addLo a1 b1 (addHi a0 b0 (0 : UInt64))), uv64 (addLo a2 b2 (addHi a1 b1 (addHi a0 b0 (0 : UInt64)))), uv64 a3] 24, .box bk6 [uv64 b0, uv64 b1, uv64 b2, uv64 b3] 24, .box bk11 (u64s (List.replicate 4 0)) 24]) ?_ ?_
 ·
  refine h_s (fun wv => Ev w [] wv [.box bk1 [uv64 (addLo a0 b0 (0 : UInt64)), uv64 (addLo a1 b1 (addHi a0 b0 (0 : UInt64))), uv64 a2, uv64 a3] 24, .box bk6 [uv64 b0, uv64 b1, uv64 b2, uv64 b3] 24]) [13] 15 ?_
  have wo188 := Hv181.trans (Ev.drew Hv181.heap)
  refine q_s [0,1,2] [] 12 En187 (wo188.pk [0, 1]) fun ac239 En240 => ?_
  refine q_l 0 3 En240 (wo188.pk [0, 1]) fun ac241 En242 => ?_
  refine q_s [4,5] [] 9 En242 (wo188.pk [0, 1]) fun ac243 En244 => ?_
  refine q_l 1 6 En244 (wo188.pk [0, 1]) fun ac245 En246 => ?_
  refine q_s [7] [] 7 En246 (wo188.pk [0, 1]) fun ac247 En248 => ?_
  refine h_ext (d := some 20) (f := 95) (args := #[uv64 a2, uv64 b2, uv64 (addHi a1 b1 (addHi a0 b0 (0 : UInt64)))]) (v := .tuple #[uv64 (addLo a2 b2 (addHi a1 b1 (addHi a0 b0 (0 : UInt64)))), uv64 (addHi a2 b2 (addHi a1 b1 (addHi a0 b0 (0 : UInt64))))]) En248 8 (by kernel_rfl) (Go.Dbr.ext_add64 Go.Proofs.Try.func95 (by kernel_rfl) (by kernel_rfl) (by kernel_rfl) (by kernel_rfl) a2 b2 (addHi a1 b1 (addHi a0 b0 (0 : UInt64))) (addHi_le (addHi_le (by decide)))) (by kernel_rfl) rfl (fun _ => wo188.pk [0, 1]) fun ac249 En250 => ?_
  refine q_s [9,10,11,12] [] 2 En250 (wo188.pk [0, 1]) fun ac251 En252 => ?_
  refine q_t 13 ?_
  refine m_s 0 [.box bk1 [uv64 (addLo a0 b0 (0 : UInt64)), uv64 (addLo a1 b1 (addHi a0 b0 (0 : UInt64))), uv64 (addLo a2 b2 (addHi a1 b1 (addHi a0 b0 (0 : UInt64)))), uv64 a3] 24, .box bk6 [uv64 b0, uv64 b1, uv64 b2, uv64 b3] 24, .box bk11 (u64s (List.replicate 4 0)) 24] En252 wo188 fun ac253 wo254 En255 Hv256 => ?_
  refine ⟨q_y, ?_⟩
  refine q_n [14] [] 0 En255 fun ac257 En258 => ?_
  exact h_e ⟨En258.sb, Hv256.pk [0, 1, 2]⟩
 rintro ac259 wo260 ⟨En261, Hv262⟩
 refine block_normal ?_
 refine then_normal ?_
 refine d_r [2,3,4,5,6,8] [] En261 fun ac263 En264 => ?_
 refine then_normal ?_
 refine loop_once ?_
 refine d_s [2,3,4,5,6,8,9] [] En264 fun ac265 En266 => ?_
 refine wp_seq ?_
 refine c_t En266 ?_
 refine wp_skip ?_
 refine then_normal ?_
 refine wp_seq ?_
 refine wp_block ?_
 refine d_s [2,3,4,5,6,7,8] [] En266 fun ac267 En268 => ?_
 refine r_c (fun ac wo => Env ac 27 [(2, pt bk1), (3, pt bk6), (4, pt bk11), (5, .int .u64 0), (6, uv64 (addHi a3 b3 (addHi a2 b2 (addHi a1 b1 (addHi a0 b0 (0 : UInt64)))))), (8, .int .i64 3)] ∧ Ev w [] wo [.box bk1 [uv64 (addLo a0 b0 (0 : UInt64)), uv64 (addLo a1 b1 (addHi a0 b0 (0 : UInt64))), uv64 (addLo a2 b2 (addHi a1 b1 (addHi a0 b0 (0 : UInt64)))), uv64 (addLo a3 b3 (addHi a2 b2 (addHi a1 b1 (addHi a0 b0 (0 : UInt64)))))] 24, .box bk6 [uv64 b0, uv64 b1, uv64 b2, uv64 b3] 24, .box bk11 (u64s (List.replicate 4 0)) 24]) ?_ ?_
 ·
  refine h_s (fun wv => Ev w [] wv [.box bk1 [uv64 (addLo a0 b0 (0 : UInt64)), uv64 (addLo a1 b1 (addHi a0 b0 (0 : UInt64))), uv64 (addLo a2 b2 (addHi a1 b1 (addHi a0 b0 (0 : UInt64)))), uv64 a3] 24, .box bk6 [uv64 b0, uv64 b1, uv64 b2, uv64 b3] 24]) [13] 15 ?_
  have wo269 := Hv262.trans (Ev.drew Hv262.heap)
  refine q_s [0,1,2] [] 12 En268 (wo269.pk [0, 1]) fun ac320 En321 => ?_
  refine q_l 0 3 En321 (wo269.pk [0, 1]) fun ac322 En323 => ?_
  refine q_s [4,5] [] 9 En323 (wo269.pk [0, 1]) fun ac324 En325 => ?_
  refine q_l 1 6 En325 (wo269.pk [0, 1]) fun ac326 En327 => ?_
  refine q_s [7] [] 7 En327 (wo269.pk [0, 1]) fun ac328 En329 => ?_
  refine h_ext (d := some 20) (f := 95) (args := #[uv64 a3, uv64 b3, uv64 (addHi a2 b2 (addHi a1 b1 (addHi a0 b0 (0 : UInt64))))]) (v := .tuple #[uv64 (addLo a3 b3 (addHi a2 b2 (addHi a1 b1 (addHi a0 b0 (0 : UInt64))))), uv64 (addHi a3 b3 (addHi a2 b2 (addHi a1 b1 (addHi a0 b0 (0 : UInt64)))))]) En329 8 (by kernel_rfl) (Go.Dbr.ext_add64 Go.Proofs.Try.func95 (by kernel_rfl) (by kernel_rfl) (by kernel_rfl) (by kernel_rfl) a3 b3 (addHi a2 b2 (addHi a1 b1 (addHi a0 b0 (0 : UInt64)))) (addHi_le (addHi_le (addHi_le (by decide))))) (by kernel_rfl) rfl (fun _ => wo269.pk [0, 1]) fun ac330 En331 => ?_
  refine q_s [9,10,11,12] [] 2 En331 (wo269.pk [0, 1]) fun ac332 En333 => ?_
  refine q_t 13 ?_
  refine m_s 0 [.box bk1 [uv64 (addLo a0 b0 (0 : UInt64)), uv64 (addLo a1 b1 (addHi a0 b0 (0 : UInt64))), uv64 (addLo a2 b2 (addHi a1 b1 (addHi a0 b0 (0 : UInt64)))), uv64 (addLo a3 b3 (addHi a2 b2 (addHi a1 b1 (addHi a0 b0 (0 : UInt64)))))] 24, .box bk6 [uv64 b0, uv64 b1, uv64 b2, uv64 b3] 24, .box bk11 (u64s (List.replicate 4 0)) 24] En333 wo269 fun ac334 wo335 En336 Hv337 => ?_
  refine ⟨q_y, ?_⟩
  refine q_n [14] [] 0 En336 fun ac338 En339 => ?_
  exact h_e ⟨En339.sb, Hv337.pk [0, 1, 2]⟩
 rintro ac340 wo341 ⟨En342, Hv343⟩
 refine block_normal ?_
 refine then_normal ?_
 refine d_r [2,3,4,5,6,8] [] En342 fun ac344 En345 => ?_
 refine then_normal ?_
 refine loop_once ?_
 refine d_s [2,3,4,5,6,8,9] [] En345 fun ac346 En347 => ?_
 refine wp_seq ?_
 refine c_f En347 ?_
 refine wp_exit ?_
 refine then_exit ?_
 refine then_exit ?_
 refine block_exit ?_
 refine then_normal ?_
 refine wp_seq ?_
 refine region_from ?_
 refine f_o ?_
 refine m_a 0 0 4 [uv64 (addLo a0 b0 (0 : UInt64)), uv64 (addLo a1 b1 (addHi a0 b0 (0 : UInt64))), uv64 (addLo a2 b2 (addHi a1 b1 (addHi a0 b0 (0 : UInt64)))), uv64 (addLo a3 b3 (addHi a2 b2 (addHi a1 b1 (addHi a0 b0 (0 : UInt64)))))] En347 Hv343 rfl rfl rfl fun ac348 En349 => ?_
 refine d_k [2,3,4,5,6,8,25,26] [] 2 En349 fun ac350 En351 => ?_
 refine f_o ?_
 refine m_g 2 0 4 [uv64 (addLo a0 b0 (0 : UInt64)), uv64 (addLo a1 b1 (addHi a0 b0 (0 : UInt64))), uv64 (addLo a2 b2 (addHi a1 b1 (addHi a0 b0 (0 : UInt64)))), uv64 (addLo a3 b3 (addHi a2 b2 (addHi a1 b1 (addHi a0 b0 (0 : UInt64)))))] [uv64 (addLo a0 b0 (0 : UInt64)), uv64 (addLo a1 b1 (addHi a0 b0 (0 : UInt64))), uv64 (addLo a2 b2 (addHi a1 b1 (addHi a0 b0 (0 : UInt64)))), uv64 (addLo a3 b3 (addHi a2 b2 (addHi a1 b1 (addHi a0 b0 (0 : UInt64)))))] [.box bk1 [uv64 (addLo a0 b0 (0 : UInt64)), uv64 (addLo a1 b1 (addHi a0 b0 (0 : UInt64))), uv64 (addLo a2 b2 (addHi a1 b1 (addHi a0 b0 (0 : UInt64)))), uv64 (addLo a3 b3 (addHi a2 b2 (addHi a1 b1 (addHi a0 b0 (0 : UInt64)))))] 24, .box bk6 [uv64 b0, uv64 b1, uv64 b2, uv64 b3] 24, .box bk11 [uv64 (addLo a0 b0 (0 : UInt64)), uv64 (addLo a1 b1 (addHi a0 b0 (0 : UInt64))), uv64 (addLo a2 b2 (addHi a1 b1 (addHi a0 b0 (0 : UInt64)))), uv64 (addLo a3 b3 (addHi a2 b2 (addHi a1 b1 (addHi a0 b0 (0 : UInt64)))))] 24] En351 Hv343 rfl rfl (by rw [(u64s_lenh (List.length_replicate))]; decide) (one_all (by kernel_rfl)) (store_whole (u64s_lenh (List.length_replicate))) rfl fun ac352 wo353 En354 Hv355 => ?_
 refine d_e [2,3,4,5,6,8] [] En354 fun ac356 En357 => ?_
 refine then_normal ?_
 refine wp_ret ?_
 refine d_cell_tmp (v := .agg #[uv64 (addLo a0 b0 (0 : UInt64)), uv64 (addLo a1 b1 (addHi a0 b0 (0 : UInt64))), uv64 (addLo a2 b2 (addHi a1 b1 (addHi a0 b0 (0 : UInt64)))), uv64 (addLo a3 b3 (addHi a2 b2 (addHi a1 b1 (addHi a0 b0 (0 : UInt64)))))]) (x := uv64 (addHi a3 b3 (addHi a2 b2 (addHi a1 b1 (addHi a0 b0 (0 : UInt64)))))) (t := 4) (T := 24) (ad := ⟨bk11, 0, none⟩) (u := 5) En357 (by kernel_rfl) (by kernel_rfl) (Ev.cellAgg (t := 24) (k := 2) (off := 0) (m := 4) (xs := [uv64 (addLo a0 b0 (0 : UInt64)), uv64 (addLo a1 b1 (addHi a0 b0 (0 : UInt64))), uv64 (addLo a2 b2 (addHi a1 b1 (addHi a0 b0 (0 : UInt64)))), uv64 (addLo a3 b3 (addHi a2 b2 (addHi a1 b1 (addHi a0 b0 (0 : UInt64)))))]) Hv355 rfl rfl rfl (by kernel_rfl) (by kernel_rfl)) (by kernel_rfl) ?_
 exact ⟨rfl, Hv355.pk []⟩

theorem plus_go (w : World) (a b : List UInt64) (ha : List.length a = 4) (hb : List.length b = 4) : Calls Try.prog 81 #[.agg (List.toArray (u64s a)), .agg (List.toArray (u64s b))] w fun e w' => e = .returned (.tuple #[.agg (List.toArray (u64s (nd (nv a + nv b)))), uv64 (u1 (W256 ≤ nv a + nv b))]) ∧ Ev w [] w' [] := by
  rw [← plus_nd ha hb, ← ad_nd ha hb]
  match a, ha, b, hb with
  | [a0, a1, a2, a3], _, [b0, b1, b2, b3], _ => exact plus4 w a0 a1 a2 a3 b0 b1 b2 b3

end Go.Proofs.Ytpfhmbbiadpbeaa
