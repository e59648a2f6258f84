import Derived.Test.YtlnogkmnklfjlaaGreatDoorVr2
import Derived.Test.YtlnogkmnklfjlaaGreatDoorVr1
open List renaming getD → za, length → zc, replicate → zf, toArray → zg, length_replicate → zi, set → zp, length_append → zH, getD_eq_getElem?_getD → zN, getElem?_eq_getElem → zR, all_eq_true → Zo, length_set → Qk, drop_drop → QO, drop_left' → QP, getElem?_set_self → QR, mem_cons_of_mem → Q5, mem_cons_self → Yf, take_left' → Yz, set_set → XF, ext_getElem → Kn
open UInt64 renaming ofNat → zb, toNat → zA, toNat_shiftLeft → Qy, toNat_inj → QE, toNat_or → Yq, toNat_and → Ys, toNat_sub → Y9
open Go.Dbr renaming u64s_lenh → zd, then_normal → ze, u64s → zh, region_from → zk, uv64 → zn, load_whole → zr, run_indexarr → zt, u64s_one → zw, block_normal → zx, u64s_getD → zC, then_exit → zD, u64_shr → zI, loop_once → zK, u64_add → zO, block_exit → zP, run_loadAgg2 → zV, addHi → zX, m_gw → zZ, addLo → z0, d_cell1 → Zf, run_load1 → Zi, m_aw → Zn, u64_and → Zp, h_from → Zr, then_ret → Zx, u64_or → ZL, u64s_set → Z4, loop_m → Z5, d_cell_tmp → Z9, u64_shl → Qf, block_ret → Qg, ext_add64 → Qj, lt64 → Qm, region_cut → QX, loop_enter → QY, mulHi → Yx, u64s_neop → JP, op_ext → Xt, u64_sub → Kx
open Go.Proofs.YtlnogkmnklfjlaaGreatDoor renaming nds_len → zl, mulM → zq, powM → zU, W256 → zY, subM → z8, addM → Zs, n32_len → ZR, mod_lt_w → Qw, getD_set_ne → QH, nv_nd → QI, n32_dig → YQ, powM_add → Jn, nv_mF → JH, n32_get → JI, minus_go → J1
open Go.Proofs.Tryz renaming prog → zB
open Go.Dbr.Ev renaming cellAgg → zF, drew → zS
open Nat renaming mod_eq_of_lt → zL, mul_comm → z5, pow_succ → z9, mul_assoc → Zh, add_mul → Zt, lt_trans → Zu, div_div_eq_div_mul → Zv, add_zero → Zy, shiftLeft_eq → ZA, mul_one → ZG, add_assoc → ZP, mod_lt → ZU, le_refl → ZX, pow_zero → Z6, shiftLeft_add_eq_or_of_lt → Qa, zero_mul → Qb, mul_zero → Qc, mul_le_mul_right → Qi, pow_add → Qn, lt_or_ge → Qq, mul_mod → Qt, mul_add → QG, pow_mul → QM, zero_add → QU, zero_mod → QV, lt_of_le_of_lt → QZ, add_mul_mod_self_left → Yc, mod_mod → Yj, beq → Yl, mod_eq_sub_mod → Yv, eq_of_beq_eq_true → Yw, sub_self → YB, mul_left_comm → YE, div_one → YG, div_eq_of_lt → YJ, add_mod → YM, eq_zero_or_pos → YO, mod_mul_mod → YV, div_lt_of_lt_mul → Y5, testBit → Y8, eq_zero_of_dvd_of_lt → Jo, div_add_mod → Jr, and_one_is_mod → Jw, add_sub_cancel → Jx, pow_mod → JC, mod_eq_zero_of_dvd → JJ, ne_of_beq_eq_false → JK, dvd_of_mod_eq_zero → JL, mul_pos → JV, or_comm → J2, div_le_self → J4, mul_mod_mod → J8, mul_le_mul_left → Xa, pow_two → Xp, mul_div_cancel_left → Xz, blt → XB, pow_pos → XU, one_mul → XV, le_of_dvd → X6, dvd_mul_right → Kk, two_mul → Kr, blt_eq → Ky, zero_sub → KD, one_pow → KF
open UInt8 renaming ofNat → zQ
open Bool renaming eq_false_or_eq_true → Za, and_eq_true → Zd, true_and → Qd, cond_true → QB, cond_false → QQ, not_eq_true' → YA
open Go.Dbr.Env renaming fx → X9
set_option maxRecDepth 100000
set_option maxHeartbeats 2000000
set_option linter.unusedVariables false
set_option linter.unusedSimpArgs false
namespace Go.Proofs.YtlnogkmnklfjlaaGreatDoor
open Go.Dbr
def field0 (P : Program) (s : TypeId) (i : Nat) (T : TypeId) : Bool := match P.underlying s with
  | some (.struct fs) => (match fs[i]? with
    | some f => (match P.info? f.type with
      | some j => j.size == 0 && P.cellsOf T == 0 && f.offset == 0 && f.byteOffset == 0
      | none => false)
    | none => false)
  | _ => false
theorem _root_.Go.Dbr.Heap.shape0 {w : World} {L : List Ent} (h : Heap w L) {k b : Nat} {T : TypeId} (hk : L[k]? = some (.box b [] T)) : w.shape? b = some (T, 0) := by
  have hh : w.heap[b]? = some (.cells ([] : List Value).toArray T (0, 0)) := h.holds k _ hk
  unfold World.shape?
  rw [hh]
  rfl
theorem run_field0 {P : Program} {s T : TypeId} {b i : Nat} {w : World} (hsh : w.shape? b = some (T, 0)) (h : field0 P s i T = true) : (Instr.fieldAt s (pt b) i).run P w = .ok (pt b) w := by
  unfold field0 at h
  split at h
  · rename_i fs hu
    split at h
    · rename_i f hf
      split at h
      · rename_i j hj
        simp only [Zd, beq_iff_eq] at h
        obtain ⟨⟨⟨h1, h2⟩, h3⟩, h4⟩ := h
        simp [Instr.fieldAt, run_underlying hu, hf, Instr.sureAddr, fieldPlace, sizeOf, typeInfo, hj, h1, partAt, byteOf, noView, viewAt, shape, Sem.run, hsh, h2, h3, h4]
      · cases h
    · cases h
  · cases h
theorem dvk_s (l : List UInt64) (k : Nat) : dvk l (k + 1) = dvk l k + (za l k 0).toNat * 18446744073709551616 ^ k := rfl
theorem dvk_ge {l : List UInt64} {j : Nat} {x : UInt64} : ∀ n, n ≤ j → dvk (zp l j x) n = dvk l n
  | 0, _ => rfl
  | n + 1, h => by rw [dvk, dvk, dvk_ge n (by omega), QH _ (by omega)]
theorem getD_set_eq {l : List UInt64} {j : Nat} (x : UInt64) (h : j < l.length) : za (zp l j x) j 0 = x := by rw [zN, QR h]; rfl
theorem dvk_set {l : List UInt64} {j : Nat} {x : UInt64} (h : j < l.length) : ∀ n, j < n → dvk (zp l j x) n + (za l j 0).toNat * 18446744073709551616 ^ j = dvk l n + x.toNat * 18446744073709551616 ^ j
  | 0, hn => by omega
  | n + 1, hn => by
    rw [dvk, dvk]
    by_cases e : j = n
    · subst e
      rw [dvk_ge _ (ZX _), getD_set_eq x h]
      omega
    · rw [QH _ e]
      have := dvk_set (x := x) h n (by omega)
      omega
theorem mont_in {a u : List UInt64} {b c : UInt64} {T k : Nat} (hl : u.length = 6) (hk : k < 4) (hv : dvk u 5 + c.toNat * 18446744073709551616 ^ k = T + dvk a k * b.toNat) :
    dvk (zp u k (z0 (z0 (za a k 0 * b) (za u k 0) 0) c 0)) 5 + (Yx (za a k 0) b + zX (za a k 0 * b) (za u k 0) 0 + zX (z0 (za a k 0 * b) (za u k 0) 0) c 0).toNat * 18446744073709551616 ^ (k + 1) = T + dvk a (k + 1) * b.toNat := by
  have e := dvk_set (l := u) (x := z0 (z0 (za a k 0 * b) (za u k 0) 0) c 0) (j := k) (by omega) 5 (by omega)
  have m := mac_val (x := za a k 0) (y := b) (t := za u k 0) (c := c)
  have m2 := congrArg (· * 18446744073709551616 ^ k) m
  simp only [Zt] at m2
  rw [dvk_s a k, Zt, z9, z5 (18446744073709551616 ^ k) 18446744073709551616, ← Zh, z5 (zA _) 18446744073709551616, Nat.mul_right_comm (za a k 0).toNat]
  generalize 18446744073709551616 ^ k = q at *
  omega
theorem mont_mid {u : List UInt64} {c : UInt64} {P : Nat} (hl : u.length = 6) (hv : dvk u 5 + c.toNat * 18446744073709551616 ^ 4 = P) :
    dvk (zp (zp u 4 (z0 (za u 4 0) c 0)) 5 (zX (za u 4 0) c 0)) 6 = P ∧ (za (zp (zp u 4 (z0 (za u 4 0) c 0)) 5 (zX (za u 4 0) c 0)) 5 0).toNat ≤ 1 := by
  rw [getD_set_eq _ (by rw [Qk]; omega)]
  refine ⟨?_, addHi_le (by decide)⟩
  rw [dvk_s _ 5, dvk_ge 5 (ZX _), getD_set_eq _ (by rw [Qk]; omega)]
  have e := dvk_set (l := u) (x := z0 (za u 4 0) c 0) (j := 4) (by omega) 5 (by decide)
  have m := add_val (x := za u 4 0) (y := c) (c := 0)
  rw [show (0 : UInt64).toNat = 0 from rfl, Zy] at m
  have m2 := congrArg (· * 18446744073709551616 ^ 4) m
  simp only [Zt] at m2
  rw [show (18446744073709551616 : Nat) ^ 5 = 18446744073709551616 * 18446744073709551616 ^ 4 by decide, ← Zh, z5 (zA _) 18446744073709551616]
  generalize (18446744073709551616 : Nat) ^ 4 = q at *
  omega
theorem mont_first {v w m : List UInt64} {q c bk : UInt64} (hm : (bk.toNat * (za m 0 0).toNat + 1) % 18446744073709551616 = 0) (hq : q = za v 0 0 * bk) (hs : za w 0 0 = za v 0 0) (hc : c.toNat = 0) :
    18446744073709551616 * (dvk w 0 + (Yx q (za m 0 0) + zX (q * za m 0 0) (za w 0 0) 0 + zX (z0 (q * za m 0 0) (za w 0 0) 0) c 0).toNat * 18446744073709551616 ^ 0) = dvk v 1 + q.toNat * dvk m 1 := by
  have e := mac_val (x := q) (y := za m 0 0) (t := za w 0 0) (c := c)
  have l1 := Qm (z0 (z0 (q * za m 0 0) (za w 0 0) 0) c 0)
  simp only [dvk, Z6, ZG, QU]
  have hz : (q.toNat * (za m 0 0).toNat + (za v 0 0).toNat) % 18446744073709551616 = 0 := by
    rw [hq, UInt64.toNat_mul, YM, YV, ← YM, Zh, show (2 : Nat) ^ 64 = 18446744073709551616 from rfl]
    have : (za v 0 0).toNat * (bk.toNat * (za m 0 0).toNat) + (za v 0 0).toNat = (za v 0 0).toNat * (bk.toNat * (za m 0 0).toNat + 1) := by rw [QG, ZG]
    rw [this, Qt, hm, Qc, QV]
  rw [hs, hc] at e
  rw [hs] at l1 ⊢
  generalize q.toNat * (za m 0 0).toNat = p at *
  omega
theorem dvk_rep : dvk (zf 6 0) 5 = 0 := by decide +kernel
theorem mont_i0 {T x : Nat} {a : List UInt64} : T + (0 : UInt64).toNat * 18446744073709551616 ^ 0 = T + dvk a 0 * x := by rw [dvk, Qb, show (0 : UInt64).toNat = 0 from rfl, Qb]
theorem mont_j0 {v m : List UInt64} {q : UInt64} : 18446744073709551616 * (dvk v (0 - 1) + (0 : UInt64).toNat * 18446744073709551616 ^ (0 - 1)) = dvk v 0 + q.toNat * dvk m 0 := by rw [KD, dvk, dvk, show (0 : UInt64).toNat = 0 from rfl, Qb, Qc, Qc]
theorem mont_c0 {v w m : List UInt64} {q c : UInt64} (hv : 18446744073709551616 * (dvk w (0 - 1) + c.toNat * 18446744073709551616 ^ (0 - 1)) = dvk v 0 + q.toNat * dvk m 0) : c.toNat = 0 := by
  simp only [dvk, KD, Z6, Qc] at hv
  omega
theorem mont_more {v w m : List UInt64} {q c : UInt64} {k : Nat} (hl : w.length = 6) (hk : k < 4) (h0 : 0 < k) (hs : za w k 0 = za v k 0) (hv : 18446744073709551616 * (dvk w (k - 1) + c.toNat * 18446744073709551616 ^ (k - 1)) = dvk v k + q.toNat * dvk m k) :
    18446744073709551616 * (dvk (zp w (k - 1) (z0 (z0 (q * za m k 0) (za w k 0) 0) c 0)) k + (Yx q (za m k 0) + zX (q * za m k 0) (za w k 0) 0 + zX (z0 (q * za m k 0) (za w k 0) 0) c 0).toNat * 18446744073709551616 ^ k) = dvk v (k + 1) + q.toNat * dvk m (k + 1) := by
  obtain ⟨j, rfl⟩ : ∃ j, k = j + 1 := ⟨k - 1, by omega⟩
  rw [Jx] at *
  have e := mac_val (x := q) (y := za m (j + 1) 0) (t := za w (j + 1) 0) (c := c)
  rw [dvk_s _ j, dvk_ge j (ZX _), getD_set_eq _ (by omega), dvk_s v (j + 1), dvk_s m (j + 1), QG q.toNat, hs]
  rw [hs] at e
  have e2 := congrArg (· * 18446744073709551616 ^ (j + 1)) e
  simp only [Zt] at e2
  rw [← Zh q.toNat]
  rw [z9] at *
  generalize q.toNat * (za m (j + 1) 0).toNat = p at *
  generalize q.toNat * dvk m (j + 1) = p2 at *
  rw [z5 _ 18446744073709551616] at *
  simp only [← Zh, z5 _ 18446744073709551616] at *
  generalize 18446744073709551616 ^ j = z at *
  simp only [Zh] at *
  omega
theorem mont_out {v w : List UInt64} {c : UInt64} {N : Nat} (hl : w.length = 6) (h4 : za w 4 0 = za v 4 0) (h5 : za w 5 0 = za v 5 0) (h1 : (za v 5 0).toNat ≤ 1) (hv : 18446744073709551616 * (dvk w 3 + c.toNat * 18446744073709551616 ^ 3) = dvk v 4 + N) :
    18446744073709551616 * dvk (zp (zp w 3 (z0 (za w 4 0) c 0)) 4 (za (zp w 3 (z0 (za w 4 0) c 0)) 5 0 + zX (za w 4 0) c 0)) 5 = dvk v 6 + N := by
  have m := add_val (x := za v 4 0) (y := c) (c := 0)
  have o := addHi_le (x := za v 4 0) (y := c) (c := 0) (by decide)
  rw [show (0 : UInt64).toNat = 0 from rfl, Zy] at m
  have ho : (za v 5 0 + zX (za v 4 0) c 0).toNat = (za v 5 0).toNat + (zX (za v 4 0) c 0).toNat := by
    rw [UInt64.toNat_add]
    omega
  rw [QH _ (by decide), h4, h5, dvk_s _ 4, dvk_ge 4 (ZX _), getD_set_eq _ (by rw [Qk]; omega), ho]
  rw [dvk_s _ 3, dvk_ge 3 (ZX _), getD_set_eq _ (by omega), dvk_s v 5, dvk_s v 4]
  have m2 := congrArg (· * 18446744073709551616 ^ 4) m
  simp only [Zt, QG] at m2 hv ⊢
  rw [show (18446744073709551616 : Nat) ^ 5 = 18446744073709551616 * 18446744073709551616 ^ 4 by decide]
  simp only [show (18446744073709551616 : Nat) ^ 4 = 18446744073709551616 * 18446744073709551616 ^ 3 by decide] at *
  generalize (18446744073709551616 : Nat) ^ 3 = q at *
  simp only [YE _ 18446744073709551616] at *
  simp only [Qb, Zy, Zh] at *
  omega
theorem mont_next {M A T T' i : Nat} {b : List UInt64} {q : UInt64} (hA : A < M) (hT : T < 2 * M) (hm : T * 18446744073709551616 ^ i % M = A * dvk b i % M) (h : 18446744073709551616 * T' = T + A * (za b i 0).toNat + q.toNat * M) : T' < 2 * M ∧ T' * 18446744073709551616 ^ (i + 1) % M = A * dvk b (i + 1) % M := by
  constructor
  · have h1 := Qm q
    have h2 := Qm (za b i 0)
    have h3 : q.toNat * M ≤ 18446744073709551615 * M := Qi _ (by omega)
    have h4 : A * (za b i 0).toNat ≤ A * 18446744073709551615 := Xa _ (by omega)
    generalize q.toNat * M = x at *
    generalize A * (za b i 0).toNat = y at *
    omega
  · have e : T' * 18446744073709551616 ^ (i + 1) = T * 18446744073709551616 ^ i + A * ((za b i 0).toNat * 18446744073709551616 ^ i) + M * (q.toNat * 18446744073709551616 ^ i) := by
      rw [z9, z5 (18446744073709551616 ^ i), ← Zh, z5 T', h, Zt, Zt, Zh A, z5 q.toNat M, Zh M]
    rw [e, Yc, YM, hm, ← YM, ← QG, dvk]
def montN (r M x y : Nat) : Nat := x * y * r % M
theorem mont_fin {M A T r : Nat} (h : T * zY % M = A % M) (hr : zY * r % M = 1) : T % M = A * r % M := by
  have e : T * (zY * r) % M = A * r % M := by rw [← Zh, Qt, h, ← Qt]
  rw [Qt, hr, ZG, Yj] at e
  exact e
theorem mont_nv {t : List UInt64} : nv [za t 0 0, za t 1 0, za t 2 0, za t 3 0] = dvk t 4 := by
  rw [nv4]
  simp only [dvk, Nat.reducePow]
  omega
theorem mont_yes {M A r : Nat} {t : List UInt64} (hr : zY * r % M = 1) (hm : dvk t 5 * 18446744073709551616 ^ 4 % M = A % M) (h1 : nv [za t 0 0, za t 1 0, za t 2 0, za t 3 0] < M) (h2 : (((za t 4 0).toNat : Nat) : Int) = (0 : Int)) :
    [za t 0 0, za t 1 0, za t 2 0, za t 3 0] = nd (A * r % M) := by
  have e : dvk t 5 = nv [za t 0 0, za t 1 0, za t 2 0, za t 3 0] := by rw [dvk, mont_nv, show (za t 4 0).toNat = 0 by omega, Qb, Zy]
  refine nd_of rfl ?_
  rw [← mont_fin (T := dvk t 5) hm hr, e, zL h1]
theorem mont_no {M A r : Nat} {t : List UInt64} (hM : M < zY) (hr : zY * r % M = 1) (hT : dvk t 5 < 2 * M) (hm : dvk t 5 * 18446744073709551616 ^ 4 % M = A % M) (h1 : ¬ nv [za t 0 0, za t 1 0, za t 2 0, za t 3 0] < M ∨ ¬ (((za t 4 0).toNat : Nat) : Int) = (0 : Int)) :
    nd (nv [za t 0 0, za t 1 0, za t 2 0, za t 3 0] + zY - M) = nd (A * r % M) := by
  have hn := nv_lt (l := [za t 0 0, za t 1 0, za t 2 0, za t 3 0]) rfl
  have e : dvk t 5 = nv [za t 0 0, za t 1 0, za t 2 0, za t 3 0] + (za t 4 0).toNat * zY := by rw [dvk, mont_nv]
  generalize nv [za t 0 0, za t 1 0, za t 2 0, za t 3 0] = N at *
  have e2 : A * r % M = dvk t 5 - M := by
    rw [← mont_fin (T := dvk t 5) hm hr, Yv (by simp only [zY] at *; omega), zL (by omega)]
  rw [e2, ← nd_mod, ← nd_mod (dvk t 5 - M)]
  congr 1
  simp only [zY] at *
  omega
theorem ri4 : zY * 4458503529701987551646482192314240623644693141688353256590997718326214331684 % mF 4 = 1 := by decide +kernel
theorem bk4 : ((15183074304973897243 : UInt64).toNat * (za (nd (mF 4)) 0 0).toNat + 1) % 18446744073709551616 = 0 := by decide +kernel
theorem nvm4 : dvk (nd (mF 4)) 4 = mF 4 := (dvk4 (zl _ _)).trans (JH _)
theorem two4 (a b : Nat) : montN 4458503529701987551646482192314240623644693141688353256590997718326214331684 (mF 4) (montN 4458503529701987551646482192314240623644693141688353256590997718326214331684 (mF 4) a 1627715501170711445284395025044413883736156588369414752970002579683115011841) b = a * b % mF 4 := by
  have h : 1627715501170711445284395025044413883736156588369414752970002579683115011841 * 4458503529701987551646482192314240623644693141688353256590997718326214331684 * 4458503529701987551646482192314240623644693141688353256590997718326214331684 % mF 4 = 1 := by decide +kernel
  have e : a * 1627715501170711445284395025044413883736156588369414752970002579683115011841 * 4458503529701987551646482192314240623644693141688353256590997718326214331684 * b * 4458503529701987551646482192314240623644693141688353256590997718326214331684 = a * b * (1627715501170711445284395025044413883736156588369414752970002579683115011841 * 4458503529701987551646482192314240623644693141688353256590997718326214331684 * 4458503529701987551646482192314240623644693141688353256590997718326214331684) := by ac_rfl
  rw [montN, montN, Zh, YV, ← Zh, e, Qt, h, ZG, Yj]
theorem back4_go (w : World) : Calls zB 134 #[.agg #[]] w fun e w' => e = .returned (.int .u64 15183074304973897243) ∧ Ev w [] w' [] := by
 refine d_0 [(0, .agg #[])] 3 Tryz.func134 Tryz.ntmps134 (Heap.nil _) fun Ea Eb Ec => wp_seq <| zk <| f_o <| m_m 83 [] Eb Ec fun _ _ Eh Ed Ee => d_e [2] [] Ed fun _ Ef => ze <| d_s [2] [] Ef fun _ Eg => wp_ret <| d_ret1 (t := 2) (v := .int .u64 15183074304973897243) Eg (by kernel_rfl) (by kernel_rfl) ?_
 exact ⟨rfl, Ee.pk []⟩
theorem square4_go (w : World) : Calls zB 135 #[.agg #[]] w fun e w' => e = .returned (.agg (zg (zh (nd 1627715501170711445284395025044413883736156588369414752970002579683115011841)))) ∧ Ev w [] w' [] := by
 refine d_0 [(0, .agg #[])] 4 Tryz.func135 Tryz.ntmps135 (Heap.nil _) fun Ee Ef Eg => wp_seq <| zk <| f_o <| m_m 83 [] Ef Eg fun _ _ El Eh Ei => f_o <| m_z 33 (zh (zf 4 0)) Eh Ei fun _ _ Ej Ek Eb => f_e <| ze <| wp_seq <| zk <| d_k [2,3] [] 1 Ek fun _ Ec => f_o <| zZ 1 4 (zh ([11819153939886771969, 14991950615390032711, 14910419812499177061, 259310039853996605] : List UInt64)) _ Ec Eb rfl (zd (show zc ([11819153939886771969, 14991950615390032711, 14910419812499177061, 259310039853996605] : List UInt64) = 4 from rfl)) (zd (zi)) (zw _) rfl fun _ _ Ed Ea => f_e <| ze <| wp_ret <| Zf (v := .agg (zg (zh ([11819153939886771969, 14991950615390032711, 14910419812499177061, 259310039853996605] : List UInt64)))) (t := 2) (T := 33) (ad := ⟨Ej, 0, none⟩) Ed (by kernel_rfl) (by kernel_rfl) (zF (t := 33) (k := 1) (off := 0) (m := 4) (xs := zh ([11819153939886771969, 14991950615390032711, 14910419812499177061, 259310039853996605] : List UInt64)) Ea rfl (zr (zd (show zc ([11819153939886771969, 14991950615390032711, 14910419812499177061, 259310039853996605] : List UInt64) = 4 from rfl))) (zd (show zc ([11819153939886771969, 14991950615390032711, 14910419812499177061, 259310039853996605] : List UInt64) = 4 from rfl)) (by kernel_rfl) (by kernel_rfl)) ?_
 exact ⟨by kernel_rfl, Ea.pk []⟩
theorem mont4_go (w : World) (a b : List UInt64) (ha : zc a = 4) (hb : zc b = 4) (hAM : nv a < mF 4) : Calls zB 90 #[.agg #[], .agg (zg (zh a)), .agg (zg (zh b))] w fun e w' => e = .returned (.agg (zg (zh (nd (montN 4458503529701987551646482192314240623644693141688353256590997718326214331684 (mF 4) (nv a) (nv b)))))) ∧ Ev w [] w' [] := by
 refine d_0 [(0, .agg #[]), (1, .agg (zg (zh a))), (2, .agg (zg (zh b)))] 159 Tryz.func90 Tryz.ntmps90 (Heap.nil _) fun b2 b3 b4 => wp_seq <| zk <| f_o <| m_m 85 [] b3 b4 fun _ _ Ep b5 b6 => f_o <| m_m 33 (zh a) b5 b6 fun _ _ Ee b7 bV => f_o <| m_m 33 (zh b) b7 bV fun _ _ Ec bW bX => f_o <| m_z 33 (zh (zf 4 0)) bW bX fun _ _ Ed bY E9 => ?_
 refine f_e <| ze <| wp_seq <| r_c (fun ac wo => ∃ (Eb : Nat), Env ac 159 [(4, pt Ee), (5, pt Ec), (6, pt Ed), (7, pt Eb), (8, .int .u64 15183074304973897243)] ∧ Ev w [] wo [.box Ee (zh a) 33, .box Ec (zh b) 33, .box Ed (zh (zf 4 0)) 33, .box Eb (zh (nd (mF 4))) 33]) ?_ ?_
 ·
  refine h_s (fun wv => Ev w [] wv [.box Ep [] 85]) [] 11 ?_
  have Ej := E9.trans (zS E9.heap)
  refine h_name fun G hG => ?_
  have nd539 : ∀ (ac : Act) (wo : World), Env ac 159 [(4, pt Ee), (5, pt Ec), (6, pt Ed), (28, .agg (zg (zh (nd (mF 4))))), (32, .int .u64 15183074304973897243)] → Ev w [] wo [.box Ep [] 85, .box Ee (zh a) 33, .box Ec (zh b) 33, .box Ed (zh (zf 4 0)) 33] → G 3 #[true, true, true, true, true, true, true, true, false, false, false] ac wo := by
   intro _ _ Ha Hb
   refine Zr hG ?_
   refine q_t 8 ?_
   refine m_z 33 (zh (zf 4 0)) Ha Hb fun _ _ Hc Hd EH => ⟨fun _ => EH.pk [0], ?_⟩
   refine q_t 9 ?_
   refine zZ 4 4 (zh (nd (mF 4))) _ Hd EH rfl (zd (zl _ _)) (zd (zi)) (zw _) rfl fun _ _ He Eq => ⟨fun _ => Eq.pk [0], ?_⟩
   refine q_s [10] [] 0 He (Eq.pk [0]) fun _ Hf => ?_
   exact h_e ⟨Hc, Hf.sb, Eq.pk [1, 2, 3, 4]⟩
  have nd555 : ∀ (ac : Act) (wo : World) (Ek : Nat), Env ac 159 [(4, pt Ee), (5, pt Ec), (6, pt Ed), (7, pt Ek), (28, .agg (zg (zh (nd (mF 4))))), (31, .iface 83 (.agg #[]))] → Ev w [] wo [.box Ep [] 85, .box Ee (zh a) 33, .box Ec (zh b) 33, .box Ed (zh (zf 4 0)) 33, .box Ek (zh (zf 4 0)) 33] → G 3 #[true, true, true, true, true, true, true, false, true, false, false] ac wo := by
   intro _ _ Ek Hg Hh
   refine Zr hG ?_
   refine q_t 7 ?_
   refine c_p Hg Hh (back4_go _) fun _ _ Hi EI => ⟨fun _ => EI.pk [0], ?_⟩
   refine q_t 9 ?_
   refine zZ 4 4 (zh (nd (mF 4))) [.box Ep [] 85, .box Ee (zh a) 33, .box Ec (zh b) 33, .box Ed (zh (zf 4 0)) 33, .box Ek (zh (nd (mF 4))) 33] Hi EI rfl (zd (zl _ _)) (zd (zi)) (zw _) rfl fun _ _ Hj Er => ⟨fun _ => Er.pk [0], ?_⟩
   refine q_s [10] [] 0 Hj (Er.pk [0]) fun _ Hk => ?_
   exact h_e ⟨Ek, Hk.sb, Er.pk [1, 2, 3, 4]⟩
  have nd573 : ∀ (ac : Act) (wo : World), Env ac 159 [(4, pt Ee), (5, pt Ec), (6, pt Ed), (28, .agg (zg (zh (nd (mF 4))))), (31, .iface 83 (.agg #[]))] → Ev w [] wo [.box Ep [] 85, .box Ee (zh a) 33, .box Ec (zh b) 33, .box Ed (zh (zf 4 0)) 33] → G 4 #[true, true, true, true, true, true, true, false, false, false, false] ac wo := by
   intro _ _ EJ EK
   refine Zr hG ?_
   refine h_ways [7, 8] (by kernel_rfl) rfl ?_
   refine ⟨?_, ?_, trivial⟩
   ·
    rintro _ rfl
    refine c_p EJ EK (back4_go _) fun _ _ Hl EL => ⟨fun _ => EL.pk [0], ?_⟩
    exact h_to hG (by kernel_rfl) (nd539 _ _ (Hl.sb) (EL.pk [0, 1, 2, 3]))
   rintro _ rfl
   refine m_z 33 (zh (zf 4 0)) EJ EK fun _ _ Hm Hn EM => ⟨fun _ => EM.pk [0], ?_⟩
   exact h_to hG (by kernel_rfl) (nd555 _ _ Hm (Hn.sb) (EM.pk [0, 1, 2, 3, 4]))
  have nd590 : ∀ (ac : Act) (wo : World) (Em : Nat), Env ac 159 [(4, pt Ee), (5, pt Ec), (6, pt Ed), (7, pt Em), (27, .iface 83 (.agg #[])), (31, .iface 83 (.agg #[]))] → Ev w [] wo [.box Ep [] 85, .box Ee (zh a) 33, .box Ec (zh b) 33, .box Ed (zh (zf 4 0)) 33, .box Em (zh (zf 4 0)) 33] → G 4 #[true, true, true, false, true, true, true, false, true, false, false] ac wo := by
   intro _ _ Em Ho Hp
   refine Zr hG ?_
   refine q_t 3 ?_
   refine c_p Ho Hp (prime4_go _) fun _ _ Hq EN => ⟨fun _ => EN.pk [0], ?_⟩
   refine q_t 7 ?_
   refine c_p Hq EN (back4_go _) fun _ _ Hr EO => ⟨fun _ => EO.pk [0], ?_⟩
   refine q_t 9 ?_
   refine zZ 4 4 (zh (nd (mF 4))) _ Hr EO rfl (zd (zl _ _)) (zd (zi)) (zw _) rfl fun _ _ Hs Es => ⟨fun _ => Es.pk [0], ?_⟩
   refine q_s [10] [] 0 Hs (Es.pk [0]) fun _ Ht => ?_
   exact h_e ⟨Em, Ht.sb, Es.pk [1, 2, 3, 4]⟩
  refine Zr hG ?_
  refine q_r 0 (s := Instr.fieldAt 85 (pt Ep) 0) (v := pt Ep) bY (fun w hS => run_field0 (hS.heap.shape0 (k := 0) rfl) (by kernel_rfl)) (Ej.pk [0]) fun _ Hu => q_r 1 (s := Instr.loadAt 83 (pt Ep)) (v := .agg #[]) Hu (fun w hS => zV (m := 0) (cs := []) rfl (by kernel_rfl) (by kernel_rfl) (hS.heap.cells (k := 0) (off := 0) (m := 0) rfl rfl)) (Ej.pk [0]) fun _ Hv => q_s [2] [] 8 Hv (Ej.pk [0]) fun _ Hw => q_r 4 (s := Instr.fieldAt 85 (pt Ep) 0) (v := pt Ep) Hw (fun w hS => run_field0 (hS.heap.shape0 (k := 0) rfl) (by kernel_rfl)) (Ej.pk [0]) fun _ Hx => q_r 5 (s := Instr.loadAt 83 (pt Ep)) (v := .agg #[]) Hx (fun w hS => zV (m := 0) (cs := []) rfl (by kernel_rfl) (by kernel_rfl) (hS.heap.cells (k := 0) (off := 0) (m := 0) rfl rfl)) (Ej.pk [0]) fun _ Hy => q_s [6] [] 5 Hy (Ej.pk [0]) fun _ EP => ?_
  refine h_ways [3, 8] (by kernel_rfl) rfl ?_
  refine ⟨?_, ?_, trivial⟩
  ·
   rintro _ rfl
   refine c_p EP Ej (prime4_go _) fun _ _ Hz EQ => ⟨fun _ => EQ.pk [0], ?_⟩
   exact h_to hG (by kernel_rfl) (nd573 _ _ (Hz.sb) (EQ.pk [0, 1, 2, 3]))
  rintro _ rfl
  refine m_z 33 (zh (zf 4 0)) EP Ej fun _ _ HA HB ER => ⟨fun _ => ER.pk [0], ?_⟩
  exact h_to hG (by kernel_rfl) (nd590 _ _ HA (HB.sb) (ER.pk [0, 1, 2, 3, 4]))
 rintro _ _ ⟨Eb, HC, HD⟩
 refine ze <| wp_seq <| zk <| f_o <| m_z 137 (zh (zf 6 0)) HC HD fun _ _ Ea HE HF => f_e <| ze <| wp_seq <| wp_seq <| d_r [4,5,6,7,8,9,33] [] HE fun _ HG => ?_
 refine ze <| wp_block <| Z5 (fun HH ac wo => ∃ (i : Nat) (t : List UInt64), HH = (5 - i : Nat) ∧ Env ac 159 [(4, pt Ee), (5, pt Ec), (6, pt Ed), (7, pt Eb), (8, .int .u64 15183074304973897243), (9, pt Ea), (33, ni i)] ∧ Ev w [] wo [.box Ea (zh t) 137, .box Ee (zh a) 33, .box Ec (zh b) 33, .box Ed (zh (zf 4 0)) 33, .box Eb (zh (nd (mF 4))) 33] ∧ (i ≤ 4) ∧ (zc t = 6) ∧ (dvk t 5 < 2 * mF 4) ∧ (dvk t 5 * 18446744073709551616 ^ i % mF 4 = nv a * dvk b i % mF 4)) ⟨_, 0, zf 6 0, rfl, HG.sb, HF.pk [4, 0, 1, 2, 3], by omega, (zi), (by rw [dvk_rep]; decide), (by rw [dvk_rep, dvk, Qb, Qc])⟩ ?_
 rintro bZ _ _ ⟨i, t, rfl, HI, Eh, hi, hlt, hT, hm⟩
 refine wp_seq <| d_r [4,5,6,7,8,9,33,34] [] HI fun _ Et => ?_
 refine ze <| wp_seq <| c_d (((i : Nat) : Int) < (4 : Int)) Et (fun HJ => ?_) (fun HJ => ?_)
 ·
  refine wp_skip <| ze <| wp_seq <| wp_block <| wp_seq <| d_r [4,5,6,7,8,9,10,33] [] Et fun _ HK => ze <| wp_seq <| d_r [4,5,6,7,8,9,10,11,33] [] HK fun _ HL => ze <| wp_seq <| wp_seq <| d_r [4,5,6,7,8,9,10,11,33,36] [] HL fun _ HM => ?_
  refine ze <| wp_block <| Z5 (fun HN ac wo => ∃ (k : Nat) (u : List UInt64) (c : UInt64), HN = (5 - k : Nat) ∧ Env ac 159 [(4, pt Ee), (5, pt Ec), (6, pt Ed), (7, pt Eb), (8, .int .u64 15183074304973897243), (9, pt Ea), (10, ni i), (11, zn c), (33, ni i), (36, ni k)] ∧ Ev w [] wo [.box Ea (zh u) 137, .box Ee (zh a) 33, .box Ec (zh b) 33, .box Ed (zh (zf 4 0)) 33, .box Eb (zh (nd (mF 4))) 33] ∧ (k ≤ 4) ∧ (zc u = 6) ∧ (dvk u 5 + c.toNat * 18446744073709551616 ^ k = dvk t 5 + dvk a k * (za b i 0).toNat)) ⟨_, 0, t, 0, rfl, HM.sb, Eh.pk [0, 1, 2, 3, 4], by omega, hlt, mont_i0⟩ ?_
  rintro b0 _ _ ⟨k, u, c, rfl, HO, En, hk, hlu, hu⟩
  refine wp_seq <| d_r [4,5,6,7,8,9,10,11,33,36,37] [] HO fun _ Eu => ?_
  refine ze <| wp_seq <| c_d (((k : Nat) : Int) < (4 : Int)) Eu (fun HP => ?_) (fun HP => ?_)
  ·
   refine wp_skip <| ze <| wp_seq <| wp_block <| wp_seq <| d_r [4,5,6,7,8,9,10,11,12,33,36] [] Eu fun _ HQ => ?_
   refine ze <| wp_seq <| r_c (fun ac wo => Env ac 159 [(4, pt Ee), (5, pt Ec), (6, pt Ed), (7, pt Eb), (8, .int .u64 15183074304973897243), (9, pt Ea), (10, ni i), (11, zn c), (12, ni k), (13, zn (Yx (za a k 0) (za b i 0))), (14, zn ((za a k 0) * (za b i 0))), (33, ni i), (36, ni k)] ∧ Ev w [] wo [.box Ea (zh u) 137, .box Ee (zh a) 33, .box Ec (zh b) 33, .box Ed (zh (zf 4 0)) 33, .box Eb (zh (nd (mF 4))) 33]) ?_ ?_
   ·
    refine h_s (fun wv => Ev w [] wv [.box Ee (zh a) 33, .box Ec (zh b) 33]) [] 12 ?_
    have Eg := En.trans (zS En.heap)
    refine q_s [0] [] 11 HQ (Eg.pk [1, 2]) fun _ HR => q_f 1 (s := Instr.indexAt 33 (pt Ee) (ni k)) (v := .pointer (some ⟨Ee, k, none⟩)) HR (fun _ => zt (e := 31) (sz := 1) (m := 4) (j := k) (o := k) (by kernel_rfl) (by kernel_rfl) (by omega) (by omega) (by omega) _) (fun _ => Eg.pk [1, 2]) fun _ HS => ?_
    have HT : k < zc a := by rw [ha]; omega
    refine q_r 2 (s := Instr.loadAt 31 (.pointer (some ⟨Ee, k, none⟩))) (v := zn (za a k 0)) HS (fun w hS => Zi (by kernel_rfl) (hS.heap.cell (k := 0) rfl (zC HT))) (Eg.pk [1, 2]) fun _ HU => q_s [3] [] 8 HU (Eg.pk [1, 2]) fun _ HV => q_f 4 (s := Instr.indexAt 33 (pt Ec) (ni i)) (v := .pointer (some ⟨Ec, i, none⟩)) HV (fun _ => zt (e := 31) (sz := 1) (m := 4) (j := i) (o := i) (by kernel_rfl) (by kernel_rfl) (by omega) (by omega) (by omega) _) (fun _ => Eg.pk [1, 2]) fun _ HW => ?_
    have HX : i < zc b := by rw [hb]; omega
    refine q_r 5 (s := Instr.loadAt 31 (.pointer (some ⟨Ec, i, none⟩))) (v := zn (za b i 0)) HW (fun w hS => Zi (by kernel_rfl) (hS.heap.cell (k := 1) rfl (zC HX))) (Eg.pk [1, 2]) fun _ HY => q_t 6 ?_
    refine c_p HY Eg (mul_go _ (za a k 0) (za b i 0)) fun _ _ HZ Ew => ⟨fun _ => Ew.pk [1, 2], ?_⟩
    refine q_s [7,8,9,10,11] [] 0 HZ (Ew.pk [1, 2]) fun _ H0 => ?_
    exact h_e ⟨H0.sb, Ew.pk [0, 1, 2, 3, 4]⟩
   rintro _ _ ⟨H1, ES⟩
   refine ze <| wp_seq <| zk <| d_k [4,5,6,7,8,9,10,11,12,13,14,33,36,50,51] [] 2 H1 fun _ H2 => f_o <| q_v (x := Instr.indexAt 137 (pt Ea) (ni k)) (v := .pointer (some ⟨Ea, k, none⟩)) H2 (zt (e := 31) (sz := 1) (m := 6) (j := k) (o := k) (by kernel_rfl) (by kernel_rfl) (by omega) (by omega) (by omega) _) fun _ H3 => f_o ?_
   have H4 : k < zc u := by rw [hlu]; omega
   refine m_v 0 k (zn (za u k 0)) H3 ES rfl (zC H4) fun _ H5 => f_o <| Xt (d := some 54) (f := 85) (args := #[zn ((za a k 0) * (za b i 0)), zn (za u k 0), zn (0 : UInt64)]) (v := .tuple #[zn (z0 ((za a k 0) * (za b i 0)) (za u k 0) (0 : UInt64)), zn (zX ((za a k 0) * (za b i 0)) (za u k 0) (0 : UInt64))]) H5 (by kernel_rfl) (Qj Tryz.func85 (by kernel_rfl) (by kernel_rfl) (by kernel_rfl) (by kernel_rfl) ((za a k 0) * (za b i 0)) (za u k 0) (0 : UInt64) (by decide)) ?_
   intro _ H6
   refine d_e [4,5,6,7,8,9,10,11,12,13,14,15,33,36] [] H6 fun _ H7 => ze <| wp_seq <| zk <| d_k [4,5,6,7,8,9,10,11,12,13,14,15,33,36,58,59] [] 2 H7 fun _ H8 => f_o <| Xt (d := some 60) (f := 85) (args := #[zn (z0 ((za a k 0) * (za b i 0)) (za u k 0) (0 : UInt64)), zn c, zn (0 : UInt64)]) (v := .tuple #[zn (z0 (z0 ((za a k 0) * (za b i 0)) (za u k 0) (0 : UInt64)) c (0 : UInt64)), zn (zX (z0 ((za a k 0) * (za b i 0)) (za u k 0) (0 : UInt64)) c (0 : UInt64))]) H8 (by kernel_rfl) (Qj Tryz.func85 (by kernel_rfl) (by kernel_rfl) (by kernel_rfl) (by kernel_rfl) (z0 ((za a k 0) * (za b i 0)) (za u k 0) (0 : UInt64)) c (0 : UInt64) (by decide)) ?_
   intro _ H9
   refine d_e [4,5,6,7,8,9,10,11,12,13,14,15,16,33,36] [] H9 fun _ aa => ze <| zk <| d_k [4,5,6,7,8,9,10,11,12,14,33,36,63,64,69] [(4, g_i .u64 (zO (x := Yx (za a k 0) (za b i 0)) (y := zX ((za a k 0) * (za b i 0)) (za u k 0) (0 : UInt64)) rfl rfl)), (6, g_i .u64 (zO (x := (Yx (za a k 0) (za b i 0)) + (zX ((za a k 0) * (za b i 0)) (za u k 0) (0 : UInt64))) (y := zX (z0 ((za a k 0) * (za b i 0)) (za u k 0) (0 : UInt64)) c (0 : UInt64)) rfl rfl))] 7 aa fun _ ab => f_o <| q_v (x := Instr.indexAt 137 (pt Ea) (ni k)) (v := .pointer (some ⟨Ea, k, none⟩)) ab (zt (e := 31) (sz := 1) (m := 6) (j := k) (o := k) (by kernel_rfl) (by kernel_rfl) (by omega) (by omega) (by omega) _) fun _ ae => f_o ?_
   have af : k < zc u := by rw [hlu]; omega
   refine m_t 0 k (zn (z0 (z0 ((za a k 0) * (za b i 0)) (za u k 0) (0 : UInt64)) c (0 : UInt64))) [.box Ea (zh (zp u k (z0 (z0 ((za a k 0) * (za b i 0)) (za u k 0) (0 : UInt64)) c (0 : UInt64)))) 137, .box Ee (zh a) 33, .box Ec (zh b) 33, .box Ed (zh (zf 4 0)) 33, .box Eb (zh (nd (mF 4))) 33] ae ES rfl (zC af) (Z4 _ _ _) rfl fun _ _ ag ah => d_e [4,5,6,7,8,9,10,11,12,14,33,36] [] ag fun _ ai => zx <| ze <| d_r [4,5,6,7,8,9,10,11,12,14,33,36] [(0, g_n (w_a k 1))] ai fun _ aj => ze <| ⟨_, ⟨k + 1, (zp u k (z0 (z0 ((za a k 0) * (za b i 0)) (za u k 0) (0 : UInt64)) c (0 : UInt64))), (((Yx (za a k 0) (za b i 0)) + (zX ((za a k 0) * (za b i 0)) (za u k 0) (0 : UInt64))) + (zX (z0 ((za a k 0) * (za b i 0)) (za u k 0) (0 : UInt64)) c (0 : UInt64))), rfl, aj.sb, ah.pk [0, 1, 2, 3, 4], by omega, (List.length_set.trans hlu), mont_in hlu (by omega) hu⟩, ?_⟩
   omega
  refine wp_exit <| zD <| zD <| zP <| ze <| wp_seq ?_
  have hk4 : k = 4 := by omega
  rw [hk4] at hu
  have hmid := mont_mid hlu hu
  refine zk <| d_k [4,5,6,7,8,9,10,11,33,36,73] [] 1 Eu fun _ ak => f_o ?_
  have al : 4 < zc u := by rw [hlu]; omega
  refine m_v 0 4 (zn (za u 4 0)) ak En rfl (zC al) fun _ am => d_k [4,5,6,7,8,9,10,11,33,36,74,75] [] 3 am fun _ an => f_o <| Xt (d := some 76) (f := 85) (args := #[zn (za u 4 0), zn c, zn (0 : UInt64)]) (v := .tuple #[zn (z0 (za u 4 0) c (0 : UInt64)), zn (zX (za u 4 0) c (0 : UInt64))]) an (by kernel_rfl) (Qj Tryz.func85 (by kernel_rfl) (by kernel_rfl) (by kernel_rfl) (by kernel_rfl) (za u 4 0) c (0 : UInt64) (by decide)) ?_
  intro _ ao
  refine d_k [4,5,6,7,8,9,10,11,33,36,77,78,79] [] 8 ao fun _ ap => f_o ?_
  have aq : 4 < zc u := by rw [hlu]; omega
  refine m_t 0 4 (zn (z0 (za u 4 0) c (0 : UInt64))) _ ap En rfl (zC aq) (Z4 _ _ _) rfl fun _ _ ar au => d_k [4,5,6,7,8,9,10,11,33,36,78,80] [] 10 ar fun _ av => f_o ?_
  have aw : 5 < zc (zp u 4 (z0 (za u 4 0) c (0 : UInt64))) := by rw [(List.length_set.trans hlu)]; omega
  refine m_t 0 5 (zn (zX (za u 4 0) c (0 : UInt64))) [.box Ea (zh (zp (zp u 4 (z0 (za u 4 0) c (0 : UInt64))) 5 (zX (za u 4 0) c (0 : UInt64)))) 137, .box Ee (zh a) 33, .box Ec (zh b) 33, .box Ed (zh (zf 4 0)) 33, .box Eb (zh (nd (mF 4))) 33] av au rfl (zC aw) (Z4 _ _ _) rfl fun _ _ ax Ex => f_e <| ze <| wp_seq ?_
  have hlv : zc (zp (zp u 4 (z0 (za u 4 0) c (0 : UInt64))) 5 (zX (za u 4 0) c (0 : UInt64))) = 6 := by rw [Qk, Qk]; exact hlu
  generalize hve : zp (zp u 4 (z0 (za u 4 0) c (0 : UInt64))) 5 (zX (za u 4 0) c (0 : UInt64)) = v at hmid hlv Ex
  obtain ⟨hvP, hv5⟩ := hmid
  refine zk <| d_k [4,5,6,7,8,9,10,11,33,36,81] [] 1 ax fun _ ay => f_o ?_
  have az : 0 < zc v := by rw [hlv]; omega
  refine m_v 0 0 (zn (za v 0 0)) ay Ex rfl (zC az) fun _ aA => d_e [4,5,6,7,8,9,10,11,17,33,36] [(3, g_i .u64 (Go.Dbr.u64_mul (x := za v 0 0) (y := (15183074304973897243 : UInt64)) rfl rfl))] aA fun _ aB => ze <| wp_seq ?_
  obtain ⟨q, hqe⟩ : ∃ q, q = (za v 0 0) * (15183074304973897243 : UInt64) := ⟨_, rfl⟩
  have aC := X9 (t := 17) (v := zn ((za v 0 0) * (15183074304973897243 : UInt64))) (u := zn q) aB (by rw [hqe])
  refine d_r [4,5,6,7,8,9,10,11,17,33,36] [] aC fun _ aD => ze <| wp_seq <| wp_seq <| d_r [4,5,6,7,8,9,10,11,17,33,36,85] [] aD fun _ aE => ?_
  refine ze <| wp_block <| Z5 (fun aF ac wo => ∃ (j : Nat) (w5 : List UInt64) (c : UInt64), aF = (5 - j : Nat) ∧ Env ac 159 [(4, pt Ee), (5, pt Ec), (6, pt Ed), (7, pt Eb), (8, .int .u64 15183074304973897243), (9, pt Ea), (10, ni i), (11, zn c), (17, zn q), (33, ni i), (36, ni k), (85, ni j)] ∧ Ev w [] wo [.box Ea (zh w5) 137, .box Ee (zh a) 33, .box Ec (zh b) 33, .box Ed (zh (zf 4 0)) 33, .box Eb (zh (nd (mF 4))) 33] ∧ (j ≤ 4) ∧ (zc w5 = 6) ∧ (18446744073709551616 * (dvk w5 (j - 1) + c.toNat * 18446744073709551616 ^ (j - 1)) = dvk v j + q.toNat * dvk (nd (mF 4)) j) ∧ (∀ x, j ≤ x → za w5 x 0 = za v x 0)) ⟨_, 0, v, 0, rfl, aE.sb, Ex.pk [0, 1, 2, 3, 4], by omega, hlv, mont_j0, fun _ _ => rfl⟩ ?_
  rintro b1 _ _ ⟨j, w5, c, rfl, aG, Eo, hj, hlw, hv2, hs⟩
  refine wp_seq <| d_r [4,5,6,7,8,9,10,11,17,33,36,85,86] [] aG fun _ Ey => ?_
  refine ze <| wp_seq <| c_d (((j : Nat) : Int) < (4 : Int)) Ey (fun aH => ?_) (fun aH => ?_)
  ·
   refine wp_skip <| ze <| wp_seq <| wp_block <| wp_seq <| d_r [4,5,6,7,8,9,10,11,17,18,33,36,85] [] Ey fun _ aI => ze <| wp_seq <| zk <| d_k [4,5,6,7,8,9,10,11,17,18,33,36,85,89,90] [] 2 aI fun _ aJ => f_o <| q_v (x := Instr.indexAt 33 (pt Eb) (ni j)) (v := .pointer (some ⟨Eb, j, none⟩)) aJ (zt (e := 31) (sz := 1) (m := 4) (j := j) (o := j) (by kernel_rfl) (by kernel_rfl) (by omega) (by omega) (by omega) _) fun _ aK => f_o ?_
   have aL : j < zc (nd (mF 4)) := by rw [(zl _ _)]; omega
   refine m_v 4 j (zn (za (nd (mF 4)) j 0)) aK Eo rfl (zC aL) fun _ aM => f_o <| c_p aM Eo (mul_go _ q (za (nd (mF 4)) j 0)) fun _ _ aN Ez => d_e [4,5,6,7,8,9,10,11,17,18,19,20,33,36,85] [] aN fun _ aO => ze <| wp_seq <| zk <| d_k [4,5,6,7,8,9,10,11,17,18,19,20,33,36,85,97,98] [] 2 aO fun _ aP => f_o <| q_v (x := Instr.indexAt 137 (pt Ea) (ni j)) (v := .pointer (some ⟨Ea, j, none⟩)) aP (zt (e := 31) (sz := 1) (m := 6) (j := j) (o := j) (by kernel_rfl) (by kernel_rfl) (by omega) (by omega) (by omega) _) fun _ aQ => f_o ?_
   have aR : j < zc w5 := by rw [hlw]; omega
   refine m_v 0 j (zn (za w5 j 0)) aQ Ez rfl (zC aR) fun _ aS => f_o <| Xt (d := some 101) (f := 85) (args := #[zn (q * (za (nd (mF 4)) j 0)), zn (za w5 j 0), zn (0 : UInt64)]) (v := .tuple #[zn (z0 (q * (za (nd (mF 4)) j 0)) (za w5 j 0) (0 : UInt64)), zn (zX (q * (za (nd (mF 4)) j 0)) (za w5 j 0) (0 : UInt64))]) aS (by kernel_rfl) (Qj Tryz.func85 (by kernel_rfl) (by kernel_rfl) (by kernel_rfl) (by kernel_rfl) (q * (za (nd (mF 4)) j 0)) (za w5 j 0) (0 : UInt64) (by decide)) ?_
   intro _ aT
   refine d_e [4,5,6,7,8,9,10,11,17,18,19,20,21,33,36,85] [] aT fun _ aU => ze <| wp_seq <| zk <| d_k [4,5,6,7,8,9,10,11,17,18,19,20,21,33,36,85,105,106] [] 2 aU fun _ aV => f_o <| Xt (d := some 107) (f := 85) (args := #[zn (z0 (q * (za (nd (mF 4)) j 0)) (za w5 j 0) (0 : UInt64)), zn c, zn (0 : UInt64)]) (v := .tuple #[zn (z0 (z0 (q * (za (nd (mF 4)) j 0)) (za w5 j 0) (0 : UInt64)) c (0 : UInt64)), zn (zX (z0 (q * (za (nd (mF 4)) j 0)) (za w5 j 0) (0 : UInt64)) c (0 : UInt64))]) aV (by kernel_rfl) (Qj Tryz.func85 (by kernel_rfl) (by kernel_rfl) (by kernel_rfl) (by kernel_rfl) (z0 (q * (za (nd (mF 4)) j 0)) (za w5 j 0) (0 : UInt64)) c (0 : UInt64) (by decide)) ?_
   intro _ aW
   refine d_e [4,5,6,7,8,9,10,11,17,18,19,20,21,22,33,36,85] [] aW fun _ aX => ze <| wp_seq <| wp_seq <| d_r [4,5,6,7,8,9,10,11,17,18,19,20,21,22,33,36,85,111] [] aX fun _ EA => ?_
   refine ze <| c_d (((j : Nat) : Int) > (0 : Int)) EA (fun aY => ?_) (fun aY => ?_)
   ·
    refine zk <| d_k [4,5,6,7,8,9,10,11,17,18,19,20,21,22,33,36,85,113,114] [(1, g_n (w_r (e := ((j : Nat) : Int) - (1 : Int)) (x := ((j - 1 : Nat) : Int)) (by omega)))] 3 EA fun _ aZ => f_o <| q_v (x := Instr.indexAt 137 (pt Ea) (ni (j - 1))) (v := .pointer (some ⟨Ea, j - 1, none⟩)) aZ (zt (e := 31) (sz := 1) (m := 6) (j := j - 1) (o := j - 1) (by kernel_rfl) (by kernel_rfl) (by omega) (by omega) (by omega) _) fun _ a0 => f_o ?_
    have a1 : j - 1 < zc w5 := by rw [hlw]; omega
    refine m_t 0 (j - 1) (zn (z0 (z0 (q * (za (nd (mF 4)) j 0)) (za w5 j 0) (0 : UInt64)) c (0 : UInt64))) _ a0 Ez rfl (zC a1) (Z4 _ _ _) rfl fun _ _ a2 a3 => f_e <| ze <| d_r [4,5,6,7,8,9,10,11,17,18,20,33,36,85] [(2, g_i .u64 (zO (x := Yx q (za (nd (mF 4)) j 0)) (y := zX (q * (za (nd (mF 4)) j 0)) (za w5 j 0) (0 : UInt64)) rfl rfl)), (4, g_i .u64 (zO (x := (Yx q (za (nd (mF 4)) j 0)) + (zX (q * (za (nd (mF 4)) j 0)) (za w5 j 0) (0 : UInt64))) (y := zX (z0 (q * (za (nd (mF 4)) j 0)) (za w5 j 0) (0 : UInt64)) c (0 : UInt64)) rfl rfl))] a2 fun _ a4 => zx <| ze <| d_r [4,5,6,7,8,9,10,11,17,18,20,33,36,85] [(0, g_n (w_a j 1))] a4 fun _ a5 => ze <| ⟨_, ⟨j + 1, (zp w5 (j - 1) (z0 (z0 (q * (za (nd (mF 4)) j 0)) (za w5 j 0) (0 : UInt64)) c (0 : UInt64))), (((Yx q (za (nd (mF 4)) j 0)) + (zX (q * (za (nd (mF 4)) j 0)) (za w5 j 0) (0 : UInt64))) + (zX (z0 (q * (za (nd (mF 4)) j 0)) (za w5 j 0) (0 : UInt64)) c (0 : UInt64))), rfl, a5.sb, a3.pk [0, 1, 2, 3, 4], by omega, (List.length_set.trans hlw), mont_more hlw (by omega) (by omega) (hs j (ZX _)) hv2, fun x hx => by rw [QH _ (by omega)]; exact hs x (by omega)⟩, ?_⟩
    omega
   refine wp_skip <| ze <| d_r [4,5,6,7,8,9,10,11,17,18,20,33,36,85] [(2, g_i .u64 (zO (x := Yx q (za (nd (mF 4)) j 0)) (y := zX (q * (za (nd (mF 4)) j 0)) (za w5 j 0) (0 : UInt64)) rfl rfl)), (4, g_i .u64 (zO (x := (Yx q (za (nd (mF 4)) j 0)) + (zX (q * (za (nd (mF 4)) j 0)) (za w5 j 0) (0 : UInt64))) (y := zX (z0 (q * (za (nd (mF 4)) j 0)) (za w5 j 0) (0 : UInt64)) c (0 : UInt64)) rfl rfl))] EA fun _ a6 => zx <| ze <| d_r [4,5,6,7,8,9,10,11,17,18,20,33,36,85] [(0, g_n (w_a j 1))] a6 fun _ a7 => ze ?_
   have hj0 : j = 0 := by omega
   rw [hj0] at hv2
   refine ⟨_, ⟨j + 1, w5, (((Yx q (za (nd (mF 4)) j 0)) + (zX (q * (za (nd (mF 4)) j 0)) (za w5 j 0) (0 : UInt64))) + (zX (z0 (q * (za (nd (mF 4)) j 0)) (za w5 j 0) (0 : UInt64)) c (0 : UInt64))), rfl, a7.sb, Ez.pk [0, 1, 2, 3, 4], by omega, hlw, (by rw [hj0]; exact mont_first bk4 hqe (hs 0 (by omega)) (mont_c0 hv2)), fun x hx => hs x (by omega)⟩, ?_⟩
   omega
  refine wp_exit <| zD <| zD <| zP <| ze <| wp_seq ?_
  have hj4 : j = 4 := by omega
  rw [hj4] at hv2
  have hmo := mont_out hlw (hs 4 (by omega)) (hs 5 (by omega)) hv5 hv2
  refine d_r [4,5,6,7,8,9,10,11,17,23,33,36,85] [] Ey fun _ a8 => ze <| wp_seq <| zk <| d_k [4,5,6,7,8,9,10,11,17,23,33,36,85,123] [] 1 a8 fun _ a9 => f_o ?_
  have ba : 4 < zc w5 := by rw [hlw]; omega
  refine m_v 0 4 (zn (za w5 4 0)) a9 Eo rfl (zC ba) fun _ bb => d_k [4,5,6,7,8,9,10,11,17,23,33,36,85,124,125] [] 3 bb fun _ bc => f_o <| Xt (d := some 126) (f := 85) (args := #[zn (za w5 4 0), zn c, zn (0 : UInt64)]) (v := .tuple #[zn (z0 (za w5 4 0) c (0 : UInt64)), zn (zX (za w5 4 0) c (0 : UInt64))]) bc (by kernel_rfl) (Qj Tryz.func85 (by kernel_rfl) (by kernel_rfl) (by kernel_rfl) (by kernel_rfl) (za w5 4 0) c (0 : UInt64) (by decide)) ?_
  intro _ bd
  refine d_k [4,5,6,7,8,9,10,11,17,23,33,36,85,127,128,129] [] 8 bd fun _ be => f_o ?_
  have bf : 3 < zc w5 := by rw [hlw]; omega
  refine m_t 0 3 (zn (z0 (za w5 4 0) c (0 : UInt64))) [.box Ea (zh (zp w5 3 (z0 (za w5 4 0) c (0 : UInt64)))) 137, .box Ee (zh a) 33, .box Ec (zh b) 33, .box Ed (zh (zf 4 0)) 33, .box Eb (zh (nd (mF 4))) 33] be Eo rfl (zC bf) (Z4 _ _ _) rfl fun _ _ bg ET => d_e [4,5,6,7,8,9,10,11,17,23,33,36,85] [] bg fun _ bh => ze <| zk <| d_k [4,5,6,7,8,9,10,11,17,23,33,36,85,130] [] 1 bh fun _ bi => f_o ?_
  have bj : 5 < zc (zp w5 3 (z0 (za w5 4 0) c (0 : UInt64))) := by rw [(List.length_set.trans hlw)]; omega
  refine m_v 0 5 (zn (za (zp w5 3 (z0 (za w5 4 0) c (0 : UInt64))) 5 0)) bi ET rfl (zC bj) fun _ bk => d_k [4,5,6,7,8,9,10,11,17,33,36,85,133,134] [(3, g_i .u64 (zO (x := za (zp w5 3 (z0 (za w5 4 0) c (0 : UInt64))) 5 0) (y := zX (za w5 4 0) c (0 : UInt64)) rfl rfl))] 5 bk fun _ bl => f_o ?_
  have bm : 4 < zc (zp w5 3 (z0 (za w5 4 0) c (0 : UInt64))) := by rw [(List.length_set.trans hlw)]; omega
  refine m_t 0 4 (zn ((za (zp w5 3 (z0 (za w5 4 0) c (0 : UInt64))) 5 0) + (zX (za w5 4 0) c (0 : UInt64)))) _ bl ET rfl (zC bm) (Z4 _ _ _) rfl fun _ _ bn bo => f_e <| zx <| ze <| d_r [4,5,6,7,8,9,10,11,17,33,36,85] [(0, g_n (w_a i 1))] bn fun _ bp => ze ?_
  have hnx := mont_next hAM hT hm (hmo.trans (by rw [hvP, dvk4 ha, nvm4]))
  refine ⟨_, ⟨i + 1, (zp (zp w5 3 (z0 (za w5 4 0) c (0 : UInt64))) 4 ((za (zp w5 3 (z0 (za w5 4 0) c (0 : UInt64))) 5 0) + (zX (za w5 4 0) c (0 : UInt64)))), rfl, bp.sb, bo.pk [0, 1, 2, 3, 4], by omega, (by rw [Qk, Qk]; exact hlw), hnx.1, hnx.2⟩, ?_⟩
  omega
 refine wp_exit <| zD <| zD <| zP <| ze <| wp_seq ?_
 have hi4 : i = 4 := by omega
 rw [hi4, dvk4 hb] at hm
 refine zk <| d_k [4,5,6,7,8,9,33,136] [] 1 Et fun _ bq => f_o ?_
 have br : 0 < zc t := by rw [hlt]; omega
 refine m_v 0 0 (zn (za t 0 0)) bq Eh rfl (zC br) fun _ bs => d_k [4,5,6,7,8,9,33,137,138] [] 3 bs fun _ bt => f_o ?_
 have bu : 1 < zc t := by rw [hlt]; omega
 refine m_v 0 1 (zn (za t 1 0)) bt Eh rfl (zC bu) fun _ bv => d_k [4,5,6,7,8,9,33,137,139,140] [] 5 bv fun _ bw => f_o ?_
 have bx : 2 < zc t := by rw [hlt]; omega
 refine m_v 0 2 (zn (za t 2 0)) bw Eh rfl (zC bx) fun _ bz => d_k [4,5,6,7,8,9,33,137,139,141,142] [] 7 bz fun _ bA => f_o ?_
 have bB : 3 < zc t := by rw [hlt]; omega
 refine m_v 0 3 (zn (za t 3 0)) bA Eh rfl (zC bB) fun _ bC => d_k [4,5,6,7,8,9,33,144] [] 9 bC fun _ bD => f_o <| m_z 33 (zh (zf 4 0)) bD Eh fun _ _ Ei bE bF => f_o <| zZ 5 4 (zh ([za t 0 0, za t 1 0, za t 2 0, za t 3 0] : List UInt64)) [.box Ea (zh t) 137, .box Ee (zh a) 33, .box Ec (zh b) 33, .box Ed (zh (zf 4 0)) 33, .box Eb (zh (nd (mF 4))) 33, .box Ei (zh ([za t 0 0, za t 1 0, za t 2 0, za t 3 0] : List UInt64)) 33] bE bF rfl (zd (show zc ([za t 0 0, za t 1 0, za t 2 0, za t 3 0] : List UInt64) = 4 from rfl)) (zd (zi)) (zw _) rfl fun _ _ bG bH => f_e <| ze <| wp_seq <| wp_seq <| zk <| f_o <| c_l [5,4] (M := [.box Ei (zh ([za t 0 0, za t 1 0, za t 2 0, za t 3 0] : List UInt64)) 33, .box Eb (zh (nd (mF 4))) 33]) bG bH (fun hM962 => less_go _ Ei Eb ([za t 0 0, za t 1 0, za t 2 0, za t 3 0] : List UInt64) (nd (mF 4)) (show zc ([za t 0 0, za t 1 0, za t 2 0, za t 3 0] : List UInt64) = 4 from rfl) (zl _ _) hM962) ?_
 rintro _ _ ⟨rfl, bI⟩
 refine ⟨_, _, [.box Ei (zh ([za t 0 0, za t 1 0, za t 2 0, za t 3 0] : List UInt64)) 33, .box Eb (zh (nd (mF 4))) 33, .box Ea (zh t) 137, .box Ee (zh a) 33, .box Ec (zh b) 33, .box Ed (zh (zf 4 0)) 33], rfl, bI, by kernel_rfl, fun _ bJ Ef => ?_⟩
 refine d_k [4,5,6,7,8,9,24,33,146] [] 2 bJ fun _ EU => ?_
 rcases Za (decide (nv ([za t 0 0, za t 1 0, za t 2 0, za t 3 0] : List UInt64) < nv (nd (mF 4)))) with El | El
 ·
  have bK := EU.fx (t := 146) (congrArg Value.bool El)
  have hp973 : nv ([za t 0 0, za t 1 0, za t 2 0, za t 3 0] : List UInt64) < nv (nd (mF 4)) := of_decide_eq_true El
  refine d_k [4,5,6,7,8,9,24,33,146,147] [] 3 bK fun _ bL => f_o ?_
  have bM : 4 < zc t := by rw [hlt]; omega
  refine m_v 2 4 (zn (za t 4 0)) bL Ef rfl (zC bM) fun _ bN => d_e [4,5,6,7,8,9,24,33,150] [] bN fun _ EB => ?_
  refine ze <| c_e ((zA (za t 4 0) : Nat) : Int) (0 : Int) EB (fun bO => ?_) (fun bO => ?_)
  ·
   refine wp_seq <| zk <| f_o <| Zn 0 4 (zh ([za t 0 0, za t 1 0, za t 2 0, za t 3 0] : List UInt64)) EB Ef rfl (zd (show zc ([za t 0 0, za t 1 0, za t 2 0, za t 3 0] : List UInt64) = 4 from rfl)) fun _ bP => f_o <| zZ 5 4 (zh ([za t 0 0, za t 1 0, za t 2 0, za t 3 0] : List UInt64)) _ bP Ef rfl (zd (show zc ([za t 0 0, za t 1 0, za t 2 0, za t 3 0] : List UInt64) = 4 from rfl)) (zd (zi)) (zw _) rfl fun _ _ bQ EV => f_e <| ze <| wp_ret <| Zx <| Zf (v := .agg (zg (zh ([za t 0 0, za t 1 0, za t 2 0, za t 3 0] : List UInt64)))) (t := 6) (T := 33) (ad := ⟨Ed, 0, none⟩) bQ (by kernel_rfl) (by kernel_rfl) (zF (t := 33) (k := 5) (off := 0) (m := 4) (xs := zh ([za t 0 0, za t 1 0, za t 2 0, za t 3 0] : List UInt64)) EV rfl (zr (zd (show zc ([za t 0 0, za t 1 0, za t 2 0, za t 3 0] : List UInt64) = 4 from rfl))) (zd (show zc ([za t 0 0, za t 1 0, za t 2 0, za t 3 0] : List UInt64) = 4 from rfl)) (by kernel_rfl) (by kernel_rfl)) ?_
   have e : ([za t 0 0, za t 1 0, za t 2 0, za t 3 0] : List UInt64) = nd (montN 4458503529701987551646482192314240623644693141688353256590997718326214331684 (mF 4) (nv a) (nv b)) := mont_yes ri4 hm (by rw [← JH 4]; assumption) (by assumption)
   exact ⟨congrArg (fun l : List UInt64 => Ending.returned (Value.agg (zh l).toArray)) e, EV.pk []⟩
  refine wp_skip <| ze <| wp_seq <| zk <| f_o <| Zn 0 4 (zh ([za t 0 0, za t 1 0, za t 2 0, za t 3 0] : List UInt64)) EB Ef rfl (zd (show zc ([za t 0 0, za t 1 0, za t 2 0, za t 3 0] : List UInt64) = 4 from rfl)) fun _ bR => f_o <| Zn 1 4 (zh (nd (mF 4))) bR Ef rfl (zd (zl _ _)) fun _ bS => f_o <| c_p bS Ef (J1 _ ([za t 0 0, za t 1 0, za t 2 0, za t 3 0] : List UInt64) (nd (mF 4)) (show zc ([za t 0 0, za t 1 0, za t 2 0, za t 3 0] : List UInt64) = 4 from rfl) (zl _ _)) fun _ _ bT bU => d_k [4,5,6,7,8,9,24,33,156] [] 6 bT fun _ EW => f_o <| zZ 0 4 (zh (nd (nv ([za t 0 0, za t 1 0, za t 2 0, za t 3 0] : List UInt64) + zY - nv (nd (mF 4))))) [.box Ei (zh (nd (nv ([za t 0 0, za t 1 0, za t 2 0, za t 3 0] : List UInt64) + zY - nv (nd (mF 4))))) 33, .box Eb (zh (nd (mF 4))) 33, .box Ea (zh t) 137, .box Ee (zh a) 33, .box Ec (zh b) 33, .box Ed (zh (zf 4 0)) 33] EW bU rfl (zd (zl _ _)) (zd (show zc ([za t 0 0, za t 1 0, za t 2 0, za t 3 0] : List UInt64) = 4 from rfl)) (zw _) rfl fun _ _ EX EC => f_e <| ze <| wp_seq <| zk <| f_o <| Zn 0 4 (zh (nd (nv ([za t 0 0, za t 1 0, za t 2 0, za t 3 0] : List UInt64) + zY - nv (nd (mF 4))))) EX EC rfl (zd (zl _ _)) fun _ EY => ?_
  refine f_o <| zZ 5 4 (zh (nd (nv ([za t 0 0, za t 1 0, za t 2 0, za t 3 0] : List UInt64) + zY - nv (nd (mF 4))))) _ EY EC rfl (zd (zl _ _)) (zd (zi)) (zw _) rfl fun _ _ EZ ED => f_e <| ze <| wp_ret <| Zf (v := .agg (zg (zh (nd (nv ([za t 0 0, za t 1 0, za t 2 0, za t 3 0] : List UInt64) + zY - nv (nd (mF 4))))))) (t := 6) (T := 33) (ad := ⟨Ed, 0, none⟩) EZ (by kernel_rfl) (by kernel_rfl) (zF (t := 33) (k := 5) (off := 0) (m := 4) (xs := zh (nd (nv ([za t 0 0, za t 1 0, za t 2 0, za t 3 0] : List UInt64) + zY - nv (nd (mF 4))))) ED rfl (zr (zd (zl _ _))) (zd (zl _ _)) (by kernel_rfl) (by kernel_rfl)) ?_
  have e : nd (nv ([za t 0 0, za t 1 0, za t 2 0, za t 3 0] : List UInt64) + zY - nv (nd (mF 4))) = nd (montN 4458503529701987551646482192314240623644693141688353256590997718326214331684 (mF 4) (nv a) (nv b)) := by rw [JH]; exact mont_no (mF_lt _) ri4 hT hm (by rw [← JH 4]; first | (left; assumption) | (right; assumption))
  exact ⟨congrArg (fun l : List UInt64 => Ending.returned (Value.agg (zh l).toArray)) e, ED.pk []⟩
 have E0 := EU.fx (t := 146) (congrArg Value.bool El)
 have hp1012 : ¬ (nv ([za t 0 0, za t 1 0, za t 2 0, za t 3 0] : List UInt64) < nv (nd (mF 4))) := of_decide_eq_false El
 refine d_e [4,5,6,7,8,9,24,33,150] [] E0 fun _ EE => ze <| c_f EE ?_
 refine wp_skip <| ze <| wp_seq <| zk <| f_o <| Zn 0 4 (zh ([za t 0 0, za t 1 0, za t 2 0, za t 3 0] : List UInt64)) EE Ef rfl (zd (show zc ([za t 0 0, za t 1 0, za t 2 0, za t 3 0] : List UInt64) = 4 from rfl)) fun _ E1 => f_o <| Zn 1 4 (zh (nd (mF 4))) E1 Ef rfl (zd (zl _ _)) fun _ E2 => f_o <| c_p E2 Ef (J1 _ ([za t 0 0, za t 1 0, za t 2 0, za t 3 0] : List UInt64) (nd (mF 4)) (show zc ([za t 0 0, za t 1 0, za t 2 0, za t 3 0] : List UInt64) = 4 from rfl) (zl _ _)) fun _ _ E3 E4 => d_k [4,5,6,7,8,9,24,33,156] [] 6 E3 fun _ E5 => f_o <| zZ 0 4 (zh (nd (nv ([za t 0 0, za t 1 0, za t 2 0, za t 3 0] : List UInt64) + zY - nv (nd (mF 4))))) [.box Ei (zh (nd (nv ([za t 0 0, za t 1 0, za t 2 0, za t 3 0] : List UInt64) + zY - nv (nd (mF 4))))) 33, .box Eb (zh (nd (mF 4))) 33, .box Ea (zh t) 137, .box Ee (zh a) 33, .box Ec (zh b) 33, .box Ed (zh (zf 4 0)) 33] E5 E4 rfl (zd (zl _ _)) (zd (show zc ([za t 0 0, za t 1 0, za t 2 0, za t 3 0] : List UInt64) = 4 from rfl)) (zw _) rfl fun _ _ E6 EF => f_e <| ze <| wp_seq <| zk <| f_o <| Zn 0 4 (zh (nd (nv ([za t 0 0, za t 1 0, za t 2 0, za t 3 0] : List UInt64) + zY - nv (nd (mF 4))))) E6 EF rfl (zd (zl _ _)) fun _ E7 => ?_
 refine f_o <| zZ 5 4 (zh (nd (nv ([za t 0 0, za t 1 0, za t 2 0, za t 3 0] : List UInt64) + zY - nv (nd (mF 4))))) _ E7 EF rfl (zd (zl _ _)) (zd (zi)) (zw _) rfl fun _ _ E8 EG => f_e <| ze <| wp_ret <| Zf (v := .agg (zg (zh (nd (nv ([za t 0 0, za t 1 0, za t 2 0, za t 3 0] : List UInt64) + zY - nv (nd (mF 4))))))) (t := 6) (T := 33) (ad := ⟨Ed, 0, none⟩) E8 (by kernel_rfl) (by kernel_rfl) (zF (t := 33) (k := 5) (off := 0) (m := 4) (xs := zh (nd (nv ([za t 0 0, za t 1 0, za t 2 0, za t 3 0] : List UInt64) + zY - nv (nd (mF 4))))) EG rfl (zr (zd (zl _ _))) (zd (zl _ _)) (by kernel_rfl) (by kernel_rfl)) ?_
 have e : nd (nv ([za t 0 0, za t 1 0, za t 2 0, za t 3 0] : List UInt64) + zY - nv (nd (mF 4))) = nd (montN 4458503529701987551646482192314240623644693141688353256590997718326214331684 (mF 4) (nv a) (nv b)) := by rw [JH]; exact mont_no (mF_lt _) ri4 hT hm (by rw [← JH 4]; first | (left; assumption) | (right; assumption))
 exact ⟨congrArg (fun l : List UInt64 => Ending.returned (Value.agg (zh l).toArray)) e, EG.pk []⟩
theorem mn4_lt (x y : Nat) : montN 4458503529701987551646482192314240623644693141688353256590997718326214331684 (mF 4) x y < mF 4 := ZU _ (by decide)
theorem mn4 (x y : Nat) : nv (nd (montN 4458503529701987551646482192314240623644693141688353256590997718326214331684 (mF 4) x y)) = montN 4458503529701987551646482192314240623644693141688353256590997718326214331684 (mF 4) x y := QI (Zu (mn4_lt x y) (mF_lt _))
theorem rmul4 (x y : Nat) : nd (montN 4458503529701987551646482192314240623644693141688353256590997718326214331684 (mF 4) (nv (nd (montN 4458503529701987551646482192314240623644693141688353256590997718326214331684 (mF 4) x (nv (nd 1627715501170711445284395025044413883736156588369414752970002579683115011841))))) y) = nd (x * y % mF 4) := by
  rw [mn4, QI (n := 1627715501170711445284395025044413883736156588369414752970002579683115011841) (by decide), two4]
theorem ring4_go (w : World) (a b : List UInt64) (ha : zc a = 4) (hb : zc b = 4) (hAM : nv a < mF 4) : Calls zB 59 #[.agg #[], .agg (zg (zh a)), .agg (zg (zh b))] w fun e w' => e = .returned (.agg (zg (zh (nd (nv a * nv b % mF 4))))) ∧ Ev w [] w' [] := by
 refine d_0 [(0, .agg #[]), (1, .agg (zg (zh a))), (2, .agg (zg (zh b)))] 17 Tryz.func59 Tryz.ntmps59 (Heap.nil _) fun EC ED EE => wp_seq <| zk <| f_o <| m_m 85 [] ED EE fun _ _ Eh EF EG => f_o <| m_m 33 (zh a) EF EG fun _ _ EB EH Ex => f_o <| m_m 33 (zh b) EH Ex fun _ _ Ei Ey Ez => f_o <| m_z 33 (zh (zf 4 0)) Ey Ez fun _ _ Eg EA Ej => ?_
 refine f_e <| ze <| wp_seq <| r_c (fun ac wo => Env ac 17 [(6, pt Eg)] ∧ Ev w [] wo [.box Eg (zh (nd (montN 4458503529701987551646482192314240623644693141688353256590997718326214331684 (mF 4) (nv (nd (montN 4458503529701987551646482192314240623644693141688353256590997718326214331684 (mF 4) (nv a) (nv (nd 1627715501170711445284395025044413883736156588369414752970002579683115011841))))) (nv b)))) 33]) ?_ ?_
 ·
  refine h_s (fun wv => Ev w [] wv [.box Eh [] 85, .box EB (zh a) 33, .box Ei (zh b) 33]) [] 11 ?_
  have Ea := Ej.trans (zS Ej.heap)
  refine q_r 0 (s := Instr.loadAt 85 (pt Eh)) (v := .agg #[]) EA (fun w hS => zV (m := 0) (cs := []) rfl (by kernel_rfl) (by kernel_rfl) (hS.heap.cells (k := 0) (off := 0) (m := 0) rfl rfl)) (Ea.pk [0, 1, 2]) fun _ Ek => q_r 1 (s := Instr.loadAt 85 (pt Eh)) (v := .agg #[]) Ek (fun w hS => zV (m := 0) (cs := []) rfl (by kernel_rfl) (by kernel_rfl) (hS.heap.cells (k := 0) (off := 0) (m := 0) rfl rfl)) (Ea.pk [0, 1, 2]) fun _ El => q_r 2 (s := Instr.loadAt 33 (pt EB)) (v := .agg (zg (zh a))) El (fun w hS => zV (m := 4) (cs := zh a) (zd ha) (by kernel_rfl) (by kernel_rfl) (hS.heap.cells (k := 1) (off := 0) (m := 4) rfl (zr (zd ha)))) (Ea.pk [0, 1, 2]) fun _ Em => q_r 3 (s := Instr.fieldAt 85 (pt Eh) 0) (v := pt Eh) Em (fun w hS => run_field0 (hS.heap.shape0 (k := 0) rfl) (by kernel_rfl)) (Ea.pk [0, 1, 2]) fun _ En => q_r 4 (s := Instr.loadAt 83 (pt Eh)) (v := .agg #[]) En (fun w hS => zV (m := 0) (cs := []) rfl (by kernel_rfl) (by kernel_rfl) (hS.heap.cells (k := 0) (off := 0) (m := 0) rfl rfl)) (Ea.pk [0, 1, 2]) fun _ Eo => q_s [5] [] 5 Eo (Ea.pk [0, 1, 2]) fun _ Ep => ?_
  refine q_r 8 (s := Instr.loadAt 33 (pt Ei)) (v := .agg (zg (zh b))) Ep (fun w hS => zV (m := 4) (cs := zh b) (zd hb) (by kernel_rfl) (by kernel_rfl) (hS.heap.cells (k := 2) (off := 0) (m := 4) rfl (zr (zd hb)))) (Ea.pk [0, 1, 2]) fun _ Eq => q_t 6 ?_
  refine c_p Eq Ea (square4_go _) fun _ _ Er Eb => ⟨fun _ => Eb.pk [0, 1, 2], ?_⟩
  refine q_t 7 ?_
  refine c_p Er Eb (mont4_go _ a (nd 1627715501170711445284395025044413883736156588369414752970002579683115011841) ha (zl _ _) hAM) fun _ _ Es Ec => ⟨fun _ => Ec.pk [0, 1, 2], ?_⟩
  refine q_t 9 ?_
  refine c_p Es Ec (mont4_go _ (nd (montN 4458503529701987551646482192314240623644693141688353256590997718326214331684 (mF 4) (nv a) (nv (nd 1627715501170711445284395025044413883736156588369414752970002579683115011841)))) b (zl _ _) hb (by rw [mn4]; exact mn4_lt _ _)) fun _ _ Et Ed => ⟨fun _ => Ed.pk [0, 1, 2], ?_⟩
  refine q_t 10 ?_
  refine zZ 3 4 (zh (nd (montN 4458503529701987551646482192314240623644693141688353256590997718326214331684 (mF 4) (nv (nd (montN 4458503529701987551646482192314240623644693141688353256590997718326214331684 (mF 4) (nv a) (nv (nd 1627715501170711445284395025044413883736156588369414752970002579683115011841))))) (nv b)))) _ Et Ed rfl (zd (zl _ _)) (zd (zi)) (zw _) rfl fun _ _ Eu Ee => ⟨fun _ => Ee.pk [0, 1, 2], ?_⟩
  exact h_e ⟨Eu.sb, Ee.pk [3]⟩
 rintro _ _ ⟨Ew, Ef⟩
 refine ze <| wp_ret <| Zf (v := .agg (zg (zh (nd (montN 4458503529701987551646482192314240623644693141688353256590997718326214331684 (mF 4) (nv (nd (montN 4458503529701987551646482192314240623644693141688353256590997718326214331684 (mF 4) (nv a) (nv (nd 1627715501170711445284395025044413883736156588369414752970002579683115011841))))) (nv b)))))) (t := 6) (T := 33) (ad := ⟨Eg, 0, none⟩) Ew (by kernel_rfl) (by kernel_rfl) (zF (t := 33) (k := 0) (off := 0) (m := 4) (xs := zh (nd (montN 4458503529701987551646482192314240623644693141688353256590997718326214331684 (mF 4) (nv (nd (montN 4458503529701987551646482192314240623644693141688353256590997718326214331684 (mF 4) (nv a) (nv (nd 1627715501170711445284395025044413883736156588369414752970002579683115011841))))) (nv b)))) Ef rfl (zr (zd (zl _ _))) (zd (zl _ _)) (by kernel_rfl) (by kernel_rfl)) ?_
 have e : nd (montN 4458503529701987551646482192314240623644693141688353256590997718326214331684 (mF 4) (nv (nd (montN 4458503529701987551646482192314240623644693141688353256590997718326214331684 (mF 4) (nv a) (nv (nd 1627715501170711445284395025044413883736156588369414752970002579683115011841))))) (nv b)) = nd (nv a * nv b % mF 4) := rmul4 _ _
 exact ⟨congrArg (fun l : List UInt64 => Ending.returned (Value.agg (zh l).toArray)) e, Ef.pk []⟩
theorem mulr4 (x y : Nat) : nd (nv (nd (x % mF 4)) * nv (nd (y % mF 4)) % mF 4) = nd (zq 4 x y) := by
  rw [QI (Qw (by decide)), QI (Qw (by decide)), ← Qt]
  rfl
theorem mul4_go (w : World) (a b : List UInt64) (ha : zc a = 4) (hb : zc b = 4) : Calls zB 24 #[.int .i64 4, .agg (zg (zh a)), .agg (zg (zh b))] w fun e w' => e = .returned (.agg (zg (zh (nd (zq 4 (nv a) (nv b)))))) ∧ Ev w [] w' [] := by
 refine d_0 [(0, .int .i64 4), (1, .agg (zg (zh a))), (2, .agg (zg (zh b)))] 45 Tryz.func24 Tryz.ntmps24 (Heap.nil _) fun EK EL EM => wp_seq <| zk <| f_o <| m_m 33 (zh a) EL EM fun _ _ Ei EN EO => f_o <| m_m 33 (zh b) EN EO fun _ _ Ej EP EA => f_o <| m_z 33 (zh (zf 4 0)) EP EA fun _ _ Ec EB EC => f_e <| ze <| wp_seq <| d_s [0,4,5,6,9] [] EB fun _ ED => wp_block <| d_s [0,4,5,6,9,10] [] ED fun _ Ek => ?_
 refine c_f Ek ?_
 refine d_s [0,4,5,6,9,15] [] Ek fun _ El => c_f El ?_
 refine d_s [0,4,5,6,9,20] [] El fun _ Em => c_f Em ?_
 refine d_s [0,4,5,6,9,32] [] Em fun _ En => c_t En ?_
 refine wp_seq <| zk <| d_k [0,4,5,6,9,34] [] 1 En fun _ EE => f_o <| c_p EE EC (modulus_go _ 4) fun _ _ EF EG => f_o <| m_z 33 (zh (zf 4 0)) EF EG fun _ _ Ea EH EI => f_o <| zZ 3 4 (zh (nd (mF 4))) _ EH EI rfl (zd (zl _ _)) (zd (zi)) (zw _) rfl fun _ _ EJ Eo => ?_
 refine f_e <| ze <| wp_seq <| r_c (fun ac wo => Env ac 45 [(0, .int .i64 4), (4, pt Ei), (5, pt Ej), (6, pt Ec), (8, pt Ea), (9, .int .i64 4)] ∧ Ev w [] wo [.box Ei (zh a) 33, .box Ej (zh b) 33, .box Ec (zh (nd (nv (nd (nv a % mF 4)) * nv (nd (nv b % mF 4)) % mF 4))) 33, .box Ea (zh (nd (mF 4))) 33]) ?_ ?_
 ·
  refine h_s (fun wv => Ev w [] wv [.box Ei (zh a) 33, .box Ej (zh b) 33, .box Ea (zh (nd (mF 4))) 33]) [] 9 ?_
  have Eb := Eo.trans (zS Eo.heap)
  refine q_s [0] [] 8 EJ (Eb.pk [0, 1, 3]) fun _ Ep => q_r 1 (s := Instr.loadAt 33 (pt Ei)) (v := .agg (zg (zh a))) Ep (fun w hS => zV (m := 4) (cs := zh a) (zd ha) (by kernel_rfl) (by kernel_rfl) (hS.heap.cells (k := 0) (off := 0) (m := 4) rfl (zr (zd ha)))) (Eb.pk [0, 1, 3]) fun _ Eq => q_r 2 (s := Instr.loadAt 33 (pt Ea)) (v := .agg (zg (zh (nd (mF 4))))) Eq (fun w hS => zV (m := 4) (cs := zh (nd (mF 4))) (zd (zl _ _)) (by kernel_rfl) (by kernel_rfl) (hS.heap.cells (k := 2) (off := 0) (m := 4) rfl (zr (zd (zl _ _))))) (Eb.pk [0, 1, 3]) fun _ Er => q_r 4 (s := Instr.loadAt 33 (pt Ej)) (v := .agg (zg (zh b))) Er (fun w hS => zV (m := 4) (cs := zh b) (zd hb) (by kernel_rfl) (by kernel_rfl) (hS.heap.cells (k := 1) (off := 0) (m := 4) rfl (zr (zd hb)))) (Eb.pk [0, 1, 3]) fun _ Es => q_r 5 (s := Instr.loadAt 33 (pt Ea)) (v := .agg (zg (zh (nd (mF 4))))) Es (fun w hS => zV (m := 4) (cs := zh (nd (mF 4))) (zd (zl _ _)) (by kernel_rfl) (by kernel_rfl) (hS.heap.cells (k := 2) (off := 0) (m := 4) rfl (zr (zd (zl _ _))))) (Eb.pk [0, 1, 3]) fun _ Et => q_t 3 ?_
  refine c_p Et Eb (right_mF _ 4 (by decide) a ha) fun _ _ Eu Ed => ⟨fun _ => Ed.pk [0, 1, 3], ?_⟩
  refine q_t 6 ?_
  refine c_p Eu Ed (right_mF _ 4 (by decide) b hb) fun _ _ Ew Ee => ⟨fun _ => Ee.pk [0, 1, 3], ?_⟩
  refine q_t 7 ?_
  refine c_p Ew Ee (ring4_go _ (nd (nv a % mF 4)) (nd (nv b % mF 4)) (zl _ _) (zl _ _) (by rw [QI (Qw (by decide))]; exact ZU _ (by decide))) fun _ _ Ex Ef => ⟨fun _ => Ef.pk [0, 1, 3], ?_⟩
  refine q_t 8 ?_
  refine zZ 2 4 (zh (nd (nv (nd (nv a % mF 4)) * nv (nd (nv b % mF 4)) % mF 4))) [.box Ei (zh a) 33, .box Ej (zh b) 33, .box Ec (zh (nd (nv (nd (nv a % mF 4)) * nv (nd (nv b % mF 4)) % mF 4))) 33, .box Ea (zh (nd (mF 4))) 33] Ex Ef rfl (zd (zl _ _)) (zd (zi)) (zw _) rfl fun _ _ Ey Eg => ⟨fun _ => Eg.pk [0, 1, 3], ?_⟩
  exact h_e ⟨Ey.sb, Eg.pk [0, 1, 2, 3]⟩
 rintro _ _ ⟨Ez, Eh⟩
 refine ze <| wp_ret <| Qg <| Zx <| Zf (v := .agg (zg (zh (nd (nv (nd (nv a % mF 4)) * nv (nd (nv b % mF 4)) % mF 4))))) (t := 6) (T := 33) (ad := ⟨Ec, 0, none⟩) Ez (by kernel_rfl) (by kernel_rfl) (zF (t := 33) (k := 2) (off := 0) (m := 4) (xs := zh (nd (nv (nd (nv a % mF 4)) * nv (nd (nv b % mF 4)) % mF 4))) Eh rfl (zr (zd (zl _ _))) (zd (zl _ _)) (by kernel_rfl) (by kernel_rfl)) ?_
 have e : nd (nv (nd (nv a % mF 4)) * nv (nd (nv b % mF 4)) % mF 4) = nd (zq 4 (nv a) (nv b)) := mulr4 _ _
 exact ⟨congrArg (fun l : List UInt64 => Ending.returned (Value.agg (zh l).toArray)) e, Eh.pk []⟩
theorem hM4 : MulOk 4 := mul4_go
end Go.Proofs.YtlnogkmnklfjlaaGreatDoor
namespace Go.Dbr
open Go Go.RowKit
def nodupO : List Oper → Nat → Bool
  | [], _ => true
  | o :: r, m => match o.dst with
    | some d => !Y8 m d && nodupO r (m ||| 2 ^ d)
    | none => nodupO r m
theorem nodupO_spec : ∀ (l : List Oper) (m : Nat), nodupO l m = true → (∀ (i : Nat) (o : Oper) (d : Nat), l[i]? = some o → o.dst = some d → Y8 m d = false) ∧ (∀ (i j : Nat) (o q : Oper) (d : Nat), l[i]? = some o → l[j]? = some q → o.dst = some d → q.dst = some d → i = j)
  | [], m, _ => ⟨fun i o d h => by simp at h, fun i j o q d h => by simp at h⟩
  | x :: r, m, h => by
    unfold nodupO at h
    cases hd : x.dst with
    | none =>
      rw [hd] at h
      obtain ⟨h1, h2⟩ := nodupO_spec r m h
      constructor
      · intro i o d hi ho
        cases i with
        | zero => simp at hi; subst hi; rw [hd] at ho; cases ho
        | succ i => exact h1 i o d (by simpa using hi) ho
      · intro i j o q d hi hj ho hq
        cases i with
        | zero => simp at hi; subst hi; rw [hd] at ho; cases ho
        | succ i =>
          cases j with
          | zero => simp at hj; subst hj; rw [hd] at hq; cases hq
          | succ j => rw [h2 i j o q d (by simpa using hi) (by simpa using hj) ho hq]
    | some c =>
      rw [hd] at h
      simp only [Zd, YA] at h
      obtain ⟨h1, h2⟩ := nodupO_spec r _ h.2
      have key : ∀ (i : Nat) (o : Oper) (d : Nat), r[i]? = some o → o.dst = some d → Y8 m d = false ∧ c ≠ d := fun i o d hi ho => by
        have := h1 i o d hi ho
        rw [Nat.testBit_or, Bool.or_eq_false_iff] at this
        refine ⟨this.1, fun e => ?_⟩
        subst e
        rw [Nat.testBit_two_pow_self] at this
        cases this.2
      constructor
      · intro i o d hi ho
        cases i with
        | zero => simp at hi; subst hi; rw [hd] at ho; cases ho; exact h.1
        | succ i => exact (key i o d (by simpa using hi) ho).1
      · intro i j o q d hi hj ho hq
        cases i with
        | zero =>
          cases j with
          | zero => rfl
          | succ j => simp at hi; subst hi; rw [hd] at ho; cases ho; exact absurd rfl (key j q _ (by simpa using hj) hq).2
        | succ i =>
          cases j with
          | zero => simp at hj; subst hj; rw [hd] at hq; cases hq; exact absurd rfl (key i o _ (by simpa using hi) ho).2
          | succ j => rw [h2 i j o q d (by simpa using hi) (by simpa using hj) ho hq]
section
variable {P : Program} {ops : Array Oper} {Q : Exit → Act → World → Prop} {S : World → Prop} {n i : Nat} {l : List (Nat × Value)} {a : Act} {w : World}
end
end Go.Dbr
namespace Go.Proofs.YtlnogkmnklfjlaaGreatDoor
open Go.Dbr
theorem mul1_go (w : World) (a b : List UInt64) (ha : zc a = 4) (hb : zc b = 4) : Calls zB 24 #[.int .i64 1, .agg (zg (zh a)), .agg (zg (zh b))] w fun e w' => e = .returned (.agg (zg (zh (nd (zq 1 (nv a) (nv b)))))) ∧ Ev w [] w' [] := by
 refine d_0 [(0, .int .i64 1), (1, .agg (zg (zh a))), (2, .agg (zg (zh b)))] 45 Tryz.func24 Tryz.ntmps24 (Heap.nil _) fun Em En Eo => wp_seq <| zk <| f_o <| m_m 33 (zh a) En Eo fun _ _ Es Ep Eq => f_o <| m_m 33 (zh b) Ep Eq fun _ _ Et Er Ed => f_o <| m_z 33 (zh (zf 4 0)) Er Ed fun _ _ Ee Ef Ea => f_e <| ze <| wp_seq <| d_s [0,4,5,6,9] [] Ef fun _ Eg => wp_block <| d_s [0,4,5,6,9,10] [] Eg fun _ Eb => ?_
 refine c_t Eb ?_
 refine wp_seq <| zk <| f_o <| Zn 0 4 (zh a) Eb Ea rfl (zd ha) fun _ Eh => f_o <| Zn 1 4 (zh b) Eh Ea rfl (zd hb) fun _ Ei => f_o <| c_p Ei Ea (mul25_go _ a b ha hb) fun _ _ Ej Ek => f_o <| zZ 2 4 (zh (nd ((nv a * nv b) % mF 1))) _ Ej Ek rfl (zd (zl _ _)) (zd (zi)) (zw _) rfl fun _ _ El Ec => f_e <| ze <| wp_ret <| Qg <| Zx <| Zf (v := .agg (zg (zh (nd ((nv a * nv b) % mF 1))))) (t := 6) (T := 33) (ad := ⟨Ee, 0, none⟩) El (by kernel_rfl) (by kernel_rfl) (zF (t := 33) (k := 2) (off := 0) (m := 4) (xs := zh (nd ((nv a * nv b) % mF 1))) Ec rfl (zr (zd (zl _ _))) (zd (zl _ _)) (by kernel_rfl) (by kernel_rfl)) ?_
 exact ⟨rfl, Ec.pk []⟩
theorem hM1 : MulOk 1 := mul1_go
theorem n32_ext {l : List UInt64} {k n : Nat} (hl : l.length = k) (h : ∀ j, j < k → (za l j 0).toNat = n / 4294967296 ^ j % 4294967296) : l = n32 k n := by
  refine Kn (by rw [hl, ZR]) fun j h1 h2 => ?_
  apply QE.1
  have a := h j (by omega)
  have b := JI k n j (by omega)
  rw [zN, zR h1] at a
  rw [zN, zR h2] at b
  exact a.trans b.symm
theorem shr_n (x : UInt64) {n : Nat} (h : n < 64) : (x >>> zb n).toNat = x.toNat / 2 ^ n := by
  rw [UInt64.toNat_shiftRight, Nat.shiftRight_eq_div_pow, ofNat_val, zL (a := n) (by omega), zL h]
theorem half_dig {x y : UInt64} (hx : x.toNat < 4294967296) : ((x >>> zb 1) ||| ((y &&& 1) <<< zb 31)).toNat = x.toNat / 2 + y.toNat % 2 * 2147483648 := by
  rw [Yq, shr_n x (by decide), Qy, Ys, show (1 : UInt64).toNat = 1 from rfl, Jw, show (zb 31).toNat % 64 = 31 from rfl]
  rw [zL (by rw [ZA]; omega), J2, ← Qa (by omega), ZA]
  omega
theorem dbl_lo (x : UInt64) : ((x <<< zb 1) &&& 4294967295).toNat = 2 * x.toNat % 4294967296 := by
  have := Qm x
  rw [and_low, Qy, show (zb 1).toNat % 64 = 1 from rfl, ZA]
  omega
theorem dbl_dig {x y : UInt64} (hy : y.toNat < 4294967296) : (((x <<< zb 1) &&& 4294967295) ||| (y >>> zb 31)).toNat = 2 * x.toNat % 4294967296 + y.toNat / 2147483648 := by
  rw [Yq, dbl_lo, shr_n y (by decide)]
  have e : 2 * x.toNat % 4294967296 = (x.toNat % 2147483648) <<< 1 := by rw [ZA]; omega
  rw [e, ← Qa (by omega)]
theorem dig_half (X j : Nat) : X / 2 / 4294967296 ^ j % 4294967296 = X / 4294967296 ^ j % 4294967296 / 2 + X / 4294967296 ^ (j + 1) % 4294967296 % 2 * 2147483648 := by
  rw [Zv, z5 2, ← Zv, z9, ← Zv]
  omega
theorem dig_dbl (X j : Nat) : 2 * X / 4294967296 ^ (j + 1) % 4294967296 = 2 * (X / 4294967296 ^ (j + 1) % 4294967296) % 4294967296 + X / 4294967296 ^ j % 4294967296 / 2147483648 := by
  have e : 2 * X / 4294967296 ^ (j + 1) = X / 4294967296 ^ j / 2147483648 := by
    rw [z9, show 4294967296 ^ j * 4294967296 = 2 * (4294967296 ^ j * 2147483648) by omega, Nat.mul_div_mul_left _ _ (by decide), Zv]
  rw [e, z9, ← Zv]
  omega
def Two (X Y i : Nat) (u : List UInt64) : Prop := ∀ j, j < 17 → (za u j 0).toNat = (if j < i then X else Y) / 4294967296 ^ j % 4294967296
theorem Two.zero {X Y : Nat} : Two X Y 0 (n32 17 Y) := fun j hj => by rw [if_neg (by omega)]; exact JI 17 Y j hj
theorem Two.all {X Y i : Nat} {u : List UInt64} (hu : u.length = 17) (hi : i = 17) (h : Two X Y i u) : u = n32 17 X := n32_ext hu fun j hj => by
  have := h j hj
  rwa [if_pos (by omega)] at this
theorem Two.step {X Y i : Nat} {u : List UInt64} {d : UInt64} (hu : u.length = 17) (hi : i < 17) (h : Two X Y i u) (hd : d.toNat = X / 4294967296 ^ i % 4294967296) : Two X Y (i + 1) (zp u i d) := fun j hj => by
  by_cases e : i = j
  · subst e
    rw [getD_set_eq _ (by omega), hd, if_pos (by omega)]
  · rw [QH _ e, h j hj]
    by_cases e2 : j < i
    · rw [if_pos e2, if_pos (by omega)]
    · rw [if_neg e2, if_neg (by omega)]
theorem half_in {X i : Nat} {u : List UInt64} (hu : u.length = 17) (hi : i < 16) (h : Two (X / 2) X i u) : Two (X / 2) X (i + 1) (zp (zp u i (za u i 0 >>> zb 1)) i (za (zp u i (za u i 0 >>> zb 1)) i 0 ||| ((za (zp u i (za u i 0 >>> zb 1)) (i + 1) 0 &&& 1) <<< zb 31))) := by
  rw [XF, getD_set_eq _ (by omega), QH _ (by omega)]
  have e1 := h i (by omega)
  have e2 := h (i + 1) (by omega)
  rw [if_neg (by omega)] at e1 e2
  refine Two.step hu (by omega) h ?_
  rw [half_dig (by rw [e1]; omega), e1, e2, dig_half]
theorem half_last {X i : Nat} {u : List UInt64} (hX : X < 4294967296 ^ 17) (hu : u.length = 17) (hi : i = 16) (h : Two (X / 2) X i u) : Two (X / 2) X (i + 1) (zp u i (za u i 0 >>> zb 1)) := by
  have e1 := h i (by omega)
  rw [if_neg (by omega)] at e1
  refine Two.step hu (by omega) h ?_
  rw [shr_n _ (by decide), e1, dig_half, show X / 4294967296 ^ (i + 1) = 0 by rw [hi]; exact YJ hX]
  omega
theorem dbl_in {X i : Nat} {u : List UInt64} (hu : u.length = 17) (hi : i < 17) (h0 : 0 < i) (h : Two (2 * X) 0 i u) : Two (2 * X) 0 (i + 1) (zp (zp u i ((za (n32 17 X) i 0 <<< zb 1) &&& 4294967295)) i (za (zp u i ((za (n32 17 X) i 0 <<< zb 1) &&& 4294967295)) i 0 ||| (za (n32 17 X) (i - 1) 0 >>> zb 31))) := by
  rw [XF, getD_set_eq _ (by omega)]
  refine Two.step hu hi h ?_
  have e1 := JI 17 X i hi
  have e2 := JI 17 X (i - 1) (by omega)
  have e3 := dig_dbl X (i - 1)
  rw [show i - 1 + 1 = i by omega] at e3
  rw [dbl_dig (by rw [e2]; omega), e1, e2, e3]
theorem dbl_0 {X i : Nat} {u : List UInt64} (hu : u.length = 17) (h0 : i = 0) (h : Two (2 * X) 0 i u) : Two (2 * X) 0 (i + 1) (zp u i ((za (n32 17 X) i 0 <<< zb 1) &&& 4294967295)) := by
  subst h0
  refine Two.step hu (by omega) h ?_
  rw [dbl_lo, JI 17 X 0 (by decide), Z6, YG, YG]
  omega
theorem Two.zeros {X : Nat} : Two X 0 0 (zf 17 0) := fun j hj => by
  rw [zeros17, if_neg (by omega), Nat.zero_div]; rfl
theorem dk_same {a b : List UInt64} {q : Nat} : ∀ k, (∀ j, q ≤ j → j < q + k → za a j 0 = za b j 0) → dk a (q + k) + dk b q = dk b (q + k) + dk a q
  | 0, _ => by rw [Zy, Nat.add_comm]
  | k + 1, h => by
    have ih := dk_same k fun j h1 h2 => h j h1 (by omega)
    have e := h (q + k) (by omega) (by omega)
    rw [← ZP, dk, dk, e]
    omega
theorem dk17 {a : List UInt64} (ha : a.length = 17) : dv 4294967296 a = dk a 17 := by
  have e := dk_split a 17
  rw [List.drop_eq_nil_of_le (by omega), show dv 4294967296 [] = 0 from rfl, Qc, Zy] at e
  exact e
theorem lower_at {a b : List UInt64} (ha : a.length = 17) (hb : b.length = 17) (da : DG a) (db : DG b) {i : Nat} (hi : i < 17) (hs : ∀ j, i + 1 ≤ j → j < 17 → za a j 0 = za b j 0) (hne : ¬ (((za a i 0).toNat : Nat) : Int) = (((za b i 0).toNat : Nat) : Int)) : (((za a i 0).toNat : Nat) : Int) < (((za b i 0).toNat : Nat) : Int) ↔ dv 4294967296 a < dv 4294967296 b := by
  have e := dk_same (a := a) (b := b) (q := i + 1) (17 - (i + 1)) fun j h1 h2 => hs j h1 (by omega)
  rw [show i + 1 + (17 - (i + 1)) = 17 by omega] at e
  rw [dk17 ha, dk17 hb]
  rw [show dk b (i + 1) = dk b i + (za b i 0).toNat * 4294967296 ^ i from rfl, show dk a (i + 1) = dk a i + (za a i 0).toNat * 4294967296 ^ i from rfl] at e
  have l1 := dk_lt da i
  have l2 := dk_lt db i
  generalize 4294967296 ^ i = q at *
  constructor
  · intro h
    have : (za a i 0).toNat + 1 ≤ (za b i 0).toNat := by omega
    have := Qi q this
    rw [Zt] at this
    omega
  · intro h
    rcases Qq (za a i 0).toNat (za b i 0).toNat with g | g
    · omega
    · have : (za b i 0).toNat + 1 ≤ (za a i 0).toNat := by omega
      have := Qi q this
      rw [Zt] at this
      omega
theorem lower_eq {a b : List UInt64} (ha : a.length = 17) (hb : b.length = 17) (hs : ∀ j, 0 ≤ j → j < 17 → za a j 0 = za b j 0) : ¬ dv 4294967296 a < dv 4294967296 b := by
  have e := dk_same (a := a) (b := b) (q := 0) 17 fun j h1 h2 => hs j h1 (by omega)
  rw [QU] at e
  rw [dk17 ha, dk17 hb]
  simp only [dk] at *
  omega
theorem halved_go (w : World) (X : Nat) (hX : X < 4294967296 ^ 17) : Calls zB 112 #[.agg (zg (zh (n32 17 X)))] w fun e w' => e = .returned (.agg (zg (zh (n32 17 (X / 2))))) ∧ Ev w [] w' [] := by
 refine d_0 [(0, .agg (zg (zh (n32 17 X))))] 29 Tryz.func112 Tryz.ntmps112 (Heap.nil _) fun EQ ER ES => wp_seq <| zk <| f_o <| m_m 87 (zh (n32 17 X)) ER ES fun _ _ Eb ET EU => f_o <| m_z 87 (zh (zf 17 0)) ET EU fun _ _ Eh EV EC => f_e <| ze <| wp_seq <| d_s [1,2,3] [] EV fun _ ED => ?_
 refine wp_block <| Z5 (fun EE ac wo => ∃ (i : Nat) (u : List UInt64), EE = (18 - i : Nat) ∧ Env ac 29 [(1, pt Eb), (2, pt Eh), (3, ni i)] ∧ Ev w [] wo [.box Eb (zh u) 87, .box Eh (zh (zf 17 0)) 87] ∧ (i ≤ 17) ∧ (zc u = 17) ∧ (Two (X / 2) X i u)) ⟨_, 0, n32 17 X, rfl, ED.sb, EC.pk [0, 1], by omega, ZR _ _, Two.zero⟩ ?_
 rintro EW _ _ ⟨i, u, rfl, EF, Ec, hi, hu, h2⟩
 refine wp_seq <| d_s [1,2,3,5] [] EF fun _ Ee => ?_
 refine c_d (((i : Nat) : Int) < (17 : Int)) Ee (fun EG => ?_) (fun EG => ?_)
 ·
  refine wp_skip <| ze <| wp_seq <| wp_block <| wp_seq <| zk <| d_k [1,2,3,8,9] [] 2 Ee fun _ EH => f_o <| q_v (x := Instr.indexAt 87 (pt Eb) (ni i)) (v := .pointer (some ⟨Eb, i, none⟩)) EH (zt (e := 31) (sz := 1) (m := 17) (j := i) (o := i) (by kernel_rfl) (by kernel_rfl) (by omega) (by omega) (by omega) _) fun _ EI => f_o ?_
  have EJ : i < zc u := by rw [hu]; omega
  refine m_v 0 i (zn (za u i 0)) EI Ec rfl (zC EJ) fun _ EK => d_k [1,2,3,8,12] [(4, g_i .u64 (zI (x := za u i 0) (n := 1) rfl (by decide)))] 5 EK fun _ EL => f_o <| q_v (x := Instr.indexAt 87 (pt Eb) (ni i)) (v := .pointer (some ⟨Eb, i, none⟩)) EL (zt (e := 31) (sz := 1) (m := 17) (j := i) (o := i) (by kernel_rfl) (by kernel_rfl) (by omega) (by omega) (by omega) _) fun _ EM => f_o ?_
  have EN : i < zc u := by rw [hu]; omega
  refine m_t 0 i (zn ((za u i 0) >>> zb 1)) _ EM Ec rfl (zC EN) (Z4 _ _ _) rfl fun _ _ EO Ef => f_e <| ze <| d_s [1,2,3,15] [] EO fun _ Eg => ?_
  refine c_d (((i : Nat) : Int) < (16 : Int)) Eg (fun EP => ?_) (fun EP => ?_)
  ·
   refine r_c (fun ac wo => Env ac 29 [(1, pt Eb), (2, pt Eh), (3, ni i)] ∧ Ev w [] wo [.box Eb (zh (zp (zp u i ((za u i 0) >>> zb 1)) i ((za (zp u i ((za u i 0) >>> zb 1)) i 0) ||| (((za (zp u i ((za u i 0) >>> zb 1)) (i + 1) 0) &&& (1 : UInt64)) <<< zb 31)))) 87, .box Eh (zh (zf 17 0)) 87]) ?_ ?_
   ·
    refine h_s (fun wv => Ev w [] wv [.box Eb (zh (zp u i ((za u i 0) >>> zb 1))) 87]) [12] 13 ?_
    have Ea := Ef.trans (zS Ef.heap)
    refine q_s [0,1] [] 11 Eg (Ea.pk [0]) fun _ Ei => q_f 2 (s := Instr.indexAt 87 (pt Eb) (ni i)) (v := .pointer (some ⟨Eb, i, none⟩)) Ei (fun _ => zt (e := 31) (sz := 1) (m := 17) (j := i) (o := i) (by kernel_rfl) (by kernel_rfl) (by omega) (by omega) (by omega) _) (fun _ => Ea.pk [0]) fun _ Ej => ?_
    have Ek : i < zc (zp u i ((za u i 0) >>> zb 1)) := by rw [(List.length_set.trans hu)]; omega
    refine q_r 3 (s := Instr.loadAt 31 (.pointer (some ⟨Eb, i, none⟩))) (v := zn (za (zp u i ((za u i 0) >>> zb 1)) i 0)) Ej (fun w hS => Zi (by kernel_rfl) (hS.heap.cell (k := 0) rfl (zC Ek))) (Ea.pk [0]) fun _ El => q_s [4,5] [(5, g_n (w_a i 1))] 7 El (Ea.pk [0]) fun _ Em => q_f 6 (s := Instr.indexAt 87 (pt Eb) (ni (i + 1))) (v := .pointer (some ⟨Eb, i + 1, none⟩)) Em (fun _ => zt (e := 31) (sz := 1) (m := 17) (j := i + 1) (o := i + 1) (by kernel_rfl) (by kernel_rfl) (by omega) (by omega) (by omega) _) (fun _ => Ea.pk [0]) fun _ En => ?_
    have Eo : i + 1 < zc (zp u i ((za u i 0) >>> zb 1)) := by rw [(List.length_set.trans hu)]; omega
    refine q_r 7 (s := Instr.loadAt 31 (.pointer (some ⟨Eb, i + 1, none⟩))) (v := zn (za (zp u i ((za u i 0) >>> zb 1)) (i + 1) 0)) En (fun w hS => Zi (by kernel_rfl) (hS.heap.cell (k := 0) rfl (zC Eo))) (Ea.pk [0]) fun _ Ep => q_s [8,9,10] [(8, g_i .u64 (Zp (x := za (zp u i ((za u i 0) >>> zb 1)) (i + 1) 0) (y := (1 : UInt64)) rfl rfl)), (9, g_i .u64 (Qf (x := (za (zp u i ((za u i 0) >>> zb 1)) (i + 1) 0) &&& (1 : UInt64)) (n := 31) rfl (by decide))), (10, g_i .u64 (ZL (x := za (zp u i ((za u i 0) >>> zb 1)) i 0) (y := ((za (zp u i ((za u i 0) >>> zb 1)) (i + 1) 0) &&& (1 : UInt64)) <<< zb 31) rfl rfl))] 2 Ep (Ea.pk [0]) fun _ Eq => q_f 11 (s := Instr.indexAt 87 (pt Eb) (ni i)) (v := .pointer (some ⟨Eb, i, none⟩)) Eq (fun _ => zt (e := 31) (sz := 1) (m := 17) (j := i) (o := i) (by kernel_rfl) (by kernel_rfl) (by omega) (by omega) (by omega) _) (fun _ => Ea.pk [0]) fun _ Er => q_t 12 ?_
    have Es : i < zc (zp u i ((za u i 0) >>> zb 1)) := by rw [(List.length_set.trans hu)]; omega
    refine m_t 0 i (zn ((za (zp u i ((za u i 0) >>> zb 1)) i 0) ||| (((za (zp u i ((za u i 0) >>> zb 1)) (i + 1) 0) &&& (1 : UInt64)) <<< zb 31))) [.box Eb (zh (zp (zp u i ((za u i 0) >>> zb 1)) i ((za (zp u i ((za u i 0) >>> zb 1)) i 0) ||| (((za (zp u i ((za u i 0) >>> zb 1)) (i + 1) 0) &&& (1 : UInt64)) <<< zb 31)))) 87, .box Eh (zh (zf 17 0)) 87] Er Ea rfl (zC Es) (Z4 _ _ _) rfl fun _ _ Et Eu => ⟨q_y, ?_⟩
    exact h_e ⟨Et.sb, Eu.pk [0, 1]⟩
   rintro _ _ ⟨Ew, Ex⟩
   refine zx <| ze <| d_r [1,2,3] [(1, g_n (w_a i 1))] Ew fun _ Ey => ze <| ⟨_, ⟨i + 1, (zp (zp u i ((za u i 0) >>> zb 1)) i ((za (zp u i ((za u i 0) >>> zb 1)) i 0) ||| (((za (zp u i ((za u i 0) >>> zb 1)) (i + 1) 0) &&& (1 : UInt64)) <<< zb 31))), rfl, Ey.sb, Ex.pk [0, 1], by omega, (by simp [hu]), (by first | exact half_in hu (by omega) h2 | exact half_last hX hu (by omega) h2)⟩, ?_⟩
   omega
  refine wp_skip <| zx <| ze <| d_r [1,2,3] [(1, g_n (w_a i 1))] Eg fun _ Ez => ze <| ⟨_, ⟨i + 1, (zp u i ((za u i 0) >>> zb 1)), rfl, Ez.sb, Ef.pk [0, 1], by omega, (by simp [hu]), (by first | exact half_in hu (by omega) h2 | exact half_last hX hu (by omega) h2)⟩, ?_⟩
  omega
 refine wp_exit <| zD <| zD <| zP <| ze <| wp_seq <| zk <| f_o <| Zn 0 17 (zh u) Ee Ec rfl (zd hu) fun _ EA => f_o <| zZ 1 17 (zh u) _ EA Ec rfl (zd hu) (zd (zi)) (zw _) rfl fun _ _ EB Ed => f_e <| ze <| wp_ret <| Zf (v := .agg (zg (zh u))) (t := 2) (T := 87) (ad := ⟨Eh, 0, none⟩) EB (by kernel_rfl) (by kernel_rfl) (zF (t := 87) (k := 1) (off := 0) (m := 17) (xs := zh u) Ed rfl (zr (zd hu)) (zd hu) (by kernel_rfl) (by kernel_rfl)) ?_
 have hue := Two.all hu (by omega) h2
 subst hue
 exact ⟨rfl, Ed.pk []⟩
theorem lower_go (w : World) (a b : List UInt64) (ha : zc a = 17) (hb : zc b = 17) (da : DG a) (db : DG b) : Calls zB 111 #[.agg (zg (zh a)), .agg (zg (zh b))] w fun e w' => e = .returned (.bool (decide (dv 4294967296 a < dv 4294967296 b))) ∧ Ev w [] w' [] := by
 refine d_0 [(0, .agg (zg (zh a))), (1, .agg (zg (zh b)))] 24 Tryz.func111 Tryz.ntmps111 (Heap.nil _) fun EN EO EP => wp_seq <| zk <| f_o <| m_m 87 (zh a) EO EP fun _ _ Ec EQ ER => f_o <| m_m 87 (zh b) EQ ER fun _ _ Ed ES Ew => d_e [2,3,4] [] ES fun _ Ex => ze <| wp_seq <| wp_seq <| d_r [2,3,4,5] [] Ex fun _ Ey => ?_
 refine ze <| wp_block <| Z5 (fun Ez ac wo => ∃ (q : Nat), Ez = (q + 1 : Nat) ∧ Env ac 24 [(2, pt Ec), (3, pt Ed), (5, .int .i64 (((q : Nat) : Int) - (1 : Int)))] ∧ Ev w [] wo [.box Ec (zh a) 87, .box Ed (zh b) 87] ∧ (q ≤ 17) ∧ (∀ j, q ≤ j → j < 17 → za a j 0 = za b j 0)) ⟨_, 17, rfl, Ey.sb, Ew.pk [0, 1], by omega, fun j h1 h2 => by omega⟩ ?_
 rintro ET _ _ ⟨q, rfl, EA, Ee, hq, hs⟩
 refine wp_seq <| wp_seq <| d_r [2,3,5,7] [] EA fun _ Ef => ?_
 refine ze <| c_d (((q : Nat) : Int) - (1 : Int) ≥ (0 : Int)) Ef (fun EB => ?_) (fun EB => ?_)
 ·
  refine wp_skip <| ze <| wp_seq <| wp_block <| wp_seq ?_
  have EC := X9 (t := 5) (v := .int .i64 (((q : Nat) : Int) - (1 : Int))) (u := ni (q - 1)) Ef (congrArg (Value.int .i64) (show ((q : Nat) : Int) - (1 : Int) = ((q - 1 : Nat) : Int) by omega))
  refine r_c (fun ac wo => Env ac 24 [(2, pt Ec), (3, pt Ed), (5, ni (q - 1)), (16, .bool (((zA (za a (q - 1) 0) : Nat) : Int) != ((zA (za b (q - 1) 0) : Nat) : Int)))] ∧ Ev w [] wo [.box Ec (zh a) 87, .box Ed (zh b) 87]) ?_ ?_
  ·
   refine h_s (fun wv => Ev w [] wv [.box Ec (zh a) 87, .box Ed (zh b) 87]) [] 7 ?_
   have Ea := Ee.trans (zS Ee.heap)
   refine q_s [0] [] 6 EC (Ea.pk [0, 1]) fun _ ED => q_f 1 (s := Instr.indexAt 87 (pt Ec) (ni (q - 1))) (v := .pointer (some ⟨Ec, q - 1, none⟩)) ED (fun _ => zt (e := 31) (sz := 1) (m := 17) (j := q - 1) (o := q - 1) (by kernel_rfl) (by kernel_rfl) (by omega) (by omega) (by omega) _) (fun _ => Ea.pk [0, 1]) fun _ EE => ?_
   have EF : q - 1 < zc a := by rw [ha]; omega
   refine q_r 2 (s := Instr.loadAt 31 (.pointer (some ⟨Ec, q - 1, none⟩))) (v := zn (za a (q - 1) 0)) EE (fun w hS => Zi (by kernel_rfl) (hS.heap.cell (k := 0) rfl (zC EF))) (Ea.pk [0, 1]) fun _ EG => q_s [3] [] 3 EG (Ea.pk [0, 1]) fun _ EH => q_f 4 (s := Instr.indexAt 87 (pt Ed) (ni (q - 1))) (v := .pointer (some ⟨Ed, q - 1, none⟩)) EH (fun _ => zt (e := 31) (sz := 1) (m := 17) (j := q - 1) (o := q - 1) (by kernel_rfl) (by kernel_rfl) (by omega) (by omega) (by omega) _) (fun _ => Ea.pk [0, 1]) fun _ EI => ?_
   have EJ : q - 1 < zc b := by rw [hb]; omega
   refine q_r 5 (s := Instr.loadAt 31 (.pointer (some ⟨Ed, q - 1, none⟩))) (v := zn (za b (q - 1) 0)) EI (fun w hS => Zi (by kernel_rfl) (hS.heap.cell (k := 1) rfl (zC EJ))) (Ea.pk [0, 1]) fun _ EK => q_s [6] [] 0 EK (Ea.pk [0, 1]) fun _ EL => ?_
   exact h_e ⟨EL.sb, Ea.pk [0, 1]⟩
  rintro _ _ ⟨Eg, Eh⟩
  refine ze <| c_n ((zA (za a (q - 1) 0) : Nat) : Int) ((zA (za b (q - 1) 0) : Nat) : Int) Eg (fun EM => ?_) (fun EM => ?_)
  ·
   refine wp_seq <| r_c (fun ac wo => Env ac 24 [(2, pt Ec), (3, pt Ed), (4, .bool (decide (((zA (za a (q - 1) 0) : Nat) : Int) < ((zA (za b (q - 1) 0) : Nat) : Int)))), (5, ni (q - 1))] ∧ Ev w [] wo [.box Ec (zh a) 87, .box Ed (zh b) 87]) ?_ ?_
   ·
    refine h_s (fun wv => Ev w [] wv [.box Ec (zh a) 87, .box Ed (zh b) 87]) [] 8 ?_
    have Eb := Eh.trans (zS Eh.heap)
    refine q_s [0] [] 7 Eg (Eb.pk [0, 1]) fun _ Ei => q_f 1 (s := Instr.indexAt 87 (pt Ec) (ni (q - 1))) (v := .pointer (some ⟨Ec, q - 1, none⟩)) Ei (fun _ => zt (e := 31) (sz := 1) (m := 17) (j := q - 1) (o := q - 1) (by kernel_rfl) (by kernel_rfl) (by omega) (by omega) (by omega) _) (fun _ => Eb.pk [0, 1]) fun _ Ej => ?_
    have Ek : q - 1 < zc a := by rw [ha]; omega
    refine q_r 2 (s := Instr.loadAt 31 (.pointer (some ⟨Ec, q - 1, none⟩))) (v := zn (za a (q - 1) 0)) Ej (fun w hS => Zi (by kernel_rfl) (hS.heap.cell (k := 0) rfl (zC Ek))) (Eb.pk [0, 1]) fun _ El => q_s [3] [] 4 El (Eb.pk [0, 1]) fun _ Em => q_f 4 (s := Instr.indexAt 87 (pt Ed) (ni (q - 1))) (v := .pointer (some ⟨Ed, q - 1, none⟩)) Em (fun _ => zt (e := 31) (sz := 1) (m := 17) (j := q - 1) (o := q - 1) (by kernel_rfl) (by kernel_rfl) (by omega) (by omega) (by omega) _) (fun _ => Eb.pk [0, 1]) fun _ En => ?_
    have Eo : q - 1 < zc b := by rw [hb]; omega
    refine q_r 5 (s := Instr.loadAt 31 (.pointer (some ⟨Ed, q - 1, none⟩))) (v := zn (za b (q - 1) 0)) En (fun w hS => Zi (by kernel_rfl) (hS.heap.cell (k := 1) rfl (zC Eo))) (Eb.pk [0, 1]) fun _ Ep => q_s [6,7] [] 0 Ep (Eb.pk [0, 1]) fun _ Eq => ?_
    exact h_e ⟨Eq.sb, Eb.pk [0, 1]⟩
   rintro _ _ ⟨Er, Es⟩
   refine ze <| wp_ret <| Qg <| Zx <| Zx <| Qg <| Zx <| d_ret1 (t := 4) (v := .bool (decide (((zA (za a (q - 1) 0) : Nat) : Int) < ((zA (za b (q - 1) 0) : Nat) : Int)))) Er (by kernel_rfl) (by kernel_rfl) ?_
   have e : (decide (((zA (za a (q - 1) 0) : Nat) : Int) < ((zA (za b (q - 1) 0) : Nat) : Int))) = decide (dv 4294967296 a < dv 4294967296 b) := decide_eq_decide.2 (lower_at ha hb da db (by omega) (fun j h1 h2 => hs j (by omega) h2) (by assumption))
   exact ⟨by rw [e], Es.pk []⟩
  refine wp_skip <| zx <| ze <| d_r [2,3,5] [(1, g_n (w_r (e := ((q - 1 : Nat) : Int) - (1 : Int)) (x := ((q - 1 : Nat) : Int) - (1 : Int)) (by omega)))] Eg fun _ Et => ze <| ⟨_, ⟨q - 1, rfl, Et.sb, Eh.pk [0, 1], by omega, fun j h1 h2 => by by_cases e : j = q - 1 <;> first | (subst e; apply QE.1; omega) | exact hs j (by omega) h2⟩, ?_⟩
  omega
 refine wp_exit <| zD <| zD <| zP <| ze <| wp_seq <| d_r [2,3,4,5] [] Ef fun _ Eu => ze <| wp_ret <| d_ret1 (t := 4) (v := .bool false) Eu (by kernel_rfl) (by kernel_rfl) ?_
 have hq0 : q = 0 := by omega
 have e : (false : Bool) = decide (dv 4294967296 a < dv 4294967296 b) := (decide_eq_false (lower_eq ha hb (fun j h1 h2 => hs j (by omega) h2))).symm
 exact ⟨by rw [e], Ee.pk []⟩
theorem dv_lt32' {l : List UInt64} (h : DG l) : dv 4294967296 l < 4294967296 ^ l.length := by
  have e := dk_split l l.length
  rw [List.drop_length, show dv 4294967296 [] = 0 from rfl, Qc, Zy] at e
  rw [e]
  exact dk_lt h _
theorem dv17 {X : Nat} (h : X < 4294967296 ^ 17) : dv 4294967296 (n32 17 X) = X := by rw [n32_val, zL h]
theorem lower_n (w : World) (X Y : Nat) (hX : X < 4294967296 ^ 17) (hY : Y < 4294967296 ^ 17) : Calls zB 111 #[.agg (zg (zh (n32 17 X))), .agg (zg (zh (n32 17 Y)))] w fun e w' => e = .returned (.bool (decide (X < Y))) ∧ Ev w [] w' [] := by
  have h := lower_go w (n32 17 X) (n32 17 Y) (ZR _ _) (ZR _ _) (YQ _ _) (YQ _ _)
  rwa [dv17 hX, dv17 hY] at h
theorem shift_in {X : Nat} {s : List UInt64} {i t : Nat} (ht : 7 ≤ t) (hl : s.length = 17) (hq : i + t - 7 < 17) (hz : za s (i + t - 7) 0 = 0) (hv : dv 4294967296 s = dk (n32 17 X) i * 4294967296 ^ (t - 7)) :
    dv 4294967296 (zp s (i + t - 7) (za (n32 17 X) i 0)) = dk (n32 17 X) (i + 1) * 4294967296 ^ (t - 7) := by
  have e := dv_set 4294967296 (za (n32 17 X) i 0) s (i + t - 7) (by omega)
  rw [hz, show (0 : UInt64).toNat = 0 from rfl, Qb, Zy, hv] at e
  rw [e, dk, Zt, show i + t - 7 = i + (t - 7) by omega, Qn, Zh]
theorem top_eq {t : Nat} (ht : 7 ≤ t) {s : List UInt64} (hl : s.length = 17) (hd : DG s) (hv : dv 4294967296 s = dk (n32 17 (mF 4)) 8 * 4294967296 ^ (t - 7)) : s = n32 17 (mF 4 * 2 ^ (32 * (t - 7))) := by
  refine n32_of hl hd ?_
  rw [hv, dk_n32 8 (by decide), show mF 4 % 4294967296 ^ 8 = mF 4 by decide, QM]
theorem top_b {t : Nat} (ht : t ≤ 16) : mF 4 * 2 ^ (32 * (t - 7)) < 4294967296 ^ 17 := by
  rw [QM]
  have h : 4294967296 ^ (t - 7) ≤ 4294967296 ^ 9 := Nat.pow_le_pow_right (by decide) (by omega)
  exact QZ (Xa _ h) (by decide)
theorem dig16 {X : Nat} (h : X < 4294967296 ^ 17) (h0 : (((za (n32 17 X) 16 0).toNat : Nat) : Int) = (0 : Int)) : X < 4294967296 ^ 16 := by
  have e := JI 17 X 16 (by decide)
  rw [zL (Y5 h)] at e
  exact (Nat.div_eq_zero_iff_lt (by decide)).1 (e.symm.trans (by omega))
theorem dig16' {X : Nat} (h : X < 4294967296 ^ 17) (h0 : ¬ (((za (n32 17 X) 16 0).toNat : Nat) : Int) = (0 : Int)) : 4294967296 ^ 16 ≤ X := by
  have e := JI 17 X 16 (by decide)
  rw [zL (Y5 h)] at e
  rcases Qq X (4294967296 ^ 16) with g | g
  · rw [YJ g] at e; omega
  · exact g
theorem p17 : (4294967296 : Nat) ^ 17 = 4294967296 * 4294967296 ^ 16 := by decide
theorem dbl_b {X : Nat} (h : X < 4294967296 ^ 16) : 2 * X < 4294967296 ^ 17 := by
  rw [p17]
  generalize 4294967296 ^ 16 = q at *
  omega
theorem dbl_e {X n : Nat} (h : X = mF 4 * 2 ^ n) : 2 * X = mF 4 * 2 ^ (n + 1) := by
  rw [h, z9, YE, z5 2]
theorem out_1 {V X n : Nat} (hV : V < 4294967296 ^ 16) (hX : X = mF 4 * 2 ^ n) (hn : n = 512) : V < mF 4 * 2 ^ (n + 1) := by
  subst hn
  exact Zu hV (by decide +kernel)
theorem out_2 {V X n : Nat} (hV : V < 4294967296 ^ 16) (hX : X = mF 4 * 2 ^ n) (h : 4294967296 ^ 16 ≤ X) : V < mF 4 * 2 ^ (n + 1) := by
  rw [← dbl_e hX]
  generalize 4294967296 ^ 16 = q at *
  omega
theorem out_3 {V X n : Nat} (hX : X = mF 4 * 2 ^ n) (h : ¬ X < V) : V < mF 4 * 2 ^ (n + 1) := by
  rw [← dbl_e hX]
  have : 0 < X := by rw [hX]; exact JV (by decide) (XU (by decide))
  omega
theorem st_0 {X q : Nat} (h : X = mF 4 * 2 ^ q / 2) (hq : 1 ≤ q) : X = mF 4 * 2 ^ (q - 1) := by
  have e : 2 ^ q = 2 ^ (q - 1) * 2 := by rw [← z9]; congr 1; omega
  rw [h, e, ← Zh, Nat.mul_div_cancel _ (by decide)]
theorem st_y {X Y q : Nat} (h : X = mF 4 * 2 ^ q / 2) (hq : 1 ≤ q) (hY : Y < mF 4 * 2 ^ q) : Y - X < mF 4 * 2 ^ (q - 1) := by
  have e : 2 ^ q = 2 ^ (q - 1) * 2 := by rw [← z9]; congr 1; omega
  rw [e, ← Zh] at hY
  rw [st_0 h hq]
  have : 0 < mF 4 * 2 ^ (q - 1) := JV (by decide) (XU (by decide))
  omega
theorem st_m {X Y q V : Nat} (h : X = mF 4 * 2 ^ q / 2) (hq : 1 ≤ q) (hXY : ¬ Y < X) (hm : Y % mF 4 = V % mF 4) : (Y - X) % mF 4 = V % mF 4 := by
  have e := st_0 h hq
  rw [← hm]
  have e2 : Y = (Y - X) + mF 4 * 2 ^ (q - 1) := by rw [← e]; omega
  conv => rhs; rw [e2, Yc]
theorem sub_dig {u s b : UInt64} (hu : u.toNat < 4294967296) (hs : s.toNat < 4294967296) (hb : b.toNat ≤ 1) : ((u - s - b) &&& 4294967295).toNat + s.toNat + b.toNat = u.toNat + 4294967296 * ((u - s - b) >>> zb 63).toNat ∧ ((u - s - b) >>> zb 63).toNat ≤ 1 := by
  rw [and_low, shr_n _ (by decide), Y9, Y9]
  omega
theorem sub_in {X Y i : Nat} {u : List UInt64} {b : UInt64} (hl : u.length = 17) (hi : i < 17) (hd : DG u) (hb : b.toNat ≤ 1) (hv : dv 4294967296 u + dk (n32 17 X) i = Y + b.toNat * 4294967296 ^ i) :
    dv 4294967296 (zp u i ((za u i 0 - za (n32 17 X) i 0 - b) &&& 4294967295)) + dk (n32 17 X) (i + 1) = Y + ((za u i 0 - za (n32 17 X) i 0 - b) >>> zb 63).toNat * 4294967296 ^ (i + 1) := by
  obtain ⟨h, _⟩ := sub_dig (hd i) (YQ 17 X i) hb
  have e := dv_set 4294967296 ((za u i 0 - za (n32 17 X) i 0 - b) &&& 4294967295) u i (by omega)
  have m := congrArg (· * 4294967296 ^ i) h
  simp only [Zt] at m
  rw [dk, z9, z5 (4294967296 ^ i), ← Zh, z5 _ 4294967296]
  generalize 4294967296 ^ i = q at *
  omega
theorem sub_all {X Y i : Nat} {u : List UInt64} {b : UInt64} (hl : u.length = 17) (hi : i = 17) (hd : DG u) (hX : X < 4294967296 ^ 17) (hXY : ¬ Y < X) (hY : Y < 4294967296 ^ 17) (hv : dv 4294967296 u + dk (n32 17 X) i = Y + b.toNat * 4294967296 ^ i) : u = n32 17 (Y - X) := by
  refine n32_of hl hd ?_
  subst hi
  have h := dv_lt32' hd
  rw [hl] at h
  rw [dk_n32 17 (ZX _), zL hX] at hv
  rcases YO b.toNat with z | z
  · rw [z] at hv; omega
  · have := Nat.le_mul_of_pos_left (4294967296 ^ 17) z
    omega
theorem slowly_go (w : World) (V : Nat) (hV : V < 4294967296 ^ 16) : Calls zB 91 #[.agg (zg (zh (nd (mF 4)))), .agg (zg (zh (n32 17 V)))] w fun e w' => e = .returned (.agg (zg (zh (nd (V % mF 4))))) ∧ Ev w [] w' [] := by
 have hVb : V < 4294967296 ^ 17 := Zu hV (by decide)
 refine d_0 [(0, .agg (zg (zh (nd (mF 4))))), (1, .agg (zg (zh (n32 17 V))))] 112 Tryz.func91 Tryz.ntmps91 (Heap.nil _) fun a5 a6 a7 => wp_seq <| zk <| f_o <| m_m 33 (zh (nd (mF 4))) a6 a7 fun _ _ bd a8 a9 => f_o <| m_m 87 (zh (n32 17 V)) a8 a9 fun _ _ Ee ba aq => f_o <| m_z 33 (zh (zf 4 0)) ba aq fun _ _ Eb ar EI => f_e <| ze <| wp_seq <| zk <| f_o <| Zn 0 4 (zh (nd (mF 4))) ar EI rfl (zd (zl _ _)) fun _ au => f_o <| c_p au EI (digits_go _ (nd (mF 4)) (zl _ _)) fun _ _ av aw => ?_
 refine f_o <| m_z 87 (zh (zf 17 0)) av aw fun _ _ Ec ax ay => f_o <| zZ 3 17 (zh (n32 17 (nv (nd (mF 4))))) _ ax ay rfl (zd (ZR _ _)) (zd (zi)) (zw _) rfl fun _ _ az EJ => f_e <| ze <| wp_seq ?_
 rw [JH] at EJ
 refine d_r [3,4,5,6] [] az fun _ aA => ?_
 refine ze <| wp_seq <| QX (F := fun ac wo => ∃ (t : Nat), Env ac 112 [(3, pt Ee), (4, pt Eb), (5, pt Ec), (6, ni t)] ∧ Ev w [] wo [.box Ee (zh (n32 17 V)) 87, .box Eb (zh (zf 4 0)) 33, .box Ec (zh (n32 17 (mF 4))) 87] ∧ (7 ≤ t) ∧ (t ≤ 16)) ?_ ?_
 ·
  refine wp_block <| Z5 (fun aB ac wo => ∃ (t : Nat), aB = (t + 1 : Nat) ∧ Env ac 112 [(3, pt Ee), (4, pt Eb), (5, pt Ec), (6, ni t)] ∧ Ev w [] wo [.box Ee (zh (n32 17 V)) 87, .box Eb (zh (zf 4 0)) 33, .box Ec (zh (n32 17 (mF 4))) 87] ∧ (7 ≤ t) ∧ (t ≤ 16) ∧ (∀ j, t < j → za (n32 17 V) j 0 = 0)) ⟨_, 16, rfl, aA.sb, EJ.pk [1, 2, 3], by omega, by omega, fun j hj => by rw [zN, List.getElem?_eq_none (by rw [ZR]; omega)]; rfl⟩ ?_
  rintro bb _ _ ⟨t, rfl, aC, Ey, ht7, ht16, hz⟩
  refine wp_seq <| wp_seq <| zk <| d_k [3,4,5,6,19] [] 3 aC fun _ EK => ?_
  rcases Za (decide (((t : Nat) : Int) > (7 : Int))) with Eo | Eo
  ·
   have aD := EK.fx (t := 19) (congrArg Value.bool Eo)
   have hp47 : ((t : Nat) : Int) > (7 : Int) := of_decide_eq_true Eo
   refine d_k [3,4,5,6,19,20] [] 4 aD fun _ aE => f_o <| q_v (x := Instr.indexAt 87 (pt Ee) (ni t)) (v := .pointer (some ⟨Ee, t, none⟩)) aE (zt (e := 31) (sz := 1) (m := 17) (j := t) (o := t) (by kernel_rfl) (by kernel_rfl) (by omega) (by omega) (by omega) _) fun _ aF => f_o ?_
   have aG : t < zc (n32 17 V) := by rw [(ZR _ _)]; omega
   refine m_v 0 t (zn (za (n32 17 V) t 0)) aF Ey rfl (zC aG) fun _ aH => d_e [3,4,5,6,24] [] aH fun _ EG => ?_
   refine ze <| c_e ((zA (za (n32 17 V) t 0) : Nat) : Int) (0 : Int) EG (fun aI => ?_) (fun aI => ?_)
   ·
    refine wp_skip <| ze <| wp_block <| d_r [3,4,5,6] [(1, g_n (w_r (e := ((t : Nat) : Int) - (1 : Int)) (x := ((t - 1 : Nat) : Int)) (by omega)))] EG fun _ aJ => zx <| ze <| ⟨_, ⟨t - 1, rfl, aJ.sb, Ey.pk [0, 1, 2], by omega, by omega, fun j hj => by by_cases e : j = t <;> first | (subst e; apply QE.1; rw [show (0 : UInt64).toNat = 0 from rfl]; omega) | exact hz j (by omega)⟩, ?_⟩
    omega
   refine wp_exit <| zD <| zD <| zP ?_
   exact ⟨rfl, ⟨t, EG.sb, Ey.pk [0, 1, 2], by omega, by omega⟩⟩
  have aK := EK.fx (t := 19) (congrArg Value.bool Eo)
  have hp61 : ¬ (((t : Nat) : Int) > (7 : Int)) := of_decide_eq_false Eo
  refine d_e [3,4,5,6,24] [] aK fun _ EL => ze <| c_f EL ?_
  refine wp_exit <| zD <| zD <| zP ?_
  exact ⟨rfl, ⟨t, EL.sb, Ey.pk [0, 1, 2], by omega, by omega⟩⟩
 rintro _ _ ⟨t, aL, aM, ht7, ht16⟩
 refine ze <| wp_seq <| zk <| f_o <| m_z 87 (zh (zf 17 0)) aL aM fun _ _ Ea aN aO => f_e <| ze <| wp_seq <| wp_seq <| d_r [3,4,5,6,7,8] [] aN fun _ aP => ?_
 refine ze <| wp_block <| Z5 (fun aQ ac wo => ∃ (i1 : Nat) (s : List UInt64), aQ = (9 - i1 : Nat) ∧ Env ac 112 [(3, pt Ee), (4, pt Eb), (5, pt Ec), (6, ni t), (7, pt Ea), (8, ni i1)] ∧ Ev w [] wo [.box Ea (zh s) 87, .box Ee (zh (n32 17 V)) 87, .box Eb (zh (zf 4 0)) 33, .box Ec (zh (n32 17 (mF 4))) 87] ∧ (i1 ≤ 8) ∧ (zc s = 17) ∧ (DG s) ∧ (dv 4294967296 s = dk (n32 17 (mF 4)) i1 * 4294967296 ^ (t - 7)) ∧ (∀ j, i1 + t - 7 ≤ j → za s j 0 = 0)) ⟨_, 0, zf 17 0, rfl, aP.sb, aO.pk [3, 0, 1, 2], by omega, zi, DG.rep, by rw [dv_replicate]; simp [dk], fun j _ => zeros17 j⟩ ?_
 rintro bc _ _ ⟨i1, s, rfl, aR, Ez, hi, hs, hds, hv, hzs⟩
 refine wp_seq <| wp_seq <| d_r [3,4,5,6,7,8,28] [] aR fun _ EH => ?_
 refine ze <| c_d (((i1 : Nat) : Int) < (8 : Int)) EH (fun aS => ?_) (fun aS => ?_)
 ·
  refine wp_skip <| ze <| wp_seq <| wp_block <| zk <| d_k [3,4,5,6,7,8,34,35] [(2, g_n (w_a i1 t)), (3, g_n (w_r (e := ((i1 + t : Nat) : Int) - (7 : Int)) (x := (((i1 + t) - 7 : Nat) : Int)) (by omega)))] 5 EH fun _ aT => f_o <| q_v (x := Instr.indexAt 87 (pt Ec) (ni i1)) (v := .pointer (some ⟨Ec, i1, none⟩)) aT (zt (e := 31) (sz := 1) (m := 17) (j := i1) (o := i1) (by kernel_rfl) (by kernel_rfl) (by omega) (by omega) (by omega) _) fun _ aU => f_o ?_
  have aV : i1 < zc (n32 17 (mF 4)) := by rw [(ZR _ _)]; omega
  refine m_v 3 i1 (zn (za (n32 17 (mF 4)) i1 0)) aU Ez rfl (zC aV) fun _ aW => f_o <| q_v (x := Instr.indexAt 87 (pt Ea) (ni ((i1 + t) - 7))) (v := .pointer (some ⟨Ea, (i1 + t) - 7, none⟩)) aW (zt (e := 31) (sz := 1) (m := 17) (j := (i1 + t) - 7) (o := (i1 + t) - 7) (by kernel_rfl) (by kernel_rfl) (by omega) (by omega) (by omega) _) fun _ aX => f_o ?_
  have aY : (i1 + t) - 7 < zc s := by rw [hs]; omega
  refine m_t 0 ((i1 + t) - 7) (zn (za (n32 17 (mF 4)) i1 0)) [.box Ea (zh (zp s ((i1 + t) - 7) (za (n32 17 (mF 4)) i1 0))) 87, .box Ee (zh (n32 17 V)) 87, .box Eb (zh (zf 4 0)) 33, .box Ec (zh (n32 17 (mF 4))) 87] aX Ez rfl (zC aY) (Z4 _ _ _) rfl fun _ _ aZ a0 => f_e <| zx <| ze <| d_r [3,4,5,6,7,8] [(1, g_n (w_a i1 1))] aZ fun _ EM => ze <| ⟨_, ⟨i1 + 1, (zp s ((i1 + t) - 7) (za (n32 17 (mF 4)) i1 0)), rfl, EM.sb, a0.pk [0, 1, 2, 3], by omega, (by simp [hs]), hds.set (YQ _ _ _), shift_in ht7 hs (by omega) (hzs _ (by omega)) hv, fun j hj => by rw [QH _ (by omega)]; exact hzs j (by omega)⟩, ?_⟩
  omega
 refine wp_exit <| zD <| zD <| zP <| ze <| wp_seq ?_
 have hi8 : i1 = 8 := by omega
 rw [hi8] at hv
 have hse := top_eq ht7 hs hds hv
 rw [hse] at Ez
 refine d_r [3,4,5,6,7,8,9] [(1, g_n (w_r (e := ((t : Nat) : Int) - (7 : Int)) (x := ((t - 7 : Nat) : Int)) (by omega))), (2, g_n (w_m 32 (t - 7)))] EH fun _ EN => ?_
 refine ze <| wp_seq <| QX (F := fun ac wo => ∃ (n : Nat) (X : Nat), Env ac 112 [(3, pt Ee), (4, pt Eb), (5, pt Ec), (6, ni t), (7, pt Ea), (8, ni i1), (9, ni n)] ∧ Ev w [] wo [.box Ee (zh (n32 17 V)) 87, .box Eb (zh (zf 4 0)) 33, .box Ea (zh (n32 17 X)) 87] ∧ (X < 4294967296 ^ 17) ∧ (X = mF 4 * 2 ^ n) ∧ (n ≤ 512) ∧ (V < mF 4 * 2 ^ (n + 1))) ?_ ?_
 ·
  refine wp_block <| Z5 (fun EO ac wo => ∃ (n : Nat) (X : Nat), EO = (513 - n : Nat) ∧ Env ac 112 [(3, pt Ee), (4, pt Eb), (5, pt Ec), (6, ni t), (7, pt Ea), (8, ni i1), (9, ni n)] ∧ Ev w [] wo [.box Ea (zh (n32 17 X)) 87, .box Ee (zh (n32 17 V)) 87, .box Eb (zh (zf 4 0)) 33, .box Ec (zh (n32 17 (mF 4))) 87] ∧ (n ≤ 512) ∧ (X < 4294967296 ^ 17) ∧ (X = mF 4 * 2 ^ n)) ⟨_, 32 * (t - 7), mF 4 * 2 ^ (32 * (t - 7)), rfl, EN.sb, Ez.pk [0, 1, 2, 3], by omega, top_b ht16, rfl⟩ ?_
  rintro a1 _ _ ⟨n, X, rfl, EP, Eh, hn, hXb, hX⟩
  refine wp_seq <| wp_seq <| zk <| d_k [3,4,5,6,7,8,9,44] [] 3 EP fun _ EA => ?_
  rcases Za (decide (((n : Nat) : Int) < (512 : Int))) with Ei | Ei
  ·
   have EQ := EA.fx (t := 44) (congrArg Value.bool Ei)
   have hp114 : ((n : Nat) : Int) < (512 : Int) := of_decide_eq_true Ei
   refine d_k [3,4,5,6,7,8,9,44,45] [] 4 EQ fun _ ER => f_o ?_
   have ES : 16 < zc (n32 17 X) := by rw [(ZR _ _)]; omega
   refine m_v 0 16 (zn (za (n32 17 X) 16 0)) ER Eh rfl (zC ES) fun _ ET => d_k [3,4,5,6,7,8,9,49] [] 8 ET fun _ EB => ?_
   rcases Za (((zA (za (n32 17 X) 16 0) : Nat) : Int) == (0 : Int)) with Ej | Ej
   ·
    have EU := EB.fx (t := 49) (congrArg Value.bool Ej)
    have hp124 : ((zA (za (n32 17 X) 16 0) : Nat) : Int) = (0 : Int) := eq_of_beq Ej
    refine f_o <| Zn 0 17 (zh (n32 17 X)) EU Eh rfl (zd (ZR _ _)) fun _ EV => f_o <| Zn 1 17 (zh (n32 17 V)) EV Eh rfl (zd (ZR _ _)) fun _ EW => f_o <| c_p EW Eh (lower_n _ X V (by assumption) (by assumption)) fun _ _ EX EC => d_e [3,4,5,6,7,8,9,53] [] EX fun _ Ep => ?_
    refine ze <| c_d (X < V) Ep (fun EY => ?_) (fun EY => ?_)
    ·
     refine wp_skip <| ze <| wp_block <| wp_seq <| zk <| f_o <| m_z 87 (zh (zf 17 0)) Ep EC fun _ _ Ed EZ E0 => f_e <| ze <| wp_seq <| wp_seq <| d_r [3,4,5,6,7,8,9,10,11] [] EZ fun _ E1 => ?_
     refine ze <| wp_block <| Z5 (fun E2 ac wo => ∃ (i3 : Nat) (u : List UInt64), E2 = (18 - i3 : Nat) ∧ Env ac 112 [(3, pt Ee), (4, pt Eb), (5, pt Ec), (6, ni t), (7, pt Ea), (8, ni i1), (9, ni n), (10, pt Ed), (11, ni i3)] ∧ Ev w [] wo [.box Ed (zh u) 87, .box Ea (zh (n32 17 X)) 87, .box Ee (zh (n32 17 V)) 87, .box Eb (zh (zf 4 0)) 33, .box Ec (zh (n32 17 (mF 4))) 87] ∧ (i3 ≤ 17) ∧ (zc u = 17) ∧ (Two (2 * X) 0 i3 u)) ⟨_, 0, zf 17 0, rfl, E1.sb, E0.pk [4, 0, 1, 2, 3], by omega, zi, Two.zeros⟩ ?_
     rintro a2 _ _ ⟨i3, u, rfl, E3, Ek, hi, hu, h2⟩
     refine wp_seq <| wp_seq <| d_r [3,4,5,6,7,8,9,10,11,55] [] E3 fun _ Eq => ?_
     refine ze <| c_d (((i3 : Nat) : Int) < (17 : Int)) Eq (fun E4 => ?_) (fun E4 => ?_)
     ·
      refine wp_skip <| ze <| wp_seq <| wp_block <| wp_seq <| zk <| d_k [3,4,5,6,7,8,9,10,11,58,59] [] 2 Eq fun _ E5 => f_o <| q_v (x := Instr.indexAt 87 (pt Ea) (ni i3)) (v := .pointer (some ⟨Ea, i3, none⟩)) E5 (zt (e := 31) (sz := 1) (m := 17) (j := i3) (o := i3) (by kernel_rfl) (by kernel_rfl) (by omega) (by omega) (by omega) _) fun _ E6 => f_o ?_
      have E7 : i3 < zc (n32 17 X) := by rw [(ZR _ _)]; omega
      refine m_v 1 i3 (zn (za (n32 17 X) i3 0)) E6 Ek rfl (zC E7) fun _ E8 => d_k [3,4,5,6,7,8,9,10,11,58,63] [(4, g_i .u64 (Qf (x := za (n32 17 X) i3 0) (n := 1) rfl (by decide))), (5, g_i .u64 (Zp (x := (za (n32 17 X) i3 0) <<< zb 1) (y := (4294967295 : UInt64)) rfl rfl))] 6 E8 fun _ E9 => f_o <| q_v (x := Instr.indexAt 87 (pt Ed) (ni i3)) (v := .pointer (some ⟨Ed, i3, none⟩)) E9 (zt (e := 31) (sz := 1) (m := 17) (j := i3) (o := i3) (by kernel_rfl) (by kernel_rfl) (by omega) (by omega) (by omega) _) fun _ Ha => f_o ?_
      have Hb : i3 < zc u := by rw [hu]; omega
      refine m_t 0 i3 (zn (((za (n32 17 X) i3 0) <<< zb 1) &&& (4294967295 : UInt64))) _ Ha Ek rfl (zC Hb) (Z4 _ _ _) rfl fun _ _ Hc Er => f_e <| ze <| wp_seq <| d_r [3,4,5,6,7,8,9,10,11,66] [] Hc fun _ Es => ?_
      refine ze <| c_d (((i3 : Nat) : Int) > (0 : Int)) Es (fun Hd => ?_) (fun Hd => ?_)
      ·
       refine r_c (fun ac wo => Env ac 112 [(3, pt Ee), (4, pt Eb), (5, pt Ec), (6, ni t), (7, pt Ea), (8, ni i1), (9, ni n), (10, pt Ed), (11, ni i3)] ∧ Ev w [] wo [.box Ed (zh (zp (zp u i3 (((za (n32 17 X) i3 0) <<< zb 1) &&& (4294967295 : UInt64))) i3 ((za (zp u i3 (((za (n32 17 X) i3 0) <<< zb 1) &&& (4294967295 : UInt64))) i3 0) ||| ((za (n32 17 X) (i3 - 1) 0) >>> zb 31)))) 87, .box Ea (zh (n32 17 X)) 87, .box Ee (zh (n32 17 V)) 87, .box Eb (zh (zf 4 0)) 33, .box Ec (zh (n32 17 (mF 4))) 87]) ?_ ?_
       ·
        refine h_s (fun wv => Ev w [] wv [.box Ed (zh (zp u i3 (((za (n32 17 X) i3 0) <<< zb 1) &&& (4294967295 : UInt64)))) 87, .box Ea (zh (n32 17 X)) 87]) [11] 12 ?_
        have Ef := Er.trans (zS Er.heap)
        refine q_s [0,1] [] 10 Es (Ef.pk [0, 1]) fun _ He => q_f 2 (s := Instr.indexAt 87 (pt Ed) (ni i3)) (v := .pointer (some ⟨Ed, i3, none⟩)) He (fun _ => zt (e := 31) (sz := 1) (m := 17) (j := i3) (o := i3) (by kernel_rfl) (by kernel_rfl) (by omega) (by omega) (by omega) _) (fun _ => Ef.pk [0, 1]) fun _ Hf => ?_
        have Hg : i3 < zc (zp u i3 (((za (n32 17 X) i3 0) <<< zb 1) &&& (4294967295 : UInt64))) := by rw [(List.length_set.trans hu)]; omega
        refine q_r 3 (s := Instr.loadAt 31 (.pointer (some ⟨Ed, i3, none⟩))) (v := zn (za (zp u i3 (((za (n32 17 X) i3 0) <<< zb 1) &&& (4294967295 : UInt64))) i3 0)) Hf (fun w hS => Zi (by kernel_rfl) (hS.heap.cell (k := 0) rfl (zC Hg))) (Ef.pk [0, 1]) fun _ Hh => q_s [4,5] [(5, g_n (w_r (e := ((i3 : Nat) : Int) - (1 : Int)) (x := ((i3 - 1 : Nat) : Int)) (by omega)))] 6 Hh (Ef.pk [0, 1]) fun _ Hi => q_f 6 (s := Instr.indexAt 87 (pt Ea) (ni (i3 - 1))) (v := .pointer (some ⟨Ea, i3 - 1, none⟩)) Hi (fun _ => zt (e := 31) (sz := 1) (m := 17) (j := i3 - 1) (o := i3 - 1) (by kernel_rfl) (by kernel_rfl) (by omega) (by omega) (by omega) _) (fun _ => Ef.pk [0, 1]) fun _ Hj => ?_
        have Hk : i3 - 1 < zc (n32 17 X) := by rw [(ZR _ _)]; omega
        refine q_r 7 (s := Instr.loadAt 31 (.pointer (some ⟨Ea, i3 - 1, none⟩))) (v := zn (za (n32 17 X) (i3 - 1) 0)) Hj (fun w hS => Zi (by kernel_rfl) (hS.heap.cell (k := 1) rfl (zC Hk))) (Ef.pk [0, 1]) fun _ Hl => q_s [8,9] [(8, g_i .u64 (zI (x := za (n32 17 X) (i3 - 1) 0) (n := 31) rfl (by decide))), (9, g_i .u64 (ZL (x := za (zp u i3 (((za (n32 17 X) i3 0) <<< zb 1) &&& (4294967295 : UInt64))) i3 0) (y := (za (n32 17 X) (i3 - 1) 0) >>> zb 31) rfl rfl))] 2 Hl (Ef.pk [0, 1]) fun _ Hm => q_f 10 (s := Instr.indexAt 87 (pt Ed) (ni i3)) (v := .pointer (some ⟨Ed, i3, none⟩)) Hm (fun _ => zt (e := 31) (sz := 1) (m := 17) (j := i3) (o := i3) (by kernel_rfl) (by kernel_rfl) (by omega) (by omega) (by omega) _) (fun _ => Ef.pk [0, 1]) fun _ Hn => q_t 11 ?_
        have Ho : i3 < zc (zp u i3 (((za (n32 17 X) i3 0) <<< zb 1) &&& (4294967295 : UInt64))) := by rw [(List.length_set.trans hu)]; omega
        refine m_t 0 i3 (zn ((za (zp u i3 (((za (n32 17 X) i3 0) <<< zb 1) &&& (4294967295 : UInt64))) i3 0) ||| ((za (n32 17 X) (i3 - 1) 0) >>> zb 31))) [.box Ed (zh (zp (zp u i3 (((za (n32 17 X) i3 0) <<< zb 1) &&& (4294967295 : UInt64))) i3 ((za (zp u i3 (((za (n32 17 X) i3 0) <<< zb 1) &&& (4294967295 : UInt64))) i3 0) ||| ((za (n32 17 X) (i3 - 1) 0) >>> zb 31)))) 87, .box Ea (zh (n32 17 X)) 87, .box Ee (zh (n32 17 V)) 87, .box Eb (zh (zf 4 0)) 33, .box Ec (zh (n32 17 (mF 4))) 87] Hn Ef rfl (zC Ho) (Z4 _ _ _) rfl fun _ _ Hp Hq => ⟨q_y, ?_⟩
        exact h_e ⟨Hp.sb, Hq.pk [0, 1, 2, 3, 4]⟩
       rintro _ _ ⟨Hr, Hs⟩
       refine zx <| ze <| d_r [3,4,5,6,7,8,9,10,11] [(1, g_n (w_a i3 1))] Hr fun _ Ht => ze <| ⟨_, ⟨i3 + 1, (zp (zp u i3 (((za (n32 17 X) i3 0) <<< zb 1) &&& (4294967295 : UInt64))) i3 ((za (zp u i3 (((za (n32 17 X) i3 0) <<< zb 1) &&& (4294967295 : UInt64))) i3 0) ||| ((za (n32 17 X) (i3 - 1) 0) >>> zb 31))), rfl, Ht.sb, Hs.pk [0, 1, 2, 3, 4], by omega, (by simp [hu]), (by first | exact dbl_in hu (by omega) (by omega) h2 | exact dbl_0 hu (by omega) h2)⟩, ?_⟩
       omega
      refine wp_skip <| zx <| ze <| d_r [3,4,5,6,7,8,9,10,11] [(1, g_n (w_a i3 1))] Es fun _ Hu => ze <| ⟨_, ⟨i3 + 1, (zp u i3 (((za (n32 17 X) i3 0) <<< zb 1) &&& (4294967295 : UInt64))), rfl, Hu.sb, Er.pk [0, 1, 2, 3, 4], by omega, (by simp [hu]), (by first | exact dbl_in hu (by omega) (by omega) h2 | exact dbl_0 hu (by omega) h2)⟩, ?_⟩
      omega
     refine wp_exit <| zD <| zD <| zP <| ze <| wp_seq ?_
     have hue := Two.all hu (by omega) h2
     rw [hue] at Ek
     refine zk <| f_o <| Zn 0 17 (zh (n32 17 (2 * X))) Eq Ek rfl (zd (ZR _ _)) fun _ Hv => f_o <| zZ 1 17 (zh (n32 17 (2 * X))) _ Hv Ek rfl (zd (ZR _ _)) (zd (ZR _ _)) (zw _) rfl fun _ _ Hw Hx => f_e <| ze <| d_r [3,4,5,6,7,8,9,10,11] [(1, g_n (w_a n 1))] Hw fun _ Hy => zx <| ze <| ⟨_, ⟨n + 1, (2 * X), rfl, Hy.sb, Hx.pk [1, 2, 3, 4], by omega, dbl_b (dig16 hXb (by assumption)), dbl_e hX⟩, ?_⟩
     omega
    refine wp_exit <| zD <| zD <| zP ?_
    exact ⟨rfl, ⟨n, X, Ep.sb, EC.pk [1, 2, 0], hXb, hX, hn, by first | exact out_3 hX (by assumption) | exact out_2 hV hX (dig16' hXb (by assumption)) | exact out_1 hV hX (by omega)⟩⟩
   have Hz := EB.fx (t := 49) (congrArg Value.bool Ej)
   have hp279 : ¬ (((zA (za (n32 17 X) 16 0) : Nat) : Int) = (0 : Int)) := ne_of_beq_false Ej
   refine d_e [3,4,5,6,7,8,9,53] [] Hz fun _ ED => ze <| c_f ED ?_
   refine wp_exit <| zD <| zD <| zP ?_
   exact ⟨rfl, ⟨n, X, ED.sb, Eh.pk [1, 2, 0], hXb, hX, hn, by first | exact out_3 hX (by assumption) | exact out_2 hV hX (dig16' hXb (by assumption)) | exact out_1 hV hX (by omega)⟩⟩
  have HA := EA.fx (t := 44) (congrArg Value.bool Ei)
  have hp283 : ¬ (((n : Nat) : Int) < (512 : Int)) := of_decide_eq_false Ei
  refine d_e [3,4,5,6,7,8,9,53] [] HA fun _ EE => ze <| c_f EE ?_
  refine wp_exit <| zD <| zD <| zP ?_
  exact ⟨rfl, ⟨n, X, EE.sb, Eh.pk [1, 2, 0], hXb, hX, hn, by first | exact out_3 hX (by assumption) | exact out_2 hV hX (dig16' hXb (by assumption)) | exact out_1 hV hX (by omega)⟩⟩
 rintro _ _ ⟨n, X, HB, HC, hXb, hX, hn, hlt⟩
 refine ze <| wp_seq <| wp_block ?_
 have HD := X9 (t := 9) (v := ni n) (u := .int .i64 (((n + 1 : Nat) : Int) - (1 : Int))) HB (congrArg (Value.int .i64) (show ((n : Nat) : Int) = ((n + 1 : Nat) : Int) - (1 : Int) by omega))
 refine Z5 (fun HE ac wo => ∃ (q : Nat) (Y : Nat) (X : Nat), HE = (q + 1 : Nat) ∧ Env ac 112 [(3, pt Ee), (4, pt Eb), (5, pt Ec), (6, ni t), (7, pt Ea), (8, ni i1), (9, .int .i64 (((q : Nat) : Int) - (1 : Int)))] ∧ Ev w [] wo [.box Ea (zh (n32 17 X)) 87, .box Ee (zh (n32 17 Y)) 87, .box Eb (zh (zf 4 0)) 33] ∧ (X = mF 4 * 2 ^ q / 2) ∧ (Y < mF 4 * 2 ^ q) ∧ (Y % mF 4 = V % mF 4) ∧ (X < 4294967296 ^ 17) ∧ (Y < 4294967296 ^ 17) ∧ (q ≤ 600)) ⟨_, n + 1, V, X, rfl, HD.sb, HC.pk [2, 0, 1], by rw [← dbl_e hX, Xz _ (by decide)], hlt, rfl, hXb, hVb, by omega⟩ ?_
 rintro a3 _ _ ⟨q, Y, X, rfl, HF, El, hX2, hY, hm, hXb, hYb, hq⟩
 refine wp_seq <| wp_seq <| d_r [3,4,5,6,7,8,9,82] [] HF fun _ Et => ?_
 refine ze <| c_d (((q : Nat) : Int) - (1 : Int) ≥ (0 : Int)) Et (fun HG => ?_) (fun HG => ?_)
 ·
  refine wp_skip <| ze <| wp_seq <| wp_block <| wp_seq <| wp_seq ?_
  have HH := X9 (t := 9) (v := .int .i64 (((q : Nat) : Int) - (1 : Int))) (u := ni (q - 1)) Et (congrArg (Value.int .i64) (show ((q : Nat) : Int) - (1 : Int) = ((q - 1 : Nat) : Int) by omega))
  refine zk <| f_o <| Zn 1 17 (zh (n32 17 Y)) HH El rfl (zd (ZR _ _)) fun _ HI => f_o <| Zn 0 17 (zh (n32 17 X)) HI El rfl (zd (ZR _ _)) fun _ HJ => f_o <| c_p HJ El (lower_n _ Y X (by assumption) (by assumption)) fun _ _ HK Eu => d_e [3,4,5,6,7,8,9,88] [] HK fun _ Ew => ?_
  refine ze <| cond_at Ew (t := !(decide (Y < X))) (by kernel_rfl) (fun Em => ?_) (fun Em => ?_)
  ·
   replace Em : ¬ (Y < X) := by simpa using Em
   refine wp_seq <| d_r [3,4,5,6,7,8,9,12] [] Ew fun _ HL => ze <| wp_seq <| d_r [3,4,5,6,7,8,9,12,13] [] HL fun _ HM => ?_
   refine ze <| wp_block <| Z5 (fun HN ac wo => ∃ (i5 : Nat) (u : List UInt64) (b : UInt64), HN = (18 - i5 : Nat) ∧ Env ac 112 [(3, pt Ee), (4, pt Eb), (5, pt Ec), (6, ni t), (7, pt Ea), (8, ni i1), (9, ni (q - 1)), (12, zn b), (13, ni i5)] ∧ Ev w [] wo [.box Ee (zh u) 87, .box Ea (zh (n32 17 X)) 87, .box Eb (zh (zf 4 0)) 33] ∧ (i5 ≤ 17) ∧ (zc u = 17) ∧ (DG u) ∧ (b.toNat ≤ 1) ∧ (dv 4294967296 u + dk (n32 17 X) i5 = Y + b.toNat * 4294967296 ^ i5)) ⟨_, 0, n32 17 Y, 0, rfl, HM.sb, Eu.pk [1, 0, 2], by omega, ZR _ _, YQ _ _, by decide, by rw [dv17 hYb]; simp [dk]⟩ ?_
   rintro a4 _ _ ⟨i5, u, b, rfl, HO, En, hi, hu, hdu, hb, hvu⟩
   refine wp_seq <| wp_seq <| d_r [3,4,5,6,7,8,9,12,13,90] [] HO fun _ Ex => ?_
   refine ze <| c_d (((i5 : Nat) : Int) < (17 : Int)) Ex (fun HP => ?_) (fun HP => ?_)
   ·
    refine wp_skip <| ze <| wp_seq <| wp_block <| wp_seq <| r_c (fun ac wo => Env ac 112 [(3, pt Ee), (4, pt Eb), (5, pt Ec), (6, ni t), (7, pt Ea), (8, ni i1), (9, ni (q - 1)), (12, zn b), (13, ni i5), (14, zn (((za u i5 0) - (za (n32 17 X) i5 0)) - b))] ∧ Ev w [] wo [.box Ee (zh u) 87, .box Ea (zh (n32 17 X)) 87, .box Eb (zh (zf 4 0)) 33]) ?_ ?_
    ·
     refine h_s (fun wv => Ev w [] wv [.box Ee (zh u) 87, .box Ea (zh (n32 17 X)) 87]) [] 10 ?_
     have Eg := En.trans (zS En.heap)
     refine q_s [0] [] 9 Ex (Eg.pk [0, 1]) fun _ HQ => q_f 1 (s := Instr.indexAt 87 (pt Ee) (ni i5)) (v := .pointer (some ⟨Ee, i5, none⟩)) HQ (fun _ => zt (e := 31) (sz := 1) (m := 17) (j := i5) (o := i5) (by kernel_rfl) (by kernel_rfl) (by omega) (by omega) (by omega) _) (fun _ => Eg.pk [0, 1]) fun _ HR => ?_
     have HS : i5 < zc u := by rw [hu]; omega
     refine q_r 2 (s := Instr.loadAt 31 (.pointer (some ⟨Ee, i5, none⟩))) (v := zn (za u i5 0)) HR (fun w hS => Zi (by kernel_rfl) (hS.heap.cell (k := 0) rfl (zC HS))) (Eg.pk [0, 1]) fun _ HT => q_s [3] [] 6 HT (Eg.pk [0, 1]) fun _ HU => q_f 4 (s := Instr.indexAt 87 (pt Ea) (ni i5)) (v := .pointer (some ⟨Ea, i5, none⟩)) HU (fun _ => zt (e := 31) (sz := 1) (m := 17) (j := i5) (o := i5) (by kernel_rfl) (by kernel_rfl) (by omega) (by omega) (by omega) _) (fun _ => Eg.pk [0, 1]) fun _ HV => ?_
     have HW : i5 < zc (n32 17 X) := by rw [(ZR _ _)]; omega
     refine q_r 5 (s := Instr.loadAt 31 (.pointer (some ⟨Ea, i5, none⟩))) (v := zn (za (n32 17 X) i5 0)) HV (fun w hS => Zi (by kernel_rfl) (hS.heap.cell (k := 1) rfl (zC HW))) (Eg.pk [0, 1]) fun _ HX => q_s [6,7,8,9] [(6, g_i .u64 (Kx (x := za u i5 0) (y := za (n32 17 X) i5 0) rfl rfl)), (8, g_i .u64 (Kx (x := (za u i5 0) - (za (n32 17 X) i5 0)) (y := b) rfl rfl))] 0 HX (Eg.pk [0, 1]) fun _ HY => ?_
     exact h_e ⟨HY.sb, Eg.pk [0, 1, 2]⟩
    rintro _ _ ⟨HZ, H0⟩
    refine ze <| wp_seq <| zk <| d_k [3,4,5,6,7,8,9,12,13,14,102,104] [(2, g_i .u64 (Zp (x := ((za u i5 0) - (za (n32 17 X) i5 0)) - b) (y := (4294967295 : UInt64)) rfl rfl))] 3 HZ fun _ H1 => f_o <| q_v (x := Instr.indexAt 87 (pt Ee) (ni i5)) (v := .pointer (some ⟨Ee, i5, none⟩)) H1 (zt (e := 31) (sz := 1) (m := 17) (j := i5) (o := i5) (by kernel_rfl) (by kernel_rfl) (by omega) (by omega) (by omega) _) fun _ H2 => f_o ?_
    have H3 : i5 < zc u := by rw [hu]; omega
    refine m_t 0 i5 (zn ((((za u i5 0) - (za (n32 17 X) i5 0)) - b) &&& (4294967295 : UInt64))) [.box Ee (zh (zp u i5 ((((za u i5 0) - (za (n32 17 X) i5 0)) - b) &&& (4294967295 : UInt64)))) 87, .box Ea (zh (n32 17 X)) 87, .box Eb (zh (zf 4 0)) 33] H2 H0 rfl (zC H3) (Z4 _ _ _) rfl fun _ _ H4 H5 => f_e <| ze <| d_r [3,4,5,6,7,8,9,12,13,14] [(1, g_i .u64 (zI (x := ((za u i5 0) - (za (n32 17 X) i5 0)) - b) (n := 63) rfl (by decide)))] H4 fun _ H6 => zx <| ze <| d_r [3,4,5,6,7,8,9,12,13,14] [(1, g_n (w_a i5 1))] H6 fun _ H7 => ze <| ⟨_, ⟨i5 + 1, (zp u i5 ((((za u i5 0) - (za (n32 17 X) i5 0)) - b) &&& (4294967295 : UInt64))), ((((za u i5 0) - (za (n32 17 X) i5 0)) - b) >>> zb 63), rfl, H7.sb, H5.pk [0, 1, 2], by omega, (by simp [hu]), hdu.set (low32 _), (sub_dig (hdu _) (YQ _ _ _) hb).2, sub_in hu (by omega) hdu hb hvu⟩, ?_⟩
    omega
   refine wp_exit <| zD <| zD <| zP <| ze ?_
   have hue := sub_all hu (by omega) hdu hXb (by assumption) hYb hvu
   rw [hue] at En
   refine zk <| f_o <| Zn 1 17 (zh (n32 17 X)) Ex En rfl (zd (ZR _ _)) fun _ H8 => f_o <| c_p H8 En (halved_go _ X (by assumption)) fun _ _ H9 aa => f_o <| zZ 1 17 (zh (n32 17 (X / 2))) _ H9 aa rfl (zd (ZR _ _)) (zd (ZR _ _)) (zw _) rfl fun _ _ ab ae => f_e <| zx <| ze <| d_r [3,4,5,6,7,8,9,12,13] [(1, g_n (w_r (e := ((q - 1 : Nat) : Int) - (1 : Int)) (x := ((q - 1 : Nat) : Int) - (1 : Int)) (by omega)))] ab fun _ af => ze <| ⟨_, ⟨q - 1, (Y - X), (X / 2), rfl, af.sb, ae.pk [1, 0, 2], by rw [st_0 hX2 (by omega)], st_y hX2 (by omega) hY, st_m hX2 (by omega) (by assumption) hm, QZ (J4 _ _) hXb, QZ (Nat.sub_le _ _) hYb, by omega⟩, ?_⟩
   omega
  replace Em : Y < X := by simpa using Em
  refine wp_skip <| ze <| zk <| f_o <| Zn 0 17 (zh (n32 17 X)) Ew Eu rfl (zd (ZR _ _)) fun _ ag => f_o <| c_p ag Eu (halved_go _ X (by assumption)) fun _ _ ah ai => f_o <| zZ 0 17 (zh (n32 17 (X / 2))) [.box Ea (zh (n32 17 (X / 2))) 87, .box Ee (zh (n32 17 Y)) 87, .box Eb (zh (zf 4 0)) 33] ah ai rfl (zd (ZR _ _)) (zd (ZR _ _)) (zw _) rfl fun _ _ aj ak => f_e <| zx <| ze <| d_r [3,4,5,6,7,8,9] [(1, g_n (w_r (e := ((q - 1 : Nat) : Int) - (1 : Int)) (x := ((q - 1 : Nat) : Int) - (1 : Int)) (by omega)))] aj fun _ al => ze <| ⟨_, ⟨q - 1, Y, (X / 2), rfl, al.sb, ak.pk [0, 1, 2], by rw [st_0 hX2 (by omega)], by rw [← st_0 hX2 (by omega)]; assumption, hm, QZ (J4 _ _) hXb, hYb, by omega⟩, ?_⟩
  omega
 refine wp_exit <| zD <| zD <| zP <| ze <| wp_seq <| zk <| f_o <| Zn 1 17 (zh (n32 17 Y)) Et El rfl (zd (ZR _ _)) fun _ am => f_o <| c_p am El (number_go _ (n32 17 Y) (ZR _ _) (YQ _ _)) fun _ _ an ao => f_o <| zZ 2 4 (zh (nd (dv 4294967296 (n32 17 Y)))) _ an ao rfl (zd (zl _ _)) (zd (zi)) (zw _) rfl fun _ _ ap EF => f_e <| ze <| wp_ret <| Zf (v := .agg (zg (zh (nd (dv 4294967296 (n32 17 Y)))))) (t := 4) (T := 33) (ad := ⟨Eb, 0, none⟩) ap (by kernel_rfl) (by kernel_rfl) (zF (t := 33) (k := 2) (off := 0) (m := 4) (xs := zh (nd (dv 4294967296 (n32 17 Y)))) EF rfl (zr (zd (zl _ _))) (zd (zl _ _)) (by kernel_rfl) (by kernel_rfl)) ?_
 have hq0 : q = 0 := by omega
 have e : nd (dv 4294967296 (n32 17 Y)) = nd (V % mF 4) := by rw [dv17 hYb, ← hm, zL (by rw [hq0] at hY; simpa using hY)]
 exact ⟨congrArg (fun l : List UInt64 => Ending.returned (Value.agg (zh l).toArray)) e, EF.pk []⟩
theorem slowly_l (w : World) (l : List UInt64) (hl : zc l = 17) (hd : DG l) (hb : dv 4294967296 l < 4294967296 ^ 16) : Calls zB 91 #[.agg (zg (zh (nd (mF 4)))), .agg (zg (zh l))] w fun e w' => e = .returned (.agg (zg (zh (nd (dv 4294967296 l % mF 4))))) ∧ Ev w [] w' [] := by
  have e : l = n32 17 (dv 4294967296 l) := n32_of hl hd rfl
  have h := slowly_go w (dv 4294967296 l) hb
  rwa [← e] at h
theorem left4_go (w : World) (n : List UInt64) (hn : zc n = 17) (hdn : DG n) (hb : dv 4294967296 n < 4294967296 ^ 16) : Calls zB 64 #[.int .i64 4, .agg (zg (zh n))] w fun e w' => e = .returned (.agg (zg (zh (nd (dv 4294967296 n % mF 4))))) ∧ Ev w [] w' [] := by
 refine d_0 [(0, .int .i64 4), (1, .agg (zg (zh n)))] 85 Tryz.func64 Tryz.ntmps64 (Heap.nil _) fun Er Es Et => wp_seq <| zk <| f_o <| m_m 87 (zh n) Es Et fun _ _ Eu Ew Ex => f_o <| m_z 33 (zh (zf 4 0)) Ew Ex fun _ _ Eq Ey Ed => f_e <| ze <| wp_seq <| zk <| d_k [0,3,4,14] [] 1 Ey fun _ Ee => f_o <| c_p Ee Ed (rmodulus_go _ 4) fun _ _ Ef Eg => f_o <| m_z 33 (zh (zf 4 0)) Ef Eg fun _ _ Eh Ei Ej => ?_
 refine f_o <| zZ 2 4 (zh (nd (mF 4))) _ Ei Ej rfl (zd (zl _ _)) (zd (zi)) (zw _) rfl fun _ _ Ek Ea => f_e <| ze <| wp_seq <| d_s [0,3,4,5,17] [] Ek fun _ Eb => c_t Eb ?_
 refine wp_seq <| zk <| f_o <| Zn 2 4 (zh (nd (mF 4))) Eb Ea rfl (zd (zl _ _)) fun _ El => f_o <| Zn 0 17 (zh n) El Ea rfl (zd hn) fun _ Em => f_o <| c_p Em Ea (slowly_l _ n hn hdn hb) fun _ _ En Eo => f_o <| zZ 1 4 (zh (nd (dv 4294967296 n % mF 4))) [.box Eu (zh n) 87, .box Eq (zh (nd (dv 4294967296 n % mF 4))) 33, .box Eh (zh (nd (mF 4))) 33] En Eo rfl (zd (zl _ _)) (zd (zi)) (zw _) rfl fun _ _ Ep Ec => f_e <| ze <| wp_ret <| Zx <| Zf (v := .agg (zg (zh (nd (dv 4294967296 n % mF 4))))) (t := 4) (T := 33) (ad := ⟨Eq, 0, none⟩) Ep (by kernel_rfl) (by kernel_rfl) (zF (t := 33) (k := 1) (off := 0) (m := 4) (xs := zh (nd (dv 4294967296 n % mF 4))) Ec rfl (zr (zd (zl _ _))) (zd (zl _ _)) (by kernel_rfl) (by kernel_rfl)) ?_
 exact ⟨rfl, Ec.pk []⟩
theorem leftOk {f : Int} (hf : f = 1 ∨ f = 2 ∨ f = 3 ∨ f = 4) : LeftOk f := by
  by_cases h3 : f = 1 ∨ f = 2 ∨ f = 3
  · exact leftOk3 h3
  · obtain rfl : f = 4 := by omega
    exact left4_go
theorem sh_1 {x y : UInt64} : ((x >>> zb 1) ||| (y <<< zb 63)).toNat = x.toNat / 2 + y.toNat % 2 * 9223372036854775808 := by
  have hx := Qm x
  have hy := Qm y
  rw [Yq, shr_n x (by decide), Qy, show (zb 63).toNat % 64 = 63 from rfl]
  have e : y.toNat <<< 63 % 2 ^ 64 = (y.toNat % 2) <<< 63 := by rw [ZA, ZA]; omega
  rw [e, J2, ← Qa (by omega), ZA]
  omega
theorem shl_1 (a0 a1 a2 a3 : UInt64) : [((a0 >>> zb 1) ||| (a1 <<< zb 63)), ((a1 >>> zb 1) ||| (a2 <<< zb 63)), ((a2 >>> zb 1) ||| (a3 <<< zb 63)), a3 >>> zb 1] = nd (nv [a0, a1, a2, a3] / 2) := by
  refine nv_inj rfl (zl _ _) ?_
  have h0 := Qm a0; have h1 := Qm a1; have h2 := Qm a2; have h3 := Qm a3
  rw [nd_val, nv4, nv4, sh_1, sh_1, sh_1, shr_n a3 (by decide)]
  simp only [zY]
  omega
theorem sh_2 {x y : UInt64} : ((x >>> zb 2) ||| (y <<< zb 62)).toNat = x.toNat / 4 + y.toNat % 4 * 4611686018427387904 := by
  have hx := Qm x
  have hy := Qm y
  rw [Yq, shr_n x (by decide), Qy, show (zb 62).toNat % 64 = 62 from rfl]
  have e : y.toNat <<< 62 % 2 ^ 64 = (y.toNat % 4) <<< 62 := by rw [ZA, ZA]; omega
  rw [e, J2, ← Qa (by omega), ZA]
  omega
theorem shl_2 (a0 a1 a2 a3 : UInt64) : [((a0 >>> zb 2) ||| (a1 <<< zb 62)), ((a1 >>> zb 2) ||| (a2 <<< zb 62)), ((a2 >>> zb 2) ||| (a3 <<< zb 62)), a3 >>> zb 2] = nd (nv [a0, a1, a2, a3] / 4) := by
  refine nv_inj rfl (zl _ _) ?_
  have h0 := Qm a0; have h1 := Qm a1; have h2 := Qm a2; have h3 := Qm a3
  rw [nd_val, nv4, nv4, sh_2, sh_2, sh_2, shr_n a3 (by decide)]
  simp only [zY]
  omega
theorem sh_3 {x y : UInt64} : ((x >>> zb 3) ||| (y <<< zb 61)).toNat = x.toNat / 8 + y.toNat % 8 * 2305843009213693952 := by
  have hx := Qm x
  have hy := Qm y
  rw [Yq, shr_n x (by decide), Qy, show (zb 61).toNat % 64 = 61 from rfl]
  have e : y.toNat <<< 61 % 2 ^ 64 = (y.toNat % 8) <<< 61 := by rw [ZA, ZA]; omega
  rw [e, J2, ← Qa (by omega), ZA]
  omega
theorem shl_3 (a0 a1 a2 a3 : UInt64) : [((a0 >>> zb 3) ||| (a1 <<< zb 61)), ((a1 >>> zb 3) ||| (a2 <<< zb 61)), ((a2 >>> zb 3) ||| (a3 <<< zb 61)), a3 >>> zb 3] = nd (nv [a0, a1, a2, a3] / 8) := by
  refine nv_inj rfl (zl _ _) ?_
  have h0 := Qm a0; have h1 := Qm a1; have h2 := Qm a2; have h3 := Qm a3
  rw [nd_val, nv4, nv4, sh_3, sh_3, sh_3, shr_n a3 (by decide)]
  simp only [zY]
  omega
theorem shift24 (w : World) (a0 a1 a2 a3 : UInt64) : Calls zB 95 #[.agg #[zn a0, zn a1, zn a2, zn a3], .int .i64 2] w fun e w' => e = .returned (.agg (zg (zh (nd (nv [a0, a1, a2, a3] / 4))))) ∧ Ev w [] w' [] := by
 refine d_0 [(0, .agg #[zn a0, zn a1, zn a2, zn a3]), (1, .int .i64 2)] 31 Tryz.func95 Tryz.ntmps95 (Heap.nil _) fun Hn Ho Hp => wp_seq <| zk <| f_o <| m_m 33 [zn a0, zn a1, zn a2, zn a3] Ho Hp fun _ _ Ec Hq Hr => f_o <| m_z 33 (zh (zf 4 0)) Hq Hr fun _ _ Ed Hs Er => f_e <| ze <| wp_seq <| d_s [1,2,4,6] [] Hs fun _ E4 => ?_
 refine wp_block <| QY ?_
 refine zK <| d_s [1,2,4,6,7] [] E4 fun _ Es => wp_seq <| c_t Es ?_
 refine wp_skip <| ze <| wp_seq <| wp_block <| d_s [1,2,4,5,6] [] Es fun _ E5 => wp_seq <| zk <| d_k [1,2,4,5,6,9,10] [] 2 E5 fun _ E6 => f_o <| m_l 0 E6 Er fun _ E7 => d_k [1,2,4,5,6,13,14] [(4, g_i .u64 (zI (x := a0) (n := 2) rfl (by decide)))] 6 E7 fun _ E8 => f_o <| m_s 0 [.box Ec [zn (a0 >>> zb 2), zn a1, zn a2, zn a3] 33, .box Ed (zh (zf 4 0)) 33] E8 Er fun _ _ E9 Et => f_e <| ze <| d_s [1,2,4,5,6,16] [] E9 fun _ Eu => ?_
 refine c_t Eu ?_
 refine r_c (fun ac wo => Env ac 31 [(1, .int .i64 2), (2, pt Ec), (4, pt Ed), (5, .int .i64 0), (6, .int .i64 0)] ∧ Ev w [] wo [.box Ec [zn ((a0 >>> zb 2) ||| (a1 <<< zb 62)), zn a1, zn a2, zn a3] 33, .box Ed (zh (zf 4 0)) 33]) ?_ ?_
 ·
  refine h_s (fun wv => Ev w [] wv [.box Ec [zn (a0 >>> zb 2), zn a1, zn a2, zn a3] 33]) [12] 13 ?_
  have Ee := Et.trans (zS Et.heap)
  refine q_s [0,1] [] 11 Eu (Ee.pk [0]) fun _ Ha => q_l 0 2 Ha (Ee.pk [0]) fun _ Hb => q_s [3,4,5] [] 7 Hb (Ee.pk [0]) fun _ Hc => q_l 0 6 Hc (Ee.pk [0]) fun _ Hd => q_s [7,8,9,10,11] [(9, g_i .u64 (Qf (x := a1) (n := 62) rfl (by decide))), (10, g_i .u64 (ZL (x := a0 >>> zb 2) (y := a1 <<< zb 62) rfl rfl))] 1 Hd (Ee.pk [0]) fun _ He => q_t 12 ?_
  refine m_s 0 [.box Ec [zn ((a0 >>> zb 2) ||| (a1 <<< zb 62)), zn a1, zn a2, zn a3] 33, .box Ed (zh (zf 4 0)) 33] He Ee fun _ _ Hf Hg => ⟨q_y, ?_⟩
  exact h_e ⟨Hf.sb, Hg.pk [0, 1]⟩
 rintro _ _ ⟨Hh, Ew⟩
 refine zx <| ze <| d_r [1,2,4,5,6] [] Hh fun _ Hi => ?_
 refine ze <| zK <| d_s [1,2,4,5,6,7] [] Hi fun _ Ex => wp_seq <| c_t Ex ?_
 refine wp_skip <| ze <| wp_seq <| wp_block <| d_s [1,2,4,5,6] [] Ex fun _ Hj => wp_seq <| zk <| d_k [1,2,4,5,6,9,10] [] 2 Hj fun _ Hk => f_o <| m_l 0 Hk Ew fun _ Hl => d_k [1,2,4,5,6,13,14] [(4, g_i .u64 (zI (x := a1) (n := 2) rfl (by decide)))] 6 Hl fun _ Hm => f_o <| m_s 0 [.box Ec [zn ((a0 >>> zb 2) ||| (a1 <<< zb 62)), zn (a1 >>> zb 2), zn a2, zn a3] 33, .box Ed (zh (zf 4 0)) 33] Hm Ew fun _ _ Ey Ef => f_e <| ze <| d_s [1,2,4,5,6,16] [] Ey fun _ Eg => ?_
 refine c_t Eg ?_
 refine r_c (fun ac wo => Env ac 31 [(1, .int .i64 2), (2, pt Ec), (4, pt Ed), (5, .int .i64 1), (6, .int .i64 1)] ∧ Ev w [] wo [.box Ec [zn ((a0 >>> zb 2) ||| (a1 <<< zb 62)), zn ((a1 >>> zb 2) ||| (a2 <<< zb 62)), zn a2, zn a3] 33, .box Ed (zh (zf 4 0)) 33]) ?_ ?_
 ·
  refine h_s (fun wv => Ev w [] wv [.box Ec [zn ((a0 >>> zb 2) ||| (a1 <<< zb 62)), zn (a1 >>> zb 2), zn a2, zn a3] 33]) [12] 13 ?_
  have Ea := Ef.trans (zS Ef.heap)
  refine q_s [0,1] [] 11 Eg (Ea.pk [0]) fun _ Ez => q_l 0 2 Ez (Ea.pk [0]) fun _ EA => q_s [3,4,5] [] 7 EA (Ea.pk [0]) fun _ EB => q_l 0 6 EB (Ea.pk [0]) fun _ EC => q_s [7,8,9,10,11] [(9, g_i .u64 (Qf (x := a2) (n := 62) rfl (by decide))), (10, g_i .u64 (ZL (x := a1 >>> zb 2) (y := a2 <<< zb 62) rfl rfl))] 1 EC (Ea.pk [0]) fun _ ED => q_t 12 ?_
  refine m_s 0 [.box Ec [zn ((a0 >>> zb 2) ||| (a1 <<< zb 62)), zn ((a1 >>> zb 2) ||| (a2 <<< zb 62)), zn a2, zn a3] 33, .box Ed (zh (zf 4 0)) 33] ED Ea fun _ _ EE EF => ⟨q_y, ?_⟩
  exact h_e ⟨EE.sb, EF.pk [0, 1]⟩
 rintro _ _ ⟨EG, Eh⟩
 refine zx <| ze <| d_r [1,2,4,5,6] [] EG fun _ EH => ?_
 refine ze <| zK <| d_s [1,2,4,5,6,7] [] EH fun _ Ei => wp_seq <| c_t Ei ?_
 refine wp_skip <| ze <| wp_seq <| wp_block <| d_s [1,2,4,5,6] [] Ei fun _ EI => wp_seq <| zk <| d_k [1,2,4,5,6,9,10] [] 2 EI fun _ EJ => f_o <| m_l 0 EJ Eh fun _ EK => d_k [1,2,4,5,6,13,14] [(4, g_i .u64 (zI (x := a2) (n := 2) rfl (by decide)))] 6 EK fun _ EL => f_o <| m_s 0 [.box Ec [zn ((a0 >>> zb 2) ||| (a1 <<< zb 62)), zn ((a1 >>> zb 2) ||| (a2 <<< zb 62)), zn (a2 >>> zb 2), zn a3] 33, .box Ed (zh (zf 4 0)) 33] EL Eh fun _ _ EM Ej => f_e <| ze <| d_s [1,2,4,5,6,16] [] EM fun _ Ek => ?_
 refine c_t Ek ?_
 refine r_c (fun ac wo => Env ac 31 [(1, .int .i64 2), (2, pt Ec), (4, pt Ed), (5, .int .i64 2), (6, .int .i64 2)] ∧ Ev w [] wo [.box Ec [zn ((a0 >>> zb 2) ||| (a1 <<< zb 62)), zn ((a1 >>> zb 2) ||| (a2 <<< zb 62)), zn ((a2 >>> zb 2) ||| (a3 <<< zb 62)), zn a3] 33, .box Ed (zh (zf 4 0)) 33]) ?_ ?_
 ·
  refine h_s (fun wv => Ev w [] wv [.box Ec [zn ((a0 >>> zb 2) ||| (a1 <<< zb 62)), zn ((a1 >>> zb 2) ||| (a2 <<< zb 62)), zn (a2 >>> zb 2), zn a3] 33]) [12] 13 ?_
  have Eb := Ej.trans (zS Ej.heap)
  refine q_s [0,1] [] 11 Ek (Eb.pk [0]) fun _ EN => q_l 0 2 EN (Eb.pk [0]) fun _ EO => q_s [3,4,5] [] 7 EO (Eb.pk [0]) fun _ EP => q_l 0 6 EP (Eb.pk [0]) fun _ EQ => q_s [7,8,9,10,11] [(9, g_i .u64 (Qf (x := a3) (n := 62) rfl (by decide))), (10, g_i .u64 (ZL (x := a2 >>> zb 2) (y := a3 <<< zb 62) rfl rfl))] 1 EQ (Eb.pk [0]) fun _ ER => q_t 12 ?_
  refine m_s 0 [.box Ec [zn ((a0 >>> zb 2) ||| (a1 <<< zb 62)), zn ((a1 >>> zb 2) ||| (a2 <<< zb 62)), zn ((a2 >>> zb 2) ||| (a3 <<< zb 62)), zn a3] 33, .box Ed (zh (zf 4 0)) 33] ER Eb fun _ _ ES ET => ⟨q_y, ?_⟩
  exact h_e ⟨ES.sb, ET.pk [0, 1]⟩
 rintro _ _ ⟨EU, El⟩
 refine zx <| ze <| d_r [1,2,4,5,6] [] EU fun _ EV => ?_
 refine ze <| zK <| d_s [1,2,4,5,6,7] [] EV fun _ Em => wp_seq <| c_t Em ?_
 refine wp_skip <| ze <| wp_seq <| wp_block <| d_s [1,2,4,5,6] [] Em fun _ EW => wp_seq <| zk <| d_k [1,2,4,5,6,9,10] [] 2 EW fun _ EX => f_o <| m_l 0 EX El fun _ EY => d_k [1,2,4,5,6,13,14] [(4, g_i .u64 (zI (x := a3) (n := 2) rfl (by decide)))] 6 EY fun _ EZ => f_o <| m_s 0 [.box Ec [zn ((a0 >>> zb 2) ||| (a1 <<< zb 62)), zn ((a1 >>> zb 2) ||| (a2 <<< zb 62)), zn ((a2 >>> zb 2) ||| (a3 <<< zb 62)), zn (a3 >>> zb 2)] 33, .box Ed (zh (zf 4 0)) 33] EZ El fun _ _ E0 En => f_e <| ze <| d_s [1,2,4,5,6,16] [] E0 fun _ Eo => ?_
 refine c_f Eo ?_
 refine wp_skip <| zx <| ze <| d_r [1,2,4,5,6] [] Eo fun _ E1 => ?_
 refine ze <| zK <| d_s [1,2,4,5,6,7] [] E1 fun _ Ep => wp_seq <| c_f Ep ?_
 refine wp_exit <| zD <| zD <| zP <| ze <| wp_seq <| zk <| f_o <| m_a 0 0 4 [zn ((a0 >>> zb 2) ||| (a1 <<< zb 62)), zn ((a1 >>> zb 2) ||| (a2 <<< zb 62)), zn ((a2 >>> zb 2) ||| (a3 <<< zb 62)), zn (a3 >>> zb 2)] Ep En rfl rfl rfl fun _ E2 => f_o <| zZ 1 4 [zn ((a0 >>> zb 2) ||| (a1 <<< zb 62)), zn ((a1 >>> zb 2) ||| (a2 <<< zb 62)), zn ((a2 >>> zb 2) ||| (a3 <<< zb 62)), zn (a3 >>> zb 2)] _ E2 En rfl rfl (zd (zi)) (one_all (by kernel_rfl)) rfl fun _ _ E3 Eq => f_e <| ze <| wp_ret <| Zf (v := .agg #[zn ((a0 >>> zb 2) ||| (a1 <<< zb 62)), zn ((a1 >>> zb 2) ||| (a2 <<< zb 62)), zn ((a2 >>> zb 2) ||| (a3 <<< zb 62)), zn (a3 >>> zb 2)]) (t := 4) (T := 33) (ad := ⟨Ed, 0, none⟩) E3 (by kernel_rfl) (by kernel_rfl) (zF (t := 33) (k := 1) (off := 0) (m := 4) (xs := [zn ((a0 >>> zb 2) ||| (a1 <<< zb 62)), zn ((a1 >>> zb 2) ||| (a2 <<< zb 62)), zn ((a2 >>> zb 2) ||| (a3 <<< zb 62)), zn (a3 >>> zb 2)]) Eq rfl rfl rfl (by kernel_rfl) (by kernel_rfl)) ?_
 have e : [(a0 >>> zb 2) ||| (a1 <<< zb 62), (a1 >>> zb 2) ||| (a2 <<< zb 62), (a2 >>> zb 2) ||| (a3 <<< zb 62), a3 >>> zb 2] = nd (nv [a0, a1, a2, a3] / 4) := shl_2 a0 a1 a2 a3
 exact ⟨congrArg (fun l : List UInt64 => Ending.returned (Value.agg (zh l).toArray)) e, Eq.pk []⟩
theorem shift2_go (w : World) (a : List UInt64) (ha : zc a = 4) : Calls zB 95 #[.agg (zg (zh a)), .int .i64 2] w fun e w' => e = .returned (.agg (zg (zh (nd (nv a / 4))))) ∧ Ev w [] w' [] := by
  match a, ha with
  | [a0, a1, a2, a3], _ => exact shift24 w a0 a1 a2 a3
theorem shift34 (w : World) (a0 a1 a2 a3 : UInt64) : Calls zB 95 #[.agg #[zn a0, zn a1, zn a2, zn a3], .int .i64 3] w fun e w' => e = .returned (.agg (zg (zh (nd (nv [a0, a1, a2, a3] / 8))))) ∧ Ev w [] w' [] := by
 refine d_0 [(0, .agg #[zn a0, zn a1, zn a2, zn a3]), (1, .int .i64 3)] 31 Tryz.func95 Tryz.ntmps95 (Heap.nil _) fun Hn Ho Hp => wp_seq <| zk <| f_o <| m_m 33 [zn a0, zn a1, zn a2, zn a3] Ho Hp fun _ _ Ec Hq Hr => f_o <| m_z 33 (zh (zf 4 0)) Hq Hr fun _ _ Ed Hs Er => f_e <| ze <| wp_seq <| d_s [1,2,4,6] [] Hs fun _ E4 => ?_
 refine wp_block <| QY ?_
 refine zK <| d_s [1,2,4,6,7] [] E4 fun _ Es => wp_seq <| c_t Es ?_
 refine wp_skip <| ze <| wp_seq <| wp_block <| d_s [1,2,4,5,6] [] Es fun _ E5 => wp_seq <| zk <| d_k [1,2,4,5,6,9,10] [] 2 E5 fun _ E6 => f_o <| m_l 0 E6 Er fun _ E7 => d_k [1,2,4,5,6,13,14] [(4, g_i .u64 (zI (x := a0) (n := 3) rfl (by decide)))] 6 E7 fun _ E8 => f_o <| m_s 0 [.box Ec [zn (a0 >>> zb 3), zn a1, zn a2, zn a3] 33, .box Ed (zh (zf 4 0)) 33] E8 Er fun _ _ E9 Et => f_e <| ze <| d_s [1,2,4,5,6,16] [] E9 fun _ Eu => ?_
 refine c_t Eu ?_
 refine r_c (fun ac wo => Env ac 31 [(1, .int .i64 3), (2, pt Ec), (4, pt Ed), (5, .int .i64 0), (6, .int .i64 0)] ∧ Ev w [] wo [.box Ec [zn ((a0 >>> zb 3) ||| (a1 <<< zb 61)), zn a1, zn a2, zn a3] 33, .box Ed (zh (zf 4 0)) 33]) ?_ ?_
 ·
  refine h_s (fun wv => Ev w [] wv [.box Ec [zn (a0 >>> zb 3), zn a1, zn a2, zn a3] 33]) [12] 13 ?_
  have Ee := Et.trans (zS Et.heap)
  refine q_s [0,1] [] 11 Eu (Ee.pk [0]) fun _ Ha => q_l 0 2 Ha (Ee.pk [0]) fun _ Hb => q_s [3,4,5] [] 7 Hb (Ee.pk [0]) fun _ Hc => q_l 0 6 Hc (Ee.pk [0]) fun _ Hd => q_s [7,8,9,10,11] [(9, g_i .u64 (Qf (x := a1) (n := 61) rfl (by decide))), (10, g_i .u64 (ZL (x := a0 >>> zb 3) (y := a1 <<< zb 61) rfl rfl))] 1 Hd (Ee.pk [0]) fun _ He => q_t 12 ?_
  refine m_s 0 [.box Ec [zn ((a0 >>> zb 3) ||| (a1 <<< zb 61)), zn a1, zn a2, zn a3] 33, .box Ed (zh (zf 4 0)) 33] He Ee fun _ _ Hf Hg => ⟨q_y, ?_⟩
  exact h_e ⟨Hf.sb, Hg.pk [0, 1]⟩
 rintro _ _ ⟨Hh, Ew⟩
 refine zx <| ze <| d_r [1,2,4,5,6] [] Hh fun _ Hi => ?_
 refine ze <| zK <| d_s [1,2,4,5,6,7] [] Hi fun _ Ex => wp_seq <| c_t Ex ?_
 refine wp_skip <| ze <| wp_seq <| wp_block <| d_s [1,2,4,5,6] [] Ex fun _ Hj => wp_seq <| zk <| d_k [1,2,4,5,6,9,10] [] 2 Hj fun _ Hk => f_o <| m_l 0 Hk Ew fun _ Hl => d_k [1,2,4,5,6,13,14] [(4, g_i .u64 (zI (x := a1) (n := 3) rfl (by decide)))] 6 Hl fun _ Hm => f_o <| m_s 0 [.box Ec [zn ((a0 >>> zb 3) ||| (a1 <<< zb 61)), zn (a1 >>> zb 3), zn a2, zn a3] 33, .box Ed (zh (zf 4 0)) 33] Hm Ew fun _ _ Ey Ef => f_e <| ze <| d_s [1,2,4,5,6,16] [] Ey fun _ Eg => ?_
 refine c_t Eg ?_
 refine r_c (fun ac wo => Env ac 31 [(1, .int .i64 3), (2, pt Ec), (4, pt Ed), (5, .int .i64 1), (6, .int .i64 1)] ∧ Ev w [] wo [.box Ec [zn ((a0 >>> zb 3) ||| (a1 <<< zb 61)), zn ((a1 >>> zb 3) ||| (a2 <<< zb 61)), zn a2, zn a3] 33, .box Ed (zh (zf 4 0)) 33]) ?_ ?_
 ·
  refine h_s (fun wv => Ev w [] wv [.box Ec [zn ((a0 >>> zb 3) ||| (a1 <<< zb 61)), zn (a1 >>> zb 3), zn a2, zn a3] 33]) [12] 13 ?_
  have Ea := Ef.trans (zS Ef.heap)
  refine q_s [0,1] [] 11 Eg (Ea.pk [0]) fun _ Ez => q_l 0 2 Ez (Ea.pk [0]) fun _ EA => q_s [3,4,5] [] 7 EA (Ea.pk [0]) fun _ EB => q_l 0 6 EB (Ea.pk [0]) fun _ EC => q_s [7,8,9,10,11] [(9, g_i .u64 (Qf (x := a2) (n := 61) rfl (by decide))), (10, g_i .u64 (ZL (x := a1 >>> zb 3) (y := a2 <<< zb 61) rfl rfl))] 1 EC (Ea.pk [0]) fun _ ED => q_t 12 ?_
  refine m_s 0 [.box Ec [zn ((a0 >>> zb 3) ||| (a1 <<< zb 61)), zn ((a1 >>> zb 3) ||| (a2 <<< zb 61)), zn a2, zn a3] 33, .box Ed (zh (zf 4 0)) 33] ED Ea fun _ _ EE EF => ⟨q_y, ?_⟩
  exact h_e ⟨EE.sb, EF.pk [0, 1]⟩
 rintro _ _ ⟨EG, Eh⟩
 refine zx <| ze <| d_r [1,2,4,5,6] [] EG fun _ EH => ?_
 refine ze <| zK <| d_s [1,2,4,5,6,7] [] EH fun _ Ei => wp_seq <| c_t Ei ?_
 refine wp_skip <| ze <| wp_seq <| wp_block <| d_s [1,2,4,5,6] [] Ei fun _ EI => wp_seq <| zk <| d_k [1,2,4,5,6,9,10] [] 2 EI fun _ EJ => f_o <| m_l 0 EJ Eh fun _ EK => d_k [1,2,4,5,6,13,14] [(4, g_i .u64 (zI (x := a2) (n := 3) rfl (by decide)))] 6 EK fun _ EL => f_o <| m_s 0 [.box Ec [zn ((a0 >>> zb 3) ||| (a1 <<< zb 61)), zn ((a1 >>> zb 3) ||| (a2 <<< zb 61)), zn (a2 >>> zb 3), zn a3] 33, .box Ed (zh (zf 4 0)) 33] EL Eh fun _ _ EM Ej => f_e <| ze <| d_s [1,2,4,5,6,16] [] EM fun _ Ek => ?_
 refine c_t Ek ?_
 refine r_c (fun ac wo => Env ac 31 [(1, .int .i64 3), (2, pt Ec), (4, pt Ed), (5, .int .i64 2), (6, .int .i64 2)] ∧ Ev w [] wo [.box Ec [zn ((a0 >>> zb 3) ||| (a1 <<< zb 61)), zn ((a1 >>> zb 3) ||| (a2 <<< zb 61)), zn ((a2 >>> zb 3) ||| (a3 <<< zb 61)), zn a3] 33, .box Ed (zh (zf 4 0)) 33]) ?_ ?_
 ·
  refine h_s (fun wv => Ev w [] wv [.box Ec [zn ((a0 >>> zb 3) ||| (a1 <<< zb 61)), zn ((a1 >>> zb 3) ||| (a2 <<< zb 61)), zn (a2 >>> zb 3), zn a3] 33]) [12] 13 ?_
  have Eb := Ej.trans (zS Ej.heap)
  refine q_s [0,1] [] 11 Ek (Eb.pk [0]) fun _ EN => q_l 0 2 EN (Eb.pk [0]) fun _ EO => q_s [3,4,5] [] 7 EO (Eb.pk [0]) fun _ EP => q_l 0 6 EP (Eb.pk [0]) fun _ EQ => q_s [7,8,9,10,11] [(9, g_i .u64 (Qf (x := a3) (n := 61) rfl (by decide))), (10, g_i .u64 (ZL (x := a2 >>> zb 3) (y := a3 <<< zb 61) rfl rfl))] 1 EQ (Eb.pk [0]) fun _ ER => q_t 12 ?_
  refine m_s 0 [.box Ec [zn ((a0 >>> zb 3) ||| (a1 <<< zb 61)), zn ((a1 >>> zb 3) ||| (a2 <<< zb 61)), zn ((a2 >>> zb 3) ||| (a3 <<< zb 61)), zn a3] 33, .box Ed (zh (zf 4 0)) 33] ER Eb fun _ _ ES ET => ⟨q_y, ?_⟩
  exact h_e ⟨ES.sb, ET.pk [0, 1]⟩
 rintro _ _ ⟨EU, El⟩
 refine zx <| ze <| d_r [1,2,4,5,6] [] EU fun _ EV => ?_
 refine ze <| zK <| d_s [1,2,4,5,6,7] [] EV fun _ Em => wp_seq <| c_t Em ?_
 refine wp_skip <| ze <| wp_seq <| wp_block <| d_s [1,2,4,5,6] [] Em fun _ EW => wp_seq <| zk <| d_k [1,2,4,5,6,9,10] [] 2 EW fun _ EX => f_o <| m_l 0 EX El fun _ EY => d_k [1,2,4,5,6,13,14] [(4, g_i .u64 (zI (x := a3) (n := 3) rfl (by decide)))] 6 EY fun _ EZ => f_o <| m_s 0 [.box Ec [zn ((a0 >>> zb 3) ||| (a1 <<< zb 61)), zn ((a1 >>> zb 3) ||| (a2 <<< zb 61)), zn ((a2 >>> zb 3) ||| (a3 <<< zb 61)), zn (a3 >>> zb 3)] 33, .box Ed (zh (zf 4 0)) 33] EZ El fun _ _ E0 En => f_e <| ze <| d_s [1,2,4,5,6,16] [] E0 fun _ Eo => ?_
 refine c_f Eo ?_
 refine wp_skip <| zx <| ze <| d_r [1,2,4,5,6] [] Eo fun _ E1 => ?_
 refine ze <| zK <| d_s [1,2,4,5,6,7] [] E1 fun _ Ep => wp_seq <| c_f Ep ?_
 refine wp_exit <| zD <| zD <| zP <| ze <| wp_seq <| zk <| f_o <| m_a 0 0 4 [zn ((a0 >>> zb 3) ||| (a1 <<< zb 61)), zn ((a1 >>> zb 3) ||| (a2 <<< zb 61)), zn ((a2 >>> zb 3) ||| (a3 <<< zb 61)), zn (a3 >>> zb 3)] Ep En rfl rfl rfl fun _ E2 => f_o <| zZ 1 4 [zn ((a0 >>> zb 3) ||| (a1 <<< zb 61)), zn ((a1 >>> zb 3) ||| (a2 <<< zb 61)), zn ((a2 >>> zb 3) ||| (a3 <<< zb 61)), zn (a3 >>> zb 3)] _ E2 En rfl rfl (zd (zi)) (one_all (by kernel_rfl)) rfl fun _ _ E3 Eq => f_e <| ze <| wp_ret <| Zf (v := .agg #[zn ((a0 >>> zb 3) ||| (a1 <<< zb 61)), zn ((a1 >>> zb 3) ||| (a2 <<< zb 61)), zn ((a2 >>> zb 3) ||| (a3 <<< zb 61)), zn (a3 >>> zb 3)]) (t := 4) (T := 33) (ad := ⟨Ed, 0, none⟩) E3 (by kernel_rfl) (by kernel_rfl) (zF (t := 33) (k := 1) (off := 0) (m := 4) (xs := [zn ((a0 >>> zb 3) ||| (a1 <<< zb 61)), zn ((a1 >>> zb 3) ||| (a2 <<< zb 61)), zn ((a2 >>> zb 3) ||| (a3 <<< zb 61)), zn (a3 >>> zb 3)]) Eq rfl rfl rfl (by kernel_rfl) (by kernel_rfl)) ?_
 have e : [(a0 >>> zb 3) ||| (a1 <<< zb 61), (a1 >>> zb 3) ||| (a2 <<< zb 61), (a2 >>> zb 3) ||| (a3 <<< zb 61), a3 >>> zb 3] = nd (nv [a0, a1, a2, a3] / 8) := shl_3 a0 a1 a2 a3
 exact ⟨congrArg (fun l : List UInt64 => Ending.returned (Value.agg (zh l).toArray)) e, Eq.pk []⟩
theorem shift3_go (w : World) (a : List UInt64) (ha : zc a = 4) : Calls zB 95 #[.agg (zg (zh a)), .int .i64 3] w fun e w' => e = .returned (.agg (zg (zh (nd (nv a / 8))))) ∧ Ev w [] w' [] := by
  match a, ha with
  | [a0, a1, a2, a3], _ => exact shift34 w a0 a1 a2 a3
theorem half4 (w : World) (a0 a1 a2 a3 : UInt64) : Calls zB 109 #[.agg #[zn a0, zn a1, zn a2, zn a3]] w fun e w' => e = .returned (.agg (zg (zh (nd (nv [a0, a1, a2, a3] / 2))))) ∧ Ev w [] w' [] := by
 refine d_0 [(0, .agg #[zn a0, zn a1, zn a2, zn a3])] 28 Tryz.func109 Tryz.ntmps109 (Heap.nil _) fun Hj Hk Hl => wp_seq <| zk <| f_o <| m_m 33 [zn a0, zn a1, zn a2, zn a3] Hk Hl fun _ _ Ec Hm Hn => f_o <| m_z 33 (zh (zf 4 0)) Hm Hn fun _ _ Ed Ho Ep => f_e <| ze <| wp_seq <| d_s [1,2,3] [] Ho fun _ E1 => ?_
 refine wp_block <| QY ?_
 refine zK <| wp_seq <| d_s [1,2,3,5] [] E1 fun _ Eq => c_t Eq ?_
 refine wp_skip <| ze <| wp_seq <| wp_block <| wp_seq <| zk <| d_k [1,2,3,8,10] [] 3 Eq fun _ E2 => f_o <| m_l 0 E2 Ep fun _ E3 => d_k [1,2,3,12,13] [(4, g_i .u64 (zI (x := a0) (n := 1) rfl (by decide)))] 6 E3 fun _ E4 => f_o <| m_s 0 [.box Ec [zn (a0 >>> zb 1), zn a1, zn a2, zn a3] 33, .box Ed (zh (zf 4 0)) 33] E4 Ep fun _ _ E5 Er => f_e <| ze <| d_s [1,2,3,15] [] E5 fun _ Es => c_t Es ?_
 refine r_c (fun ac wo => Env ac 28 [(1, pt Ec), (2, pt Ed), (3, .int .i64 0)] ∧ Ev w [] wo [.box Ec [zn ((a0 >>> zb 1) ||| (a1 <<< zb 63)), zn a1, zn a2, zn a3] 33, .box Ed (zh (zf 4 0)) 33]) ?_ ?_
 ·
  refine h_s (fun wv => Ev w [] wv [.box Ec [zn (a0 >>> zb 1), zn a1, zn a2, zn a3] 33]) [11] 12 ?_
  have Ee := Er.trans (zS Er.heap)
  refine q_s [0,1,2] [] 9 Es (Ee.pk [0]) fun _ E6 => q_l 0 3 E6 (Ee.pk [0]) fun _ E7 => q_s [4,5,6] [] 5 E7 (Ee.pk [0]) fun _ E8 => q_l 0 7 E8 (Ee.pk [0]) fun _ E9 => q_s [8,9,10] [(8, g_i .u64 (Qf (x := a1) (n := 63) rfl (by decide))), (9, g_i .u64 (ZL (x := a0 >>> zb 1) (y := a1 <<< zb 63) rfl rfl))] 1 E9 (Ee.pk [0]) fun _ Ha => q_t 11 ?_
  refine m_s 0 [.box Ec [zn ((a0 >>> zb 1) ||| (a1 <<< zb 63)), zn a1, zn a2, zn a3] 33, .box Ed (zh (zf 4 0)) 33] Ha Ee fun _ _ Hb Hc => ⟨q_y, ?_⟩
  exact h_e ⟨Hb.sb, Hc.pk [0, 1]⟩
 rintro _ _ ⟨Hd, Et⟩
 refine zx <| ze <| d_r [1,2,3] [] Hd fun _ He => ?_
 refine ze <| zK <| wp_seq <| d_s [1,2,3,5] [] He fun _ Eu => c_t Eu ?_
 refine wp_skip <| ze <| wp_seq <| wp_block <| wp_seq <| zk <| d_k [1,2,3,8,10] [] 3 Eu fun _ Hf => f_o <| m_l 0 Hf Et fun _ Hg => d_k [1,2,3,12,13] [(4, g_i .u64 (zI (x := a1) (n := 1) rfl (by decide)))] 6 Hg fun _ Hh => f_o <| m_s 0 [.box Ec [zn ((a0 >>> zb 1) ||| (a1 <<< zb 63)), zn (a1 >>> zb 1), zn a2, zn a3] 33, .box Ed (zh (zf 4 0)) 33] Hh Et fun _ _ Hi Ew => f_e <| ze <| d_s [1,2,3,15] [] Hi fun _ Ex => c_t Ex ?_
 refine r_c (fun ac wo => Env ac 28 [(1, pt Ec), (2, pt Ed), (3, .int .i64 1)] ∧ Ev w [] wo [.box Ec [zn ((a0 >>> zb 1) ||| (a1 <<< zb 63)), zn ((a1 >>> zb 1) ||| (a2 <<< zb 63)), zn a2, zn a3] 33, .box Ed (zh (zf 4 0)) 33]) ?_ ?_
 ·
  refine h_s (fun wv => Ev w [] wv [.box Ec [zn ((a0 >>> zb 1) ||| (a1 <<< zb 63)), zn (a1 >>> zb 1), zn a2, zn a3] 33]) [11] 12 ?_
  have Ea := Ew.trans (zS Ew.heap)
  refine q_s [0,1,2] [] 9 Ex (Ea.pk [0]) fun _ Ey => q_l 0 3 Ey (Ea.pk [0]) fun _ Ez => q_s [4,5,6] [] 5 Ez (Ea.pk [0]) fun _ EA => q_l 0 7 EA (Ea.pk [0]) fun _ EB => q_s [8,9,10] [(8, g_i .u64 (Qf (x := a2) (n := 63) rfl (by decide))), (9, g_i .u64 (ZL (x := a1 >>> zb 1) (y := a2 <<< zb 63) rfl rfl))] 1 EB (Ea.pk [0]) fun _ EC => q_t 11 ?_
  refine m_s 0 [.box Ec [zn ((a0 >>> zb 1) ||| (a1 <<< zb 63)), zn ((a1 >>> zb 1) ||| (a2 <<< zb 63)), zn a2, zn a3] 33, .box Ed (zh (zf 4 0)) 33] EC Ea fun _ _ ED EE => ⟨q_y, ?_⟩
  exact h_e ⟨ED.sb, EE.pk [0, 1]⟩
 rintro _ _ ⟨EF, Ef⟩
 refine zx <| ze <| d_r [1,2,3] [] EF fun _ EG => ?_
 refine ze <| zK <| wp_seq <| d_s [1,2,3,5] [] EG fun _ Eg => c_t Eg ?_
 refine wp_skip <| ze <| wp_seq <| wp_block <| wp_seq <| zk <| d_k [1,2,3,8,10] [] 3 Eg fun _ EH => f_o <| m_l 0 EH Ef fun _ EI => d_k [1,2,3,12,13] [(4, g_i .u64 (zI (x := a2) (n := 1) rfl (by decide)))] 6 EI fun _ EJ => f_o <| m_s 0 [.box Ec [zn ((a0 >>> zb 1) ||| (a1 <<< zb 63)), zn ((a1 >>> zb 1) ||| (a2 <<< zb 63)), zn (a2 >>> zb 1), zn a3] 33, .box Ed (zh (zf 4 0)) 33] EJ Ef fun _ _ EK Eh => f_e <| ze <| d_s [1,2,3,15] [] EK fun _ Ei => c_t Ei ?_
 refine r_c (fun ac wo => Env ac 28 [(1, pt Ec), (2, pt Ed), (3, .int .i64 2)] ∧ Ev w [] wo [.box Ec [zn ((a0 >>> zb 1) ||| (a1 <<< zb 63)), zn ((a1 >>> zb 1) ||| (a2 <<< zb 63)), zn ((a2 >>> zb 1) ||| (a3 <<< zb 63)), zn a3] 33, .box Ed (zh (zf 4 0)) 33]) ?_ ?_
 ·
  refine h_s (fun wv => Ev w [] wv [.box Ec [zn ((a0 >>> zb 1) ||| (a1 <<< zb 63)), zn ((a1 >>> zb 1) ||| (a2 <<< zb 63)), zn (a2 >>> zb 1), zn a3] 33]) [11] 12 ?_
  have Eb := Eh.trans (zS Eh.heap)
  refine q_s [0,1,2] [] 9 Ei (Eb.pk [0]) fun _ EL => q_l 0 3 EL (Eb.pk [0]) fun _ EM => q_s [4,5,6] [] 5 EM (Eb.pk [0]) fun _ EN => q_l 0 7 EN (Eb.pk [0]) fun _ EO => q_s [8,9,10] [(8, g_i .u64 (Qf (x := a3) (n := 63) rfl (by decide))), (9, g_i .u64 (ZL (x := a2 >>> zb 1) (y := a3 <<< zb 63) rfl rfl))] 1 EO (Eb.pk [0]) fun _ EP => q_t 11 ?_
  refine m_s 0 [.box Ec [zn ((a0 >>> zb 1) ||| (a1 <<< zb 63)), zn ((a1 >>> zb 1) ||| (a2 <<< zb 63)), zn ((a2 >>> zb 1) ||| (a3 <<< zb 63)), zn a3] 33, .box Ed (zh (zf 4 0)) 33] EP Eb fun _ _ EQ ER => ⟨q_y, ?_⟩
  exact h_e ⟨EQ.sb, ER.pk [0, 1]⟩
 rintro _ _ ⟨ES, Ej⟩
 refine zx <| ze <| d_r [1,2,3] [] ES fun _ ET => ?_
 refine ze <| zK <| wp_seq <| d_s [1,2,3,5] [] ET fun _ Ek => c_t Ek ?_
 refine wp_skip <| ze <| wp_seq <| wp_block <| wp_seq <| zk <| d_k [1,2,3,8,10] [] 3 Ek fun _ EU => f_o <| m_l 0 EU Ej fun _ EV => d_k [1,2,3,12,13] [(4, g_i .u64 (zI (x := a3) (n := 1) rfl (by decide)))] 6 EV fun _ EW => f_o <| m_s 0 [.box Ec [zn ((a0 >>> zb 1) ||| (a1 <<< zb 63)), zn ((a1 >>> zb 1) ||| (a2 <<< zb 63)), zn ((a2 >>> zb 1) ||| (a3 <<< zb 63)), zn (a3 >>> zb 1)] 33, .box Ed (zh (zf 4 0)) 33] EW Ej fun _ _ EX El => f_e <| ze <| d_s [1,2,3,15] [] EX fun _ Em => c_f Em ?_
 refine wp_skip <| zx <| ze <| d_r [1,2,3] [] Em fun _ EY => ?_
 refine ze <| zK <| wp_seq <| d_s [1,2,3,5] [] EY fun _ En => c_f En ?_
 refine wp_exit <| zD <| zD <| zP <| ze <| wp_seq <| zk <| f_o <| m_a 0 0 4 [zn ((a0 >>> zb 1) ||| (a1 <<< zb 63)), zn ((a1 >>> zb 1) ||| (a2 <<< zb 63)), zn ((a2 >>> zb 1) ||| (a3 <<< zb 63)), zn (a3 >>> zb 1)] En El rfl rfl rfl fun _ EZ => f_o <| zZ 1 4 [zn ((a0 >>> zb 1) ||| (a1 <<< zb 63)), zn ((a1 >>> zb 1) ||| (a2 <<< zb 63)), zn ((a2 >>> zb 1) ||| (a3 <<< zb 63)), zn (a3 >>> zb 1)] _ EZ El rfl rfl (zd (zi)) (one_all (by kernel_rfl)) rfl fun _ _ E0 Eo => f_e <| ze <| wp_ret <| Zf (v := .agg #[zn ((a0 >>> zb 1) ||| (a1 <<< zb 63)), zn ((a1 >>> zb 1) ||| (a2 <<< zb 63)), zn ((a2 >>> zb 1) ||| (a3 <<< zb 63)), zn (a3 >>> zb 1)]) (t := 2) (T := 33) (ad := ⟨Ed, 0, none⟩) E0 (by kernel_rfl) (by kernel_rfl) (zF (t := 33) (k := 1) (off := 0) (m := 4) (xs := [zn ((a0 >>> zb 1) ||| (a1 <<< zb 63)), zn ((a1 >>> zb 1) ||| (a2 <<< zb 63)), zn ((a2 >>> zb 1) ||| (a3 <<< zb 63)), zn (a3 >>> zb 1)]) Eo rfl rfl rfl (by kernel_rfl) (by kernel_rfl)) ?_
 have e : [(a0 >>> zb 1) ||| (a1 <<< zb 63), (a1 >>> zb 1) ||| (a2 <<< zb 63), (a2 >>> zb 1) ||| (a3 <<< zb 63), a3 >>> zb 1] = nd (nv [a0, a1, a2, a3] / 2) := shl_1 a0 a1 a2 a3
 exact ⟨congrArg (fun l : List UInt64 => Ending.returned (Value.agg (zh l).toArray)) e, Eo.pk []⟩
theorem half_go (w : World) (a : List UInt64) (ha : zc a = 4) : Calls zB 109 #[.agg (zg (zh a))] w fun e w' => e = .returned (.agg (zg (zh (nd (nv a / 2))))) ∧ Ev w [] w' [] := by
  match a, ha with
  | [a0, a1, a2, a3], _ => exact half4 w a0 a1 a2 a3
def rq (f : Int) (A : Nat) : Nat := zU f A (if f = 2 then (mF 2 + 1) / 4 else (mF 1 + 3) / 8)
def ri : Nat := zU 1 2 ((mF 1 - 1) / 4)
def rs (f : Int) (A : Nat) : Nat := if f = 2 ∨ zq f (rq f A) (rq f A) = zq f A 1 then rq f A else zq f (rq f A) ri
def rootOk (f : Int) (A : Nat) : Bool := decide ((f = 1 ∨ f = 2) ∧ zq f (rs f A) (rs f A) = zq f A 1)
def rootN (f : Int) (A : Nat) : Nat := if rootOk f A = true then (if rs f A % 2 = 1 then z8 f 0 (rs f A) else rs f A) else 0
theorem nd_inj {x y : Nat} (hx : x < zY) (hy : y < zY) : nd x = nd y ↔ x = y := by
  constructor
  · intro h
    have := congrArg nv h
    rwa [QI hx, QI hy] at this
  · intro h
    rw [h]
theorem rq_lt {f : Int} (hf : f = 1 ∨ f = 2 ∨ f = 3 ∨ f = 4) (A : Nat) : rq f A < zY := powM_lt hf _ _
theorem rs_lt {f : Int} (hf : f = 1 ∨ f = 2 ∨ f = 3 ∨ f = 4) (A : Nat) : rs f A < zY := by
  unfold rs
  split
  · exact rq_lt hf A
  · exact mulM_lt hf _ _
theorem sq_eq {f : Int} (hf : f = 1 ∨ f = 2 ∨ f = 3 ∨ f = 4) {r A : Nat} (hr : r < zY) : nd (zq f (nv (nd r)) (nv (nd r))) = nd (zq f A (nv [1, 0, 0, 0])) ↔ zq f r r = zq f A 1 := by
  rw [QI hr, nd_inj (mulM_lt hf _ _) (mulM_lt hf _ _), show nv [1, 0, 0, 0] = 1 from rfl]
theorem h1f : (1 : Int) = 1 ∨ (1 : Int) = 2 ∨ (1 : Int) = 3 ∨ (1 : Int) = 4 := .inl rfl
theorem h2f : (2 : Int) = 1 ∨ (2 : Int) = 2 ∨ (2 : Int) = 3 ∨ (2 : Int) = 4 := .inr (.inl rfl)
theorem rs1_a {A : Nat} (h : nd (zq 1 (nv (nd (rq 1 A))) (nv (nd (rq 1 A)))) = nd (zq 1 A (nv [1, 0, 0, 0]))) : nd (rq 1 A) = nd (rs 1 A) := by
  rw [rs, if_pos (.inr ((sq_eq h1f (rq_lt h1f A)).1 h))]
theorem rs1_b {A e : Nat} (h : ¬ nd (zq 1 (nv (nd (rq 1 A))) (nv (nd (rq 1 A)))) = nd (zq 1 A (nv [1, 0, 0, 0]))) (he : e = (mF 1 - 1) / 4) : nd (zq 1 (nv (nd (rq 1 A))) (nv (nd (zU 1 (nv [2, 0, 0, 0]) e)))) = nd (rs 1 A) := by
  rw [rs, if_neg (fun q => q.elim (by decide) (fun g => h ((sq_eq h1f (rq_lt h1f A)).2 g))), QI (rq_lt h1f A), QI (powM_lt h1f _ _), he]
  rfl
theorem par_nd {r : Nat} (hr : r < zY) : (za (nd r) 0 0 &&& 1).toNat = r % 2 := by
  have e : za (nd r) 0 0 = zb r := rfl
  rw [e, Ys, show (1 : UInt64).toNat = 1 from rfl, Jw, ofNat_val]
  omega
theorem root_no {f : Int} (hf : f = 1 ∨ f = 2 ∨ f = 3 ∨ f = 4) {A : Nat} (h : ¬ nd (zq f (nv (nd (rs f A))) (nv (nd (rs f A)))) = nd (zq f A (nv [1, 0, 0, 0]))) : rootOk f A = false ∧ rootN f A = 0 := by
  have e : rootOk f A = false := decide_eq_false (fun q => h ((sq_eq hf (rs_lt hf A)).2 q.2))
  exact ⟨e, by rw [rootN, e]; rfl⟩
theorem root_yes {f : Int} (h12 : f = 1 ∨ f = 2) {A : Nat} (h : nd (zq f (nv (nd (rs f A))) (nv (nd (rs f A)))) = nd (zq f A (nv [1, 0, 0, 0]))) : rootOk f A = true := decide_eq_true ⟨h12, (sq_eq (by omega) (rs_lt (by omega) A)).1 h⟩
theorem root_odd {f : Int} (h12 : f = 1 ∨ f = 2) {A : Nat} (h : nd (zq f (nv (nd (rs f A))) (nv (nd (rs f A)))) = nd (zq f A (nv [1, 0, 0, 0]))) (hp : (((za (nd (rs f A)) 0 0 &&& 1).toNat : Nat) : Int) = (1 : Int)) : nd (z8 f 0 (nv (nd (rs f A)))) = nd (rootN f A) := by
  have hr := rs_lt (f := f) (by omega) A
  rw [par_nd hr] at hp
  rw [rootN, if_pos (root_yes h12 h), if_pos (by omega), QI hr]
theorem root_even {f : Int} (h12 : f = 1 ∨ f = 2) {A : Nat} (h : nd (zq f (nv (nd (rs f A))) (nv (nd (rs f A)))) = nd (zq f A (nv [1, 0, 0, 0]))) (hp : ¬ (((za (nd (rs f A)) 0 0 &&& 1).toNat : Nat) : Int) = (1 : Int)) : nd (rs f A) = nd (rootN f A) := by
  rw [par_nd (rs_lt (f := f) (by omega) A)] at hp
  rw [rootN, if_pos (root_yes h12 h), if_neg (by omega)]
theorem root_z {f : Int} {A : Nat} (h : rootOk f A = false ∧ rootN f A = 0) : [(0 : UInt64), 0, 0, 0] = nd (rootN f A) := by rw [h.2]; rfl
theorem root1_go (w : World) (a : List UInt64) (ha : zc a = 4) : Calls zB 67 #[.int .i64 1, .agg (zg (zh a))] w fun e w' => e = .returned (.tuple #[.agg (zg (zh (nd (rootN 1 (nv a))))), .bool (rootOk 1 (nv a))]) ∧ Ev w [] w' [] := by
 refine d_0 [(0, .int .i64 1), (1, .agg (zg (zh a)))] 82 Tryz.func67 Tryz.ntmps67 (Heap.nil _) fun H7 H8 H9 => wp_seq <| zk <| f_o <| m_m 33 (zh a) H8 H9 fun _ _ Em aa ab => f_o <| m_z 33 (zh (zf 4 0)) aa ab fun _ _ Ef ae HF => d_e [0,3,4,5] [] ae fun _ HG => ze <| wp_seq <| zk <| d_k [0,3,4,5,13] [] 1 HG fun _ HH => f_o <| c_p HH HF (modulus_go _ 1) fun _ _ HI HJ => ?_
 refine f_o <| m_z 33 (zh (zf 4 0)) HI HJ fun _ _ Ed HK HL => f_o <| zZ 2 4 (zh (nd (mF 1))) _ HK HL rfl (zd (zl _ _)) (zd (zi)) (zw _) rfl fun _ _ HM EI => f_e <| ze <| wp_seq <| zk <| d_k [0,3,4,5,6,15] [] 1 HM fun _ HN => f_o <| Zn 0 4 (zh a) HN EI rfl (zd ha) fun _ HO => d_k [0,3,4,5,6,15,16,17] [] 3 HO fun _ HP => f_o <| c_p HP EI (hM1 _ a ([1, 0, 0, 0] : List UInt64) ha (show zc ([1, 0, 0, 0] : List UInt64) = 4 from rfl)) fun _ _ HQ HR => ?_
 refine f_o <| m_z 33 (zh (zf 4 0)) HQ HR fun _ _ Eb HS HT => f_o <| zZ 3 4 (zh (nd (zq 1 (nv a) (nv ([1, 0, 0, 0] : List UInt64))))) [.box Em (zh a) 33, .box Ef (zh (zf 4 0)) 33, .box Ed (zh (nd (mF 1))) 33, .box Eb (zh (nd (zq 1 (nv a) (nv ([1, 0, 0, 0] : List UInt64))))) 33] HS HT rfl (zd (zl _ _)) (zd (zi)) (zw _) rfl fun _ _ HU HV => f_e <| ze <| wp_seq <| zk <| f_o <| m_z 33 (zh (zf 4 0)) HU HV fun _ _ Ea HW EJ => f_e <| ze <| wp_seq <| wp_seq <| d_r [0,3,4,5,6,7,8,19] [] HW fun _ HX => ze <| wp_block <| wp_seq <| d_r [0,3,4,5,6,7,8,19,21] [] HX fun _ EK => ze <| c_f EK ?_
 refine wp_seq <| d_r [0,3,4,5,6,7,8,19,34] [] EK fun _ EL => ze <| c_t EL ?_
 refine wp_seq <| zk <| f_o <| Zn 2 4 (zh (nd (mF 1))) EL EJ rfl (zd (zl _ _)) fun _ HY => d_k [0,3,4,5,6,7,8,19,37,38] [] 2 HY fun _ HZ => f_o <| c_p HZ EJ (plus_go _ (nd (mF 1)) ([3, 0, 0, 0] : List UInt64) (zl _ _) (show zc ([3, 0, 0, 0] : List UInt64) = 4 from rfl)) fun _ _ H0 H1 => d_k [0,3,4,5,6,7,8,19,40,41] [] 6 H0 fun _ H2 => f_o <| m_z 33 (zh (zf 4 0)) H2 H1 fun _ _ Ec H3 H4 => f_o <| zZ 5 4 (zh (nd (nv (nd (mF 1)) + nv ([3, 0, 0, 0] : List UInt64)))) _ H3 H4 rfl (zd (zl _ _)) (zd (zi)) (zw _) rfl fun _ _ H5 EM => ?_
 refine d_e [0,3,4,5,6,7,8,11,19] [] H5 fun _ H6 => ?_
 refine ze <| wp_seq <| r_c (fun ac wo => Env ac 82 [(0, .int .i64 1), (3, pt Em), (4, pt Ef), (5, .bool false), (6, pt Ed), (7, pt Eb), (8, pt Ea), (11, pt Ec), (19, .int .i64 1)] ∧ Ev w [] wo [.box Em (zh a) 33, .box Ef (zh (zf 4 0)) 33, .box Ed (zh (nd (mF 1))) 33, .box Eb (zh (nd (zq 1 (nv a) (nv ([1, 0, 0, 0] : List UInt64))))) 33, .box Ea (zh (nd (zU 1 (nv a) (nv (nd (nv (nd (nv (nd (mF 1)) + nv ([3, 0, 0, 0] : List UInt64))) / 8)))))) 33, .box Ec (zh (nd (nv (nd (mF 1)) + nv ([3, 0, 0, 0] : List UInt64)))) 33]) ?_ ?_
 ·
  refine h_s (fun wv => Ev w [] wv [.box Em (zh a) 33, .box Ec (zh (nd (nv (nd (mF 1)) + nv ([3, 0, 0, 0] : List UInt64)))) 33]) [] 6 ?_
  have Et := EM.trans (zS EM.heap)
  refine q_s [0] [] 5 H6 (Et.pk [0, 5]) fun _ EN => q_r 1 (s := Instr.loadAt 33 (pt Em)) (v := .agg (zg (zh a))) EN (fun w hS => zV (m := 4) (cs := zh a) (zd ha) (by kernel_rfl) (by kernel_rfl) (hS.heap.cells (k := 0) (off := 0) (m := 4) rfl (zr (zd ha)))) (Et.pk [0, 5]) fun _ EO => q_r 2 (s := Instr.loadAt 33 (pt Ec)) (v := .agg (zg (zh (nd (nv (nd (mF 1)) + nv ([3, 0, 0, 0] : List UInt64)))))) EO (fun w hS => zV (m := 4) (cs := zh (nd (nv (nd (mF 1)) + nv ([3, 0, 0, 0] : List UInt64)))) (zd (zl _ _)) (by kernel_rfl) (by kernel_rfl) (hS.heap.cells (k := 1) (off := 0) (m := 4) rfl (zr (zd (zl _ _))))) (Et.pk [0, 5]) fun _ EP => q_t 3 ?_
  refine c_p EP Et (shift3_go _ (nd (nv (nd (mF 1)) + nv ([3, 0, 0, 0] : List UInt64))) (zl _ _)) fun _ _ EQ Eu => ⟨fun _ => Eu.pk [0, 5], ?_⟩
  refine q_t 4 ?_
  refine c_p EQ Eu (exp_go _ 1 h1f hM1 a (nd (nv (nd (nv (nd (mF 1)) + nv ([3, 0, 0, 0] : List UInt64))) / 8)) ha (zl _ _)) fun _ _ ER Ew => ⟨fun _ => Ew.pk [0, 5], ?_⟩
  refine q_t 5 ?_
  refine zZ 4 4 (zh (nd (zU 1 (nv a) (nv (nd (nv (nd (nv (nd (mF 1)) + nv ([3, 0, 0, 0] : List UInt64))) / 8)))))) [.box Em (zh a) 33, .box Ef (zh (zf 4 0)) 33, .box Ed (zh (nd (mF 1))) 33, .box Eb (zh (nd (zq 1 (nv a) (nv ([1, 0, 0, 0] : List UInt64))))) 33, .box Ea (zh (nd (zU 1 (nv a) (nv (nd (nv (nd (nv (nd (mF 1)) + nv ([3, 0, 0, 0] : List UInt64))) / 8)))))) 33, .box Ec (zh (nd (nv (nd (mF 1)) + nv ([3, 0, 0, 0] : List UInt64)))) 33] ER Ew rfl (zd (zl _ _)) (zd (zi)) (zw _) rfl fun _ _ ES Ex => ⟨fun _ => Ex.pk [0, 5], ?_⟩
  exact h_e ⟨ES.sb, Ex.pk [0, 1, 2, 3, 4, 5]⟩
 rintro _ _ ⟨ET, En⟩
 refine ze <| wp_seq ?_
 rw [show (nd (zU 1 (nv a) (nv (nd (nv (nd (nv (nd (mF 1)) + nv ([3, 0, 0, 0] : List UInt64))) / 8))))) = (nd (rq 1 (nv a))) from (congrArg (fun e => nd (zU 1 (nv a) e)) (show _ = (mF 1 + 3) / 8 by decide +kernel))] at En
 refine r_c (fun ac wo => Env ac 82 [(0, .int .i64 1), (3, pt Em), (4, pt Ef), (5, .bool false), (6, pt Ed), (7, pt Eb), (8, pt Ea), (11, pt Ec), (19, .int .i64 1), (52, .bool (!((nd (zq 1 (nv (nd (rq 1 (nv a)))) (nv (nd (rq 1 (nv a)))))) == (nd (zq 1 (nv a) (nv ([1, 0, 0, 0] : List UInt64)))))))] ∧ Ev w [] wo [.box Em (zh a) 33, .box Ef (zh (zf 4 0)) 33, .box Ed (zh (nd (mF 1))) 33, .box Eb (zh (nd (zq 1 (nv a) (nv ([1, 0, 0, 0] : List UInt64))))) 33, .box Ea (zh (nd (rq 1 (nv a)))) 33, .box Ec (zh (nd (nv (nd (mF 1)) + nv ([3, 0, 0, 0] : List UInt64)))) 33]) ?_ ?_
 ·
  refine h_s (fun wv => Ev w [] wv [.box Eb (zh (nd (zq 1 (nv a) (nv ([1, 0, 0, 0] : List UInt64))))) 33, .box Ea (zh (nd (rq 1 (nv a)))) 33]) [] 6 ?_
  have Eg := En.trans (zS En.heap)
  refine q_s [0] [] 5 ET (Eg.pk [3, 4]) fun _ EU => q_r 1 (s := Instr.loadAt 33 (pt Ea)) (v := .agg (zg (zh (nd (rq 1 (nv a)))))) EU (fun w hS => zV (m := 4) (cs := zh (nd (rq 1 (nv a)))) (zd (zl _ _)) (by kernel_rfl) (by kernel_rfl) (hS.heap.cells (k := 1) (off := 0) (m := 4) rfl (zr (zd (zl _ _))))) (Eg.pk [3, 4]) fun _ EV => q_r 2 (s := Instr.loadAt 33 (pt Ea)) (v := .agg (zg (zh (nd (rq 1 (nv a)))))) EV (fun w hS => zV (m := 4) (cs := zh (nd (rq 1 (nv a)))) (zd (zl _ _)) (by kernel_rfl) (by kernel_rfl) (hS.heap.cells (k := 1) (off := 0) (m := 4) rfl (zr (zd (zl _ _))))) (Eg.pk [3, 4]) fun _ EW => q_r 4 (s := Instr.loadAt 33 (pt Eb)) (v := .agg (zg (zh (nd (zq 1 (nv a) (nv ([1, 0, 0, 0] : List UInt64))))))) EW (fun w hS => zV (m := 4) (cs := zh (nd (zq 1 (nv a) (nv ([1, 0, 0, 0] : List UInt64))))) (zd (zl _ _)) (by kernel_rfl) (by kernel_rfl) (hS.heap.cells (k := 0) (off := 0) (m := 4) rfl (zr (zd (zl _ _))))) (Eg.pk [3, 4]) fun _ EX => q_t 3 ?_
  refine c_p EX Eg (hM1 _ (nd (rq 1 (nv a))) (nd (rq 1 (nv a))) (zl _ _) (zl _ _)) fun _ _ EY Eo => ⟨fun _ => Eo.pk [3, 4], ?_⟩
  refine q_f 5 (s := eqOp .neq 33 (.tmp 50) (.tmp 51) (.agg (zg (zh (nd (zq 1 (nv (nd (rq 1 (nv a)))) (nv (nd (rq 1 (nv a))))))))) (.agg (zg (zh (nd (zq 1 (nv a) (nv ([1, 0, 0, 0] : List UInt64)))))))) (v := .bool (!((nd (zq 1 (nv (nd (rq 1 (nv a)))) (nv (nd (rq 1 (nv a)))))) == (nd (zq 1 (nv a) (nv ([1, 0, 0, 0] : List UInt64))))))) EY (fun _ => JP (a := (.tmp 50)) (b := (.tmp 51)) (e := 31) (m := 4) (by kernel_rfl) (by kernel_rfl) (by kernel_rfl) (by kernel_rfl) (by kernel_rfl) (zl _ _) (zl _ _) _) (fun _ => Eo.pk [3, 4]) fun _ EZ => ?_
  exact h_e ⟨EZ.sb, Eo.pk [0, 1, 2, 3, 4, 5]⟩
 rintro _ _ ⟨Ep, El⟩
 refine ze <| QX (F := fun ac wo => Env ac 82 [(0, .int .i64 1), (3, pt Em), (4, pt Ef), (5, .bool false), (6, pt Ed), (7, pt Eb), (8, pt Ea), (11, pt Ec), (19, .int .i64 1)] ∧ Ev w [] wo [.box Ef (zh (zf 4 0)) 33, .box Eb (zh (nd (zq 1 (nv a) (nv ([1, 0, 0, 0] : List UInt64))))) 33, .box Ea (zh (nd (rs 1 (nv a)))) 33]) ?_ ?_
 ·
  refine cond_at Ep (t := !((nd (zq 1 (nv (nd (rq 1 (nv a)))) (nv (nd (rq 1 (nv a)))))) == (nd (zq 1 (nv a) (nv ([1, 0, 0, 0] : List UInt64)))))) (by kernel_rfl) (fun Eh => ?_) (fun Eh => ?_)
  ·
   replace Eh : ¬ ((nd (zq 1 (nv (nd (rq 1 (nv a)))) (nv (nd (rq 1 (nv a)))))) = (nd (zq 1 (nv a) (nv ([1, 0, 0, 0] : List UInt64))))) := by simpa using Eh
   refine wp_seq <| zk <| f_o <| Zn 2 4 (zh (nd (mF 1))) Ep El rfl (zd (zl _ _)) fun _ E0 => d_k [0,3,4,5,6,7,8,11,19,54,55] [] 2 E0 fun _ E1 => f_o <| c_p E1 El (J1 _ (nd (mF 1)) ([1, 0, 0, 0] : List UInt64) (zl _ _) (show zc ([1, 0, 0, 0] : List UInt64) = 4 from rfl)) fun _ _ E2 E3 => d_k [0,3,4,5,6,7,8,11,19,57] [] 6 E2 fun _ E4 => f_o <| zZ 5 4 (zh (nd (nv (nd (mF 1)) + zY - nv ([1, 0, 0, 0] : List UInt64)))) _ E4 E3 rfl (zd (zl _ _)) (zd (zl _ _)) (zw _) rfl fun _ _ E5 Ey => ?_
   refine f_e <| ze <| r_c (fun ac wo => Env ac 82 [(0, .int .i64 1), (3, pt Em), (4, pt Ef), (5, .bool false), (6, pt Ed), (7, pt Eb), (8, pt Ea), (11, pt Ec), (19, .int .i64 1)] ∧ Ev w [] wo [.box Em (zh a) 33, .box Ef (zh (zf 4 0)) 33, .box Ed (zh (nd (mF 1))) 33, .box Eb (zh (nd (zq 1 (nv a) (nv ([1, 0, 0, 0] : List UInt64))))) 33, .box Ea (zh (nd (zq 1 (nv (nd (rq 1 (nv a)))) (nv (nd (zU 1 (nv ([2, 0, 0, 0] : List UInt64)) (nv (nd (nv (nd (nv (nd (mF 1)) + zY - nv ([1, 0, 0, 0] : List UInt64))) / 4))))))))) 33, .box Ec (zh (nd (nv (nd (mF 1)) + zY - nv ([1, 0, 0, 0] : List UInt64)))) 33]) ?_ ?_
   ·
    refine h_s (fun wv => Ev w [] wv [.box Ea (zh (nd (rq 1 (nv a)))) 33, .box Ec (zh (nd (nv (nd (mF 1)) + zY - nv ([1, 0, 0, 0] : List UInt64)))) 33]) [8] 9 ?_
    have Ei := Ey.trans (zS Ey.heap)
    refine q_s [0] [] 8 E5 (Ei.pk [4, 5]) fun _ E6 => q_r 1 (s := Instr.loadAt 33 (pt Ea)) (v := .agg (zg (zh (nd (rq 1 (nv a)))))) E6 (fun w hS => zV (m := 4) (cs := zh (nd (rq 1 (nv a)))) (zd (zl _ _)) (by kernel_rfl) (by kernel_rfl) (hS.heap.cells (k := 0) (off := 0) (m := 4) rfl (zr (zd (zl _ _))))) (Ei.pk [4, 5]) fun _ E7 => q_s [2,3] [] 5 E7 (Ei.pk [4, 5]) fun _ E8 => q_r 4 (s := Instr.loadAt 33 (pt Ec)) (v := .agg (zg (zh (nd (nv (nd (mF 1)) + zY - nv ([1, 0, 0, 0] : List UInt64)))))) E8 (fun w hS => zV (m := 4) (cs := zh (nd (nv (nd (mF 1)) + zY - nv ([1, 0, 0, 0] : List UInt64)))) (zd (zl _ _)) (by kernel_rfl) (by kernel_rfl) (hS.heap.cells (k := 1) (off := 0) (m := 4) rfl (zr (zd (zl _ _))))) (Ei.pk [4, 5]) fun _ E9 => q_t 5 ?_
    refine c_p E9 Ei (shift2_go _ (nd (nv (nd (mF 1)) + zY - nv ([1, 0, 0, 0] : List UInt64))) (zl _ _)) fun _ _ Ha Ez => ⟨fun _ => Ez.pk [4, 5], ?_⟩
    refine q_t 6 ?_
    refine c_p Ha Ez (exp_go _ 1 h1f hM1 ([2, 0, 0, 0] : List UInt64) (nd (nv (nd (nv (nd (mF 1)) + zY - nv ([1, 0, 0, 0] : List UInt64))) / 4)) (show zc ([2, 0, 0, 0] : List UInt64) = 4 from rfl) (zl _ _)) fun _ _ Hb EA => ⟨fun _ => EA.pk [4, 5], ?_⟩
    refine q_t 7 ?_
    refine c_p Hb EA (hM1 _ (nd (rq 1 (nv a))) (nd (zU 1 (nv ([2, 0, 0, 0] : List UInt64)) (nv (nd (nv (nd (nv (nd (mF 1)) + zY - nv ([1, 0, 0, 0] : List UInt64))) / 4))))) (zl _ _) (zl _ _)) fun _ _ Hc EB => ⟨fun _ => EB.pk [4, 5], ?_⟩
    refine q_t 8 ?_
    refine zZ 4 4 (zh (nd (zq 1 (nv (nd (rq 1 (nv a)))) (nv (nd (zU 1 (nv ([2, 0, 0, 0] : List UInt64)) (nv (nd (nv (nd (nv (nd (mF 1)) + zY - nv ([1, 0, 0, 0] : List UInt64))) / 4))))))))) [.box Em (zh a) 33, .box Ef (zh (zf 4 0)) 33, .box Ed (zh (nd (mF 1))) 33, .box Eb (zh (nd (zq 1 (nv a) (nv ([1, 0, 0, 0] : List UInt64))))) 33, .box Ea (zh (nd (zq 1 (nv (nd (rq 1 (nv a)))) (nv (nd (zU 1 (nv ([2, 0, 0, 0] : List UInt64)) (nv (nd (nv (nd (nv (nd (mF 1)) + zY - nv ([1, 0, 0, 0] : List UInt64))) / 4))))))))) 33, .box Ec (zh (nd (nv (nd (mF 1)) + zY - nv ([1, 0, 0, 0] : List UInt64)))) 33] Hc EB rfl (zd (zl _ _)) (zd (zl _ _)) (zw _) rfl fun _ _ Hd He => ⟨q_y, ?_⟩
    exact h_e ⟨Hd.sb, He.pk [0, 1, 2, 3, 4, 5]⟩
   rintro _ _ ⟨Hf, EC⟩
   rw [show (nd (zq 1 (nv (nd (rq 1 (nv a)))) (nv (nd (zU 1 (nv ([2, 0, 0, 0] : List UInt64)) (nv (nd (nv (nd (nv (nd (mF 1)) + zY - nv ([1, 0, 0, 0] : List UInt64))) / 4)))))))) = (nd (rs 1 (nv a))) from (rs1_b (by assumption) (by decide +kernel))] at EC
   exact ⟨rfl, ⟨Hf.sb, EC.pk [1, 3, 4]⟩⟩
  replace Eh : (nd (zq 1 (nv (nd (rq 1 (nv a)))) (nv (nd (rq 1 (nv a)))))) = (nd (zq 1 (nv a) (nv ([1, 0, 0, 0] : List UInt64)))) := by simpa using Eh
  refine wp_skip ?_
  rw [show (nd (rq 1 (nv a))) = (nd (rs 1 (nv a))) from (rs1_a (by assumption))] at El
  exact ⟨rfl, ⟨Ep.sb, El.pk [1, 3, 4]⟩⟩
 rintro _ _ ⟨Hg, ED⟩
 refine zx <| ze <| wp_seq <| wp_seq <| r_c (fun ac wo => Env ac 82 [(0, .int .i64 1), (3, pt Em), (4, pt Ef), (5, .bool false), (6, pt Ed), (7, pt Eb), (8, pt Ea), (11, pt Ec), (19, .int .i64 1), (72, .bool (!((nd (zq 1 (nv (nd (rs 1 (nv a)))) (nv (nd (rs 1 (nv a)))))) == (nd (zq 1 (nv a) (nv ([1, 0, 0, 0] : List UInt64)))))))] ∧ Ev w [] wo [.box Ef (zh (zf 4 0)) 33, .box Eb (zh (nd (zq 1 (nv a) (nv ([1, 0, 0, 0] : List UInt64))))) 33, .box Ea (zh (nd (rs 1 (nv a)))) 33]) ?_ ?_
 ·
  refine h_s (fun wv => Ev w [] wv [.box Eb (zh (nd (zq 1 (nv a) (nv ([1, 0, 0, 0] : List UInt64))))) 33, .box Ea (zh (nd (rs 1 (nv a)))) 33]) [] 6 ?_
  have Ej := ED.trans (zS ED.heap)
  refine q_s [0] [] 5 Hg (Ej.pk [1, 2]) fun _ Hh => q_r 1 (s := Instr.loadAt 33 (pt Ea)) (v := .agg (zg (zh (nd (rs 1 (nv a)))))) Hh (fun w hS => zV (m := 4) (cs := zh (nd (rs 1 (nv a)))) (zd (zl _ _)) (by kernel_rfl) (by kernel_rfl) (hS.heap.cells (k := 1) (off := 0) (m := 4) rfl (zr (zd (zl _ _))))) (Ej.pk [1, 2]) fun _ Hi => q_r 2 (s := Instr.loadAt 33 (pt Ea)) (v := .agg (zg (zh (nd (rs 1 (nv a)))))) Hi (fun w hS => zV (m := 4) (cs := zh (nd (rs 1 (nv a)))) (zd (zl _ _)) (by kernel_rfl) (by kernel_rfl) (hS.heap.cells (k := 1) (off := 0) (m := 4) rfl (zr (zd (zl _ _))))) (Ej.pk [1, 2]) fun _ Hj => q_r 4 (s := Instr.loadAt 33 (pt Eb)) (v := .agg (zg (zh (nd (zq 1 (nv a) (nv ([1, 0, 0, 0] : List UInt64))))))) Hj (fun w hS => zV (m := 4) (cs := zh (nd (zq 1 (nv a) (nv ([1, 0, 0, 0] : List UInt64))))) (zd (zl _ _)) (by kernel_rfl) (by kernel_rfl) (hS.heap.cells (k := 0) (off := 0) (m := 4) rfl (zr (zd (zl _ _))))) (Ej.pk [1, 2]) fun _ Hk => q_t 3 ?_
  refine c_p Hk Ej (hM1 _ (nd (rs 1 (nv a))) (nd (rs 1 (nv a))) (zl _ _) (zl _ _)) fun _ _ Hl Eq => ⟨fun _ => Eq.pk [1, 2], ?_⟩
  refine q_f 5 (s := eqOp .neq 33 (.tmp 70) (.tmp 71) (.agg (zg (zh (nd (zq 1 (nv (nd (rs 1 (nv a)))) (nv (nd (rs 1 (nv a))))))))) (.agg (zg (zh (nd (zq 1 (nv a) (nv ([1, 0, 0, 0] : List UInt64)))))))) (v := .bool (!((nd (zq 1 (nv (nd (rs 1 (nv a)))) (nv (nd (rs 1 (nv a)))))) == (nd (zq 1 (nv a) (nv ([1, 0, 0, 0] : List UInt64))))))) Hl (fun _ => JP (a := (.tmp 70)) (b := (.tmp 71)) (e := 31) (m := 4) (by kernel_rfl) (by kernel_rfl) (by kernel_rfl) (by kernel_rfl) (by kernel_rfl) (zl _ _) (zl _ _) _) (fun _ => Eq.pk [1, 2]) fun _ Hm => ?_
  exact h_e ⟨Hm.sb, Eq.pk [0, 1, 2]⟩
 rintro _ _ ⟨Er, Ee⟩
 refine ze <| cond_at Er (t := !((nd (zq 1 (nv (nd (rs 1 (nv a)))) (nv (nd (rs 1 (nv a)))))) == (nd (zq 1 (nv a) (nv ([1, 0, 0, 0] : List UInt64)))))) (by kernel_rfl) (fun Ek => ?_) (fun Ek => ?_)
 ·
  replace Ek : ¬ ((nd (zq 1 (nv (nd (rs 1 (nv a)))) (nv (nd (rs 1 (nv a)))))) = (nd (zq 1 (nv a) (nv ([1, 0, 0, 0] : List UInt64))))) := by simpa using Ek
  refine wp_seq <| zk <| d_k [0,3,4,5,6,7,8,11,19,73] [] 1 Er fun _ Hn => f_o <| zZ 0 4 (zh ([0, 0, 0, 0] : List UInt64)) _ Hn Ee rfl (zd (show zc ([0, 0, 0, 0] : List UInt64) = 4 from rfl)) (zd (zi)) (zw _) rfl fun _ _ Ho EE => d_e [0,3,4,5,6,7,8,11,19] [] Ho fun _ Hp => ze <| wp_ret <| Zx <| Z9 (v := .agg (zg (zh ([0, 0, 0, 0] : List UInt64)))) (x := .bool false) (t := 4) (T := 33) (ad := ⟨Ef, 0, none⟩) (u := 5) Hp (by kernel_rfl) (by kernel_rfl) (zF (t := 33) (k := 0) (off := 0) (m := 4) (xs := zh ([0, 0, 0, 0] : List UInt64)) EE rfl (zr (zd (show zc ([0, 0, 0, 0] : List UInt64) = 4 from rfl))) (zd (show zc ([0, 0, 0, 0] : List UInt64) = 4 from rfl)) (by kernel_rfl) (by kernel_rfl)) (by kernel_rfl) ?_
  have eb := (root_no (f := 1) h1f (by assumption)).1
  have e : ([0, 0, 0, 0] : List UInt64) = nd (rootN 1 (nv a)) := root_z (root_no (f := 1) h1f (by assumption))
  rw [eb]
  exact ⟨congrArg (fun l : List UInt64 => Ending.returned (.tuple #[Value.agg (zh l).toArray, .bool false])) e, EE.pk []⟩
 replace Ek : (nd (zq 1 (nv (nd (rs 1 (nv a)))) (nv (nd (rs 1 (nv a)))))) = (nd (zq 1 (nv a) (nv ([1, 0, 0, 0] : List UInt64)))) := by simpa using Ek
 refine wp_skip <| ze <| wp_seq <| wp_seq <| zk <| d_k [0,3,4,5,6,7,8,11,19,74] [] 1 Er fun _ Hq => f_o ?_
 have Hr : 0 < zc (nd (rs 1 (nv a))) := by rw [(zl _ _)]; omega
 refine m_v 2 0 (zn (za (nd (rs 1 (nv a))) 0 0)) Hq Ee rfl (zC Hr) fun _ Hs => d_e [0,3,4,5,6,7,8,11,19,77] [(2, g_i .u64 (Zp (x := za (nd (rs 1 (nv a))) 0 0) (y := (1 : UInt64)) rfl rfl))] Hs fun _ Es => ?_
 refine ze <| c_e ((zA ((za (nd (rs 1 (nv a))) 0 0) &&& (1 : UInt64)) : Nat) : Int) (1 : Int) Es (fun Ht => ?_) (fun Ht => ?_)
 ·
  refine zk <| d_k [0,3,4,5,6,7,8,11,19,78] [] 1 Es fun _ Hu => f_o <| Zn 2 4 (zh (nd (rs 1 (nv a)))) Hu Ee rfl (zd (zl _ _)) fun _ Hv => f_o <| c_p Hv Ee (neg_go _ 1 h1f (nd (rs 1 (nv a))) (zl _ _)) fun _ _ Hw Hx => f_o <| zZ 2 4 (zh (nd (z8 1 0 (nv (nd (rs 1 (nv a))))))) [.box Ef (zh (zf 4 0)) 33, .box Eb (zh (nd (zq 1 (nv a) (nv ([1, 0, 0, 0] : List UInt64))))) 33, .box Ea (zh (nd (z8 1 0 (nv (nd (rs 1 (nv a))))))) 33] Hw Hx rfl (zd (zl _ _)) (zd (zl _ _)) (zw _) rfl fun _ _ Hy EF => f_e <| ze <| wp_seq <| zk <| f_o <| Zn 2 4 (zh (nd (z8 1 0 (nv (nd (rs 1 (nv a))))))) Hy EF rfl (zd (zl _ _)) fun _ Hz => f_o <| zZ 0 4 (zh (nd (z8 1 0 (nv (nd (rs 1 (nv a))))))) _ Hz EF rfl (zd (zl _ _)) (zd (zi)) (zw _) rfl fun _ _ HA EG => ?_
  refine d_e [0,3,4,5,6,7,8,11,19] [] HA fun _ HB => ze <| wp_ret <| Z9 (v := .agg (zg (zh (nd (z8 1 0 (nv (nd (rs 1 (nv a))))))))) (x := .bool true) (t := 4) (T := 33) (ad := ⟨Ef, 0, none⟩) (u := 5) HB (by kernel_rfl) (by kernel_rfl) (zF (t := 33) (k := 0) (off := 0) (m := 4) (xs := zh (nd (z8 1 0 (nv (nd (rs 1 (nv a))))))) EG rfl (zr (zd (zl _ _))) (zd (zl _ _)) (by kernel_rfl) (by kernel_rfl)) (by kernel_rfl) ?_
  have eb := root_yes (f := 1) (A := nv a) (by decide) (by assumption)
  have e : nd (z8 1 0 (nv (nd (rs 1 (nv a))))) = nd (rootN 1 (nv a)) := by first | exact root_odd (by decide) (by assumption) (by assumption) | exact root_even (by decide) (by assumption) (by assumption)
  rw [eb]
  exact ⟨congrArg (fun l : List UInt64 => Ending.returned (.tuple #[Value.agg (zh l).toArray, .bool true])) e, EG.pk []⟩
 refine wp_skip <| ze <| wp_seq <| zk <| f_o <| Zn 2 4 (zh (nd (rs 1 (nv a)))) Es Ee rfl (zd (zl _ _)) fun _ HC => f_o <| zZ 0 4 (zh (nd (rs 1 (nv a)))) [.box Ef (zh (nd (rs 1 (nv a)))) 33, .box Eb (zh (nd (zq 1 (nv a) (nv ([1, 0, 0, 0] : List UInt64))))) 33, .box Ea (zh (nd (rs 1 (nv a)))) 33] HC Ee rfl (zd (zl _ _)) (zd (zi)) (zw _) rfl fun _ _ HD EH => d_e [0,3,4,5,6,7,8,11,19] [] HD fun _ HE => ze <| wp_ret <| Z9 (v := .agg (zg (zh (nd (rs 1 (nv a)))))) (x := .bool true) (t := 4) (T := 33) (ad := ⟨Ef, 0, none⟩) (u := 5) HE (by kernel_rfl) (by kernel_rfl) (zF (t := 33) (k := 0) (off := 0) (m := 4) (xs := zh (nd (rs 1 (nv a)))) EH rfl (zr (zd (zl _ _))) (zd (zl _ _)) (by kernel_rfl) (by kernel_rfl)) (by kernel_rfl) ?_
 have eb := root_yes (f := 1) (A := nv a) (by decide) (by assumption)
 have e : nd (rs 1 (nv a)) = nd (rootN 1 (nv a)) := by first | exact root_odd (by decide) (by assumption) (by assumption) | exact root_even (by decide) (by assumption) (by assumption)
 rw [eb]
 exact ⟨congrArg (fun l : List UInt64 => Ending.returned (.tuple #[Value.agg (zh l).toArray, .bool true])) e, EH.pk []⟩
end Go.Proofs.YtlnogkmnklfjlaaGreatDoor
namespace Go.Dbr
def Pr (p : Nat) : Prop := 1 < p ∧ ∀ d, d ∣ p → d = 1 ∨ d = p
theorem Pr.mul {p a b : Nat} (hp : Pr p) (h : p ∣ a * b) : p ∣ a ∨ p ∣ b := by
  rcases hp.2 _ (Nat.gcd_dvd_left p a) with g | g
  · exact .inr (Nat.Coprime.dvd_of_dvd_mul_left g h)
  · exact .inl (by have := Nat.gcd_dvd_right p a; rwa [g] at this)
def smallB (p : Nat) : Bool := XB 1 p && (List.range p).all fun d => XB d 2 || !Yl (p % d) 0
theorem pr_small {p : Nat} (h : smallB p = true) : Pr p := by
  unfold smallB at h
  simp only [Zd, Ky, Zo, List.mem_range, Bool.or_eq_true, YA] at h
  refine ⟨h.1, fun d hd => ?_⟩
  rcases Qq d p with g | g
  · rcases h.2 d g with x | x
    · rcases YO d with z | z
      · subst z
        have := Nat.eq_zero_of_zero_dvd hd
        omega
      · omega
    · rw [JJ hd] at x
      cases x
  · have := X6 (by omega) hd
    omega
def pw (p : Nat) : Nat → Nat → Nat → Nat
  | 0, _, _ => 1 % p
  | k + 1, g, e => cond (Yl (e % 2) 1) (g * pw p k (g * g % p) (e / 2) % p) (pw p k (g * g % p) (e / 2))
theorem pw_eq {p : Nat} : ∀ (k g e : Nat), e < 2 ^ k → pw p k g e = g ^ e % p
  | 0, g, e, h => by
    have : e = 0 := by simp at h; exact h
    subst this
    rfl
  | k + 1, g, e, h => by
    have ih := pw_eq (p := p) k (g * g % p) (e / 2) (by rw [z9] at h; omega)
    have hs : (g * g % p) ^ (e / 2) % p = g ^ (2 * (e / 2)) % p := by rw [← JC, ← Xp, ← QM]
    unfold pw
    cases hb : Yl (e % 2) 1 with
    | true =>
      have h1 : e % 2 = 1 := Yw hb
      rw [QB, ih, hs, J8, z5, ← z9]
      congr 2
      omega
    | false =>
      have h1 : e % 2 ≠ 1 := JK hb
      rw [QQ, ih, hs]
      congr 2
      omega
theorem pig : ∀ (N : Nat) (f : Nat → Nat), (∀ i, i < N → f i < N) → (∀ i j, i < N → j < N → f i = f j → i = j) → ∀ a, a < N → ∃ i, i < N ∧ f i = a
  | 0, _, _, _, a, h => absurd h (Nat.not_lt_zero a)
  | N + 1, f, hf, hi, a, ha => Classical.byContradiction fun hno => by
    have no : ∀ i, i < N + 1 → f i ≠ a := fun i h e => hno ⟨i, h, e⟩
    obtain ⟨i, hiN, e⟩ := pig N (fun i => if f i = N then a else f i) (fun i h => by
      have h1 := hf i (by omega)
      have h2 := no i (by omega)
      show (if f i = N then a else f i) < N
      split <;> omega) (fun i j h1 h2 e => by
      have n1 := no i (by omega)
      have n2 := no j (by omega)
      refine hi i j (by omega) (by omega) ?_
      split at e <;> split at e <;> omega) (if f N = N then a else f N) (by
      have h1 := hf N (by omega)
      have h2 := no N (by omega)
      split <;> omega)
    have n1 := no i (by omega)
    have n2 := no N (by omega)
    have : i = N := by
      refine hi i N (by omega) (by omega) ?_
      split at e <;> split at e <;> omega
    omega
theorem least {P : Nat → Prop} : ∀ n, P n → ∃ k, P k ∧ ∀ j, j < k → ¬ P j := fun n => by
  induction n using Nat.strongRecOn with
  | _ n ih =>
    intro h
    by_cases e : ∃ j, j < n ∧ P j
    · obtain ⟨j, hj, hp⟩ := e
      exact ih j hj hp
    · exact ⟨n, h, fun j hj hp => e ⟨j, hj, hp⟩⟩
def prodL : List Nat → Nat
  | [] => 1
  | q :: r => q * prodL r
theorem some_q : ∀ (qs : List Nat) (k m : Nat), (∀ q ∈ qs, Pr q) → k * m = prodL qs → m ≠ 1 → ∃ q ∈ qs, q ∣ m
  | [], k, m, _, h, h1 => absurd (Nat.eq_one_of_mul_eq_one_left h) h1
  | q :: r, k, m, hq, h, h1 => by
    have hp := hq q (Yf ..)
    rcases hp.mul (a := m) (b := k) (by rw [z5, h]; exact Kk _ _) with d | ⟨k', rfl⟩
    · exact ⟨q, Yf .., d⟩
    · have h0 : 0 < q := by have := hp.1; omega
      obtain ⟨q', hm, hd⟩ := some_q r k' m (fun x hx => hq x (Q5 _ hx)) (by rw [Zh] at h; exact Nat.eq_of_mul_eq_mul_left h0 h) h1
      exact ⟨q', Q5 _ hm, hd⟩
def Luc (p : Nat) : Prop := Pr p ∧ ∀ a, a % p ≠ 0 → a ^ (p - 1) % p = 1
def certB (p g : Nat) (qs : List Nat) : Bool := XB 1 p && XB p (2 ^ 256) && Yl (prodL qs) (p - 1) && Yl (pw p 256 g (p - 1)) 1 && qs.all fun q => !Yl (pw p 256 g ((p - 1) / q)) 1
theorem allN {P : Nat → Prop} : ∀ q ∈ ([] : List Nat), P q := fun q h => by cases h
theorem allC {P : Nat → Prop} {a : Nat} {l : List Nat} (h : P a) (h2 : ∀ q ∈ l, P q) : ∀ q ∈ a :: l, P q := fun q hq => by
  rcases List.mem_cons.1 hq with rfl | e
  · exact h
  · exact h2 q e
theorem luc {p : Nat} (g : Nat) (qs : List Nat) (hq : ∀ q ∈ qs, Pr q) (h : certB p g qs = true) : Luc p := by
  unfold certB at h
  simp only [Zd, Ky, Nat.beq_eq, Zo, YA] at h
  obtain ⟨⟨⟨⟨p1, pb⟩, hprod⟩, hN⟩, hall⟩ := h
  rw [pw_eq 256 g (p - 1) (by omega)] at hN
  obtain ⟨N, rfl⟩ : ∃ N, p = N + 1 := ⟨p - 1, by omega⟩
  rw [Jx] at *
  have one : 1 % (N + 1) = 1 := zL p1
  obtain ⟨k, ⟨hk0, hk⟩, hmin⟩ := least (P := fun k => 0 < k ∧ g ^ k % (N + 1) = 1) N ⟨by omega, hN⟩
  have powk : ∀ j, (g ^ (k * j)) % (N + 1) = 1 := fun j => by rw [QM, JC, hk, KF, one]
  have hdiv : N % k = 0 := Classical.byContradiction fun hne => by
    refine hmin (N % k) (ZU _ hk0) ⟨by omega, ?_⟩
    have e := Jr N k
    have e2 : g ^ N % (N + 1) = g ^ (k * (N / k) + N % k) % (N + 1) := by rw [e]
    rw [hN, Qn, Qt, powk, XV, Yj] at e2
    exact e2.symm
  have hkm : k * (N / k) = N := by have e := Jr N k; omega
  have hm1 : N / k = 1 := Classical.byContradiction fun hne => by
    obtain ⟨q, hqm, m', hd⟩ := some_q qs k (N / k) hq (by rw [hprod]; exact hkm) hne
    have hp := hq q hqm
    have e : N / q = k * m' := by
      rw [← hkm, hd, YE]
      exact Xz _ (by have := hp.1; omega)
    have hlt : N / q ≤ N := J4 _ _
    have c := hall q hqm
    have := JK c
    rw [pw_eq 256 g _ (by omega), e] at this
    exact this (powk m')
  have hkN : k = N := by rw [hm1] at hkm; omega
  subst hkN
  have nz : ∀ i, i ≤ k → g ^ i % (k + 1) ≠ 0 := fun i hi h0 => by
    have e : g ^ k = g ^ i * g ^ (k - i) := by rw [← Qn]; congr 1; omega
    rw [e, Qt, h0, Qb, QV] at hN
    cases hN
  have inj : ∀ i j, i < j → j < k → g ^ i % (k + 1) ≠ g ^ j % (k + 1) := fun i j hij hj he => by
    refine hmin (j - i) (by omega) ⟨by omega, ?_⟩
    have e1 : g ^ k = g ^ i * g ^ (k - i) := by rw [← Qn]; congr 1; omega
    have e2 : g ^ j * g ^ (k - i) = g ^ (j - i) * g ^ k := by rw [← Qn, ← Qn]; congr 1; omega
    have e3 : g ^ k % (k + 1) = (g ^ (j - i) * g ^ k) % (k + 1) := by rw [← e2]; conv => lhs; rw [e1, Qt, he, ← Qt]
    rw [Qt, hN, ZG, Yj] at e3
    exact e3.symm
  have sur : ∀ a, 0 < a → a < k + 1 → ∃ i, i < k ∧ g ^ i % (k + 1) = a := fun a h0 h1 => by
    obtain ⟨i, hi, e⟩ := pig k (fun i => g ^ i % (k + 1) - 1) (fun i hi => by
      have := nz i (by omega)
      have := ZU (g ^ i) (show 0 < k + 1 by omega)
      show g ^ i % (k + 1) - 1 < k
      omega) (fun i j hi hj e => by
      have n1 := nz i (by omega)
      have n2 := nz j (by omega)
      rcases Nat.lt_trichotomy i j with h | h | h
      · exact absurd (by omega) (inj i j h hj)
      · exact h
      · exact absurd (by omega) (inj j i h hi)) (a - 1) (by omega)
    have n1 := nz i (by omega)
    exact ⟨i, hi, by omega⟩
  refine ⟨⟨p1, fun d hd => ?_⟩, fun a ha => ?_⟩
  · have hle := X6 (by omega) hd
    rcases Qq d (k + 1) with hlt | hge
    · left
      have hd0 : 0 < d := Nat.pos_of_dvd_of_pos hd (by omega)
      obtain ⟨i, hi, e⟩ := sur d hd0 hlt
      have e1 : g ^ k = g ^ i * g ^ (k - i) := by rw [← Qn]; congr 1; omega
      rw [e1, Qt, e] at hN
      have h1 : d ∣ d * (g ^ (k - i) % (k + 1)) % (k + 1) := (Nat.dvd_mod_iff hd).2 (Kk _ _)
      rw [hN] at h1
      exact Nat.eq_one_of_dvd_one h1
    · right; omega
  · obtain ⟨i, hi, e⟩ := sur (a % (k + 1)) (by omega) (ZU _ (by omega))
    rw [Jx, JC, ← e, ← JC, ← QM, z5, QM, JC, hN, KF, one]
theorem pq_2 : Pr 2 := pr_small (by decide +kernel)
theorem pq_3 : Pr 3 := pr_small (by decide +kernel)
theorem pq_5 : Pr 5 := pr_small (by decide +kernel)
theorem pq_7 : Pr 7 := pr_small (by decide +kernel)
theorem pq_11 : Pr 11 := pr_small (by decide +kernel)
theorem pq_13 : Pr 13 := pr_small (by decide +kernel)
theorem pq_17 : Pr 17 := pr_small (by decide +kernel)
theorem pq_19 : Pr 19 := pr_small (by decide +kernel)
theorem pq_23 : Pr 23 := pr_small (by decide +kernel)
theorem pq_29 : Pr 29 := pr_small (by decide +kernel)
theorem pq_31 : Pr 31 := pr_small (by decide +kernel)
theorem pq_37 : Pr 37 := pr_small (by decide +kernel)
theorem pq_41 : Pr 41 := pr_small (by decide +kernel)
theorem pq_43 : Pr 43 := pr_small (by decide +kernel)
theorem pq_47 : Pr 47 := pr_small (by decide +kernel)
theorem pq_53 : Pr 53 := pr_small (by decide +kernel)
theorem pq_59 : Pr 59 := pr_small (by decide +kernel)
theorem pq_67 : Pr 67 := pr_small (by decide +kernel)
theorem pq_71 : Pr 71 := pr_small (by decide +kernel)
theorem pq_73 : Pr 73 := pr_small (by decide +kernel)
theorem pq_79 : Pr 79 := pr_small (by decide +kernel)
theorem pq_83 : Pr 83 := pr_small (by decide +kernel)
theorem pq_97 : Pr 97 := pr_small (by decide +kernel)
theorem lu_239 : Luc 239 := luc 7 [2, 7, 17] (allC pq_2 (allC pq_7 (allC pq_17 allN))) (by decide +kernel)
theorem pq_239 : Pr 239 := lu_239.1
theorem lu_479 : Luc 479 := luc 13 [2, 239] (allC pq_2 (allC pq_239 allN)) (by decide +kernel)
theorem pq_479 : Pr 479 := lu_479.1
theorem lu_32573 : Luc 32573 := luc 2 [2, 2, 17, 479] (allC pq_2 (allC pq_2 (allC pq_17 (allC pq_479 allN)))) (by decide +kernel)
theorem pq_32573 : Pr 32573 := lu_32573.1
theorem lu_65147 : Luc 65147 := luc 2 [2, 32573] (allC pq_2 (allC pq_32573 allN)) (by decide +kernel)
theorem pq_65147 : Pr 65147 := lu_65147.1
theorem lu_353 : Luc 353 := luc 3 [2, 2, 2, 2, 2, 11] (allC pq_2 (allC pq_2 (allC pq_2 (allC pq_2 (allC pq_2 (allC pq_11 allN)))))) (by decide +kernel)
theorem pq_353 : Pr 353 := lu_353.1
theorem lu_487 : Luc 487 := luc 3 [2, 3, 3, 3, 3, 3] (allC pq_2 (allC pq_3 (allC pq_3 (allC pq_3 (allC pq_3 (allC pq_3 allN)))))) (by decide +kernel)
theorem pq_487 : Pr 487 := lu_487.1
theorem lu_57467 : Luc 57467 := luc 2 [2, 59, 487] (allC pq_2 (allC pq_59 (allC pq_487 allN))) (by decide +kernel)
theorem pq_57467 : Pr 57467 := lu_57467.1
theorem lu_131 : Luc 131 := luc 2 [2, 5, 13] (allC pq_2 (allC pq_5 (allC pq_13 allN))) (by decide +kernel)
theorem pq_131 : Pr 131 := lu_131.1
theorem lu_132049 : Luc 132049 := luc 26 [2, 2, 2, 2, 3, 3, 7, 131] (allC pq_2 (allC pq_2 (allC pq_2 (allC pq_2 (allC pq_3 (allC pq_3 (allC pq_7 (allC pq_131 allN)))))))) (by decide +kernel)
theorem pq_132049 : Pr 132049 := lu_132049.1
theorem lu_3727 : Luc 3727 := luc 3 [2, 3, 3, 3, 3, 23] (allC pq_2 (allC pq_3 (allC pq_3 (allC pq_3 (allC pq_3 (allC pq_23 allN)))))) (by decide +kernel)
theorem pq_3727 : Pr 3727 := lu_3727.1
theorem lu_1923133 : Luc 1923133 := luc 2 [2, 2, 3, 43, 3727] (allC pq_2 (allC pq_2 (allC pq_3 (allC pq_43 (allC pq_3727 allN))))) (by decide +kernel)
theorem pq_1923133 : Pr 1923133 := lu_1923133.1
theorem lu_107 : Luc 107 := luc 2 [2, 53] (allC pq_2 (allC pq_53 allN)) (by decide +kernel)
theorem pq_107 : Pr 107 := lu_107.1
theorem lu_223 : Luc 223 := luc 3 [2, 3, 37] (allC pq_2 (allC pq_3 (allC pq_37 allN))) (by decide +kernel)
theorem pq_223 : Pr 223 := lu_223.1
theorem lu_173 : Luc 173 := luc 2 [2, 2, 43] (allC pq_2 (allC pq_2 (allC pq_43 allN))) (by decide +kernel)
theorem pq_173 : Pr 173 := lu_173.1
theorem lu_4153 : Luc 4153 := luc 5 [2, 2, 2, 3, 173] (allC pq_2 (allC pq_2 (allC pq_2 (allC pq_3 (allC pq_173 allN))))) (by decide +kernel)
theorem pq_4153 : Pr 4153 := lu_4153.1
theorem lu_1723 : Luc 1723 := luc 3 [2, 3, 7, 41] (allC pq_2 (allC pq_3 (allC pq_7 (allC pq_41 allN)))) (by decide +kernel)
theorem pq_1723 : Pr 1723 := lu_1723.1
theorem lu_430751 : Luc 430751 := luc 17 [2, 5, 5, 5, 1723] (allC pq_2 (allC pq_5 (allC pq_5 (allC pq_5 (allC pq_1723 allN))))) (by decide +kernel)
theorem pq_430751 : Pr 430751 := lu_430751.1
theorem lu_31757755568855353 : Luc 31757755568855353 := luc 10 [2, 2, 2, 3, 31, 107, 223, 4153, 430751] (allC pq_2 (allC pq_2 (allC pq_2 (allC pq_3 (allC pq_31 (allC pq_107 (allC pq_223 (allC pq_4153 (allC pq_430751 allN))))))))) (by decide +kernel)
theorem pq_31757755568855353 : Pr 31757755568855353 := lu_31757755568855353.1
theorem lu_9463 : Luc 9463 := luc 3 [2, 3, 19, 83] (allC pq_2 (allC pq_3 (allC pq_19 (allC pq_83 allN)))) (by decide +kernel)
theorem pq_9463 : Pr 9463 := lu_9463.1
theorem lu_37853 : Luc 37853 := luc 2 [2, 2, 9463] (allC pq_2 (allC pq_2 (allC pq_9463 allN))) (by decide +kernel)
theorem pq_37853 : Pr 37853 := lu_37853.1
theorem lu_75707 : Luc 75707 := luc 2 [2, 37853] (allC pq_2 (allC pq_37853 allN)) (by decide +kernel)
theorem pq_75707 : Pr 75707 := lu_75707.1
theorem lu_2437 : Luc 2437 := luc 2 [2, 2, 3, 7, 29] (allC pq_2 (allC pq_2 (allC pq_3 (allC pq_7 (allC pq_29 allN))))) (by decide +kernel)
theorem pq_2437 : Pr 2437 := lu_2437.1
theorem lu_419 : Luc 419 := luc 2 [2, 11, 19] (allC pq_2 (allC pq_11 (allC pq_19 allN))) (by decide +kernel)
theorem pq_419 : Pr 419 := lu_419.1
theorem lu_569003 : Luc 569003 := luc 2 [2, 7, 97, 419] (allC pq_2 (allC pq_7 (allC pq_97 (allC pq_419 allN)))) (by decide +kernel)
theorem pq_569003 : Pr 569003 := lu_569003.1
theorem lu_2773320623 : Luc 2773320623 := luc 5 [2, 2437, 569003] (allC pq_2 (allC pq_2437 (allC pq_569003 allN))) (by decide +kernel)
theorem pq_2773320623 : Pr 2773320623 := lu_2773320623.1
theorem lu_72106336199 : Luc 72106336199 := luc 7 [2, 13, 2773320623] (allC pq_2 (allC pq_13 (allC pq_2773320623 allN))) (by decide +kernel)
theorem pq_72106336199 : Pr 72106336199 := lu_72106336199.1
theorem lu_127 : Luc 127 := luc 3 [2, 3, 3, 7] (allC pq_2 (allC pq_3 (allC pq_3 (allC pq_7 allN)))) (by decide +kernel)
theorem pq_127 : Pr 127 := lu_127.1
theorem lu_103 : Luc 103 := luc 5 [2, 3, 17] (allC pq_2 (allC pq_3 (allC pq_17 allN))) (by decide +kernel)
theorem pq_103 : Pr 103 := lu_103.1
theorem lu_991 : Luc 991 := luc 6 [2, 3, 3, 5, 11] (allC pq_2 (allC pq_3 (allC pq_3 (allC pq_5 (allC pq_11 allN))))) (by decide +kernel)
theorem pq_991 : Pr 991 := lu_991.1
theorem lu_8574133 : Luc 8574133 := luc 2 [2, 2, 3, 7, 103, 991] (allC pq_2 (allC pq_2 (allC pq_3 (allC pq_7 (allC pq_103 (allC pq_991 allN)))))) (by decide +kernel)
theorem pq_8574133 : Pr 8574133 := lu_8574133.1
theorem lu_1919519569386763 : Luc 1919519569386763 := luc 2 [2, 3, 7, 19, 47, 47, 127, 8574133] (allC pq_2 (allC pq_3 (allC pq_7 (allC pq_19 (allC pq_47 (allC pq_47 (allC pq_127 (allC pq_8574133 allN)))))))) (by decide +kernel)
theorem pq_1919519569386763 : Pr 1919519569386763 := lu_1919519569386763.1
theorem lu_75445702479781427272750846543864801 : Luc 75445702479781427272750846543864801 := luc 7 [2, 2, 2, 2, 2, 3, 3, 5, 5, 75707, 72106336199, 1919519569386763] (allC pq_2 (allC pq_2 (allC pq_2 (allC pq_2 (allC pq_2 (allC pq_3 (allC pq_3 (allC pq_5 (allC pq_5 (allC pq_75707 (allC pq_72106336199 (allC pq_1919519569386763 allN)))))))))))) (by decide +kernel)
theorem pq_75445702479781427272750846543864801 : Pr 75445702479781427272750846543864801 := lu_75445702479781427272750846543864801.1
theorem lu_74058212732561358302231226437062788676166966415465897661863160754340907 : Luc 74058212732561358302231226437062788676166966415465897661863160754340907 := luc 2 [2, 3, 353, 57467, 132049, 1923133, 31757755568855353, 75445702479781427272750846543864801] (allC pq_2 (allC pq_3 (allC pq_353 (allC pq_57467 (allC pq_132049 (allC pq_1923133 (allC pq_31757755568855353 (allC pq_75445702479781427272750846543864801 allN)))))))) (by decide +kernel)
theorem pq_74058212732561358302231226437062788676166966415465897661863160754340907 : Pr 74058212732561358302231226437062788676166966415465897661863160754340907 := lu_74058212732561358302231226437062788676166966415465897661863160754340907.1
theorem lu_57896044618658097711785492504343953926634992332820282019728792003956564819949 : Luc 57896044618658097711785492504343953926634992332820282019728792003956564819949 := luc 2 [2, 2, 3, 65147, 74058212732561358302231226437062788676166966415465897661863160754340907] (allC pq_2 (allC pq_2 (allC pq_3 (allC pq_65147 (allC pq_74058212732561358302231226437062788676166966415465897661863160754340907 allN))))) (by decide +kernel)
theorem lu_257 : Luc 257 := luc 3 [2, 2, 2, 2, 2, 2, 2, 2] (allC pq_2 (allC pq_2 (allC pq_2 (allC pq_2 (allC pq_2 (allC pq_2 (allC pq_2 (allC pq_2 allN)))))))) (by decide +kernel)
theorem pq_257 : Pr 257 := lu_257.1
theorem lu_641 : Luc 641 := luc 3 [2, 2, 2, 2, 2, 2, 2, 5] (allC pq_2 (allC pq_2 (allC pq_2 (allC pq_2 (allC pq_2 (allC pq_2 (allC pq_2 (allC pq_5 allN)))))))) (by decide +kernel)
theorem pq_641 : Pr 641 := lu_641.1
theorem lu_1531 : Luc 1531 := luc 2 [2, 3, 3, 5, 17] (allC pq_2 (allC pq_3 (allC pq_3 (allC pq_5 (allC pq_17 allN))))) (by decide +kernel)
theorem pq_1531 : Pr 1531 := lu_1531.1
theorem lu_65537 : Luc 65537 := luc 3 [2, 2, 2, 2, 2, 2, 2, 2, 2, 2, 2, 2, 2, 2, 2, 2] (allC pq_2 (allC pq_2 (allC pq_2 (allC pq_2 (allC pq_2 (allC pq_2 (allC pq_2 (allC pq_2 (allC pq_2 (allC pq_2 (allC pq_2 (allC pq_2 (allC pq_2 (allC pq_2 (allC pq_2 (allC pq_2 allN)))))))))))))))) (by decide +kernel)
theorem pq_65537 : Pr 65537 := lu_65537.1
theorem lu_661 : Luc 661 := luc 2 [2, 2, 3, 5, 11] (allC pq_2 (allC pq_2 (allC pq_3 (allC pq_5 (allC pq_11 allN))))) (by decide +kernel)
theorem pq_661 : Pr 661 := lu_661.1
theorem lu_490463 : Luc 490463 := luc 14 [2, 7, 53, 661] (allC pq_2 (allC pq_7 (allC pq_53 (allC pq_661 allN)))) (by decide +kernel)
theorem pq_490463 : Pr 490463 := lu_490463.1
theorem lu_727 : Luc 727 := luc 5 [2, 3, 11, 11] (allC pq_2 (allC pq_3 (allC pq_11 (allC pq_11 allN)))) (by decide +kernel)
theorem pq_727 : Pr 727 := lu_727.1
theorem lu_17449 : Luc 17449 := luc 14 [2, 2, 2, 3, 727] (allC pq_2 (allC pq_2 (allC pq_2 (allC pq_3 (allC pq_727 allN))))) (by decide +kernel)
theorem pq_17449 : Pr 17449 := lu_17449.1
theorem lu_6700417 : Luc 6700417 := luc 5 [2, 2, 2, 2, 2, 2, 2, 3, 17449] (allC pq_2 (allC pq_2 (allC pq_2 (allC pq_2 (allC pq_2 (allC pq_2 (allC pq_2 (allC pq_3 (allC pq_17449 allN))))))))) (by decide +kernel)
theorem pq_6700417 : Pr 6700417 := lu_6700417.1
theorem lu_241 : Luc 241 := luc 7 [2, 2, 2, 2, 3, 5] (allC pq_2 (allC pq_2 (allC pq_2 (allC pq_2 (allC pq_3 (allC pq_5 allN)))))) (by decide +kernel)
theorem pq_241 : Pr 241 := lu_241.1
theorem lu_2411 : Luc 2411 := luc 6 [2, 5, 241] (allC pq_2 (allC pq_5 (allC pq_241 allN))) (by decide +kernel)
theorem pq_2411 : Pr 2411 := lu_2411.1
theorem lu_157 : Luc 157 := luc 5 [2, 2, 3, 13] (allC pq_2 (allC pq_2 (allC pq_3 (allC pq_13 allN)))) (by decide +kernel)
theorem pq_157 : Pr 157 := lu_157.1
theorem lu_3769 : Luc 3769 := luc 7 [2, 2, 2, 3, 157] (allC pq_2 (allC pq_2 (allC pq_2 (allC pq_3 (allC pq_157 allN))))) (by decide +kernel)
theorem pq_3769 : Pr 3769 := lu_3769.1
theorem lu_204061199 : Luc 204061199 := luc 11 [2, 11, 23, 107, 3769] (allC pq_2 (allC pq_11 (allC pq_23 (allC pq_107 (allC pq_3769 allN))))) (by decide +kernel)
theorem pq_204061199 : Pr 204061199 := lu_204061199.1
theorem lu_34282281433 : Luc 34282281433 := luc 17 [2, 2, 2, 3, 7, 204061199] (allC pq_2 (allC pq_2 (allC pq_2 (allC pq_3 (allC pq_7 (allC pq_204061199 allN)))))) (by decide +kernel)
theorem pq_34282281433 : Pr 34282281433 := lu_34282281433.1
theorem lu_197 : Luc 197 := luc 2 [2, 2, 7, 7] (allC pq_2 (allC pq_2 (allC pq_7 (allC pq_7 allN)))) (by decide +kernel)
theorem pq_197 : Pr 197 := lu_197.1
theorem lu_919 : Luc 919 := luc 7 [2, 3, 3, 3, 17] (allC pq_2 (allC pq_3 (allC pq_3 (allC pq_3 (allC pq_17 allN))))) (by decide +kernel)
theorem pq_919 : Pr 919 := lu_919.1
theorem lu_3677 : Luc 3677 := luc 2 [2, 2, 919] (allC pq_2 (allC pq_2 (allC pq_919 allN))) (by decide +kernel)
theorem pq_3677 : Pr 3677 := lu_3677.1
theorem lu_66417393611 : Luc 66417393611 := luc 6 [2, 5, 53, 173, 197, 3677] (allC pq_2 (allC pq_5 (allC pq_53 (allC pq_173 (allC pq_197 (allC pq_3677 allN)))))) (by decide +kernel)
theorem pq_66417393611 : Pr 66417393611 := lu_66417393611.1
theorem lu_11290956913871 : Luc 11290956913871 := luc 13 [2, 5, 17, 66417393611] (allC pq_2 (allC pq_5 (allC pq_17 (allC pq_66417393611 allN)))) (by decide +kernel)
theorem pq_11290956913871 : Pr 11290956913871 := lu_11290956913871.1
theorem lu_757 : Luc 757 := luc 2 [2, 2, 3, 3, 3, 7] (allC pq_2 (allC pq_2 (allC pq_3 (allC pq_3 (allC pq_3 (allC pq_7 allN)))))) (by decide +kernel)
theorem pq_757 : Pr 757 := lu_757.1
theorem lu_18169 : Luc 18169 := luc 11 [2, 2, 2, 3, 757] (allC pq_2 (allC pq_2 (allC pq_2 (allC pq_3 (allC pq_757 allN))))) (by decide +kernel)
theorem pq_18169 : Pr 18169 := lu_18169.1
theorem lu_181 : Luc 181 := luc 2 [2, 2, 3, 3, 5] (allC pq_2 (allC pq_2 (allC pq_3 (allC pq_3 (allC pq_5 allN))))) (by decide +kernel)
theorem pq_181 : Pr 181 := lu_181.1
theorem lu_1087 : Luc 1087 := luc 3 [2, 3, 181] (allC pq_2 (allC pq_3 (allC pq_181 allN))) (by decide +kernel)
theorem pq_1087 : Pr 1087 := lu_1087.1
theorem lu_4349 : Luc 4349 := luc 2 [2, 2, 1087] (allC pq_2 (allC pq_2 (allC pq_1087 allN))) (by decide +kernel)
theorem pq_4349 : Pr 4349 := lu_4349.1
theorem lu_78283 : Luc 78283 := luc 3 [2, 3, 3, 4349] (allC pq_2 (allC pq_3 (allC pq_3 (allC pq_4349 allN)))) (by decide +kernel)
theorem pq_78283 : Pr 78283 := lu_78283.1
theorem lu_313 : Luc 313 := luc 10 [2, 2, 2, 3, 13] (allC pq_2 (allC pq_2 (allC pq_2 (allC pq_3 (allC pq_13 allN))))) (by decide +kernel)
theorem pq_313 : Pr 313 := lu_313.1
theorem lu_704251 : Luc 704251 := luc 2 [2, 3, 3, 5, 5, 5, 313] (allC pq_2 (allC pq_3 (allC pq_3 (allC pq_5 (allC pq_5 (allC pq_5 (allC pq_313 allN))))))) (by decide +kernel)
theorem pq_704251 : Pr 704251 := lu_704251.1
theorem lu_46076956964474543 : Luc 46076956964474543 := luc 5 [2, 23, 18169, 78283, 704251] (allC pq_2 (allC pq_23 (allC pq_18169 (allC pq_78283 (allC pq_704251 allN))))) (by decide +kernel)
theorem pq_46076956964474543 : Pr 46076956964474543 := lu_46076956964474543.1
theorem lu_774023187263532362759620327192479577272145303 : Luc 774023187263532362759620327192479577272145303 := luc 3 [2, 3, 3, 2411, 34282281433, 11290956913871, 46076956964474543] (allC pq_2 (allC pq_3 (allC pq_3 (allC pq_2411 (allC pq_34282281433 (allC pq_11290956913871 (allC pq_46076956964474543 allN))))))) (by decide +kernel)
theorem pq_774023187263532362759620327192479577272145303 : Pr 774023187263532362759620327192479577272145303 := lu_774023187263532362759620327192479577272145303.1
theorem lu_835945042244614951780389953367877943453916927241 : Luc 835945042244614951780389953367877943453916927241 := luc 11 [2, 2, 2, 3, 3, 3, 5, 774023187263532362759620327192479577272145303] (allC pq_2 (allC pq_2 (allC pq_2 (allC pq_3 (allC pq_3 (allC pq_3 (allC pq_5 (allC pq_774023187263532362759620327192479577272145303 allN)))))))) (by decide +kernel)
theorem pq_835945042244614951780389953367877943453916927241 : Pr 835945042244614951780389953367877943453916927241 := lu_835945042244614951780389953367877943453916927241.1
theorem lu_115792089210356248762697446949407573530086143415290314195533631308867097853951 : Luc 115792089210356248762697446949407573530086143415290314195533631308867097853951 := luc 6 [2, 3, 5, 5, 17, 257, 641, 1531, 65537, 490463, 6700417, 835945042244614951780389953367877943453916927241] (allC pq_2 (allC pq_3 (allC pq_5 (allC pq_5 (allC pq_17 (allC pq_257 (allC pq_641 (allC pq_1531 (allC pq_65537 (allC pq_490463 (allC pq_6700417 (allC pq_835945042244614951780389953367877943453916927241 allN)))))))))))) (by decide +kernel)
theorem lu_373 : Luc 373 := luc 2 [2, 2, 3, 31] (allC pq_2 (allC pq_2 (allC pq_3 (allC pq_31 allN)))) (by decide +kernel)
theorem pq_373 : Pr 373 := lu_373.1
theorem lu_3407 : Luc 3407 := luc 5 [2, 13, 131] (allC pq_2 (allC pq_13 (allC pq_131 allN))) (by decide +kernel)
theorem pq_3407 : Pr 3407 := lu_3407.1
theorem lu_9547 : Luc 9547 := luc 2 [2, 3, 37, 43] (allC pq_2 (allC pq_3 (allC pq_37 (allC pq_43 allN)))) (by decide +kernel)
theorem pq_9547 : Pr 9547 := lu_9547.1
theorem lu_38189 : Luc 38189 := luc 2 [2, 2, 9547] (allC pq_2 (allC pq_2 (allC pq_9547 allN))) (by decide +kernel)
theorem pq_38189 : Pr 38189 := lu_38189.1
theorem lu_229 : Luc 229 := luc 6 [2, 2, 3, 19] (allC pq_2 (allC pq_2 (allC pq_3 (allC pq_19 allN)))) (by decide +kernel)
theorem pq_229 : Pr 229 := lu_229.1
theorem lu_1201 : Luc 1201 := luc 11 [2, 2, 2, 2, 3, 5, 5] (allC pq_2 (allC pq_2 (allC pq_2 (allC pq_2 (allC pq_3 (allC pq_5 (allC pq_5 allN))))))) (by decide +kernel)
theorem pq_1201 : Pr 1201 := lu_1201.1
theorem lu_9350987 : Luc 9350987 := luc 2 [2, 17, 229, 1201] (allC pq_2 (allC pq_17 (allC pq_229 (allC pq_1201 allN)))) (by decide +kernel)
theorem pq_9350987 : Pr 9350987 := lu_9350987.1
theorem lu_187019741 : Luc 187019741 := luc 2 [2, 2, 5, 9350987] (allC pq_2 (allC pq_2 (allC pq_5 (allC pq_9350987 allN)))) (by decide +kernel)
theorem pq_187019741 : Pr 187019741 := lu_187019741.1
theorem lu_311 : Luc 311 := luc 17 [2, 5, 31] (allC pq_2 (allC pq_5 (allC pq_31 allN))) (by decide +kernel)
theorem pq_311 : Pr 311 := lu_311.1
theorem lu_311245691 : Luc 311245691 := luc 2 [2, 5, 7, 17, 29, 29, 311] (allC pq_2 (allC pq_5 (allC pq_7 (allC pq_17 (allC pq_29 (allC pq_29 (allC pq_311 allN))))))) (by decide +kernel)
theorem pq_311245691 : Pr 311245691 := lu_311245691.1
theorem lu_622491383 : Luc 622491383 := luc 5 [2, 311245691] (allC pq_2 (allC pq_311245691 allN)) (by decide +kernel)
theorem pq_622491383 : Pr 622491383 := lu_622491383.1
theorem lu_263 : Luc 263 := luc 5 [2, 131] (allC pq_2 (allC pq_131 allN)) (by decide +kernel)
theorem pq_263 : Pr 263 := lu_263.1
theorem lu_126241 : Luc 126241 := luc 7 [2, 2, 2, 2, 2, 3, 5, 263] (allC pq_2 (allC pq_2 (allC pq_2 (allC pq_2 (allC pq_2 (allC pq_3 (allC pq_5 (allC pq_263 allN)))))))) (by decide +kernel)
theorem pq_126241 : Pr 126241 := lu_126241.1
theorem lu_337 : Luc 337 := luc 10 [2, 2, 2, 2, 3, 7] (allC pq_2 (allC pq_2 (allC pq_2 (allC pq_2 (allC pq_3 (allC pq_7 allN)))))) (by decide +kernel)
theorem pq_337 : Pr 337 := lu_337.1
theorem lu_104471 : Luc 104471 := luc 11 [2, 5, 31, 337] (allC pq_2 (allC pq_5 (allC pq_31 (allC pq_337 allN)))) (by decide +kernel)
theorem pq_104471 : Pr 104471 := lu_104471.1
theorem lu_3969899 : Luc 3969899 := luc 2 [2, 19, 104471] (allC pq_2 (allC pq_19 (allC pq_104471 allN))) (by decide +kernel)
theorem pq_3969899 : Pr 3969899 := lu_3969899.1
theorem lu_1002328039319 : Luc 1002328039319 := luc 19 [2, 126241, 3969899] (allC pq_2 (allC pq_126241 (allC pq_3969899 allN))) (by decide +kernel)
theorem pq_1002328039319 : Pr 1002328039319 := lu_1002328039319.1
theorem lu_1297 : Luc 1297 := luc 10 [2, 2, 2, 2, 3, 3, 3, 3] (allC pq_2 (allC pq_2 (allC pq_2 (allC pq_2 (allC pq_3 (allC pq_3 (allC pq_3 (allC pq_3 allN)))))))) (by decide +kernel)
theorem pq_1297 : Pr 1297 := lu_1297.1
theorem lu_16879 : Luc 16879 := luc 3 [2, 3, 29, 97] (allC pq_2 (allC pq_3 (allC pq_29 (allC pq_97 allN)))) (by decide +kernel)
theorem pq_16879 : Pr 16879 := lu_16879.1
theorem lu_151 : Luc 151 := luc 6 [2, 3, 5, 5] (allC pq_2 (allC pq_3 (allC pq_5 (allC pq_5 allN)))) (by decide +kernel)
theorem pq_151 : Pr 151 := lu_151.1
theorem lu_1511 : Luc 1511 := luc 11 [2, 5, 151] (allC pq_2 (allC pq_5 (allC pq_151 allN))) (by decide +kernel)
theorem pq_1511 : Pr 1511 := lu_1511.1
theorem lu_3023 : Luc 3023 := luc 5 [2, 1511] (allC pq_2 (allC pq_1511 allN)) (by decide +kernel)
theorem pq_3023 : Pr 3023 := lu_3023.1
theorem lu_155317 : Luc 155317 := luc 5 [2, 2, 3, 7, 43, 43] (allC pq_2 (allC pq_2 (allC pq_3 (allC pq_7 (allC pq_43 (allC pq_43 allN)))))) (by decide +kernel)
theorem pq_155317 : Pr 155317 := lu_155317.1
theorem lu_191039911 : Luc 191039911 := luc 3 [2, 3, 5, 41, 155317] (allC pq_2 (allC pq_3 (allC pq_5 (allC pq_41 (allC pq_155317 allN))))) (by decide +kernel)
theorem pq_191039911 : Pr 191039911 := lu_191039911.1
theorem lu_208150935158385979 : Luc 208150935158385979 := luc 2 [2, 3, 11, 43, 127, 3023, 191039911] (allC pq_2 (allC pq_3 (allC pq_11 (allC pq_43 (allC pq_127 (allC pq_3023 (allC pq_191039911 allN))))))) (by decide +kernel)
theorem pq_208150935158385979 : Pr 208150935158385979 := lu_208150935158385979.1
theorem lu_2624747550333869278416773953 : Luc 2624747550333869278416773953 := luc 7 [2, 2, 2, 2, 2, 2, 3, 3, 1297, 16879, 208150935158385979] (allC pq_2 (allC pq_2 (allC pq_2 (allC pq_2 (allC pq_2 (allC pq_2 (allC pq_3 (allC pq_3 (allC pq_1297 (allC pq_16879 (allC pq_208150935158385979 allN))))))))))) (by decide +kernel)
theorem pq_2624747550333869278416773953 : Pr 2624747550333869278416773953 := lu_2624747550333869278416773953.1
theorem lu_115792089210356248762697446949407573529996955224135760342422259061068512044369 : Luc 115792089210356248762697446949407573529996955224135760342422259061068512044369 := luc 7 [2, 2, 2, 2, 3, 71, 131, 373, 3407, 17449, 38189, 187019741, 622491383, 1002328039319, 2624747550333869278416773953] (allC pq_2 (allC pq_2 (allC pq_2 (allC pq_2 (allC pq_3 (allC pq_71 (allC pq_131 (allC pq_373 (allC pq_3407 (allC pq_17449 (allC pq_38189 (allC pq_187019741 (allC pq_622491383 (allC pq_1002328039319 (allC pq_2624747550333869278416773953 allN))))))))))))))) (by decide +kernel)
theorem lu_34123 : Luc 34123 := luc 2 [2, 3, 11, 11, 47] (allC pq_2 (allC pq_3 (allC pq_11 (allC pq_11 (allC pq_47 allN))))) (by decide +kernel)
theorem pq_34123 : Pr 34123 := lu_34123.1
theorem lu_409477 : Luc 409477 := luc 2 [2, 2, 3, 34123] (allC pq_2 (allC pq_2 (allC pq_3 (allC pq_34123 allN)))) (by decide +kernel)
theorem pq_409477 : Pr 409477 := lu_409477.1
theorem lu_14741173 : Luc 14741173 := luc 2 [2, 2, 3, 3, 409477] (allC pq_2 (allC pq_2 (allC pq_3 (allC pq_3 (allC pq_409477 allN))))) (by decide +kernel)
theorem pq_14741173 : Pr 14741173 := lu_14741173.1
theorem lu_58964693 : Luc 58964693 := luc 2 [2, 2, 14741173] (allC pq_2 (allC pq_2 (allC pq_14741173 allN))) (by decide +kernel)
theorem pq_58964693 : Pr 58964693 := lu_58964693.1
theorem lu_30703 : Luc 30703 := luc 3 [2, 3, 7, 17, 43] (allC pq_2 (allC pq_3 (allC pq_7 (allC pq_17 (allC pq_43 allN))))) (by decide +kernel)
theorem pq_30703 : Pr 30703 := lu_30703.1
theorem lu_41081 : Luc 41081 := luc 3 [2, 2, 2, 5, 13, 79] (allC pq_2 (allC pq_2 (allC pq_2 (allC pq_5 (allC pq_13 (allC pq_79 allN)))))) (by decide +kernel)
theorem pq_41081 : Pr 41081 := lu_41081.1
theorem lu_82163 : Luc 82163 := luc 2 [2, 41081] (allC pq_2 (allC pq_41081 allN)) (by decide +kernel)
theorem pq_82163 : Pr 82163 := lu_82163.1
theorem lu_22111 : Luc 22111 := luc 6 [2, 3, 5, 11, 67] (allC pq_2 (allC pq_3 (allC pq_5 (allC pq_11 (allC pq_67 allN))))) (by decide +kernel)
theorem pq_22111 : Pr 22111 := lu_22111.1
theorem lu_132667 : Luc 132667 := luc 5 [2, 3, 22111] (allC pq_2 (allC pq_3 (allC pq_22111 allN))) (by decide +kernel)
theorem pq_132667 : Pr 132667 := lu_132667.1
theorem lu_17231 : Luc 17231 := luc 13 [2, 5, 1723] (allC pq_2 (allC pq_5 (allC pq_1723 allN))) (by decide +kernel)
theorem pq_17231 : Pr 17231 := lu_17231.1
theorem lu_137849 : Luc 137849 := luc 3 [2, 2, 2, 17231] (allC pq_2 (allC pq_2 (allC pq_2 (allC pq_17231 allN)))) (by decide +kernel)
theorem pq_137849 : Pr 137849 := lu_137849.1
theorem lu_3044861653679985063343 : Luc 3044861653679985063343 := luc 5 [2, 3, 11, 30703, 82163, 132667, 137849] (allC pq_2 (allC pq_3 (allC pq_11 (allC pq_30703 (allC pq_82163 (allC pq_132667 (allC pq_137849 allN))))))) (by decide +kernel)
theorem pq_3044861653679985063343 : Pr 3044861653679985063343 := lu_3044861653679985063343.1
theorem lu_198211423230930754013084525763697 : Luc 198211423230930754013084525763697 := luc 5 [2, 2, 2, 2, 3, 23, 58964693, 3044861653679985063343] (allC pq_2 (allC pq_2 (allC pq_2 (allC pq_2 (allC pq_3 (allC pq_23 (allC pq_58964693 (allC pq_3044861653679985063343 allN)))))))) (by decide +kernel)
theorem pq_198211423230930754013084525763697 : Pr 198211423230930754013084525763697 := lu_198211423230930754013084525763697.1
theorem lu_269 : Luc 269 := luc 2 [2, 2, 67] (allC pq_2 (allC pq_2 (allC pq_67 allN))) (by decide +kernel)
theorem pq_269 : Pr 269 := lu_269.1
theorem lu_307 : Luc 307 := luc 5 [2, 3, 3, 17] (allC pq_2 (allC pq_3 (allC pq_3 (allC pq_17 allN)))) (by decide +kernel)
theorem pq_307 : Pr 307 := lu_307.1
theorem lu_113 : Luc 113 := luc 3 [2, 2, 2, 2, 7] (allC pq_2 (allC pq_2 (allC pq_2 (allC pq_2 (allC pq_7 allN))))) (by decide +kernel)
theorem pq_113 : Pr 113 := lu_113.1
theorem lu_2939 : Luc 2939 := luc 2 [2, 13, 113] (allC pq_2 (allC pq_13 (allC pq_113 allN))) (by decide +kernel)
theorem pq_2939 : Pr 2939 := lu_2939.1
theorem lu_5879 : Luc 5879 := luc 11 [2, 2939] (allC pq_2 (allC pq_2939 allN)) (by decide +kernel)
theorem pq_5879 : Pr 5879 := lu_5879.1
theorem lu_292386187 : Luc 292386187 := luc 2 [2, 3, 3, 3, 3, 307, 5879] (allC pq_2 (allC pq_3 (allC pq_3 (allC pq_3 (allC pq_3 (allC pq_307 (allC pq_5879 allN))))))) (by decide +kernel)
theorem pq_292386187 : Pr 292386187 := lu_292386187.1
theorem lu_213441916511 : Luc 213441916511 := luc 13 [2, 5, 73, 292386187] (allC pq_2 (allC pq_5 (allC pq_73 (allC pq_292386187 allN)))) (by decide +kernel)
theorem pq_213441916511 : Pr 213441916511 := lu_213441916511.1
theorem lu_1361 : Luc 1361 := luc 3 [2, 2, 2, 2, 5, 17] (allC pq_2 (allC pq_2 (allC pq_2 (allC pq_2 (allC pq_5 (allC pq_17 allN)))))) (by decide +kernel)
theorem pq_1361 : Pr 1361 := lu_1361.1
theorem lu_2851 : Luc 2851 := luc 2 [2, 3, 5, 5, 19] (allC pq_2 (allC pq_3 (allC pq_5 (allC pq_5 (allC pq_19 allN))))) (by decide +kernel)
theorem pq_2851 : Pr 2851 := lu_2851.1
theorem lu_3797 : Luc 3797 := luc 2 [2, 2, 13, 73] (allC pq_2 (allC pq_2 (allC pq_13 (allC pq_73 allN)))) (by decide +kernel)
theorem pq_3797 : Pr 3797 := lu_3797.1
theorem lu_531581 : Luc 531581 := luc 2 [2, 2, 5, 7, 3797] (allC pq_2 (allC pq_2 (allC pq_5 (allC pq_7 (allC pq_3797 allN))))) (by decide +kernel)
theorem pq_531581 : Pr 531581 := lu_531581.1
theorem lu_2551 : Luc 2551 := luc 6 [2, 3, 5, 5, 17] (allC pq_2 (allC pq_3 (allC pq_5 (allC pq_5 (allC pq_17 allN))))) (by decide +kernel)
theorem pq_2551 : Pr 2551 := lu_2551.1
theorem lu_1224481 : Luc 1224481 := luc 13 [2, 2, 2, 2, 2, 3, 5, 2551] (allC pq_2 (allC pq_2 (allC pq_2 (allC pq_2 (allC pq_2 (allC pq_3 (allC pq_5 (allC pq_2551 allN)))))))) (by decide +kernel)
theorem pq_1224481 : Pr 1224481 := lu_1224481.1
theorem lu_1257559732178653 : Luc 1257559732178653 := luc 2 [2, 2, 3, 7, 23, 531581, 1224481] (allC pq_2 (allC pq_2 (allC pq_3 (allC pq_7 (allC pq_23 (allC pq_531581 (allC pq_1224481 allN))))))) (by decide +kernel)
theorem pq_1257559732178653 : Pr 1257559732178653 := lu_1257559732178653.1
theorem lu_4434155615661930479 : Luc 4434155615661930479 := luc 17 [2, 41, 43, 1257559732178653] (allC pq_2 (allC pq_41 (allC pq_43 (allC pq_1257559732178653 allN)))) (by decide +kernel)
theorem pq_4434155615661930479 : Pr 4434155615661930479 := lu_4434155615661930479.1
theorem lu_172054593956031949258510691 : Luc 172054593956031949258510691 := luc 2 [2, 5, 1361, 2851, 4434155615661930479] (allC pq_2 (allC pq_5 (allC pq_1361 (allC pq_2851 (allC pq_4434155615661930479 allN))))) (by decide +kernel)
theorem pq_172054593956031949258510691 : Pr 172054593956031949258510691 := lu_172054593956031949258510691.1
theorem lu_19757330305831588566944191468367130476339 : Luc 19757330305831588566944191468367130476339 := luc 2 [2, 269, 213441916511, 172054593956031949258510691] (allC pq_2 (allC pq_269 (allC pq_213441916511 (allC pq_172054593956031949258510691 allN)))) (by decide +kernel)
theorem pq_19757330305831588566944191468367130476339 : Pr 19757330305831588566944191468367130476339 := lu_19757330305831588566944191468367130476339.1
theorem lu_276602624281642239937218680557139826668747 : Luc 276602624281642239937218680557139826668747 := luc 2 [2, 7, 19757330305831588566944191468367130476339] (allC pq_2 (allC pq_7 (allC pq_19757330305831588566944191468367130476339 allN))) (by decide +kernel)
theorem pq_276602624281642239937218680557139826668747 : Pr 276602624281642239937218680557139826668747 := lu_276602624281642239937218680557139826668747.1
theorem lu_7237005577332262213973186563042994240857116359379907606001950938285454250989 : Luc 7237005577332262213973186563042994240857116359379907606001950938285454250989 := luc 2 [2, 2, 3, 11, 198211423230930754013084525763697, 276602624281642239937218680557139826668747] (allC pq_2 (allC pq_2 (allC pq_3 (allC pq_11 (allC pq_198211423230930754013084525763697 (allC pq_276602624281642239937218680557139826668747 allN)))))) (by decide +kernel)
end Go.Dbr
namespace Go.Proofs.YtlnogkmnklfjlaaGreatDoor
open Go.Dbr
theorem lucF {f : Int} (hf : f = 1 ∨ f = 2 ∨ f = 3 ∨ f = 4) : Luc (mF f) := by
  rcases hf with rfl | rfl | rfl | rfl
  · exact lu_57896044618658097711785492504343953926634992332820282019728792003956564819949
  · exact lu_115792089210356248762697446949407573530086143415290314195533631308867097853951
  · exact lu_115792089210356248762697446949407573529996955224135760342422259061068512044369
  · exact lu_7237005577332262213973186563042994240857116359379907606001950938285454250989
theorem mpos {f : Int} (hf : f = 1 ∨ f = 2 ∨ f = 3 ∨ f = 4) : 0 < mF f := Zu Nat.zero_lt_one (mF_pos hf)
theorem mulM_ltM {f : Int} (hf : f = 1 ∨ f = 2 ∨ f = 3 ∨ f = 4) (x y : Nat) : zq f x y < mF f := ZU _ (mpos hf)
theorem powM_ltM {f : Int} (hf : f = 1 ∨ f = 2 ∨ f = 3 ∨ f = 4) (x y : Nat) : zU f x y < mF f := ZU _ (mpos hf)
theorem mulM_comm (f : Int) (x y : Nat) : zq f x y = zq f y x := by rw [zq, zq, z5]
theorem mulM_assoc (f : Int) (x y z : Nat) : zq f (zq f x y) z = zq f x (zq f y z) := by
  simp only [zq, YV, J8, Zh]
theorem mulM_one (f : Int) (x : Nat) : zq f x 1 = x % mF f := by rw [zq, ZG]
theorem fermat {f : Int} (hf : f = 1 ∨ f = 2 ∨ f = 3 ∨ f = 4) {x : Nat} (h : x % mF f ≠ 0) : zU f x (mF f - 1) = 1 := (lucF hf).2 x h
theorem pow_0 {f : Int} {x n : Nat} (h : x % mF f = 0) (hn : n ≠ 0) : zU f x n = 0 := by
  obtain ⟨k, rfl⟩ : ∃ k, n = k + 1 := ⟨n - 1, by omega⟩
  rw [zU, z9, Qt, h, Qc, QV]
theorem mul_0 {f : Int} {x y : Nat} (h : x % mF f = 0) : zq f x y = 0 := by rw [zq, Qt, h, Qb, QV]
theorem powM_lsucc (f : Int) (x n : Nat) : zq f x (zU f x n) = zU f x (n + 1) := by rw [mulM_comm, powM_succ]
theorem inv_yes {f : Int} (hf : f = 1 ∨ f = 2 ∨ f = 3 ∨ f = 4) {x : Nat} (h : x % mF f ≠ 0) : zq f x (zU f x (mF f - 2)) = 1 := by
  have h1 := mF_pos hf
  rw [powM_lsucc, show mF f - 2 + 1 = mF f - 1 by omega, fermat hf h]
theorem powM_pw {f : Int} (x : Nat) {n : Nat} (h : n < 2 ^ 256) : zU f x n = pw (mF f) 256 x n := (pw_eq 256 x n h).symm
theorem powM_sq (f : Int) (x n : Nat) : zU f (zq f x x) n = zU f x (2 * n) := by
  rw [zU, zq, ← JC, ← Xp, ← QM, zU]
theorem pow_M1 {f : Int} (hf : f = 1 ∨ f = 2 ∨ f = 3 ∨ f = 4) (x : Nat) : zU f x (mF f + 1) = zq f x x := by
  have h1 := mF_pos hf
  by_cases h : x % mF f = 0
  · rw [pow_0 h (by omega), mul_0 h]
  · have e : zU f x (mF f + 1) = zq f (zU f x (mF f - 1)) (zU f x 2) := by rw [Jn]; congr 1; omega
    rw [e, fermat hf h, zq, XV, zU, Yj, Xp, zq]
theorem mod_M (f : Int) (x y : Nat) : zq f x y % mF f = zq f x y := Yj _ _
theorem sq_two (x : Nat) : zq 2 (rs 2 (zq 2 x x)) (rs 2 (zq 2 x x)) = zq 2 x x := by
  rw [rs, if_pos (.inl rfl), rq, if_pos rfl, Jn, powM_sq, show 2 * ((mF 2 + 1) / 4 + (mF 2 + 1) / 4) = mF 2 + 1 by decide +kernel, pow_M1 h2f]
theorem ri_sq : zq 1 ri ri = mF 1 - 1 := by
  rw [ri, Jn, powM_pw 2 (by decide +kernel)]
  decide +kernel
theorem pr_mod {p a b : Nat} (hp : Pr p) (h : a * b % p = 0) : a % p = 0 ∨ b % p = 0 := by
  rcases hp.mul (JL h) with g | g
  · exact .inl (JJ g)
  · exact .inr (JJ g)
theorem sq_one {u M : Nat} (hp : Pr M) (hu : u < M) (h : u * u % M = 1) : u = 1 ∨ u = M - 1 := by
  have hM := hp.1
  have hu0 : u ≠ 0 := fun e => by subst e; rw [Qc, QV] at h; cases h
  have e : (u + 1) * (u - 1) % M = 0 := by
    have e1 : (u + 1) * (u - 1) + 1 = u * u := by
      obtain ⟨k, rfl⟩ : ∃ k, u = k + 1 := ⟨u - 1, by omega⟩
      rw [Jx, Zt, QG]
      omega
    have e2 := Jr (u * u) M
    rw [h] at e2
    have : (u + 1) * (u - 1) = M * (u * u / M) := by omega
    rw [this, Nat.mul_mod_right]
  rcases pr_mod hp e with g | g
  · right
    rcases Qq (u + 1) M with q | q
    · rw [zL q] at g; omega
    · omega
  · left
    rw [zL (by omega)] at g
    omega
theorem mul4 (f : Int) (a b : Nat) : zq f (zq f a b) (zq f a b) = zq f (zq f a a) (zq f b b) := by
  simp only [zq, YV, J8]
  rw [Nat.mul_mul_mul_comm]
theorem sq_onef (x : Nat) : zq 1 (rs 1 (zq 1 x x)) (rs 1 (zq 1 x x)) = zq 1 x x := by
  rw [rs]
  by_cases c : zq 1 (rq 1 (zq 1 x x)) (rq 1 (zq 1 x x)) = zq 1 (zq 1 x x) 1
  · rw [if_pos (.inr c), c, mulM_one, mod_M]
  · rw [if_neg (fun q => q.elim (by decide) c)]
    have hr : zq 1 (rq 1 (zq 1 x x)) (rq 1 (zq 1 x x)) = zq 1 (zU 1 x ((mF 1 - 1) / 2)) (zq 1 x x) := by
      have e2 : zq 1 x x = zU 1 x 2 := by rw [zU, Xp, zq]
      rw [rq, if_neg (by decide), Jn, powM_sq, e2, Jn]
      congr 1
    have hx : x % mF 1 ≠ 0 := fun h => c (by rw [hr, mulM_one, mod_M, mul_0 h, zq, Qc, QV])
    have hu : zq 1 (zU 1 x ((mF 1 - 1) / 2)) (zU 1 x ((mF 1 - 1) / 2)) = 1 := by
      rw [Jn, show (mF 1 - 1) / 2 + (mF 1 - 1) / 2 = mF 1 - 1 by decide +kernel, fermat h1f hx]
    rcases sq_one (lucF h1f).1 (powM_ltM h1f _ _) hu with g | g
    · exact absurd (by rw [hr, g, mulM_one, mod_M, zq, XV, mod_M]) c
    · rw [mul4, hr, g, ri_sq, mulM_comm 1 (mF 1 - 1) (zq 1 x x), mulM_assoc, show zq 1 (mF 1 - 1) (mF 1 - 1) = 1 by decide +kernel, mulM_one, mod_M]
theorem neg_sq {f : Int} {r : Nat} (hr : r < mF f) (h0 : r ≠ 0) : z8 f 0 r = mF f - r ∧ zq f (mF f - r) (mF f - r) = zq f r r := by
  have e : z8 f 0 r = mF f - r := by rw [z8, QV, QU, zL hr, zL (by omega)]
  refine ⟨e, ?_⟩
  rw [zq, zq]
  obtain ⟨s, hs⟩ : ∃ s, mF f - r = s := ⟨_, rfl⟩
  rw [hs]
  have e2 : s * s + mF f * r = r * r + mF f * s := by
    rw [show mF f = s + r by omega, Zt, Zt]
    have := z5 s r
    omega
  have e3 := congrArg (· % mF f) e2
  simp only [Yc] at e3
  exact e3
theorem odd_M {f : Int} (hf : f = 1 ∨ f = 2 ∨ f = 3 ∨ f = 4) : mF f % 2 = 1 := by rcases hf with rfl | rfl | rfl | rfl <;> rfl
theorem rs_ltM {f : Int} (hf : f = 1 ∨ f = 2 ∨ f = 3 ∨ f = 4) (A : Nat) : rs f A < mF f := by
  unfold rs
  split
  · exact powM_ltM hf _ _
  · exact mulM_ltM hf _ _
theorem sq_law {f : Int} (h12 : f = 1 ∨ f = 2) (x : Nat) : rootOk f (zq f x x) = true ∧ zq f (rootN f (zq f x x)) (rootN f (zq f x x)) = zq f x x ∧ rootN f (zq f x x) % 2 = 0 := by
  have hs : zq f (rs f (zq f x x)) (rs f (zq f x x)) = zq f x x := by
    rcases h12 with rfl | rfl
    · exact sq_onef x
    · exact sq_two x
  have ok : rootOk f (zq f x x) = true := decide_eq_true ⟨h12, by rw [hs, mulM_one, mod_M]⟩
  have hl := rs_ltM (f := f) (by omega) (zq f x x)
  have ho := odd_M (f := f) (by omega)
  refine ⟨ok, ?_⟩
  rw [rootN, if_pos ok]
  split
  · have hn := neg_sq hl (by omega)
    rw [hn.1, hn.2, hs]
    exact ⟨rfl, by omega⟩
  · exact ⟨hs, by omega⟩
end Go.Proofs.YtlnogkmnklfjlaaGreatDoor
namespace Go.Wei
open Go.Dbr
section
variable {p : Nat} [NeZero p]
structure Fld (p : Nat) [NeZero p] : Prop where
  nz : ∀ x y : Fin p, x * y = 0 → x = 0 ∨ y = 0
  two : ∀ x : Fin p, x + x = 0 → x = 0
  iv : ∀ x : Fin p, x ≠ 0 → ∃ y, x * y = 1
theorem Fld.cancel {F : Fld p} {k x y : Fin p} (hk : k ≠ 0) (h : k * (x - y) = 0) : x = y := by
  rcases F.nz _ _ h with g | g
  · exact absurd g hk
  · grind -lia
end
theorem fin_mul {p : Nat} (x y : Fin p) : (x * y).val = x.val * y.val % p := rfl
theorem fin_add {p : Nat} (x y : Fin p) : (x + y).val = (x.val + y.val) % p := rfl
section
variable {p : Nat} [NeZero p]
theorem fin_zero : (0 : Fin p).val = 0 := by show 0 % p = 0; exact QV _
theorem fld_of (h : Luc p) (h2 : p ≠ 2) : Fld p := by
  have hp := h.1.1
  refine ⟨fun x y e => ?_, fun x e => ?_, fun x hx => ?_⟩
  · have e1 : x.val * y.val % p = 0 := (congrArg Fin.val e).trans fin_zero
    rcases h.1.mul (JL e1) with g | g
    · left
      apply Fin.ext
      rw [fin_zero]
      exact Jo g x.isLt
    · right
      apply Fin.ext
      rw [fin_zero]
      exact Jo g y.isLt
  · have e1 : (x.val + x.val) % p = 0 := (congrArg Fin.val e).trans fin_zero
    have e2 : p ∣ 2 * x.val := by rw [Kr]; exact JL e1
    rcases h.1.mul e2 with g | g
    · have := X6 (by decide) g
      omega
    · apply Fin.ext
      rw [fin_zero]
      exact Jo g x.isLt
  · have hv : x.val % p ≠ 0 := by
      rw [zL x.isLt]
      intro g
      exact hx (Fin.ext (g.trans fin_zero.symm))
    refine ⟨⟨x.val ^ (p - 2) % p, ZU _ (by omega)⟩, ?_⟩
    apply Fin.ext
    show x.val * (x.val ^ (p - 2) % p) % p = 1 % p
    rw [J8, z5, ← z9, show (p - 2).succ = p - 1 by omega, h.2 _ hv, zL hp]
def fn (p : Nat) [NeZero p] (x : Nat) : Fin p := Fin.ofNat p x
theorem fn_val (x : Nat) : (fn p x).val = x % p := rfl
theorem fn_mod (x : Nat) : fn p (x % p) = fn p x := Fin.ext (by rw [fn_val, fn_val, Yj])
theorem fn_of (x : Fin p) : fn p x.val = x := Fin.ext (by rw [fn_val, zL x.isLt])
theorem fn_inj {x y : Nat} (hx : x < p) (hy : y < p) (h : fn p x = fn p y) : x = y := by
  have := congrArg Fin.val h
  rwa [fn_val, fn_val, zL hx, zL hy] at this
theorem fn_mul (x y : Nat) : fn p (x * y % p) = fn p x * fn p y := Fin.ext (by rw [fn_val, fin_mul, fn_val, fn_val, Yj, Qt])
theorem fn_add (x y : Nat) : fn p ((x + y) % p) = fn p x + fn p y := Fin.ext (by rw [fn_val, fin_add, fn_val, fn_val, Yj, YM])
theorem fn_sub (x y : Nat) : fn p ((x % p + p - y % p) % p) = fn p x - fn p y := Fin.ext (by
  have hp : 0 < p := Nat.pos_of_ne_zero (NeZero.ne p)
  have hy := ZU y hp
  rw [fn_val, Yj, Fin.sub_def]
  show (x % p + p - y % p) % p = (p - y % p + x % p) % p
  congr 1
  omega)
theorem fn_zero : fn p 0 = 0 := rfl
theorem fn_one : fn p 1 = 1 := rfl
theorem Fld.mul {F : Fld p} {x y : Fin p} (hx : x ≠ 0) (hy : y ≠ 0) : x * y ≠ 0 := fun h => (F.nz _ _ h).elim hx hy
theorem Fld.eq {F : Fld p} {k x y : Fin p} (hk : k ≠ 0) (h : k * x = k * y) : x = y := Fld.cancel (F := F) hk (by grind -lia)
end
end Go.Wei
namespace Go.Ed
open Go.Dbr Go.Wei
section
variable {p : Nat} [NeZero p]
def OnE (d x y : Fin p) : Prop := y*y - x*x = 1 + d*(x*x)*(y*y)
def SumE (d x1 y1 x2 y2 x3 y3 : Fin p) : Prop := x3*(1 + d*(x1*x2)*(y1*y2)) = x1*y2 + x2*y1 ∧ y3*(1 - d*(x1*x2)*(y1*y2)) = y1*y2 + x1*x2
structure Ec (p : Nat) [NeZero p] where
  d : Fin p
  i : Fin p
  F : Fld p
  hi : i*i = -1
  hd : ∀ x : Fin p, x*x ≠ d
  one : (1 : Fin p) ≠ 0
theorem sq_key {d i e x1 y1 x2 y2 : Fin p} (h1 : OnE d x1 y1) (h2 : OnE d x2 y2) (hi : i*i = -1) (he : e = d*(x1*x2)*(y1*y2)) (hs : e*e = 1) : d*((x1*y1*(i*x2+y2))*(x1*y1*(i*x2+y2))) = (i*x1+e*y1)*(i*x1+e*y1) := by
  unfold OnE at h1 h2
  have a1 : d*((x1*y1*(i*x2+y2))*(x1*y1*(i*x2+y2))) = d*(x1*x1)*(y1*y1)*(y2*y2-x2*x2) + (e+e)*(i*x1*y1) := by
    have : (i*x2+y2)*(i*x2+y2) = y2*y2 - x2*x2 + (i*x2*y2 + i*x2*y2) := by
      have : (i*x2+y2)*(i*x2+y2) = (i*i)*(x2*x2) + y2*y2 + (i*x2*y2 + i*x2*y2) := by grind -lia
      rw [this, hi]
      grind -lia
    have h : d*((x1*y1*(i*x2+y2))*(x1*y1*(i*x2+y2))) = d*(x1*x1)*(y1*y1)*((i*x2+y2)*(i*x2+y2)) := by clear this hs he h1 h2; grind -lia
    rw [h, this, he]
    clear this h hs he h1 h2
    grind -lia
  have a2 : (i*x1+e*y1)*(i*x1+e*y1) = y1*y1 - x1*x1 + (e+e)*(i*x1*y1) := by
    have : (i*x1+e*y1)*(i*x1+e*y1) = (i*i)*(x1*x1) + (e*e)*(y1*y1) + (e+e)*(i*x1*y1) := by clear h1 h2 hi he hs a1; grind -lia
    rw [this, hi, hs]
    clear this a1 h1 h2 hi he hs
    grind -lia
  rw [a1, a2, h2, h1]
  have a3 : d*(x1*x1)*(y1*y1)*(1 + d*(x2*x2)*(y2*y2)) = d*(x1*x1)*(y1*y1) + e*e := by rw [he]; clear a1 a2 h1 h2 hi he hs; grind -lia
  rw [a3, hs]
  clear a1 a2 a3 h1 h2 hi he hs
  grind -lia
theorem no_sq {C : Ec p} {a b : Fin p} (ha : a ≠ 0) (h : C.d*(a*a) = b*b) : False := by
  obtain ⟨v, hv⟩ := C.F.iv a ha
  apply C.hd (b*v)
  have : (b*v)*(b*v) = (b*b)*(v*v) := by grind -lia
  rw [this, ← h]
  have : C.d*(a*a)*(v*v) = C.d*((a*v)*(a*v)) := by grind -lia
  rw [this, hv]
  grind -lia
theorem Ec.two_ne {C : Ec p} {x : Fin p} (h : x ≠ 0) : x + x ≠ 0 := fun g => h (C.F.two _ g)
theorem complete {C : Ec p} {x1 y1 x2 y2 : Fin p} (h1 : OnE C.d x1 y1) (h2 : OnE C.d x2 y2) {e : Fin p} (he : e = C.d*(x1*x2)*(y1*y2)) : e*e ≠ 1 := by
  intro hs
  have hx : x1*y1 ≠ 0 := fun g => C.one (by
    have : e*e = (C.d*x2*y2)*(x1*y1)*e := by rw [he]; grind -lia
    rw [← hs, this, g]; grind -lia)
  have hy : x2*y2 ≠ 0 := fun g => C.one (by
    have : e*e = (C.d*x1*y1)*(x2*y2)*e := by rw [he]; grind -lia
    rw [← hs, this, g]; grind -lia)
  have k1 := sq_key h1 h2 C.hi he hs
  have h2' : OnE C.d x2 (-y2) := by unfold OnE at *; clear hx hy k1 h1 he hs; grind -lia
  have k2 := sq_key h1 h2' C.hi (e := -e) (by rw [he]; clear hx hy k1 h1 he hs h2'; grind -lia) (by rw [← hs]; clear hx hy k1 h1 he hs h2'; grind -lia)
  by_cases g : C.i*x2+y2 = 0
  · by_cases g2 : C.i*x2+(-y2) = 0
    · have : y2 + y2 = 0 := by
        have : y2 + y2 = (C.i*x2+y2) - (C.i*x2+(-y2)) := by clear hx hy k1 k2 h1 h2 h2' he hs g g2; grind -lia
        rw [this, g, g2]
        clear hx hy k1 k2 h1 h2 h2' he hs g g2 this
        grind -lia
      have y0 := C.F.two _ this
      exact hy (by rw [y0]; clear hx hy k1 k2 h1 h2 h2' he hs g g2 this; grind -lia)
    · exact no_sq (C := C) (Fld.mul (F := C.F) hx g2) k2
  · exact no_sq (C := C) (Fld.mul (F := C.F) hx g) k1
theorem comp_p {C : Ec p} {x1 y1 x2 y2 : Fin p} (h1 : OnE C.d x1 y1) (h2 : OnE C.d x2 y2) : 1 + C.d*(x1*x2)*(y1*y2) ≠ 0 := fun g => complete h1 h2 rfl (by
  have : C.d*(x1*x2)*(y1*y2) = -1 := by
    have : C.d*(x1*x2)*(y1*y2) = (1 + C.d*(x1*x2)*(y1*y2)) - 1 := by clear g h1 h2; grind -lia
    rw [this, g]
    clear this g h1 h2
    grind -lia
  rw [this]
  clear this g h1 h2
  grind -lia)
theorem comp_m {C : Ec p} {x1 y1 x2 y2 : Fin p} (h1 : OnE C.d x1 y1) (h2 : OnE C.d x2 y2) : 1 - C.d*(x1*x2)*(y1*y2) ≠ 0 := fun g => complete h1 h2 rfl (by
  have : C.d*(x1*x2)*(y1*y2) = 1 := by
    have : C.d*(x1*x2)*(y1*y2) = 1 - (1 - C.d*(x1*x2)*(y1*y2)) := by clear g h1 h2; grind -lia
    rw [this, g]
    clear this g h1 h2
    grind -lia
  rw [this]
  clear this g h1 h2
  grind -lia)
theorem sum_ex {C : Ec p} {x1 y1 x2 y2 : Fin p} (h1 : OnE C.d x1 y1) (h2 : OnE C.d x2 y2) : ∃ x3 y3, SumE C.d x1 y1 x2 y2 x3 y3 := by
  obtain ⟨u, hu⟩ := C.F.iv _ (comp_p h1 h2)
  obtain ⟨v, hv⟩ := C.F.iv _ (comp_m h1 h2)
  refine ⟨(x1*y2+x2*y1)*u, (y1*y2+x1*x2)*v, ?_, ?_⟩
  · have : (x1*y2+x2*y1)*u*(1 + C.d*(x1*x2)*(y1*y2)) = (x1*y2+x2*y1)*((1 + C.d*(x1*x2)*(y1*y2))*u) := by clear hu hv h1 h2; grind -lia
    rw [this, hu]
    clear this hu hv h1 h2
    grind -lia
  · have : (y1*y2+x1*x2)*v*(1 - C.d*(x1*x2)*(y1*y2)) = (y1*y2+x1*x2)*((1 - C.d*(x1*x2)*(y1*y2))*v) := by clear hu hv h1 h2; grind -lia
    rw [this, hv]
    clear this hu hv h1 h2
    grind -lia
theorem sum_uniq {C : Ec p} {x1 y1 x2 y2 x3 y3 x4 y4 : Fin p} (h1 : OnE C.d x1 y1) (h2 : OnE C.d x2 y2) (h : SumE C.d x1 y1 x2 y2 x3 y3) (h' : SumE C.d x1 y1 x2 y2 x4 y4) : x3 = x4 ∧ y3 = y4 := by
  refine ⟨Fld.eq (F := C.F) (comp_p h1 h2) ?_, Fld.eq (F := C.F) (comp_m h1 h2) ?_⟩
  · have a := h.1
    have b := h'.1
    rw [← b] at a
    clear h h' h1 h2 b
    grind -lia
  · have a := h.2
    have b := h'.2
    rw [← b] at a
    clear h h' h1 h2 b
    grind -lia
theorem on_core {d x1 y1 x2 y2 e A B : Fin p} (h1 : OnE d x1 y1) (h2 : OnE d x2 y2) (he : e = d*(x1*x2)*(y1*y2)) (hA : A = x1*y2 + x2*y1) (hB : B = y1*y2 + x1*x2) : (B*B)*((1+e)*(1+e)) - (A*A)*((1-e)*(1-e)) = ((1-e)*(1+e))*((1-e)*(1+e)) + d*(A*A)*(B*B) := by
  unfold OnE at h1 h2
  subst he hA hB
  grind -lia
theorem sum_on {C : Ec p} {x1 y1 x2 y2 x3 y3 : Fin p} (h1 : OnE C.d x1 y1) (h2 : OnE C.d x2 y2) (h : SumE C.d x1 y1 x2 y2 x3 y3) : OnE C.d x3 y3 := by
  have k := on_core h1 h2 rfl h.1 h.2
  have c1 := comp_p h1 h2
  have c2 := comp_m h1 h2
  generalize C.d*(x1*x2)*(y1*y2) = e at *
  refine Fld.eq (F := C.F) (k := ((1-e)*(1+e))*((1-e)*(1+e))) (Fld.mul (F := C.F) (Fld.mul (F := C.F) c2 c1) (Fld.mul (F := C.F) c2 c1)) ?_
  clear h h1 h2 c1 c2
  grind -lia
theorem as_x {d x1 y1 x2 y2 x3 y3 : Fin p} (h1 : OnE d x1 y1) (h2 : OnE d x2 y2) (h3 : OnE d x3 y3) :
    ((x1*y2+x2*y1)*(1-d*(x1*x2)*(y1*y2))*y3 + x3*((y1*y2+x1*x2)*(1+d*(x1*x2)*(y1*y2)))) * ((1-d*(x2*x3)*(y2*y3))*(1+d*(x2*x3)*(y2*y3)) + d*(x1*(x2*y3+x3*y2))*(y1*(y2*y3+x2*x3))) =
    (x1*((y2*y3+x2*x3)*(1+d*(x2*x3)*(y2*y3))) + (x2*y3+x3*y2)*(1-d*(x2*x3)*(y2*y3))*y1) * ((1-d*(x1*x2)*(y1*y2))*(1+d*(x1*x2)*(y1*y2)) + d*((x1*y2+x2*y1)*x3)*((y1*y2+x1*x2)*y3)) := by
  unfold OnE at h1 h2 h3
  grind -lia
theorem as_y {d x1 y1 x2 y2 x3 y3 : Fin p} (h1 : OnE d x1 y1) (h2 : OnE d x2 y2) (h3 : OnE d x3 y3) :
    ((y1*y2+x1*x2)*(1+d*(x1*x2)*(y1*y2))*y3 + (x1*y2+x2*y1)*(1-d*(x1*x2)*(y1*y2))*x3) * ((1-d*(x2*x3)*(y2*y3))*(1+d*(x2*x3)*(y2*y3)) - d*(x1*(x2*y3+x3*y2))*(y1*(y2*y3+x2*x3))) =
    (y1*((y2*y3+x2*x3)*(1+d*(x2*x3)*(y2*y3))) + x1*((x2*y3+x3*y2)*(1-d*(x2*x3)*(y2*y3)))) * ((1-d*(x1*x2)*(y1*y2))*(1+d*(x1*x2)*(y1*y2)) - d*((x1*y2+x2*y1)*x3)*((y1*y2+x1*x2)*y3)) := by
  unfold OnE at h1 h2 h3
  grind -lia
theorem fin_cancel {F : Fld p} {D1 D2 N1 N2 Q1 Q2 X Y : Fin p} (d1 : D1 ≠ 0) (d2 : D2 ≠ 0) (q1 : Q1 ≠ 0) (q2 : Q2 ≠ 0) (h : (D1*N1)*(D2*Q2) = (D2*N2)*(D1*Q1)) (hX : X*Q1 = N1) (hY : Y*Q2 = N2) : X = Y := by
  refine Fld.eq (F := F) (k := (D1*D2)*(Q1*Q2)) (Fld.mul (F := F) (Fld.mul (F := F) d1 d2) (Fld.mul (F := F) q1 q2)) ?_
  subst hX hY
  clear d1 d2 q1 q2
  grind -lia
theorem sum_assoc {C : Ec p} {x1 y1 x2 y2 x3 y3 xS yS xU yU X Y X' Y' : Fin p} (h1 : OnE C.d x1 y1) (h2 : OnE C.d x2 y2) (h3 : OnE C.d x3 y3)
    (hS : SumE C.d x1 y1 x2 y2 xS yS) (hU : SumE C.d x2 y2 x3 y3 xU yU) (hX : SumE C.d xS yS x3 y3 X Y) (hY : SumE C.d x1 y1 xU yU X' Y') : X = X' ∧ Y = Y' := by
  have oS := sum_on h1 h2 hS
  have oU := sum_on h2 h3 hU
  have a1 := comp_p h1 h2
  have a2 := comp_m h1 h2
  have a3 := comp_p h2 h3
  have a4 := comp_m h2 h3
  have a5 := comp_p oS h3
  have a6 := comp_m oS h3
  have a7 := comp_p h1 oU
  have a8 := comp_m h1 oU
  have kx := as_x h1 h2 h3
  have ky := as_y h1 h2 h3
  obtain ⟨s1, s2⟩ := hS
  obtain ⟨u1, u2⟩ := hU
  rw [← s1, ← s2, ← u1, ← u2] at kx ky
  have d1 := Fld.mul (F := C.F) a2 a1
  have d2 := Fld.mul (F := C.F) a4 a3
  constructor
  · refine fin_cancel (F := C.F) d1 d2 a5 a7 ?_ hX.1 hY.1
    clear oS oU hX hY h1 h2 h3 ky a1 a2 a3 a4 a5 a6 a7 a8 d1 d2
    clear s1 s2 u1 u2
    generalize C.d*(x1*x2)*(y1*y2) = e at *
    generalize C.d*(x2*x3)*(y2*y3) = f at *
    grind -lia
  · refine fin_cancel (F := C.F) d1 d2 a6 a8 ?_ hX.2 hY.2
    clear oS oU hX hY h1 h2 h3 kx a1 a2 a3 a4 a5 a6 a7 a8 d1 d2
    clear s1 s2 u1 u2
    generalize C.d*(x1*x2)*(y1*y2) = e at *
    generalize C.d*(x2*x3)*(y2*y3) = f at *
    grind -lia
def Ec.G (C : Ec p) : Type := {P : Fin p × Fin p // OnE C.d P.1 P.2}
noncomputable def Ec.add {C : Ec p} (P Q : C.G) : C.G := ⟨((sum_ex P.2 Q.2).choose, (sum_ex P.2 Q.2).choose_spec.choose), sum_on P.2 Q.2 (sum_ex P.2 Q.2).choose_spec.choose_spec⟩
theorem Ec.is {C : Ec p} (P Q : C.G) : SumE C.d P.1.1 P.1.2 Q.1.1 Q.1.2 (Ec.add P Q).1.1 (Ec.add P Q).1.2 := (sum_ex P.2 Q.2).choose_spec.choose_spec
theorem Ec.eq {C : Ec p} {P Q R : C.G} (h : SumE C.d P.1.1 P.1.2 Q.1.1 Q.1.2 R.1.1 R.1.2) : Ec.add P Q = R := by
  have := sum_uniq P.2 Q.2 (Ec.is P Q) h
  exact Subtype.ext (Prod.ext this.1 this.2)
theorem Ec.assoc {C : Ec p} (P Q R : C.G) : Ec.add (Ec.add P Q) R = Ec.add P (Ec.add Q R) := by
  have := sum_assoc P.2 Q.2 R.2 (Ec.is P Q) (Ec.is Q R) (Ec.is (Ec.add P Q) R) (Ec.is P (Ec.add Q R))
  exact Subtype.ext (Prod.ext this.1 this.2)
theorem Ec.comm {C : Ec p} (P Q : C.G) : Ec.add P Q = Ec.add Q P := Ec.eq (by
  have := Ec.is Q P
  generalize (Ec.add Q P).1 = R at *
  obtain ⟨h1, h2⟩ := this
  exact ⟨by grind -lia, by grind -lia⟩)
def Ec.zero {C : Ec p} : C.G := ⟨(0, 1), by unfold OnE; grind -lia⟩
theorem Ec.zero_add {C : Ec p} (P : C.G) : Ec.add Ec.zero P = P := Ec.eq (by
  obtain ⟨⟨x, y⟩, h⟩ := P
  show SumE C.d 0 1 x y x y
  clear h
  exact ⟨by grind -lia, by grind -lia⟩)
theorem Ec.add_zero {C : Ec p} (P : C.G) : Ec.add P Ec.zero = P := by rw [Ec.comm, Ec.zero_add]
noncomputable def Ec.mul {C : Ec p} : Nat → C.G → C.G
  | 0, _ => Ec.zero
  | n + 1, P => Ec.add (Ec.mul n P) P
theorem Ec.mul_add {C : Ec p} (P : C.G) (m : Nat) : ∀ n, Ec.mul (m + n) P = Ec.add (Ec.mul m P) (Ec.mul n P)
  | 0 => by rw [Zy, Ec.mul, Ec.add_zero]
  | n + 1 => by rw [← ZP, Ec.mul, Ec.mul_add P m n, Ec.mul, Ec.assoc]
theorem Ec.mul_one {C : Ec p} (P : C.G) : Ec.mul 1 P = P := by rw [Ec.mul, Ec.mul, Ec.zero_add]
theorem Ec.mul_mul {C : Ec p} (P : C.G) (n : Nat) : ∀ m, Ec.mul (m * n) P = Ec.mul m (Ec.mul n P)
  | 0 => by rw [Qb, Ec.mul, Ec.mul]
  | m + 1 => by rw [Nat.succ_mul, Ec.mul_add, Ec.mul_mul P n m, Ec.mul]
def Rep3 (X Y Z : Fin p) (P : Fin p × Fin p) : Prop := Z ≠ 0 ∧ X = P.1*Z ∧ Y = P.2*Z
def Rep4 (X Y Z T : Fin p) (P : Fin p × Fin p) : Prop := Z ≠ 0 ∧ X = P.1*Z ∧ Y = P.2*Z ∧ T = P.1*P.2*Z
theorem rep3_add {C : Ec p} {P Q : C.G} {X1 Y1 Z1 X2 Y2 Z2 : Fin p} (hp : Rep3 X1 Y1 Z1 P.1) (hq : Rep3 X2 Y2 Z2 Q.1) :
    Rep3 ((Z1*Z2)*(((Z1*Z2)*(Z1*Z2) - C.d*((X1*X2)*(Y1*Y2)))*(((X1+Y1)*(X2+Y2) - X1*X2) - Y1*Y2))) ((Z1*Z2)*(((Z1*Z2)*(Z1*Z2) + C.d*((X1*X2)*(Y1*Y2)))*(Y1*Y2 + X1*X2))) (((Z1*Z2)*(Z1*Z2) - C.d*((X1*X2)*(Y1*Y2)))*((Z1*Z2)*(Z1*Z2) + C.d*((X1*X2)*(Y1*Y2)))) (Ec.add P Q).1 := by
  have c1 := comp_p P.2 Q.2
  have c2 := comp_m P.2 Q.2
  have hs := Ec.is P Q
  generalize (Ec.add P Q).1 = R at *
  obtain ⟨⟨x1, y1⟩, o1⟩ := P
  obtain ⟨⟨x2, y2⟩, o2⟩ := Q
  obtain ⟨x3, y3⟩ := R
  obtain ⟨z1, rfl, rfl⟩ := hp
  obtain ⟨z2, rfl, rfl⟩ := hq
  simp only at c1 c2 hs ⊢
  clear o1 o2
  have zz := Fld.mul (F := C.F) z1 z2
  have e1 : (Z1*Z2)*(Z1*Z2) - C.d*((x1*Z1*(x2*Z2))*(y1*Z1*(y2*Z2))) = (Z1*Z2)*(Z1*Z2)*(1 - C.d*(x1*x2)*(y1*y2)) := by clear hs c1 c2 zz z1 z2; grind -lia
  have e2 : (Z1*Z2)*(Z1*Z2) + C.d*((x1*Z1*(x2*Z2))*(y1*Z1*(y2*Z2))) = (Z1*Z2)*(Z1*Z2)*(1 + C.d*(x1*x2)*(y1*y2)) := by clear hs c1 c2 zz z1 z2 e1; grind -lia
  have e3 : ((x1*Z1+y1*Z1)*(x2*Z2+y2*Z2) - x1*Z1*(x2*Z2)) - y1*Z1*(y2*Z2) = (Z1*Z2)*(x1*y2+x2*y1) := by clear hs c1 c2 zz z1 z2 e1 e2; grind -lia
  have e4 : y1*Z1*(y2*Z2) + x1*Z1*(x2*Z2) = (Z1*Z2)*(y1*y2+x1*x2) := by clear hs c1 c2 zz z1 z2 e1 e2 e3; grind -lia
  rw [e1, e2, e3, e4]
  obtain ⟨s1, s2⟩ := hs
  rw [← s1, ← s2]
  clear s1 s2 e1 e2 e3 e4
  generalize C.d*(x1*x2)*(y1*y2) = e at *
  generalize Z1*Z2 = k at *
  refine ⟨Fld.mul (F := C.F) (Fld.mul (F := C.F) (Fld.mul (F := C.F) zz zz) c2) (Fld.mul (F := C.F) (Fld.mul (F := C.F) zz zz) c1), ?_, ?_⟩
  · clear c1 c2 zz z1 z2; simp only; grind -lia
  · clear c1 c2 zz z1 z2; simp only; grind -lia
theorem rep4_add {C : Ec p} {P Q : C.G} {X1 Y1 Z1 T1 X2 Y2 Z2 T2 : Fin p} (hp : Rep4 X1 Y1 Z1 T1 P.1) (hq : Rep4 X2 Y2 Z2 T2 Q.1) {a b c d e f g h : Fin p} (ha : a = (Y1-X1)*(Y2-X2)) (hb : b = (Y1+X1)*(Y2+X2)) (hc : c = (T1*T2)*(C.d+C.d)) (hd : d = Z1*Z2+Z1*Z2) (he : e = b - a) (hf : f = d - c) (hg : g = d + c) (hh : h = b + a) :
    Rep4 (e*f) (g*h) (f*g) (e*h) (Ec.add P Q).1 := by
  have c1 := comp_p P.2 Q.2
  have c2 := comp_m P.2 Q.2
  have hs := Ec.is P Q
  generalize (Ec.add P Q).1 = R at *
  obtain ⟨⟨x1, y1⟩, o1⟩ := P
  obtain ⟨⟨x2, y2⟩, o2⟩ := Q
  obtain ⟨x3, y3⟩ := R
  obtain ⟨z1, rfl, rfl, rfl⟩ := hp
  obtain ⟨z2, rfl, rfl, rfl⟩ := hq
  simp only at c1 c2 hs ha hb hc hd ⊢
  clear o1 o2
  have zz := Fld.mul (F := C.F) z1 z2
  have k2 := Ec.two_ne (C := C) zz
  have e1 : f = (Z1*Z2+Z1*Z2)*(1 - C.d*(x1*x2)*(y1*y2)) := by rw [hf, hd, hc]; clear hs c1 c2 zz z1 z2 k2 ha hb hc hd he hf hg hh; grind -lia
  have e2 : g = (Z1*Z2+Z1*Z2)*(1 + C.d*(x1*x2)*(y1*y2)) := by rw [hg, hd, hc]; clear hs c1 c2 zz z1 z2 k2 ha hb hc hd he hf hg hh e1; grind -lia
  have e3 : e = (Z1*Z2+Z1*Z2)*(x1*y2+x2*y1) := by rw [he, hb, ha]; clear hs c1 c2 zz z1 z2 k2 ha hb hc hd he hf hg hh e1 e2; grind -lia
  have e4 : h = (Z1*Z2+Z1*Z2)*(y1*y2+x1*x2) := by rw [hh, hb, ha]; clear hs c1 c2 zz z1 z2 k2 ha hb hc hd he hf hg hh e1 e2 e3; grind -lia
  obtain ⟨s1, s2⟩ := hs
  rw [← s1] at e3
  rw [← s2] at e4
  rw [e1, e2, e3, e4]
  clear s1 s2 e1 e2 e3 e4 ha hb hc hd he hf hg hh
  generalize C.d*(x1*x2)*(y1*y2) = u at *
  generalize Z1*Z2+Z1*Z2 = k at *
  refine ⟨Fld.mul (F := C.F) (Fld.mul (F := C.F) k2 c2) (Fld.mul (F := C.F) k2 c1), ?_, ?_, ?_⟩
  · clear c1 c2 zz z1 z2 k2; simp only; grind -lia
  · clear c1 c2 zz z1 z2 k2; simp only; grind -lia
  · clear c1 c2 zz z1 z2 k2; simp only; grind -lia
theorem rep3_same {C : Ec p} {P Q : Fin p × Fin p} {X1 Y1 Z1 X2 Y2 Z2 : Fin p} (hp : Rep3 X1 Y1 Z1 P) (hq : Rep3 X2 Y2 Z2 Q) : (X1*Z2 = X2*Z1 ∧ Y1*Z2 = Y2*Z1) ↔ P = Q := by
  obtain ⟨x1, y1⟩ := P
  obtain ⟨x2, y2⟩ := Q
  obtain ⟨z1, rfl, rfl⟩ := hp
  obtain ⟨z2, rfl, rfl⟩ := hq
  have zz := Fld.mul (F := C.F) z1 z2
  constructor
  · rintro ⟨a, b⟩
    simp only at a b
    have ex : x1 = x2 := Fld.eq (F := C.F) zz (by clear b zz z1 z2; grind -lia)
    have ey : y1 = y2 := Fld.eq (F := C.F) zz (by clear a zz z1 z2 ex; grind -lia)
    rw [ex, ey]
  · intro h
    cases h
    simp only
    clear zz z1 z2
    exact ⟨by grind -lia, by grind -lia⟩
theorem den_ne {C : Ec p} (y : Fin p) : C.d*(y*y) + 1 ≠ 0 := fun g => by
  have h : C.d*(y*y) = C.i*C.i := by rw [C.hi]; have : C.d*(y*y) = (C.d*(y*y) + 1) - 1 := by clear g; grind -lia
                                     rw [this, g]; clear this g; grind -lia
  by_cases hy : y = 0
  · subst hy
    exact C.one (by rw [← g]; clear g h; grind -lia)
  · exact no_sq (C := C) hy h
theorem on_of {C : Ec p} {x y v : Fin p} (hv : (C.d*(y*y) + 1)*v = 1) (h : x*x = (y*y - 1)*v) : OnE C.d x y := by
  have e : x*x*(C.d*(y*y) + 1) = (y*y-1)*((C.d*(y*y) + 1)*v) := by rw [h]; clear h hv; grind -lia
  rw [hv] at e
  unfold OnE
  clear hv h
  grind -lia
theorem of_on {C : Ec p} {x y v : Fin p} (hv : (C.d*(y*y) + 1)*v = 1) (h : OnE C.d x y) : x*x = (y*y - 1)*v := by
  unfold OnE at h
  have e : y*y - 1 = x*x*(C.d*(y*y)+1) := by
    have : y*y - 1 = x*x + (y*y - x*x) - 1 := by clear h hv; grind -lia
    rw [this, h]
    clear this h hv
    grind -lia
  rw [e]
  have : x*x*(C.d*(y*y)+1)*v = x*x*((C.d*(y*y)+1)*v) := by clear h hv e; grind -lia
  rw [this, hv]
  clear this h hv e
  grind -lia
end
end Go.Ed
namespace Go.Proofs.YtlnogkmnklfjlaaGreatDoor
open Go.Dbr
abbrev PE : Nat := 57896044618658097711785492504343953926634992332820282019728792003956564819949
theorem mF1 : mF 1 = PE := rfl
theorem PE_pos : 0 < PE := by decide
theorem PE_lt : PE < zY := by decide
instance nzE : NeZero PE := ⟨by decide⟩
theorem fldE : Go.Wei.Fld PE := Go.Wei.fld_of lu_57896044618658097711785492504343953926634992332820282019728792003956564819949 (by decide)
abbrev fE (x : Nat) : Fin PE := Go.Wei.fn PE x
def DN : Nat := 37095705934669439343138083508754565189542113879843219016388785533085940283555
def D2N : Nat := 16295367250680780974490674513165176452449235426866156013048779062215315747161
def IN : Nat := 19681161376707505956807079304988542015446066515923890162744021073123829784752
theorem iE : fE IN * fE IN = -1 := by decide +kernel
theorem d2E : fE D2N = fE DN + fE DN := by decide +kernel
theorem one_neE : (1 : Fin PE) ≠ 0 := by decide +kernel
theorem nsq_abs {w p m e d : Nat} (f : w ^ e % p = 1) (he : 2 * m = e) (hd : w * w % p = d) (hm : m < 2 ^ 256) (g : pw p 256 d m ≠ 1) : False := by
  refine g ?_
  rw [pw_eq 256 d m hm, ← hd, ← JC, ← Xp, ← QM, he, f]
theorem nsqE (x : Fin PE) : x * x ≠ fE DN := fun h => by
  have e := congrArg Fin.val h
  rw [Go.Wei.fin_mul, show (fE DN).val = DN from by decide +kernel] at e
  generalize x.val = w at e
  have h0 : w % PE ≠ 0 := fun g => by
    rw [Qt, g, Qb, QV] at e
    exact absurd e (by decide)
  have f := lu_57896044618658097711785492504343953926634992332820282019728792003956564819949.2 w h0
  exact nsq_abs (f := f) (m := (PE - 1) / 2) (by decide +kernel) e (by decide +kernel) (by decide +kernel)
def cvE : Go.Ed.Ec PE := ⟨fE DN, fE IN, fldE, iE, nsqE, one_neE⟩
abbrev GE := cvE.G
theorem e_mul (x y : Nat) : fE (zq 1 x y) = fE x * fE y := by rw [zq, mF1]; exact Go.Wei.fn_mul x y
theorem e_add (x y : Nat) : fE (Zs 1 x y) = fE x + fE y := by rw [Zs, mF1]; exact Go.Wei.fn_add x y
theorem e_sub (x y : Nat) : fE (z8 1 x y) = fE x - fE y := by rw [z8, mF1]; exact Go.Wei.fn_sub x y
theorem el_mul (x y : Nat) : zq 1 x y < PE := ZU _ PE_pos
theorem el_sub (x y : Nat) : z8 1 x y < PE := ZU _ PE_pos
theorem e_inj {x y : Nat} (hx : x < PE) (hy : y < PE) (h : fE x = fE y) : x = y := Go.Wei.fn_inj hx hy h
theorem e_of (x : Fin PE) : fE x.val = x := Go.Wei.fn_of x
theorem e_one : fE 1 = 1 := Go.Wei.fn_one
theorem e_zero : fE 0 = 0 := Go.Wei.fn_zero
def ivE (z : Nat) : Nat := zU 1 z (mF 1 - 2)
theorem e_iv {c : Nat} (h : fE c ≠ 0) : fE c * fE (ivE c) = 1 := by
  have hv : c % mF 1 ≠ 0 := fun g => h (Fin.ext (g.trans Go.Wei.fin_zero.symm))
  have e : zq 1 c (ivE c) = 1 := inv_yes (.inl rfl) hv
  rw [← e_mul, e]
  exact e_one
def oA (x1 y1 x2 y2 : Nat) : Nat := zq 1 (z8 1 y1 x1) (z8 1 y2 x2)
def oB (x1 y1 x2 y2 : Nat) : Nat := zq 1 (Zs 1 y1 x1) (Zs 1 y2 x2)
def oC (t1 t2 : Nat) : Nat := zq 1 (zq 1 t1 t2) D2N
def oD (z1 z2 : Nat) : Nat := Zs 1 (zq 1 z1 z2) (zq 1 z1 z2)
def oE (x1 y1 x2 y2 : Nat) : Nat := z8 1 (oB x1 y1 x2 y2) (oA x1 y1 x2 y2)
def oF (z1 t1 z2 t2 : Nat) : Nat := z8 1 (oD z1 z2) (oC t1 t2)
def oG (z1 t1 z2 t2 : Nat) : Nat := Zs 1 (oD z1 z2) (oC t1 t2)
def oH (x1 y1 x2 y2 : Nat) : Nat := Zs 1 (oB x1 y1 x2 y2) (oA x1 y1 x2 y2)
abbrev L4 := List UInt64
def l4 (a b c d : Nat) : L4 := nd a ++ (nd b ++ (nd c ++ nd d))
theorem ndl (a : Nat) : (nd a).length = 4 := zl 4 a
theorem l4_len (a b c d : Nat) : (l4 a b c d).length = 16 := by simp only [l4, zH, nd, zl]
abbrev k1 (p : L4) : Nat := nv (p.take 4)
abbrev k2 (p : L4) : Nat := nv ((p.drop 4).take 4)
abbrev k3 (p : L4) : Nat := nv ((p.drop 8).take 4)
abbrev k4 (p : L4) : Nat := nv (p.drop 12)
theorem l4_1 (a b c d : Nat) : (l4 a b c d).take 4 = nd a := by rw [l4, Yz (ndl a)]
theorem l4_2 (a b c d : Nat) : ((l4 a b c d).drop 4).take 4 = nd b := by rw [l4, QP (ndl a), Yz (ndl b)]
theorem l4_3 (a b c d : Nat) : ((l4 a b c d).drop 8).take 4 = nd c := by
  rw [l4, show (8 : Nat) = 4 + 4 from rfl, ← QO, QP (ndl a), QP (ndl b), Yz (ndl c)]
theorem l4_4 (a b c d : Nat) : (l4 a b c d).drop 12 = nd d := by
  rw [l4, show (12 : Nat) = 4 + (4 + 4) from rfl, ← QO, ← QO, QP (ndl a), QP (ndl b), QP (ndl c)]
def wtE (p q : L4) : L4 := l4 (zq 1 (oE (k1 p) (k2 p) (k1 q) (k2 q)) (oF (k3 p) (k4 p) (k3 q) (k4 q))) (zq 1 (oG (k3 p) (k4 p) (k3 q) (k4 q)) (oH (k1 p) (k2 p) (k1 q) (k2 q))) (zq 1 (oF (k3 p) (k4 p) (k3 q) (k4 q)) (oG (k3 p) (k4 p) (k3 q) (k4 q))) (zq 1 (oE (k1 p) (k2 p) (k1 q) (k2 q)) (oH (k1 p) (k2 p) (k1 q) (k2 q)))
theorem wtE_len (p q : L4) : (wtE p q).length = 16 := l4_len _ _ _ _
structure RepE (l : L4) (P : GE) : Prop where
  len : l.length = 16
  lt1 : k1 l < PE
  lt2 : k2 l < PE
  lt3 : k3 l < PE
  lt4 : k4 l < PE
  rep : Go.Ed.Rep4 (fE (k1 l)) (fE (k2 l)) (fE (k3 l)) (fE (k4 l)) P.1
theorem nvE {a : Nat} (ha : a < PE) : nv (nd a) = a := QI (Zu ha PE_lt)
theorem k1_l4 {a b c d : Nat} (ha : a < PE) : k1 (l4 a b c d) = a := by rw [k1, l4_1, nvE ha]
theorem k2_l4 {a b c d : Nat} (ha : b < PE) : k2 (l4 a b c d) = b := by rw [k2, l4_2, nvE ha]
theorem k3_l4 {a b c d : Nat} (ha : c < PE) : k3 (l4 a b c d) = c := by rw [k3, l4_3, nvE ha]
theorem k4_l4 {a b c d : Nat} (ha : d < PE) : k4 (l4 a b c d) = d := by rw [k4, l4_4, nvE ha]
theorem rep_l4 {a b c d : Nat} {P : GE} (ha : a < PE) (hb : b < PE) (hc : c < PE) (hd : d < PE) (h : Go.Ed.Rep4 (fE a) (fE b) (fE c) (fE d) P.1) : RepE (l4 a b c d) P :=
  ⟨l4_len _ _ _ _, by rw [k1_l4 ha]; exact ha, by rw [k2_l4 hb]; exact hb, by rw [k3_l4 hc]; exact hc, by rw [k4_l4 hd]; exact hd, by rw [k1_l4 ha, k2_l4 hb, k3_l4 hc, k4_l4 hd]; exact h⟩
theorem rep4_sum {x1 y1 z1 t1 x2 y2 z2 t2 : Nat} {P Q : GE} (hp : Go.Ed.Rep4 (fE x1) (fE y1) (fE z1) (fE t1) P.1) (hq : Go.Ed.Rep4 (fE x2) (fE y2) (fE z2) (fE t2) Q.1) :
    Go.Ed.Rep4 (fE (zq 1 (oE x1 y1 x2 y2) (oF z1 t1 z2 t2))) (fE (zq 1 (oG z1 t1 z2 t2) (oH x1 y1 x2 y2))) (fE (zq 1 (oF z1 t1 z2 t2) (oG z1 t1 z2 t2))) (fE (zq 1 (oE x1 y1 x2 y2) (oH x1 y1 x2 y2))) (Go.Ed.Ec.add P Q).1 := by
  rw [e_mul, e_mul, e_mul, e_mul]
  exact Go.Ed.rep4_add (C := cvE) hp hq (a := fE (oA x1 y1 x2 y2)) (b := fE (oB x1 y1 x2 y2)) (c := fE (oC t1 t2)) (d := fE (oD z1 z2)) (by rw [oA, e_mul, e_sub, e_sub]) (by rw [oB, e_mul, e_add, e_add]) (by rw [oC, e_mul, e_mul, d2E]; rfl) (by rw [oD, e_add, e_mul]) (by rw [oE, e_sub]) (by rw [oF, e_sub]) (by rw [oG, e_add]) (by rw [oH, e_add])
theorem rep_wt {p q : L4} {P Q : GE} (hp : RepE p P) (hq : RepE q Q) : RepE (wtE p q) (Go.Ed.Ec.add P Q) :=
  rep_l4 (el_mul _ _) (el_mul _ _) (el_mul _ _) (el_mul _ _) (rep4_sum hp.rep hq.rep)
def zero16 : L4 := l4 0 1 1 0
theorem rep_zero : RepE zero16 Go.Ed.Ec.zero := rep_l4 (by decide) (by decide) (by decide) (by decide) (by
  rw [e_one, e_zero]
  refine ⟨one_neE, ?_, ?_, ?_⟩
  · show (0 : Fin PE) = 0 * 1; decide +kernel
  · show (1 : Fin PE) = 1 * 1; decide +kernel
  · show (0 : Fin PE) = 0 * 1 * 1; decide +kernel)
def rowF (p : L4) : Nat → L4
  | 0 => zero16
  | i + 1 => wtE (rowF p i) p
def dblF (o : L4) : Nat → L4
  | 0 => o
  | j + 1 => wtE (dblF o j) (dblF o j)
theorem rep_row {p : L4} {P : GE} (h : RepE p P) : ∀ i, RepE (rowF p i) (Go.Ed.Ec.mul i P)
  | 0 => rep_zero
  | i + 1 => rep_wt (rep_row h i) h
theorem rep_dbl {o : L4} {P : GE} (h : RepE o P) : ∀ j, RepE (dblF o j) (Go.Ed.Ec.mul (2 ^ j) P)
  | 0 => by rw [Z6, Go.Ed.Ec.mul_one]; exact h
  | j + 1 => by
    rw [z9, z5, Kr, Go.Ed.Ec.mul_add]
    exact rep_wt (rep_dbl h j) (rep_dbl h j)
def nib (k i : Nat) : Nat := k / 16 ^ i % 16
def tmF (p : L4) (k : Nat) : Nat → L4
  | 0 => zero16
  | j + 1 => wtE (dblF (tmF p k j) 4) (rowF p (nib k (63 - j)))
theorem tmF_len (p : L4) (k : Nat) : ∀ j, (tmF p k j).length = 16
  | 0 => l4_len _ _ _ _
  | i + 1 => wtE_len _ _
theorem nibs_step (k i : Nat) : k / 16 ^ i = 16 * (k / 16 ^ (i + 1)) + nib k i := by
  rw [nib, z9, ← Zv]
  exact (Jr _ _).symm
theorem rep_tm {p : L4} {P : GE} {k : Nat} (h : RepE p P) (hk : k < zY) : ∀ j, j ≤ 64 → RepE (tmF p k j) (Go.Ed.Ec.mul (k / 16 ^ (64 - j)) P)
  | 0, _ => by
    rw [YJ (show k < 16 ^ (64 - 0) from hk)]
    exact rep_zero
  | j + 1, hj => by
    have ih := rep_tm h hk j (by omega)
    have e : 64 - j = 63 - j + 1 := by omega
    rw [show 64 - (j + 1) = 63 - j by omega, nibs_step, Go.Ed.Ec.mul_add, z5, z5 _ 16, Go.Ed.Ec.mul_mul, ← e]
    exact rep_wt (rep_dbl ih 4) (rep_row h _)
theorem rep_times {p : L4} {P : GE} {k : Nat} (h : RepE p P) (hk : k < zY) : RepE (tmF p k 64) (Go.Ed.Ec.mul k P) := by
  have := rep_tm h hk 64 (ZX _)
  rwa [YB, Z6, YG] at this
def l3 (a b c : Nat) : L4 := nd a ++ (nd b ++ nd c)
theorem l3_len (a b c : Nat) : (l3 a b c).length = 12 := by simp only [l3, zH, nd, zl]
abbrev j3 (p : L4) : Nat := nv (p.drop 8)
theorem l3_1 (a b c : Nat) : (l3 a b c).take 4 = nd a := by rw [l3, Yz (ndl a)]
theorem l3_2 (a b c : Nat) : ((l3 a b c).drop 4).take 4 = nd b := by rw [l3, QP (ndl a), Yz (ndl b)]
theorem l3_3 (a b c : Nat) : (l3 a b c).drop 8 = nd c := by
  rw [l3, show (8 : Nat) = 4 + 4 from rfl, ← QO, QP (ndl a), QP (ndl b)]
def qA (z1 z2 : Nat) : Nat := zq 1 z1 z2
def qF (x1 y1 x2 y2 : Nat) : Nat := zq 1 DN (zq 1 (zq 1 x1 x2) (zq 1 y1 y2))
def qG (x1 y1 z1 x2 y2 z2 : Nat) : Nat := z8 1 (zq 1 (qA z1 z2) (qA z1 z2)) (qF x1 y1 x2 y2)
def qH (x1 y1 z1 x2 y2 z2 : Nat) : Nat := Zs 1 (zq 1 (qA z1 z2) (qA z1 z2)) (qF x1 y1 x2 y2)
def qX (x1 y1 x2 y2 : Nat) : Nat := z8 1 (z8 1 (zq 1 (Zs 1 x1 y1) (Zs 1 x2 y2)) (zq 1 x1 x2)) (zq 1 y1 y2)
def plD (p q : L4) : L4 := l3 (zq 1 (qA (j3 p) (j3 q)) (zq 1 (qG (k1 p) (k2 p) (j3 p) (k1 q) (k2 q) (j3 q)) (qX (k1 p) (k2 p) (k1 q) (k2 q)))) (zq 1 (qA (j3 p) (j3 q)) (zq 1 (qH (k1 p) (k2 p) (j3 p) (k1 q) (k2 q) (j3 q)) (Zs 1 (zq 1 (k2 p) (k2 q)) (zq 1 (k1 p) (k1 q))))) (zq 1 (qG (k1 p) (k2 p) (j3 p) (k1 q) (k2 q) (j3 q)) (qH (k1 p) (k2 p) (j3 p) (k1 q) (k2 q) (j3 q)))
theorem plD_len (p q : L4) : (plD p q).length = 12 := l3_len _ _ _
structure RepD (l : L4) (P : GE) : Prop where
  len : l.length = 12
  lt1 : k1 l < PE
  lt2 : k2 l < PE
  lt3 : j3 l < PE
  rep : Go.Ed.Rep3 (fE (k1 l)) (fE (k2 l)) (fE (j3 l)) P.1
theorem k1_l3 {a b c : Nat} (ha : a < PE) : k1 (l3 a b c) = a := by rw [k1, l3_1, nvE ha]
theorem k2_l3 {a b c : Nat} (ha : b < PE) : k2 (l3 a b c) = b := by rw [k2, l3_2, nvE ha]
theorem j3_l3 {a b c : Nat} (ha : c < PE) : j3 (l3 a b c) = c := by rw [j3, l3_3, nvE ha]
theorem rep_l3 {a b c : Nat} {P : GE} (ha : a < PE) (hb : b < PE) (hc : c < PE) (h : Go.Ed.Rep3 (fE a) (fE b) (fE c) P.1) : RepD (l3 a b c) P :=
  ⟨l3_len _ _ _, by rw [k1_l3 ha]; exact ha, by rw [k2_l3 hb]; exact hb, by rw [j3_l3 hc]; exact hc, by rw [k1_l3 ha, k2_l3 hb, j3_l3 hc]; exact h⟩
theorem rep3_sum {x1 y1 z1 x2 y2 z2 : Nat} {P Q : GE} (hp : Go.Ed.Rep3 (fE x1) (fE y1) (fE z1) P.1) (hq : Go.Ed.Rep3 (fE x2) (fE y2) (fE z2) Q.1) :
    Go.Ed.Rep3 (fE (zq 1 (qA z1 z2) (zq 1 (qG x1 y1 z1 x2 y2 z2) (qX x1 y1 x2 y2)))) (fE (zq 1 (qA z1 z2) (zq 1 (qH x1 y1 z1 x2 y2 z2) (Zs 1 (zq 1 y1 y2) (zq 1 x1 x2))))) (fE (zq 1 (qG x1 y1 z1 x2 y2 z2) (qH x1 y1 z1 x2 y2 z2))) (Go.Ed.Ec.add P Q).1 := by
  simp only [e_mul, e_add, e_sub, qA, qG, qH, qF, qX]
  exact Go.Ed.rep3_add (C := cvE) hp hq
theorem rep_pl {p q : L4} {P Q : GE} (hp : RepD p P) (hq : RepD q Q) : RepD (plD p q) (Go.Ed.Ec.add P Q) :=
  rep_l3 (el_mul _ _) (el_mul _ _) (el_mul _ _) (rep3_sum hp.rep hq.rep)
def zero12 : L4 := l3 0 1 1
theorem rep_zero3 : RepD zero12 Go.Ed.Ec.zero := rep_l3 (by decide) (by decide) (by decide) (by
  rw [e_one, e_zero]
  refine ⟨one_neE, ?_, ?_⟩
  · show (0 : Fin PE) = 0 * 1; decide +kernel
  · show (1 : Fin PE) = 1 * 1; decide +kernel)
def mnF (p : L4) (k : Nat) : Nat → L4
  | 0 => zero12
  | j + 1 => bif k / 2 ^ (255 - j) % 2 == 1 then plD (plD (mnF p k j) (mnF p k j)) p else plD (mnF p k j) (mnF p k j)
theorem mnF_len (p : L4) (k : Nat) : ∀ j, (mnF p k j).length = 12
  | 0 => l3_len _ _ _
  | j + 1 => by
    rw [mnF]
    cases k / 2 ^ (255 - j) % 2 == 1 <;> exact plD_len _ _
theorem rep_mn {p : L4} {P : GE} {k : Nat} (h : RepD p P) (hk : k < zY) : ∀ j, j ≤ 256 → RepD (mnF p k j) (Go.Ed.Ec.mul (k / 2 ^ (256 - j)) P)
  | 0, _ => by
    rw [YJ (show k < 2 ^ (256 - 0) from hk)]
    exact rep_zero3
  | j + 1, hj => by
    have ih := rep_mn h hk j (by omega)
    have d := rep_pl ih ih
    rw [← Go.Ed.Ec.mul_add, ← Kr] at d
    have e : k / 2 ^ (256 - (j + 1)) = 2 * (k / 2 ^ (256 - j)) + k / 2 ^ (255 - j) % 2 := by
      rw [show 256 - j = 255 - j + 1 by omega, show 256 - (j + 1) = 255 - j by omega, z9, ← Zv]
      omega
    rw [mnF, e]
    have hm : k / 2 ^ (255 - j) % 2 < 2 := ZU _ (by decide)
    generalize k / 2 ^ (255 - j) % 2 = b at *
    rcases (show b = 0 ∨ b = 1 by omega) with rfl | rfl
    · exact d
    · rw [Go.Ed.Ec.mul_add, Go.Ed.Ec.mul_one]
      exact rep_pl d h
theorem rep_many {p : L4} {P : GE} {k : Nat} (h : RepD p P) (hk : k < zY) : RepD (mnF p k 256) (Go.Ed.Ec.mul k P) := by
  have := rep_mn h hk 256 (ZX _)
  rwa [YB, Z6, YG] at this
def clr (b : List UInt8) : List UInt8 := zp b 31 (za b 31 0 &&& 127)
def yE (b : List UInt8) : Nat := lv (clr b)
def odE (b : List UInt8) : Bool := decide (128 ≤ (za b 31 0).toNat)
def tA (y : Nat) : Nat := zq 1 (z8 1 (zq 1 y y) 1) (ivE (Zs 1 (zq 1 DN (zq 1 y y)) 1))
def rE (y : Nat) : Nat := rootN 1 (tA y)
def xOkE (y : Nat) (odd : Bool) : Bool := rootOk 1 (tA y) && !(odd && decide (rE y = 0))
def xE (y : Nat) (odd : Bool) : Nat := bif odd then z8 1 0 (rE y) else rE y
def isE (b : List UInt8) : Bool := decide (yE b < mF 1) && xOkE (yE b) (odE b)
theorem clr_len {b : List UInt8} (h : b.length = 32) : (clr b).length = 32 := by rw [clr, Qk, h]
theorem rs_lt1 (A : Nat) : rs 1 A < PE := rs_ltM (.inl rfl) A
theorem rootN_lt1 (A : Nat) : rootN 1 A < PE := by
  unfold rootN
  split
  · split
    · exact el_sub _ _
    · exact rs_lt1 A
  · decide
theorem root_sq {A : Nat} (hA : A < PE) (h : rootOk 1 A = true) : zq 1 (rootN 1 A) (rootN 1 A) = A ∧ rootN 1 A % 2 = 0 := by
  have e := (of_decide_eq_true h).2
  rw [mulM_one, mF1, zL hA] at e
  have s := sq_law (f := 1) (.inl rfl) (rs 1 A)
  rw [e] at s
  exact s.2
theorem tA_lt (y : Nat) : tA y < PE := by rw [tA]; exact el_mul _ _
theorem rE_lt (y : Nat) : rE y < PE := by rw [rE]; exact rootN_lt1 _
theorem xE_t (y : Nat) : xE y true = z8 1 0 (rE y) := by rw [xE, QB]
theorem xE_f (y : Nat) : xE y false = rE y := by rw [xE, QQ]
theorem xE_lt (y : Nat) (odd : Bool) : xE y odd < PE := by
  cases odd with
  | true => rw [xE_t]; exact el_sub _ _
  | false => rw [xE_f]; exact rE_lt y
theorem xE_sq {y : Nat} {odd : Bool} (h : xOkE y odd = true) : fE (xE y odd) * fE (xE y odd) = fE (tA y) := by
  simp only [xOkE, Zd] at h
  have s := (root_sq (A := tA y) (tA_lt y) h.1).1
  have s2 : fE (rE y) * fE (rE y) = fE (tA y) := by rw [rE, ← e_mul, s]
  cases odd with
  | true =>
    rw [xE_t, e_sub, e_zero, ← s2]
    generalize fE (rE y) = r
    clear s s2 h
    grind -lia
  | false => rw [xE_f]; exact s2
theorem den_iv (y : Nat) : (cvE.d * (fE y * fE y) + 1) * fE (ivE (Zs 1 (zq 1 DN (zq 1 y y)) 1)) = 1 := by
  have e : fE (Zs 1 (zq 1 DN (zq 1 y y)) 1) = cvE.d * (fE y * fE y) + 1 := by rw [e_add, e_mul, e_mul, e_one]; rfl
  rw [← e]
  exact e_iv (by rw [e]; exact Go.Ed.den_ne (fE y))
theorem tA_eq (y : Nat) : fE (tA y) = (fE y * fE y - 1) * fE (ivE (Zs 1 (zq 1 DN (zq 1 y y)) 1)) := by rw [tA, e_mul, e_sub, e_mul, e_one]
theorem pt_on {y : Nat} {odd : Bool} (h : xOkE y odd = true) : Go.Ed.OnE cvE.d (fE (xE y odd)) (fE y) :=
  Go.Ed.on_of (C := cvE) (den_iv y) (by rw [xE_sq h, tA_eq])
noncomputable def gPt (b : List UInt8) : GE := if h : xOkE (yE b) (odE b) = true then ⟨(fE (xE (yE b) (odE b)), fE (yE b)), pt_on h⟩ else Go.Ed.Ec.zero
theorem gPt_val {b : List UInt8} (h : xOkE (yE b) (odE b) = true) : (gPt b).1 = (fE (xE (yE b) (odE b)), fE (yE b)) := by
  unfold gPt
  exact congrArg Subtype.val (dif_pos h)
theorem is_x {b : List UInt8} (h : isE b = true) : xOkE (yE b) (odE b) = true := by
  simp only [isE, Zd] at h
  exact h.2
theorem is_y {b : List UInt8} (h : isE b = true) : yE b < PE := by
  simp only [isE, Zd, decide_eq_true_eq] at h
  exact h.1
def ptL (y : Nat) (odd : Bool) : L4 := l4 (xE y odd) y 1 (zq 1 (xE y odd) y)
def ptD (y : Nat) (odd : Bool) : L4 := l3 (xE y odd) y 1
theorem ptL_len (y : Nat) (odd : Bool) : (ptL y odd).length = 16 := l4_len _ _ _ _
theorem ptD_len (y : Nat) (odd : Bool) : (ptD y odd).length = 12 := l3_len _ _ _
theorem rep_pt {b : List UInt8} (h : isE b = true) : RepE (ptL (yE b) (odE b)) (gPt b) := by
  refine rep_l4 (xE_lt _ _) (is_y h) (by decide) (el_mul _ _) ?_
  rw [gPt_val (is_x h), e_mul, e_one]
  generalize fE (xE (yE b) (odE b)) = x
  generalize fE (yE b) = y
  refine ⟨one_neE, ?_, ?_, ?_⟩ <;> simp only <;> grind -lia
theorem rep_ptD {b : List UInt8} (h : isE b = true) : RepD (ptD (yE b) (odE b)) (gPt b) := by
  refine rep_l3 (xE_lt _ _) (is_y h) (by decide) ?_
  rw [gPt_val (is_x h), e_one]
  generalize fE (xE (yE b) (odE b)) = x
  generalize fE (yE b) = y
  refine ⟨one_neE, ?_, ?_⟩ <;> simp only <;> grind -lia
def outN (x y : Nat) : List UInt8 := zp (lb 32 y) 31 (za (lb 32 y) 31 0 ||| (zQ (x % 2) <<< 7))
def outE (P : GE) : List UInt8 := outN P.1.1.val P.1.2.val
theorem outN_len (x y : Nat) : (outN x y).length = 32 := by rw [outN, Qk, lb_len]
theorem outE_len (P : GE) : (outE P).length = 32 := outN_len _ _
theorem top_dec : ∀ (n : Fin 128) (x : Fin 2), ((zQ n.val ||| (zQ x.val <<< 7)) &&& 127 = zQ n.val) ∧ decide (128 ≤ (zQ n.val ||| (zQ x.val <<< 7)).toNat) = decide (x.val = 1) := by decide +kernel
theorem lv_digE : ∀ (l : List UInt8) (j : Nat), (za l j 0).toNat = lv l / 256 ^ j % 256
  | [], j => by simp [lv]
  | x :: r, 0 => by have := x.toNat_lt; rw [List.getD_cons_zero, lv, Z6, YG]; omega
  | x :: r, j + 1 => by
    have := x.toNat_lt
    rw [List.getD_cons_succ, lv_digE r j, lv, z9, z5 (_ ^ j), ← Zv]
    congr 2
    omega
theorem top_lt {y : Nat} (h : y < PE) : (za (lb 32 y) 31 0).toNat < 128 := by
  rw [lv_digE, lb_val, zL (show y < 256 ^ 32 from Zu h (by decide))]
  exact QZ (Nat.mod_le _ _) (Y5 (Zu h (by decide)))
theorem set_getD {l : List UInt8} {i : Nat} (h : i < l.length) : zp l i (za l i 0) = l := by
  refine Kn (by simp) fun j h1 h2 => ?_
  rw [List.getElem_set]
  split
  · rename_i e
    subst e
    rw [zN, zR h]
    rfl
  · rfl
theorem out_top (x y : Nat) : za (outN x y) 31 0 = za (lb 32 y) 31 0 ||| (zQ (x % 2) <<< 7) := by
  rw [outN, zN, QR (by rw [lb_len]; decide)]
  rfl
theorem clr_out {x y : Nat} (h : y < PE) : clr (outN x y) = lb 32 y ∧ odE (outN x y) = decide (x % 2 = 1) := by
  have hb := top_lt h
  have ht := out_top x y
  have d := top_dec ⟨_, hb⟩ ⟨x % 2, ZU _ (by decide)⟩
  simp only [UInt8.ofNat_toNat] at d
  refine ⟨?_, ?_⟩
  · rw [clr, ht, d.1, outN, XF, set_getD (by rw [lb_len]; decide)]
  · rw [odE, ht, d.2]
theorem y_out {x y : Nat} (h : y < PE) : yE (outN x y) = y := by
  rw [yE, (clr_out h).1, lb_val, zL (show y < 256 ^ 32 from Zu h (by decide))]
theorem tA_on {x y : Nat} (hx : x < PE) (h : Go.Ed.OnE cvE.d (fE x) (fE y)) : tA y = zq 1 x x := by
  refine e_inj (el_mul _ _) (el_mul _ _) ?_
  rw [tA_eq, e_mul]
  exact (Go.Ed.of_on (C := cvE) (den_iv y) h).symm
theorem sqE {r x : Nat} (hr : r < PE) (hx : x < PE) (h : zq 1 r r = zq 1 x x) : r = x ∨ r = PE - x ∧ x ≠ 0 := by
  have e := congrArg fE h
  rw [e_mul, e_mul] at e
  have z : (fE r - fE x) * (fE r + fE x) = 0 := by
    have : (fE r - fE x) * (fE r + fE x) = fE r * fE r - fE x * fE x := by clear e h; grind -lia
    rw [this, e]
    clear this e h
    grind -lia
  rcases fldE.nz _ _ z with g | g
  · left
    refine e_inj hr hx ?_
    clear e h z
    grind -lia
  · by_cases h0 : x = 0
    · left
      subst h0
      refine e_inj hr hx ?_
      rw [e_zero] at g ⊢
      clear e h z
      grind -lia
    · right
      have e2 : fE (r + x) = 0 := by
        have := e_add r x
        rw [Zs, mF1, show fE ((r + x) % PE) = fE (r + x) from Go.Wei.fn_mod _] at this
        rw [this, g]
      have e3 : (r + x) % PE = 0 := by
        have := congrArg Fin.val e2
        rwa [Go.Wei.fin_zero] at this
      refine ⟨?_, h0⟩
      rcases Qq (r + x) PE with q | q
      · rw [zL q] at e3
        omega
      · rw [Yv q, zL (by omega)] at e3
        omega
theorem out_in (P : GE) : isE (outE P) = true ∧ gPt (outE P) = P := by
  have ho : Go.Ed.OnE cvE.d (fE P.1.1.val) (fE P.1.2.val) := by rw [e_of, e_of]; exact P.2
  have hx : P.1.1.val < PE := P.1.1.isLt
  have hy : P.1.2.val < PE := P.1.2.isLt
  have ey : yE (outE P) = P.1.2.val := y_out hy
  have eo : odE (outE P) = decide (P.1.1.val % 2 = 1) := (clr_out hy).2
  have t := tA_on hx ho
  have s := sq_law (f := 1) (.inl rfl) P.1.1.val
  rw [← t] at s
  have hr : rE P.1.2.val < PE := rE_lt _
  have h2 : rE P.1.2.val = P.1.1.val ∨ rE P.1.2.val = PE - P.1.1.val ∧ P.1.1.val ≠ 0 := sqE hr hx (by rw [rE]; exact s.2.1.trans t)
  have hev : rE P.1.2.val % 2 = 0 := by rw [rE]; exact s.2.2
  have hp : PE % 2 = 1 := by decide
  have ex : xE P.1.2.val (decide (P.1.1.val % 2 = 1)) = P.1.1.val ∧ (decide (P.1.1.val % 2 = 1) = true → rE P.1.2.val ≠ 0) := by
    by_cases g : P.1.1.val % 2 = 1
    · rw [decide_eq_true g, xE_t]
      rcases h2 with h2 | ⟨h2, h3⟩
      · omega
      · refine ⟨?_, fun _ => by omega⟩
        rw [z8, h2, mF1, QV, zL (show PE - P.1.1.val < PE by omega), show 0 + PE - (PE - P.1.1.val) = P.1.1.val by omega, zL hx]
    · rw [decide_eq_false g, xE_f]
      rcases h2 with h2 | ⟨h2, h3⟩
      · exact ⟨h2, fun h => by cases h⟩
      · omega
  have ok : xOkE (yE (outE P)) (odE (outE P)) = true := by
    rw [ey, eo, xOkE, s.1, Qd]
    by_cases g : decide (P.1.1.val % 2 = 1) = true
    · rw [g, Qd, decide_eq_false (ex.2 g)]
      rfl
    · rw [Bool.eq_false_iff.2 g]
      rfl
  refine ⟨?_, ?_⟩
  · rw [isE, ok, ey, Bool.and_true]
    exact decide_eq_true hy
  · refine Subtype.ext ((gPt_val ok).trans ?_)
    rw [ey, eo, ex.1, e_of, e_of]
theorem aff_x {x z : Nat} {X : Fin PE} (hz : fE z ≠ 0) (h : fE x = X * fE z) : zq 1 x (ivE z) = X.val := by
  refine e_inj (el_mul _ _) X.isLt ?_
  rw [e_mul, h, e_of]
  have i1 := e_iv hz
  generalize fE (ivE z) = i at *
  generalize fE z = k at *
  clear h hz
  grind -lia
theorem by4 {l : L4} {P : GE} (h : RepE l P) : outN (zq 1 (k1 l) (ivE (k3 l))) (zq 1 (k2 l) (ivE (k3 l))) = outE P := by
  rw [outE, aff_x h.rep.1 h.rep.2.1, aff_x h.rep.1 h.rep.2.2.1]
def sameN (x1 y1 z1 x2 y2 z2 : Nat) : Bool := nd (zq 1 x1 z2) == nd (zq 1 x2 z1) && nd (zq 1 y1 z2) == nd (zq 1 y2 z1)
instance : DecidableEq GE := fun P Q => if h : P.1 = Q.1 then isTrue (Subtype.ext h) else isFalse fun g => h (congrArg Subtype.val g)
theorem nd_eqE {a b : Nat} (ha : a < PE) (hb : b < PE) : (nd a == nd b) = decide (fE a = fE b) := by
  by_cases h : a = b
  · subst h
    rw [decide_eq_true rfl, beq_self_eq_true]
  · rw [decide_eq_false (fun g => h (e_inj ha hb g))]
    refine beq_false_of_ne fun g => h ?_
    have := congrArg nv g
    rwa [nvE ha, nvE hb] at this
theorem sameN_ok {x1 y1 z1 x2 y2 z2 : Nat} {P Q : GE} (hp : Go.Ed.Rep3 (fE x1) (fE y1) (fE z1) P.1) (hq : Go.Ed.Rep3 (fE x2) (fE y2) (fE z2) Q.1) : sameN x1 y1 z1 x2 y2 z2 = decide (P = Q) := by
  rw [sameN, nd_eqE (el_mul _ _) (el_mul _ _), nd_eqE (el_mul _ _) (el_mul _ _), e_mul, e_mul, e_mul, e_mul, ← Bool.decide_and]
  have k := Go.Ed.rep3_same (C := cvE) hp hq
  refine decide_eq_decide.2 (k.trans ⟨fun g => Subtype.ext g, fun g => congrArg Subtype.val g⟩)
abbrev N4 := Nat × Nat × Nat × Nat
def wtN : N4 → N4 → N4
  | (x1, y1, z1, t1), (x2, y2, z2, t2) => (zq 1 (oE x1 y1 x2 y2) (oF z1 t1 z2 t2), zq 1 (oG z1 t1 z2 t2) (oH x1 y1 x2 y2), zq 1 (oF z1 t1 z2 t2) (oG z1 t1 z2 t2), zq 1 (oE x1 y1 x2 y2) (oH x1 y1 x2 y2))
def RepN (s : N4) (P : GE) : Prop := Go.Ed.Rep4 (fE s.1) (fE s.2.1) (fE s.2.2.1) (fE s.2.2.2) P.1
theorem repN_wt {s t : N4} {P Q : GE} (hs : RepN s P) (ht : RepN t Q) : RepN (wtN s t) (Go.Ed.Ec.add P Q) := by
  obtain ⟨x1, y1, z1, t1⟩ := s
  obtain ⟨x2, y2, z2, t2⟩ := t
  exact rep4_sum hs ht
def mulG : Nat → Nat → N4 → N4
  | 0, _, _ => (0, 1, 1, 0)
  | f + 1, e, g => cond (Yl (e % 2) 1) (wtN (mulG f (e / 2) (wtN g g)) g) (mulG f (e / 2) (wtN g g))
theorem repN_mul : ∀ (f e : Nat) (g : N4) (P : GE), e < 2 ^ f → RepN g P → RepN (mulG f e g) (Go.Ed.Ec.mul e P)
  | 0, e, g, P, he, _ => by
    have : e = 0 := by simp at he; exact he
    subst this
    have := rep_zero.rep
    rw [zero16, k1_l4 (by decide), k2_l4 (by decide), k3_l4 (by decide), k4_l4 (by decide)] at this
    exact this
  | f + 1, e, g, P, he, h => by
    have ih := repN_mul f (e / 2) (wtN g g) (Go.Ed.Ec.add P P) (by rw [z9] at he; omega) (repN_wt h h)
    have e2 : Go.Ed.Ec.mul (e / 2) (Go.Ed.Ec.add P P) = Go.Ed.Ec.mul (e / 2 * 2) P := by
      rw [Go.Ed.Ec.mul_mul]
      congr 1
      show _ = Go.Ed.Ec.add (Go.Ed.Ec.add Go.Ed.Ec.zero P) P
      rw [Go.Ed.Ec.zero_add]
    rw [e2] at ih
    unfold mulG
    cases hb : Yl (e % 2) 1 with
    | true =>
      have h1 : e % 2 = 1 := Yw hb
      have : e = e / 2 * 2 + 1 := by omega
      have k := repN_wt ih h
      rw [show Go.Ed.Ec.add (Go.Ed.Ec.mul (e / 2 * 2) P) P = Go.Ed.Ec.mul e P from (by
        conv => rhs; rw [this]
        rfl)] at k
      exact k
    | false =>
      have h1 : e % 2 ≠ 1 := JK hb
      have : e / 2 * 2 = e := by omega
      rw [this] at ih
      exact ih
def BX : Nat := 15112221349535400772501151409588531511454012693041857206046113283949847762202
def BY_ : Nat := 46316835694926478169428394003475163141307993866256225615783033603165251855960
theorem onB : Go.Ed.OnE cvE.d (fE BX) (fE BY_) := by
  show fE BY_ * fE BY_ - fE BX * fE BX = 1 + fE DN * (fE BX * fE BX) * (fE BY_ * fE BY_)
  decide +kernel
def gB : GE := ⟨(fE BX, fE BY_), onB⟩
theorem repB : RepN (BX, BY_, 1, zq 1 BX BY_) gB := by
  show Go.Ed.Rep4 (fE BX) (fE BY_) (fE 1) (fE (zq 1 BX BY_)) (fE BX, fE BY_)
  rw [e_mul, e_one]
  generalize fE BX = x
  generalize fE BY_ = y
  refine ⟨one_neE, ?_, ?_, ?_⟩ <;> simp only <;> grind -lia
def baseB : List UInt8 := [88, 102, 102, 102, 102, 102, 102, 102, 102, 102, 102, 102, 102, 102, 102, 102, 102, 102, 102, 102, 102, 102, 102, 102, 102, 102, 102, 102, 102, 102, 102, 102]
theorem powN (x : Nat) {n : Nat} (h : n < 2 ^ 256) : zU 1 x n = pw PE 256 x n := powM_pw x h
theorem ivE_pw (x : Nat) : ivE x = pw PE 256 x (PE - 2) := powN x (by decide)
theorem base_y : yE baseB = BY_ ∧ odE baseB = false := by decide +kernel
theorem base_out : outE gB = baseB := by decide +kernel
theorem base_pt : isE baseB = true ∧ gPt baseB = gB := by rw [← base_out]; exact out_in gB
def baseL : L4 := ptL BY_ false
def baseD : L4 := ptD BY_ false
theorem rep_base : RepE baseL gB := by
  have h := rep_pt base_pt.1
  rw [base_pt.2, base_y.1, base_y.2] at h
  exact h
theorem rep_baseD : RepD baseD gB := by
  have h := rep_ptD base_pt.1
  rw [base_pt.2, base_y.1, base_y.2] at h
  exact h
noncomputable def puE (n : Nat) : List UInt8 := outE (Go.Ed.Ec.mul n gB)
theorem puE_len (n : Nat) : (puE n).length = 32 := outE_len _
theorem pu_L {k : Nat} (hk : k < zY) : outN (zq 1 (k1 (tmF baseL k 64)) (ivE (k3 (tmF baseL k 64)))) (zq 1 (k2 (tmF baseL k 64)) (ivE (k3 (tmF baseL k 64)))) = puE k := by4 (rep_times rep_base hk)
end Go.Proofs.YtlnogkmnklfjlaaGreatDoor
