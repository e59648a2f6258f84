import Derived.Test.YtlnogkmnklfjlaaGreatDoorSg5
import Derived.Test.YtlnogkmnklfjlaaGreatDoorSg2
open List renaming getD → za, length → zb, replicate → zd, toArray → zg, length_replicate → zi, take → zn, drop → zo, set → zp, length_take → zs, length_drop → zu, length_append → zC, length_set → ZV, append_assoc → Qj, map_take → Yu, map_drop → Je
open UInt64 renaming ofNat → zc, toNat → zw, toNat_and → QV
open Go.Dbr renaming then_normal → ze, u64s_lenh → zf, u64s → zh, region_from → zk, uv64 → zm, load_whole → zq, u64s_one → zt, block_normal → zv, u64s_getD → zx, then_exit → zy, block_exit → zL, run_loadAgg2 → zM, m_gw → zQ, addHi → zT, addLo → zV, d_cell1 → z9, h_from → Zl, m_aw → Zp, then_ret → ZE, loop_m → ZR, u64s_set → ZU, mulHi → Yh, op_ext → Xk
open Go.Proofs.YtlnogkmnklfjlaaGreatDoor renaming nds_len → zl, mulM → zr, W256 → zU, mod_lt_w → Qm, getD_set_ne → Qt, nv_nd → Qw, minus_go → JO, nv_mF → JP
open Go.Dbr.Ev renaming cellAgg → zB, drew → zO
open Nat renaming mod_eq_of_lt → zG, mul_comm → zZ, pow_succ → z8, mul_assoc → Ze, add_mul → Zo, div_div_eq_div_mul → Zv, add_zero → Zx, mul_one → ZA, mod_lt → ZL, le_refl → ZP, pow_zero → ZX, zero_mul → Z4, mul_zero → Z5, pow_add → Qc, mul_mod → Qg, mul_add → Qs, pow_mul → Qx, mod_mod → Q4, div_one → Yr, add_mod → YB, mod_mul_mod → YN, testBit → YY, mul_right_comm → X6, zero_sub → Kz
open Bool renaming and_eq_true → Za
open Go.Dbr.Env renaming fx → X4
namespace Go.Proofs.YtlnogkmnklfjlaaGreatDoor
open Go.Dbr
set_option maxRecDepth 100000
set_option maxHeartbeats 2000000
set_option linter.unusedVariables false
set_option linter.unusedSimpArgs false
def powM (f : Int) (x n : Nat) : Nat := x ^ n % mF f
theorem powM_lt {f : Int} (hf : f = 1 ∨ f = 2 ∨ f = 3 ∨ f = 4) (x n : Nat) : powM f x n < zU := Qm hf
theorem powM_zero {f : Int} (hf : f = 1 ∨ f = 2 ∨ f = 3 ∨ f = 4) (x : Nat) : powM f x 0 = 1 := by rw [powM, ZX, zG (mF_pos hf)]
theorem powM_add (f : Int) (x m n : Nat) : zr f (powM f x m) (powM f x n) = powM f x (m + n) := by rw [zr, powM, powM, ← Qg, ← Qc, powM]
theorem powM_succ (f : Int) (x n : Nat) : zr f (powM f x n) x = powM f x (n + 1) := by rw [zr, powM, YN, ← z8, powM]
theorem nv_pow {f : Int} (hf : f = 1 ∨ f = 2 ∨ f = 3 ∨ f = 4) (x n : Nat) : nv (nd (powM f x n)) = powM f x n := Qw (powM_lt hf x n)
def MulOk (f : Int) : Prop := ∀ (w : World) (a b : List UInt64), zb a = 4 → zb b = 4 → Calls Tryz.prog 24 #[.int .i64 f, .agg (zg (zh a)), .agg (zg (zh b))] w fun e w' => e = .returned (.agg (zg (zh (nd (zr f (nv a) (nv b)))))) ∧ Ev w [] w' []
def RMulOk (f : Int) : Prop := ∀ (w : World) (a b : List UInt64), zb a = 4 → zb b = 4 → Calls Tryz.prog 28 #[.int .i64 f, .agg (zg (zh a)), .agg (zg (zh b))] w fun e w' => e = .returned (.agg (zg (zh (nd (zr f (nv a) (nv b)))))) ∧ Ev w [] w' []
theorem rmulOk {f : Int} (hf : f = 1 ∨ f = 2 ∨ f = 3 ∨ f = 4) (hL : LeftOk f) : RMulOk f := fun w a b ha hb => rmul_go w f hf hL a b ha hb
theorem bits_at {e : List UInt64} {j s t : Nat} (h : s + t ≤ 64) (h0 : s < 64) : (za e j 0 >>> zc s).toNat % 2 ^ t = nv e / 2 ^ (64 * j + s) % 2 ^ t := by
  have hs : (zc s).toNat % 64 = s := by rw [ofNat_val]; omega
  have hp : (2 : Nat) ^ (64 * j + s) = 18446744073709551616 ^ j * 2 ^ s := by rw [Qc, Qx]
  rw [UInt64.toNat_shiftRight, hs, dv_dig, Nat.shiftRight_eq_div_pow, hp, ← Zv]
  show _ = dv _ _ / _ / _ % _
  generalize dv 18446744073709551616 e / 18446744073709551616 ^ j = d
  have hB : 18446744073709551616 = 2 ^ s * 2 ^ (64 - s) := by rw [← Qc, show s + (64 - s) = 64 by omega]
  conv => lhs; rw [hB]
  rw [Nat.mod_mul_right_div_self, Nat.mod_mod_of_dvd]
  exact ⟨2 ^ (64 - s - t), by rw [← Qc]; congr 1; omega⟩
theorem bit_at (e : List UInt64) (i : Nat) : (za e (i / 64) 0 >>> zc (i % 64) &&& 1).toNat = nv e / 2 ^ i % 2 := by
  have h := bits_at (e := e) (j := i / 64) (s := i % 64) (t := 1) (by omega) (by omega)
  rw [show 64 * (i / 64) + i % 64 = i by omega] at h
  rw [QV, show (1 : UInt64).toNat = 1 from rfl, Nat.and_one_is_mod]
  exact h
theorem nib_at (e : List UInt64) (i : Nat) : (za e (i / 16) 0 >>> zc (4 * (i % 16)) &&& 15).toNat = nv e / 16 ^ i % 16 := by
  have h := bits_at (e := e) (j := i / 16) (s := 4 * (i % 16)) (t := 4) (by omega) (by omega)
  rw [show 64 * (i / 16) + 4 * (i % 16) = 4 * i by omega, Qx] at h
  rw [QV, show (15 : UInt64).toNat = 2 ^ 4 - 1 from rfl, Nat.and_two_pow_sub_one_eq_mod]
  exact h
theorem half_step (n : Nat) {i : Nat} (h : 1 ≤ i) : n / 2 ^ (i - 1) = 2 * (n / 2 ^ i) + n / 2 ^ (i - 1) % 2 := by
  have e : 2 ^ i = 2 ^ (i - 1) * 2 := by rw [← z8]; congr 1; omega
  rw [e, ← Zv]
  omega
theorem nib_step (n : Nat) {i : Nat} (h : 1 ≤ i) : n / 16 ^ (i - 1) = 2 ^ 4 * (n / 16 ^ i) + n / 16 ^ (i - 1) % 16 := by
  have e : 16 ^ i = 16 ^ (i - 1) * 16 := by rw [← z8]; congr 1; omega
  rw [e, ← Zv]
  omega
theorem bit_no {f : Int} (hf : f = 1 ∨ f = 2 ∨ f = 3 ∨ f = 4) {A E q : Nat} {b : UInt64} (hq : 1 ≤ q) (hb : b.toNat = E / 2 ^ (q - 1) % 2) (hc : ¬ ((b.toNat : Nat) : Int) = (1 : Int)) : nd (zr f (nv (nd (powM f A (E / 2 ^ q)))) (nv (nd (powM f A (E / 2 ^ q))))) = nd (powM f A (E / 2 ^ (q - 1))) := by
  rw [nv_pow hf, powM_add, half_step E hq]
  congr 2
  omega
theorem bit_yes {f : Int} (hf : f = 1 ∨ f = 2 ∨ f = 3 ∨ f = 4) {a : List UInt64} {E q : Nat} {b : UInt64} (hq : 1 ≤ q) (hb : b.toNat = E / 2 ^ (q - 1) % 2) (hc : ((b.toNat : Nat) : Int) = (1 : Int)) : nd (zr f (nv (nd (zr f (nv (nd (powM f (nv a) (E / 2 ^ q)))) (nv (nd (powM f (nv a) (E / 2 ^ q))))))) (nv a)) = nd (powM f (nv a) (E / 2 ^ (q - 1))) := by
  rw [nv_pow hf, powM_add, nv_pow hf, powM_succ, half_step E hq]
  congr 2
  omega
theorem nib_no {f : Int} {A E q : Nat} {b : UInt64} (hq : 1 ≤ q) (hb : b.toNat = E / 16 ^ (q - 1) % 16) (hc : ((b.toNat : Nat) : Int) = (0 : Int)) : nd (powM f A (2 ^ 4 * (E / 16 ^ q))) = nd (powM f A (E / 16 ^ (q - 1))) := by
  rw [nib_step E hq]
  congr 2
  omega
theorem nib_yes {f : Int} (hf : f = 1 ∨ f = 2 ∨ f = 3 ∨ f = 4) {A E q : Nat} {b : UInt64} (hq : 1 ≤ q) (hb : b.toNat = E / 16 ^ (q - 1) % 16) {L : List UInt64} (hT : ∀ j, j < 16 → zn 4 (zo (j * 4) L) = nd (powM f A j)) : nd (zr f (nv (nd (powM f A (2 ^ 4 * (E / 16 ^ q))))) (nv (zn 4 (zo (b.toNat * 4) L)))) = nd (powM f A (E / 16 ^ (q - 1))) := by
  rw [hT _ (by omega), nv_pow hf, nv_pow hf, powM_add, nib_step E hq]
  congr 2
  omega
theorem sq_step {f : Int} (hf : f = 1 ∨ f = 2 ∨ f = 3 ∨ f = 4) {A N k : Nat} : nd (zr f (nv (nd (powM f A (2 ^ k * N)))) (nv (nd (powM f A (2 ^ k * N))))) = nd (powM f A (2 ^ (k + 1) * N)) := by
  rw [nv_pow hf, powM_add, z8]
  congr 2
  rw [X6]
  omega
theorem u64s_sub (m o : Nat) (l : List UInt64) : ((zh l).drop o).take m = zh (zn m (zo o l)) := by simp [zh, Yu, Je]
theorem u64s_put (m o : Nat) (l x : List UInt64) : (zh l).take o ++ zh x ++ (zh l).drop (o + m) = zh (zn o l ++ x ++ zo (o + m) l) := by simp [zh, Yu, Je]
theorem sub_len {α : Type} {l : List α} {n m o : Nat} (h : l.length = n) (h2 : o + m ≤ n) : (zn m (zo o l)).length = m := by rw [zs, zu]; omega
theorem put_len {α : Type} {l x : List α} {n m o : Nat} (h : l.length = n) (hx : x.length = m) (h2 : o + m ≤ n) : (zn o l ++ x ++ zo (o + m) l).length = n := by rw [zC, zC, zs, zu]; omega
theorem tab_new {α : Type} {l x : List α} {i : Nat} (hx : x.length = 4) (h : i * 4 + 4 ≤ l.length) : zn 4 (zo (i * 4) (zn (i * 4) l ++ x ++ zo (i * 4 + 4) l)) = x := by
  rw [Qj, List.drop_left' (by rw [zs]; omega), List.take_left' hx]
theorem tab_old {α : Type} {l x : List α} {i j : Nat} (hj : j < i) (h : i * 4 + 4 ≤ l.length) : zn 4 (zo (j * 4) (zn (i * 4) l ++ x ++ zo (i * 4 + 4) l)) = zn 4 (zo (j * 4) l) := by
  rw [Qj, List.drop_append_of_le_length (by rw [zs]; omega), List.take_append_of_le_length (by rw [zu, zs]; omega), List.drop_take, List.take_take, Nat.min_eq_left (by omega)]
theorem tab_first {f : Int} (hf : f = 1 ∨ f = 2 ∨ f = 3 ∨ f = 4) {A : Nat} {x : List UInt64} (hx : x = [1, 0, 0, 0]) : ∀ j, j < 1 → zn 4 (zo (j * 4) (zn 0 (zd 64 (0 : UInt64)) ++ x ++ zo (0 + 4) (zd 64 (0 : UInt64)))) = nd (powM f A j) := by
  intro j hj
  have e : j = 0 := by omega
  subst e
  rw [powM_zero hf, hx]
  decide
theorem tab_step {f : Int} (hf : f = 1 ∨ f = 2 ∨ f = 3 ∨ f = 4) {a L : List UInt64} {i : Nat} (h1 : 1 ≤ i) (hL : L.length = 64) (hi : i < 16) (hT : ∀ j, j < i → zn 4 (zo (j * 4) L) = nd (powM f (nv a) j)) : ∀ j, j < i + 1 → zn 4 (zo (j * 4) (zn (i * 4) L ++ nd (zr f (nv (zn 4 (zo ((i - 1) * 4) L))) (nv a)) ++ zo (i * 4 + 4) L)) = nd (powM f (nv a) j) := by
  intro j hj
  by_cases e : j = i
  · subst e
    rw [tab_new (zl _ _) (by omega), hT (j - 1) (by omega), nv_pow hf, powM_succ]
    congr 2
    omega
  · rw [tab_old (by omega) (by omega), hT j (by omega)]
theorem div_top {e : List UInt64} (he : e.length = 4) : nv e / 2 ^ 256 = 0 := Nat.div_eq_of_lt (nv_lt he)
theorem div_top4 {e : List UInt64} (he : e.length = 4) : nv e / 16 ^ 64 = 0 := by rw [show (16 : Nat) ^ 64 = 2 ^ 256 by decide]; exact div_top he
theorem inv_e {f : Int} (hf : f = 1 ∨ f = 2 ∨ f = 3 ∨ f = 4) : nv (nd (nv (nd (mF f)) + zU - nv [2, 0, 0, 0])) = mF f - 2 := by
  have h1 := mF_pos hf
  have h2 := mF_lt f
  rw [JP, nd_val, show nv [2, 0, 0, 0] = 2 from rfl]
  simp only [zU] at *
  omega
theorem rexp_go (w : World) (f : Int) (hf : f = 1 ∨ f = 2 ∨ f = 3 ∨ f = 4) (hR : RMulOk f) (a g : List UInt64) (ha : zb a = 4) (hg : zb g = 4) : Calls Tryz.prog 105 #[.int .i64 f, .agg (zg (zh a)), .agg (zg (zh g))] w fun e w' => e = .returned (.agg (zg (zh (nd (powM f (nv a) (nv g)))))) ∧ Ev w [] w' [] := by
 refine d_0 [(0, .int .i64 f), (1, .agg (zg (zh a))), (2, .agg (zg (zh g)))] 38 Go.Proofs.Tryz.func105 Go.Proofs.Tryz.ntmps105 (Heap.nil _) fun E0 E1 E2 => wp_seq <| zk <| f_o <| m_m 33 (zh a) E1 E2 fun _ _ Eo E3 E4 => f_o <| m_m 33 (zh g) E3 E4 fun _ _ Eh E5 Ep => f_o <| m_z 33 (zh (zd 4 0)) E5 Ep fun _ _ Eb Eq Er => ?_
 refine f_e <| ze <| wp_seq <| zk <| d_k [0,4,5,6,10] [] 1 Eq fun _ Es => f_o <| c_p Es Er (ris_go_yes _ f hf) fun _ _ Et Eu => d_e [0,4,5,6,7] [] Et fun _ Ew => ze <| wp_seq <| wp_seq <| d_r [0,4,5,6,13] [] Ew fun _ Ei => ?_
 refine ze <| c_f Ei ?_
 refine wp_skip <| ze <| wp_seq <| zk <| d_k [0,4,5,6,15] [] 1 Ei fun _ Ex => f_o <| m_z 33 (zh (zd 4 0)) Ex Eu fun _ _ Ed Ey Ez => f_o <| zQ 3 4 (zh ([1, 0, 0, 0] : List UInt64)) _ Ey Ez rfl (zf (show zb ([1, 0, 0, 0] : List UInt64) = 4 from rfl)) (zf (zi)) (zt _) rfl fun _ _ EA EB => f_e <| ze <| wp_seq <| wp_seq <| d_r [0,4,5,6,8,9] [] EA fun _ EC => ?_
 refine ze <| wp_block <| ZR (fun ED ac wo => ∃ (q : Nat) (x : List UInt64), ED = (q + 1 : Nat) ∧ Env ac 38 [(0, .int .i64 f), (4, pt Eo), (5, pt Eh), (6, pt Eb), (8, pt Ed), (9, .int .i64 (((q : Nat) : Int) - (1 : Int)))] ∧ Ev w [] wo [.box Ed (zh x) 33, .box Eo (zh a) 33, .box Eh (zh g) 33, .box Eb (zh (zd 4 0)) 33] ∧ (q ≤ 256) ∧ (zb x = 4) ∧ (x = nd (powM f (nv a) (nv g / 2 ^ q)))) ⟨_, 256, ([1, 0, 0, 0] : List UInt64), rfl, EC.sb, EB.pk [3, 0, 1, 2], by omega, by rfl, by rw [div_top hg, powM_zero hf]; decide⟩ ?_
 rintro E6 _ _ ⟨q, x, rfl, EE, Ea, hq, hx, hxe⟩
 refine wp_seq <| wp_seq <| d_r [0,4,5,6,8,9,17] [] EE fun _ Ef => ?_
 refine ze <| c_d (((q : Nat) : Int) - (1 : Int) ≥ (0 : Int)) Ef (fun EF => ?_) (fun EF => ?_)
 ·
  refine wp_skip <| ze <| wp_seq <| wp_block <| wp_seq ?_
  have EG := X4 (t := 9) (v := .int .i64 (((q : Nat) : Int) - (1 : Int))) (u := ni (q - 1)) Ef (congrArg (Value.int .i64) (show ((q : Nat) : Int) - (1 : Int) = ((q - 1 : Nat) : Int) by omega))
  have hbv := bit_at g (q - 1)
  rw [hxe] at Ea
  refine zk <| d_k [0,4,5,6,8,9,20] [] 1 EG fun _ EH => f_o <| Zp 0 4 (zh (nd (powM f (nv a) (nv g / 2 ^ q)))) EH Ea rfl (zf (zl _ _)) fun _ EI => f_o <| Zp 0 4 (zh (nd (powM f (nv a) (nv g / 2 ^ q)))) EI Ea rfl (zf (zl _ _)) fun _ EJ => f_o <| c_p EJ Ea (hR _ (nd (powM f (nv a) (nv g / 2 ^ q))) (nd (powM f (nv a) (nv g / 2 ^ q))) (zl _ _) (zl _ _)) fun _ _ EK EL => ?_
  refine f_o <| zQ 0 4 (zh (nd (zr f (nv (nd (powM f (nv a) (nv g / 2 ^ q)))) (nv (nd (powM f (nv a) (nv g / 2 ^ q))))))) [.box Ed (zh (nd (zr f (nv (nd (powM f (nv a) (nv g / 2 ^ q)))) (nv (nd (powM f (nv a) (nv g / 2 ^ q))))))) 33, .box Eo (zh a) 33, .box Eh (zh g) 33, .box Eb (zh (zd 4 0)) 33] EK EL rfl (zf (zl _ _)) (zf (zl _ _)) (zt _) rfl fun _ _ EM Ec => f_e <| ze <| wp_seq <| zk <| d_k [0,4,5,6,8,9,25] [(1, g_i .i64 (show IntKind.wrap .i64 (Int.tdiv ((q - 1 : Nat) : Int) (64 : Int)) = (((q - 1) / 64 : Nat) : Int) from Go.Dbr.i64_quo_nat (a := ((q - 1 : Nat) : Int)) (n := q - 1) (m := 64) rfl (by omega)))] 2 EM fun _ EN => f_o <| q_v (x := Instr.indexAt 33 (pt Eh) (ni ((q - 1) / 64))) (v := .pointer (some ⟨Eh, (q - 1) / 64, none⟩)) EN (Go.Dbr.run_indexarr (e := 31) (sz := 1) (m := 4) (j := (q - 1) / 64) (o := (q - 1) / 64) (by kernel_rfl) (by kernel_rfl) (by omega) (by omega) (by omega) _) fun _ EO => f_o ?_
  have EP : (q - 1) / 64 < zb g := by rw [hg]; omega
  refine m_v 2 ((q - 1) / 64) (zm (za g ((q - 1) / 64) 0)) EO Ec rfl (zx EP) fun _ EQ => d_k [0,4,5,6,8,9,27,29] [(5, g_i .i64 (show Int.tmod ((q - 1 : Nat) : Int) (64 : Int) = (((q - 1) % 64 : Nat) : Int) from Go.Dbr.i64_rem_nat (a := ((q - 1 : Nat) : Int)) (n := q - 1) (m := 64) rfl (by omega)))] 6 EQ fun _ ER => f_o <| q_v ER (Go.Dbr.run_shr_u64 (za g ((q - 1) / 64) 0) .i64 ((q - 1) % 64) (by omega) _) fun _ ES => d_e [0,4,5,6,8,9,32] [(7, g_i .u64 (Go.Dbr.u64_and (x := (za g ((q - 1) / 64) 0) >>> zc ((q - 1) % 64)) (y := (1 : UInt64)) rfl rfl))] ES fun _ Eg => ?_
  refine ze <| c_e ((zw (((za g ((q - 1) / 64) 0) >>> zc ((q - 1) % 64)) &&& (1 : UInt64)) : Nat) : Int) (1 : Int) Eg (fun ET => ?_) (fun ET => ?_)
  ·
   refine zk <| d_k [0,4,5,6,8,9,33] [] 1 Eg fun _ EU => f_o <| Zp 0 4 (zh (nd (zr f (nv (nd (powM f (nv a) (nv g / 2 ^ q)))) (nv (nd (powM f (nv a) (nv g / 2 ^ q))))))) EU Ec rfl (zf (zl _ _)) fun _ EV => f_o <| Zp 1 4 (zh a) EV Ec rfl (zf ha) fun _ EW => f_o <| c_p EW Ec (hR _ (nd (zr f (nv (nd (powM f (nv a) (nv g / 2 ^ q)))) (nv (nd (powM f (nv a) (nv g / 2 ^ q)))))) a (zl _ _) ha) fun _ _ EX EY => ?_
   refine f_o <| zQ 0 4 (zh (nd (zr f (nv (nd (zr f (nv (nd (powM f (nv a) (nv g / 2 ^ q)))) (nv (nd (powM f (nv a) (nv g / 2 ^ q))))))) (nv a)))) _ EX EY rfl (zf (zl _ _)) (zf (zl _ _)) (zt _) rfl fun _ _ EZ Ej => f_e <| zv <| ze <| d_r [0,4,5,6,8,9] [(1, g_n (w_r (e := ((q - 1 : Nat) : Int) - (1 : Int)) (x := ((q - 1 : Nat) : Int) - (1 : Int)) (by omega)))] EZ fun _ Ek => ze <| ⟨_, ⟨q - 1, (nd (zr f (nv (nd (zr f (nv (nd (powM f (nv a) (nv g / 2 ^ q)))) (nv (nd (powM f (nv a) (nv g / 2 ^ q))))))) (nv a))), rfl, Ek.sb, Ej.pk [0, 1, 2, 3], by omega, (zl _ _), bit_yes hf (by omega) hbv (by assumption)⟩, ?_⟩
   omega
  refine wp_skip <| zv <| ze <| d_r [0,4,5,6,8,9] [(1, g_n (w_r (e := ((q - 1 : Nat) : Int) - (1 : Int)) (x := ((q - 1 : Nat) : Int) - (1 : Int)) (by omega)))] Eg fun _ El => ze <| ⟨_, ⟨q - 1, (nd (zr f (nv (nd (powM f (nv a) (nv g / 2 ^ q)))) (nv (nd (powM f (nv a) (nv g / 2 ^ q)))))), rfl, El.sb, Ec.pk [0, 1, 2, 3], by omega, (zl _ _), bit_no hf (by omega) hbv (by assumption)⟩, ?_⟩
  omega
 refine wp_exit <| zy <| zy <| zL <| ze <| wp_seq ?_
 rw [hxe] at Ea
 refine zk <| f_o <| Zp 0 4 (zh (nd (powM f (nv a) (nv g / 2 ^ q)))) Ef Ea rfl (zf (zl _ _)) fun _ Em => f_o <| zQ 3 4 (zh (nd (powM f (nv a) (nv g / 2 ^ q)))) [.box Ed (zh (nd (powM f (nv a) (nv g / 2 ^ q)))) 33, .box Eo (zh a) 33, .box Eh (zh g) 33, .box Eb (zh (nd (powM f (nv a) (nv g / 2 ^ q)))) 33] Em Ea rfl (zf (zl _ _)) (zf (zi)) (zt _) rfl fun _ _ En Ee => f_e <| ze <| wp_ret <| z9 (v := .agg (zg (zh (nd (powM f (nv a) (nv g / 2 ^ q)))))) (t := 6) (T := 33) (ad := ⟨Eb, 0, none⟩) En (by kernel_rfl) (by kernel_rfl) (zB (t := 33) (k := 3) (off := 0) (m := 4) (xs := zh (nd (powM f (nv a) (nv g / 2 ^ q)))) Ee rfl (zq (zf (zl _ _))) (zf (zl _ _)) (by kernel_rfl) (by kernel_rfl)) ?_
 have hq0 : q = 0 := by omega
 subst hq0
 have eq : nd (powM f (nv a) (nv g / 2 ^ 0)) = nd (powM f (nv a) (nv g)) := by rw [ZX, Yr]
 exact ⟨by rw [eq], Ee.pk []⟩
theorem exp_go (w : World) (f : Int) (hf : f = 1 ∨ f = 2 ∨ f = 3 ∨ f = 4) (hM : MulOk f) (a g : List UInt64) (ha : zb a = 4) (hg : zb g = 4) : Calls Tryz.prog 75 #[.int .i64 f, .agg (zg (zh a)), .agg (zg (zh g))] w fun e w' => e = .returned (.agg (zg (zh (nd (powM f (nv a) (nv g)))))) ∧ Ev w [] w' [] := by
 refine d_0 [(0, .int .i64 f), (1, .agg (zg (zh a))), (2, .agg (zg (zh g)))] 62 Go.Proofs.Tryz.func75 Go.Proofs.Tryz.ntmps75 (Heap.nil _) fun HE HF HG => wp_seq <| zk <| f_o <| m_m 33 (zh a) HF HG fun _ _ Ef HH HI => f_o <| m_m 33 (zh g) HH HI fun _ _ Eg HJ Hn => f_o <| m_z 33 (zh (zd 4 0)) HJ Hn fun _ _ Ec Ho Hp => ?_
 refine f_e <| ze <| wp_seq <| wp_seq <| zk <| d_k [0,4,5,6,12] [] 1 Ho fun _ Hq => f_o <| c_p Hq Hp (is_go_yes _ f hf) fun _ _ Hr Hs => d_e [0,4,5,6,14] [] Hr fun _ Er => ze <| c_f Er ?_
 refine wp_skip <| ze <| wp_seq <| zk <| f_o <| m_z 132 (zh (zd 64 0)) Er Hs fun _ _ Ea Ht Hu => f_e <| ze <| wp_seq <| zk <| d_k [0,4,5,6,7,16,17] [] 2 Ht fun _ Hv => f_o <| m_g 3 0 4 (zh ([1, 0, 0, 0] : List UInt64)) (zh (zn 0 (zd 64 0) ++ ([1, 0, 0, 0] : List UInt64) ++ zo (0 + 4) (zd 64 0))) _ Hv Hu rfl (zf (show zb ([1, 0, 0, 0] : List UInt64) = 4 from rfl)) (by rw [(zf (zi))]; first | decide | (simp; done)) (zt _) (u64s_put _ _ _ _) rfl fun _ _ Hw Hx => f_e <| ze <| wp_seq <| wp_seq <| d_r [0,4,5,6,7,8] [] Hw fun _ Hy => ?_
 refine ze <| wp_block <| ZR (fun Hz ac wo => ∃ (i : Nat) (L : List UInt64), Hz = (17 - i : Nat) ∧ Env ac 62 [(0, .int .i64 f), (4, pt Ef), (5, pt Eg), (6, pt Ec), (7, pt Ea), (8, ni i)] ∧ Ev w [] wo [.box Ea (zh L) 132, .box Ef (zh a) 33, .box Eg (zh g) 33, .box Ec (zh (zd 4 0)) 33] ∧ (1 ≤ i) ∧ (i ≤ 16) ∧ (zb L = 64) ∧ (∀ j, j < i → zn 4 (zo (j * 4) L) = nd (powM f (nv a) j))) ⟨_, 1, (zn 0 (zd 64 0) ++ ([1, 0, 0, 0] : List UInt64) ++ zo (0 + 4) (zd 64 0)), rfl, Hy.sb, Hx.pk [3, 0, 1, 2], by omega, by omega, by rfl, tab_first hf rfl⟩ ?_
 rintro HK _ _ ⟨i, L, rfl, HA, En, h1, hi, hL, hT⟩
 refine wp_seq <| wp_seq <| d_r [0,4,5,6,7,8,19] [] HA fun _ Eq => ?_
 refine ze <| c_d (((i : Nat) : Int) < (16 : Int)) Eq (fun HB => ?_) (fun HB => ?_)
 ·
  refine wp_skip <| ze <| wp_seq <| wp_block <| r_c (fun ac wo => Env ac 62 [(0, .int .i64 f), (4, pt Ef), (5, pt Eg), (6, pt Ec), (7, pt Ea), (8, ni i)] ∧ Ev w [] wo [.box Ea (zh (zn (i * 4) L ++ (nd (zr f (nv (zn 4 (zo ((i - 1) * 4) L))) (nv a))) ++ zo ((i * 4) + 4) L)) 132, .box Ef (zh a) 33, .box Eg (zh g) 33, .box Ec (zh (zd 4 0)) 33]) ?_ ?_
  ·
   refine h_s (fun wv => Ev w [] wv [.box Ea (zh L) 132, .box Ef (zh a) 33]) [9] 10 ?_
   have Ei := En.trans (zO En.heap)
   refine q_s [0,1,2,3] [(3, g_n (w_r (e := ((i : Nat) : Int) - (1 : Int)) (x := ((i - 1 : Nat) : Int)) (by omega)))] 6 Eq (Ei.pk [0, 1]) fun _ Es => q_f 4 (s := Instr.indexAt 132 (pt Ea) (ni (i - 1))) (v := .pointer (some ⟨Ea, (i - 1) * 4, none⟩)) Es (fun _ => Go.Dbr.run_indexarr (e := 33) (sz := 4) (m := 16) (j := i - 1) (o := (i - 1) * 4) (by kernel_rfl) (by kernel_rfl) (by omega) (by omega) (by omega) _) (fun _ => Ei.pk [0, 1]) fun _ Et => q_r 5 (s := Instr.loadAt 33 (.pointer (some ⟨Ea, (i - 1) * 4, none⟩))) (v := .agg (zg (zh (zn 4 (zo ((i - 1) * 4) L))))) Et (fun w hS => zM (m := 4) (cs := zh (zn 4 (zo ((i - 1) * 4) L))) (zf (sub_len hL (by omega))) (by kernel_rfl) (by kernel_rfl) (hS.heap.cells (k := 0) (off := (i - 1) * 4) (m := 4) rfl (u64s_sub _ _ _))) (Ei.pk [0, 1]) fun _ Eu => q_r 6 (s := Instr.loadAt 33 (pt Ef)) (v := .agg (zg (zh a))) Eu (fun w hS => zM (m := 4) (cs := zh a) (zf ha) (by kernel_rfl) (by kernel_rfl) (hS.heap.cells (k := 1) (off := 0) (m := 4) rfl (zq (zf ha)))) (Ei.pk [0, 1]) fun _ Ew => ?_
   refine q_t 7 ?_
   refine c_p Ew Ei (hM _ (zn 4 (zo ((i - 1) * 4) L)) a (sub_len hL (by omega)) ha) fun _ _ Ex Ej => ⟨fun _ => Ej.pk [0, 1], ?_⟩
   refine q_f 8 (s := Instr.indexAt 132 (pt Ea) (ni i)) (v := .pointer (some ⟨Ea, i * 4, none⟩)) Ex (fun _ => Go.Dbr.run_indexarr (e := 33) (sz := 4) (m := 16) (j := i) (o := i * 4) (by kernel_rfl) (by kernel_rfl) (by omega) (by omega) (by omega) _) (fun _ => Ej.pk [0, 1]) fun _ Ey => q_t 9 ?_
   refine m_g 0 (i * 4) 4 (zh (nd (zr f (nv (zn 4 (zo ((i - 1) * 4) L))) (nv a)))) (zh (zn (i * 4) L ++ (nd (zr f (nv (zn 4 (zo ((i - 1) * 4) L))) (nv a))) ++ zo ((i * 4) + 4) L)) [.box Ea (zh (zn (i * 4) L ++ (nd (zr f (nv (zn 4 (zo ((i - 1) * 4) L))) (nv a))) ++ zo ((i * 4) + 4) L)) 132, .box Ef (zh a) 33, .box Eg (zh g) 33, .box Ec (zh (zd 4 0)) 33] Ey Ej rfl (zf (zl _ _)) (by rw [(zf hL)]; omega) (zt _) (u64s_put _ _ _ _) rfl fun _ _ Ez EA => ⟨q_y, ?_⟩
   exact h_e ⟨Ez.sb, EA.pk [0, 1, 2, 3]⟩
  rintro _ _ ⟨EB, EC⟩
  refine zv <| ze <| d_r [0,4,5,6,7,8] [(1, g_n (w_a i 1))] EB fun _ ED => ze <| ⟨_, ⟨i + 1, (zn (i * 4) L ++ (nd (zr f (nv (zn 4 (zo ((i - 1) * 4) L))) (nv a))) ++ zo ((i * 4) + 4) L), rfl, ED.sb, EC.pk [0, 1, 2, 3], by omega, by omega, (put_len hL (zl _ _) (by omega)), tab_step hf h1 hL (by omega) hT⟩, ?_⟩
  omega
 refine wp_exit <| zy <| zy <| zL <| ze <| wp_seq ?_
 have hT16 : ∀ j, j < 16 → zn 4 (zo (j * 4) L) = nd (powM f (nv a) j) := fun j hj => hT j (by omega)
 refine zk <| d_k [0,4,5,6,7,8,31] [] 1 Eq fun _ EE => f_o <| m_a 0 0 4 (zh (zn 4 L)) EE En rfl (by simp [zh, Yu]) (zf (by rw [zs, hL]; decide)) fun _ EF => f_o <| m_z 33 (zh (zd 4 0)) EF En fun _ _ Eb EG EH => f_o <| zQ 4 4 (zh (zn 4 L)) _ EG EH rfl (zf (by rw [zs, hL]; decide)) (zf (zi)) (zt _) rfl fun _ _ EI EJ => ?_
 refine f_e <| ze <| wp_seq <| wp_seq <| d_r [0,4,5,6,7,8,9,10] [] EI fun _ EK => ze <| wp_block <| ZR (fun EL ac wo => ∃ (q : Nat) (x : List UInt64), EL = (q + 1 : Nat) ∧ Env ac 62 [(0, .int .i64 f), (4, pt Ef), (5, pt Eg), (6, pt Ec), (7, pt Ea), (8, ni i), (9, pt Eb), (10, .int .i64 (((q : Nat) : Int) - (1 : Int)))] ∧ Ev w [] wo [.box Eb (zh x) 33, .box Ea (zh L) 132, .box Ef (zh a) 33, .box Eg (zh g) 33, .box Ec (zh (zd 4 0)) 33] ∧ (q ≤ 64) ∧ (zb x = 4) ∧ (x = nd (powM f (nv a) (nv g / 16 ^ q)))) ⟨_, 64, (zn 4 L), rfl, EK.sb, EJ.pk [4, 0, 1, 2, 3], by omega, (by rw [zs, hL]; decide), by rw [div_top4 hg]; exact hT16 0 (by omega)⟩ ?_
 rintro HC _ _ ⟨q, x, rfl, EM, Eh, hq, hx, hxe⟩
 refine wp_seq <| wp_seq <| d_r [0,4,5,6,7,8,9,10,34] [] EM fun _ Ek => ?_
 refine ze <| c_d (((q : Nat) : Int) - (1 : Int) ≥ (0 : Int)) Ek (fun EN => ?_) (fun EN => ?_)
 ·
  refine wp_skip <| ze <| wp_seq <| wp_block <| wp_seq <| wp_seq ?_
  have EO := X4 (t := 10) (v := .int .i64 (((q : Nat) : Int) - (1 : Int))) (u := ni (q - 1)) Ek (congrArg (Value.int .i64) (show ((q : Nat) : Int) - (1 : Int) = ((q - 1 : Nat) : Int) by omega))
  have hbv := nib_at g (q - 1)
  have HL : (za g ((q - 1) / 16) 0 >>> zc (4 * ((q - 1) % 16)) &&& 15).toNat < 16 := by rw [hbv]; omega
  refine d_r [0,4,5,6,7,8,9,10,37] [] EO fun _ EP => ze <| wp_block <| ZR (fun EQ ac wo => ∃ (k : Nat) (y : List UInt64), EQ = (5 - k : Nat) ∧ Env ac 62 [(0, .int .i64 f), (4, pt Ef), (5, pt Eg), (6, pt Ec), (7, pt Ea), (8, ni i), (9, pt Eb), (10, ni (q - 1)), (37, ni k)] ∧ Ev w [] wo [.box Eb (zh y) 33, .box Ea (zh L) 132, .box Ef (zh a) 33, .box Eg (zh g) 33, .box Ec (zh (zd 4 0)) 33] ∧ (k ≤ 4) ∧ (zb y = 4) ∧ (y = nd (powM f (nv a) (2 ^ k * (nv g / 16 ^ q))))) ⟨_, 0, x, rfl, EP.sb, Eh.pk [0, 1, 2, 3, 4], by omega, hx, by rw [hxe, ZX, Nat.one_mul]⟩ ?_
  rintro HD _ _ ⟨k, y, rfl, ER, Ed, hk, hy, hye⟩
  refine wp_seq <| d_r [0,4,5,6,7,8,9,10,37,38] [] ER fun _ El => ?_
  refine ze <| wp_seq <| c_d (((k : Nat) : Int) < (4 : Int)) El (fun ES => ?_) (fun ES => ?_)
  ·
   refine wp_skip <| ze <| wp_seq <| wp_block ?_
   rw [hye] at Ed
   refine zk <| d_k [0,4,5,6,7,8,9,10,37,39] [] 1 El fun _ ET => f_o <| Zp 0 4 (zh (nd (powM f (nv a) (2 ^ k * (nv g / 16 ^ q))))) ET Ed rfl (zf (zl _ _)) fun _ EU => f_o <| Zp 0 4 (zh (nd (powM f (nv a) (2 ^ k * (nv g / 16 ^ q))))) EU Ed rfl (zf (zl _ _)) fun _ EV => f_o <| c_p EV Ed (hM _ (nd (powM f (nv a) (2 ^ k * (nv g / 16 ^ q)))) (nd (powM f (nv a) (2 ^ k * (nv g / 16 ^ q)))) (zl _ _) (zl _ _)) fun _ _ EW EX => ?_
   refine f_o <| zQ 0 4 (zh (nd (zr f (nv (nd (powM f (nv a) (2 ^ k * (nv g / 16 ^ q))))) (nv (nd (powM f (nv a) (2 ^ k * (nv g / 16 ^ q)))))))) [.box Eb (zh (nd (zr f (nv (nd (powM f (nv a) (2 ^ k * (nv g / 16 ^ q))))) (nv (nd (powM f (nv a) (2 ^ k * (nv g / 16 ^ q)))))))) 33, .box Ea (zh L) 132, .box Ef (zh a) 33, .box Eg (zh g) 33, .box Ec (zh (zd 4 0)) 33] EW EX rfl (zf (zl _ _)) (zf (zl _ _)) (zt _) rfl fun _ _ EY EZ => f_e <| zv <| ze <| d_r [0,4,5,6,7,8,9,10,37] [(0, g_n (w_a k 1))] EY fun _ E0 => ze <| ⟨_, ⟨k + 1, (nd (zr f (nv (nd (powM f (nv a) (2 ^ k * (nv g / 16 ^ q))))) (nv (nd (powM f (nv a) (2 ^ k * (nv g / 16 ^ q))))))), rfl, E0.sb, EZ.pk [0, 1, 2, 3, 4], by omega, (zl _ _), sq_step hf⟩, ?_⟩
   omega
  refine wp_exit <| zy <| zy <| zL <| ze <| wp_seq ?_
  have hk4 : k = 4 := by omega
  rw [hye, hk4] at Ed
  refine zk <| d_k [0,4,5,6,7,8,9,10,37,45] [(1, g_i .i64 (show IntKind.wrap .i64 (Int.tdiv ((q - 1 : Nat) : Int) (16 : Int)) = (((q - 1) / 16 : Nat) : Int) from Go.Dbr.i64_quo_nat (a := ((q - 1 : Nat) : Int)) (n := q - 1) (m := 16) rfl (by omega)))] 2 El fun _ E1 => f_o <| q_v (x := Instr.indexAt 33 (pt Eg) (ni ((q - 1) / 16))) (v := .pointer (some ⟨Eg, (q - 1) / 16, none⟩)) E1 (Go.Dbr.run_indexarr (e := 31) (sz := 1) (m := 4) (j := (q - 1) / 16) (o := (q - 1) / 16) (by kernel_rfl) (by kernel_rfl) (by omega) (by omega) (by omega) _) fun _ E2 => f_o ?_
  have E3 : (q - 1) / 16 < zb g := by rw [hg]; omega
  refine m_v 3 ((q - 1) / 16) (zm (za g ((q - 1) / 16) 0)) E2 Ed rfl (zx E3) fun _ E4 => d_k [0,4,5,6,7,8,9,10,37,47,50] [(5, g_i .i64 (show Int.tmod ((q - 1 : Nat) : Int) (16 : Int) = (((q - 1) % 16 : Nat) : Int) from Go.Dbr.i64_rem_nat (a := ((q - 1 : Nat) : Int)) (n := q - 1) (m := 16) rfl (by omega))), (6, g_n (w_m 4 ((q - 1) % 16)))] 7 E4 fun _ E5 => f_o <| q_v E5 (Go.Dbr.run_shr_u64 (za g ((q - 1) / 16) 0) .i64 (4 * ((q - 1) % 16)) (by omega) _) fun _ E6 => d_e [0,4,5,6,7,8,9,10,11,37] [(8, g_i .u64 (Go.Dbr.u64_and (x := (za g ((q - 1) / 16) 0) >>> zc (4 * ((q - 1) % 16))) (y := (15 : UInt64)) rfl rfl))] E6 fun _ E7 => ?_
  refine ze <| wp_seq <| d_r [0,4,5,6,7,8,9,10,11,37,54] [] E7 fun _ Em => ?_
  refine ze <| c_n ((zw (((za g ((q - 1) / 16) 0) >>> zc (4 * ((q - 1) % 16))) &&& (15 : UInt64)) : Nat) : Int) (0 : Int) Em (fun E8 => ?_) (fun E8 => ?_)
  ·
   refine r_c (fun ac wo => Env ac 62 [(0, .int .i64 f), (4, pt Ef), (5, pt Eg), (6, pt Ec), (7, pt Ea), (8, ni i), (9, pt Eb), (10, ni (q - 1)), (11, zm (((za g ((q - 1) / 16) 0) >>> zc (4 * ((q - 1) % 16))) &&& (15 : UInt64))), (37, ni k)] ∧ Ev w [] wo [.box Eb (zh (nd (zr f (nv (nd (powM f (nv a) (2 ^ 4 * (nv g / 16 ^ q))))) (nv (zn 4 (zo ((zw (((za g ((q - 1) / 16) 0) >>> zc (4 * ((q - 1) % 16))) &&& (15 : UInt64))) * 4) L)))))) 33, .box Ea (zh L) 132, .box Ef (zh a) 33, .box Eg (zh g) 33, .box Ec (zh (zd 4 0)) 33]) ?_ ?_
   ·
    refine h_s (fun wv => Ev w [] wv [.box Eb (zh (nd (powM f (nv a) (2 ^ 4 * (nv g / 16 ^ q))))) 33, .box Ea (zh L) 132]) [6] 7 ?_
    have Ee := Ed.trans (zO Ed.heap)
    refine q_s [0] [] 6 Em (Ee.pk [0, 1]) fun _ E9 => q_r 1 (s := Instr.loadAt 33 (pt Eb)) (v := .agg (zg (zh (nd (powM f (nv a) (2 ^ 4 * (nv g / 16 ^ q))))))) E9 (fun w hS => zM (m := 4) (cs := zh (nd (powM f (nv a) (2 ^ 4 * (nv g / 16 ^ q))))) (zf (zl _ _)) (by kernel_rfl) (by kernel_rfl) (hS.heap.cells (k := 0) (off := 0) (m := 4) rfl (zq (zf (zl _ _))))) (Ee.pk [0, 1]) fun _ Ha => q_s [2] [] 4 Ha (Ee.pk [0, 1]) fun _ Hb => q_f 3 (s := Instr.indexAt 132 (pt Ea) (zm (((za g ((q - 1) / 16) 0) >>> zc (4 * ((q - 1) % 16))) &&& (15 : UInt64)))) (v := .pointer (some ⟨Ea, (zw (((za g ((q - 1) / 16) 0) >>> zc (4 * ((q - 1) % 16))) &&& (15 : UInt64))) * 4, none⟩)) Hb (fun _ => Go.Dbr.run_indexarr (e := 33) (sz := 4) (m := 16) (j := zw (((za g ((q - 1) / 16) 0) >>> zc (4 * ((q - 1) % 16))) &&& (15 : UInt64))) (o := (zw (((za g ((q - 1) / 16) 0) >>> zc (4 * ((q - 1) % 16))) &&& (15 : UInt64))) * 4) (by kernel_rfl) (by kernel_rfl) (by omega) (by omega) (by omega) _) (fun _ => Ee.pk [0, 1]) fun _ Hc => ?_
    refine q_r 4 (s := Instr.loadAt 33 (.pointer (some ⟨Ea, (zw (((za g ((q - 1) / 16) 0) >>> zc (4 * ((q - 1) % 16))) &&& (15 : UInt64))) * 4, none⟩))) (v := .agg (zg (zh (zn 4 (zo ((zw (((za g ((q - 1) / 16) 0) >>> zc (4 * ((q - 1) % 16))) &&& (15 : UInt64))) * 4) L))))) Hc (fun w hS => zM (m := 4) (cs := zh (zn 4 (zo ((zw (((za g ((q - 1) / 16) 0) >>> zc (4 * ((q - 1) % 16))) &&& (15 : UInt64))) * 4) L))) (zf (sub_len hL (by omega))) (by kernel_rfl) (by kernel_rfl) (hS.heap.cells (k := 1) (off := (zw (((za g ((q - 1) / 16) 0) >>> zc (4 * ((q - 1) % 16))) &&& (15 : UInt64))) * 4) (m := 4) rfl (u64s_sub _ _ _))) (Ee.pk [0, 1]) fun _ Hd => q_t 5 ?_
    refine c_p Hd Ee (hM _ (nd (powM f (nv a) (2 ^ 4 * (nv g / 16 ^ q)))) (zn 4 (zo ((zw (((za g ((q - 1) / 16) 0) >>> zc (4 * ((q - 1) % 16))) &&& (15 : UInt64))) * 4) L)) (zl _ _) (sub_len hL (by omega))) fun _ _ He Eo => ⟨fun _ => Eo.pk [0, 1], ?_⟩
    refine q_t 6 ?_
    refine zQ 0 4 (zh (nd (zr f (nv (nd (powM f (nv a) (2 ^ 4 * (nv g / 16 ^ q))))) (nv (zn 4 (zo ((zw (((za g ((q - 1) / 16) 0) >>> zc (4 * ((q - 1) % 16))) &&& (15 : UInt64))) * 4) L)))))) _ He Eo rfl (zf (zl _ _)) (zf (zl _ _)) (zt _) rfl fun _ _ Hf Hg => ⟨q_y, ?_⟩
    exact h_e ⟨Hf.sb, Hg.pk [0, 1, 2, 3, 4]⟩
   rintro _ _ ⟨Hh, Hi⟩
   refine zv <| ze <| d_r [0,4,5,6,7,8,9,10,11,37] [(1, g_n (w_r (e := ((q - 1 : Nat) : Int) - (1 : Int)) (x := ((q - 1 : Nat) : Int) - (1 : Int)) (by omega)))] Hh fun _ Hj => ze <| ⟨_, ⟨q - 1, (nd (zr f (nv (nd (powM f (nv a) (2 ^ 4 * (nv g / 16 ^ q))))) (nv (zn 4 (zo ((zw (((za g ((q - 1) / 16) 0) >>> zc (4 * ((q - 1) % 16))) &&& (15 : UInt64))) * 4) L))))), rfl, Hj.sb, Hi.pk [0, 1, 2, 3, 4], by omega, (zl _ _), nib_yes hf (by omega) hbv hT16⟩, ?_⟩
   omega
  refine wp_skip <| zv <| ze <| d_r [0,4,5,6,7,8,9,10,11,37] [(1, g_n (w_r (e := ((q - 1 : Nat) : Int) - (1 : Int)) (x := ((q - 1 : Nat) : Int) - (1 : Int)) (by omega)))] Em fun _ Hk => ze <| ⟨_, ⟨q - 1, (nd (powM f (nv a) (2 ^ 4 * (nv g / 16 ^ q)))), rfl, Hk.sb, Ed.pk [0, 1, 2, 3, 4], by omega, (zl _ _), nib_no (by omega) hbv (by assumption)⟩, ?_⟩
  omega
 refine wp_exit <| zy <| zy <| zL <| ze <| wp_seq ?_
 rw [hxe] at Eh
 refine zk <| f_o <| Zp 0 4 (zh (nd (powM f (nv a) (nv g / 16 ^ q)))) Ek Eh rfl (zf (zl _ _)) fun _ Hl => f_o <| zQ 4 4 (zh (nd (powM f (nv a) (nv g / 16 ^ q)))) [.box Eb (zh (nd (powM f (nv a) (nv g / 16 ^ q)))) 33, .box Ea (zh L) 132, .box Ef (zh a) 33, .box Eg (zh g) 33, .box Ec (zh (nd (powM f (nv a) (nv g / 16 ^ q)))) 33] Hl Eh rfl (zf (zl _ _)) (zf (zi)) (zt _) rfl fun _ _ Hm Ep => f_e <| ze <| wp_ret <| z9 (v := .agg (zg (zh (nd (powM f (nv a) (nv g / 16 ^ q)))))) (t := 6) (T := 33) (ad := ⟨Ec, 0, none⟩) Hm (by kernel_rfl) (by kernel_rfl) (zB (t := 33) (k := 4) (off := 0) (m := 4) (xs := zh (nd (powM f (nv a) (nv g / 16 ^ q)))) Ep rfl (zq (zf (zl _ _))) (zf (zl _ _)) (by kernel_rfl) (by kernel_rfl)) ?_
 have hq0 : q = 0 := by omega
 subst hq0
 have eq : nd (powM f (nv a) (nv g / 16 ^ 0)) = nd (powM f (nv a) (nv g)) := by rw [ZX, Yr]
 exact ⟨by rw [eq], Ep.pk []⟩
theorem inv_go (w : World) (f : Int) (hf : (f = 1 ∨ f = 2 ∨ f = 3 ∨ f = 4)) (hM : MulOk f) (a : List UInt64) (ha : zb a = 4) : Calls Tryz.prog 42 #[.int .i64 f, .agg (zg (zh a))] w fun e w' => e = .returned (.agg (zg (zh (nd (powM f (nv a) (mF f - 2)))))) ∧ Ev w [] w' [] := by
 refine d_0 [(0, .int .i64 f), (1, .agg (zg (zh a)))] 18 Go.Proofs.Tryz.func42 Go.Proofs.Tryz.ntmps42 (Heap.nil _) fun Ex Ey Ez => wp_seq <| zk <| f_o <| m_m 33 (zh a) Ey Ez fun _ _ EA EB EC => f_o <| m_z 33 (zh (zd 4 0)) EB EC fun _ _ Ew ED Ec => f_e <| ze <| wp_seq <| zk <| d_k [0,3,4,8] [] 1 ED fun _ Ed => ?_
 refine f_o <| c_p Ed Ec (modulus_go _ f) fun _ _ Ee Ef => d_k [0,3,4,9,10] [] 3 Ee fun _ Eg => f_o <| c_p Eg Ef (JO _ (nd (mF f)) ([2, 0, 0, 0] : List UInt64) (zl _ _) (show zb ([2, 0, 0, 0] : List UInt64) = 4 from rfl)) fun _ _ Eh Ei => d_k [0,3,4,12,13] [] 7 Eh fun _ Ej => ?_
 refine f_o <| m_z 33 (zh (zd 4 0)) Ej Ei fun _ _ Ek El Em => f_o <| zQ 2 4 (zh (nd (nv (nd (mF f)) + zU - nv ([2, 0, 0, 0] : List UInt64)))) _ El Em rfl (zf (zl _ _)) (zf (zi)) (zt _) rfl fun _ _ En Ea => d_e [0,3,4,5] [] En fun _ Eo => ze <| wp_seq <| zk <| d_k [0,3,4,5,14] [] 1 Eo fun _ Ep => ?_
 refine f_o <| Zp 0 4 (zh a) Ep Ea rfl (zf ha) fun _ Eq => f_o <| Zp 2 4 (zh (nd (nv (nd (mF f)) + zU - nv ([2, 0, 0, 0] : List UInt64)))) Eq Ea rfl (zf (zl _ _)) fun _ Er => f_o <| c_p Er Ea (exp_go _ f hf hM a (nd (nv (nd (mF f)) + zU - nv ([2, 0, 0, 0] : List UInt64))) ha (zl _ _)) fun _ _ Es Et => f_o <| zQ 1 4 (zh (nd (powM f (nv a) (nv (nd (nv (nd (mF f)) + zU - nv ([2, 0, 0, 0] : List UInt64))))))) [.box EA (zh a) 33, .box Ew (zh (nd (powM f (nv a) (nv (nd (nv (nd (mF f)) + zU - nv ([2, 0, 0, 0] : List UInt64))))))) 33, .box Ek (zh (nd (nv (nd (mF f)) + zU - nv ([2, 0, 0, 0] : List UInt64)))) 33] Es Et rfl (zf (zl _ _)) (zf (zi)) (zt _) rfl fun _ _ Eu Eb => ?_
 refine f_e <| ze <| wp_ret <| z9 (v := .agg (zg (zh (nd (powM f (nv a) (nv (nd (nv (nd (mF f)) + zU - nv ([2, 0, 0, 0] : List UInt64))))))))) (t := 4) (T := 33) (ad := ⟨Ew, 0, none⟩) Eu (by kernel_rfl) (by kernel_rfl) (zB (t := 33) (k := 1) (off := 0) (m := 4) (xs := zh (nd (powM f (nv a) (nv (nd (nv (nd (mF f)) + zU - nv ([2, 0, 0, 0] : List UInt64))))))) Eb rfl (zq (zf (zl _ _))) (zf (zl _ _)) (by kernel_rfl) (by kernel_rfl)) ?_
 have eq : nd (powM f (nv a) (nv (nd (nv (nd (mF f)) + zU - nv ([2, 0, 0, 0] : List UInt64))))) = nd (powM f (nv a) (mF f - 2)) := by rw [inv_e hf]
 exact ⟨by rw [eq], Eb.pk []⟩
theorem rinv_go (w : World) (f : Int) (hf : (f = 1 ∨ f = 2 ∨ f = 3 ∨ f = 4)) (hR : RMulOk f) (a : List UInt64) (ha : zb a = 4) : Calls Tryz.prog 77 #[.int .i64 f, .agg (zg (zh a))] w fun e w' => e = .returned (.agg (zg (zh (nd (powM f (nv a) (mF f - 2)))))) ∧ Ev w [] w' [] := by
 refine d_0 [(0, .int .i64 f), (1, .agg (zg (zh a)))] 12 Go.Proofs.Tryz.func77 Go.Proofs.Tryz.ntmps77 (Heap.nil _) fun Er Es Et => wp_seq <| zk <| f_o <| m_m 33 (zh a) Es Et fun _ _ Eq Eu Ew => f_o <| m_z 33 (zh (zd 4 0)) Eu Ew fun _ _ Ep Ex Eg => ?_
 refine f_e <| ze <| wp_seq <| r_c (fun ac wo => Env ac 12 [(4, pt Ep)] ∧ Ev w [] wo [.box Ep (zh (nd (powM f (nv a) (nv (nd (nv (nd (mF f)) + zU - nv ([2, 0, 0, 0] : List UInt64))))))) 33]) ?_ ?_
 ·
  refine h_s (fun wv => Ev w [] wv [.box Eq (zh a) 33]) [] 8 ?_
  have Ea := Eg.trans (zO Eg.heap)
  refine q_s [0] [] 7 Ex (Ea.pk [0]) fun _ Eh => q_r 1 (s := Instr.loadAt 33 (pt Eq)) (v := .agg (zg (zh a))) Eh (fun w hS => zM (m := 4) (cs := zh a) (zf ha) (by kernel_rfl) (by kernel_rfl) (hS.heap.cells (k := 0) (off := 0) (m := 4) rfl (zq (zf ha)))) (Ea.pk [0]) fun _ Ei => q_s [2,4] [] 4 Ei (Ea.pk [0]) fun _ Ej => q_t 3 ?_
  refine c_p Ej Ea (rmodulus_go _ f) fun _ _ Ek Eb => ⟨fun _ => Eb.pk [0], ?_⟩
  refine q_t 5 ?_
  refine c_p Ek Eb (rminus_go _ (nd (mF f)) ([2, 0, 0, 0] : List UInt64) (zl _ _) (show zb ([2, 0, 0, 0] : List UInt64) = 4 from rfl)) fun _ _ El Ec => ⟨fun _ => Ec.pk [0], ?_⟩
  refine q_t 6 ?_
  refine c_p El Ec (rexp_go _ f hf hR a (nd (nv (nd (mF f)) + zU - nv ([2, 0, 0, 0] : List UInt64))) ha (zl _ _)) fun _ _ Em Ed => ⟨fun _ => Ed.pk [0], ?_⟩
  refine q_t 7 ?_
  refine zQ 1 4 (zh (nd (powM f (nv a) (nv (nd (nv (nd (mF f)) + zU - nv ([2, 0, 0, 0] : List UInt64))))))) _ Em Ed rfl (zf (zl _ _)) (zf (zi)) (zt _) rfl fun _ _ En Ee => ⟨fun _ => Ee.pk [0], ?_⟩
  exact h_e ⟨En.sb, Ee.pk [1]⟩
 rintro _ _ ⟨Eo, Ef⟩
 refine ze <| wp_ret <| z9 (v := .agg (zg (zh (nd (powM f (nv a) (nv (nd (nv (nd (mF f)) + zU - nv ([2, 0, 0, 0] : List UInt64))))))))) (t := 4) (T := 33) (ad := ⟨Ep, 0, none⟩) Eo (by kernel_rfl) (by kernel_rfl) (zB (t := 33) (k := 0) (off := 0) (m := 4) (xs := zh (nd (powM f (nv a) (nv (nd (nv (nd (mF f)) + zU - nv ([2, 0, 0, 0] : List UInt64))))))) Ef rfl (zq (zf (zl _ _))) (zf (zl _ _)) (by kernel_rfl) (by kernel_rfl)) ?_
 have eq : nd (powM f (nv a) (nv (nd (nv (nd (mF f)) + zU - nv ([2, 0, 0, 0] : List UInt64))))) = nd (powM f (nv a) (mF f - 2)) := by rw [inv_e hf]
 exact ⟨by rw [eq], Ef.pk []⟩
end Go.Proofs.YtlnogkmnklfjlaaGreatDoor

namespace Go.Proofs.YtlnogkmnklfjlaaGreatDoor
open Go.Dbr
set_option maxRecDepth 100000
set_option maxHeartbeats 2000000
set_option linter.unusedVariables false
set_option linter.unusedSimpArgs false
def field0 (P : Program) (s : TypeId) (i : Nat) (T : TypeId) : Bool := match P.underlying s with
  | some (.struct fs) => (match fs[i]? with
    | some f => (match P.info? f.type with
      | some j => j.size == 0 && P.cellsOf T == 0 && f.offset == 0 && f.byteOffset == 0
      | none => false)
    | none => false)
  | _ => false
theorem _root_.Go.Dbr.Heap.shape0 {w : World} {L : List Ent} (h : Heap w L) {k b : Nat} {T : TypeId} (hk : L[k]? = some (.box b [] T)) : w.shape? b = some (T, 0) := by
  have hh : w.heap[b]? = some (.cells ([] : List Value).toArray T (0, 0)) := h.holds k _ hk
  unfold World.shape?
  rw [hh]
  rfl
theorem run_field0 {P : Program} {s T : TypeId} {b i : Nat} {w : World} (hsh : w.shape? b = some (T, 0)) (h : field0 P s i T = true) : (Instr.fieldAt s (pt b) i).run P w = .ok (pt b) w := by
  unfold field0 at h
  split at h
  · rename_i fs hu
    split at h
    · rename_i f hf
      split at h
      · rename_i j hj
        simp only [Za, beq_iff_eq] at h
        obtain ⟨⟨⟨h1, h2⟩, h3⟩, h4⟩ := h
        simp [Instr.fieldAt, run_underlying hu, hf, Instr.sureAddr, fieldPlace, sizeOf, typeInfo, hj, h1, partAt, byteOf, noView, viewAt, shape, Sem.run, hsh, h2, h3, h4]
      · cases h
    · cases h
  · cases h
theorem dvk_s (l : List UInt64) (k : Nat) : dvk l (k + 1) = dvk l k + (za l k 0).toNat * 18446744073709551616 ^ k := rfl
theorem dvk_ge {l : List UInt64} {j : Nat} {x : UInt64} : ∀ n, n ≤ j → dvk (zp l j x) n = dvk l n
  | 0, _ => rfl
  | n + 1, h => by rw [dvk, dvk, dvk_ge n (by omega), Qt _ (by omega)]
theorem getD_set_eq {l : List UInt64} {j : Nat} (x : UInt64) (h : j < l.length) : za (zp l j x) j 0 = x := by rw [List.getD_eq_getElem?_getD, List.getElem?_set_self h]; rfl
theorem dvk_set {l : List UInt64} {j : Nat} {x : UInt64} (h : j < l.length) : ∀ n, j < n → dvk (zp l j x) n + (za l j 0).toNat * 18446744073709551616 ^ j = dvk l n + x.toNat * 18446744073709551616 ^ j
  | 0, hn => by omega
  | n + 1, hn => by
    rw [dvk, dvk]
    by_cases e : j = n
    · subst e
      rw [dvk_ge _ (ZP _), getD_set_eq x h]
      omega
    · rw [Qt _ e]
      have := dvk_set (x := x) h n (by omega)
      omega
theorem mont_in {a u : List UInt64} {b c : UInt64} {T k : Nat} (hl : u.length = 6) (hk : k < 4) (hv : dvk u 5 + c.toNat * 18446744073709551616 ^ k = T + dvk a k * b.toNat) :
    dvk (zp u k (zV (zV (za a k 0 * b) (za u k 0) 0) c 0)) 5 + (Yh (za a k 0) b + zT (za a k 0 * b) (za u k 0) 0 + zT (zV (za a k 0 * b) (za u k 0) 0) c 0).toNat * 18446744073709551616 ^ (k + 1) = T + dvk a (k + 1) * b.toNat := by
  have e := dvk_set (l := u) (x := zV (zV (za a k 0 * b) (za u k 0) 0) c 0) (j := k) (by omega) 5 (by omega)
  have m := mac_val (x := za a k 0) (y := b) (t := za u k 0) (c := c)
  have m2 := congrArg (· * 18446744073709551616 ^ k) m
  simp only [Zo] at m2
  rw [dvk_s a k, Zo, z8, zZ (18446744073709551616 ^ k) 18446744073709551616, ← Ze, zZ (zw _) 18446744073709551616, X6 (za a k 0).toNat]
  generalize 18446744073709551616 ^ k = q at *
  omega
theorem mont_mid {u : List UInt64} {c : UInt64} {P : Nat} (hl : u.length = 6) (hv : dvk u 5 + c.toNat * 18446744073709551616 ^ 4 = P) :
    dvk (zp (zp u 4 (zV (za u 4 0) c 0)) 5 (zT (za u 4 0) c 0)) 6 = P ∧ (za (zp (zp u 4 (zV (za u 4 0) c 0)) 5 (zT (za u 4 0) c 0)) 5 0).toNat ≤ 1 := by
  rw [getD_set_eq _ (by rw [ZV]; omega)]
  refine ⟨?_, addHi_le (by decide)⟩
  rw [dvk_s _ 5, dvk_ge 5 (ZP _), getD_set_eq _ (by rw [ZV]; omega)]
  have e := dvk_set (l := u) (x := zV (za u 4 0) c 0) (j := 4) (by omega) 5 (by decide)
  have m := add_val (x := za u 4 0) (y := c) (c := 0)
  rw [show (0 : UInt64).toNat = 0 from rfl, Zx] at m
  have m2 := congrArg (· * 18446744073709551616 ^ 4) m
  simp only [Zo] at m2
  rw [show (18446744073709551616 : Nat) ^ 5 = 18446744073709551616 * 18446744073709551616 ^ 4 by decide, ← Ze, zZ (zw _) 18446744073709551616]
  generalize (18446744073709551616 : Nat) ^ 4 = q at *
  omega
theorem mont_first {v w m : List UInt64} {q c bk : UInt64} (hm : (bk.toNat * (za m 0 0).toNat + 1) % 18446744073709551616 = 0) (hq : q = za v 0 0 * bk) (hs : za w 0 0 = za v 0 0) (hc : c.toNat = 0) :
    18446744073709551616 * (dvk w 0 + (Yh q (za m 0 0) + zT (q * za m 0 0) (za w 0 0) 0 + zT (zV (q * za m 0 0) (za w 0 0) 0) c 0).toNat * 18446744073709551616 ^ 0) = dvk v 1 + q.toNat * dvk m 1 := by
  have e := mac_val (x := q) (y := za m 0 0) (t := za w 0 0) (c := c)
  have l1 := lt64 (zV (zV (q * za m 0 0) (za w 0 0) 0) c 0)
  simp only [dvk, ZX, ZA, Nat.zero_add]
  have hz : (q.toNat * (za m 0 0).toNat + (za v 0 0).toNat) % 18446744073709551616 = 0 := by
    rw [hq, UInt64.toNat_mul, YB, YN, ← YB, Ze, show (2 : Nat) ^ 64 = 18446744073709551616 from rfl]
    have : (za v 0 0).toNat * (bk.toNat * (za m 0 0).toNat) + (za v 0 0).toNat = (za v 0 0).toNat * (bk.toNat * (za m 0 0).toNat + 1) := by rw [Qs, ZA]
    rw [this, Qg, hm, Z5, Nat.zero_mod]
  rw [hs, hc] at e
  rw [hs] at l1 ⊢
  generalize q.toNat * (za m 0 0).toNat = p at *
  omega
theorem dvk_rep : dvk (zd 6 0) 5 = 0 := by decide +kernel
theorem mont_i0 {T x : Nat} {a : List UInt64} : T + (0 : UInt64).toNat * 18446744073709551616 ^ 0 = T + dvk a 0 * x := by rw [dvk, Z4, show (0 : UInt64).toNat = 0 from rfl, Z4]
theorem mont_j0 {v m : List UInt64} {q : UInt64} : 18446744073709551616 * (dvk v (0 - 1) + (0 : UInt64).toNat * 18446744073709551616 ^ (0 - 1)) = dvk v 0 + q.toNat * dvk m 0 := by rw [Kz, dvk, dvk, show (0 : UInt64).toNat = 0 from rfl, Z4, Z5, Z5]
theorem mont_c0 {v w m : List UInt64} {q c : UInt64} (hv : 18446744073709551616 * (dvk w (0 - 1) + c.toNat * 18446744073709551616 ^ (0 - 1)) = dvk v 0 + q.toNat * dvk m 0) : c.toNat = 0 := by
  simp only [dvk, Kz, ZX, Z5] at hv
  omega
theorem mont_more {v w m : List UInt64} {q c : UInt64} {k : Nat} (hl : w.length = 6) (hk : k < 4) (h0 : 0 < k) (hs : za w k 0 = za v k 0) (hv : 18446744073709551616 * (dvk w (k - 1) + c.toNat * 18446744073709551616 ^ (k - 1)) = dvk v k + q.toNat * dvk m k) :
    18446744073709551616 * (dvk (zp w (k - 1) (zV (zV (q * za m k 0) (za w k 0) 0) c 0)) k + (Yh q (za m k 0) + zT (q * za m k 0) (za w k 0) 0 + zT (zV (q * za m k 0) (za w k 0) 0) c 0).toNat * 18446744073709551616 ^ k) = dvk v (k + 1) + q.toNat * dvk m (k + 1) := by
  obtain ⟨j, rfl⟩ : ∃ j, k = j + 1 := ⟨k - 1, by omega⟩
  rw [Nat.add_sub_cancel] at *
  have e := mac_val (x := q) (y := za m (j + 1) 0) (t := za w (j + 1) 0) (c := c)
  rw [dvk_s _ j, dvk_ge j (ZP _), getD_set_eq _ (by omega), dvk_s v (j + 1), dvk_s m (j + 1), Qs q.toNat, hs]
  rw [hs] at e
  have e2 := congrArg (· * 18446744073709551616 ^ (j + 1)) e
  simp only [Zo] at e2
  rw [← Ze q.toNat]
  rw [z8] at *
  generalize q.toNat * (za m (j + 1) 0).toNat = p at *
  generalize q.toNat * dvk m (j + 1) = p2 at *
  rw [zZ _ 18446744073709551616] at *
  simp only [← Ze, zZ _ 18446744073709551616] at *
  generalize 18446744073709551616 ^ j = z at *
  simp only [Ze] at *
  omega
theorem mont_out {v w : List UInt64} {c : UInt64} {N : Nat} (hl : w.length = 6) (h4 : za w 4 0 = za v 4 0) (h5 : za w 5 0 = za v 5 0) (h1 : (za v 5 0).toNat ≤ 1) (hv : 18446744073709551616 * (dvk w 3 + c.toNat * 18446744073709551616 ^ 3) = dvk v 4 + N) :
    18446744073709551616 * dvk (zp (zp w 3 (zV (za w 4 0) c 0)) 4 (za (zp w 3 (zV (za w 4 0) c 0)) 5 0 + zT (za w 4 0) c 0)) 5 = dvk v 6 + N := by
  have m := add_val (x := za v 4 0) (y := c) (c := 0)
  have o := addHi_le (x := za v 4 0) (y := c) (c := 0) (by decide)
  rw [show (0 : UInt64).toNat = 0 from rfl, Zx] at m
  have ho : (za v 5 0 + zT (za v 4 0) c 0).toNat = (za v 5 0).toNat + (zT (za v 4 0) c 0).toNat := by
    rw [UInt64.toNat_add]
    omega
  rw [Qt _ (by decide), h4, h5, dvk_s _ 4, dvk_ge 4 (ZP _), getD_set_eq _ (by rw [ZV]; omega), ho]
  rw [dvk_s _ 3, dvk_ge 3 (ZP _), getD_set_eq _ (by omega), dvk_s v 5, dvk_s v 4]
  have m2 := congrArg (· * 18446744073709551616 ^ 4) m
  simp only [Zo, Qs] at m2 hv ⊢
  rw [show (18446744073709551616 : Nat) ^ 5 = 18446744073709551616 * 18446744073709551616 ^ 4 by decide]
  simp only [show (18446744073709551616 : Nat) ^ 4 = 18446744073709551616 * 18446744073709551616 ^ 3 by decide] at *
  generalize (18446744073709551616 : Nat) ^ 3 = q at *
  simp only [Nat.mul_left_comm _ 18446744073709551616] at *
  simp only [Z4, Zx, Ze] at *
  omega
theorem mont_next {M A T T' i : Nat} {b : List UInt64} {q : UInt64} (hA : A < M) (hT : T < 2 * M) (hm : T * 18446744073709551616 ^ i % M = A * dvk b i % M) (h : 18446744073709551616 * T' = T + A * (za b i 0).toNat + q.toNat * M) : T' < 2 * M ∧ T' * 18446744073709551616 ^ (i + 1) % M = A * dvk b (i + 1) % M := by
  constructor
  · have h1 := lt64 q
    have h2 := lt64 (za b i 0)
    have h3 : q.toNat * M ≤ 18446744073709551615 * M := Nat.mul_le_mul_right _ (by omega)
    have h4 : A * (za b i 0).toNat ≤ A * 18446744073709551615 := Nat.mul_le_mul_left _ (by omega)
    generalize q.toNat * M = x at *
    generalize A * (za b i 0).toNat = y at *
    omega
  · have e : T' * 18446744073709551616 ^ (i + 1) = T * 18446744073709551616 ^ i + A * ((za b i 0).toNat * 18446744073709551616 ^ i) + M * (q.toNat * 18446744073709551616 ^ i) := by
      rw [z8, zZ (18446744073709551616 ^ i), ← Ze, zZ T', h, Zo, Zo, Ze A, zZ q.toNat M, Ze M]
    rw [e, Nat.add_mul_mod_self_left, YB, hm, ← YB, ← Qs, dvk]
def montN (r M x y : Nat) : Nat := x * y * r % M
theorem mont_fin {M A T r : Nat} (h : T * zU % M = A % M) (hr : zU * r % M = 1) : T % M = A * r % M := by
  have e : T * (zU * r) % M = A * r % M := by rw [← Ze, Qg, h, ← Qg]
  rw [Qg, hr, ZA, Q4] at e
  exact e
theorem mont_nv {t : List UInt64} : nv [za t 0 0, za t 1 0, za t 2 0, za t 3 0] = dvk t 4 := by
  rw [nv4]
  simp only [dvk, Nat.reducePow]
  omega
theorem mont_yes {M A r : Nat} {t : List UInt64} (hr : zU * r % M = 1) (hm : dvk t 5 * 18446744073709551616 ^ 4 % M = A % M) (h1 : nv [za t 0 0, za t 1 0, za t 2 0, za t 3 0] < M) (h2 : (((za t 4 0).toNat : Nat) : Int) = (0 : Int)) :
    [za t 0 0, za t 1 0, za t 2 0, za t 3 0] = nd (A * r % M) := by
  have e : dvk t 5 = nv [za t 0 0, za t 1 0, za t 2 0, za t 3 0] := by rw [dvk, mont_nv, show (za t 4 0).toNat = 0 by omega, Z4, Zx]
  refine nd_of rfl ?_
  rw [← mont_fin (T := dvk t 5) hm hr, e, zG h1]
theorem mont_no {M A r : Nat} {t : List UInt64} (hM : M < zU) (hr : zU * r % M = 1) (hT : dvk t 5 < 2 * M) (hm : dvk t 5 * 18446744073709551616 ^ 4 % M = A % M) (h1 : ¬ nv [za t 0 0, za t 1 0, za t 2 0, za t 3 0] < M ∨ ¬ (((za t 4 0).toNat : Nat) : Int) = (0 : Int)) :
    nd (nv [za t 0 0, za t 1 0, za t 2 0, za t 3 0] + zU - M) = nd (A * r % M) := by
  have hn := nv_lt (l := [za t 0 0, za t 1 0, za t 2 0, za t 3 0]) rfl
  have e : dvk t 5 = nv [za t 0 0, za t 1 0, za t 2 0, za t 3 0] + (za t 4 0).toNat * zU := by rw [dvk, mont_nv]
  generalize nv [za t 0 0, za t 1 0, za t 2 0, za t 3 0] = N at *
  have e2 : A * r % M = dvk t 5 - M := by
    rw [← mont_fin (T := dvk t 5) hm hr, Nat.mod_eq_sub_mod (by simp only [zU] at *; omega), zG (by omega)]
  rw [e2, ← nd_mod, ← nd_mod (dvk t 5 - M)]
  congr 1
  simp only [zU] at *
  omega
theorem ri4 : zU * 4458503529701987551646482192314240623644693141688353256590997718326214331684 % mF 4 = 1 := by decide +kernel
theorem bk4 : ((15183074304973897243 : UInt64).toNat * (za (nd (mF 4)) 0 0).toNat + 1) % 18446744073709551616 = 0 := by decide +kernel
theorem nvm4 : dvk (nd (mF 4)) 4 = mF 4 := (dvk4 (zl _ _)).trans (JP _)
theorem two4 (a b : Nat) : montN 4458503529701987551646482192314240623644693141688353256590997718326214331684 (mF 4) (montN 4458503529701987551646482192314240623644693141688353256590997718326214331684 (mF 4) a 1627715501170711445284395025044413883736156588369414752970002579683115011841) b = a * b % mF 4 := by
  have h : 1627715501170711445284395025044413883736156588369414752970002579683115011841 * 4458503529701987551646482192314240623644693141688353256590997718326214331684 * 4458503529701987551646482192314240623644693141688353256590997718326214331684 % mF 4 = 1 := by decide +kernel
  have e : a * 1627715501170711445284395025044413883736156588369414752970002579683115011841 * 4458503529701987551646482192314240623644693141688353256590997718326214331684 * b * 4458503529701987551646482192314240623644693141688353256590997718326214331684 = a * b * (1627715501170711445284395025044413883736156588369414752970002579683115011841 * 4458503529701987551646482192314240623644693141688353256590997718326214331684 * 4458503529701987551646482192314240623644693141688353256590997718326214331684) := by ac_rfl
  rw [montN, montN, Ze, YN, ← Ze, e, Qg, h, ZA, Q4]
theorem back4_go (w : World) : Calls Tryz.prog 134 #[.agg #[]] w fun e w' => e = .returned (.int .u64 15183074304973897243) ∧ Ev w [] w' [] := by
 refine d_0 [(0, .agg #[])] 3 Go.Proofs.Tryz.func134 Go.Proofs.Tryz.ntmps134 (Heap.nil _) fun Ea Eb Ec => wp_seq <| zk <| f_o <| m_m 83 [] Eb Ec fun _ _ Eh Ed Ee => d_e [2] [] Ed fun _ Ef => ze <| d_s [2] [] Ef fun _ Eg => ?_
 refine wp_ret <| d_ret1 (t := 2) (v := .int .u64 15183074304973897243) Eg (by kernel_rfl) (by kernel_rfl) ?_
 exact ⟨rfl, Ee.pk []⟩
theorem square4_go (w : World) : Calls Tryz.prog 135 #[.agg #[]] w fun e w' => e = .returned (.agg (zg (zh (nd 1627715501170711445284395025044413883736156588369414752970002579683115011841)))) ∧ Ev w [] w' [] := by
 refine d_0 [(0, .agg #[])] 4 Go.Proofs.Tryz.func135 Go.Proofs.Tryz.ntmps135 (Heap.nil _) fun Ee Ef Eg => wp_seq <| zk <| f_o <| m_m 83 [] Ef Eg fun _ _ El Eh Ei => f_o <| m_z 33 (zh (zd 4 0)) Eh Ei fun _ _ Ej Ek Eb => f_e <| ze <| wp_seq <| zk <| d_k [2,3] [] 1 Ek fun _ Ec => ?_
 refine f_o <| zQ 1 4 (zh ([11819153939886771969, 14991950615390032711, 14910419812499177061, 259310039853996605] : List UInt64)) _ Ec Eb rfl (zf (show zb ([11819153939886771969, 14991950615390032711, 14910419812499177061, 259310039853996605] : List UInt64) = 4 from rfl)) (zf (zi)) (zt _) rfl fun _ _ Ed Ea => f_e <| ze <| wp_ret <| z9 (v := .agg (zg (zh ([11819153939886771969, 14991950615390032711, 14910419812499177061, 259310039853996605] : List UInt64)))) (t := 2) (T := 33) (ad := ⟨Ej, 0, none⟩) Ed (by kernel_rfl) (by kernel_rfl) (zB (t := 33) (k := 1) (off := 0) (m := 4) (xs := zh ([11819153939886771969, 14991950615390032711, 14910419812499177061, 259310039853996605] : List UInt64)) Ea rfl (zq (zf (show zb ([11819153939886771969, 14991950615390032711, 14910419812499177061, 259310039853996605] : List UInt64) = 4 from rfl))) (zf (show zb ([11819153939886771969, 14991950615390032711, 14910419812499177061, 259310039853996605] : List UInt64) = 4 from rfl)) (by kernel_rfl) (by kernel_rfl)) ?_
 exact ⟨by kernel_rfl, Ea.pk []⟩
theorem mont4_go (w : World) (a b : List UInt64) (ha : zb a = 4) (hb : zb b = 4) (hAM : nv a < mF 4) : Calls Tryz.prog 90 #[.agg #[], .agg (zg (zh a)), .agg (zg (zh b))] w fun e w' => e = .returned (.agg (zg (zh (nd (montN 4458503529701987551646482192314240623644693141688353256590997718326214331684 (mF 4) (nv a) (nv b)))))) ∧ Ev w [] w' [] := by
 refine d_0 [(0, .agg #[]), (1, .agg (zg (zh a))), (2, .agg (zg (zh b)))] 159 Go.Proofs.Tryz.func90 Go.Proofs.Tryz.ntmps90 (Heap.nil _) fun b2 b3 b4 => wp_seq <| zk <| f_o <| m_m 85 [] b3 b4 fun _ _ Ep b5 b6 => f_o <| m_m 33 (zh a) b5 b6 fun _ _ Ee b7 bV => f_o <| m_m 33 (zh b) b7 bV fun _ _ Ec bW bX => ?_
 refine f_o <| m_z 33 (zh (zd 4 0)) bW bX fun _ _ Ed bY E9 => ?_
 refine f_e <| ze <| wp_seq <| r_c (fun ac wo => ∃ (Eb : Nat), Env ac 159 [(4, pt Ee), (5, pt Ec), (6, pt Ed), (7, pt Eb), (8, .int .u64 15183074304973897243)] ∧ Ev w [] wo [.box Ee (zh a) 33, .box Ec (zh b) 33, .box Ed (zh (zd 4 0)) 33, .box Eb (zh (nd (mF 4))) 33]) ?_ ?_
 ·
  refine h_s (fun wv => Ev w [] wv [.box Ep [] 85]) [] 11 ?_
  have Ej := E9.trans (zO E9.heap)
  refine h_name fun G hG => ?_
  have nd539 : ∀ (ac : Act) (wo : World), Env ac 159 [(4, pt Ee), (5, pt Ec), (6, pt Ed), (28, .agg (zg (zh (nd (mF 4))))), (32, .int .u64 15183074304973897243)] → Ev w [] wo [.box Ep [] 85, .box Ee (zh a) 33, .box Ec (zh b) 33, .box Ed (zh (zd 4 0)) 33] → G 3 #[true, true, true, true, true, true, true, true, false, false, false] ac wo := by
   intro _ _ Ha Hb
   refine Zl hG ?_
   refine q_t 8 ?_
   refine m_z 33 (zh (zd 4 0)) Ha Hb fun _ _ Hc Hd EH => ⟨fun _ => EH.pk [0], ?_⟩
   refine q_t 9 ?_
   refine zQ 4 4 (zh (nd (mF 4))) _ Hd EH rfl (zf (zl _ _)) (zf (zi)) (zt _) rfl fun _ _ He Eq => ⟨fun _ => Eq.pk [0], ?_⟩
   refine q_s [10] [] 0 He (Eq.pk [0]) fun _ Hf => ?_
   exact h_e ⟨Hc, Hf.sb, Eq.pk [1, 2, 3, 4]⟩
  have nd555 : ∀ (ac : Act) (wo : World) (Ek : Nat), Env ac 159 [(4, pt Ee), (5, pt Ec), (6, pt Ed), (7, pt Ek), (28, .agg (zg (zh (nd (mF 4))))), (31, .iface 83 (.agg #[]))] → Ev w [] wo [.box Ep [] 85, .box Ee (zh a) 33, .box Ec (zh b) 33, .box Ed (zh (zd 4 0)) 33, .box Ek (zh (zd 4 0)) 33] → G 3 #[true, true, true, true, true, true, true, false, true, false, false] ac wo := by
   intro _ _ Ek Hg Hh
   refine Zl hG ?_
   refine q_t 7 ?_
   refine c_p Hg Hh (back4_go _) fun _ _ Hi EI => ⟨fun _ => EI.pk [0], ?_⟩
   refine q_t 9 ?_
   refine zQ 4 4 (zh (nd (mF 4))) [.box Ep [] 85, .box Ee (zh a) 33, .box Ec (zh b) 33, .box Ed (zh (zd 4 0)) 33, .box Ek (zh (nd (mF 4))) 33] Hi EI rfl (zf (zl _ _)) (zf (zi)) (zt _) rfl fun _ _ Hj Er => ⟨fun _ => Er.pk [0], ?_⟩
   refine q_s [10] [] 0 Hj (Er.pk [0]) fun _ Hk => ?_
   exact h_e ⟨Ek, Hk.sb, Er.pk [1, 2, 3, 4]⟩
  have nd573 : ∀ (ac : Act) (wo : World), Env ac 159 [(4, pt Ee), (5, pt Ec), (6, pt Ed), (28, .agg (zg (zh (nd (mF 4))))), (31, .iface 83 (.agg #[]))] → Ev w [] wo [.box Ep [] 85, .box Ee (zh a) 33, .box Ec (zh b) 33, .box Ed (zh (zd 4 0)) 33] → G 4 #[true, true, true, true, true, true, true, false, false, false, false] ac wo := by
   intro _ _ EJ EK
   refine Zl hG ?_
   refine h_ways [7, 8] (by kernel_rfl) rfl ?_
   refine ⟨?_, ?_, trivial⟩
   ·
    rintro _ rfl
    refine c_p EJ EK (back4_go _) fun _ _ Hl EL => ⟨fun _ => EL.pk [0], ?_⟩
    exact h_to hG (by kernel_rfl) (nd539 _ _ (Hl.sb) (EL.pk [0, 1, 2, 3]))
   rintro _ rfl
   refine m_z 33 (zh (zd 4 0)) EJ EK fun _ _ Hm Hn EM => ⟨fun _ => EM.pk [0], ?_⟩
   exact h_to hG (by kernel_rfl) (nd555 _ _ Hm (Hn.sb) (EM.pk [0, 1, 2, 3, 4]))
  have nd590 : ∀ (ac : Act) (wo : World) (Em : Nat), Env ac 159 [(4, pt Ee), (5, pt Ec), (6, pt Ed), (7, pt Em), (27, .iface 83 (.agg #[])), (31, .iface 83 (.agg #[]))] → Ev w [] wo [.box Ep [] 85, .box Ee (zh a) 33, .box Ec (zh b) 33, .box Ed (zh (zd 4 0)) 33, .box Em (zh (zd 4 0)) 33] → G 4 #[true, true, true, false, true, true, true, false, true, false, false] ac wo := by
   intro _ _ Em Ho Hp
   refine Zl hG ?_
   refine q_t 3 ?_
   refine c_p Ho Hp (prime4_go _) fun _ _ Hq EN => ⟨fun _ => EN.pk [0], ?_⟩
   refine q_t 7 ?_
   refine c_p Hq EN (back4_go _) fun _ _ Hr EO => ⟨fun _ => EO.pk [0], ?_⟩
   refine q_t 9 ?_
   refine zQ 4 4 (zh (nd (mF 4))) _ Hr EO rfl (zf (zl _ _)) (zf (zi)) (zt _) rfl fun _ _ Hs Es => ⟨fun _ => Es.pk [0], ?_⟩
   refine q_s [10] [] 0 Hs (Es.pk [0]) fun _ Ht => ?_
   exact h_e ⟨Em, Ht.sb, Es.pk [1, 2, 3, 4]⟩
  refine Zl hG ?_
  refine q_r 0 (s := Instr.fieldAt 85 (pt Ep) 0) (v := pt Ep) bY (fun w hS => run_field0 (hS.heap.shape0 (k := 0) rfl) (by kernel_rfl)) (Ej.pk [0]) fun _ Hu => q_r 1 (s := Instr.loadAt 83 (pt Ep)) (v := .agg #[]) Hu (fun w hS => zM (m := 0) (cs := []) rfl (by kernel_rfl) (by kernel_rfl) (hS.heap.cells (k := 0) (off := 0) (m := 0) rfl rfl)) (Ej.pk [0]) fun _ Hv => q_s [2] [] 8 Hv (Ej.pk [0]) fun _ Hw => q_r 4 (s := Instr.fieldAt 85 (pt Ep) 0) (v := pt Ep) Hw (fun w hS => run_field0 (hS.heap.shape0 (k := 0) rfl) (by kernel_rfl)) (Ej.pk [0]) fun _ Hx => ?_
  refine q_r 5 (s := Instr.loadAt 83 (pt Ep)) (v := .agg #[]) Hx (fun w hS => zM (m := 0) (cs := []) rfl (by kernel_rfl) (by kernel_rfl) (hS.heap.cells (k := 0) (off := 0) (m := 0) rfl rfl)) (Ej.pk [0]) fun _ Hy => q_s [6] [] 5 Hy (Ej.pk [0]) fun _ EP => h_ways [3, 8] (by kernel_rfl) rfl ?_
  refine ⟨?_, ?_, trivial⟩
  ·
   rintro _ rfl
   refine c_p EP Ej (prime4_go _) fun _ _ Hz EQ => ⟨fun _ => EQ.pk [0], ?_⟩
   exact h_to hG (by kernel_rfl) (nd573 _ _ (Hz.sb) (EQ.pk [0, 1, 2, 3]))
  rintro _ rfl
  refine m_z 33 (zh (zd 4 0)) EP Ej fun _ _ HA HB ER => ⟨fun _ => ER.pk [0], ?_⟩
  exact h_to hG (by kernel_rfl) (nd590 _ _ HA (HB.sb) (ER.pk [0, 1, 2, 3, 4]))
 rintro _ _ ⟨Eb, HC, HD⟩
 refine ze <| wp_seq <| zk <| f_o <| m_z 137 (zh (zd 6 0)) HC HD fun _ _ Ea HE HF => f_e <| ze <| wp_seq <| wp_seq <| d_r [4,5,6,7,8,9,33] [] HE fun _ HG => ze <| wp_block <| ZR (fun HH ac wo => ∃ (i : Nat) (t : List UInt64), HH = (5 - i : Nat) ∧ Env ac 159 [(4, pt Ee), (5, pt Ec), (6, pt Ed), (7, pt Eb), (8, .int .u64 15183074304973897243), (9, pt Ea), (33, ni i)] ∧ Ev w [] wo [.box Ea (zh t) 137, .box Ee (zh a) 33, .box Ec (zh b) 33, .box Ed (zh (zd 4 0)) 33, .box Eb (zh (nd (mF 4))) 33] ∧ (i ≤ 4) ∧ (zb t = 6) ∧ (dvk t 5 < 2 * mF 4) ∧ (dvk t 5 * 18446744073709551616 ^ i % mF 4 = nv a * dvk b i % mF 4)) ⟨_, 0, zd 6 0, rfl, HG.sb, HF.pk [4, 0, 1, 2, 3], by omega, (zi), (by rw [dvk_rep]; decide), (by rw [dvk_rep, dvk, Z4, Z5])⟩ ?_
 rintro bZ _ _ ⟨i, t, rfl, HI, Eh, hi, hlt, hT, hm⟩
 refine wp_seq <| d_r [4,5,6,7,8,9,33,34] [] HI fun _ Et => ?_
 refine ze <| wp_seq <| c_d (((i : Nat) : Int) < (4 : Int)) Et (fun HJ => ?_) (fun HJ => ?_)
 ·
  refine wp_skip <| ze <| wp_seq <| wp_block <| wp_seq <| d_r [4,5,6,7,8,9,10,33] [] Et fun _ HK => ze <| wp_seq <| d_r [4,5,6,7,8,9,10,11,33] [] HK fun _ HL => ze <| wp_seq <| wp_seq <| d_r [4,5,6,7,8,9,10,11,33,36] [] HL fun _ HM => ze <| wp_block <| ZR (fun HN ac wo => ∃ (k : Nat) (u : List UInt64) (c : UInt64), HN = (5 - k : Nat) ∧ Env ac 159 [(4, pt Ee), (5, pt Ec), (6, pt Ed), (7, pt Eb), (8, .int .u64 15183074304973897243), (9, pt Ea), (10, ni i), (11, zm c), (33, ni i), (36, ni k)] ∧ Ev w [] wo [.box Ea (zh u) 137, .box Ee (zh a) 33, .box Ec (zh b) 33, .box Ed (zh (zd 4 0)) 33, .box Eb (zh (nd (mF 4))) 33] ∧ (k ≤ 4) ∧ (zb u = 6) ∧ (dvk u 5 + c.toNat * 18446744073709551616 ^ k = dvk t 5 + dvk a k * (za b i 0).toNat)) ⟨_, 0, t, 0, rfl, HM.sb, Eh.pk [0, 1, 2, 3, 4], by omega, hlt, mont_i0⟩ ?_
  rintro b0 _ _ ⟨k, u, c, rfl, HO, En, hk, hlu, hu⟩
  refine wp_seq <| d_r [4,5,6,7,8,9,10,11,33,36,37] [] HO fun _ Eu => ?_
  refine ze <| wp_seq <| c_d (((k : Nat) : Int) < (4 : Int)) Eu (fun HP => ?_) (fun HP => ?_)
  ·
   refine wp_skip <| ze <| wp_seq <| wp_block <| wp_seq <| d_r [4,5,6,7,8,9,10,11,12,33,36] [] Eu fun _ HQ => ?_
   refine ze <| wp_seq <| r_c (fun ac wo => Env ac 159 [(4, pt Ee), (5, pt Ec), (6, pt Ed), (7, pt Eb), (8, .int .u64 15183074304973897243), (9, pt Ea), (10, ni i), (11, zm c), (12, ni k), (13, zm (Yh (za a k 0) (za b i 0))), (14, zm ((za a k 0) * (za b i 0))), (33, ni i), (36, ni k)] ∧ Ev w [] wo [.box Ea (zh u) 137, .box Ee (zh a) 33, .box Ec (zh b) 33, .box Ed (zh (zd 4 0)) 33, .box Eb (zh (nd (mF 4))) 33]) ?_ ?_
   ·
    refine h_s (fun wv => Ev w [] wv [.box Ee (zh a) 33, .box Ec (zh b) 33]) [] 12 ?_
    have Eg := En.trans (zO En.heap)
    refine q_s [0] [] 11 HQ (Eg.pk [1, 2]) fun _ HR => q_f 1 (s := Instr.indexAt 33 (pt Ee) (ni k)) (v := .pointer (some ⟨Ee, k, none⟩)) HR (fun _ => Go.Dbr.run_indexarr (e := 31) (sz := 1) (m := 4) (j := k) (o := k) (by kernel_rfl) (by kernel_rfl) (by omega) (by omega) (by omega) _) (fun _ => Eg.pk [1, 2]) fun _ HS => ?_
    have HT : k < zb a := by rw [ha]; omega
    refine q_r 2 (s := Instr.loadAt 31 (.pointer (some ⟨Ee, k, none⟩))) (v := zm (za a k 0)) HS (fun w hS => run_load1 (by kernel_rfl) (hS.heap.cell (k := 0) rfl (zx HT))) (Eg.pk [1, 2]) fun _ HU => q_s [3] [] 8 HU (Eg.pk [1, 2]) fun _ HV => q_f 4 (s := Instr.indexAt 33 (pt Ec) (ni i)) (v := .pointer (some ⟨Ec, i, none⟩)) HV (fun _ => Go.Dbr.run_indexarr (e := 31) (sz := 1) (m := 4) (j := i) (o := i) (by kernel_rfl) (by kernel_rfl) (by omega) (by omega) (by omega) _) (fun _ => Eg.pk [1, 2]) fun _ HW => ?_
    have HX : i < zb b := by rw [hb]; omega
    refine q_r 5 (s := Instr.loadAt 31 (.pointer (some ⟨Ec, i, none⟩))) (v := zm (za b i 0)) HW (fun w hS => run_load1 (by kernel_rfl) (hS.heap.cell (k := 1) rfl (zx HX))) (Eg.pk [1, 2]) fun _ HY => q_t 6 ?_
    refine c_p HY Eg (mul_go _ (za a k 0) (za b i 0)) fun _ _ HZ Ew => ⟨fun _ => Ew.pk [1, 2], ?_⟩
    refine q_s [7,8,9,10,11] [] 0 HZ (Ew.pk [1, 2]) fun _ H0 => ?_
    exact h_e ⟨H0.sb, Ew.pk [0, 1, 2, 3, 4]⟩
   rintro _ _ ⟨H1, ES⟩
   refine ze <| wp_seq <| zk <| d_k [4,5,6,7,8,9,10,11,12,13,14,33,36,50,51] [] 2 H1 fun _ H2 => f_o <| q_v (x := Instr.indexAt 137 (pt Ea) (ni k)) (v := .pointer (some ⟨Ea, k, none⟩)) H2 (Go.Dbr.run_indexarr (e := 31) (sz := 1) (m := 6) (j := k) (o := k) (by kernel_rfl) (by kernel_rfl) (by omega) (by omega) (by omega) _) fun _ H3 => f_o ?_
   have H4 : k < zb u := by rw [hlu]; omega
   refine m_v 0 k (zm (za u k 0)) H3 ES rfl (zx H4) fun _ H5 => f_o <| Xk (d := some 54) (f := 85) (args := #[zm ((za a k 0) * (za b i 0)), zm (za u k 0), zm (0 : UInt64)]) (v := .tuple #[zm (zV ((za a k 0) * (za b i 0)) (za u k 0) (0 : UInt64)), zm (zT ((za a k 0) * (za b i 0)) (za u k 0) (0 : UInt64))]) H5 (by kernel_rfl) (Go.Dbr.ext_add64 Go.Proofs.Tryz.func85 (by kernel_rfl) (by kernel_rfl) (by kernel_rfl) (by kernel_rfl) ((za a k 0) * (za b i 0)) (za u k 0) (0 : UInt64) (by decide)) ?_
   intro _ H6
   refine d_e [4,5,6,7,8,9,10,11,12,13,14,15,33,36] [] H6 fun _ H7 => ze <| wp_seq <| zk <| d_k [4,5,6,7,8,9,10,11,12,13,14,15,33,36,58,59] [] 2 H7 fun _ H8 => f_o <| Xk (d := some 60) (f := 85) (args := #[zm (zV ((za a k 0) * (za b i 0)) (za u k 0) (0 : UInt64)), zm c, zm (0 : UInt64)]) (v := .tuple #[zm (zV (zV ((za a k 0) * (za b i 0)) (za u k 0) (0 : UInt64)) c (0 : UInt64)), zm (zT (zV ((za a k 0) * (za b i 0)) (za u k 0) (0 : UInt64)) c (0 : UInt64))]) H8 (by kernel_rfl) (Go.Dbr.ext_add64 Go.Proofs.Tryz.func85 (by kernel_rfl) (by kernel_rfl) (by kernel_rfl) (by kernel_rfl) (zV ((za a k 0) * (za b i 0)) (za u k 0) (0 : UInt64)) c (0 : UInt64) (by decide)) ?_
   intro _ H9
   refine d_e [4,5,6,7,8,9,10,11,12,13,14,15,16,33,36] [] H9 fun _ aa => ze <| zk <| d_k [4,5,6,7,8,9,10,11,12,14,33,36,63,64,69] [(4, g_i .u64 (Go.Dbr.u64_add (x := Yh (za a k 0) (za b i 0)) (y := zT ((za a k 0) * (za b i 0)) (za u k 0) (0 : UInt64)) rfl rfl)), (6, g_i .u64 (Go.Dbr.u64_add (x := (Yh (za a k 0) (za b i 0)) + (zT ((za a k 0) * (za b i 0)) (za u k 0) (0 : UInt64))) (y := zT (zV ((za a k 0) * (za b i 0)) (za u k 0) (0 : UInt64)) c (0 : UInt64)) rfl rfl))] 7 aa fun _ ab => f_o <| q_v (x := Instr.indexAt 137 (pt Ea) (ni k)) (v := .pointer (some ⟨Ea, k, none⟩)) ab (Go.Dbr.run_indexarr (e := 31) (sz := 1) (m := 6) (j := k) (o := k) (by kernel_rfl) (by kernel_rfl) (by omega) (by omega) (by omega) _) fun _ ae => f_o ?_
   have af : k < zb u := by rw [hlu]; omega
   refine m_t 0 k (zm (zV (zV ((za a k 0) * (za b i 0)) (za u k 0) (0 : UInt64)) c (0 : UInt64))) [.box Ea (zh (zp u k (zV (zV ((za a k 0) * (za b i 0)) (za u k 0) (0 : UInt64)) c (0 : UInt64)))) 137, .box Ee (zh a) 33, .box Ec (zh b) 33, .box Ed (zh (zd 4 0)) 33, .box Eb (zh (nd (mF 4))) 33] ae ES rfl (zx af) (ZU _ _ _) rfl fun _ _ ag ah => d_e [4,5,6,7,8,9,10,11,12,14,33,36] [] ag fun _ ai => zv <| ze <| d_r [4,5,6,7,8,9,10,11,12,14,33,36] [(0, g_n (w_a k 1))] ai fun _ aj => ze <| ⟨_, ⟨k + 1, (zp u k (zV (zV ((za a k 0) * (za b i 0)) (za u k 0) (0 : UInt64)) c (0 : UInt64))), (((Yh (za a k 0) (za b i 0)) + (zT ((za a k 0) * (za b i 0)) (za u k 0) (0 : UInt64))) + (zT (zV ((za a k 0) * (za b i 0)) (za u k 0) (0 : UInt64)) c (0 : UInt64))), rfl, aj.sb, ah.pk [0, 1, 2, 3, 4], by omega, (List.length_set.trans hlu), mont_in hlu (by omega) hu⟩, ?_⟩
   omega
  refine wp_exit <| zy <| zy <| zL <| ze <| wp_seq ?_
  have hk4 : k = 4 := by omega
  rw [hk4] at hu
  have hmid := mont_mid hlu hu
  refine zk <| d_k [4,5,6,7,8,9,10,11,33,36,73] [] 1 Eu fun _ ak => f_o ?_
  have al : 4 < zb u := by rw [hlu]; omega
  refine m_v 0 4 (zm (za u 4 0)) ak En rfl (zx al) fun _ am => d_k [4,5,6,7,8,9,10,11,33,36,74,75] [] 3 am fun _ an => f_o <| Xk (d := some 76) (f := 85) (args := #[zm (za u 4 0), zm c, zm (0 : UInt64)]) (v := .tuple #[zm (zV (za u 4 0) c (0 : UInt64)), zm (zT (za u 4 0) c (0 : UInt64))]) an (by kernel_rfl) (Go.Dbr.ext_add64 Go.Proofs.Tryz.func85 (by kernel_rfl) (by kernel_rfl) (by kernel_rfl) (by kernel_rfl) (za u 4 0) c (0 : UInt64) (by decide)) ?_
  intro _ ao
  refine d_k [4,5,6,7,8,9,10,11,33,36,77,78,79] [] 8 ao fun _ ap => f_o ?_
  have aq : 4 < zb u := by rw [hlu]; omega
  refine m_t 0 4 (zm (zV (za u 4 0) c (0 : UInt64))) _ ap En rfl (zx aq) (ZU _ _ _) rfl fun _ _ ar au => d_k [4,5,6,7,8,9,10,11,33,36,78,80] [] 10 ar fun _ av => f_o ?_
  have aw : 5 < zb (zp u 4 (zV (za u 4 0) c (0 : UInt64))) := by rw [(List.length_set.trans hlu)]; omega
  refine m_t 0 5 (zm (zT (za u 4 0) c (0 : UInt64))) [.box Ea (zh (zp (zp u 4 (zV (za u 4 0) c (0 : UInt64))) 5 (zT (za u 4 0) c (0 : UInt64)))) 137, .box Ee (zh a) 33, .box Ec (zh b) 33, .box Ed (zh (zd 4 0)) 33, .box Eb (zh (nd (mF 4))) 33] av au rfl (zx aw) (ZU _ _ _) rfl fun _ _ ax Ex => f_e <| ze <| wp_seq ?_
  have hlv : zb (zp (zp u 4 (zV (za u 4 0) c (0 : UInt64))) 5 (zT (za u 4 0) c (0 : UInt64))) = 6 := by rw [ZV, ZV]; exact hlu
  generalize hve : zp (zp u 4 (zV (za u 4 0) c (0 : UInt64))) 5 (zT (za u 4 0) c (0 : UInt64)) = v at hmid hlv Ex
  obtain ⟨hvP, hv5⟩ := hmid
  refine zk <| d_k [4,5,6,7,8,9,10,11,33,36,81] [] 1 ax fun _ ay => f_o ?_
  have az : 0 < zb v := by rw [hlv]; omega
  refine m_v 0 0 (zm (za v 0 0)) ay Ex rfl (zx az) fun _ aA => d_e [4,5,6,7,8,9,10,11,17,33,36] [(3, g_i .u64 (Go.Dbr.u64_mul (x := za v 0 0) (y := (15183074304973897243 : UInt64)) rfl rfl))] aA fun _ aB => ze <| wp_seq ?_
  obtain ⟨q, hqe⟩ : ∃ q, q = (za v 0 0) * (15183074304973897243 : UInt64) := ⟨_, rfl⟩
  have aC := X4 (t := 17) (v := zm ((za v 0 0) * (15183074304973897243 : UInt64))) (u := zm q) aB (by rw [hqe])
  refine d_r [4,5,6,7,8,9,10,11,17,33,36] [] aC fun _ aD => ze <| wp_seq <| wp_seq <| d_r [4,5,6,7,8,9,10,11,17,33,36,85] [] aD fun _ aE => ze <| wp_block <| ZR (fun aF ac wo => ∃ (j : Nat) (w5 : List UInt64) (c : UInt64), aF = (5 - j : Nat) ∧ Env ac 159 [(4, pt Ee), (5, pt Ec), (6, pt Ed), (7, pt Eb), (8, .int .u64 15183074304973897243), (9, pt Ea), (10, ni i), (11, zm c), (17, zm q), (33, ni i), (36, ni k), (85, ni j)] ∧ Ev w [] wo [.box Ea (zh w5) 137, .box Ee (zh a) 33, .box Ec (zh b) 33, .box Ed (zh (zd 4 0)) 33, .box Eb (zh (nd (mF 4))) 33] ∧ (j ≤ 4) ∧ (zb w5 = 6) ∧ (18446744073709551616 * (dvk w5 (j - 1) + c.toNat * 18446744073709551616 ^ (j - 1)) = dvk v j + q.toNat * dvk (nd (mF 4)) j) ∧ (∀ x, j ≤ x → za w5 x 0 = za v x 0)) ⟨_, 0, v, 0, rfl, aE.sb, Ex.pk [0, 1, 2, 3, 4], by omega, hlv, mont_j0, fun _ _ => rfl⟩ ?_
  rintro b1 _ _ ⟨j, w5, c, rfl, aG, Eo, hj, hlw, hv2, hs⟩
  refine wp_seq <| d_r [4,5,6,7,8,9,10,11,17,33,36,85,86] [] aG fun _ Ey => ?_
  refine ze <| wp_seq <| c_d (((j : Nat) : Int) < (4 : Int)) Ey (fun aH => ?_) (fun aH => ?_)
  ·
   refine wp_skip <| ze <| wp_seq <| wp_block <| wp_seq <| d_r [4,5,6,7,8,9,10,11,17,18,33,36,85] [] Ey fun _ aI => ze <| wp_seq <| zk <| d_k [4,5,6,7,8,9,10,11,17,18,33,36,85,89,90] [] 2 aI fun _ aJ => f_o <| q_v (x := Instr.indexAt 33 (pt Eb) (ni j)) (v := .pointer (some ⟨Eb, j, none⟩)) aJ (Go.Dbr.run_indexarr (e := 31) (sz := 1) (m := 4) (j := j) (o := j) (by kernel_rfl) (by kernel_rfl) (by omega) (by omega) (by omega) _) fun _ aK => f_o ?_
   have aL : j < zb (nd (mF 4)) := by rw [(zl _ _)]; omega
   refine m_v 4 j (zm (za (nd (mF 4)) j 0)) aK Eo rfl (zx aL) fun _ aM => f_o <| c_p aM Eo (mul_go _ q (za (nd (mF 4)) j 0)) fun _ _ aN Ez => d_e [4,5,6,7,8,9,10,11,17,18,19,20,33,36,85] [] aN fun _ aO => ze <| wp_seq <| zk <| d_k [4,5,6,7,8,9,10,11,17,18,19,20,33,36,85,97,98] [] 2 aO fun _ aP => ?_
   refine f_o <| q_v (x := Instr.indexAt 137 (pt Ea) (ni j)) (v := .pointer (some ⟨Ea, j, none⟩)) aP (Go.Dbr.run_indexarr (e := 31) (sz := 1) (m := 6) (j := j) (o := j) (by kernel_rfl) (by kernel_rfl) (by omega) (by omega) (by omega) _) fun _ aQ => f_o ?_
   have aR : j < zb w5 := by rw [hlw]; omega
   refine m_v 0 j (zm (za w5 j 0)) aQ Ez rfl (zx aR) fun _ aS => f_o <| Xk (d := some 101) (f := 85) (args := #[zm (q * (za (nd (mF 4)) j 0)), zm (za w5 j 0), zm (0 : UInt64)]) (v := .tuple #[zm (zV (q * (za (nd (mF 4)) j 0)) (za w5 j 0) (0 : UInt64)), zm (zT (q * (za (nd (mF 4)) j 0)) (za w5 j 0) (0 : UInt64))]) aS (by kernel_rfl) (Go.Dbr.ext_add64 Go.Proofs.Tryz.func85 (by kernel_rfl) (by kernel_rfl) (by kernel_rfl) (by kernel_rfl) (q * (za (nd (mF 4)) j 0)) (za w5 j 0) (0 : UInt64) (by decide)) ?_
   intro _ aT
   refine d_e [4,5,6,7,8,9,10,11,17,18,19,20,21,33,36,85] [] aT fun _ aU => ze <| wp_seq <| zk <| d_k [4,5,6,7,8,9,10,11,17,18,19,20,21,33,36,85,105,106] [] 2 aU fun _ aV => f_o <| Xk (d := some 107) (f := 85) (args := #[zm (zV (q * (za (nd (mF 4)) j 0)) (za w5 j 0) (0 : UInt64)), zm c, zm (0 : UInt64)]) (v := .tuple #[zm (zV (zV (q * (za (nd (mF 4)) j 0)) (za w5 j 0) (0 : UInt64)) c (0 : UInt64)), zm (zT (zV (q * (za (nd (mF 4)) j 0)) (za w5 j 0) (0 : UInt64)) c (0 : UInt64))]) aV (by kernel_rfl) (Go.Dbr.ext_add64 Go.Proofs.Tryz.func85 (by kernel_rfl) (by kernel_rfl) (by kernel_rfl) (by kernel_rfl) (zV (q * (za (nd (mF 4)) j 0)) (za w5 j 0) (0 : UInt64)) c (0 : UInt64) (by decide)) ?_
   intro _ aW
   refine d_e [4,5,6,7,8,9,10,11,17,18,19,20,21,22,33,36,85] [] aW fun _ aX => ze <| wp_seq <| wp_seq <| d_r [4,5,6,7,8,9,10,11,17,18,19,20,21,22,33,36,85,111] [] aX fun _ EA => ?_
   refine ze <| c_d (((j : Nat) : Int) > (0 : Int)) EA (fun aY => ?_) (fun aY => ?_)
   ·
    refine zk <| d_k [4,5,6,7,8,9,10,11,17,18,19,20,21,22,33,36,85,113,114] [(1, g_n (w_r (e := ((j : Nat) : Int) - (1 : Int)) (x := ((j - 1 : Nat) : Int)) (by omega)))] 3 EA fun _ aZ => f_o <| q_v (x := Instr.indexAt 137 (pt Ea) (ni (j - 1))) (v := .pointer (some ⟨Ea, j - 1, none⟩)) aZ (Go.Dbr.run_indexarr (e := 31) (sz := 1) (m := 6) (j := j - 1) (o := j - 1) (by kernel_rfl) (by kernel_rfl) (by omega) (by omega) (by omega) _) fun _ a0 => f_o ?_
    have a1 : j - 1 < zb w5 := by rw [hlw]; omega
    refine m_t 0 (j - 1) (zm (zV (zV (q * (za (nd (mF 4)) j 0)) (za w5 j 0) (0 : UInt64)) c (0 : UInt64))) _ a0 Ez rfl (zx a1) (ZU _ _ _) rfl fun _ _ a2 a3 => f_e <| ze <| d_r [4,5,6,7,8,9,10,11,17,18,20,33,36,85] [(2, g_i .u64 (Go.Dbr.u64_add (x := Yh q (za (nd (mF 4)) j 0)) (y := zT (q * (za (nd (mF 4)) j 0)) (za w5 j 0) (0 : UInt64)) rfl rfl)), (4, g_i .u64 (Go.Dbr.u64_add (x := (Yh q (za (nd (mF 4)) j 0)) + (zT (q * (za (nd (mF 4)) j 0)) (za w5 j 0) (0 : UInt64))) (y := zT (zV (q * (za (nd (mF 4)) j 0)) (za w5 j 0) (0 : UInt64)) c (0 : UInt64)) rfl rfl))] a2 fun _ a4 => zv <| ze <| d_r [4,5,6,7,8,9,10,11,17,18,20,33,36,85] [(0, g_n (w_a j 1))] a4 fun _ a5 => ze <| ⟨_, ⟨j + 1, (zp w5 (j - 1) (zV (zV (q * (za (nd (mF 4)) j 0)) (za w5 j 0) (0 : UInt64)) c (0 : UInt64))), (((Yh q (za (nd (mF 4)) j 0)) + (zT (q * (za (nd (mF 4)) j 0)) (za w5 j 0) (0 : UInt64))) + (zT (zV (q * (za (nd (mF 4)) j 0)) (za w5 j 0) (0 : UInt64)) c (0 : UInt64))), rfl, a5.sb, a3.pk [0, 1, 2, 3, 4], by omega, (List.length_set.trans hlw), mont_more hlw (by omega) (by omega) (hs j (ZP _)) hv2, fun x hx => by rw [Qt _ (by omega)]; exact hs x (by omega)⟩, ?_⟩
    omega
   refine wp_skip <| ze <| d_r [4,5,6,7,8,9,10,11,17,18,20,33,36,85] [(2, g_i .u64 (Go.Dbr.u64_add (x := Yh q (za (nd (mF 4)) j 0)) (y := zT (q * (za (nd (mF 4)) j 0)) (za w5 j 0) (0 : UInt64)) rfl rfl)), (4, g_i .u64 (Go.Dbr.u64_add (x := (Yh q (za (nd (mF 4)) j 0)) + (zT (q * (za (nd (mF 4)) j 0)) (za w5 j 0) (0 : UInt64))) (y := zT (zV (q * (za (nd (mF 4)) j 0)) (za w5 j 0) (0 : UInt64)) c (0 : UInt64)) rfl rfl))] EA fun _ a6 => zv <| ze <| d_r [4,5,6,7,8,9,10,11,17,18,20,33,36,85] [(0, g_n (w_a j 1))] a6 fun _ a7 => ze ?_
   have hj0 : j = 0 := by omega
   rw [hj0] at hv2
   refine ⟨_, ⟨j + 1, w5, (((Yh q (za (nd (mF 4)) j 0)) + (zT (q * (za (nd (mF 4)) j 0)) (za w5 j 0) (0 : UInt64))) + (zT (zV (q * (za (nd (mF 4)) j 0)) (za w5 j 0) (0 : UInt64)) c (0 : UInt64))), rfl, a7.sb, Ez.pk [0, 1, 2, 3, 4], by omega, hlw, (by rw [hj0]; exact mont_first bk4 hqe (hs 0 (by omega)) (mont_c0 hv2)), fun x hx => hs x (by omega)⟩, ?_⟩
   omega
  refine wp_exit <| zy <| zy <| zL <| ze <| wp_seq ?_
  have hj4 : j = 4 := by omega
  rw [hj4] at hv2
  have hmo := mont_out hlw (hs 4 (by omega)) (hs 5 (by omega)) hv5 hv2
  refine d_r [4,5,6,7,8,9,10,11,17,23,33,36,85] [] Ey fun _ a8 => ze <| wp_seq <| zk <| d_k [4,5,6,7,8,9,10,11,17,23,33,36,85,123] [] 1 a8 fun _ a9 => f_o ?_
  have ba : 4 < zb w5 := by rw [hlw]; omega
  refine m_v 0 4 (zm (za w5 4 0)) a9 Eo rfl (zx ba) fun _ bb => d_k [4,5,6,7,8,9,10,11,17,23,33,36,85,124,125] [] 3 bb fun _ bc => f_o <| Xk (d := some 126) (f := 85) (args := #[zm (za w5 4 0), zm c, zm (0 : UInt64)]) (v := .tuple #[zm (zV (za w5 4 0) c (0 : UInt64)), zm (zT (za w5 4 0) c (0 : UInt64))]) bc (by kernel_rfl) (Go.Dbr.ext_add64 Go.Proofs.Tryz.func85 (by kernel_rfl) (by kernel_rfl) (by kernel_rfl) (by kernel_rfl) (za w5 4 0) c (0 : UInt64) (by decide)) ?_
  intro _ bd
  refine d_k [4,5,6,7,8,9,10,11,17,23,33,36,85,127,128,129] [] 8 bd fun _ be => f_o ?_
  have bf : 3 < zb w5 := by rw [hlw]; omega
  refine m_t 0 3 (zm (zV (za w5 4 0) c (0 : UInt64))) [.box Ea (zh (zp w5 3 (zV (za w5 4 0) c (0 : UInt64)))) 137, .box Ee (zh a) 33, .box Ec (zh b) 33, .box Ed (zh (zd 4 0)) 33, .box Eb (zh (nd (mF 4))) 33] be Eo rfl (zx bf) (ZU _ _ _) rfl fun _ _ bg ET => d_e [4,5,6,7,8,9,10,11,17,23,33,36,85] [] bg fun _ bh => ze <| zk <| d_k [4,5,6,7,8,9,10,11,17,23,33,36,85,130] [] 1 bh fun _ bi => f_o ?_
  have bj : 5 < zb (zp w5 3 (zV (za w5 4 0) c (0 : UInt64))) := by rw [(List.length_set.trans hlw)]; omega
  refine m_v 0 5 (zm (za (zp w5 3 (zV (za w5 4 0) c (0 : UInt64))) 5 0)) bi ET rfl (zx bj) fun _ bk => d_k [4,5,6,7,8,9,10,11,17,33,36,85,133,134] [(3, g_i .u64 (Go.Dbr.u64_add (x := za (zp w5 3 (zV (za w5 4 0) c (0 : UInt64))) 5 0) (y := zT (za w5 4 0) c (0 : UInt64)) rfl rfl))] 5 bk fun _ bl => f_o ?_
  have bm : 4 < zb (zp w5 3 (zV (za w5 4 0) c (0 : UInt64))) := by rw [(List.length_set.trans hlw)]; omega
  refine m_t 0 4 (zm ((za (zp w5 3 (zV (za w5 4 0) c (0 : UInt64))) 5 0) + (zT (za w5 4 0) c (0 : UInt64)))) _ bl ET rfl (zx bm) (ZU _ _ _) rfl fun _ _ bn bo => f_e <| zv <| ze <| d_r [4,5,6,7,8,9,10,11,17,33,36,85] [(0, g_n (w_a i 1))] bn fun _ bp => ze ?_
  have hnx := mont_next hAM hT hm (hmo.trans (by rw [hvP, dvk4 ha, nvm4]))
  refine ⟨_, ⟨i + 1, (zp (zp w5 3 (zV (za w5 4 0) c (0 : UInt64))) 4 ((za (zp w5 3 (zV (za w5 4 0) c (0 : UInt64))) 5 0) + (zT (za w5 4 0) c (0 : UInt64)))), rfl, bp.sb, bo.pk [0, 1, 2, 3, 4], by omega, (by rw [ZV, ZV]; exact hlw), hnx.1, hnx.2⟩, ?_⟩
  omega
 refine wp_exit <| zy <| zy <| zL <| ze <| wp_seq ?_
 have hi4 : i = 4 := by omega
 rw [hi4, dvk4 hb] at hm
 refine zk <| d_k [4,5,6,7,8,9,33,136] [] 1 Et fun _ bq => f_o ?_
 have br : 0 < zb t := by rw [hlt]; omega
 refine m_v 0 0 (zm (za t 0 0)) bq Eh rfl (zx br) fun _ bs => d_k [4,5,6,7,8,9,33,137,138] [] 3 bs fun _ bt => f_o ?_
 have bu : 1 < zb t := by rw [hlt]; omega
 refine m_v 0 1 (zm (za t 1 0)) bt Eh rfl (zx bu) fun _ bv => d_k [4,5,6,7,8,9,33,137,139,140] [] 5 bv fun _ bw => f_o ?_
 have bx : 2 < zb t := by rw [hlt]; omega
 refine m_v 0 2 (zm (za t 2 0)) bw Eh rfl (zx bx) fun _ bz => d_k [4,5,6,7,8,9,33,137,139,141,142] [] 7 bz fun _ bA => f_o ?_
 have bB : 3 < zb t := by rw [hlt]; omega
 refine m_v 0 3 (zm (za t 3 0)) bA Eh rfl (zx bB) fun _ bC => d_k [4,5,6,7,8,9,33,144] [] 9 bC fun _ bD => f_o <| m_z 33 (zh (zd 4 0)) bD Eh fun _ _ Ei bE bF => f_o <| zQ 5 4 (zh ([za t 0 0, za t 1 0, za t 2 0, za t 3 0] : List UInt64)) [.box Ea (zh t) 137, .box Ee (zh a) 33, .box Ec (zh b) 33, .box Ed (zh (zd 4 0)) 33, .box Eb (zh (nd (mF 4))) 33, .box Ei (zh ([za t 0 0, za t 1 0, za t 2 0, za t 3 0] : List UInt64)) 33] bE bF rfl (zf (show zb ([za t 0 0, za t 1 0, za t 2 0, za t 3 0] : List UInt64) = 4 from rfl)) (zf (zi)) (zt _) rfl fun _ _ bG bH => ?_
 refine f_e <| ze <| wp_seq <| wp_seq <| zk <| f_o <| c_l [5,4] (M := [.box Ei (zh ([za t 0 0, za t 1 0, za t 2 0, za t 3 0] : List UInt64)) 33, .box Eb (zh (nd (mF 4))) 33]) bG bH (fun hM962 => less_go _ Ei Eb ([za t 0 0, za t 1 0, za t 2 0, za t 3 0] : List UInt64) (nd (mF 4)) (show zb ([za t 0 0, za t 1 0, za t 2 0, za t 3 0] : List UInt64) = 4 from rfl) (zl _ _) hM962) ?_
 rintro _ _ ⟨rfl, bI⟩
 refine ⟨_, _, [.box Ei (zh ([za t 0 0, za t 1 0, za t 2 0, za t 3 0] : List UInt64)) 33, .box Eb (zh (nd (mF 4))) 33, .box Ea (zh t) 137, .box Ee (zh a) 33, .box Ec (zh b) 33, .box Ed (zh (zd 4 0)) 33], rfl, bI, by kernel_rfl, fun _ bJ Ef => ?_⟩
 refine d_k [4,5,6,7,8,9,24,33,146] [] 2 bJ fun _ EU => ?_
 rcases Bool.eq_false_or_eq_true (decide (nv ([za t 0 0, za t 1 0, za t 2 0, za t 3 0] : List UInt64) < nv (nd (mF 4)))) with El | El
 ·
  have bK := EU.fx (t := 146) (congrArg Value.bool El)
  have hp973 : nv ([za t 0 0, za t 1 0, za t 2 0, za t 3 0] : List UInt64) < nv (nd (mF 4)) := of_decide_eq_true El
  refine d_k [4,5,6,7,8,9,24,33,146,147] [] 3 bK fun _ bL => f_o ?_
  have bM : 4 < zb t := by rw [hlt]; omega
  refine m_v 2 4 (zm (za t 4 0)) bL Ef rfl (zx bM) fun _ bN => d_e [4,5,6,7,8,9,24,33,150] [] bN fun _ EB => ?_
  refine ze <| c_e ((zw (za t 4 0) : Nat) : Int) (0 : Int) EB (fun bO => ?_) (fun bO => ?_)
  ·
   refine wp_seq <| zk <| f_o <| Zp 0 4 (zh ([za t 0 0, za t 1 0, za t 2 0, za t 3 0] : List UInt64)) EB Ef rfl (zf (show zb ([za t 0 0, za t 1 0, za t 2 0, za t 3 0] : List UInt64) = 4 from rfl)) fun _ bP => f_o <| zQ 5 4 (zh ([za t 0 0, za t 1 0, za t 2 0, za t 3 0] : List UInt64)) _ bP Ef rfl (zf (show zb ([za t 0 0, za t 1 0, za t 2 0, za t 3 0] : List UInt64) = 4 from rfl)) (zf (zi)) (zt _) rfl fun _ _ bQ EV => f_e <| ze <| wp_ret <| ZE <| z9 (v := .agg (zg (zh ([za t 0 0, za t 1 0, za t 2 0, za t 3 0] : List UInt64)))) (t := 6) (T := 33) (ad := ⟨Ed, 0, none⟩) bQ (by kernel_rfl) (by kernel_rfl) (zB (t := 33) (k := 5) (off := 0) (m := 4) (xs := zh ([za t 0 0, za t 1 0, za t 2 0, za t 3 0] : List UInt64)) EV rfl (zq (zf (show zb ([za t 0 0, za t 1 0, za t 2 0, za t 3 0] : List UInt64) = 4 from rfl))) (zf (show zb ([za t 0 0, za t 1 0, za t 2 0, za t 3 0] : List UInt64) = 4 from rfl)) (by kernel_rfl) (by kernel_rfl)) ?_
   have e : ([za t 0 0, za t 1 0, za t 2 0, za t 3 0] : List UInt64) = nd (montN 4458503529701987551646482192314240623644693141688353256590997718326214331684 (mF 4) (nv a) (nv b)) := mont_yes ri4 hm (by rw [← JP 4]; assumption) (by assumption)
   exact ⟨congrArg (fun l : List UInt64 => Ending.returned (Value.agg (zh l).toArray)) e, EV.pk []⟩
  refine wp_skip <| ze <| wp_seq <| zk <| f_o <| Zp 0 4 (zh ([za t 0 0, za t 1 0, za t 2 0, za t 3 0] : List UInt64)) EB Ef rfl (zf (show zb ([za t 0 0, za t 1 0, za t 2 0, za t 3 0] : List UInt64) = 4 from rfl)) fun _ bR => f_o <| Zp 1 4 (zh (nd (mF 4))) bR Ef rfl (zf (zl _ _)) fun _ bS => f_o <| c_p bS Ef (JO _ ([za t 0 0, za t 1 0, za t 2 0, za t 3 0] : List UInt64) (nd (mF 4)) (show zb ([za t 0 0, za t 1 0, za t 2 0, za t 3 0] : List UInt64) = 4 from rfl) (zl _ _)) fun _ _ bT bU => d_k [4,5,6,7,8,9,24,33,156] [] 6 bT fun _ EW => ?_
  refine f_o <| zQ 0 4 (zh (nd (nv ([za t 0 0, za t 1 0, za t 2 0, za t 3 0] : List UInt64) + zU - nv (nd (mF 4))))) [.box Ei (zh (nd (nv ([za t 0 0, za t 1 0, za t 2 0, za t 3 0] : List UInt64) + zU - nv (nd (mF 4))))) 33, .box Eb (zh (nd (mF 4))) 33, .box Ea (zh t) 137, .box Ee (zh a) 33, .box Ec (zh b) 33, .box Ed (zh (zd 4 0)) 33] EW bU rfl (zf (zl _ _)) (zf (show zb ([za t 0 0, za t 1 0, za t 2 0, za t 3 0] : List UInt64) = 4 from rfl)) (zt _) rfl fun _ _ EX EC => f_e <| ze <| wp_seq <| zk <| f_o <| Zp 0 4 (zh (nd (nv ([za t 0 0, za t 1 0, za t 2 0, za t 3 0] : List UInt64) + zU - nv (nd (mF 4))))) EX EC rfl (zf (zl _ _)) fun _ EY => f_o <| zQ 5 4 (zh (nd (nv ([za t 0 0, za t 1 0, za t 2 0, za t 3 0] : List UInt64) + zU - nv (nd (mF 4))))) _ EY EC rfl (zf (zl _ _)) (zf (zi)) (zt _) rfl fun _ _ EZ ED => f_e <| ze <| wp_ret <| z9 (v := .agg (zg (zh (nd (nv ([za t 0 0, za t 1 0, za t 2 0, za t 3 0] : List UInt64) + zU - nv (nd (mF 4))))))) (t := 6) (T := 33) (ad := ⟨Ed, 0, none⟩) EZ (by kernel_rfl) (by kernel_rfl) (zB (t := 33) (k := 5) (off := 0) (m := 4) (xs := zh (nd (nv ([za t 0 0, za t 1 0, za t 2 0, za t 3 0] : List UInt64) + zU - nv (nd (mF 4))))) ED rfl (zq (zf (zl _ _))) (zf (zl _ _)) (by kernel_rfl) (by kernel_rfl)) ?_
  have e : nd (nv ([za t 0 0, za t 1 0, za t 2 0, za t 3 0] : List UInt64) + zU - nv (nd (mF 4))) = nd (montN 4458503529701987551646482192314240623644693141688353256590997718326214331684 (mF 4) (nv a) (nv b)) := by rw [JP]; exact mont_no (mF_lt _) ri4 hT hm (by rw [← JP 4]; first | (left; assumption) | (right; assumption))
  exact ⟨congrArg (fun l : List UInt64 => Ending.returned (Value.agg (zh l).toArray)) e, ED.pk []⟩
 have E0 := EU.fx (t := 146) (congrArg Value.bool El)
 have hp1012 : ¬ (nv ([za t 0 0, za t 1 0, za t 2 0, za t 3 0] : List UInt64) < nv (nd (mF 4))) := of_decide_eq_false El
 refine d_e [4,5,6,7,8,9,24,33,150] [] E0 fun _ EE => ze <| c_f EE ?_
 refine wp_skip <| ze <| wp_seq <| zk <| f_o <| Zp 0 4 (zh ([za t 0 0, za t 1 0, za t 2 0, za t 3 0] : List UInt64)) EE Ef rfl (zf (show zb ([za t 0 0, za t 1 0, za t 2 0, za t 3 0] : List UInt64) = 4 from rfl)) fun _ E1 => f_o <| Zp 1 4 (zh (nd (mF 4))) E1 Ef rfl (zf (zl _ _)) fun _ E2 => f_o <| c_p E2 Ef (JO _ ([za t 0 0, za t 1 0, za t 2 0, za t 3 0] : List UInt64) (nd (mF 4)) (show zb ([za t 0 0, za t 1 0, za t 2 0, za t 3 0] : List UInt64) = 4 from rfl) (zl _ _)) fun _ _ E3 E4 => d_k [4,5,6,7,8,9,24,33,156] [] 6 E3 fun _ E5 => ?_
 refine f_o <| zQ 0 4 (zh (nd (nv ([za t 0 0, za t 1 0, za t 2 0, za t 3 0] : List UInt64) + zU - nv (nd (mF 4))))) [.box Ei (zh (nd (nv ([za t 0 0, za t 1 0, za t 2 0, za t 3 0] : List UInt64) + zU - nv (nd (mF 4))))) 33, .box Eb (zh (nd (mF 4))) 33, .box Ea (zh t) 137, .box Ee (zh a) 33, .box Ec (zh b) 33, .box Ed (zh (zd 4 0)) 33] E5 E4 rfl (zf (zl _ _)) (zf (show zb ([za t 0 0, za t 1 0, za t 2 0, za t 3 0] : List UInt64) = 4 from rfl)) (zt _) rfl fun _ _ E6 EF => f_e <| ze <| wp_seq <| zk <| f_o <| Zp 0 4 (zh (nd (nv ([za t 0 0, za t 1 0, za t 2 0, za t 3 0] : List UInt64) + zU - nv (nd (mF 4))))) E6 EF rfl (zf (zl _ _)) fun _ E7 => f_o <| zQ 5 4 (zh (nd (nv ([za t 0 0, za t 1 0, za t 2 0, za t 3 0] : List UInt64) + zU - nv (nd (mF 4))))) _ E7 EF rfl (zf (zl _ _)) (zf (zi)) (zt _) rfl fun _ _ E8 EG => f_e <| ze <| wp_ret <| z9 (v := .agg (zg (zh (nd (nv ([za t 0 0, za t 1 0, za t 2 0, za t 3 0] : List UInt64) + zU - nv (nd (mF 4))))))) (t := 6) (T := 33) (ad := ⟨Ed, 0, none⟩) E8 (by kernel_rfl) (by kernel_rfl) (zB (t := 33) (k := 5) (off := 0) (m := 4) (xs := zh (nd (nv ([za t 0 0, za t 1 0, za t 2 0, za t 3 0] : List UInt64) + zU - nv (nd (mF 4))))) EG rfl (zq (zf (zl _ _))) (zf (zl _ _)) (by kernel_rfl) (by kernel_rfl)) ?_
 have e : nd (nv ([za t 0 0, za t 1 0, za t 2 0, za t 3 0] : List UInt64) + zU - nv (nd (mF 4))) = nd (montN 4458503529701987551646482192314240623644693141688353256590997718326214331684 (mF 4) (nv a) (nv b)) := by rw [JP]; exact mont_no (mF_lt _) ri4 hT hm (by rw [← JP 4]; first | (left; assumption) | (right; assumption))
 exact ⟨congrArg (fun l : List UInt64 => Ending.returned (Value.agg (zh l).toArray)) e, EG.pk []⟩
theorem mn4_lt (x y : Nat) : montN 4458503529701987551646482192314240623644693141688353256590997718326214331684 (mF 4) x y < mF 4 := ZL _ (by decide)
theorem mn4 (x y : Nat) : nv (nd (montN 4458503529701987551646482192314240623644693141688353256590997718326214331684 (mF 4) x y)) = montN 4458503529701987551646482192314240623644693141688353256590997718326214331684 (mF 4) x y := Qw (Nat.lt_trans (mn4_lt x y) (mF_lt _))
theorem rmul4 (x y : Nat) : nd (montN 4458503529701987551646482192314240623644693141688353256590997718326214331684 (mF 4) (nv (nd (montN 4458503529701987551646482192314240623644693141688353256590997718326214331684 (mF 4) x (nv (nd 1627715501170711445284395025044413883736156588369414752970002579683115011841))))) y) = nd (x * y % mF 4) := by
  rw [mn4, Qw (n := 1627715501170711445284395025044413883736156588369414752970002579683115011841) (by decide), two4]
theorem ring4_go (w : World) (a b : List UInt64) (ha : zb a = 4) (hb : zb b = 4) (hAM : nv a < mF 4) : Calls Tryz.prog 59 #[.agg #[], .agg (zg (zh a)), .agg (zg (zh b))] w fun e w' => e = .returned (.agg (zg (zh (nd (nv a * nv b % mF 4))))) ∧ Ev w [] w' [] := by
 refine d_0 [(0, .agg #[]), (1, .agg (zg (zh a))), (2, .agg (zg (zh b)))] 17 Go.Proofs.Tryz.func59 Go.Proofs.Tryz.ntmps59 (Heap.nil _) fun EC ED EE => wp_seq <| zk <| f_o <| m_m 85 [] ED EE fun _ _ Eh EF EG => f_o <| m_m 33 (zh a) EF EG fun _ _ EB EH Ex => f_o <| m_m 33 (zh b) EH Ex fun _ _ Ei Ey Ez => ?_
 refine f_o <| m_z 33 (zh (zd 4 0)) Ey Ez fun _ _ Eg EA Ej => ?_
 refine f_e <| ze <| wp_seq <| r_c (fun ac wo => Env ac 17 [(6, pt Eg)] ∧ Ev w [] wo [.box Eg (zh (nd (montN 4458503529701987551646482192314240623644693141688353256590997718326214331684 (mF 4) (nv (nd (montN 4458503529701987551646482192314240623644693141688353256590997718326214331684 (mF 4) (nv a) (nv (nd 1627715501170711445284395025044413883736156588369414752970002579683115011841))))) (nv b)))) 33]) ?_ ?_
 ·
  refine h_s (fun wv => Ev w [] wv [.box Eh [] 85, .box EB (zh a) 33, .box Ei (zh b) 33]) [] 11 ?_
  have Ea := Ej.trans (zO Ej.heap)
  refine q_r 0 (s := Instr.loadAt 85 (pt Eh)) (v := .agg #[]) EA (fun w hS => zM (m := 0) (cs := []) rfl (by kernel_rfl) (by kernel_rfl) (hS.heap.cells (k := 0) (off := 0) (m := 0) rfl rfl)) (Ea.pk [0, 1, 2]) fun _ Ek => q_r 1 (s := Instr.loadAt 85 (pt Eh)) (v := .agg #[]) Ek (fun w hS => zM (m := 0) (cs := []) rfl (by kernel_rfl) (by kernel_rfl) (hS.heap.cells (k := 0) (off := 0) (m := 0) rfl rfl)) (Ea.pk [0, 1, 2]) fun _ El => q_r 2 (s := Instr.loadAt 33 (pt EB)) (v := .agg (zg (zh a))) El (fun w hS => zM (m := 4) (cs := zh a) (zf ha) (by kernel_rfl) (by kernel_rfl) (hS.heap.cells (k := 1) (off := 0) (m := 4) rfl (zq (zf ha)))) (Ea.pk [0, 1, 2]) fun _ Em => q_r 3 (s := Instr.fieldAt 85 (pt Eh) 0) (v := pt Eh) Em (fun w hS => run_field0 (hS.heap.shape0 (k := 0) rfl) (by kernel_rfl)) (Ea.pk [0, 1, 2]) fun _ En => ?_
  refine q_r 4 (s := Instr.loadAt 83 (pt Eh)) (v := .agg #[]) En (fun w hS => zM (m := 0) (cs := []) rfl (by kernel_rfl) (by kernel_rfl) (hS.heap.cells (k := 0) (off := 0) (m := 0) rfl rfl)) (Ea.pk [0, 1, 2]) fun _ Eo => q_s [5] [] 5 Eo (Ea.pk [0, 1, 2]) fun _ Ep => q_r 8 (s := Instr.loadAt 33 (pt Ei)) (v := .agg (zg (zh b))) Ep (fun w hS => zM (m := 4) (cs := zh b) (zf hb) (by kernel_rfl) (by kernel_rfl) (hS.heap.cells (k := 2) (off := 0) (m := 4) rfl (zq (zf hb)))) (Ea.pk [0, 1, 2]) fun _ Eq => q_t 6 ?_
  refine c_p Eq Ea (square4_go _) fun _ _ Er Eb => ⟨fun _ => Eb.pk [0, 1, 2], ?_⟩
  refine q_t 7 ?_
  refine c_p Er Eb (mont4_go _ a (nd 1627715501170711445284395025044413883736156588369414752970002579683115011841) ha (zl _ _) hAM) fun _ _ Es Ec => ⟨fun _ => Ec.pk [0, 1, 2], ?_⟩
  refine q_t 9 ?_
  refine c_p Es Ec (mont4_go _ (nd (montN 4458503529701987551646482192314240623644693141688353256590997718326214331684 (mF 4) (nv a) (nv (nd 1627715501170711445284395025044413883736156588369414752970002579683115011841)))) b (zl _ _) hb (by rw [mn4]; exact mn4_lt _ _)) fun _ _ Et Ed => ⟨fun _ => Ed.pk [0, 1, 2], ?_⟩
  refine q_t 10 ?_
  refine zQ 3 4 (zh (nd (montN 4458503529701987551646482192314240623644693141688353256590997718326214331684 (mF 4) (nv (nd (montN 4458503529701987551646482192314240623644693141688353256590997718326214331684 (mF 4) (nv a) (nv (nd 1627715501170711445284395025044413883736156588369414752970002579683115011841))))) (nv b)))) _ Et Ed rfl (zf (zl _ _)) (zf (zi)) (zt _) rfl fun _ _ Eu Ee => ⟨fun _ => Ee.pk [0, 1, 2], ?_⟩
  exact h_e ⟨Eu.sb, Ee.pk [3]⟩
 rintro _ _ ⟨Ew, Ef⟩
 refine ze <| wp_ret <| z9 (v := .agg (zg (zh (nd (montN 4458503529701987551646482192314240623644693141688353256590997718326214331684 (mF 4) (nv (nd (montN 4458503529701987551646482192314240623644693141688353256590997718326214331684 (mF 4) (nv a) (nv (nd 1627715501170711445284395025044413883736156588369414752970002579683115011841))))) (nv b)))))) (t := 6) (T := 33) (ad := ⟨Eg, 0, none⟩) Ew (by kernel_rfl) (by kernel_rfl) (zB (t := 33) (k := 0) (off := 0) (m := 4) (xs := zh (nd (montN 4458503529701987551646482192314240623644693141688353256590997718326214331684 (mF 4) (nv (nd (montN 4458503529701987551646482192314240623644693141688353256590997718326214331684 (mF 4) (nv a) (nv (nd 1627715501170711445284395025044413883736156588369414752970002579683115011841))))) (nv b)))) Ef rfl (zq (zf (zl _ _))) (zf (zl _ _)) (by kernel_rfl) (by kernel_rfl)) ?_
 have e : nd (montN 4458503529701987551646482192314240623644693141688353256590997718326214331684 (mF 4) (nv (nd (montN 4458503529701987551646482192314240623644693141688353256590997718326214331684 (mF 4) (nv a) (nv (nd 1627715501170711445284395025044413883736156588369414752970002579683115011841))))) (nv b)) = nd (nv a * nv b % mF 4) := rmul4 _ _
 exact ⟨congrArg (fun l : List UInt64 => Ending.returned (Value.agg (zh l).toArray)) e, Ef.pk []⟩
theorem mulr4 (x y : Nat) : nd (nv (nd (x % mF 4)) * nv (nd (y % mF 4)) % mF 4) = nd (zr 4 x y) := by
  rw [Qw (Qm (by decide)), Qw (Qm (by decide)), ← Qg]
  rfl
theorem mul4_go (w : World) (a b : List UInt64) (ha : zb a = 4) (hb : zb b = 4) : Calls Tryz.prog 24 #[.int .i64 4, .agg (zg (zh a)), .agg (zg (zh b))] w fun e w' => e = .returned (.agg (zg (zh (nd (zr 4 (nv a) (nv b)))))) ∧ Ev w [] w' [] := by
 refine d_0 [(0, .int .i64 4), (1, .agg (zg (zh a))), (2, .agg (zg (zh b)))] 45 Go.Proofs.Tryz.func24 Go.Proofs.Tryz.ntmps24 (Heap.nil _) fun EK EL EM => wp_seq <| zk <| f_o <| m_m 33 (zh a) EL EM fun _ _ Ei EN EO => f_o <| m_m 33 (zh b) EN EO fun _ _ Ej EP EA => f_o <| m_z 33 (zh (zd 4 0)) EP EA fun _ _ Ec EB EC => ?_
 refine f_e <| ze <| wp_seq <| d_s [0,4,5,6,9] [] EB fun _ ED => wp_block <| d_s [0,4,5,6,9,10] [] ED fun _ Ek => c_f Ek ?_
 refine d_s [0,4,5,6,9,15] [] Ek fun _ El => c_f El ?_
 refine d_s [0,4,5,6,9,20] [] El fun _ Em => c_f Em ?_
 refine d_s [0,4,5,6,9,32] [] Em fun _ En => c_t En ?_
 refine wp_seq <| zk <| d_k [0,4,5,6,9,34] [] 1 En fun _ EE => f_o <| c_p EE EC (modulus_go _ 4) fun _ _ EF EG => f_o <| m_z 33 (zh (zd 4 0)) EF EG fun _ _ Ea EH EI => f_o <| zQ 3 4 (zh (nd (mF 4))) _ EH EI rfl (zf (zl _ _)) (zf (zi)) (zt _) rfl fun _ _ EJ Eo => ?_
 refine f_e <| ze <| wp_seq <| r_c (fun ac wo => Env ac 45 [(0, .int .i64 4), (4, pt Ei), (5, pt Ej), (6, pt Ec), (8, pt Ea), (9, .int .i64 4)] ∧ Ev w [] wo [.box Ei (zh a) 33, .box Ej (zh b) 33, .box Ec (zh (nd (nv (nd (nv a % mF 4)) * nv (nd (nv b % mF 4)) % mF 4))) 33, .box Ea (zh (nd (mF 4))) 33]) ?_ ?_
 ·
  refine h_s (fun wv => Ev w [] wv [.box Ei (zh a) 33, .box Ej (zh b) 33, .box Ea (zh (nd (mF 4))) 33]) [] 9 ?_
  have Eb := Eo.trans (zO Eo.heap)
  refine q_s [0] [] 8 EJ (Eb.pk [0, 1, 3]) fun _ Ep => q_r 1 (s := Instr.loadAt 33 (pt Ei)) (v := .agg (zg (zh a))) Ep (fun w hS => zM (m := 4) (cs := zh a) (zf ha) (by kernel_rfl) (by kernel_rfl) (hS.heap.cells (k := 0) (off := 0) (m := 4) rfl (zq (zf ha)))) (Eb.pk [0, 1, 3]) fun _ Eq => q_r 2 (s := Instr.loadAt 33 (pt Ea)) (v := .agg (zg (zh (nd (mF 4))))) Eq (fun w hS => zM (m := 4) (cs := zh (nd (mF 4))) (zf (zl _ _)) (by kernel_rfl) (by kernel_rfl) (hS.heap.cells (k := 2) (off := 0) (m := 4) rfl (zq (zf (zl _ _))))) (Eb.pk [0, 1, 3]) fun _ Er => q_r 4 (s := Instr.loadAt 33 (pt Ej)) (v := .agg (zg (zh b))) Er (fun w hS => zM (m := 4) (cs := zh b) (zf hb) (by kernel_rfl) (by kernel_rfl) (hS.heap.cells (k := 1) (off := 0) (m := 4) rfl (zq (zf hb)))) (Eb.pk [0, 1, 3]) fun _ Es => ?_
  refine q_r 5 (s := Instr.loadAt 33 (pt Ea)) (v := .agg (zg (zh (nd (mF 4))))) Es (fun w hS => zM (m := 4) (cs := zh (nd (mF 4))) (zf (zl _ _)) (by kernel_rfl) (by kernel_rfl) (hS.heap.cells (k := 2) (off := 0) (m := 4) rfl (zq (zf (zl _ _))))) (Eb.pk [0, 1, 3]) fun _ Et => q_t 3 ?_
  refine c_p Et Eb (right_mF _ 4 (by decide) a ha) fun _ _ Eu Ed => ⟨fun _ => Ed.pk [0, 1, 3], ?_⟩
  refine q_t 6 ?_
  refine c_p Eu Ed (right_mF _ 4 (by decide) b hb) fun _ _ Ew Ee => ⟨fun _ => Ee.pk [0, 1, 3], ?_⟩
  refine q_t 7 ?_
  refine c_p Ew Ee (ring4_go _ (nd (nv a % mF 4)) (nd (nv b % mF 4)) (zl _ _) (zl _ _) (by rw [Qw (Qm (by decide))]; exact ZL _ (by decide))) fun _ _ Ex Ef => ⟨fun _ => Ef.pk [0, 1, 3], ?_⟩
  refine q_t 8 ?_
  refine zQ 2 4 (zh (nd (nv (nd (nv a % mF 4)) * nv (nd (nv b % mF 4)) % mF 4))) [.box Ei (zh a) 33, .box Ej (zh b) 33, .box Ec (zh (nd (nv (nd (nv a % mF 4)) * nv (nd (nv b % mF 4)) % mF 4))) 33, .box Ea (zh (nd (mF 4))) 33] Ex Ef rfl (zf (zl _ _)) (zf (zi)) (zt _) rfl fun _ _ Ey Eg => ⟨fun _ => Eg.pk [0, 1, 3], ?_⟩
  exact h_e ⟨Ey.sb, Eg.pk [0, 1, 2, 3]⟩
 rintro _ _ ⟨Ez, Eh⟩
 refine ze <| wp_ret <| block_ret <| ZE <| z9 (v := .agg (zg (zh (nd (nv (nd (nv a % mF 4)) * nv (nd (nv b % mF 4)) % mF 4))))) (t := 6) (T := 33) (ad := ⟨Ec, 0, none⟩) Ez (by kernel_rfl) (by kernel_rfl) (zB (t := 33) (k := 2) (off := 0) (m := 4) (xs := zh (nd (nv (nd (nv a % mF 4)) * nv (nd (nv b % mF 4)) % mF 4))) Eh rfl (zq (zf (zl _ _))) (zf (zl _ _)) (by kernel_rfl) (by kernel_rfl)) ?_
 have e : nd (nv (nd (nv a % mF 4)) * nv (nd (nv b % mF 4)) % mF 4) = nd (zr 4 (nv a) (nv b)) := mulr4 _ _
 exact ⟨congrArg (fun l : List UInt64 => Ending.returned (Value.agg (zh l).toArray)) e, Eh.pk []⟩
theorem hM4 : MulOk 4 := mul4_go
end Go.Proofs.YtlnogkmnklfjlaaGreatDoor

namespace Go.Dbr
open Go Go.RowKit
set_option linter.unusedSimpArgs false
def nodupO : List Oper → Nat → Bool
  | [], _ => true
  | o :: r, m => match o.dst with
    | some d => !YY m d && nodupO r (m ||| 2 ^ d)
    | none => nodupO r m
theorem nodupO_spec : ∀ (l : List Oper) (m : Nat), nodupO l m = true → (∀ (i : Nat) (o : Oper) (d : Nat), l[i]? = some o → o.dst = some d → YY m d = false) ∧ (∀ (i j : Nat) (o q : Oper) (d : Nat), l[i]? = some o → l[j]? = some q → o.dst = some d → q.dst = some d → i = j)
  | [], m, _ => ⟨fun i o d h => by simp at h, fun i j o q d h => by simp at h⟩
  | x :: r, m, h => by
    unfold nodupO at h
    cases hd : x.dst with
    | none =>
      rw [hd] at h
      obtain ⟨h1, h2⟩ := nodupO_spec r m h
      constructor
      · intro i o d hi ho
        cases i with
        | zero => simp at hi; subst hi; rw [hd] at ho; cases ho
        | succ i => exact h1 i o d (by simpa using hi) ho
      · intro i j o q d hi hj ho hq
        cases i with
        | zero => simp at hi; subst hi; rw [hd] at ho; cases ho
        | succ i =>
          cases j with
          | zero => simp at hj; subst hj; rw [hd] at hq; cases hq
          | succ j => rw [h2 i j o q d (by simpa using hi) (by simpa using hj) ho hq]
    | some c =>
      rw [hd] at h
      simp only [Za, Bool.not_eq_true'] at h
      obtain ⟨h1, h2⟩ := nodupO_spec r _ h.2
      have key : ∀ (i : Nat) (o : Oper) (d : Nat), r[i]? = some o → o.dst = some d → YY m d = false ∧ c ≠ d := fun i o d hi ho => by
        have := h1 i o d hi ho
        rw [Nat.testBit_or, Bool.or_eq_false_iff] at this
        refine ⟨this.1, fun e => ?_⟩
        subst e
        rw [Nat.testBit_two_pow_self] at this
        cases this.2
      constructor
      · intro i o d hi ho
        cases i with
        | zero => simp at hi; subst hi; rw [hd] at ho; cases ho; exact h.1
        | succ i => exact (key i o d (by simpa using hi) ho).1
      · intro i j o q d hi hj ho hq
        cases i with
        | zero =>
          cases j with
          | zero => rfl
          | succ j => simp at hi; subst hi; rw [hd] at ho; cases ho; exact absurd rfl (key j q _ (by simpa using hj) hq).2
        | succ i =>
          cases j with
          | zero => simp at hj; subst hj; rw [hd] at hq; cases hq; exact absurd rfl (key i o _ (by simpa using hi) ho).2
          | succ j => rw [h2 i j o q d (by simpa using hi) (by simpa using hj) ho hq]
section
variable {P : Program} {ops : Array Oper} {Q : Exit → Act → World → Prop} {S : World → Prop} {n i : Nat} {l : List (Nat × Value)} {a : Act} {w : World}
end
end Go.Dbr

namespace Go.Proofs.YtlnogkmnklfjlaaGreatDoor
open Go.Dbr
set_option maxRecDepth 100000
set_option maxHeartbeats 2000000
set_option linter.unusedVariables false
set_option linter.unusedSimpArgs false
theorem mul1_go (w : World) (a b : List UInt64) (ha : zb a = 4) (hb : zb b = 4) : Calls Tryz.prog 24 #[.int .i64 1, .agg (zg (zh a)), .agg (zg (zh b))] w fun e w' => e = .returned (.agg (zg (zh (nd (zr 1 (nv a) (nv b)))))) ∧ Ev w [] w' [] := by
 refine d_0 [(0, .int .i64 1), (1, .agg (zg (zh a))), (2, .agg (zg (zh b)))] 45 Go.Proofs.Tryz.func24 Go.Proofs.Tryz.ntmps24 (Heap.nil _) fun Em En Eo => wp_seq <| zk <| f_o <| m_m 33 (zh a) En Eo fun _ _ Es Ep Eq => f_o <| m_m 33 (zh b) Ep Eq fun _ _ Et Er Ed => f_o <| m_z 33 (zh (zd 4 0)) Er Ed fun _ _ Ee Ef Ea => ?_
 refine f_e <| ze <| wp_seq <| d_s [0,4,5,6,9] [] Ef fun _ Eg => wp_block <| d_s [0,4,5,6,9,10] [] Eg fun _ Eb => c_t Eb ?_
 refine wp_seq <| zk <| f_o <| Zp 0 4 (zh a) Eb Ea rfl (zf ha) fun _ Eh => f_o <| Zp 1 4 (zh b) Eh Ea rfl (zf hb) fun _ Ei => f_o <| c_p Ei Ea (mul25_go _ a b ha hb) fun _ _ Ej Ek => f_o <| zQ 2 4 (zh (nd ((nv a * nv b) % mF 1))) _ Ej Ek rfl (zf (zl _ _)) (zf (zi)) (zt _) rfl fun _ _ El Ec => ?_
 refine f_e <| ze <| wp_ret <| block_ret <| ZE <| z9 (v := .agg (zg (zh (nd ((nv a * nv b) % mF 1))))) (t := 6) (T := 33) (ad := ⟨Ee, 0, none⟩) El (by kernel_rfl) (by kernel_rfl) (zB (t := 33) (k := 2) (off := 0) (m := 4) (xs := zh (nd ((nv a * nv b) % mF 1))) Ec rfl (zq (zf (zl _ _))) (zf (zl _ _)) (by kernel_rfl) (by kernel_rfl)) ?_
 exact ⟨rfl, Ec.pk []⟩
theorem hM1 : MulOk 1 := mul1_go
end Go.Proofs.YtlnogkmnklfjlaaGreatDoor
