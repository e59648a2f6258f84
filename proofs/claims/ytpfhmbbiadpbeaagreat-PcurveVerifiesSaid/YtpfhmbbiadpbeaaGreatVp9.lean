import Derived.Test.YtpfhmbbiadpbeaaGreatVp8
open Go.Dbr renaming u64s_lenh → za, then_normal → ze, u64s → zg, region_from → zj, load_whole → zn, u64s_one → zq, run_indexarr → zs, block_normal → zw, then_exit → zF, d_cell1 → zU, m_gw → zW, block_exit → zX, run_loadAgg2 → Za, m_aw → Zn, d_ret1 → ZH, u64s_eqop → ZI
open List renaming getD → zb, toArray → zc, replicate → zd, length → zf, length_replicate → zh, drop_append → zu, take_append → zv, take_of_length_le → zx, take → zD, drop → zG, length_take → Zg, map_append → Qk, append_assoc → Qo, getElem?_take → QT, take_append_drop → YN, getElem?_drop → Ji
open UInt64 renaming ofNat → zi, toNat → zk
open Go.Proofs.YtpfhmbbiadpbeaaGreat renaming nds_len → zl, mulM → zo, subM → zZ, addM → z5, f_mul → Z2, nv_nd → Z6, f_sub → Jf, wtL_len → JI, PP_lt → JO, lt_mul → JV, sub_len → Xd, zero12 → XV, lt_sub → Ka
open Go.Proofs.Tryz renaming prog → zB
open Go.Dbr.Ev renaming cellAgg → zC, drew → zN
open Bool renaming eq_false_or_eq_true → zM, cond_false → Zc, cond_true → ZF, true_and → Q9, false_and → Yc, and_false → Yw
open BitVec renaming ofInt → zP
open Nat renaming mod_eq_of_lt → zQ, lt_trans → z6, div_div_eq_div_mul → ZJ, pow_add → ZO, pow_zero → ZV, mod_lt → Z4, pow_mul → Qz
set_option maxRecDepth 100000
set_option maxHeartbeats 2000000
set_option linter.unusedVariables false
set_option linter.unusedSimpArgs false
namespace Go.Proofs.YtpfhmbbiadpbeaaGreat
open Go.Dbr
theorem cut12 (p : L4) : zg (p.take 4) ++ (zg ((p.drop 4).take 4) ++ zg (p.drop 8)) = zg p := by
  unfold zg
  rw [← Qk, ← Qk]
  congr 1
  have h : p.drop 8 = (p.drop 4).drop 4 := by rw [List.drop_drop]
  rw [h, YN, YN]
theorem cat12 (a b c : L4) : zg a ++ (zg b ++ zg c) = zg (a ++ (b ++ c)) := by
  unfold zg
  rw [Qk, Qk]
theorem with12_go (w : World) (p q : L4) (hp : p.length = 12) (hq : q.length = 12) : Calls zB 19 #[.agg (zc (zg p)), .agg (zc (zg q))] w fun e w' => e = .returned (.agg (zc (zg (wtL p q)))) ∧ Ev w [] w' [] := by
  have h := with_go w (p.take 4) ((p.drop 4).take 4) (p.drop 8) (q.take 4) ((q.drop 4).take 4) (q.drop 8) (by simp [hp]) (by simp [hp]) (by simp [hp]) (by simp [hq]) (by simp [hq]) (by simp [hq])
  rw [cut12, cut12, cat12] at h
  exact h
theorem zero12_go (w : World) : Calls zB 46 #[] w fun e w' => e = .returned (.agg (zc (zg XV))) ∧ Ev w [] w' [] := by
  have h := zero_go w
  rw [cat12] at h
  exact h
def of12 (z : Bool) (x y : L4) : L4 := oX z x ++ (oY z y ++ oZ z)
theorem of12_len {z : Bool} {x y : L4} (hx : x.length = 4) (hy : y.length = 4) : (of12 z x y).length = 12 := by
  simp only [of12, List.length_append, oX_len hx, oY_len hy, oZ_len]
theorem of12_go (w : World) (z : Bool) (x y : List UInt64) (hx : zf x = 4) (hy : zf y = 4) : Calls zB 15 #[.agg (zc (([.bool z] : List Value) ++ ((zg x) ++ (zg y))))] w fun e w' => e = .returned (.agg (zc (zg (of12 z x y)))) ∧ Ev w [] w' [] := by
  have h := of_go w z x y hx hy
  rw [cat12] at h
  exact h
theorem back12_go (w : World) (p : L4) (hp : p.length = 12) : Calls zB 20 #[.agg (zc (zg p))] w fun e w' => e = .returned (.agg (zc (([.bool (bZ (zG 8 p))] : List Value) ++ ((zg (bX (zD 4 p) (zG 8 p))) ++ (zg (bX (zD 4 (zG 4 p)) (zG 8 p))))))) ∧ Ev w [] w' [] := by
  have h := back_go w (p.take 4) ((p.drop 4).take 4) (p.drop 8) (by simp [hp]) (by simp [hp]) (by simp [hp])
  rw [cut12] at h
  exact h
def rows0 : L4 := XV ++ zd 180 0
theorem rows0_len : rows0.length = 192 := rfl
theorem put_same {l x : L4} {i : Nat} (hl : l.length = 192) (hx : x.length = 12) (hi : i < 16) : zD 12 (zG (i * 12) (zD (i * 12) l ++ x ++ zG (i * 12 + 12) l)) = x := by
  have h1 : (zD (i * 12) l).length = i * 12 := by rw [Zg]; omega
  rw [Qo, List.drop_left' h1, List.take_left' hx]
theorem put_other {l x : L4} {i j : Nat} (hl : l.length = 192) (hx : x.length = 12) (hi : i < 16) (hj : j < i) : zD 12 (zG (j * 12) (zD (i * 12) l ++ x ++ zG (i * 12 + 12) l)) = zD 12 (zG (j * 12) l) := by
  refine List.ext_getElem? fun q => ?_
  rw [QT, QT]
  split
  · rename_i hq
    rw [Ji, Ji, Qo, List.getElem?_append_left (by rw [Zg]; omega), QT, if_pos (by omega)]
  · rfl
theorem nib_shr (x : UInt64) (m : Nat) (hm : m < 16) : ((x >>> zi (4 * m)) &&& 15).toNat = x.toNat / 16 ^ m % 16 := by
  rw [UInt64.toNat_and, UInt64.toNat_shiftRight, show (15 : UInt64).toNat = 2 ^ 4 - 1 from rfl, Nat.and_two_pow_sub_one_eq_mod, ofNat_val, zQ (show 4 * m < 18446744073709551616 by omega), zQ (show 4 * m < 64 by omega), Nat.shiftRight_eq_div_pow, show (2 : Nat) ^ (4 * m) = 16 ^ m from by rw [Qz]]
theorem dig_nv {k : L4} (hk : k.length = 4) (j : Nat) (hj : j < 4) : (zb k j 0).toNat = nv k / 18446744073709551616 ^ j % 18446744073709551616 := by
  match k, hk with
  | [a, b, c, d], _ =>
    rw [nv4]
    have h1 := lt64 a
    have h2 := lt64 b
    have h3 := lt64 c
    have h4 := lt64 d
    match j, hj with
    | 0, _ => show a.toNat = _; rw [ZV]; omega
    | 1, _ => show b.toNat = _; rw [Nat.pow_one]; omega
    | 2, _ => show c.toNat = _; rw [show (18446744073709551616 : Nat) ^ 2 = 340282366920938463463374607431768211456 from rfl]; omega
    | 3, _ => show d.toNat = _; rw [show (18446744073709551616 : Nat) ^ 3 = 6277101735386680763835789423207666416102355444464034512896 from rfl]; omega
theorem nib_u {k : L4} (hk : k.length = 4) {i : Nat} (hi : i < 64) : ((zk ((zb k (i / 16) 0 >>> zi (4 * (i % 16))) &&& 15) : Nat) : Int) = ((nib (nv k) i : Nat) : Int) := by
  rw [nib_shr _ _ (by omega), dig_nv hk _ (by omega), nib]
  congr 1
  have e : (16 : Nat) ^ i = 18446744073709551616 ^ (i / 16) * 16 ^ (i % 16) := by
    rw [show (18446744073709551616 : Nat) = 16 ^ 16 from rfl, ← Qz, ← ZO]
    congr 1
    omega
  rw [e, ← ZJ]
  generalize nv k / 18446744073709551616 ^ (i / 16) = q
  have hm : i % 16 < 16 := Z4 _ (by decide)
  have e2 : (18446744073709551616 : Nat) = 16 ^ (i % 16) * (16 * 16 ^ (15 - i % 16)) := by
    rw [show (18446744073709551616 : Nat) = 16 ^ 16 from rfl, ← Nat.pow_succ', ← ZO]
    congr 1
    omega
  rw [e2, Nat.mod_mul_right_div_self, Nat.mod_mul_right_mod]
theorem nib_lt (k i : Nat) : nib k i < 16 := Z4 _ (by decide)
theorem rows0_0 : zD 12 (zG (0 * 12) rows0) = XV := rfl
theorem times12_go (w : World) (p k : List UInt64) (hp : zf p = 12) (hk : zf k = 4) : Calls zB 16 #[.agg (zc (zg p)), .agg (zc (zg k))] w fun e w' => e = .returned (.agg (zc (zg (tmF p (nv k) 64)))) ∧ Ev w [] w' [] := by
 refine d_0 [(0, .agg (zc (zg p))), (1, .agg (zc (zg k)))] 48 Tryz.func16 Tryz.ntmps16 (Heap.nil _) fun Hx Hy Hz => wp_seq <| zj <| f_o <| m_m 44 (zg p) Hy Hz fun _ _ Ee HA HB => f_o <| m_m 24 (zg k) HA HB fun _ _ Ed HC E4 => f_o <| m_z 44 (zg (zd 12 0)) HC E4 fun _ _ Eb E5 E6 => f_e <| ze <| wp_seq <| zj <| f_o <| c_p E5 E6 (zero12_go _) fun _ _ E7 E8 => d_k [2,3,4,10] [] 2 E7 fun _ E9 => ?_
 refine f_o <| m_z 68 (zg (zd 192 0)) E9 E8 fun _ _ Ea Ha Hb => f_o <| zW 3 192 (zg rows0) _ Ha Hb rfl (za rows0_len) (za (zh)) (zq _) rfl fun _ _ Hc Hd => f_e <| ze <| wp_seq <| d_s [2,3,4,5,6] [] Hc fun _ He => ?_
 refine wp_block <| loop_m (fun Hf ac wo => ∃ (i : Nat) (R : List UInt64), Hf = (15 - i : Nat) ∧ Env ac 48 [(2, pt Ee), (3, pt Ed), (4, pt Eb), (5, pt Ea), (6, ni (i + 1))] ∧ Ev w [] wo [.box Ea (zg R) 68, .box Ee (zg p) 44, .box Ed (zg k) 24, .box Eb (zg (zd 12 0)) 44] ∧ (i ≤ 15) ∧ (zf R = 192) ∧ (∀ j, j < i + 1 → zD 12 (zG (j * 12) R) = rowF p j)) ⟨_, 0, rows0, rfl, He.sb, Hd.pk [3, 0, 1, 2], (by omega), rows0_len, (fun j hj => by have e : j = 0 := (by omega); subst e; exact rows0_0)⟩ ?_
 rintro HD _ _ ⟨i, R, rfl, Hg, El, hi, hR, hf⟩
 refine wp_seq <| d_s [2,3,4,5,6,12] [] Hg fun _ Em => ?_
 refine c_d (((i + 1 : Nat) : Int) < (16 : Int)) Em (fun Hh => ?_) (fun Hh => ?_)
 ·
  refine wp_skip <| ze <| wp_seq <| wp_block <| r_c (fun ac wo => Env ac 48 [(2, pt Ee), (3, pt Ed), (4, pt Eb), (5, pt Ea), (6, ni (i + 1))] ∧ Ev w [] wo [.box Ea (zg (zD ((i + 1) * 12) R ++ (wtL (zD 12 (zG (i * 12) R)) p) ++ zG (((i + 1) * 12) + 12) R)) 68, .box Ee (zg p) 44, .box Ed (zg k) 24, .box Eb (zg (zd 12 0)) 44]) ?_ ?_
  ·
   refine s_g0 [(2, pt Ee), (3, pt Ed), (4, pt Eb), (5, pt Ea), (6, ni (i + 1))] [0,1,2,3,4,5,6,7] [(15, ni (i + 1)), (16, ni (i + 1)), (17, ni i), (18, .pointer (some ⟨Ea, i * 12, none⟩)), (19, .agg (zc (zg (zD 12 (zG (i * 12) R))))), (20, .agg (zc (zg p))), (21, .agg (zc (zg (wtL (zD 12 (zG (i * 12) R)) p)))), (22, .pointer (some ⟨Ea, (i + 1) * 12, none⟩))] 1 [(2, pt Ee), (3, pt Ed), (4, pt Eb), (5, pt Ea), (6, ni (i + 1)), (21, .agg (zc (zg (wtL (zD 12 (zG (i * 12) R)) p)))), (22, .pointer (some ⟨Ea, (i + 1) * 12, none⟩))] (Em.sb) (El.trans (zN El.heap)) ?_ fun _ _ Hi Hj => ?_
   ·
    refine s_p [] <| s_p [] <| s_p [(2, g_n (w_r (e := ((i + 1 : Nat) : Int) - (1 : Int)) (x := ((i : Nat) : Int)) (by omega)))] ?_
    refine s_c (fun Mx46 _ _ Hk Hl => ?_) ?_
    ·
     refine q_v (x := Instr.indexAt 68 (pt Ea) (ni i)) (v := .pointer (some ⟨Ea, i * 12, none⟩)) Hk (zs (e := 44) (sz := 12) (m := 16) (j := i) (o := i * 12) (by kernel_rfl) (by kernel_rfl) (by omega) (by omega) (by omega) _) fun _ Hm => ?_
     exact s_e Hm Hl
    refine s_a 0 (i * 12) 12 (zg (zD 12 (zG (i * 12) R))) rfl (u64s_sub _ _ _) (za (Xd hR (by omega))) <| s_a 1 0 12 (zg p) rfl (zn (za hp)) (za hp) <| s_f (fun _ => with12_go _ (zD 12 (zG (i * 12) R)) p (Xd hR (by omega)) hp) ?_
    refine s_c (fun Mx72 _ _ Hn Ho => ?_) ?_
    ·
     refine q_v (x := Instr.indexAt 68 (pt Ea) (ni (i + 1))) (v := .pointer (some ⟨Ea, (i + 1) * 12, none⟩)) Hn (zs (e := 44) (sz := 12) (m := 16) (j := i + 1) (o := (i + 1) * 12) (by kernel_rfl) (by kernel_rfl) (by omega) (by omega) (by omega) _) fun _ Hp => ?_
     exact s_e Hp Ho
    exact s_n
   refine q_u 8 ?_
   refine m_g 0 ((i + 1) * 12) 12 (zg (wtL (zD 12 (zG (i * 12) R)) p)) (zg (zD ((i + 1) * 12) R ++ (wtL (zD 12 (zG (i * 12) R)) p) ++ zG (((i + 1) * 12) + 12) R)) [.box Ea (zg (zD ((i + 1) * 12) R ++ (wtL (zD 12 (zG (i * 12) R)) p) ++ zG (((i + 1) * 12) + 12) R)) 68, .box Ee (zg p) 44, .box Ed (zg k) 24, .box Eb (zg (zd 12 0)) 44] Hi Hj rfl (za (JI _ _)) (by rw [(za hR)]; omega) (zq _) (u64s_put _ _ _ _) rfl fun _ _ Hq Hr => ?_
   exact a_e ⟨Hq.sb, Hr.pk [0, 1, 2, 3]⟩
  rintro _ _ ⟨Hs, Ht⟩
  refine zw <| ze <| d_r [2,3,4,5,6] [(1, g_n (w_a (i + 1) 1))] Hs fun _ Hu => ze <| ⟨_, ⟨i + 1, (zD ((i + 1) * 12) R ++ (wtL (zD 12 (zG (i * 12) R)) p) ++ zG (((i + 1) * 12) + 12) R), rfl, Hu.sb, Ht.pk [0, 1, 2, 3], (by omega), (put_len hR (JI _ _) (by omega)), (fun j hj => by rcases Nat.lt_succ_iff_lt_or_eq.1 hj with h | h; (rw [put_other hR (JI _ _) (by omega) (by omega)]; exact hf j (by omega)); (rw [h, put_same hR (JI _ _) (by omega)]; rw [hf i (Nat.lt_succ_self i)]; rfl))⟩, ?_⟩
  omega
 refine wp_exit <| zF <| zF <| zX <| ze <| wp_seq <| zj <| f_o <| c_p Em El (zero12_go _) fun _ _ En Eo => f_o <| m_z 44 (zg (zd 12 0)) En Eo fun _ _ Ec Ep Eq => f_o <| zW 4 12 (zg XV) _ Ep Eq rfl (za (l3_len _ _ _)) (za (zh)) (zq _) rfl fun _ _ Er Es => f_e <| ze <| wp_seq <| d_s [2,3,4,5,6,7,8] [] Er fun _ Et => ?_
 refine wp_block <| loop_m (fun Eu ac wo => ∃ (j : Nat) (o : List UInt64), Eu = (64 - j : Nat) ∧ Env ac 48 [(2, pt Ee), (3, pt Ed), (4, pt Eb), (5, pt Ea), (6, ni (i + 1)), (7, pt Ec), (8, .int .i64 ((63 : Int) - ((j : Nat) : Int)))] ∧ Ev w [] wo [.box Ec (zg o) 44, .box Ea (zg R) 68, .box Ee (zg p) 44, .box Ed (zg k) 24, .box Eb (zg (zd 12 0)) 44] ∧ (j ≤ 64) ∧ (zf o = 12) ∧ (o = tmF p (nv k) j)) ⟨_, 0, XV, rfl, Et.sb, Es.pk [4, 0, 1, 2, 3], (by omega), (l3_len _ _ _), rfl⟩ ?_
 rintro Hv _ _ ⟨j, o, rfl, Ew, Eg, hj, ho, he⟩
 refine wp_seq <| d_s [2,3,4,5,6,7,8,25] [] Ew fun _ Eh => ?_
 refine c_d ((63 : Int) - ((j : Nat) : Int) ≥ (0 : Int)) Eh (fun Ex => ?_) (fun Ex => ?_)
 ·
  refine wp_skip <| ze <| wp_seq <| wp_block <| wp_seq <| d_s [2,3,4,5,6,7,8,28] [] Eh fun _ Ey => ?_
  refine wp_block <| loop_m (fun Ez ac wo => ∃ (q : Nat) (o2 : List UInt64), Ez = (4 - q : Nat) ∧ Env ac 48 [(2, pt Ee), (3, pt Ed), (4, pt Eb), (5, pt Ea), (6, ni (i + 1)), (7, pt Ec), (8, .int .i64 ((63 : Int) - ((j : Nat) : Int))), (28, ni q)] ∧ Ev w [] wo [.box Ec (zg o2) 44, .box Ea (zg R) 68, .box Ee (zg p) 44, .box Ed (zg k) 24, .box Eb (zg (zd 12 0)) 44] ∧ (q ≤ 4) ∧ (zf o2 = 12) ∧ (o2 = dblF o q)) ⟨_, 0, o, rfl, Ey.sb, Eg.pk [0, 1, 2, 3, 4], (by omega), ho, rfl⟩ ?_
  rintro Hw _ _ ⟨q, o2, rfl, EA, Ef, hq, ho2, heq⟩
  refine d_s [2,3,4,5,6,7,8,28,29] [] EA fun _ Ei => ?_
  refine wp_seq <| c_d (((q : Nat) : Int) < (4 : Int)) Ei (fun EB => ?_) (fun EB => ?_)
  ·
   refine wp_skip <| ze <| wp_seq <| wp_block <| zj <| f_o <| Zn 0 12 (zg o2) Ei Ef rfl (za ho2) fun _ EC => f_o <| Zn 0 12 (zg o2) EC Ef rfl (za ho2) fun _ ED => f_o <| c_p ED Ef (with12_go _ o2 o2 ho2 ho2) fun _ _ EE EF => f_o <| zW 0 12 (zg (wtL o2 o2)) [.box Ec (zg (wtL o2 o2)) 44, .box Ea (zg R) 68, .box Ee (zg p) 44, .box Ed (zg k) 24, .box Eb (zg (zd 12 0)) 44] EE EF rfl (za (JI _ _)) (za ho2) (zq _) rfl fun _ _ EG EH => f_e <| zw <| ze <| d_r [2,3,4,5,6,7,8,28] [(0, g_n (w_a q 1))] EG fun _ EI => ze <| ⟨_, ⟨q + 1, (wtL o2 o2), rfl, EI.sb, EH.pk [0, 1, 2, 3, 4], (by omega), (JI _ _), (by rw [heq]; rfl)⟩, ?_⟩
   omega
  refine wp_exit <| zF <| zF <| zX <| ze ?_
  have hq4 : q = 4 := by omega
  have HE : o2 = dblF o 4 := by rw [heq, hq4]
  have hj63 : j < 64 := by omega
  have hnl := nib_lt (nv k) (63 - j)
  refine r_c (fun ac wo => Env ac 48 [(2, pt Ee), (3, pt Ed), (4, pt Eb), (5, pt Ea), (6, ni (i + 1)), (7, pt Ec), (8, .int .i64 ((63 : Int) - ((j : Nat) : Int))), (28, ni q)] ∧ Ev w [] wo [.box Ec (zg (wtL o2 (zD 12 (zG ((nib (nv k) (63 - j)) * 12) R)))) 44, .box Ea (zg R) 68, .box Ee (zg p) 44, .box Ed (zg k) 24, .box Eb (zg (zd 12 0)) 44]) ?_ ?_
  ·
   refine s_g0 [(2, pt Ee), (3, pt Ed), (4, pt Eb), (5, pt Ea), (6, ni (i + 1)), (7, pt Ec), (8, .int .i64 ((63 : Int) - ((j : Nat) : Int))), (28, ni q)] [0,1,2,3,4,5,6,7,8,9,10,11,12] [(34, .agg (zc (zg o2))), (35, ni (63 - j)), (36, ni ((63 - j) / 16)), (37, .pointer (some ⟨Ed, (63 - j) / 16, none⟩)), (38, uv64 (zb k ((63 - j) / 16) 0)), (39, ni (63 - j)), (40, ni ((63 - j) % 16)), (41, ni (4 * ((63 - j) % 16))), (42, uv64 ((zb k ((63 - j) / 16) 0) >>> zi (4 * ((63 - j) % 16)))), (43, .int .u64 ((nib (nv k) (63 - j) : Nat) : Int)), (44, .pointer (some ⟨Ea, (nib (nv k) (63 - j)) * 12, none⟩)), (45, .agg (zc (zg (zD 12 (zG ((nib (nv k) (63 - j)) * 12) R))))), (46, .agg (zc (zg (wtL o2 (zD 12 (zG ((nib (nv k) (63 - j)) * 12) R))))))] 1 [(2, pt Ee), (3, pt Ed), (4, pt Eb), (5, pt Ea), (6, ni (i + 1)), (7, pt Ec), (8, .int .i64 ((63 : Int) - ((j : Nat) : Int))), (28, ni q), (46, .agg (zc (zg (wtL o2 (zD 12 (zG ((nib (nv k) (63 - j)) * 12) R))))))] (Ei.sb) (Ef.trans (zN Ef.heap)) ?_ fun _ _ EJ EK => ?_
   ·
    refine s_a 0 0 12 (zg o2) rfl (zn (za ho2)) (za ho2) <| s_p [(1, g_i .i64 (show (63 : Int) - ((j : Nat) : Int) = ((63 - j : Nat) : Int) from by omega))] <| s_p [(2, g_i .i64 (show IntKind.wrap .i64 (Int.tdiv ((63 - j : Nat) : Int) (16 : Int)) = (((63 - j) / 16 : Nat) : Int) from Go.Dbr.i64_quo_nat (a := ((63 - j : Nat) : Int)) (n := 63 - j) (m := 16) rfl (by omega)))] ?_
    refine s_c (fun Mx159 _ _ EL EM => ?_) ?_
    ·
     refine q_v (x := Instr.indexAt 24 (pt Ed) (ni ((63 - j) / 16))) (v := .pointer (some ⟨Ed, (63 - j) / 16, none⟩)) EL (zs (e := 22) (sz := 1) (m := 4) (j := (63 - j) / 16) (o := (63 - j) / 16) (by kernel_rfl) (by kernel_rfl) (by omega) (by omega) (by omega) _) fun _ EN => ?_
     exact s_e EN EM
    refine s_c (fun Mx166 _ _ EO Ej => ?_) ?_
    ·
     have EP : (63 - j) / 16 < zf k := by rw [hk]; omega
     refine m_v 3 ((63 - j) / 16) (uv64 (zb k ((63 - j) / 16) 0)) EO Ej rfl (u64s_getD EP) fun _ EQ => ?_
     exact s_e EQ Ej
    refine s_p [(5, g_i .i64 (show (63 : Int) - ((j : Nat) : Int) = ((63 - j : Nat) : Int) from by omega))] <| s_p [(6, g_i .i64 (show Int.tmod ((63 - j : Nat) : Int) (16 : Int) = (((63 - j) % 16 : Nat) : Int) from Go.Dbr.i64_rem_nat (a := ((63 - j : Nat) : Int)) (n := 63 - j) (m := 16) rfl (by omega)))] <| s_p [(7, g_n (w_m 4 ((63 - j) % 16)))] ?_
    refine s_c (fun Mx174 _ _ ER ES => ?_) ?_
    ·
     refine q_v ER (Go.Dbr.run_shr_u64 (zb k ((63 - j) / 16) 0) .i64 (4 * ((63 - j) % 16)) (by omega) _) fun _ ET => ?_
     exact s_e ET ES
    refine s_p [(9, g_v (show (.int .u64 (IntKind.wrap .u64 ((zP (IntKind.bits .u64) ((zk ((zb k ((63 - j) / 16) 0) >>> zi (4 * ((63 - j) % 16))) : Nat) : Int) &&& zP (IntKind.bits .u64) (15 : Int)).toNat : Int)) : Value) = .int .u64 ((nib (nv k) (63 - j) : Nat) : Int) by rw [Go.Dbr.u64_and (a := ((zk ((zb k ((63 - j) / 16) 0) >>> zi (4 * ((63 - j) % 16))) : Nat) : Int)) (b := (15 : Int)) (x := (zb k ((63 - j) / 16) 0) >>> zi (4 * ((63 - j) % 16))) (y := (15 : UInt64)) rfl rfl, nib_u hk (show 63 - j < 64 by omega)] <;> rfl))] ?_
    refine s_c (fun Mx181 _ _ EU EV => ?_) ?_
    ·
     refine q_v (x := Instr.indexAt 68 (pt Ea) (.int .u64 ((nib (nv k) (63 - j) : Nat) : Int))) (v := .pointer (some ⟨Ea, (nib (nv k) (63 - j)) * 12, none⟩)) EU (zs (e := 44) (sz := 12) (m := 16) (j := nib (nv k) (63 - j)) (o := (nib (nv k) (63 - j)) * 12) (by kernel_rfl) (by kernel_rfl) (by omega) (by omega) (by omega) _) fun _ EW => ?_
     exact s_e EW EV
    refine s_a 1 ((nib (nv k) (63 - j)) * 12) 12 (zg (zD 12 (zG ((nib (nv k) (63 - j)) * 12) R))) rfl (u64s_sub _ _ _) (za (Xd hR (by omega))) <| s_f (fun _ => with12_go _ o2 (zD 12 (zG ((nib (nv k) (63 - j)) * 12) R)) ho2 (Xd hR (by omega))) ?_
    exact s_n
   refine q_u 13 ?_
   refine zW 0 12 (zg (wtL o2 (zD 12 (zG ((nib (nv k) (63 - j)) * 12) R)))) _ EJ EK rfl (za (JI _ _)) (za ho2) (zq _) rfl fun _ _ EX EY => ?_
   exact a_e ⟨EX.sb, EY.pk [0, 1, 2, 3, 4]⟩
  rintro _ _ ⟨EZ, E0⟩
  refine zw <| ze <| d_r [2,3,4,5,6,7,8,28] [(1, g_n (w_r (e := ((63 : Int) - ((j : Nat) : Int)) - (1 : Int)) (x := (63 : Int) - ((j + 1 : Nat) : Int)) (by omega)))] EZ fun _ E1 => ze <| ⟨_, ⟨j + 1, (wtL o2 (zD 12 (zG ((nib (nv k) (63 - j)) * 12) R))), rfl, E1.sb, E0.pk [0, 1, 2, 3, 4], (by omega), (JI _ _), (by rw [HE, hf _ (by have := nib_lt (nv k) (63 - j); omega), he]; rfl)⟩, ?_⟩
  omega
 refine wp_exit <| zF <| zF <| zX <| ze <| wp_seq <| zj <| f_o <| Zn 0 12 (zg o) Eh Eg rfl (za ho) fun _ E2 => f_o <| zW 4 12 (zg o) [.box Ec (zg o) 44, .box Ea (zg R) 68, .box Ee (zg p) 44, .box Ed (zg k) 24, .box Eb (zg o) 44] E2 Eg rfl (za ho) (za (zh)) (zq _) rfl fun _ _ E3 Ek => f_e <| ze <| wp_ret <| zU (v := .agg (zc (zg o))) (t := 4) (T := 44) (ad := ⟨Eb, 0, none⟩) E3 (by kernel_rfl) (by kernel_rfl) (zC (t := 44) (k := 4) (off := 0) (m := 12) (xs := zg o) Ek rfl (zn (za ho)) (za ho) (by kernel_rfl) (by kernel_rfl)) ?_
 have hj4 : j = 64 := by omega
 exact ⟨by rw [he, hj4], Ek.pk []⟩
abbrev T3 := L4 × L4 × L4
def one3 : T3 := ([1, 0, 0, 0], [1, 0, 0, 0], z4)
def jmN (x z : Nat) : Nat := zo 2 3 (zo 2 (zZ 2 x (zo 2 z z)) (z5 2 x (zo 2 z z)))
def jsN (x y : Nat) : Nat := zo 2 4 (zo 2 x (zo 2 y y))
def jxN (x y z : Nat) : Nat := zZ 2 (zo 2 (jmN x z) (jmN x z)) (z5 2 (jsN x y) (jsN x y))
def jyN (x y z : Nat) : Nat := zZ 2 (zo 2 (jmN x z) (zZ 2 (jsN x y) (jxN x y z))) (zo 2 8 (zo 2 (zo 2 y y) (zo 2 y y)))
def jzN (y z : Nat) : Nat := zo 2 2 (zo 2 y z)
def jtL (t : T3) : T3 := bif t.2.2 == z4 || t.2.1 == z4 then one3 else (nd (jxN (nv t.1) (nv t.2.1) (nv t.2.2)), nd (jyN (nv t.1) (nv t.2.1) (nv t.2.2)), nd (jzN (nv t.2.1) (nv t.2.2)))
def pxN (u v s t : Nat) : Nat := zZ 2 (zZ 2 (zo 2 (zZ 2 t s) (zZ 2 t s)) (zo 2 (zo 2 (zZ 2 v u) (zZ 2 v u)) (zZ 2 v u))) (z5 2 (zo 2 u (zo 2 (zZ 2 v u) (zZ 2 v u))) (zo 2 u (zo 2 (zZ 2 v u) (zZ 2 v u))))
def pyN (u v s t : Nat) : Nat := zZ 2 (zo 2 (zZ 2 t s) (zZ 2 (zo 2 u (zo 2 (zZ 2 v u) (zZ 2 v u))) (pxN u v s t))) (zo 2 s (zo 2 (zo 2 (zZ 2 v u) (zZ 2 v u)) (zZ 2 v u)))
def pzN (u v z1 z2 : Nat) : Nat := zo 2 (zZ 2 v u) (zo 2 z1 z2)
def puN (x z : Nat) : Nat := zo 2 x (zo 2 z z)
def psN (y z : Nat) : Nat := zo 2 y (zo 2 (zo 2 z z) z)
def pqL (u v s t z1 z2 : Nat) : T3 := (nd (pxN u v s t), nd (pyN u v s t), nd (pzN u v z1 z2))
def jpL (s t : T3) : T3 :=
  bif s.2.2 == z4 then t else bif t.2.2 == z4 then s else
  bif nd (puN (nv s.1) (nv t.2.2)) == nd (puN (nv t.1) (nv s.2.2)) then (bif nd (psN (nv s.2.1) (nv t.2.2)) == nd (psN (nv t.2.1) (nv s.2.2)) then jtL s else one3)
  else pqL (puN (nv s.1) (nv t.2.2)) (puN (nv t.1) (nv s.2.2)) (psN (nv s.2.1) (nv t.2.2)) (psN (nv t.2.1) (nv s.2.2)) (nv s.2.2) (nv t.2.2)
def bitN (k i : Nat) : Nat := k / 2 ^ i % 2
def mnF (p : T3) (k : Nat) : Nat → T3
  | 0 => one3
  | j + 1 => bif bitN k (255 - j) == 1 then jpL (jtL (mnF p k j)) p else jtL (mnF p k j)
def bkJ (t : T3) : PZ := bif t.2.2 == z4 then zeroP else (false, nd (zo 2 (nv t.1) (zo 2 (ivN (nv t.2.2)) (ivN (nv t.2.2)))), nd (zo 2 (nv t.2.1) (zo 2 (zo 2 (ivN (nv t.2.2)) (ivN (nv t.2.2))) (ivN (nv t.2.2)))))
structure Len3 (t : T3) : Prop where
  x : t.1.length = 4
  y : t.2.1.length = 4
  z : t.2.2.length = 4
theorem one3_len : Len3 one3 := ⟨rfl, rfl, rfl⟩
theorem nd3_len (a b c : Nat) : Len3 (nd a, nd b, nd c) := ⟨ndl _, ndl _, ndl _⟩
theorem jtL_len (t : T3) : Len3 (jtL t) := by
  unfold jtL
  cases t.2.2 == z4 || t.2.1 == z4 with
  | true => exact one3_len
  | false => exact nd3_len _ _ _
theorem cond_len {b : Bool} {s t : T3} (hs : Len3 s) (ht : Len3 t) : Len3 (bif b then s else t) := by
  cases b with
  | true => exact hs
  | false => exact ht
theorem pqL_len (u v s t a b : Nat) : Len3 (pqL u v s t a b) := nd3_len _ _ _
theorem jpL_len {s t : T3} (hs : Len3 s) (ht : Len3 t) : Len3 (jpL s t) := by
  unfold jpL
  exact cond_len ht (cond_len hs (cond_len (cond_len (jtL_len _) one3_len) (pqL_len _ _ _ _ _ _)))
theorem mnF_len {p : T3} (hp : Len3 p) (k : Nat) : ∀ j, Len3 (mnF p k j)
  | 0 => one3_len
  | j + 1 => by
    unfold mnF
    cases bitN k (255 - j) == 1 with
    | true => exact jpL_len (jtL_len _) hp
    | false => exact jtL_len _
structure RepT (t : T3) (P : GP) : Prop where
  len : Len3 t
  lt1 : nv t.1 < Go.Wei.PP
  lt2 : nv t.2.1 < Go.Wei.PP
  lt3 : nv t.2.2 < Go.Wei.PP
  rep : Go.Wei.RepJ (fP (nv t.1), fP (nv t.2.1), fP (nv t.2.2)) P.1
theorem rep_nd3 {a b c : Nat} {P : GP} (ha : a < Go.Wei.PP) (hb : b < Go.Wei.PP) (hc : c < Go.Wei.PP) (h : Go.Wei.RepJ (fP a, fP b, fP c) P.1) : RepT (nd a, nd b, nd c) P := by
  have ea := Z6 (z6 ha JO)
  have eb := Z6 (z6 hb JO)
  have ec := Z6 (z6 hc JO)
  refine ⟨nd3_len _ _ _, ?_, ?_, ?_, ?_⟩
  · show nv (nd a) < _; rw [ea]; exact ha
  · show nv (nd b) < _; rw [eb]; exact hb
  · show nv (nd c) < _; rw [ec]; exact hc
  · show Go.Wei.RepJ (fP (nv (nd a)), fP (nv (nd b)), fP (nv (nd c))) P.1; rw [ea, eb, ec]; exact h
theorem rep_one3 : RepT one3 Go.Wei.Cv.zero := rep_nd3 (a := 1) (b := 1) (c := 0) (by decide) (by decide) (by decide) (show fP 0 = 0 from rfl)
theorem fP_zero {a : Nat} (h : a < Go.Wei.PP) : fP a = 0 ↔ a = 0 := by
  constructor
  · intro g
    have := congrArg Fin.val g
    rw [Go.Wei.fin_zero] at this
    exact (zQ h).symm.trans this
  · intro g; rw [g]; rfl
theorem z4_beq {z : L4} (hz : z.length = 4) (h : nv z < Go.Wei.PP) : (z == z4) = decide (fP (nv z) = 0) := by
  rw [nv_zero4 hz]
  exact decide_eq_decide.2 (fP_zero h).symm
theorem nd_beq {a b : Nat} (ha : a < Go.Wei.PP) (hb : b < Go.Wei.PP) : (nd a == nd b) = decide (fP a = fP b) := by
  by_cases h : fP a = fP b
  · rw [decide_eq_true h, Go.Wei.fn_inj ha hb h]; exact beq_self_eq_true _
  · rw [decide_eq_false h]
    exact beq_false_of_ne fun g => h (congrArg fP (nd_inj (z6 ha JO) (z6 hb JO) g))
theorem f_3 : fP 3 = Go.Wei.k3 := Go.Wei.fn_3
theorem f_2 : fP 2 = 1 + 1 := by
  show Go.Wei.fn Go.Wei.PP (1 + 1) = _
  rw [Go.Wei.fn_a, Go.Wei.fn_one]
theorem f_4 : fP 4 = Go.Wei.k4 := by
  show Go.Wei.fn Go.Wei.PP (1 + 1 + 1 + 1) = _
  rw [Go.Wei.fn_a, Go.Wei.fn_a, Go.Wei.fn_a, Go.Wei.fn_one]
  rfl
theorem f_8 : fP 8 = Go.Wei.k8 := by
  show Go.Wei.fn Go.Wei.PP (1 + 1 + 1 + 1 + 1 + 1 + 1 + 1) = _
  rw [Go.Wei.fn_a, Go.Wei.fn_a, Go.Wei.fn_a, Go.Wei.fn_a, Go.Wei.fn_a, Go.Wei.fn_a, Go.Wei.fn_a, Go.Wei.fn_one]
  rfl
theorem f_jm (x z : Nat) : fP (jmN x z) = Go.Wei.jm (fP x) (fP z) := by rw [jmN, Z2, Z2, Jf, f_add, Z2, f_3]; rfl
theorem f_js (x y : Nat) : fP (jsN x y) = Go.Wei.js (fP x) (fP y) := by rw [jsN, Z2, Z2, Z2, f_4]; rfl
theorem f_jx (x y z : Nat) : fP (jxN x y z) = Go.Wei.jx (fP x) (fP y) (fP z) := by rw [jxN, Jf, Z2, f_add, f_jm, f_js]; rfl
theorem rep_jt {t : T3} {P : GP} (h : RepT t P) : RepT (jtL t) (Go.Wei.Cv.add P P) := by
  have j := Go.Wei.jt_ok Go.Wei.fldP Go.Wei.no2P P.2 h.rep (Go.Wei.Cv.is P P)
  rw [Go.Wei.jt] at j
  unfold jtL
  rw [z4_beq h.len.z h.lt3, z4_beq h.len.y h.lt2]
  by_cases hz : fP (nv t.2.2) = 0 ∨ fP (nv t.2.1) = 0
  · rw [if_pos hz] at j
    have : (decide (fP (nv t.2.2) = 0) || decide (fP (nv t.2.1) = 0)) = true := by simpa using hz
    rw [this]
    exact rep_nd3 (a := 1) (b := 1) (c := 0) (by decide) (by decide) (by decide) (show Go.Wei.RepJ (fP 1, fP 1, fP 0) _ by rw [fP, fP, Go.Wei.fn_one, Go.Wei.fn_zero]; exact j)
  · rw [if_neg hz] at j
    have : (decide (fP (nv t.2.2) = 0) || decide (fP (nv t.2.1) = 0)) = false := by simpa using hz
    rw [this]
    refine rep_nd3 (Ka _ _) (Ka _ _) (JV _ _) ?_
    rw [f_jx, jyN, jzN, Jf, Z2, Jf, Z2, Z2, Z2, f_jm, f_js, f_jx, f_8, Z2, Z2, f_2]
    exact j
theorem f_pu (x z : Nat) : fP (puN x z) = fP x * (fP z * fP z) := by rw [puN, Z2, Z2]
theorem f_ps (y z : Nat) : fP (psN y z) = fP y * ((fP z * fP z) * fP z) := by rw [psN, Z2, Z2, Z2]
theorem f_px (u v s t : Nat) : fP (pxN u v s t) = Go.Wei.px (fP u) (fP v) (fP s) (fP t) := by simp only [pxN, Jf, Z2, f_add, Go.Wei.px]
theorem rep_jp {s t : T3} {P Q : GP} (hs : RepT s P) (ht : RepT t Q) : RepT (jpL s t) (Go.Wei.Cv.add P Q) := by
  have j := Go.Wei.jp_ok Go.Wei.fldP Go.Wei.no2P P.2 Q.2 hs.rep ht.rep (Go.Wei.Cv.is P Q)
  rw [Go.Wei.jp] at j
  unfold jpL
  rw [z4_beq hs.len.z hs.lt3, z4_beq ht.len.z ht.lt3, nd_beq (show puN _ _ < _ from JV _ _) (show puN _ _ < _ from JV _ _), nd_beq (show psN _ _ < _ from JV _ _) (show psN _ _ < _ from JV _ _), f_pu, f_pu, f_ps, f_ps]
  by_cases h1 : fP (nv s.2.2) = 0
  · rw [if_pos h1] at j
    rw [decide_eq_true h1]
    exact ⟨ht.len, ht.lt1, ht.lt2, ht.lt3, j⟩
  rw [if_neg h1] at j
  rw [decide_eq_false h1, Zc]
  by_cases h2 : fP (nv t.2.2) = 0
  · rw [if_pos h2] at j
    rw [decide_eq_true h2]
    exact ⟨hs.len, hs.lt1, hs.lt2, hs.lt3, j⟩
  rw [if_neg h2] at j
  rw [decide_eq_false h2, Zc]
  by_cases h3 : fP (nv s.1) * (fP (nv t.2.2) * fP (nv t.2.2)) = fP (nv t.1) * (fP (nv s.2.2) * fP (nv s.2.2))
  · rw [if_pos h3] at j
    rw [decide_eq_true h3, ZF]
    by_cases h4 : fP (nv s.2.1) * ((fP (nv t.2.2) * fP (nv t.2.2)) * fP (nv t.2.2)) = fP (nv t.2.1) * ((fP (nv s.2.2) * fP (nv s.2.2)) * fP (nv s.2.2))
    · rw [if_pos h4] at j
      rw [decide_eq_true h4, ZF]
      have k := rep_jt hs
      refine ⟨k.len, k.lt1, k.lt2, k.lt3, ?_⟩
      have e : (fP (nv (jtL s).1), fP (nv (jtL s).2.1), fP (nv (jtL s).2.2)) = Go.Wei.jt (fP (nv s.1), fP (nv s.2.1), fP (nv s.2.2)) := by
        unfold jtL
        rw [Go.Wei.jt, z4_beq hs.len.z hs.lt3, z4_beq hs.len.y hs.lt2]
        by_cases hz : fP (nv s.2.2) = 0 ∨ fP (nv s.2.1) = 0
        · rw [if_pos hz, show (decide (fP (nv s.2.2) = 0) || decide (fP (nv s.2.1) = 0)) = true by simpa using hz]
          rfl
        · rw [if_neg hz, show (decide (fP (nv s.2.2) = 0) || decide (fP (nv s.2.1) = 0)) = false by simpa using hz]
          show (fP (nv (nd (jxN _ _ _))), fP (nv (nd (jyN _ _ _))), fP (nv (nd (jzN _ _)))) = _
          rw [Z6 (show jxN _ _ _ < W256 from subM_lt h2f _ _), Z6 (show jyN _ _ _ < W256 from subM_lt h2f _ _), Z6 (show jzN _ _ < W256 from mulM_lt h2f _ _)]
          rw [f_jx, jyN, jzN, Jf, Z2, Jf, Z2, Z2, Z2, f_jm, f_js, f_jx, f_8, Z2, Z2, f_2]
      rw [e]
      exact j
    · rw [if_neg h4] at j
      rw [decide_eq_false h4, Zc]
      exact rep_nd3 (a := 1) (b := 1) (c := 0) (by decide) (by decide) (by decide) (show Go.Wei.RepJ (fP 1, fP 1, fP 0) _ by rw [fP, fP, Go.Wei.fn_one, Go.Wei.fn_zero]; exact j)
  · rw [if_neg h3] at j
    rw [decide_eq_false h3, Zc]
    refine rep_nd3 (Ka _ _) (Ka _ _) (JV _ _) ?_
    rw [pyN, pzN, f_px, Jf, Z2, Jf, Jf, Z2, Z2, Jf, f_px, Z2, Z2, Z2, Jf, Z2, Jf, Z2, f_pu, f_pu, f_ps, f_ps]
    exact j
theorem bit_step (k i : Nat) : k / 2 ^ i = 2 * (k / 2 ^ (i + 1)) + bitN k i := by
  rw [bitN, Nat.pow_succ, ← ZJ]
  exact (Nat.div_add_mod _ _).symm
theorem rep_mn {p : T3} {P : GP} {k : Nat} (h : RepT p P) (hk : k < W256) : ∀ j, j ≤ 256 → RepT (mnF p k j) (Go.Wei.Cv.mul (k / 2 ^ (256 - j)) P)
  | 0, _ => by
    rw [Nat.div_eq_of_lt (show k < 2 ^ (256 - 0) from hk)]
    exact rep_one3
  | j + 1, hj => by
    have ih := rep_mn h hk j (by omega)
    have e : 256 - j = 255 - j + 1 := by omega
    have t := rep_jt ih
    rw [show 256 - (j + 1) = 255 - j by omega, bit_step, ← e, Nat.two_mul, Go.Wei.Cv.mul_add, Go.Wei.Cv.mul_add]
    unfold mnF
    have hb : bitN k (255 - j) < 2 := Z4 _ (by decide)
    by_cases h1 : bitN k (255 - j) = 1
    · rw [h1, Go.Wei.Cv.mul_one]
      exact rep_jp t h
    · have h0 : bitN k (255 - j) = 0 := by omega
      rw [h0]
      show RepT _ (Go.Wei.Cv.add _ Go.Wei.Cv.zero)
      rw [Go.Wei.Cv.add_zero]
      exact t
theorem rep_many {p : T3} {P : GP} {k : Nat} (h : RepT p P) (hk : k < W256) : RepT (mnF p k 256) (Go.Wei.Cv.mul k P) := by
  have := rep_mn h hk 256 (Nat.le_refl _)
  rwa [Nat.sub_self, ZV, Nat.div_one] at this
def ofJ (z : Bool) (x y : L4) : T3 := bif z then one3 else (x, y, [1, 0, 0, 0])
theorem ofJ_len {z : Bool} {x y : L4} (hx : x.length = 4) (hy : y.length = 4) : Len3 (ofJ z x y) := by
  cases z with
  | true => exact one3_len
  | false => exact ⟨hx, hy, rfl⟩
theorem rep_ofJ {z : Bool} {x y : L4} (hx : x.length = 4) (hy : y.length = 4) (h : onN z x y = true) : RepT (ofJ z x y) (gO (z, x, y)) := by
  have hg := gO_in (p := (z, x, y)) h
  cases z with
  | true =>
    have : gO (true, x, y) = Go.Wei.Cv.zero := Subtype.ext hg
    rw [this]
    exact rep_one3
  | false =>
    have h0 := h
    simp only [onN, Zc, Bool.and_eq_true, decide_eq_true_eq] at h
    refine ⟨⟨hx, hy, rfl⟩, h.1.1, h.1.2, (show nv [1, 0, 0, 0] < Go.Wei.PP from by decide), ?_⟩
    rw [hg]
    show Go.Wei.RepJ (fP (nv x), fP (nv y), fP 1) (.A (fP (nv x)) (fP (nv y)))
    rw [show fP 1 = 1 from Go.Wei.fn_one]
    generalize fP (nv x) = a
    generalize fP (nv y) = b
    exact ⟨one_ne, by grind -lia, by grind -lia⟩
theorem bkJ_ok {t : T3} {P : GP} (h : RepT t P) : bkJ t = outP P.1 := by
  have hr := h.rep
  have h3 := h.lt3
  unfold bkJ
  rw [nv_zero4 h.len.z]
  generalize nv t.2.2 = c at *
  generalize nv t.1 = a at *
  generalize nv t.2.1 = b at *
  cases hP : P.1 with
  | O =>
    rw [hP] at hr
    rw [decide_eq_true ((fP_zero h3).1 hr)]
    rfl
  | A x y =>
    rw [hP] at hr
    obtain ⟨hz, hx, hy⟩ := hr
    rw [decide_eq_false fun g => hz ((fP_zero h3).2 g)]
    have i1 := iv_1 hz
    have e1 : zo 2 a (zo 2 (ivN c) (ivN c)) = x.val := by
      refine Go.Wei.fn_inj (JV _ _) x.isLt ?_
      show fP _ = fP _
      rw [Z2, Z2, hx, show fP x.val = x from Go.Wei.fn_of x]
      generalize fP (ivN c) = i at *
      generalize fP c = d at *
      clear hx hy
      grind -lia
    have e2 : zo 2 b (zo 2 (zo 2 (ivN c) (ivN c)) (ivN c)) = y.val := by
      refine Go.Wei.fn_inj (JV _ _) y.isLt ?_
      show fP _ = fP _
      rw [Z2, Z2, Z2, hy, show fP y.val = y from Go.Wei.fn_of y]
      generalize fP (ivN c) = i at *
      generalize fP c = d at *
      clear hx hy e1
      grind -lia
    rw [e1, e2]
    rfl
theorem on_doc (x : Nat) : zZ 2 (zo 2 x (zo 2 x x)) (zo 2 3 x) = zZ 2 (zo 2 (zo 2 x x) x) (thN x) := by
  refine Go.Wei.fn_inj (Ka _ _) (Ka _ _) ?_
  show fP _ = fP _
  rw [Jf, Jf, Z2, Z2, Z2, Z2, Z2, f_th, f_3, Go.Wei.k3, Go.Wei.th]
  generalize fP x = a
  grind -lia
theorem dmul_go (w : World) (a b : List UInt64) (ha : zf a = 4) (hb : zf b = 4) : Calls zB 58 #[.agg (zc (zg a)), .agg (zc (zg b))] w fun e w' => e = .returned (.agg (zc (zg (nd (zo 2 (nv a) (nv b)))))) ∧ Ev w [] w' [] := by
 refine d_0 [(0, .agg (zc (zg a))), (1, .agg (zc (zg b)))] 8 Tryz.func58 Tryz.ntmps58 (Heap.nil _) fun Ek El Em => wp_seq <| zj <| f_o <| m_m 24 (zg a) El Em fun _ _ Eq En Eo => f_o <| m_m 24 (zg b) En Eo fun _ _ Er Ep Ec => f_o <| m_z 24 (zg (zd 4 0)) Ep Ec fun _ _ Ed Ee Ea => f_e <| ze <| wp_seq <| zj <| f_o <| Zn 0 4 (zg a) Ee Ea rfl (za ha) fun _ Ef => f_o <| Zn 1 4 (zg b) Ef Ea rfl (za hb) fun _ Eg => ?_
 refine f_o <| c_p Eg Ea (hR2 _ a b ha hb) fun _ _ Eh Ei => f_o <| zW 2 4 (zg (nd (zo 2 (nv a) (nv b)))) _ Eh Ei rfl (za (zl _ _)) (za (zh)) (zq _) rfl fun _ _ Ej Eb => f_e <| ze <| wp_ret <| zU (v := .agg (zc (zg (nd (zo 2 (nv a) (nv b)))))) (t := 4) (T := 24) (ad := ⟨Ed, 0, none⟩) Ej (by kernel_rfl) (by kernel_rfl) (zC (t := 24) (k := 2) (off := 0) (m := 4) (xs := zg (nd (zo 2 (nv a) (nv b)))) Eb rfl (zn (za (zl _ _))) (za (zl _ _)) (by kernel_rfl) (by kernel_rfl)) ?_
 exact ⟨rfl, Eb.pk []⟩
theorem dadd_go (w : World) (a b : List UInt64) (ha : zf a = 4) (hb : zf b = 4) : Calls zB 56 #[.agg (zc (zg a)), .agg (zc (zg b))] w fun e w' => e = .returned (.agg (zc (zg (nd (z5 2 (nv a) (nv b)))))) ∧ Ev w [] w' [] := by
 refine d_0 [(0, .agg (zc (zg a))), (1, .agg (zc (zg b)))] 8 Tryz.func56 Tryz.ntmps56 (Heap.nil _) fun Ek El Em => wp_seq <| zj <| f_o <| m_m 24 (zg a) El Em fun _ _ Eq En Eo => f_o <| m_m 24 (zg b) En Eo fun _ _ Er Ep Ec => f_o <| m_z 24 (zg (zd 4 0)) Ep Ec fun _ _ Ed Ee Ea => f_e <| ze <| wp_seq <| zj <| f_o <| Zn 0 4 (zg a) Ee Ea rfl (za ha) fun _ Ef => f_o <| Zn 1 4 (zg b) Ef Ea rfl (za hb) fun _ Eg => ?_
 refine f_o <| c_p Eg Ea (radd_go _ 2 h2f hL2 a b ha hb) fun _ _ Eh Ei => f_o <| zW 2 4 (zg (nd (z5 2 (nv a) (nv b)))) _ Eh Ei rfl (za (zl _ _)) (za (zh)) (zq _) rfl fun _ _ Ej Eb => f_e <| ze <| wp_ret <| zU (v := .agg (zc (zg (nd (z5 2 (nv a) (nv b)))))) (t := 4) (T := 24) (ad := ⟨Ed, 0, none⟩) Ej (by kernel_rfl) (by kernel_rfl) (zC (t := 24) (k := 2) (off := 0) (m := 4) (xs := zg (nd (z5 2 (nv a) (nv b)))) Eb rfl (zn (za (zl _ _))) (za (zl _ _)) (by kernel_rfl) (by kernel_rfl)) ?_
 exact ⟨rfl, Eb.pk []⟩
theorem dsub_go (w : World) (a b : List UInt64) (ha : zf a = 4) (hb : zf b = 4) : Calls zB 57 #[.agg (zc (zg a)), .agg (zc (zg b))] w fun e w' => e = .returned (.agg (zc (zg (nd (zZ 2 (nv a) (nv b)))))) ∧ Ev w [] w' [] := by
 refine d_0 [(0, .agg (zc (zg a))), (1, .agg (zc (zg b)))] 8 Tryz.func57 Tryz.ntmps57 (Heap.nil _) fun Ek El Em => wp_seq <| zj <| f_o <| m_m 24 (zg a) El Em fun _ _ Eq En Eo => f_o <| m_m 24 (zg b) En Eo fun _ _ Er Ep Ec => f_o <| m_z 24 (zg (zd 4 0)) Ep Ec fun _ _ Ed Ee Ea => f_e <| ze <| wp_seq <| zj <| f_o <| Zn 0 4 (zg a) Ee Ea rfl (za ha) fun _ Ef => f_o <| Zn 1 4 (zg b) Ef Ea rfl (za hb) fun _ Eg => ?_
 refine f_o <| c_p Eg Ea (rsub_go _ 2 h2f hL2 a b ha hb) fun _ _ Eh Ei => f_o <| zW 2 4 (zg (nd (zZ 2 (nv a) (nv b)))) _ Eh Ei rfl (za (zl _ _)) (za (zh)) (zq _) rfl fun _ _ Ej Eb => f_e <| ze <| wp_ret <| zU (v := .agg (zc (zg (nd (zZ 2 (nv a) (nv b)))))) (t := 4) (T := 24) (ad := ⟨Ed, 0, none⟩) Ej (by kernel_rfl) (by kernel_rfl) (zC (t := 24) (k := 2) (off := 0) (m := 4) (xs := zg (nd (zZ 2 (nv a) (nv b)))) Eb rfl (zn (za (zl _ _))) (za (zl _ _)) (by kernel_rfl) (by kernel_rfl)) ?_
 exact ⟨rfl, Eb.pk []⟩
theorem rlessm_go (w : World) (a : List UInt64) (ha : zf a = 4) : Calls zB 55 #[.agg (zc (zg a)), .agg (zc (zg (nd (mF 2))))] w fun e w' => e = .returned (.bool (decide (nv a < mF 2))) ∧ Ev w [] w' [] := by
  have h := rless_go w a (nd (mF 2)) ha (zl _ _)
  rw [nv_mF] at h
  exact h
theorem beq_t {a b : L4} (h : a = b) : (a == b) = true := by rw [h]; exact beq_self_eq_true _
theorem beq_f {a b : L4} (h : ¬ a = b) : (a == b) = false := beq_false_of_ne h
theorem don_go (w : World) (z : Bool) (x y : List UInt64) (hx : zf x = 4) (hy : zf y = 4) : Calls zB 21 #[.agg (zc (([.bool z] : List Value) ++ ((zg x) ++ (zg y))))] w fun e w' => e = .returned (.bool (onN z x y)) ∧ Ev w [] w' [] := by
 refine d_0 [(0, .agg (zc (([.bool z] : List Value) ++ ((zg x) ++ (zg y)))))] 58 Tryz.func21 Tryz.ntmps21 (Heap.nil _) fun HH HI HJ => wp_seq <| zj <| f_o <| m_m 27 (([.bool z] : List Value) ++ ((zg x) ++ (zg y))) HI HJ fun _ _ Ei HK Ep => d_e [1,2] [] HK fun _ HL => ze <| wp_seq <| wp_seq <| zj <| d_k [1,2,8] [] 1 HL fun _ HM => f_o <| m_v 0 0 (.bool z) HM Ep rfl (seg_in rfl) fun _ Em => ?_
 refine f_e <| ze <| cond_at Em (t := z) (by kernel_rfl) (fun Eh => ?_) (fun Eh => ?_)
 ·
  replace Eh : z = true := Eh
  refine wp_seq <| zj <| d_k [1,2,10] [] 1 Em fun _ Hb => f_o <| m_a 0 1 4 (zg x) Hb Ep rfl (by simp [za hx, za hy, zu, zv]) (za hx) fun _ Hc => d_k [1,2,11,12] [] 3 Hc fun _ Hd => f_o <| q_v (x := eqOp .eql 24 (.tmp 11) (.tmp 12) (.agg (zc (zg x))) (.agg (zc (zg ([0, 0, 0, 0] : List UInt64))))) (v := .bool (x == ([0, 0, 0, 0] : List UInt64))) Hd (ZI (a := (.tmp 11)) (b := (.tmp 12)) (e := 22) (m := 4) (by kernel_rfl) (by kernel_rfl) (by kernel_rfl) (by kernel_rfl) (by kernel_rfl) hx (show zf ([0, 0, 0, 0] : List UInt64) = 4 from rfl) _) fun _ He => d_k [1,2,14] [] 5 He fun _ Eq => ?_
  rcases zM (x == ([0, 0, 0, 0] : List UInt64)) with Ek | Ek
  ·
   have Hf := Eq.fx (t := 14) (congrArg Value.bool Ek)
   have hp25 : x = ([0, 0, 0, 0] : List UInt64) := eq_of_beq Ek
   refine d_k [1,2,14,15] [] 6 Hf fun _ Hg => f_o <| m_a 0 5 4 (zg y) Hg Ep rfl (by simp [za hx, za hy, zu, zv, zx]) (za hy) fun _ Hh => d_k [1,2,14,16,17] [] 8 Hh fun _ Hi => f_o <| q_v (x := eqOp .eql 24 (.tmp 16) (.tmp 17) (.agg (zc (zg y))) (.agg (zc (zg ([0, 0, 0, 0] : List UInt64))))) (v := .bool (y == ([0, 0, 0, 0] : List UInt64))) Hi (ZI (a := (.tmp 16)) (b := (.tmp 17)) (e := 22) (m := 4) (by kernel_rfl) (by kernel_rfl) (by kernel_rfl) (by kernel_rfl) (by kernel_rfl) hy (show zf ([0, 0, 0, 0] : List UInt64) = 4 from rfl) _) fun _ Hj => d_e [1,2] [] Hj fun _ Hk => ze <| wp_ret <| then_ret <| ZH (t := 2) (v := .bool (y == ([0, 0, 0, 0] : List UInt64))) Hk (by kernel_rfl) (by kernel_rfl) ?_
   have g0 : z = true := by simpa using Eh
   exact ⟨by rw [g0]; show _ = Ending.returned (.bool (x == z4 && y == z4)); rw [show (x == z4) = true from beq_t hp25]; rfl, Ep.pk []⟩
  have Hl := Eq.fx (t := 14) (congrArg Value.bool Ek)
  have hp37 : ¬ (x = ([0, 0, 0, 0] : List UInt64)) := ne_of_beq_false Ek
  refine d_e [1,2] [] Hl fun _ Hm => ze <| wp_ret <| then_ret <| ZH (t := 2) (v := .bool false) Hm (by kernel_rfl) (by kernel_rfl) ?_
  have g0 : z = true := by simpa using Eh
  exact ⟨by rw [g0]; show _ = Ending.returned (.bool (x == z4 && y == z4)); rw [show (x == z4) = false from beq_f hp37]; rfl, Ep.pk []⟩
 replace Eh : ¬ (z = true) := Bool.eq_false_iff.1 Eh
 refine wp_skip <| ze <| wp_seq <| zj <| f_o <| c_p Em Ep (rmodulus_go _ 2) fun _ _ Hn Ho => f_o <| m_z 24 (zg (zd 4 0)) Hn Ho fun _ _ Ee Hp Hq => f_o <| zW 1 4 (zg (nd (mF 2))) _ Hp Hq rfl (za (zl _ _)) (za (zh)) (zq _) rfl fun _ _ Hr En => f_e <| ze <| wp_seq <| zj <| d_k [1,2,3,21] [] 1 Hr fun _ Hs => f_o <| m_a 0 1 4 (zg x) Hs En rfl (by simp [za hx, za hy, zu, zv]) (za hx) fun _ Ht => f_o <| Zn 1 4 (zg (nd (mF 2))) Ht En rfl (za (zl _ _)) fun _ Hu => ?_
 refine f_o <| c_p Hu En (rlessm_go _ x hx) fun _ _ Hv Eo => d_e [1,2,3,4] [] Hv fun _ Hw => ze <| wp_seq <| zj <| d_k [1,2,3,4,25] [] 1 Hw fun _ Hx => f_o <| m_a 0 5 4 (zg y) Hx Eo rfl (by simp [za hx, za hy, zu, zv, zx]) (za hy) fun _ Hy => f_o <| Zn 1 4 (zg (nd (mF 2))) Hy Eo rfl (za (zl _ _)) fun _ Hz => f_o <| c_p Hz Eo (rlessm_go _ y hy) fun _ _ HA HB => ?_
 refine d_e [1,2,3,4,5] [] HA fun _ HC => ze <| wp_seq <| zj <| d_k [1,2,3,4,5,29] [] 1 HC fun _ HD => f_o <| m_z 24 (zg (zd 4 0)) HD HB fun _ _ Ef HE HF => f_o <| zW 2 4 (zg ([4309448131093880907, 7285987128567378166, 12964664127075681980, 6540974713487397863] : List UInt64)) [.box Ei (([.bool z] : List Value) ++ ((zg x) ++ (zg y))) 27, .box Ee (zg (nd (mF 2))) 24, .box Ef (zg ([4309448131093880907, 7285987128567378166, 12964664127075681980, 6540974713487397863] : List UInt64)) 24] HE HF rfl (za (show zf ([4309448131093880907, 7285987128567378166, 12964664127075681980, 6540974713487397863] : List UInt64) = 4 from rfl)) (za (zh)) (zq _) rfl fun _ _ HG Er => ?_
 refine f_e <| ze <| wp_seq <| r_c (fun ac wo => ∃ (Eb : Nat), Env ac 58 [(1, pt Ei), (2, .bool false), (3, pt Ee), (4, .bool (decide (nv x < mF 2))), (5, .bool (decide (nv y < mF 2))), (6, pt Ef), (7, pt Eb)] ∧ Ev w [] wo [.box Ei (([.bool z] : List Value) ++ ((zg x) ++ (zg y))) 27, .box Ee (zg (nd (mF 2))) 24, .box Ef (zg ([4309448131093880907, 7285987128567378166, 12964664127075681980, 6540974713487397863] : List UInt64)) 24, .box Eb (zg (nd (z5 2 (nv (nd (zZ 2 (nv (nd (zo 2 (nv x) (nv (nd (zo 2 (nv x) (nv x))))))) (nv (nd (zo 2 (nv ([3, 0, 0, 0] : List UInt64)) (nv x))))))) (nv ([4309448131093880907, 7285987128567378166, 12964664127075681980, 6540974713487397863] : List UInt64))))) 24]) ?_ ?_
 ·
  refine s_g1 [(1, pt Ei), (2, .bool false), (3, pt Ee), (4, .bool (decide (nv x < mF 2))), (5, .bool (decide (nv y < mF 2))), (6, pt Ef)] [0,1,2,3,4,5,6,7,8,9,10,11,12,13,14] [(30, .pointer (some ⟨Ei, 1, none⟩)), (31, .agg (zc (zg x))), (32, .pointer (some ⟨Ei, 1, none⟩)), (33, .agg (zc (zg x))), (34, .pointer (some ⟨Ei, 1, none⟩)), (35, .agg (zc (zg x))), (36, .agg (zc (zg (nd (zo 2 (nv x) (nv x)))))), (37, .agg (zc (zg (nd (zo 2 (nv x) (nv (nd (zo 2 (nv x) (nv x))))))))), (38, .agg (zc (zg ([3, 0, 0, 0] : List UInt64)))), (39, .pointer (some ⟨Ei, 1, none⟩)), (40, .agg (zc (zg x))), (41, .agg (zc (zg (nd (zo 2 (nv ([3, 0, 0, 0] : List UInt64)) (nv x)))))), (42, .agg (zc (zg (nd (zZ 2 (nv (nd (zo 2 (nv x) (nv (nd (zo 2 (nv x) (nv x))))))) (nv (nd (zo 2 (nv ([3, 0, 0, 0] : List UInt64)) (nv x))))))))), (43, .agg (zc (zg ([4309448131093880907, 7285987128567378166, 12964664127075681980, 6540974713487397863] : List UInt64)))), (44, .agg (zc (zg (nd (z5 2 (nv (nd (zZ 2 (nv (nd (zo 2 (nv x) (nv (nd (zo 2 (nv x) (nv x))))))) (nv (nd (zo 2 (nv ([3, 0, 0, 0] : List UInt64)) (nv x))))))) (nv ([4309448131093880907, 7285987128567378166, 12964664127075681980, 6540974713487397863] : List UInt64)))))))] 1 [(1, pt Ei), (2, .bool false), (3, pt Ee), (4, .bool (decide (nv x < mF 2))), (5, .bool (decide (nv y < mF 2))), (6, pt Ef), (44, .agg (zc (zg (nd (z5 2 (nv (nd (zZ 2 (nv (nd (zo 2 (nv x) (nv (nd (zo 2 (nv x) (nv x))))))) (nv (nd (zo 2 (nv ([3, 0, 0, 0] : List UInt64)) (nv x))))))) (nv ([4309448131093880907, 7285987128567378166, 12964664127075681980, 6540974713487397863] : List UInt64)))))))] 15 (zg (zd 4 0)) (HG.sb) (Er.trans (zN Er.heap)) ?_ fun _ _ Eb Es Et => ?_
  ·
   refine s_p [] <| s_a 0 1 4 (zg x) rfl (by simp [za hx, za hy, zu, zv]) (za hx) <| s_p [] <| s_a 0 1 4 (zg x) rfl (by simp [za hx, za hy, zu, zv]) (za hx) <| s_p [] <| s_a 0 1 4 (zg x) rfl (by simp [za hx, za hy, zu, zv]) (za hx) ?_
   refine s_f (fun _ => dmul_go _ x x hx hx) ?_
   refine s_f (fun _ => dmul_go _ x (nd (zo 2 (nv x) (nv x))) hx (zl _ _)) ?_
   refine s_p [] <| s_p [] <| s_a 0 1 4 (zg x) rfl (by simp [za hx, za hy, zu, zv]) (za hx) <| s_f (fun _ => dmul_go _ ([3, 0, 0, 0] : List UInt64) x (show zf ([3, 0, 0, 0] : List UInt64) = 4 from rfl) hx) ?_
   refine s_f (fun _ => dsub_go _ (nd (zo 2 (nv x) (nv (nd (zo 2 (nv x) (nv x)))))) (nd (zo 2 (nv ([3, 0, 0, 0] : List UInt64)) (nv x))) (zl _ _) (zl _ _)) ?_
   refine s_a 2 0 4 (zg ([4309448131093880907, 7285987128567378166, 12964664127075681980, 6540974713487397863] : List UInt64)) rfl (zn (za (show zf ([4309448131093880907, 7285987128567378166, 12964664127075681980, 6540974713487397863] : List UInt64) = 4 from rfl))) (za (show zf ([4309448131093880907, 7285987128567378166, 12964664127075681980, 6540974713487397863] : List UInt64) = 4 from rfl)) <| s_f (fun _ => dadd_go _ (nd (zZ 2 (nv (nd (zo 2 (nv x) (nv (nd (zo 2 (nv x) (nv x))))))) (nv (nd (zo 2 (nv ([3, 0, 0, 0] : List UInt64)) (nv x)))))) ([4309448131093880907, 7285987128567378166, 12964664127075681980, 6540974713487397863] : List UInt64) (zl _ _) (show zf ([4309448131093880907, 7285987128567378166, 12964664127075681980, 6540974713487397863] : List UInt64) = 4 from rfl)) ?_
   exact s_n
  refine q_u 16 ?_
  refine zW 3 4 (zg (nd (z5 2 (nv (nd (zZ 2 (nv (nd (zo 2 (nv x) (nv (nd (zo 2 (nv x) (nv x))))))) (nv (nd (zo 2 (nv ([3, 0, 0, 0] : List UInt64)) (nv x))))))) (nv ([4309448131093880907, 7285987128567378166, 12964664127075681980, 6540974713487397863] : List UInt64))))) _ Es Et rfl (za (zl _ _)) (za (zh)) (zq _) rfl fun _ _ Eu Ew => ?_
  exact a_e ⟨Eb, Eu.sb, Ew.pk [0, 1, 2, 3]⟩
 rintro _ _ ⟨Eb, El, Eg⟩
 obtain ⟨rr, h_rr⟩ : ∃ q : List UInt64, q = nd (z5 2 (nv (nd (zZ 2 (nv (nd (zo 2 (nv x) (nv (nd (zo 2 (nv x) (nv x))))))) (nv (nd (zo 2 (nv ([3, 0, 0, 0] : List UInt64)) (nv x))))))) (nv ([4309448131093880907, 7285987128567378166, 12964664127075681980, 6540974713487397863] : List UInt64))) := ⟨_, rfl⟩
 rw [← h_rr] at Eg
 have n_rr : zf rr = 4 := by rw [h_rr]; exact zl _ _
 refine ze <| wp_seq ?_
 rcases zM (decide (nv x < mF 2)) with Ea | Ea
 ·
  have hb184p : nv x < mF 2 := of_decide_eq_true Ea
  rcases zM (decide (nv y < mF 2)) with Ec | Ec
  ·
   have hb185p : nv y < mF 2 := of_decide_eq_true Ec
   refine r_c (fun ac wo => Env ac 58 [(1, pt Ei), (2, .bool ((nd (zo 2 (nv y) (nv y))) == rr)), (3, pt Ee), (6, pt Ef), (7, pt Eb)] ∧ Ev w [] wo [.box Ei (([.bool z] : List Value) ++ ((zg x) ++ (zg y))) 27, .box Ee (zg (nd (mF 2))) 24, .box Ef (zg ([4309448131093880907, 7285987128567378166, 12964664127075681980, 6540974713487397863] : List UInt64)) 24, .box Eb (zg rr) 24]) ?_ ?_
   ·
    refine h_s (fun wv => Ev w [] wv [.box Ei (([.bool z] : List Value) ++ ((zg x) ++ (zg y))) 27, .box Eb (zg rr) 24]) [] 14 ?_
    have Ed := Eg.trans (zN Eg.heap)
    refine q_s [0,1] [] 12 El (Ed.pk [0, 3]) fun _ Ex => ?_
    have Ey := Ex.fx (t := 4) (congrArg Value.bool Ea)
    have Ez := Ey.fx (t := 45) (congrArg Value.bool Ea)
    have EA := Ez.fx (t := 46) (congrArg Value.bool Ea)
    refine q_s [2,3,4] [] 9 EA (Ed.pk [0, 3]) fun _ EB => ?_
    have EC := EB.fx (t := 5) (congrArg Value.bool Ec)
    have ED := EC.fx (t := 47) (congrArg Value.bool Ec)
    have EE := ED.fx (t := 48) (congrArg Value.bool Ec)
    have EF := EE.fx (t := 49) (congrArg Value.bool Ec)
    refine q_s [5] [] 8 EF (Ed.pk [0, 3]) fun _ EG => q_r 6 (s := Instr.loadAt 24 (.pointer (some ⟨Ei, 5, none⟩))) (v := .agg (zc (zg y))) EG (fun w hS => Za (m := 4) (cs := zg y) (za hy) (by kernel_rfl) (by kernel_rfl) (hS.heap.cells (k := 0) (off := 5) (m := 4) rfl (by simp [za hx, za hy, zu, zv, zx]))) (Ed.pk [0, 3]) fun _ EH => q_s [7] [] 6 EH (Ed.pk [0, 3]) fun _ EI => q_r 8 (s := Instr.loadAt 24 (.pointer (some ⟨Ei, 5, none⟩))) (v := .agg (zc (zg y))) EI (fun w hS => Za (m := 4) (cs := zg y) (za hy) (by kernel_rfl) (by kernel_rfl) (hS.heap.cells (k := 0) (off := 5) (m := 4) rfl (by simp [za hx, za hy, zu, zv, zx]))) (Ed.pk [0, 3]) fun _ EJ => q_r 10 (s := Instr.loadAt 24 (pt Eb)) (v := .agg (zc (zg rr))) EJ (fun w hS => Za (m := 4) (cs := zg rr) (za n_rr) (by kernel_rfl) (by kernel_rfl) (hS.heap.cells (k := 1) (off := 0) (m := 4) rfl (zn (za n_rr)))) (Ed.pk [0, 3]) fun _ EK => q_t 9 ?_
    refine c_p EK Ed (dmul_go _ y y hy hy) fun _ _ EL Ej => ⟨fun _ => Ej.pk [0, 3], ?_⟩
    refine q_f 11 (s := eqOp .eql 24 (.tmp 54) (.tmp 55) (.agg (zc (zg (nd (zo 2 (nv y) (nv y)))))) (.agg (zc (zg rr)))) (v := .bool ((nd (zo 2 (nv y) (nv y))) == rr)) EL (fun _ => ZI (a := (.tmp 54)) (b := (.tmp 55)) (e := 22) (m := 4) (by kernel_rfl) (by kernel_rfl) (by kernel_rfl) (by kernel_rfl) (by kernel_rfl) (zl _ _) n_rr _) (fun _ => Ej.pk [0, 3]) fun _ EM => q_s [12,13] [] 0 EM (Ej.pk [0, 3]) fun _ EN => ?_
    exact h_e ⟨EN.sb, Ej.pk [0, 1, 2, 3]⟩
   rintro _ _ ⟨EO, EP⟩
   refine ze <| wp_ret <| ZH (t := 2) (v := .bool ((nd (zo 2 (nv y) (nv y))) == rr)) EO (by kernel_rfl) (by kernel_rfl) ?_
   have g0 : z = false := by simpa using Eh
   rw [show ([4309448131093880907, 7285987128567378166, 12964664127075681980, 6540974713487397863] : List UInt64) = nd bN from by kernel_rfl] at h_rr
   have e_rr : rr = nd (z5 2 (zZ 2 (zo 2 (zo 2 (nv x) (nv x)) (nv x)) (thN (nv x))) bN) := by rw [h_rr, ← on_doc]; simp only [nv_m2, nv_a2, nv_s2, nv_th, nv_b, show nv [3, 0, 0, 0] = 3 from rfl]
   have q0 := Ea
   have q1 := Ec
   exact ⟨by rw [g0]; simp only [onN, Zc, q0, q1, e_rr, Q9, Yc, Yw, decide_true, decide_false], EP.pk []⟩
  have hb185p : ¬ (nv y < mF 2) := of_decide_eq_false Ec
  refine r_c (fun ac wo => Env ac 58 [(1, pt Ei), (2, .bool false), (3, pt Ee), (6, pt Ef), (7, pt Eb)] ∧ Ev w [] wo [.box Ei (([.bool z] : List Value) ++ ((zg x) ++ (zg y))) 27, .box Ee (zg (nd (mF 2))) 24, .box Ef (zg ([4309448131093880907, 7285987128567378166, 12964664127075681980, 6540974713487397863] : List UInt64)) 24, .box Eb (zg rr) 24]) ?_ ?_
  ·
   refine draw_any (by kernel_rfl) 14 (by kernel_rfl) ?_
   have EQ := Eg.trans (zN Eg.heap)
   refine q_a [0,1] [] 12 El fun _ ER => ?_
   have ES := ER.fx (t := 4) (congrArg Value.bool Ea)
   have ET := ES.fx (t := 45) (congrArg Value.bool Ea)
   have EU := ET.fx (t := 46) (congrArg Value.bool Ea)
   refine q_a [2,3,4] [] 9 EU fun _ EV => ?_
   have EW := EV.fx (t := 5) (congrArg Value.bool Ec)
   have EX := EW.fx (t := 47) (congrArg Value.bool Ec)
   have EY := EX.fx (t := 48) (congrArg Value.bool Ec)
   have EZ := EY.fx (t := 49) (congrArg Value.bool Ec)
   refine q_a [5,6,7,8,9,10,11,12,13] [] 0 EZ fun _ E0 => ?_
   exact a_e ⟨E0.sb, EQ.pk [0, 1, 2, 3]⟩
  rintro _ _ ⟨E1, E2⟩
  refine ze <| wp_ret <| ZH (t := 2) (v := .bool false) E1 (by kernel_rfl) (by kernel_rfl) ?_
  have g0 : z = false := by simpa using Eh
  rw [show ([4309448131093880907, 7285987128567378166, 12964664127075681980, 6540974713487397863] : List UInt64) = nd bN from by kernel_rfl] at h_rr
  have e_rr : rr = nd (z5 2 (zZ 2 (zo 2 (zo 2 (nv x) (nv x)) (nv x)) (thN (nv x))) bN) := by rw [h_rr, ← on_doc]; simp only [nv_m2, nv_a2, nv_s2, nv_th, nv_b, show nv [3, 0, 0, 0] = 3 from rfl]
  have q0 := Ea
  have q1 := Ec
  exact ⟨by rw [g0]; simp only [onN, Zc, q0, q1, e_rr, Q9, Yc, Yw, decide_true, decide_false], E2.pk []⟩
 have hb184p : ¬ (nv x < mF 2) := of_decide_eq_false Ea
 refine r_c (fun ac wo => Env ac 58 [(1, pt Ei), (2, .bool false), (3, pt Ee), (6, pt Ef), (7, pt Eb)] ∧ Ev w [] wo [.box Ei (([.bool z] : List Value) ++ ((zg x) ++ (zg y))) 27, .box Ee (zg (nd (mF 2))) 24, .box Ef (zg ([4309448131093880907, 7285987128567378166, 12964664127075681980, 6540974713487397863] : List UInt64)) 24, .box Eb (zg rr) 24]) ?_ ?_
 ·
  refine draw_any (by kernel_rfl) 14 (by kernel_rfl) ?_
  have E3 := Eg.trans (zN Eg.heap)
  refine q_a [0,1] [] 12 El fun _ E4 => ?_
  have E5 := E4.fx (t := 4) (congrArg Value.bool Ea)
  have E6 := E5.fx (t := 45) (congrArg Value.bool Ea)
  have E7 := E6.fx (t := 46) (congrArg Value.bool Ea)
  refine q_a [2,3,4,5,6,7,8,9,10,11,12,13] [] 0 E7 fun _ E8 => ?_
  exact a_e ⟨E8.sb, E3.pk [0, 1, 2, 3]⟩
 rintro _ _ ⟨E9, Ha⟩
 refine ze <| wp_ret <| ZH (t := 2) (v := .bool false) E9 (by kernel_rfl) (by kernel_rfl) ?_
 have g0 : z = false := by simpa using Eh
 rw [show ([4309448131093880907, 7285987128567378166, 12964664127075681980, 6540974713487397863] : List UInt64) = nd bN from by kernel_rfl] at h_rr
 have e_rr : rr = nd (z5 2 (zZ 2 (zo 2 (zo 2 (nv x) (nv x)) (nv x)) (thN (nv x))) bN) := by rw [h_rr, ← on_doc]; simp only [nv_m2, nv_a2, nv_s2, nv_th, nv_b, show nv [3, 0, 0, 0] = 3 from rfl]
 have q0 := Ea
 exact ⟨by rw [g0]; simp only [onN, Zc, q0, e_rr, Q9, Yc, Yw, decide_true, decide_false], Ha.pk []⟩
end Go.Proofs.YtpfhmbbiadpbeaaGreat
