import Derived.Test.YtlnogkmnklfjlaaDoorSt7
open List renaming length → za, getD → zb, replicate → ze, length_replicate → zf, toArray → zi, take → zk, drop → zo, length_take → zp, drop_append → zw, take_append → zx, set → zy, getElem?_take → Zy, append_assoc → Qs, getElem?_drop → QD
open Go.Dbr renaming u64s_lenh → zc, then_normal → zg, u64s → zh, region_from → zm, uv64 → zn, load_whole → zq, store_whole → zs, u64s_one → zv, block_normal → zA, bys_lenh → zC, then_exit → zI, block_exit → z9, any_to → Z5, any_from → Qt, any_two → JE, any_ways → JM, eqOp → Xt
open UInt64 renaming ofNat → zd, toUInt8 → zj, toNat → zB, toNat_and → YK
open Go.Proofs.YtlnogkmnklfjlaaDoor renaming nds_len → zl, mulM → zt, lb_len → zG, powM → z0, emul_go → Zv, sub_len → Jh, wtE_len → Ji, zero16 → JL, with16_go → Xh
open UInt8 renaming ofNat → zF
open Nat renaming mod_eq_of_lt → zK, mod_lt → ZB, pow_add → Z6, pow_mul → Qk
open Go.Dbr.Ev renaming drew → z4
open BitVec renaming ofInt → Zs
open Bool renaming true_and → Qp, false_and → Qx, and_false → Jb, and_true → Xn
/- Layer 12: a point so many times. -/


namespace Go.Proofs.YtlnogkmnklfjlaaDoor
open Go.Dbr
set_option maxRecDepth 100000
set_option maxHeartbeats 2000000
set_option linter.unusedVariables false
set_option linter.unusedSimpArgs false

def rows0 : L4 := JL ++ ze 240 0
theorem rows0_len : rows0.length = 256 := rfl
/-- a row is put -/
theorem put_same {l x : L4} {i : Nat} (hl : l.length = 256) (hx : x.length = 16) (hi : i < 16) : zk 16 (zo (i * 16) (zk (i * 16) l ++ x ++ zo (i * 16 + 16) l)) = x := by
  have h1 : (zk (i * 16) l).length = i * 16 := by rw [zp]; omega
  rw [Qs, List.drop_left' h1, List.take_left' hx]
theorem put_other {l x : L4} {i j : Nat} (hl : l.length = 256) (hx : x.length = 16) (hi : i < 16) (hj : j < i) : zk 16 (zo (j * 16) (zk (i * 16) l ++ x ++ zo (i * 16 + 16) l)) = zk 16 (zo (j * 16) l) := by
  refine List.ext_getElem? fun q => ?_
  rw [Zy, Zy]
  split
  · rename_i hq
    rw [QD, QD, Qs, List.getElem?_append_left (by rw [zp]; omega), Zy, if_pos (by omega)]
  · rfl
theorem nib_shr (x : UInt64) (m : Nat) (hm : m < 16) : ((x >>> zd (4 * m)) &&& 15).toNat = x.toNat / 16 ^ m % 16 := by
  rw [YK, UInt64.toNat_shiftRight, show (15 : UInt64).toNat = 2 ^ 4 - 1 from rfl, Nat.and_two_pow_sub_one_eq_mod, ofNat_val, zK (show 4 * m < 18446744073709551616 by omega), zK (show 4 * m < 64 by omega), Nat.shiftRight_eq_div_pow, show (2 : Nat) ^ (4 * m) = 16 ^ m from by rw [Qk]]
theorem dig_nv {k : L4} (hk : k.length = 4) (j : Nat) (hj : j < 4) : (zb k j 0).toNat = nv k / 18446744073709551616 ^ j % 18446744073709551616 := by
  match k, hk with
  | [a, b, c, d], _ =>
    rw [nv4]
    have h1 := lt64 a
    have h2 := lt64 b
    have h3 := lt64 c
    have h4 := lt64 d
    match j, hj with
    | 0, _ => show a.toNat = _; rw [Nat.pow_zero]; omega
    | 1, _ => show b.toNat = _; rw [Nat.pow_one]; omega
    | 2, _ => show c.toNat = _; rw [show (18446744073709551616 : Nat) ^ 2 = 340282366920938463463374607431768211456 from rfl]; omega
    | 3, _ => show d.toNat = _; rw [show (18446744073709551616 : Nat) ^ 3 = 6277101735386680763835789423207666416102355444464034512896 from rfl]; omega
theorem nib_u {k : L4} (hk : k.length = 4) {i : Nat} (hi : i < 64) : ((zB ((zb k (i / 16) 0 >>> zd (4 * (i % 16))) &&& 15) : Nat) : Int) = ((nib (nv k) i : Nat) : Int) := by
  rw [nib_shr _ _ (by omega), dig_nv hk _ (by omega), nib]
  congr 1
  have e : (16 : Nat) ^ i = 18446744073709551616 ^ (i / 16) * 16 ^ (i % 16) := by
    rw [show (18446744073709551616 : Nat) = 16 ^ 16 from rfl, ← Qk, ← Z6]
    congr 1
    omega
  rw [e, ← Nat.div_div_eq_div_mul]
  generalize nv k / 18446744073709551616 ^ (i / 16) = q
  have hm : i % 16 < 16 := ZB _ (by decide)
  have e2 : (18446744073709551616 : Nat) = 16 ^ (i % 16) * (16 * 16 ^ (15 - i % 16)) := by
    rw [show (18446744073709551616 : Nat) = 16 ^ 16 from rfl, ← Nat.pow_succ', ← Z6]
    congr 1
    omega
  rw [e2, Nat.mod_mul_right_div_self, Nat.mod_mul_right_mod]
theorem nib_lt (k i : Nat) : nib k i < 16 := ZB _ (by decide)
theorem rows0_0 : zk 16 (zo (0 * 16) rows0) = JL := rfl

theorem times16_go (w : World) (p k : List UInt64) (hp : za p = 16) (hk : za k = 4) : Calls Tryd.prog 23 #[.agg (zi (zh p)), .agg (zi (zh k))] w fun e w' => e = .returned (.agg (zi (zh (tmF p (nv k) 64)))) ∧ Ev w [] w' [] := by
 refine d_0 [(0, .agg (zi (zh p))), (1, .agg (zi (zh k)))] 48 Go.Proofs.Tryd.func23 Go.Proofs.Tryd.ntmps23 (Heap.nil _) fun act0 En0 Hv0 => ?_
 refine wp_seq <| zm <| f_o <| m_m 43 (zh p) En0 Hv0 fun _ _ bk1 En4 Hv5 => ?_
 refine f_o <| m_m 34 (zh k) En4 Hv5 fun _ _ bk6 En9 Hv10 => ?_
 refine f_o <| m_z 43 (zh (ze 16 0)) En9 Hv10 fun _ _ bk11 En14 Hv15 => ?_
 refine f_e <| zg <| wp_seq <| zm <| f_o <| c_p En14 Hv15 (nothing_go _) fun _ _ En21 Hv22 => ?_
 refine d_k [2,3,4,10] [] 2 En21 fun _ En24 => ?_
 refine f_o <| m_z 75 (zh (ze 256 0)) En24 Hv22 fun _ _ bk25 En28 Hv29 => ?_
 refine f_o <| m_g 3 0 256 (zh rows0) _ [.box bk1 (zh p) 43, .box bk6 (zh k) 34, .box bk11 (zh (ze 16 0)) 43, .box bk25 (zh rows0) 75] En28 Hv29 rfl (zc rows0_len) (by rw [(zc (zf))]; first | decide | (simp; done)) (zv _) (zs (zc (zf))) rfl fun _ _ En32 Hv33 => ?_
 refine f_e <| zg <| wp_seq <| d_s [2,3,4,5,6] [] En32 fun _ En35 => ?_
 refine wp_block <| loop_m (fun ms36 ac wo => ∃ (i : Nat) (R : List UInt64), ms36 = (15 - i : Nat) ∧ Env ac 48 [(2, pt bk1), (3, pt bk6), (4, pt bk11), (5, pt bk25), (6, ni (i + 1))] ∧ Ev w [] wo [.box bk25 (zh R) 75, .box bk1 (zh p) 43, .box bk6 (zh k) 34, .box bk11 (zh (ze 16 0)) 43] ∧ (i ≤ 15) ∧ (za R = 256) ∧ (∀ j, j < i + 1 → zk 16 (zo (j * 16) R) = rowF p j)) ⟨_, 0, rows0, rfl, En35.sb, Hv33.pk [3, 0, 1, 2], (by omega), rows0_len, (fun j hj => by have e : j = 0 := (by omega); subst e; exact rows0_0)⟩ ?_
 rintro mm42 _ _ ⟨i, R, rfl, En40, Hv41, hi, hR, hf⟩
 refine wp_seq <| d_s [2,3,4,5,6,12] [] En40 fun _ En44 => ?_
 refine c_d (((i + 1 : Nat) : Int) < (16 : Int)) En44 (fun hc45 => ?_) (fun hc45 => ?_)
 ·
  refine wp_skip <| zg <| wp_seq <| wp_block <| r_c (fun ac wo => Env ac 48 [(2, pt bk1), (3, pt bk6), (4, pt bk11), (5, pt bk25), (6, ni (i + 1))] ∧ Ev w [] wo [.box bk25 (zh (zk ((i + 1) * 16) R ++ (wtE (zk 16 (zo (i * 16) R)) p) ++ zo (((i + 1) * 16) + 16) R)) 75, .box bk1 (zh p) 43, .box bk6 (zh k) 34, .box bk11 (zh (ze 16 0)) 43]) ?_ ?_
  ·
   refine s_g0 [(2, pt bk1), (3, pt bk6), (4, pt bk11), (5, pt bk25), (6, ni (i + 1))] [0,1,2,3,4,5,6,7] [(15, ni (i + 1)), (16, ni (i + 1)), (17, ni i), (18, .pointer (some ⟨bk25, i * 16, none⟩)), (19, .agg (zi (zh (zk 16 (zo (i * 16) R))))), (20, .agg (zi (zh p))), (21, .agg (zi (zh (wtE (zk 16 (zo (i * 16) R)) p)))), (22, .pointer (some ⟨bk25, (i + 1) * 16, none⟩))] 1 [(2, pt bk1), (3, pt bk6), (4, pt bk11), (5, pt bk25), (6, ni (i + 1)), (21, .agg (zi (zh (wtE (zk 16 (zo (i * 16) R)) p)))), (22, .pointer (some ⟨bk25, (i + 1) * 16, none⟩))] (En44.sb) (Hv41.trans (z4 Hv41.heap)) ?_ fun _ _ En81 Hv82 => ?_
   ·
    refine s_p [] ?_
    refine s_p [] ?_
    refine s_p [(2, g_n (w_r (e := ((i + 1 : Nat) : Int) - (1 : Int)) (x := ((i : Nat) : Int)) (by omega)))] ?_
    refine s_c (fun Mx46 _ _ En49 Hv50 => ?_) ?_
    ·
     refine q_v (x := Instr.indexAt 75 (pt bk25) (ni i)) (v := .pointer (some ⟨bk25, i * 16, none⟩)) En49 (Go.Dbr.run_indexarr (e := 43) (sz := 16) (m := 16) (j := i) (o := i * 16) (by kernel_rfl) (by kernel_rfl) (by omega) (by omega) (by omega) _) fun _ En52 => ?_
     exact s_e En52 Hv50
    refine s_a 0 (i * 16) 16 (zh (zk 16 (zo (i * 16) R))) rfl (u64s_sub _ _ _) (zc (Jh hR (by omega))) ?_
    refine s_a 1 0 16 (zh p) rfl (zq (zc hp)) (zc hp) ?_
    refine s_f (fun _ => Xh _ (zk 16 (zo (i * 16) R)) p (Jh hR (by omega)) hp) ?_
    refine s_c (fun Mx72 _ _ En75 Hv76 => ?_) ?_
    ·
     refine q_v (x := Instr.indexAt 75 (pt bk25) (ni (i + 1))) (v := .pointer (some ⟨bk25, (i + 1) * 16, none⟩)) En75 (Go.Dbr.run_indexarr (e := 43) (sz := 16) (m := 16) (j := i + 1) (o := (i + 1) * 16) (by kernel_rfl) (by kernel_rfl) (by omega) (by omega) (by omega) _) fun _ En78 => ?_
     exact s_e En78 Hv76
    exact s_n
   refine q_u 8 ?_
   refine m_g 0 ((i + 1) * 16) 16 (zh (wtE (zk 16 (zo (i * 16) R)) p)) (zh (zk ((i + 1) * 16) R ++ (wtE (zk 16 (zo (i * 16) R)) p) ++ zo (((i + 1) * 16) + 16) R)) [.box bk25 (zh (zk ((i + 1) * 16) R ++ (wtE (zk 16 (zo (i * 16) R)) p) ++ zo (((i + 1) * 16) + 16) R)) 75, .box bk1 (zh p) 43, .box bk6 (zh k) 34, .box bk11 (zh (ze 16 0)) 43] En81 Hv82 rfl (zc (Ji _ _)) (by rw [(zc hR)]; omega) (zv _) (u64s_put _ _ _ _) rfl fun _ _ En89 Hv90 => ?_
   exact a_e ⟨En89.sb, Hv90.pk [0, 1, 2, 3]⟩
  rintro _ _ ⟨En93, Hv94⟩
  refine zA <| zg <| d_r [2,3,4,5,6] [(1, g_n (w_a (i + 1) 1))] En93 fun _ En96 => ?_
  refine zg <| ⟨_, ⟨i + 1, (zk ((i + 1) * 16) R ++ (wtE (zk 16 (zo (i * 16) R)) p) ++ zo (((i + 1) * 16) + 16) R), rfl, En96.sb, Hv94.pk [0, 1, 2, 3], (by omega), (put_len hR (Ji _ _) (by omega)), (fun j hj => by rcases Nat.lt_succ_iff_lt_or_eq.1 hj with h | h; (rw [put_other hR (Ji _ _) (by omega) (by omega)]; exact hf j (by omega)); (rw [h, put_same hR (Ji _ _) (by omega)]; rw [hf i (Nat.lt_succ_self i)]; rfl))⟩, ?_⟩
  omega
 refine wp_exit <| zI <| zI <| z9 <| zg <| wp_seq <| zm <| f_o <| c_p En44 Hv41 (nothing_go _) fun _ _ En102 Hv103 => ?_
 refine f_o <| m_z 43 (zh (ze 16 0)) En102 Hv103 fun _ _ bk104 En107 Hv108 => ?_
 refine f_o <| m_g 4 0 16 (zh JL) _ [.box bk25 (zh R) 75, .box bk1 (zh p) 43, .box bk6 (zh k) 34, .box bk11 (zh (ze 16 0)) 43, .box bk104 (zh JL) 43] En107 Hv108 rfl (zc (l4_len _ _ _ _)) (by rw [(zc (zf))]; first | decide | (simp; done)) (zv _) (zs (zc (zf))) rfl fun _ _ En111 Hv112 => ?_
 refine f_e <| zg <| wp_seq <| d_s [2,3,4,5,6,7,8] [] En111 fun _ En114 => ?_
 refine wp_block <| loop_m (fun ms115 ac wo => ∃ (j : Nat) (o : List UInt64), ms115 = (64 - j : Nat) ∧ Env ac 48 [(2, pt bk1), (3, pt bk6), (4, pt bk11), (5, pt bk25), (6, ni (i + 1)), (7, pt bk104), (8, .int .i64 ((63 : Int) - ((j : Nat) : Int)))] ∧ Ev w [] wo [.box bk104 (zh o) 43, .box bk25 (zh R) 75, .box bk1 (zh p) 43, .box bk6 (zh k) 34, .box bk11 (zh (ze 16 0)) 43] ∧ (j ≤ 64) ∧ (za o = 16) ∧ (o = tmF p (nv k) j)) ⟨_, 0, JL, rfl, En114.sb, Hv112.pk [4, 0, 1, 2, 3], (by omega), (l4_len _ _ _ _), rfl⟩ ?_
 rintro mm121 _ _ ⟨j, o, rfl, En119, Hv120, hj, ho, he⟩
 refine wp_seq <| d_s [2,3,4,5,6,7,8,25] [] En119 fun _ En123 => ?_
 refine c_d ((63 : Int) - ((j : Nat) : Int) ≥ (0 : Int)) En123 (fun hc124 => ?_) (fun hc124 => ?_)
 ·
  refine wp_skip <| zg <| wp_seq <| wp_block <| wp_seq <| d_s [2,3,4,5,6,7,8,28] [] En123 fun _ En126 => ?_
  refine wp_block <| loop_m (fun ms127 ac wo => ∃ (q : Nat) (o2 : List UInt64), ms127 = (4 - q : Nat) ∧ Env ac 48 [(2, pt bk1), (3, pt bk6), (4, pt bk11), (5, pt bk25), (6, ni (i + 1)), (7, pt bk104), (8, .int .i64 ((63 : Int) - ((j : Nat) : Int))), (28, ni q)] ∧ Ev w [] wo [.box bk104 (zh o2) 43, .box bk25 (zh R) 75, .box bk1 (zh p) 43, .box bk6 (zh k) 34, .box bk11 (zh (ze 16 0)) 43] ∧ (q ≤ 4) ∧ (za o2 = 16) ∧ (o2 = dblF o q)) ⟨_, 0, o, rfl, En126.sb, Hv120.pk [0, 1, 2, 3, 4], (by omega), ho, rfl⟩ ?_
  rintro mm133 _ _ ⟨q, o2, rfl, En131, Hv132, hq, ho2, heq⟩
  refine d_s [2,3,4,5,6,7,8,28,29] [] En131 fun _ En135 => ?_
  refine wp_seq <| c_d (((q : Nat) : Int) < (4 : Int)) En135 (fun hc136 => ?_) (fun hc136 => ?_)
  ·
   refine wp_skip <| zg <| wp_seq <| wp_block <| zm <| f_o <| m_a 0 0 16 (zh o2) En135 Hv132 rfl (zq (zc ho2)) (zc ho2) fun _ En138 => ?_
   refine f_o <| m_a 0 0 16 (zh o2) En138 Hv132 rfl (zq (zc ho2)) (zc ho2) fun _ En140 => ?_
   refine f_o <| c_p En140 Hv132 (Xh _ o2 o2 ho2 ho2) fun _ _ En146 Hv147 => ?_
   refine f_o <| m_g 0 0 16 (zh (wtE o2 o2)) _ [.box bk104 (zh (wtE o2 o2)) 43, .box bk25 (zh R) 75, .box bk1 (zh p) 43, .box bk6 (zh k) 34, .box bk11 (zh (ze 16 0)) 43] En146 Hv147 rfl (zc (Ji _ _)) (by rw [(zc ho2)]; first | decide | (simp; done)) (zv _) (zs (zc ho2)) rfl fun _ _ En150 Hv151 => ?_
   refine f_e <| zA <| zg <| d_r [2,3,4,5,6,7,8,28] [(0, g_n (w_a q 1))] En150 fun _ En153 => ?_
   refine zg <| ⟨_, ⟨q + 1, (wtE o2 o2), rfl, En153.sb, Hv151.pk [0, 1, 2, 3, 4], (by omega), (Ji _ _), (by rw [heq]; rfl)⟩, ?_⟩
   omega
  refine wp_exit <| zI <| zI <| z9 <| zg ?_
  have hq4 : q = 4 := by omega
  have he2 : o2 = dblF o 4 := by rw [heq, hq4]
  have hj63 : j < 64 := by omega
  have hnl := nib_lt (nv k) (63 - j)
  refine r_c (fun ac wo => Env ac 48 [(2, pt bk1), (3, pt bk6), (4, pt bk11), (5, pt bk25), (6, ni (i + 1)), (7, pt bk104), (8, .int .i64 ((63 : Int) - ((j : Nat) : Int))), (28, ni q)] ∧ Ev w [] wo [.box bk104 (zh (wtE o2 (zk 16 (zo ((nib (nv k) (63 - j)) * 16) R)))) 43, .box bk25 (zh R) 75, .box bk1 (zh p) 43, .box bk6 (zh k) 34, .box bk11 (zh (ze 16 0)) 43]) ?_ ?_
  ·
   refine s_g0 [(2, pt bk1), (3, pt bk6), (4, pt bk11), (5, pt bk25), (6, ni (i + 1)), (7, pt bk104), (8, .int .i64 ((63 : Int) - ((j : Nat) : Int))), (28, ni q)] [0,1,2,3,4,5,6,7,8,9,10,11,12] [(34, .agg (zi (zh o2))), (35, ni (63 - j)), (36, ni ((63 - j) / 16)), (37, .pointer (some ⟨bk6, (63 - j) / 16, none⟩)), (38, zn (zb k ((63 - j) / 16) 0)), (39, ni (63 - j)), (40, ni ((63 - j) % 16)), (41, ni (4 * ((63 - j) % 16))), (42, zn ((zb k ((63 - j) / 16) 0) >>> zd (4 * ((63 - j) % 16)))), (43, .int .u64 ((nib (nv k) (63 - j) : Nat) : Int)), (44, .pointer (some ⟨bk25, (nib (nv k) (63 - j)) * 16, none⟩)), (45, .agg (zi (zh (zk 16 (zo ((nib (nv k) (63 - j)) * 16) R))))), (46, .agg (zi (zh (wtE o2 (zk 16 (zo ((nib (nv k) (63 - j)) * 16) R))))))] 1 [(2, pt bk1), (3, pt bk6), (4, pt bk11), (5, pt bk25), (6, ni (i + 1)), (7, pt bk104), (8, .int .i64 ((63 : Int) - ((j : Nat) : Int))), (28, ni q), (46, .agg (zi (zh (wtE o2 (zk 16 (zo ((nib (nv k) (63 - j)) * 16) R))))))] (En135.sb) (Hv132.trans (z4 Hv132.heap)) ?_ fun _ _ En204 Hv205 => ?_
   ·
    refine s_a 0 0 16 (zh o2) rfl (zq (zc ho2)) (zc ho2) ?_
    refine s_p [(1, g_i .i64 (show (63 : Int) - ((j : Nat) : Int) = ((63 - j : Nat) : Int) from by omega))] ?_
    refine s_p [(2, g_i .i64 (show IntKind.wrap .i64 (Int.tdiv ((63 - j : Nat) : Int) (16 : Int)) = (((63 - j) / 16 : Nat) : Int) from Go.Dbr.i64_quo_nat (a := ((63 - j : Nat) : Int)) (n := 63 - j) (m := 16) rfl (by omega)))] ?_
    refine s_c (fun Mx159 _ _ En162 Hv163 => ?_) ?_
    ·
     refine q_v (x := Instr.indexAt 34 (pt bk6) (ni ((63 - j) / 16))) (v := .pointer (some ⟨bk6, (63 - j) / 16, none⟩)) En162 (Go.Dbr.run_indexarr (e := 32) (sz := 1) (m := 4) (j := (63 - j) / 16) (o := (63 - j) / 16) (by kernel_rfl) (by kernel_rfl) (by omega) (by omega) (by omega) _) fun _ En165 => ?_
     exact s_e En165 Hv163
    refine s_c (fun Mx166 _ _ En169 Hv170 => ?_) ?_
    ·
     have hb171 : (63 - j) / 16 < za k := by rw [hk]; omega
     refine m_v 3 ((63 - j) / 16) (zn (zb k ((63 - j) / 16) 0)) En169 Hv170 rfl (u64s_getD hb171) fun _ En173 => ?_
     exact s_e En173 Hv170
    refine s_p [(5, g_i .i64 (show (63 : Int) - ((j : Nat) : Int) = ((63 - j : Nat) : Int) from by omega))] ?_
    refine s_p [(6, g_i .i64 (show Int.tmod ((63 - j : Nat) : Int) (16 : Int) = (((63 - j) % 16 : Nat) : Int) from Go.Dbr.i64_rem_nat (a := ((63 - j : Nat) : Int)) (n := 63 - j) (m := 16) rfl (by omega)))] ?_
    refine s_p [(7, g_n (w_m 4 ((63 - j) % 16)))] ?_
    refine s_c (fun Mx174 _ _ En177 Hv178 => ?_) ?_
    ·
     refine q_v En177 (Go.Dbr.run_shr_u64 (zb k ((63 - j) / 16) 0) .i64 (4 * ((63 - j) % 16)) (by omega) _) fun _ En180 => ?_
     exact s_e En180 Hv178
    refine s_p [(9, g_v (show (.int .u64 (IntKind.wrap .u64 ((Zs (IntKind.bits .u64) ((zB ((zb k ((63 - j) / 16) 0) >>> zd (4 * ((63 - j) % 16))) : Nat) : Int) &&& Zs (IntKind.bits .u64) (15 : Int)).toNat : Int)) : Value) = .int .u64 ((nib (nv k) (63 - j) : Nat) : Int) by rw [Go.Dbr.u64_and (a := ((zB ((zb k ((63 - j) / 16) 0) >>> zd (4 * ((63 - j) % 16))) : Nat) : Int)) (b := (15 : Int)) (x := (zb k ((63 - j) / 16) 0) >>> zd (4 * ((63 - j) % 16))) (y := (15 : UInt64)) rfl rfl, nib_u hk (show 63 - j < 64 by omega)] <;> rfl))] ?_
    refine s_c (fun Mx181 _ _ En184 Hv185 => ?_) ?_
    ·
     refine q_v (x := Instr.indexAt 75 (pt bk25) (.int .u64 ((nib (nv k) (63 - j) : Nat) : Int))) (v := .pointer (some ⟨bk25, (nib (nv k) (63 - j)) * 16, none⟩)) En184 (Go.Dbr.run_indexarr (e := 43) (sz := 16) (m := 16) (j := nib (nv k) (63 - j)) (o := (nib (nv k) (63 - j)) * 16) (by kernel_rfl) (by kernel_rfl) (by omega) (by omega) (by omega) _) fun _ En187 => ?_
     exact s_e En187 Hv185
    refine s_a 1 ((nib (nv k) (63 - j)) * 16) 16 (zh (zk 16 (zo ((nib (nv k) (63 - j)) * 16) R))) rfl (u64s_sub _ _ _) (zc (Jh hR (by omega))) ?_
    refine s_f (fun _ => Xh _ o2 (zk 16 (zo ((nib (nv k) (63 - j)) * 16) R)) ho2 (Jh hR (by omega))) ?_
    exact s_n
   refine q_u 13 ?_
   refine m_g 0 0 16 (zh (wtE o2 (zk 16 (zo ((nib (nv k) (63 - j)) * 16) R)))) _ [.box bk104 (zh (wtE o2 (zk 16 (zo ((nib (nv k) (63 - j)) * 16) R)))) 43, .box bk25 (zh R) 75, .box bk1 (zh p) 43, .box bk6 (zh k) 34, .box bk11 (zh (ze 16 0)) 43] En204 Hv205 rfl (zc (Ji _ _)) (by rw [(zc ho2)]; first | decide | (simp; done)) (zv _) (zs (zc ho2)) rfl fun _ _ En212 Hv213 => ?_
   exact a_e ⟨En212.sb, Hv213.pk [0, 1, 2, 3, 4]⟩
  rintro _ _ ⟨En216, Hv217⟩
  refine zA <| zg <| d_r [2,3,4,5,6,7,8,28] [(1, g_n (w_r (e := ((63 : Int) - ((j : Nat) : Int)) - (1 : Int)) (x := (63 : Int) - ((j + 1 : Nat) : Int)) (by omega)))] En216 fun _ En219 => ?_
  refine zg <| ⟨_, ⟨j + 1, (wtE o2 (zk 16 (zo ((nib (nv k) (63 - j)) * 16) R))), rfl, En219.sb, Hv217.pk [0, 1, 2, 3, 4], (by omega), (Ji _ _), (by rw [he2, hf _ (by have := nib_lt (nv k) (63 - j); omega), he]; rfl)⟩, ?_⟩
  omega
 refine wp_exit <| zI <| zI <| z9 <| zg <| wp_seq <| zm <| f_o <| m_a 0 0 16 (zh o) En123 Hv120 rfl (zq (zc ho)) (zc ho) fun _ En221 => ?_
 refine f_o <| m_g 4 0 16 (zh o) _ [.box bk104 (zh o) 43, .box bk25 (zh R) 75, .box bk1 (zh p) 43, .box bk6 (zh k) 34, .box bk11 (zh o) 43] En221 Hv120 rfl (zc ho) (by rw [(zc (zf))]; first | decide | (simp; done)) (zv _) (zs (zc (zf))) rfl fun _ _ En224 Hv225 => ?_
 refine f_e <| zg <| wp_ret <| d_cell1 (v := .agg (zi (zh o))) (t := 4) (T := 43) (ad := ⟨bk11, 0, none⟩) En224 (by kernel_rfl) (by kernel_rfl) (Ev.cellAgg (t := 43) (k := 4) (off := 0) (m := 16) (xs := zh o) Hv225 rfl (zq (zc ho)) (zc ho) (by kernel_rfl) (by kernel_rfl)) ?_
 have hj4 : j = 64 := by omega
 exact ⟨by rw [he, hj4], Hv225.pk []⟩

end Go.Proofs.YtlnogkmnklfjlaaDoor

/- Layer 12: points compared, their bytes, points of bytes. -/

namespace Go.Proofs.YtlnogkmnklfjlaaDoor
open Go.Dbr
set_option maxRecDepth 100000
set_option maxHeartbeats 2000000
set_option linter.unusedVariables false
set_option linter.unusedSimpArgs false

theorem same_go (w : World) (x1 y1 z1 t1 x2 y2 z2 t2 : List UInt64) (hx1 : za x1 = 4) (hy1 : za y1 = 4) (hz1 : za z1 = 4) (ht1 : za t1 = 4) (hx2 : za x2 = 4) (hy2 : za y2 = 4) (hz2 : za z2 = 4) (ht2 : za t2 = 4) : Calls Tryd.prog 24 #[.agg (zi ((zh x1) ++ ((zh y1) ++ ((zh z1) ++ (zh t1))))), .agg (zi ((zh x2) ++ ((zh y2) ++ ((zh z2) ++ (zh t2)))))] w fun e w' => e = .returned (.bool (sameN (nv x1) (nv y1) (nv z1) (nv x2) (nv y2) (nv z2))) ∧ Ev w [] w' [] := by
 refine d_0 [(0, .agg (zi ((zh x1) ++ ((zh y1) ++ ((zh z1) ++ (zh t1)))))), (1, .agg (zi ((zh x2) ++ ((zh y2) ++ ((zh z2) ++ (zh t2))))))] 29 Go.Proofs.Tryd.func24 Go.Proofs.Tryd.ntmps24 (Heap.nil _) fun act0 En0 Hv0 => ?_
 refine wp_seq <| zm <| f_o <| m_m 43 ((zh x1) ++ ((zh y1) ++ ((zh z1) ++ (zh t1)))) En0 Hv0 fun _ _ bk1 En4 Hv5 => ?_
 refine f_o <| m_m 43 ((zh x2) ++ ((zh y2) ++ ((zh z2) ++ (zh t2)))) En4 Hv5 fun _ _ bk6 En9 Hv10 => ?_
 refine d_e [2,3,4] [] En9 fun _ En12 => ?_
 refine zg <| wp_seq ?_
 rcases Bool.eq_false_or_eq_true ((nd (zt 1 (nv x1) (nv z2))) == (nd (zt 1 (nv x2) (nv z1)))) with hb13 | hb13
 ·
  have hb13p : (nd (zt 1 (nv x1) (nv z2))) = (nd (zt 1 (nv x2) (nv z1))) := eq_of_beq hb13
  refine r_c (fun ac wo => Env ac 29 [(4, .bool ((nd (zt 1 (nv y1) (nv z2))) == (nd (zt 1 (nv y2) (nv z1)))))] ∧ Ev w [] wo []) ?_ ?_
  ·
   refine s_g0 [(2, pt bk1), (3, pt bk6), (4, .bool false)] [0,1,2,3,4,5,6,7,8,9,10,11] [(5, pt bk1), (6, .agg (zi (zh x1))), (7, .pointer (some ⟨bk6, 8, none⟩)), (8, .agg (zi (zh z2))), (9, .agg (zi (zh (nd (zt 1 (nv x1) (nv z2)))))), (10, pt bk6), (11, .agg (zi (zh x2))), (12, .pointer (some ⟨bk1, 8, none⟩)), (13, .agg (zi (zh z1))), (14, .agg (zi (zh (nd (zt 1 (nv x2) (nv z1)))))), (15, .bool ((nd (zt 1 (nv x1) (nv z2))) == (nd (zt 1 (nv x2) (nv z1))))), (16, .bool ((nd (zt 1 (nv x1) (nv z2))) == (nd (zt 1 (nv x2) (nv z1)))))] 13 [(2, pt bk1), (3, pt bk6), (4, .bool false), (16, .bool ((nd (zt 1 (nv x1) (nv z2))) == (nd (zt 1 (nv x2) (nv z1)))))] (En12.sb) (Hv10.trans (z4 Hv10.heap)) ?_ fun _ _ En61 Hv62 => ?_
   ·
    refine s_p [] ?_
    refine s_a 0 0 4 (zh x1) rfl (by simp [zc hx1, zc hy1, zc hz1, zc ht1, zw, zx]) (zc hx1) ?_
    refine s_p [] ?_
    refine s_a 1 8 4 (zh z2) rfl (by simp [zc hx2, zc hy2, zc hz2, zc ht2, zw, zx]) (zc hz2) ?_
    refine s_f (fun _ => Zv _ x1 z2 hx1 hz2) ?_
    refine s_p [] ?_
    refine s_a 1 0 4 (zh x2) rfl (by simp [zc hx2, zc hy2, zc hz2, zc ht2, zw, zx]) (zc hx2) ?_
    refine s_p [] ?_
    refine s_a 0 8 4 (zh z1) rfl (by simp [zc hx1, zc hy1, zc hz1, zc ht1, zw, zx]) (zc hz1) ?_
    refine s_f (fun _ => Zv _ x2 z1 hx2 hz1) ?_
    refine s_c (fun Mx52 _ _ En55 Hv56 => ?_) ?_
    ·
     refine q_v (x := Xt .eql 34 (.tmp 9) (.tmp 14) (.agg (zi (zh (nd (zt 1 (nv x1) (nv z2)))))) (.agg (zi (zh (nd (zt 1 (nv x2) (nv z1))))))) (v := .bool ((nd (zt 1 (nv x1) (nv z2))) == (nd (zt 1 (nv x2) (nv z1))))) En55 (Go.Dbr.u64s_eqop (a := (.tmp 9)) (b := (.tmp 14)) (e := 32) (m := 4) (by kernel_rfl) (by kernel_rfl) (by kernel_rfl) (by kernel_rfl) (by kernel_rfl) (zl _ _) (zl _ _) _) fun _ En58 => ?_
     exact s_e En58 Hv56
    refine s_p [] ?_
    exact s_n
   refine any_name fun G hG => ?_
   have nd235 : ∀ (ac : Act) (wo : World), Env ac 29 [(4, .bool false), (16, .bool true), (21, .agg (zi (zh (nd (zt 1 (nv y1) (nv z2)))))), (23, .agg (zi (zh y2))), (24, .pointer (some ⟨bk1, 8, none⟩))] → Ev w [] wo [.box bk1 ((zh x1) ++ ((zh y1) ++ ((zh z1) ++ (zh t1)))) 43] → G 5 #[true, true, true, true, true, true, true, true, true, true, true, true, true, true, true, true, true, true, true, true, false, false, false, false, false] ac wo := by
    intro _ _ En238 Hv239
    refine Qt hG ?_
    refine q_u 20 ?_
    refine m_a 0 8 4 (zh z1) En238 Hv239 rfl (by simp [zc hx1, zc hy1, zc hz1, zc ht1, zw, zx]) (zc hz1) fun _ En241 => ?_
    refine q_u 21 ?_
    refine c_p En241 Hv239 (Zv _ y2 z1 hy2 hz1) fun _ _ En247 Hv248 => ?_
    refine q_g 22 (s := Xt .eql 34 (.tmp 21) (.tmp 26) (.agg (zi (zh (nd (zt 1 (nv y1) (nv z2)))))) (.agg (zi (zh (nd (zt 1 (nv y2) (nv z1))))))) (v := .bool ((nd (zt 1 (nv y1) (nv z2))) == (nd (zt 1 (nv y2) (nv z1))))) En247 (fun _ => Go.Dbr.u64s_eqop (a := (.tmp 21)) (b := (.tmp 26)) (e := 32) (m := 4) (by kernel_rfl) (by kernel_rfl) (by kernel_rfl) (by kernel_rfl) (by kernel_rfl) (zl _ _) (zl _ _) _) fun _ En250 => ?_
    refine q_a [23,24] [] 0 En250 fun _ En252 => ?_
    exact a_e ⟨En252.sb, Hv248.pk []⟩
   have nd253 : ∀ (ac : Act) (wo : World), Env ac 29 [(4, .bool false), (16, .bool true), (21, .agg (zi (zh (nd (zt 1 (nv y1) (nv z2)))))), (22, .pointer (some ⟨bk6, 4, none⟩)), (25, .agg (zi (zh z1)))] → Ev w [] wo [.box bk6 ((zh x2) ++ ((zh y2) ++ ((zh z2) ++ (zh t2)))) 43] → G 5 #[true, true, true, true, true, true, true, true, true, true, true, true, true, true, true, true, true, true, false, true, true, false, false, false, false] ac wo := by
    intro _ _ En256 Hv257
    refine Qt hG ?_
    refine q_u 18 ?_
    refine m_a 0 4 4 (zh y2) En256 Hv257 rfl (by simp [zc hx2, zc hy2, zc hz2, zc ht2, zw, zx]) (zc hy2) fun _ En259 => ?_
    refine q_u 21 ?_
    refine c_p En259 Hv257 (Zv _ y2 z1 hy2 hz1) fun _ _ En265 Hv266 => ?_
    refine q_g 22 (s := Xt .eql 34 (.tmp 21) (.tmp 26) (.agg (zi (zh (nd (zt 1 (nv y1) (nv z2)))))) (.agg (zi (zh (nd (zt 1 (nv y2) (nv z1))))))) (v := .bool ((nd (zt 1 (nv y1) (nv z2))) == (nd (zt 1 (nv y2) (nv z1))))) En265 (fun _ => Go.Dbr.u64s_eqop (a := (.tmp 21)) (b := (.tmp 26)) (e := 32) (m := 4) (by kernel_rfl) (by kernel_rfl) (by kernel_rfl) (by kernel_rfl) (by kernel_rfl) (zl _ _) (zl _ _) _) fun _ En268 => ?_
    refine q_a [23,24] [] 0 En268 fun _ En270 => ?_
    exact a_e ⟨En270.sb, Hv266.pk []⟩
   have nd271 : ∀ (ac : Act) (wo : World), Env ac 29 [(4, .bool false), (16, .bool true), (18, .agg (zi (zh y1))), (20, .agg (zi (zh z2))), (23, .agg (zi (zh y2))), (25, .agg (zi (zh z1)))] → Ev w [] wo [] → G 5 #[true, true, true, true, true, true, true, true, true, true, true, true, true, true, true, true, false, true, true, true, true, false, false, false, false] ac wo := by
    intro _ _ En274 Hv275
    refine Qt hG ?_
    refine q_u 16 ?_
    refine c_p En274 Hv275 (Zv _ y1 z2 hy1 hz2) fun _ _ En281 Hv282 => ?_
    refine q_u 21 ?_
    refine c_p En281 Hv282 (Zv _ y2 z1 hy2 hz1) fun _ _ En288 Hv289 => ?_
    refine q_g 22 (s := Xt .eql 34 (.tmp 21) (.tmp 26) (.agg (zi (zh (nd (zt 1 (nv y1) (nv z2)))))) (.agg (zi (zh (nd (zt 1 (nv y2) (nv z1))))))) (v := .bool ((nd (zt 1 (nv y1) (nv z2))) == (nd (zt 1 (nv y2) (nv z1))))) En288 (fun _ => Go.Dbr.u64s_eqop (a := (.tmp 21)) (b := (.tmp 26)) (e := 32) (m := 4) (by kernel_rfl) (by kernel_rfl) (by kernel_rfl) (by kernel_rfl) (by kernel_rfl) (zl _ _) (zl _ _) _) fun _ En291 => ?_
    refine q_a [23,24] [] 0 En291 fun _ En293 => ?_
    exact a_e ⟨En293.sb, Hv289.pk []⟩
   have nd294 : ∀ (ac : Act) (wo : World), Env ac 29 [(4, .bool false), (16, .bool true), (21, .agg (zi (zh (nd (zt 1 (nv y1) (nv z2)))))), (22, .pointer (some ⟨bk6, 4, none⟩)), (24, .pointer (some ⟨bk1, 8, none⟩))] → Ev w [] wo [.box bk1 ((zh x1) ++ ((zh y1) ++ ((zh z1) ++ (zh t1)))) 43, .box bk6 ((zh x2) ++ ((zh y2) ++ ((zh z2) ++ (zh t2)))) 43] → G 6 #[true, true, true, true, true, true, true, true, true, true, true, true, true, true, true, true, true, true, false, true, false, false, false, false, false] ac wo := by
    intro _ _ En297 Hv298
    refine Qt hG ?_
    refine JE 18 20 (by kernel_rfl) ?_ ?_
    ·
     rintro _ rfl
     refine m_a 1 4 4 (zh y2) En297 Hv298 rfl (by simp [zc hx2, zc hy2, zc hz2, zc ht2, zw, zx]) (zc hy2) fun _ En300 => ?_
     exact Z5 hG (by kernel_rfl) (nd235 _ _ (En300.sb) (Hv298.pk [0]))
    rintro _ rfl
    refine m_a 0 8 4 (zh z1) En297 Hv298 rfl (by simp [zc hx1, zc hy1, zc hz1, zc ht1, zw, zx]) (zc hz1) fun _ En302 => ?_
    exact Z5 hG (by kernel_rfl) (nd253 _ _ (En302.sb) (Hv298.pk [1]))
   have nd303 : ∀ (ac : Act) (wo : World), Env ac 29 [(4, .bool false), (16, .bool true), (18, .agg (zi (zh y1))), (20, .agg (zi (zh z2))), (23, .agg (zi (zh y2))), (24, .pointer (some ⟨bk1, 8, none⟩))] → Ev w [] wo [.box bk1 ((zh x1) ++ ((zh y1) ++ ((zh z1) ++ (zh t1)))) 43] → G 6 #[true, true, true, true, true, true, true, true, true, true, true, true, true, true, true, true, false, true, true, true, false, false, false, false, false] ac wo := by
    intro _ _ En306 Hv307
    refine Qt hG ?_
    refine JE 16 20 (by kernel_rfl) ?_ ?_
    ·
     rintro _ rfl
     refine c_p En306 Hv307 (Zv _ y1 z2 hy1 hz2) fun _ _ En313 Hv314 => ?_
     exact Z5 hG (by kernel_rfl) (nd235 _ _ (En313.sb) (Hv314.pk [0]))
    rintro _ rfl
    refine m_a 0 8 4 (zh z1) En306 Hv307 rfl (by simp [zc hx1, zc hy1, zc hz1, zc ht1, zw, zx]) (zc hz1) fun _ En316 => ?_
    exact Z5 hG (by kernel_rfl) (nd271 _ _ (En316.sb) (Hv307.pk []))
   have nd317 : ∀ (ac : Act) (wo : World), Env ac 29 [(4, .bool false), (16, .bool true), (18, .agg (zi (zh y1))), (20, .agg (zi (zh z2))), (22, .pointer (some ⟨bk6, 4, none⟩)), (25, .agg (zi (zh z1)))] → Ev w [] wo [.box bk6 ((zh x2) ++ ((zh y2) ++ ((zh z2) ++ (zh t2)))) 43] → G 6 #[true, true, true, true, true, true, true, true, true, true, true, true, true, true, true, true, false, true, false, true, true, false, false, false, false] ac wo := by
    intro _ _ En320 Hv321
    refine Qt hG ?_
    refine JE 16 18 (by kernel_rfl) ?_ ?_
    ·
     rintro _ rfl
     refine c_p En320 Hv321 (Zv _ y1 z2 hy1 hz2) fun _ _ En327 Hv328 => ?_
     exact Z5 hG (by kernel_rfl) (nd253 _ _ (En327.sb) (Hv328.pk [0]))
    rintro _ rfl
    refine m_a 0 4 4 (zh y2) En320 Hv321 rfl (by simp [zc hx2, zc hy2, zc hz2, zc ht2, zw, zx]) (zc hy2) fun _ En330 => ?_
    exact Z5 hG (by kernel_rfl) (nd271 _ _ (En330.sb) (Hv321.pk []))
   have nd331 : ∀ (ac : Act) (wo : World), Env ac 29 [(4, .bool false), (16, .bool true), (18, .agg (zi (zh y1))), (19, .pointer (some ⟨bk6, 8, none⟩)), (23, .agg (zi (zh y2))), (25, .agg (zi (zh z1)))] → Ev w [] wo [.box bk6 ((zh x2) ++ ((zh y2) ++ ((zh z2) ++ (zh t2)))) 43] → G 6 #[true, true, true, true, true, true, true, true, true, true, true, true, true, true, true, false, false, true, true, true, true, false, false, false, false] ac wo := by
    intro _ _ En334 Hv335
    refine Qt hG ?_
    refine q_u 15 ?_
    refine m_a 0 8 4 (zh z2) En334 Hv335 rfl (by simp [zc hx2, zc hy2, zc hz2, zc ht2, zw, zx]) (zc hz2) fun _ En337 => ?_
    refine q_u 16 ?_
    refine c_p En337 Hv335 (Zv _ y1 z2 hy1 hz2) fun _ _ En343 Hv344 => ?_
    refine q_u 21 ?_
    refine c_p En343 Hv344 (Zv _ y2 z1 hy2 hz1) fun _ _ En350 Hv351 => ?_
    refine q_g 22 (s := Xt .eql 34 (.tmp 21) (.tmp 26) (.agg (zi (zh (nd (zt 1 (nv y1) (nv z2)))))) (.agg (zi (zh (nd (zt 1 (nv y2) (nv z1))))))) (v := .bool ((nd (zt 1 (nv y1) (nv z2))) == (nd (zt 1 (nv y2) (nv z1))))) En350 (fun _ => Go.Dbr.u64s_eqop (a := (.tmp 21)) (b := (.tmp 26)) (e := 32) (m := 4) (by kernel_rfl) (by kernel_rfl) (by kernel_rfl) (by kernel_rfl) (by kernel_rfl) (zl _ _) (zl _ _) _) fun _ En353 => ?_
    refine q_a [23,24] [] 0 En353 fun _ En355 => ?_
    exact a_e ⟨En355.sb, Hv351.pk []⟩
   have nd356 : ∀ (ac : Act) (wo : World), Env ac 29 [(4, .bool false), (16, .bool true), (17, .pointer (some ⟨bk1, 4, none⟩)), (20, .agg (zi (zh z2))), (23, .agg (zi (zh y2))), (25, .agg (zi (zh z1)))] → Ev w [] wo [.box bk1 ((zh x1) ++ ((zh y1) ++ ((zh z1) ++ (zh t1)))) 43] → G 6 #[true, true, true, true, true, true, true, true, true, true, true, true, true, false, true, true, false, true, true, true, true, false, false, false, false] ac wo := by
    intro _ _ En359 Hv360
    refine Qt hG ?_
    refine q_u 13 ?_
    refine m_a 0 4 4 (zh y1) En359 Hv360 rfl (by simp [zc hx1, zc hy1, zc hz1, zc ht1, zw, zx]) (zc hy1) fun _ En362 => ?_
    refine q_u 16 ?_
    refine c_p En362 Hv360 (Zv _ y1 z2 hy1 hz2) fun _ _ En368 Hv369 => ?_
    refine q_u 21 ?_
    refine c_p En368 Hv369 (Zv _ y2 z1 hy2 hz1) fun _ _ En375 Hv376 => ?_
    refine q_g 22 (s := Xt .eql 34 (.tmp 21) (.tmp 26) (.agg (zi (zh (nd (zt 1 (nv y1) (nv z2)))))) (.agg (zi (zh (nd (zt 1 (nv y2) (nv z1))))))) (v := .bool ((nd (zt 1 (nv y1) (nv z2))) == (nd (zt 1 (nv y2) (nv z1))))) En375 (fun _ => Go.Dbr.u64s_eqop (a := (.tmp 21)) (b := (.tmp 26)) (e := 32) (m := 4) (by kernel_rfl) (by kernel_rfl) (by kernel_rfl) (by kernel_rfl) (by kernel_rfl) (zl _ _) (zl _ _) _) fun _ En378 => ?_
    refine q_a [23,24] [] 0 En378 fun _ En380 => ?_
    exact a_e ⟨En380.sb, Hv376.pk []⟩
   have nd381 : ∀ (ac : Act) (wo : World), Env ac 29 [(4, .bool false), (16, .bool true), (18, .agg (zi (zh y1))), (20, .agg (zi (zh z2))), (22, .pointer (some ⟨bk6, 4, none⟩)), (24, .pointer (some ⟨bk1, 8, none⟩))] → Ev w [] wo [.box bk1 ((zh x1) ++ ((zh y1) ++ ((zh z1) ++ (zh t1)))) 43, .box bk6 ((zh x2) ++ ((zh y2) ++ ((zh z2) ++ (zh t2)))) 43] → G 7 #[true, true, true, true, true, true, true, true, true, true, true, true, true, true, true, true, false, true, false, true, false, false, false, false, false] ac wo := by
    intro _ _ En384 Hv385
    refine Qt hG ?_
    refine JM [16, 18, 20] (by kernel_rfl) rfl ?_
    refine ⟨?_, ?_, ?_, trivial⟩
    ·
     rintro _ rfl
     refine c_p En384 Hv385 (Zv _ y1 z2 hy1 hz2) fun _ _ En391 Hv392 => ?_
     exact Z5 hG (by kernel_rfl) (nd294 _ _ (En391.sb) (Hv392.pk [0, 1]))
    ·
     rintro _ rfl
     refine m_a 1 4 4 (zh y2) En384 Hv385 rfl (by simp [zc hx2, zc hy2, zc hz2, zc ht2, zw, zx]) (zc hy2) fun _ En394 => ?_
     exact Z5 hG (by kernel_rfl) (nd303 _ _ (En394.sb) (Hv385.pk [0]))
    rintro _ rfl
    refine m_a 0 8 4 (zh z1) En384 Hv385 rfl (by simp [zc hx1, zc hy1, zc hz1, zc ht1, zw, zx]) (zc hz1) fun _ En396 => ?_
    exact Z5 hG (by kernel_rfl) (nd317 _ _ (En396.sb) (Hv385.pk [1]))
   have nd397 : ∀ (ac : Act) (wo : World), Env ac 29 [(4, .bool false), (16, .bool true), (18, .agg (zi (zh y1))), (19, .pointer (some ⟨bk6, 8, none⟩)), (23, .agg (zi (zh y2))), (24, .pointer (some ⟨bk1, 8, none⟩))] → Ev w [] wo [.box bk1 ((zh x1) ++ ((zh y1) ++ ((zh z1) ++ (zh t1)))) 43, .box bk6 ((zh x2) ++ ((zh y2) ++ ((zh z2) ++ (zh t2)))) 43] → G 7 #[true, true, true, true, true, true, true, true, true, true, true, true, true, true, true, false, false, true, true, true, false, false, false, false, false] ac wo := by
    intro _ _ En400 Hv401
    refine Qt hG ?_
    refine JE 15 20 (by kernel_rfl) ?_ ?_
    ·
     rintro _ rfl
     refine m_a 1 8 4 (zh z2) En400 Hv401 rfl (by simp [zc hx2, zc hy2, zc hz2, zc ht2, zw, zx]) (zc hz2) fun _ En403 => ?_
     exact Z5 hG (by kernel_rfl) (nd303 _ _ (En403.sb) (Hv401.pk [0]))
    rintro _ rfl
    refine m_a 0 8 4 (zh z1) En400 Hv401 rfl (by simp [zc hx1, zc hy1, zc hz1, zc ht1, zw, zx]) (zc hz1) fun _ En405 => ?_
    exact Z5 hG (by kernel_rfl) (nd331 _ _ (En405.sb) (Hv401.pk [1]))
   have nd406 : ∀ (ac : Act) (wo : World), Env ac 29 [(4, .bool false), (16, .bool true), (18, .agg (zi (zh y1))), (19, .pointer (some ⟨bk6, 8, none⟩)), (22, .pointer (some ⟨bk6, 4, none⟩)), (25, .agg (zi (zh z1)))] → Ev w [] wo [.box bk6 ((zh x2) ++ ((zh y2) ++ ((zh z2) ++ (zh t2)))) 43] → G 7 #[true, true, true, true, true, true, true, true, true, true, true, true, true, true, true, false, false, true, false, true, true, false, false, false, false] ac wo := by
    intro _ _ En409 Hv410
    refine Qt hG ?_
    refine JE 15 18 (by kernel_rfl) ?_ ?_
    ·
     rintro _ rfl
     refine m_a 0 8 4 (zh z2) En409 Hv410 rfl (by simp [zc hx2, zc hy2, zc hz2, zc ht2, zw, zx]) (zc hz2) fun _ En412 => ?_
     exact Z5 hG (by kernel_rfl) (nd317 _ _ (En412.sb) (Hv410.pk [0]))
    rintro _ rfl
    refine m_a 0 4 4 (zh y2) En409 Hv410 rfl (by simp [zc hx2, zc hy2, zc hz2, zc ht2, zw, zx]) (zc hy2) fun _ En414 => ?_
    exact Z5 hG (by kernel_rfl) (nd331 _ _ (En414.sb) (Hv410.pk [0]))
   have nd415 : ∀ (ac : Act) (wo : World), Env ac 29 [(4, .bool false), (16, .bool true), (17, .pointer (some ⟨bk1, 4, none⟩)), (20, .agg (zi (zh z2))), (23, .agg (zi (zh y2))), (24, .pointer (some ⟨bk1, 8, none⟩))] → Ev w [] wo [.box bk1 ((zh x1) ++ ((zh y1) ++ ((zh z1) ++ (zh t1)))) 43] → G 7 #[true, true, true, true, true, true, true, true, true, true, true, true, true, false, true, true, false, true, true, true, false, false, false, false, false] ac wo := by
    intro _ _ En418 Hv419
    refine Qt hG ?_
    refine JE 13 20 (by kernel_rfl) ?_ ?_
    ·
     rintro _ rfl
     refine m_a 0 4 4 (zh y1) En418 Hv419 rfl (by simp [zc hx1, zc hy1, zc hz1, zc ht1, zw, zx]) (zc hy1) fun _ En421 => ?_
     exact Z5 hG (by kernel_rfl) (nd303 _ _ (En421.sb) (Hv419.pk [0]))
    rintro _ rfl
    refine m_a 0 8 4 (zh z1) En418 Hv419 rfl (by simp [zc hx1, zc hy1, zc hz1, zc ht1, zw, zx]) (zc hz1) fun _ En423 => ?_
    exact Z5 hG (by kernel_rfl) (nd356 _ _ (En423.sb) (Hv419.pk [0]))
   have nd424 : ∀ (ac : Act) (wo : World), Env ac 29 [(4, .bool false), (16, .bool true), (17, .pointer (some ⟨bk1, 4, none⟩)), (20, .agg (zi (zh z2))), (22, .pointer (some ⟨bk6, 4, none⟩)), (25, .agg (zi (zh z1)))] → Ev w [] wo [.box bk1 ((zh x1) ++ ((zh y1) ++ ((zh z1) ++ (zh t1)))) 43, .box bk6 ((zh x2) ++ ((zh y2) ++ ((zh z2) ++ (zh t2)))) 43] → G 7 #[true, true, true, true, true, true, true, true, true, true, true, true, true, false, true, true, false, true, false, true, true, false, false, false, false] ac wo := by
    intro _ _ En427 Hv428
    refine Qt hG ?_
    refine JE 13 18 (by kernel_rfl) ?_ ?_
    ·
     rintro _ rfl
     refine m_a 0 4 4 (zh y1) En427 Hv428 rfl (by simp [zc hx1, zc hy1, zc hz1, zc ht1, zw, zx]) (zc hy1) fun _ En430 => ?_
     exact Z5 hG (by kernel_rfl) (nd317 _ _ (En430.sb) (Hv428.pk [1]))
    rintro _ rfl
    refine m_a 1 4 4 (zh y2) En427 Hv428 rfl (by simp [zc hx2, zc hy2, zc hz2, zc ht2, zw, zx]) (zc hy2) fun _ En432 => ?_
    exact Z5 hG (by kernel_rfl) (nd356 _ _ (En432.sb) (Hv428.pk [0]))
   have nd433 : ∀ (ac : Act) (wo : World), Env ac 29 [(4, .bool false), (16, .bool true), (17, .pointer (some ⟨bk1, 4, none⟩)), (19, .pointer (some ⟨bk6, 8, none⟩)), (23, .agg (zi (zh y2))), (25, .agg (zi (zh z1)))] → Ev w [] wo [.box bk1 ((zh x1) ++ ((zh y1) ++ ((zh z1) ++ (zh t1)))) 43, .box bk6 ((zh x2) ++ ((zh y2) ++ ((zh z2) ++ (zh t2)))) 43] → G 7 #[true, true, true, true, true, true, true, true, true, true, true, true, true, false, true, false, false, true, true, true, true, false, false, false, false] ac wo := by
    intro _ _ En436 Hv437
    refine Qt hG ?_
    refine JE 13 15 (by kernel_rfl) ?_ ?_
    ·
     rintro _ rfl
     refine m_a 0 4 4 (zh y1) En436 Hv437 rfl (by simp [zc hx1, zc hy1, zc hz1, zc ht1, zw, zx]) (zc hy1) fun _ En439 => ?_
     exact Z5 hG (by kernel_rfl) (nd331 _ _ (En439.sb) (Hv437.pk [1]))
    rintro _ rfl
    refine m_a 1 8 4 (zh z2) En436 Hv437 rfl (by simp [zc hx2, zc hy2, zc hz2, zc ht2, zw, zx]) (zc hz2) fun _ En441 => ?_
    exact Z5 hG (by kernel_rfl) (nd356 _ _ (En441.sb) (Hv437.pk [0]))
   have nd442 : ∀ (ac : Act) (wo : World), Env ac 29 [(4, .bool false), (16, .bool true), (18, .agg (zi (zh y1))), (19, .pointer (some ⟨bk6, 8, none⟩)), (22, .pointer (some ⟨bk6, 4, none⟩)), (24, .pointer (some ⟨bk1, 8, none⟩))] → Ev w [] wo [.box bk1 ((zh x1) ++ ((zh y1) ++ ((zh z1) ++ (zh t1)))) 43, .box bk6 ((zh x2) ++ ((zh y2) ++ ((zh z2) ++ (zh t2)))) 43] → G 8 #[true, true, true, true, true, true, true, true, true, true, true, true, true, true, true, false, false, true, false, true, false, false, false, false, false] ac wo := by
    intro _ _ En445 Hv446
    refine Qt hG ?_
    refine JM [15, 18, 20] (by kernel_rfl) rfl ?_
    refine ⟨?_, ?_, ?_, trivial⟩
    ·
     rintro _ rfl
     refine m_a 1 8 4 (zh z2) En445 Hv446 rfl (by simp [zc hx2, zc hy2, zc hz2, zc ht2, zw, zx]) (zc hz2) fun _ En448 => ?_
     exact Z5 hG (by kernel_rfl) (nd381 _ _ (En448.sb) (Hv446.pk [0, 1]))
    ·
     rintro _ rfl
     refine m_a 1 4 4 (zh y2) En445 Hv446 rfl (by simp [zc hx2, zc hy2, zc hz2, zc ht2, zw, zx]) (zc hy2) fun _ En450 => ?_
     exact Z5 hG (by kernel_rfl) (nd397 _ _ (En450.sb) (Hv446.pk [0, 1]))
    rintro _ rfl
    refine m_a 0 8 4 (zh z1) En445 Hv446 rfl (by simp [zc hx1, zc hy1, zc hz1, zc ht1, zw, zx]) (zc hz1) fun _ En452 => ?_
    exact Z5 hG (by kernel_rfl) (nd406 _ _ (En452.sb) (Hv446.pk [1]))
   have nd453 : ∀ (ac : Act) (wo : World), Env ac 29 [(4, .bool false), (16, .bool true), (17, .pointer (some ⟨bk1, 4, none⟩)), (20, .agg (zi (zh z2))), (22, .pointer (some ⟨bk6, 4, none⟩)), (24, .pointer (some ⟨bk1, 8, none⟩))] → Ev w [] wo [.box bk1 ((zh x1) ++ ((zh y1) ++ ((zh z1) ++ (zh t1)))) 43, .box bk6 ((zh x2) ++ ((zh y2) ++ ((zh z2) ++ (zh t2)))) 43] → G 8 #[true, true, true, true, true, true, true, true, true, true, true, true, true, false, true, true, false, true, false, true, false, false, false, false, false] ac wo := by
    intro _ _ En456 Hv457
    refine Qt hG ?_
    refine JM [13, 18, 20] (by kernel_rfl) rfl ?_
    refine ⟨?_, ?_, ?_, trivial⟩
    ·
     rintro _ rfl
     refine m_a 0 4 4 (zh y1) En456 Hv457 rfl (by simp [zc hx1, zc hy1, zc hz1, zc ht1, zw, zx]) (zc hy1) fun _ En459 => ?_
     exact Z5 hG (by kernel_rfl) (nd381 _ _ (En459.sb) (Hv457.pk [0, 1]))
    ·
     rintro _ rfl
     refine m_a 1 4 4 (zh y2) En456 Hv457 rfl (by simp [zc hx2, zc hy2, zc hz2, zc ht2, zw, zx]) (zc hy2) fun _ En461 => ?_
     exact Z5 hG (by kernel_rfl) (nd415 _ _ (En461.sb) (Hv457.pk [0]))
    rintro _ rfl
    refine m_a 0 8 4 (zh z1) En456 Hv457 rfl (by simp [zc hx1, zc hy1, zc hz1, zc ht1, zw, zx]) (zc hz1) fun _ En463 => ?_
    exact Z5 hG (by kernel_rfl) (nd424 _ _ (En463.sb) (Hv457.pk [0, 1]))
   have nd464 : ∀ (ac : Act) (wo : World), Env ac 29 [(4, .bool false), (16, .bool true), (17, .pointer (some ⟨bk1, 4, none⟩)), (19, .pointer (some ⟨bk6, 8, none⟩)), (23, .agg (zi (zh y2))), (24, .pointer (some ⟨bk1, 8, none⟩))] → Ev w [] wo [.box bk1 ((zh x1) ++ ((zh y1) ++ ((zh z1) ++ (zh t1)))) 43, .box bk6 ((zh x2) ++ ((zh y2) ++ ((zh z2) ++ (zh t2)))) 43] → G 8 #[true, true, true, true, true, true, true, true, true, true, true, true, true, false, true, false, false, true, true, true, false, false, false, false, false] ac wo := by
    intro _ _ En467 Hv468
    refine Qt hG ?_
    refine JM [13, 15, 20] (by kernel_rfl) rfl ?_
    refine ⟨?_, ?_, ?_, trivial⟩
    ·
     rintro _ rfl
     refine m_a 0 4 4 (zh y1) En467 Hv468 rfl (by simp [zc hx1, zc hy1, zc hz1, zc ht1, zw, zx]) (zc hy1) fun _ En470 => ?_
     exact Z5 hG (by kernel_rfl) (nd397 _ _ (En470.sb) (Hv468.pk [0, 1]))
    ·
     rintro _ rfl
     refine m_a 1 8 4 (zh z2) En467 Hv468 rfl (by simp [zc hx2, zc hy2, zc hz2, zc ht2, zw, zx]) (zc hz2) fun _ En472 => ?_
     exact Z5 hG (by kernel_rfl) (nd415 _ _ (En472.sb) (Hv468.pk [0]))
    rintro _ rfl
    refine m_a 0 8 4 (zh z1) En467 Hv468 rfl (by simp [zc hx1, zc hy1, zc hz1, zc ht1, zw, zx]) (zc hz1) fun _ En474 => ?_
    exact Z5 hG (by kernel_rfl) (nd433 _ _ (En474.sb) (Hv468.pk [0, 1]))
   have nd475 : ∀ (ac : Act) (wo : World), Env ac 29 [(4, .bool false), (16, .bool true), (17, .pointer (some ⟨bk1, 4, none⟩)), (19, .pointer (some ⟨bk6, 8, none⟩)), (22, .pointer (some ⟨bk6, 4, none⟩)), (25, .agg (zi (zh z1)))] → Ev w [] wo [.box bk1 ((zh x1) ++ ((zh y1) ++ ((zh z1) ++ (zh t1)))) 43, .box bk6 ((zh x2) ++ ((zh y2) ++ ((zh z2) ++ (zh t2)))) 43] → G 8 #[true, true, true, true, true, true, true, true, true, true, true, true, true, false, true, false, false, true, false, true, true, false, false, false, false] ac wo := by
    intro _ _ En478 Hv479
    refine Qt hG ?_
    refine JM [13, 15, 18] (by kernel_rfl) rfl ?_
    refine ⟨?_, ?_, ?_, trivial⟩
    ·
     rintro _ rfl
     refine m_a 0 4 4 (zh y1) En478 Hv479 rfl (by simp [zc hx1, zc hy1, zc hz1, zc ht1, zw, zx]) (zc hy1) fun _ En481 => ?_
     exact Z5 hG (by kernel_rfl) (nd406 _ _ (En481.sb) (Hv479.pk [1]))
    ·
     rintro _ rfl
     refine m_a 1 8 4 (zh z2) En478 Hv479 rfl (by simp [zc hx2, zc hy2, zc hz2, zc ht2, zw, zx]) (zc hz2) fun _ En483 => ?_
     exact Z5 hG (by kernel_rfl) (nd424 _ _ (En483.sb) (Hv479.pk [0, 1]))
    rintro _ rfl
    refine m_a 1 4 4 (zh y2) En478 Hv479 rfl (by simp [zc hx2, zc hy2, zc hz2, zc ht2, zw, zx]) (zc hy2) fun _ En485 => ?_
    exact Z5 hG (by kernel_rfl) (nd433 _ _ (En485.sb) (Hv479.pk [0, 1]))
   refine Qt hG ?_
   have En486 := En61.fx (t := 16) (congrArg Value.bool hb13)
   refine q_a [12,14,17,19] [] 9 En486 fun _ En488 => ?_
   refine JM [13, 15, 18, 20] (by kernel_rfl) rfl ?_
   refine ⟨?_, ?_, ?_, ?_, trivial⟩
   ·
    rintro _ rfl
    refine m_a 0 4 4 (zh y1) En488 Hv62 rfl (by simp [zc hx1, zc hy1, zc hz1, zc ht1, zw, zx]) (zc hy1) fun _ En490 => ?_
    exact Z5 hG (by kernel_rfl) (nd442 _ _ (En490.sb) (Hv62.pk [0, 1]))
   ·
    rintro _ rfl
    refine m_a 1 8 4 (zh z2) En488 Hv62 rfl (by simp [zc hx2, zc hy2, zc hz2, zc ht2, zw, zx]) (zc hz2) fun _ En492 => ?_
    exact Z5 hG (by kernel_rfl) (nd453 _ _ (En492.sb) (Hv62.pk [0, 1]))
   ·
    rintro _ rfl
    refine m_a 1 4 4 (zh y2) En488 Hv62 rfl (by simp [zc hx2, zc hy2, zc hz2, zc ht2, zw, zx]) (zc hy2) fun _ En494 => ?_
    exact Z5 hG (by kernel_rfl) (nd464 _ _ (En494.sb) (Hv62.pk [0, 1]))
   rintro _ rfl
   refine m_a 0 8 4 (zh z1) En488 Hv62 rfl (by simp [zc hx1, zc hy1, zc hz1, zc ht1, zw, zx]) (zc hz1) fun _ En496 => ?_
   exact Z5 hG (by kernel_rfl) (nd475 _ _ (En496.sb) (Hv62.pk [0, 1]))
  rintro _ _ ⟨En499, Hv500⟩
  refine zg <| wp_ret <| d_ret1 (t := 4) (v := .bool ((nd (zt 1 (nv y1) (nv z2))) == (nd (zt 1 (nv y2) (nv z1))))) En499 (by kernel_rfl) (by kernel_rfl) ?_
  exact ⟨by simp only [sameN, hb13, Qp, Qx, Xn, Jb], Hv500.pk []⟩
 have hb13p : ¬ ((nd (zt 1 (nv x1) (nv z2))) = (nd (zt 1 (nv x2) (nv z1)))) := ne_of_beq_false hb13
 refine r_c (fun ac wo => Env ac 29 [(4, .bool false)] ∧ Ev w [] wo []) ?_ ?_
 ·
  refine s_g0 [(2, pt bk1), (3, pt bk6), (4, .bool false)] [0,1,2,3,4,5,6,7,8,9,10,11] [(5, pt bk1), (6, .agg (zi (zh x1))), (7, .pointer (some ⟨bk6, 8, none⟩)), (8, .agg (zi (zh z2))), (9, .agg (zi (zh (nd (zt 1 (nv x1) (nv z2)))))), (10, pt bk6), (11, .agg (zi (zh x2))), (12, .pointer (some ⟨bk1, 8, none⟩)), (13, .agg (zi (zh z1))), (14, .agg (zi (zh (nd (zt 1 (nv x2) (nv z1)))))), (15, .bool ((nd (zt 1 (nv x1) (nv z2))) == (nd (zt 1 (nv x2) (nv z1))))), (16, .bool ((nd (zt 1 (nv x1) (nv z2))) == (nd (zt 1 (nv x2) (nv z1)))))] 13 [(2, pt bk1), (3, pt bk6), (4, .bool false), (16, .bool ((nd (zt 1 (nv x1) (nv z2))) == (nd (zt 1 (nv x2) (nv z1)))))] (En12.sb) (Hv10.trans (z4 Hv10.heap)) ?_ fun _ _ En548 Hv549 => ?_
  ·
   refine s_p [] ?_
   refine s_a 0 0 4 (zh x1) rfl (by simp [zc hx1, zc hy1, zc hz1, zc ht1, zw, zx]) (zc hx1) ?_
   refine s_p [] ?_
   refine s_a 1 8 4 (zh z2) rfl (by simp [zc hx2, zc hy2, zc hz2, zc ht2, zw, zx]) (zc hz2) ?_
   refine s_f (fun _ => Zv _ x1 z2 hx1 hz2) ?_
   refine s_p [] ?_
   refine s_a 1 0 4 (zh x2) rfl (by simp [zc hx2, zc hy2, zc hz2, zc ht2, zw, zx]) (zc hx2) ?_
   refine s_p [] ?_
   refine s_a 0 8 4 (zh z1) rfl (by simp [zc hx1, zc hy1, zc hz1, zc ht1, zw, zx]) (zc hz1) ?_
   refine s_f (fun _ => Zv _ x2 z1 hx2 hz1) ?_
   refine s_c (fun Mx539 _ _ En542 Hv543 => ?_) ?_
   ·
    refine q_v (x := Xt .eql 34 (.tmp 9) (.tmp 14) (.agg (zi (zh (nd (zt 1 (nv x1) (nv z2)))))) (.agg (zi (zh (nd (zt 1 (nv x2) (nv z1))))))) (v := .bool ((nd (zt 1 (nv x1) (nv z2))) == (nd (zt 1 (nv x2) (nv z1))))) En542 (Go.Dbr.u64s_eqop (a := (.tmp 9)) (b := (.tmp 14)) (e := 32) (m := 4) (by kernel_rfl) (by kernel_rfl) (by kernel_rfl) (by kernel_rfl) (by kernel_rfl) (zl _ _) (zl _ _) _) fun _ En545 => ?_
    exact s_e En545 Hv543
   refine s_p [] ?_
   exact s_n
  have En553 := En548.fx (t := 16) (congrArg Value.bool hb13)
  refine q_a [12,13,14,15,16,17,18,19,20,21,22,23,24] [] 0 En553 fun _ En555 => ?_
  exact a_e ⟨En555.sb, Hv549.pk []⟩
 rintro _ _ ⟨En558, Hv559⟩
 refine zg <| wp_ret <| d_ret1 (t := 4) (v := .bool false) En558 (by kernel_rfl) (by kernel_rfl) ?_
 exact ⟨by simp only [sameN, hb13, Qp, Qx, Xn, Jb], Hv559.pk []⟩

theorem same16_go (w : World) (p q : L4) (hp : p.length = 16) (hq : q.length = 16) : Calls Tryd.prog 24 #[.agg (zi (zh p)), .agg (zi (zh q))] w fun e w' => e = .returned (.bool (sameN (k1 p) (k2 p) (k3 p) (k1 q) (k2 q) (k3 q))) ∧ Ev w [] w' [] := by
  have h := same_go w (p.take 4) ((p.drop 4).take 4) ((p.drop 8).take 4) (p.drop 12) (q.take 4) ((q.drop 4).take 4) ((q.drop 8).take 4) (q.drop 12) (by simp [hp]) (by simp [hp]) (by simp [hp]) (by simp [hp]) (by simp [hq]) (by simp [hq]) (by simp [hq]) (by simp [hq])
  rw [cut16, cut16] at h
  exact h

theorem odd_of (a : Nat) : zj (zb (nd a) 0 0 &&& 1) <<< zF 7 = zF (a % 2) <<< 7 := by
  congr 1
  apply UInt8.toNat_inj.1
  have e : zb (nd a) 0 0 = zd a := rfl
  rw [e, UInt64.toNat_toUInt8, YK, show (1 : UInt64).toNat = 1 from rfl, Nat.and_one_is_mod, ofNat_val, UInt8.toNat_ofNat']
  omega

theorem bytes_go (w : World) (x1 y1 z1 t1 : List UInt64) (hx1 : za x1 = 4) (hy1 : za y1 = 4) (hz1 : za z1 = 4) (ht1 : za t1 = 4) : Calls Tryd.prog 27 #[.agg (zi ((zh x1) ++ ((zh y1) ++ ((zh z1) ++ (zh t1)))))] w fun e w' => e = .returned (.agg (zi (bys (outN (zt 1 (nv x1) (ivE (nv z1))) (zt 1 (nv y1) (ivE (nv z1))))))) ∧ Ev w [] w' [] := by
 refine d_0 [(0, .agg (zi ((zh x1) ++ ((zh y1) ++ ((zh z1) ++ (zh t1))))))] 26 Go.Proofs.Tryd.func27 Go.Proofs.Tryd.ntmps27 (Heap.nil _) fun act0 En0 Hv0 => ?_
 refine wp_seq <| zm <| f_o <| m_m 43 ((zh x1) ++ ((zh y1) ++ ((zh z1) ++ (zh t1)))) En0 Hv0 fun _ _ bk1 En4 Hv5 => ?_
 refine f_o <| m_z 22 (bys (ze 32 0)) En4 Hv5 fun _ _ bk6 En9 Hv10 => ?_
 refine f_e <| zg <| wp_seq <| zm <| d_k [1,2,5] [] 1 En9 fun _ En12 => ?_
 refine f_o <| m_a 0 8 4 (zh z1) En12 Hv10 rfl (by simp [zc hx1, zc hy1, zc hz1, zc ht1, zw, zx]) (zc hz1) fun _ En14 => ?_
 refine f_o <| c_p En14 Hv10 (inv_go _ 1 h1f hM1 z1 hz1) fun _ _ En20 Hv21 => ?_
 refine f_o <| m_z 34 (zh (ze 4 0)) En20 Hv21 fun _ _ bk22 En25 Hv26 => ?_
 refine f_o <| m_g 2 0 4 (zh (nd (z0 1 (nv z1) (mF 1 - 2)))) _ [.box bk1 ((zh x1) ++ ((zh y1) ++ ((zh z1) ++ (zh t1)))) 43, .box bk6 (bys (ze 32 0)) 22, .box bk22 (zh (nd (z0 1 (nv z1) (mF 1 - 2)))) 34] En25 Hv26 rfl (zc (zl _ _)) (by rw [(zc (zf))]; first | decide | (simp; done)) (zv _) (zs (zc (zf))) rfl fun _ _ En29 Hv30 => ?_
 refine f_e <| zg <| wp_seq <| zm <| d_k [1,2,3,8] [] 1 En29 fun _ En32 => ?_
 refine f_o <| m_a 0 4 4 (zh y1) En32 Hv30 rfl (by simp [zc hx1, zc hy1, zc hz1, zc ht1, zw, zx]) (zc hy1) fun _ En34 => ?_
 refine f_o <| m_a 2 0 4 (zh (nd (z0 1 (nv z1) (mF 1 - 2)))) En34 Hv30 rfl (zq (zc (zl _ _))) (zc (zl _ _)) fun _ En36 => ?_
 refine f_o <| c_p En36 Hv30 (Zv _ y1 (nd (z0 1 (nv z1) (mF 1 - 2))) hy1 (zl _ _)) fun _ _ En42 Hv43 => ?_
 refine f_o <| c_p En42 Hv43 (tole_go _ (nd (zt 1 (nv y1) (nv (nd (z0 1 (nv z1) (mF 1 - 2)))))) (zl _ _)) fun _ _ En49 Hv50 => ?_
 refine f_o <| m_z 22 (bys (ze 32 0)) En49 Hv50 fun _ _ bk51 En54 Hv55 => ?_
 refine f_o <| m_g 3 0 32 (bys (lb 32 (nv (nd (zt 1 (nv y1) (nv (nd (z0 1 (nv z1) (mF 1 - 2))))))))) _ [.box bk1 ((zh x1) ++ ((zh y1) ++ ((zh z1) ++ (zh t1)))) 43, .box bk6 (bys (ze 32 0)) 22, .box bk22 (zh (nd (z0 1 (nv z1) (mF 1 - 2)))) 34, .box bk51 (bys (lb 32 (nv (nd (zt 1 (nv y1) (nv (nd (z0 1 (nv z1) (mF 1 - 2))))))))) 22] En54 Hv55 rfl (zC (zG _ _)) (by rw [(zC (zf))]; first | decide | (simp; done)) (bys_one _) (zs (zC (zf))) rfl fun _ _ En58 Hv59 => ?_
 refine f_e <| zg <| wp_seq <| r_c (fun ac wo => Env ac 26 [(1, pt bk1), (2, pt bk6), (3, pt bk22), (4, pt bk51)] ∧ Ev w [] wo [.box bk1 ((zh x1) ++ ((zh y1) ++ ((zh z1) ++ (zh t1)))) 43, .box bk6 (bys (ze 32 0)) 22, .box bk22 (zh (nd (z0 1 (nv z1) (mF 1 - 2)))) 34, .box bk51 (bys (zy (lb 32 (nv (nd (zt 1 (nv y1) (nv (nd (z0 1 (nv z1) (mF 1 - 2)))))))) 31 ((zb (lb 32 (nv (nd (zt 1 (nv y1) (nv (nd (z0 1 (nv z1) (mF 1 - 2)))))))) 31 0) ||| ((zj ((zb (nd (zt 1 (nv x1) (nv (nd (z0 1 (nv z1) (mF 1 - 2)))))) 0 0) &&& (1 : UInt64))) <<< zF 7)))) 22]) ?_ ?_
 ·
  refine s_g0 [(1, pt bk1), (2, pt bk6), (3, pt bk22), (4, pt bk51)] [0,1,2,3,4,5,6,7,8,9,10,11] [(13, .pointer (some ⟨bk51, 31, none⟩)), (14, bv (zb (lb 32 (nv (nd (zt 1 (nv y1) (nv (nd (z0 1 (nv z1) (mF 1 - 2)))))))) 31 0)), (15, pt bk1), (16, .agg (zi (zh x1))), (17, .agg (zi (zh (nd (z0 1 (nv z1) (mF 1 - 2)))))), (18, .agg (zi (zh (nd (zt 1 (nv x1) (nv (nd (z0 1 (nv z1) (mF 1 - 2))))))))), (19, zn (zb (nd (zt 1 (nv x1) (nv (nd (z0 1 (nv z1) (mF 1 - 2)))))) 0 0)), (20, zn ((zb (nd (zt 1 (nv x1) (nv (nd (z0 1 (nv z1) (mF 1 - 2)))))) 0 0) &&& (1 : UInt64))), (21, bv (zj ((zb (nd (zt 1 (nv x1) (nv (nd (z0 1 (nv z1) (mF 1 - 2)))))) 0 0) &&& (1 : UInt64)))), (22, bv ((zj ((zb (nd (zt 1 (nv x1) (nv (nd (z0 1 (nv z1) (mF 1 - 2)))))) 0 0) &&& (1 : UInt64))) <<< zF 7)), (23, bv ((zb (lb 32 (nv (nd (zt 1 (nv y1) (nv (nd (z0 1 (nv z1) (mF 1 - 2)))))))) 31 0) ||| ((zj ((zb (nd (zt 1 (nv x1) (nv (nd (z0 1 (nv z1) (mF 1 - 2)))))) 0 0) &&& (1 : UInt64))) <<< zF 7))), (24, .pointer (some ⟨bk51, 31, none⟩))] 1 [(1, pt bk1), (2, pt bk6), (3, pt bk22), (4, pt bk51), (23, bv ((zb (lb 32 (nv (nd (zt 1 (nv y1) (nv (nd (z0 1 (nv z1) (mF 1 - 2)))))))) 31 0) ||| ((zj ((zb (nd (zt 1 (nv x1) (nv (nd (z0 1 (nv z1) (mF 1 - 2)))))) 0 0) &&& (1 : UInt64))) <<< zF 7))), (24, .pointer (some ⟨bk51, 31, none⟩))] (En58.sb) (Hv59.trans (z4 Hv59.heap)) ?_ fun _ _ En97 Hv98 => ?_
  ·
   refine s_p [] ?_
   refine s_c (fun Mx60 _ _ En63 Hv64 => ?_) ?_
   ·
    have hb65 : 31 < za (lb 32 (nv (nd (zt 1 (nv y1) (nv (nd (z0 1 (nv z1) (mF 1 - 2)))))))) := by rw [(zG _ _)]; omega
    refine m_v 3 31 (bv (zb (lb 32 (nv (nd (zt 1 (nv y1) (nv (nd (z0 1 (nv z1) (mF 1 - 2)))))))) 31 0)) En63 Hv64 rfl (bys_getD hb65) fun _ En67 => ?_
    exact s_e En67 Hv64
   refine s_p [] ?_
   refine s_a 0 0 4 (zh x1) rfl (by simp [zc hx1, zc hy1, zc hz1, zc ht1, zw, zx]) (zc hx1) ?_
   refine s_a 2 0 4 (zh (nd (z0 1 (nv z1) (mF 1 - 2)))) rfl (zq (zc (zl _ _))) (zc (zl _ _)) ?_
   refine s_f (fun _ => Zv _ x1 (nd (z0 1 (nv z1) (mF 1 - 2))) hx1 (zl _ _)) ?_
   have hb87 : 0 < za (nd (zt 1 (nv x1) (nv (nd (z0 1 (nv z1) (mF 1 - 2)))))) := by rw [(zl _ _)]; omega
   refine s_c (fun Mx88 _ _ En91 Hv92 => ?_) ?_
   ·
    refine q_v (x := Instr.index 34 (.agg (zi (zh (nd (zt 1 (nv x1) (nv (nd (z0 1 (nv z1) (mF 1 - 2))))))))) (.int .i64 0)) (v := zn (zb (nd (zt 1 (nv x1) (nv (nd (z0 1 (nv z1) (mF 1 - 2)))))) 0 0)) En91 (Go.Dbr.run_indexval (e := 32) (m := 4) (cs := zh (nd (zt 1 (nv x1) (nv (nd (z0 1 (nv z1) (mF 1 - 2))))))) (j := 0) (v := zn (zb (nd (zt 1 (nv x1) (nv (nd (z0 1 (nv z1) (mF 1 - 2)))))) 0 0)) (by kernel_rfl) (by kernel_rfl) (by kernel_rfl) (by omega) (by omega) (u64s_getD hb87) _) fun _ En94 => ?_
    exact s_e En94 Hv92
   refine s_p [(7, g_i .u64 (Go.Dbr.u64_and (x := zb (nd (zt 1 (nv x1) (nv (nd (z0 1 (nv z1) (mF 1 - 2)))))) 0 0) (y := (1 : UInt64)) rfl rfl))] ?_
   refine s_p [(8, g_i .u8 (Go.Dbr.u64_to_u8 (x := (zb (nd (zt 1 (nv x1) (nv (nd (z0 1 (nv z1) (mF 1 - 2)))))) 0 0) &&& (1 : UInt64)) rfl))] ?_
   refine s_p [(9, g_i .u8 (Go.Dbr.u8_shl (x := zj ((zb (nd (zt 1 (nv x1) (nv (nd (z0 1 (nv z1) (mF 1 - 2)))))) 0 0) &&& (1 : UInt64))) (n := 7) rfl (by decide)))] ?_
   refine s_p [(10, g_i .u8 (Go.Dbr.u8_or (x := zb (lb 32 (nv (nd (zt 1 (nv y1) (nv (nd (z0 1 (nv z1) (mF 1 - 2)))))))) 31 0) (y := (zj ((zb (nd (zt 1 (nv x1) (nv (nd (z0 1 (nv z1) (mF 1 - 2)))))) 0 0) &&& (1 : UInt64))) <<< zF 7) rfl rfl))] ?_
   refine s_p [] ?_
   exact s_n
  refine q_u 12 ?_
  have hb104 : 31 < za (lb 32 (nv (nd (zt 1 (nv y1) (nv (nd (z0 1 (nv z1) (mF 1 - 2)))))))) := by rw [(zG _ _)]; omega
  refine m_t 3 31 (bv ((zb (lb 32 (nv (nd (zt 1 (nv y1) (nv (nd (z0 1 (nv z1) (mF 1 - 2)))))))) 31 0) ||| ((zj ((zb (nd (zt 1 (nv x1) (nv (nd (z0 1 (nv z1) (mF 1 - 2)))))) 0 0) &&& (1 : UInt64))) <<< zF 7))) [.box bk1 ((zh x1) ++ ((zh y1) ++ ((zh z1) ++ (zh t1)))) 43, .box bk6 (bys (ze 32 0)) 22, .box bk22 (zh (nd (z0 1 (nv z1) (mF 1 - 2)))) 34, .box bk51 (bys (zy (lb 32 (nv (nd (zt 1 (nv y1) (nv (nd (z0 1 (nv z1) (mF 1 - 2)))))))) 31 ((zb (lb 32 (nv (nd (zt 1 (nv y1) (nv (nd (z0 1 (nv z1) (mF 1 - 2)))))))) 31 0) ||| ((zj ((zb (nd (zt 1 (nv x1) (nv (nd (z0 1 (nv z1) (mF 1 - 2)))))) 0 0) &&& (1 : UInt64))) <<< zF 7)))) 22] En97 Hv98 rfl (bys_getD hb104) (bys_set _ _ _) rfl fun _ _ En107 Hv108 => ?_
  exact a_e ⟨En107.sb, Hv108.pk [0, 1, 2, 3]⟩
 rintro _ _ ⟨En111, Hv112⟩
 refine zg <| wp_seq <| zm <| f_o <| m_a 3 0 32 (bys (zy (lb 32 (nv (nd (zt 1 (nv y1) (nv (nd (z0 1 (nv z1) (mF 1 - 2)))))))) 31 ((zb (lb 32 (nv (nd (zt 1 (nv y1) (nv (nd (z0 1 (nv z1) (mF 1 - 2)))))))) 31 0) ||| ((zj ((zb (nd (zt 1 (nv x1) (nv (nd (z0 1 (nv z1) (mF 1 - 2)))))) 0 0) &&& (1 : UInt64))) <<< zF 7)))) En111 Hv112 rfl (zq (zC (List.length_set.trans (zG _ _)))) (zC (List.length_set.trans (zG _ _))) fun _ En114 => ?_
 refine f_o <| m_g 1 0 32 (bys (zy (lb 32 (nv (nd (zt 1 (nv y1) (nv (nd (z0 1 (nv z1) (mF 1 - 2)))))))) 31 ((zb (lb 32 (nv (nd (zt 1 (nv y1) (nv (nd (z0 1 (nv z1) (mF 1 - 2)))))))) 31 0) ||| ((zj ((zb (nd (zt 1 (nv x1) (nv (nd (z0 1 (nv z1) (mF 1 - 2)))))) 0 0) &&& (1 : UInt64))) <<< zF 7)))) _ [.box bk1 ((zh x1) ++ ((zh y1) ++ ((zh z1) ++ (zh t1)))) 43, .box bk6 (bys (zy (lb 32 (nv (nd (zt 1 (nv y1) (nv (nd (z0 1 (nv z1) (mF 1 - 2)))))))) 31 ((zb (lb 32 (nv (nd (zt 1 (nv y1) (nv (nd (z0 1 (nv z1) (mF 1 - 2)))))))) 31 0) ||| ((zj ((zb (nd (zt 1 (nv x1) (nv (nd (z0 1 (nv z1) (mF 1 - 2)))))) 0 0) &&& (1 : UInt64))) <<< zF 7)))) 22, .box bk22 (zh (nd (z0 1 (nv z1) (mF 1 - 2)))) 34, .box bk51 (bys (zy (lb 32 (nv (nd (zt 1 (nv y1) (nv (nd (z0 1 (nv z1) (mF 1 - 2)))))))) 31 ((zb (lb 32 (nv (nd (zt 1 (nv y1) (nv (nd (z0 1 (nv z1) (mF 1 - 2)))))))) 31 0) ||| ((zj ((zb (nd (zt 1 (nv x1) (nv (nd (z0 1 (nv z1) (mF 1 - 2)))))) 0 0) &&& (1 : UInt64))) <<< zF 7)))) 22] En114 Hv112 rfl (zC (List.length_set.trans (zG _ _))) (by rw [(zC (zf))]; first | decide | (simp; done)) (bys_one _) (zs (zC (zf))) rfl fun _ _ En117 Hv118 => ?_
 refine f_e <| zg <| wp_ret <| d_cell1 (v := .agg (zi (bys (zy (lb 32 (nv (nd (zt 1 (nv y1) (nv (nd (z0 1 (nv z1) (mF 1 - 2)))))))) 31 ((zb (lb 32 (nv (nd (zt 1 (nv y1) (nv (nd (z0 1 (nv z1) (mF 1 - 2)))))))) 31 0) ||| ((zj ((zb (nd (zt 1 (nv x1) (nv (nd (z0 1 (nv z1) (mF 1 - 2)))))) 0 0) &&& (1 : UInt64))) <<< zF 7)))))) (t := 2) (T := 22) (ad := ⟨bk6, 0, none⟩) En117 (by kernel_rfl) (by kernel_rfl) (Ev.cellAgg (t := 22) (k := 1) (off := 0) (m := 32) (xs := bys (zy (lb 32 (nv (nd (zt 1 (nv y1) (nv (nd (z0 1 (nv z1) (mF 1 - 2)))))))) 31 ((zb (lb 32 (nv (nd (zt 1 (nv y1) (nv (nd (z0 1 (nv z1) (mF 1 - 2)))))))) 31 0) ||| ((zj ((zb (nd (zt 1 (nv x1) (nv (nd (z0 1 (nv z1) (mF 1 - 2)))))) 0 0) &&& (1 : UInt64))) <<< zF 7)))) Hv118 rfl (zq (zC (List.length_set.trans (zG _ _)))) (zC (List.length_set.trans (zG _ _))) (by kernel_rfl) (by kernel_rfl)) ?_
 have e0 : zy (lb 32 (nv (nd (zt 1 (nv y1) (nv (nd (z0 1 (nv z1) (mF 1 - 2)))))))) 31 ((zb (lb 32 (nv (nd (zt 1 (nv y1) (nv (nd (z0 1 (nv z1) (mF 1 - 2)))))))) 31 0) ||| ((zj ((zb (nd (zt 1 (nv x1) (nv (nd (z0 1 (nv z1) (mF 1 - 2)))))) 0 0) &&& (1 : UInt64))) <<< zF 7)) = outN (zt 1 (nv x1) (ivE (nv z1))) (zt 1 (nv y1) (ivE (nv z1))) := by
  simp only [nv_m1, nv_iv, odd_of, outN]
 exact ⟨congrArg (fun l : List UInt8 => Ending.returned (Value.agg (bys l).toArray)) e0, Hv118.pk []⟩

theorem bytes16_go (w : World) (p : L4) (hp : p.length = 16) : Calls Tryd.prog 27 #[.agg (zi (zh p))] w fun e w' => e = .returned (.agg (zi (bys (outN (zt 1 (k1 p) (ivE (k3 p))) (zt 1 (k2 p) (ivE (k3 p))))))) ∧ Ev w [] w' [] := by
  have h := bytes_go w (p.take 4) ((p.drop 4).take 4) ((p.drop 8).take 4) (p.drop 12) (by simp [hp]) (by simp [hp]) (by simp [hp]) (by simp [hp]) 
  rw [cut16] at h
  exact h

end Go.Proofs.YtlnogkmnklfjlaaDoor
