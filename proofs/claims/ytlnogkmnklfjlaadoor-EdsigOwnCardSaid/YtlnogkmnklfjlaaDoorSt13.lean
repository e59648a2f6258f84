import Derived.Test.YtlnogkmnklfjlaaDoorSt12
import Derived.Test.YtlnogkmnklfjlaaDoorRows
import Derived.Test.YtlnogkmnklfjlaaDoorSt9
import Derived.Deep.DeepHandedRow
import Derived.Lib.LaidTab
import Derived.Stop.LaidErr
open List renaming length → za, getD → zb, replicate → ze, length_replicate → zf, toArray → zi, take → zk, length_take → zp, set → zy, getElem?_eq_getElem → zT, length_append → zU, getElem?_eq_some_iff → z6, getElem?_take → Zy, length_set → ZI, getElem?_eq_none → ZZ, ext_getElem? → QN, getElem?_set → Xx
open Go.Dbr renaming u64s_lenh → zc, then_normal → zg, u64s → zh, region_from → zm, load_whole → zq, store_whole → zs, block_normal → zA, bys_lenh → zC, then_exit → zI, block_exit → z9, bys_one → ZD, bys_getD → Qa
open Go.Proofs.YtlnogkmnklfjlaaDoor renaming nds_len → zl, puE_len → zE, lb_len → zG, siE_len → Q7, zS_ltM → XE
open UInt8 renaming toNat → Zn
open Nat renaming mul_le_mul_right → ZJ, le_refl → ZK, zero_add → Z3, succ_mul → Xw
/- Layer 12: what the statements ask, walked: strict. -/

namespace Go.Proofs.YtlnogkmnklfjlaaDoor
open Go.Dbr
set_option maxRecDepth 100000
set_option maxHeartbeats 2000000
set_option linter.unusedVariables false
set_option linter.unusedSimpArgs false

/-- the second half, taken; another half, put -/
def cpF (s : List UInt8) : Nat → List UInt8
  | 0 => ze 32 0
  | i + 1 => zy (cpF s i) i (zb s (32 + i) 0)
def ptF (s b : List UInt8) : Nat → List UInt8
  | 0 => s
  | i + 1 => zy (ptF s b i) (32 + i) (zb b i 0)
theorem cpF_len (s : List UInt8) : ∀ i, (cpF s i).length = 32
  | 0 => zf
  | i + 1 => by rw [cpF, ZI, cpF_len s i]
theorem ptF_len {s : List UInt8} (h : s.length = 64) (b : List UInt8) : ∀ i, (ptF s b i).length = 64
  | 0 => h
  | i + 1 => by rw [ptF, ZI, ptF_len h b i]
theorem getD_at {l : List UInt8} {i : Nat} (h : i < l.length) : l[i]? = some (zb l i 0) := by
  rw [List.getD_eq_getElem?_getD, zT h]
  rfl
theorem cpF_at {s : List UInt8} (h : s.length = 64) : ∀ i, i ≤ 32 → ∀ j, j < i → (cpF s i)[j]? = s[32 + j]?
  | 0, _, j, hj => absurd hj (by omega)
  | i + 1, hi, j, hj => by
    rw [cpF, Xx]
    split
    · rename_i e
      subst e
      rw [if_pos (by rw [cpF_len]; omega), getD_at (by omega)]
    · exact cpF_at h i (by omega) j (by omega)
theorem cp_all {s : List UInt8} (h : s.length = 64) : cpF s 32 = hS s := by
  refine QN fun j => ?_
  rw [hS, Zy]
  split
  · rename_i hj
    rw [cpF_at h 32 (ZK _) j hj, List.getElem?_drop]
  · rw [ZZ (by rw [cpF_len]; omega)]
theorem ptF_at {s b : List UInt8} (h : s.length = 64) (hb : b.length = 32) : ∀ i, i ≤ 32 → ∀ j, (ptF s b i)[j]? = if 32 ≤ j ∧ j < 32 + i then b[j - 32]? else s[j]?
  | 0, _, j => by rw [ptF, if_neg (by omega)]
  | i + 1, hi, j => by
    rw [ptF, Xx]
    split
    · rename_i e
      subst e
      rw [if_pos (by rw [ptF_len h]; omega), if_pos (by omega), ← getD_at (by omega), Nat.add_sub_cancel_left]
    · rename_i e
      rw [ptF_at h hb i (by omega) j]
      split
      · rw [if_pos (by omega)]
      · rw [if_neg (by omega)]
theorem pt_all {s b : List UInt8} (h : s.length = 64) (hb : b.length = 32) : ptF s b 32 = zk 32 s ++ b := by
  refine QN fun j => ?_
  have hl : (zk 32 s).length = 32 := by rw [zp, h]; rfl
  rw [ptF_at h hb 32 (ZK _) j]
  split
  · rw [List.getElem?_append_right (by omega), hl]
  · by_cases g : j < 32
    · rw [List.getElem?_append_left (by omega), Zy, if_pos g]
    · rw [ZZ (by omega), ZZ (by rw [zU]; omega)]
theorem nine : 9 * mF 4 < W256 := by decide
theorem step_lt {v q : Nat} (hv : v < mF 4) (hq : q ≤ 8) : v + q * mF 4 < W256 := by
  have h1 : q * mF 4 ≤ 8 * mF 4 := ZJ _ hq
  have := nine
  omega
theorem plus_step (w : World) {v q : Nat} (hv : v < mF 4) (hq : q < 8) : Calls Tryd.prog 13 #[.agg (zi (zh (nd (v + q * mF 4)))), .agg (zi (zh (nd (mF 4))))] w fun e w' => e = .returned (.tuple #[.agg (zi (zh (nd (v + (q + 1) * mF 4)))), .int .u64 0]) ∧ Ev w [] w' [] := by
  have h := rplus_go w (nd (v + q * mF 4)) (nd (mF 4)) (zl _ _) (zl _ _)
  have h0 : v + q * mF 4 + mF 4 < W256 := by
    have := step_lt hv (show q + 1 ≤ 8 by omega)
    rw [Xw] at this
    omega
  rw [nv_nd (step_lt hv (Nat.le_of_lt hq)), nv_mF, u1, if_neg (by omega)] at h
  rw [Xw, ← Nat.add_assoc]
  exact h
theorem verY_go (w : World) (sd : List UInt8) (am : Option Addr) (nm cm : Nat) (lm : List UInt8) (em : nm = za lm) (im : InB w [] am cm lm) (gk32 : InU32 w [] (some ⟨0, 0, none⟩) 64 Sh.K32) (gk64 : InU64 w [] (some ⟨1, 0, none⟩) 80 Sh.K64) : Calls Tryd.prog 9 #[.agg (zi (bys (puE (sE sd)))), .slice am nm cm, .agg (zi (bys (siE sd lm)))] w fun e w' => e = .returned (.bool true) ∧ Ev w [] w' [] := by
  have h := verify_go w (puE (sE sd)) (zE _) am nm cm lm em im (siE sd lm) (Q7 _ _) gk32 gk64
  rw [own_ver] at h
  exact h
theorem verN_go (w : World) (pb : List UInt8) (hpb : pb.length = 32) (am : Option Addr) (nm cm : Nat) (lm : List UInt8) (em : nm = za lm) (im : InB w [] am cm lm) (sg : List UInt8) (hsg : sg.length = 64) (hn : ¬ lv (hS sg) < mF 4) (gk32 : InU32 w [] (some ⟨0, 0, none⟩) 64 Sh.K32) (gk64 : InU64 w [] (some ⟨1, 0, none⟩) 80 Sh.K64) : Calls Tryd.prog 9 #[.agg (zi (bys pb)), .slice am nm cm, .agg (zi (bys sg))] w fun e w' => e = .returned (.bool false) ∧ Ev w [] w' [] := by
  have h := verify_go w pb hpb am nm cm lm em im sg hsg gk32 gk64
  rw [ver_no3 hn] at h
  exact h
theorem pointY_go (w : World) (n : Nat) : Calls Tryd.prog 7 #[.agg (zi (bys (puE n)))] w fun e w' => e = .returned (.bool true) ∧ Ev w [] w' [] := by
  have h := point_go w (puE n) (zE _)
  rw [pu_is] at h
  exact h
theorem strict_no {v q : Nat} {r : List UInt8} (hr : r.length = 32) (hv : v < mF 4) (h1 : 1 ≤ q) (h8 : q ≤ 8) : ¬ lv (hS (r ++ lb 32 (v + q * mF 4))) < mF 4 := by
  rw [half2 hr (zG _ _), lb_val, Nat.mod_eq_of_lt (show v + q * mF 4 < 256 ^ 32 from step_lt hv h8)]
  have := ZJ (mF 4) h1
  omega

theorem strict_walk (sd : List UInt8) (a_m : Option Addr) (c_m : Nat) (m : List UInt8) (h : UInt8) (w : World) (n_sd : (za sd = 32)) (i_m : InB w [] a_m c_m m) (gk32 : InU32 w [] (some ⟨0, 0, none⟩) 64 Sh.K32) (gk64 : InU64 w [] (some ⟨1, 0, none⟩) 80 Sh.K64) : Calls Tryd.prog 5 #[.agg (zi (bys sd)), .slice a_m (za m) c_m, bv h] w fun e w' => e = .returned (.bool true) ∧ Ev w [] w' [] := by
 have hs := i_m.small
 have hc2 := i_m.cap
 refine d_0 [(0, .agg (zi (bys sd))), (1, .slice a_m (za m) c_m), (2, bv h)] 88 Go.Proofs.Tryd.func5 Go.Proofs.Tryd.ntmps5 (Heap.nil _) fun act0 En0 Hv0 => ?_
 refine wp_seq <| zm <| f_o <| m_m 22 (bys sd) En0 Hv0 fun _ _ bk1 En4 Hv5 => ?_
 refine d_e [1,2,3,6] [] En4 fun _ En7 => ?_
 refine zg <| wp_seq <| zm <| f_o <| c_p En7 Hv5 (head_ok _ ((gk32.ev Hv5).pick [] (by kernel_rfl)) ((gk64.ev Hv5).pick [] (by kernel_rfl))) fun _ _ En13 Hv14 => ?_
 refine d_e [1,2,3,6,7] [] En13 fun _ En16 => ?_
 refine zg <| wp_seq <| zm <| f_o <| m_a 0 0 32 (bys sd) En16 Hv14 rfl (zq (zC n_sd)) (zC n_sd) fun _ En18 => ?_
 refine f_o <| c_p En18 Hv14 (public_go _ sd n_sd ((gk32.ev Hv14).pick [] (by kernel_rfl)) ((gk64.ev Hv14).pick [] (by kernel_rfl))) fun _ _ En24 Hv25 => ?_
 refine f_o <| m_z 22 (bys (ze 32 0)) En24 Hv25 fun _ _ bk26 En29 Hv30 => ?_
 refine f_o <| m_g 1 0 32 (bys (puE (sE sd))) _ [.box bk1 (bys sd) 22, .box bk26 (bys (puE (sE sd))) 22] En29 Hv30 rfl (zC (zE _)) (by rw [(zC (zf))]; first | decide | (simp; done)) (ZD _) (zs (zC (zf))) rfl fun _ _ En33 Hv34 => ?_
 refine f_e <| zg <| wp_seq <| zm <| f_o <| m_a 0 0 32 (bys sd) En33 Hv34 rfl (zq (zC n_sd)) (zC n_sd) fun _ En36 => ?_
 refine d_k [1,2,3,6,7,8,22,23] [] 2 En36 fun _ En38 => ?_
 refine f_o <| c_p En38 Hv34 (sign_go _ sd n_sd a_m (za m) c_m m (by first | rfl | (simp; done) | (simp; omega) | omega) ((i_m.ev Hv34).pick [] (by kernel_rfl)) ((gk32.ev Hv34).pick [] (by kernel_rfl)) ((gk64.ev Hv34).pick [] (by kernel_rfl))) fun _ _ En44 Hv45 => ?_
 refine f_o <| m_z 29 (bys (ze 64 0)) En44 Hv45 fun _ _ bk46 En49 Hv50 => ?_
 refine f_o <| m_g 2 0 64 (bys (siE sd m)) _ [.box bk1 (bys sd) 22, .box bk26 (bys (puE (sE sd))) 22, .box bk46 (bys (siE sd m)) 29] En49 Hv50 rfl (zC (Q7 _ _)) (by rw [(zC (zf))]; first | decide | (simp; done)) (ZD _) (zs (zC (zf))) rfl fun _ _ En53 Hv54 => ?_
 refine f_e <| zg <| wp_seq <| zm <| f_o <| m_z 22 (bys (ze 32 0)) En53 Hv54 fun _ _ bk55 En58 Hv59 => ?_
 refine f_e <| zg <| wp_seq <| wp_seq <| d_r [1,2,3,6,7,8,9,10,11] [] En58 fun _ En61 => ?_
 refine zg <| wp_block <| loop_m (fun ms62 ac wo => ∃ (i : Nat) (cl : List UInt8), ms62 = (32 - i : Nat) ∧ Env ac 88 [(1, .slice a_m (za m) c_m), (2, bv h), (3, pt bk1), (6, .bool false), (7, .bool true), (8, pt bk26), (9, pt bk46), (10, pt bk55), (11, ni i)] ∧ Ev w [] wo [.box bk55 (bys cl) 22, .box bk1 (bys sd) 22, .box bk26 (bys (puE (sE sd))) 22, .box bk46 (bys (siE sd m)) 29] ∧ (i ≤ 32) ∧ (za cl = 32) ∧ (cl = cpF (siE sd m) i)) ⟨_, 0, ze 32 0, rfl, En61.sb, Hv59.pk [3, 0, 1, 2], by omega, (zf), rfl⟩ ?_
 rintro mm68 _ _ ⟨i, cl, rfl, En66, Hv67, hicl, hlcl, hecl⟩
 refine wp_seq <| wp_seq <| d_r [1,2,3,6,7,8,9,10,11,26] [] En66 fun _ En70 => ?_
 refine zg <| c_d (((i : Nat) : Int) < (32 : Int)) En70 (fun hc71 => ?_) (fun hc71 => ?_)
 ·
  refine wp_skip <| zg <| wp_seq <| wp_block <| zm <| d_k [1,2,3,6,7,8,9,10,11,29,31] [(2, g_n (w_a 32 i))] 3 En70 fun _ En73 => ?_
  refine f_o <| q_v (x := Instr.indexAt 29 (pt bk46) (ni (32 + i))) (v := .pointer (some ⟨bk46, 32 + i, none⟩)) En73 (Go.Dbr.run_indexarr (e := 5) (sz := 1) (m := 64) (j := 32 + i) (o := 32 + i) (by kernel_rfl) (by kernel_rfl) (by omega) (by omega) (by omega) _) fun _ En75 => ?_
  refine f_o ?_
  have hb76 : 32 + i < za (siE sd m) := by rw [(Q7 _ _)]; omega
  refine m_v 3 (32 + i) (bv (zb (siE sd m) (32 + i) 0)) En75 Hv67 rfl (Qa hb76) fun _ En78 => ?_
  refine f_o <| q_v (x := Instr.indexAt 22 (pt bk55) (ni i)) (v := .pointer (some ⟨bk55, i, none⟩)) En78 (Go.Dbr.run_indexarr (e := 5) (sz := 1) (m := 32) (j := i) (o := i) (by kernel_rfl) (by kernel_rfl) (by omega) (by omega) (by omega) _) fun _ En80 => ?_
  refine f_o ?_
  have hb81 : i < za cl := by rw [hlcl]; omega
  refine m_t 0 i (bv (zb (siE sd m) (32 + i) 0)) [.box bk55 (bys (zy cl i (zb (siE sd m) (32 + i) 0))) 22, .box bk1 (bys sd) 22, .box bk26 (bys (puE (sE sd))) 22, .box bk46 (bys (siE sd m)) 29] En80 Hv67 rfl (Qa hb81) (bys_set _ _ _) rfl fun _ _ En84 Hv85 => ?_
  refine f_e <| zA <| zg <| d_r [1,2,3,6,7,8,9,10,11] [(1, g_n (w_a i 1))] En84 fun _ En87 => ?_
  refine zg <| ⟨_, ⟨i + 1, (zy cl i (zb (siE sd m) (32 + i) 0)), rfl, En87.sb, Hv85.pk [0, 1, 2, 3], by omega, (List.length_set.trans hlcl), by first | (rw [hecl]; rfl) | (rw [hecl, hc2]; rfl) | rfl⟩, ?_⟩
  omega
 refine wp_exit <| zI <| zI <| z9 <| zg <| wp_seq ?_
 have hncl : i = 32 := by omega
 have hfcl : cl = cpF (siE sd m) 32 := by rw [hecl, hncl] <;> rfl
 rw [show cl = (cpF (siE sd m) 32) from hfcl] at Hv67
 rw [show (cpF (siE sd m) 32) = (lb 32 (zS sd m)) from ((cp_all (Q7 _ _)).trans (si_drop _ _))] at Hv67
 refine zm <| f_o <| m_a 0 0 32 (bys (lb 32 (zS sd m))) En70 Hv67 rfl (zq (zC (zG _ _))) (zC (zG _ _)) fun _ En89 => ?_
 refine f_o <| c_p En89 Hv67 (rfromle_go _ (lb 32 (zS sd m)) (zG _ _)) fun _ _ En95 Hv96 => ?_
 refine f_o <| m_z 34 (zh (ze 4 0)) En95 Hv96 fun _ _ bk97 En100 Hv101 => ?_
 refine f_o <| m_g 4 0 4 (zh (nd (lv (lb 32 (zS sd m))))) _ [.box bk55 (bys (lb 32 (zS sd m))) 22, .box bk1 (bys sd) 22, .box bk26 (bys (puE (sE sd))) 22, .box bk46 (bys (siE sd m)) 29, .box bk97 (zh (nd (lv (lb 32 (zS sd m))))) 34] En100 Hv101 rfl (zc (zl _ _)) (by rw [(zc (zf))]; first | decide | (simp; done)) (u64s_one _) (zs (zc (zf))) rfl fun _ _ En104 Hv105 => ?_
 refine f_e <| zg <| wp_seq ?_
 rw [show (nd (lv (lb 32 (zS sd m)))) = (nd (zS sd m)) from (congrArg nd (lvM (XE _ _)))] at Hv105
 refine d_r [1,2,3,6,7,8,9,10,11,12,13] [] En104 fun _ En107 => ?_
 refine zg <| wp_seq <| wp_seq <| d_r [1,2,3,6,7,8,9,10,11,12,13,14] [] En107 fun _ En109 => ?_
 refine zg <| wp_block ?_
 have hz0 : nd (zS sd m) = nd (zS sd m + 0 * mF 4) := by rw [Nat.zero_mul, Nat.add_zero]
 rw [hz0] at Hv105
 have hm8 : (Zn (h % 8)) < 8 := by have := h.toNat_lt; rw [UInt8.toNat_mod]; show h.toNat % 8 < 8; omega
 refine loop_m (fun ms110 ac wo => ∃ (q : Nat), ms110 = (Zn (h % 8) + 1 - q : Nat) ∧ Env ac 88 [(1, .slice a_m (za m) c_m), (2, bv h), (3, pt bk1), (6, .bool false), (7, .bool true), (8, pt bk26), (9, pt bk46), (10, pt bk55), (11, ni i), (12, pt bk97), (13, .int .u64 0), (14, ni q)] ∧ Ev w [] wo [.box bk97 (zh (nd (zS sd m + q * mF 4))) 34, .box bk55 (bys (lb 32 (zS sd m))) 22, .box bk1 (bys sd) 22, .box bk26 (bys (puE (sE sd))) 22, .box bk46 (bys (siE sd m)) 29] ∧ (q ≤ Zn (h % 8) + 1)) ⟨_, 0, rfl, En109.sb, Hv105.pk [4, 0, 1, 2, 3], by omega⟩ ?_
 rintro mm116 _ _ ⟨q, rfl, En114, Hv115, hq⟩
 refine wp_seq <| wp_seq <| d_r [1,2,3,6,7,8,9,10,11,12,13,14,41] [(2, g_i .u8 (Go.Dbr.u8_rem (x := h) (y := (8 : UInt8)) rfl rfl)), (3, g_i .i64 (Go.Dbr.u8_to_i64 (x := h % (8 : UInt8)) rfl))] En114 fun _ En118 => ?_
 refine zg <| c_d (((q : Nat) : Int) ≤ ((Zn (h % (8 : UInt8)) : Nat) : Int)) En118 (fun hc119 => ?_) (fun hc119 => ?_)
 ·
  refine wp_skip <| zg <| wp_seq <| wp_block <| wp_seq <| d_r [1,2,3,6,7,8,9,10,11,12,13,14,15] [] En118 fun _ En121 => ?_
  refine zg <| wp_seq <| r_c (fun ac wo => Env ac 88 [(1, .slice a_m (za m) c_m), (2, bv h), (3, pt bk1), (6, .bool false), (7, .bool true), (8, pt bk26), (9, pt bk46), (10, pt bk55), (11, ni i), (12, pt bk97), (13, .int .u64 0), (14, ni q), (15, .int .u64 0)] ∧ Ev w [] wo [.box bk97 (zh (nd (zS sd m + (q + 1) * mF 4))) 34, .box bk55 (bys (lb 32 (zS sd m))) 22, .box bk1 (bys sd) 22, .box bk26 (bys (puE (sE sd))) 22, .box bk46 (bys (siE sd m)) 29]) ?_ ?_
  ·
   refine h_s (fun wv => Ev w [] wv [.box bk97 (zh (nd (zS sd m + q * mF 4))) 34]) [6] 8 ?_
   have wo122 := Hv115.trans (Ev.drew Hv115.heap)
   refine q_r 0 (s := Instr.loadAt 34 (pt bk97)) (v := .agg (zi (zh (nd (zS sd m + q * mF 4))))) En121 (fun w hS => run_loadAgg2 (m := 4) (cs := zh (nd (zS sd m + q * mF 4))) (zc (zl _ _)) (by kernel_rfl) (by kernel_rfl) (hS.heap.cells (k := 0) (off := 0) (m := 4) rfl (zq (zc (zl _ _))))) (wo122.pk [0]) fun _ En196 => ?_
   refine q_t 1 ?_
   refine c_p En196 wo122 (rmodulus_go _ 4) fun _ _ En202 Hv203 => ?_
   refine ⟨fun _ => Hv203.pk [0], ?_⟩
   refine q_t 2 ?_
   refine c_p En202 Hv203 (plus_step _ (v := zS sd m) (q := q) (XE sd m) (show q < 8 by omega)) fun _ _ En209 Hv210 => ?_
   refine ⟨fun _ => Hv210.pk [0], ?_⟩
   refine q_s [3,4,5] [] 2 En209 (Hv210.pk [0]) fun _ En212 => ?_
   refine q_t 6 ?_
   refine m_g 0 0 4 (zh (nd (zS sd m + (q + 1) * mF 4))) _ [.box bk97 (zh (nd (zS sd m + (q + 1) * mF 4))) 34, .box bk55 (bys (lb 32 (zS sd m))) 22, .box bk1 (bys sd) 22, .box bk26 (bys (puE (sE sd))) 22, .box bk46 (bys (siE sd m)) 29] En212 Hv210 rfl (zc (zl _ _)) (by rw [(zc (zl _ _))]; first | decide | (simp; done)) (u64s_one _) (zs (zc (zl _ _))) rfl fun _ _ En215 Hv216 => ?_
   refine ⟨q_y, ?_⟩
   refine q_n [7] [] 0 En215 fun _ En218 => ?_
   exact h_e ⟨En218.sb, Hv216.pk [0, 1, 2, 3, 4]⟩
  rintro _ _ ⟨En221, Hv222⟩
  refine zg <| d_r [1,2,3,6,7,8,9,10,11,12,13,14] [(2, g_i .u64 (show (IntKind.wrap .u64 ((0 : Int) + (0 : Int)) : Int) = 0 from rfl))] En221 fun _ En224 => ?_
  refine zA <| zg <| d_r [1,2,3,6,7,8,9,10,11,12,13,14] [(1, g_n (w_a q 1))] En224 fun _ En226 => ?_
  refine zg <| ⟨_, ⟨q + 1, rfl, En226.sb, Hv222.pk [0, 1, 2, 3, 4], by omega⟩, ?_⟩
  omega
 refine wp_exit <| zI <| zI <| z9 <| zg <| wp_seq ?_
 have hq1 : 1 ≤ q := by omega
 refine zm <| f_o <| m_a 0 0 4 (zh (nd (zS sd m + q * mF 4))) En118 Hv115 rfl (zq (zc (zl _ _))) (zc (zl _ _)) fun _ En228 => ?_
 refine f_o <| c_p En228 Hv115 (rtole_go _ (nd (zS sd m + q * mF 4)) (zl _ _)) fun _ _ En234 Hv235 => ?_
 refine f_o <| m_z 22 (bys (ze 32 0)) En234 Hv235 fun _ _ bk236 En239 Hv240 => ?_
 refine f_o <| m_g 5 0 32 (bys (lb 32 (nv (nd (zS sd m + q * mF 4))))) _ [.box bk97 (zh (nd (zS sd m + q * mF 4))) 34, .box bk55 (bys (lb 32 (zS sd m))) 22, .box bk1 (bys sd) 22, .box bk26 (bys (puE (sE sd))) 22, .box bk46 (bys (siE sd m)) 29, .box bk236 (bys (lb 32 (nv (nd (zS sd m + q * mF 4))))) 22] En239 Hv240 rfl (zC (zG _ _)) (by rw [(zC (zf))]; first | decide | (simp; done)) (ZD _) (zs (zC (zf))) rfl fun _ _ En243 Hv244 => ?_
 refine f_e <| zg <| wp_seq ?_
 rw [show (lb 32 (nv (nd (zS sd m + q * mF 4)))) = (lb 32 (zS sd m + q * mF 4)) from (congrArg (lb 32) (nv_nd (step_lt (XE _ _) (by omega))))] at Hv244
 refine zm <| f_o <| m_a 4 0 64 (bys (siE sd m)) En243 Hv244 rfl (zq (zC (Q7 _ _))) (zC (Q7 _ _)) fun _ En246 => ?_
 refine f_o <| m_z 29 (bys (ze 64 0)) En246 Hv244 fun _ _ bk247 En250 Hv251 => ?_
 refine f_o <| m_g 6 0 64 (bys (siE sd m)) _ [.box bk97 (zh (nd (zS sd m + q * mF 4))) 34, .box bk55 (bys (lb 32 (zS sd m))) 22, .box bk1 (bys sd) 22, .box bk26 (bys (puE (sE sd))) 22, .box bk46 (bys (siE sd m)) 29, .box bk236 (bys (lb 32 (zS sd m + q * mF 4))) 22, .box bk247 (bys (siE sd m)) 29] En250 Hv251 rfl (zC (Q7 _ _)) (by rw [(zC (zf))]; first | decide | (simp; done)) (ZD _) (zs (zC (zf))) rfl fun _ _ En254 Hv255 => ?_
 refine f_e <| zg <| wp_seq <| wp_seq <| d_r [1,2,3,6,7,8,9,10,11,12,13,14,16,17,18] [] En254 fun _ En257 => ?_
 refine zg <| wp_block <| loop_m (fun ms258 ac wo => ∃ (j : Nat) (dl : List UInt8), ms258 = (32 - j : Nat) ∧ Env ac 88 [(1, .slice a_m (za m) c_m), (2, bv h), (3, pt bk1), (6, .bool false), (7, .bool true), (8, pt bk26), (9, pt bk46), (10, pt bk55), (11, ni i), (12, pt bk97), (13, .int .u64 0), (14, ni q), (16, pt bk236), (17, pt bk247), (18, ni j)] ∧ Ev w [] wo [.box bk247 (bys dl) 29, .box bk97 (zh (nd (zS sd m + q * mF 4))) 34, .box bk55 (bys (lb 32 (zS sd m))) 22, .box bk1 (bys sd) 22, .box bk26 (bys (puE (sE sd))) 22, .box bk46 (bys (siE sd m)) 29, .box bk236 (bys (lb 32 (zS sd m + q * mF 4))) 22] ∧ (j ≤ 32) ∧ (za dl = 64) ∧ (dl = ptF (siE sd m) (lb 32 (zS sd m + q * mF 4)) j)) ⟨_, 0, siE sd m, rfl, En257.sb, Hv255.pk [6, 0, 1, 2, 3, 4, 5], by omega, (Q7 _ _), rfl⟩ ?_
 rintro mm264 _ _ ⟨j, dl, rfl, En262, Hv263, hidl, hldl, hedl⟩
 refine wp_seq <| wp_seq <| d_r [1,2,3,6,7,8,9,10,11,12,13,14,16,17,18,57] [] En262 fun _ En266 => ?_
 refine zg <| c_d (((j : Nat) : Int) < (32 : Int)) En266 (fun hc267 => ?_) (fun hc267 => ?_)
 ·
  refine wp_skip <| zg <| wp_seq <| wp_block <| zm <| d_k [1,2,3,6,7,8,9,10,11,12,13,14,16,17,18,61,62] [(1, g_n (w_a 32 j))] 3 En266 fun _ En269 => ?_
  refine f_o <| q_v (x := Instr.indexAt 22 (pt bk236) (ni j)) (v := .pointer (some ⟨bk236, j, none⟩)) En269 (Go.Dbr.run_indexarr (e := 5) (sz := 1) (m := 32) (j := j) (o := j) (by kernel_rfl) (by kernel_rfl) (by omega) (by omega) (by omega) _) fun _ En271 => ?_
  refine f_o ?_
  have hb272 : j < za (lb 32 (zS sd m + q * mF 4)) := by rw [(zG _ _)]; omega
  refine m_v 6 j (bv (zb (lb 32 (zS sd m + q * mF 4)) j 0)) En271 Hv263 rfl (Qa hb272) fun _ En274 => ?_
  refine f_o <| q_v (x := Instr.indexAt 29 (pt bk247) (ni (32 + j))) (v := .pointer (some ⟨bk247, 32 + j, none⟩)) En274 (Go.Dbr.run_indexarr (e := 5) (sz := 1) (m := 64) (j := 32 + j) (o := 32 + j) (by kernel_rfl) (by kernel_rfl) (by omega) (by omega) (by omega) _) fun _ En276 => ?_
  refine f_o ?_
  have hb277 : 32 + j < za dl := by rw [hldl]; omega
  refine m_t 0 (32 + j) (bv (zb (lb 32 (zS sd m + q * mF 4)) j 0)) [.box bk247 (bys (zy dl (32 + j) (zb (lb 32 (zS sd m + q * mF 4)) j 0))) 29, .box bk97 (zh (nd (zS sd m + q * mF 4))) 34, .box bk55 (bys (lb 32 (zS sd m))) 22, .box bk1 (bys sd) 22, .box bk26 (bys (puE (sE sd))) 22, .box bk46 (bys (siE sd m)) 29, .box bk236 (bys (lb 32 (zS sd m + q * mF 4))) 22] En276 Hv263 rfl (Qa hb277) (bys_set _ _ _) rfl fun _ _ En280 Hv281 => ?_
  refine f_e <| zA <| zg <| d_r [1,2,3,6,7,8,9,10,11,12,13,14,16,17,18] [(1, g_n (w_a j 1))] En280 fun _ En283 => ?_
  refine zg <| ⟨_, ⟨j + 1, (zy dl (32 + j) (zb (lb 32 (zS sd m + q * mF 4)) j 0)), rfl, En283.sb, Hv281.pk [0, 1, 2, 3, 4, 5, 6], by omega, (List.length_set.trans hldl), by first | (rw [hedl]; rfl) | (rw [hedl, hc2]; rfl) | rfl⟩, ?_⟩
  omega
 refine wp_exit <| zI <| zI <| z9 <| zg <| wp_seq ?_
 have hndl : j = 32 := by omega
 have hfdl : dl = ptF (siE sd m) (lb 32 (zS sd m + q * mF 4)) 32 := by rw [hedl, hndl] <;> rfl
 rw [show dl = (ptF (siE sd m) (lb 32 (zS sd m + q * mF 4)) 32) from hfdl] at Hv263
 rw [show (ptF (siE sd m) (lb 32 (zS sd m + q * mF 4)) 32) = (zk 32 (siE sd m) ++ lb 32 (zS sd m + q * mF 4)) from (pt_all (Q7 _ _) (zG _ _))] at Hv263
 refine zm <| d_k [1,2,3,6,8,9,10,11,12,13,14,16,17,18,67] [] 2 En266 fun _ En285 => ?_
 refine f_o <| m_a 4 0 32 (bys (puE (sE sd))) En285 Hv263 rfl (zq (zC (zE _))) (zC (zE _)) fun _ En287 => ?_
 refine d_k [1,2,3,6,8,9,10,11,12,13,14,16,17,18,67,68,69] [] 4 En287 fun _ En289 => ?_
 refine f_o <| m_a 5 0 64 (bys (siE sd m)) En289 Hv263 rfl (zq (zC (Q7 _ _))) (zC (Q7 _ _)) fun _ En291 => ?_
 refine f_o <| c_p En291 Hv263 (verY_go _ sd a_m (za m) c_m m (by first | rfl | (simp; done) | (simp; omega) | omega) ((i_m.ev Hv263).pick [] (by kernel_rfl)) ((gk32.ev Hv263).pick [] (by kernel_rfl)) ((gk64.ev Hv263).pick [] (by kernel_rfl))) fun _ _ En297 Hv298 => ?_
 refine d_k [1,2,3,6,8,9,10,11,12,13,14,16,17,18,77] [] 12 En297 fun _ En300 => ?_
 refine f_o <| m_a 4 0 32 (bys (puE (sE sd))) En300 Hv298 rfl (zq (zC (zE _))) (zC (zE _)) fun _ En302 => ?_
 refine d_k [1,2,3,6,8,9,10,11,12,13,14,16,17,18,77,78,79] [] 14 En302 fun _ En304 => ?_
 refine f_o <| m_a 0 0 64 (bys (zk 32 (siE sd m) ++ lb 32 (zS sd m + q * mF 4))) En304 Hv298 rfl (zq (zC (by rw [zU, zp, Q7, zG]; rfl))) (zC (by rw [zU, zp, Q7, zG]; rfl)) fun _ En306 => ?_
 refine f_o <| c_p En306 Hv298 (verN_go _ (puE (sE sd)) (zE _) a_m (za m) c_m m (by first | rfl | (simp; done) | (simp; omega) | omega) ((i_m.ev Hv298).pick [] (by kernel_rfl)) (zk 32 (siE sd m) ++ lb 32 (zS sd m + q * mF 4)) (by rw [zU, zp, Q7, zG]; rfl) (strict_no (by rw [zp, Q7]; rfl) (XE _ _) hq1 (by omega)) ((gk32.ev Hv298).pick [] (by kernel_rfl)) ((gk64.ev Hv298).pick [] (by kernel_rfl))) fun _ _ En312 Hv313 => ?_
 refine d_k [1,2,3,6,8,9,10,11,12,13,14,16,17,18,84] [] 19 En312 fun _ En315 => ?_
 refine f_o <| m_a 4 0 32 (bys (puE (sE sd))) En315 Hv313 rfl (zq (zC (zE _))) (zC (zE _)) fun _ En317 => ?_
 refine f_o <| c_p En317 Hv313 (pointY_go _ (sE sd)) fun _ _ En323 Hv324 => ?_
 refine d_e [1,2,3,6,8,9,10,11,12,13,14,16,17,18] [] En323 fun _ En326 => ?_
 refine zg <| wp_ret <| d_ret1 (t := 6) (v := .bool true) En326 (by kernel_rfl) (by kernel_rfl) ?_
 exact ⟨rfl, Hv324.pk []⟩

end Go.Proofs.YtlnogkmnklfjlaaDoor

/- The package variables k32, k64: what the rows' lists give. -/





namespace Go.Proofs.YtlnogkmnklfjlaaDoor
open Go Go.Dbr
set_option maxRecDepth 100000
theorem g32 : Tryd.prog.globalNamed "drawbridge/sha.k32" = some 0 := by kernel_rfl
theorem g64 : Tryd.prog.globalNamed "drawbridge/sha.k64" = some 1 := by kernel_rfl
theorem ty32 : (Tryd.prog.globals[0]?).map (·.type) = some 112 := by kernel_rfl
theorem ty64 : (Tryd.prog.globals[1]?).map (·.type) = some 120 := by kernel_rfl
def zs32 : List Int := Sh.K32.map fun x => ((UInt32.toNat x : Nat) : Int)
def zs64 : List Int := Sh.K64.map fun x => ((UInt64.toNat x : Nat) : Int)
theorem tab32 {W : World} (h : laidMetH Tryd.prog Rows.edsigPointsRow.laid W) : Lib.TabIs Tryd.prog W "drawbridge/sha.k32" .u32 zs32 :=
  Lib.tabIs_of_head (rest := [("drawbridge/sha.k64", Rows.laid_drawbridge_sha_k64)]) (n := 64) (e := 103) g32 ty32 (by kernel_rfl) (by kernel_rfl) (by kernel_rfl) (by kernel_rfl) h
theorem tab64 {W : World} (h : laidMetH Tryd.prog Rows.edsigPointsRow.laid W) : Lib.TabIs Tryd.prog W "drawbridge/sha.k64" .u64 zs64 :=
  Lib.tabIs_of_head (rest := []) (n := 80) (e := 32) g64 ty64 (by kernel_rfl) (by kernel_rfl) (by kernel_rfl) (by kernel_rfl) (laidMet.tail (x := ("drawbridge/sha.k32", Rows.laid_drawbridge_sha_k32)) h)
theorem in32_laid {W : World} (h : laidMetH Tryd.prog Rows.edsigPointsRow.laid W) : InU32 W [] (some ⟨0, 0, none⟩) 64 Sh.K32 := by
  refine ⟨⟨fun j u hj => ?_, fun _ _ _ => Owns.nil⟩, fun e => (by cases e), (by decide), (by decide)⟩
  have hl : j < zs32.length := by
    have := (z6.1 hj).1
    rw [u32s_length] at this
    exact this
  have hc := (tab32 h).cell g32 j hl
  rw [add_off, Z3, hc, ← hj]
  have hk : j < Sh.K32.length := by simpa [zs32] using hl
  rw [u32s_getD hk]
  simp [zs32, zT hk]
  first | done | rfl
theorem in64_laid {W : World} (h : laidMetH Tryd.prog Rows.edsigPointsRow.laid W) : InU64 W [] (some ⟨1, 0, none⟩) 80 Sh.K64 := by
  refine ⟨⟨fun j u hj => ?_, fun _ _ _ => Owns.nil⟩, fun e => (by cases e), (by decide), (by decide)⟩
  have hl : j < zs64.length := by
    have := (z6.1 hj).1
    rw [u64s_length] at this
    exact this
  have hc := (tab64 h).cell g64 j hl
  rw [add_off, Z3, hc, ← hj]
  have hk : j < Sh.K64.length := by simpa [zs64] using hl
  rw [u64s_getD hk]
  simp [zs64, zT hk]
  first | done | rfl
end Go.Proofs.YtlnogkmnklfjlaaDoor
