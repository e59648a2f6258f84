import Derived.Test.YtlnogkmnklfjlaaDoorSt8
import Derived.Test.YtlnogkmnklfjlaaDoorSt1
import Derived.Test.YtlnogkmnklfjlaaDoorSt2
open List renaming length → za, getD → zb, replicate → ze, length_replicate → zf, toArray → zi, take → zk, drop → zo, length_drop → zr, set → zy, length_append → zU
open Go.Dbr renaming u64s_lenh → zc, then_normal → zg, u64s → zh, region_from → zm, uv64 → zn, load_whole → zq, store_whole → zs, u64s_one → zv, bys_lenh → zC, len_app → zD, then_exit → zI, run_loadAgg2 → zR, h_from → Zi, then_ret → Z0, bys_getD → Qa, d_ret1 → Qb, h_ways → Qc, h_to → Qe, d_cell_tmp → Qq, one_app → QH
open UInt64 renaming ofNat → zd
open Go.Proofs.YtlnogkmnklfjlaaDoor renaming nds_len → zl, mulM → zt, powM → z0, subM → Zd, emul_go → Zv, addM → ZA, baseL → Z7, rootOk → Yv, ptL_len → Ja, esum_go → Ju, inv_go → Xs
open UInt8 renaming ofNat → zF, toNat → Zn, toUInt64 → Zr
open Go.Dbr.Ev renaming cellAgg → zM, drew → z4
open Bool renaming eq_false_or_eq_true → ZC, true_and → Qp, false_and → Qx, eq_false_iff → Q6
open UInt32 renaming ofNat → JZ
/- Layer 12: points of bytes. -/

namespace Go.Proofs.YtlnogkmnklfjlaaDoor
open Go.Dbr
set_option maxRecDepth 100000
set_option maxHeartbeats 2000000
set_option linter.unusedVariables false
set_option linter.unusedSimpArgs false

theorem yE_lt {b : List UInt8} (hb : b.length = 32) : yE b < W256 := by
  have := lv_lt (clr b)
  rw [clr_len hb] at this
  exact this
theorem nv_y {b : List UInt8} (hb : b.length = 32) : nv (nd (yE b)) = yE b := nv_nd (yE_lt hb)
theorem one1 : nv [1, 0, 0, 0] = 1 := rfl
theorem d_half : nd (zt 1 (nv (nd D2N)) (nv (nd (z0 1 (nv [2, 0, 0, 0]) (mF 1 - 2))))) = nd DN := by
  rw [nv_iv, nv_d2, show nv [2, 0, 0, 0] = 2 from rfl, ivE_pw]
  exact congrArg nd (by decide +kernel)
theorem tA_txt {y : Nat} (hy : nv (nd y) = y) : nd (zt 1 (nv (nd (Zd 1 (nv (nd (zt 1 (nv (nd y)) (nv (nd y))))) (nv [1, 0, 0, 0])))) (nv (nd (z0 1 (nv (nd (ZA 1 (nv (nd (zt 1 (nv (nd DN)) (nv (nd (zt 1 (nv (nd y)) (nv (nd y)))))))) (nv [1, 0, 0, 0])))) (mF 1 - 2))))) = nd (tA y) := by
  rw [nv_iv, nv_a1, nv_m1, nv_s1, nv_m1, nv_dn, hy, one1, tA]
theorem nv_tA (y : Nat) : nv (nd (tA y)) = tA y := nvE (tA_lt y)
theorem rE_txt (y : Nat) : nd (rootN 1 (nv (nd (tA y)))) = nd (rE y) := by rw [nv_tA, rE]
theorem rE_nv (y : Nat) : nv (nd (rE y)) = rE y := nvE (rE_lt y)
theorem rE_0 (y : Nat) : (nd (rE y) == ze 4 0) = decide (rE y = 0) := by
  by_cases h : rE y = 0
  · rw [decide_eq_true h, h]; rfl
  · rw [decide_eq_false h]
    refine beq_false_of_ne fun g => h ?_
    have := congrArg nv g
    rwa [rE_nv] at this
theorem od_dec : ∀ n : Fin 256, ((((zF n.val >>> zF 7).toNat : Nat) : Int) = 1) ↔ 128 ≤ n.val := by decide +kernel
theorem od_1 (b : List UInt8) : ((((zb b 31 0 >>> zF 7).toNat : Nat) : Int) = 1) ↔ odE b = true := by
  have h := od_dec ⟨(zb b 31 0).toNat, UInt8.toNat_lt _⟩
  simp only [UInt8.ofNat_toNat] at h
  rw [odE, decide_eq_true_eq]
  exact h
/-- what is told of bytes -/
def toL (b : List UInt8) : L4 := bif isE b then ptL (yE b) (odE b) else ze 16 0
theorem toL_len (b : List UInt8) : (toL b).length = 16 := by
  unfold toL
  cases isE b with
  | true => exact Ja _ _
  | false => rfl
theorem no_1 {b : List UInt8} (h : ¬ yE b < mF 1) : isE b = false := by rw [isE, decide_eq_false h, Qx]
theorem no_2 {b : List UInt8} (h : Yv 1 (tA (yE b)) = false) : isE b = false := by rw [isE, xOkE, h, Qx, Bool.and_false]
theorem no_3 {b : List UInt8} (h : odE b = true) (h2 : nd (rE (yE b)) = ze 4 0) : isE b = false := by
  have := rE_0 (yE b)
  rw [h2] at this
  rw [isE, xOkE, h, ← this]
  simp
theorem is_yes {b : List UInt8} (h : yE b < mF 1) (h1 : Yv 1 (tA (yE b)) = true) (h2 : odE b = true → ¬ nd (rE (yE b)) = ze 4 0) : isE b = true := by
  rw [isE, xOkE, decide_eq_true h, h1, Qp, Qp]
  cases g : odE b with
  | false => rfl
  | true =>
    rw [Qp, ← rE_0, beq_false_of_ne (h2 g)]
    rfl
theorem to_no {b : List UInt8} (h : isE b = false) : ze 16 0 = toL b := by rw [toL, h]; rfl
theorem to_yes {b : List UInt8} (h : isE b = true) : ptL (yE b) (odE b) = toL b := by rw [toL, h]; rfl
theorem ret_to {a b : L4} {s t : Bool} (h1 : a = b) (h2 : s = t) : Ending.returned (.tuple #[.agg (zi (zh a)), .bool s]) = Ending.returned (.tuple #[.agg (zi (zh b)), .bool t]) := by rw [h1, h2]
theorem pt_even {b : List UInt8} (hb : b.length = 32) (h : odE b = false) : nd (rE (yE b)) ++ (nd (yE b) ++ ([1, 0, 0, 0] ++ nd (zt 1 (nv (nd (rE (yE b)))) (nv (nd (yE b)))))) = ptL (yE b) (odE b) := by
  rw [rE_nv, nv_y hb, ptL, h, xE_f, l4]
  rfl
theorem pt_odd {b : List UInt8} (hb : b.length = 32) (h : odE b = true) : nd (Zd 1 0 (nv (nd (rE (yE b))))) ++ (nd (yE b) ++ ([1, 0, 0, 0] ++ nd (zt 1 (nv (nd (Zd 1 0 (nv (nd (rE (yE b))))))) (nv (nd (yE b)))))) = ptL (yE b) (odE b) := by
  rw [rE_nv, nv_s1, nv_y hb, ptL, h, xE_t, l4]
  rfl

theorem root_tA (w : World) {a : List UInt64} {y : Nat} (h : a = nd (tA y)) : Calls Tryd.prog 34 #[.int .i64 1, .agg (zi (zh a))] w fun e w' => e = .returned (.tuple #[.agg (zi (zh (nd (rE y)))), .bool (Yv 1 (tA y))]) ∧ Ev w [] w' [] := by
  subst h
  have h := root1_go w (nd (tA y)) (ndl _)
  rw [rE_txt, nv_tA] at h
  exact h

theorem told_go (w : World) (b : List UInt8) (hb : za b = 32) : Calls Tryd.prog 16 #[.agg (zi (bys b))] w fun e w' => e = .returned (.tuple #[.agg (zi (zh (toL b))), .bool (isE b)]) ∧ Ev w [] w' [] := by
 refine d_0 [(0, .agg (zi (bys b)))] 67 Go.Proofs.Tryd.func16 Go.Proofs.Tryd.ntmps16 (Heap.nil _) fun act0 En0 Hv0 => ?_
 refine wp_seq <| zm <| f_o <| m_m 22 (bys b) En0 Hv0 fun _ _ bk1 En4 Hv5 => ?_
 refine f_o <| m_z 43 ((zh (ze 4 0)) ++ ((zh (ze 4 0)) ++ ((zh (ze 4 0)) ++ (zh (ze 4 0))))) En4 Hv5 fun _ _ bk6 En9 Hv10 => ?_
 refine d_e [1,2,3] [] En9 fun _ En12 => ?_
 refine zg <| wp_seq <| zm <| d_k [1,2,3,10] [] 1 En12 fun _ En14 => ?_
 refine f_o ?_
 have hb15 : 31 < za b := by rw [hb]; omega
 refine m_v 0 31 (bv (zb b 31 0)) En14 Hv10 rfl (Qa hb15) fun _ En17 => ?_
 refine d_e [1,2,3,4] [(2, g_i .u8 (Go.Dbr.u8_shr (x := zb b 31 0) (n := 7) rfl (by decide)))] En17 fun _ En19 => ?_
 refine zg <| wp_seq <| zm <| d_k [1,2,3,4,13] [] 1 En19 fun _ En21 => ?_
 refine f_o ?_
 have hb22 : 31 < za b := by rw [hb]; omega
 refine m_v 0 31 (bv (zb b 31 0)) En21 Hv10 rfl (Qa hb22) fun _ En24 => ?_
 refine d_k [1,2,3,4,15,16] [(2, g_i .u8 (Go.Dbr.u8_and (x := zb b 31 0) (y := (127 : UInt8)) rfl rfl))] 4 En24 fun _ En26 => ?_
 refine f_o ?_
 have hb27 : 31 < za b := by rw [hb]; omega
 refine m_t 0 31 (bv ((zb b 31 0) &&& (127 : UInt8))) [.box bk1 (bys (zy b 31 ((zb b 31 0) &&& (127 : UInt8)))) 22, .box bk6 ((zh (ze 4 0)) ++ ((zh (ze 4 0)) ++ ((zh (ze 4 0)) ++ (zh (ze 4 0))))) 43] En26 Hv10 rfl (Qa hb27) (bys_set _ _ _) rfl fun _ _ En30 Hv31 => ?_
 refine f_e <| zg <| wp_seq <| zm <| f_o <| m_a 0 0 32 (bys (zy b 31 ((zb b 31 0) &&& (127 : UInt8)))) En30 Hv31 rfl (zq (zC (List.length_set.trans hb))) (zC (List.length_set.trans hb)) fun _ En33 => ?_
 refine f_o <| c_p En33 Hv31 (fromle_go _ (zy b 31 ((zb b 31 0) &&& (127 : UInt8))) (List.length_set.trans hb)) fun _ _ En39 Hv40 => ?_
 refine f_o <| m_z 34 (zh (ze 4 0)) En39 Hv40 fun _ _ bk41 En44 Hv45 => ?_
 refine f_o <| m_g 2 0 4 (zh (nd (lv (zy b 31 ((zb b 31 0) &&& (127 : UInt8)))))) _ [.box bk1 (bys (zy b 31 ((zb b 31 0) &&& (127 : UInt8)))) 22, .box bk6 ((zh (ze 4 0)) ++ ((zh (ze 4 0)) ++ ((zh (ze 4 0)) ++ (zh (ze 4 0))))) 43, .box bk41 (zh (nd (lv (zy b 31 ((zb b 31 0) &&& (127 : UInt8)))))) 34] En44 Hv45 rfl (zc (zl _ _)) (by rw [(zc (zf))]; first | decide | (simp; done)) (zv _) (zs (zc (zf))) rfl fun _ _ En48 Hv49 => ?_
 refine f_e <| zg <| wp_seq <| wp_seq ?_
 rw [show (nd (lv (zy b 31 ((zb b 31 0) &&& (127 : UInt8))))) = (nd (yE b)) from rfl] at Hv49
 refine zm <| f_o <| m_a 2 0 4 (zh (nd (yE b))) En48 Hv49 rfl (zq (zc (zl _ _))) (zc (zl _ _)) fun _ En51 => ?_
 refine f_o <| c_p En51 Hv49 (rightq_go _ 1 (nd (yE b)) (zl _ _)) fun _ _ En57 Hv58 => ?_
 refine d_e [1,2,3,4,5,21] [] En57 fun _ En60 => ?_
 refine zg <| cond_at En60 (t := !(decide (nv (nd (yE b)) < mF 1))) (by kernel_rfl) (fun hc61 => ?_) (fun hc61 => ?_)
 ·
  replace hc61 : ¬ (nv (nd (yE b)) < mF 1) := by simpa using hc61
  refine wp_seq <| zm <| d_k [1,2,3,4,5,22] [] 1 En60 fun _ En63 => ?_
  refine f_o <| m_g 1 0 16 [.int .u64 0, .int .u64 0, .int .u64 0, .int .u64 0, .int .u64 0, .int .u64 0, .int .u64 0, .int .u64 0, .int .u64 0, .int .u64 0, .int .u64 0, .int .u64 0, .int .u64 0, .int .u64 0, .int .u64 0, .int .u64 0] _ [.box bk1 (bys (zy b 31 ((zb b 31 0) &&& (127 : UInt8)))) 22, .box bk6 [.int .u64 0, .int .u64 0, .int .u64 0, .int .u64 0, .int .u64 0, .int .u64 0, .int .u64 0, .int .u64 0, .int .u64 0, .int .u64 0, .int .u64 0, .int .u64 0, .int .u64 0, .int .u64 0, .int .u64 0, .int .u64 0] 43, .box bk41 (zh (nd (yE b))) 34] En63 Hv58 rfl rfl (by rw [(zD (zc (zf)) (zD (zc (zf)) (zD (zc (zf)) (zc (zf)))))]; first | decide | (simp; done)) (one_all (by kernel_rfl)) (zs (zD (zc (zf)) (zD (zc (zf)) (zD (zc (zf)) (zc (zf)))))) rfl fun _ _ En66 Hv67 => ?_
  refine d_e [1,2,3,4,5] [] En66 fun _ En69 => ?_
  refine zg <| wp_ret <| Z0 <| Qq (v := .agg #[.int .u64 0, .int .u64 0, .int .u64 0, .int .u64 0, .int .u64 0, .int .u64 0, .int .u64 0, .int .u64 0, .int .u64 0, .int .u64 0, .int .u64 0, .int .u64 0, .int .u64 0, .int .u64 0, .int .u64 0, .int .u64 0]) (x := .bool false) (t := 2) (T := 43) (ad := ⟨bk6, 0, none⟩) (u := 3) En69 (by kernel_rfl) (by kernel_rfl) (zM (t := 43) (k := 1) (off := 0) (m := 16) (xs := [.int .u64 0, .int .u64 0, .int .u64 0, .int .u64 0, .int .u64 0, .int .u64 0, .int .u64 0, .int .u64 0, .int .u64 0, .int .u64 0, .int .u64 0, .int .u64 0, .int .u64 0, .int .u64 0, .int .u64 0, .int .u64 0]) Hv67 rfl rfl rfl (by kernel_rfl) (by kernel_rfl)) (by kernel_rfl) ?_
  have ei : isE b = false := no_1 (by rw [← nv_y hb]; exact hc61)
  exact ⟨(show _ = Ending.returned (.tuple #[.agg (zi (zh (ze 16 0))), .bool false]) from by kernel_rfl).trans (ret_to (to_no ei) ei.symm), Hv67.pk []⟩
 replace hc61 : nv (nd (yE b)) < mF 1 := by simpa using hc61
 refine wp_skip <| zg <| wp_seq <| zm <| f_o <| m_a 2 0 4 (zh (nd (yE b))) En60 Hv58 rfl (zq (zc (zl _ _))) (zc (zl _ _)) fun _ En71 => ?_
 refine f_o <| m_a 2 0 4 (zh (nd (yE b))) En71 Hv58 rfl (zq (zc (zl _ _))) (zc (zl _ _)) fun _ En73 => ?_
 refine f_o <| c_p En73 Hv58 (Zv _ (nd (yE b)) (nd (yE b)) (zl _ _) (zl _ _)) fun _ _ En79 Hv80 => ?_
 refine f_o <| m_z 34 (zh (ze 4 0)) En79 Hv80 fun _ _ bk81 En84 Hv85 => ?_
 refine f_o <| m_g 3 0 4 (zh (nd (zt 1 (nv (nd (yE b))) (nv (nd (yE b)))))) _ [.box bk1 (bys (zy b 31 ((zb b 31 0) &&& (127 : UInt8)))) 22, .box bk6 ((zh (ze 4 0)) ++ ((zh (ze 4 0)) ++ ((zh (ze 4 0)) ++ (zh (ze 4 0))))) 43, .box bk41 (zh (nd (yE b))) 34, .box bk81 (zh (nd (zt 1 (nv (nd (yE b))) (nv (nd (yE b)))))) 34] En84 Hv85 rfl (zc (zl _ _)) (by rw [(zc (zf))]; first | decide | (simp; done)) (zv _) (zs (zc (zf))) rfl fun _ _ En88 Hv89 => ?_
 refine f_e <| zg <| wp_seq ?_
 rw [show (nd (zt 1 (nv (nd (yE b))) (nv (nd (yE b))))) = (nd (zt 1 (nv (nd (yE b))) (nv (nd (yE b))))) from rfl] at Hv89
 refine zm <| f_o <| c_p En88 Hv89 (twiceD_go _) fun _ _ En95 Hv96 => ?_
 refine d_k [1,2,3,4,5,6,26,27] [] 2 En95 fun _ En98 => ?_
 refine f_o <| c_p En98 Hv96 (Xs _ 1 h1f hM1 ([2, 0, 0, 0] : List UInt64) (show za ([2, 0, 0, 0] : List UInt64) = 4 from rfl)) fun _ _ En104 Hv105 => ?_
 refine f_o <| c_p En104 Hv105 (Zv _ (nd D2N) (nd (z0 1 (nv ([2, 0, 0, 0] : List UInt64)) (mF 1 - 2))) (zl _ _) (zl _ _)) fun _ _ En111 Hv112 => ?_
 refine f_o <| m_z 34 (zh (ze 4 0)) En111 Hv112 fun _ _ bk113 En116 Hv117 => ?_
 refine f_o <| m_g 4 0 4 (zh (nd (zt 1 (nv (nd D2N)) (nv (nd (z0 1 (nv ([2, 0, 0, 0] : List UInt64)) (mF 1 - 2))))))) _ [.box bk1 (bys (zy b 31 ((zb b 31 0) &&& (127 : UInt8)))) 22, .box bk6 ((zh (ze 4 0)) ++ ((zh (ze 4 0)) ++ ((zh (ze 4 0)) ++ (zh (ze 4 0))))) 43, .box bk41 (zh (nd (yE b))) 34, .box bk81 (zh (nd (zt 1 (nv (nd (yE b))) (nv (nd (yE b)))))) 34, .box bk113 (zh (nd (zt 1 (nv (nd D2N)) (nv (nd (z0 1 (nv ([2, 0, 0, 0] : List UInt64)) (mF 1 - 2))))))) 34] En116 Hv117 rfl (zc (zl _ _)) (by rw [(zc (zf))]; first | decide | (simp; done)) (zv _) (zs (zc (zf))) rfl fun _ _ En120 Hv121 => ?_
 refine f_e <| zg <| wp_seq ?_
 rw [show (nd (zt 1 (nv (nd D2N)) (nv (nd (z0 1 (nv ([2, 0, 0, 0] : List UInt64)) (mF 1 - 2)))))) = (nd DN) from d_half] at Hv121
 refine r_c (fun ac wo => ∃ (bk751 : Nat), Env ac 67 [(1, pt bk1), (2, pt bk6), (3, .bool false), (4, bv ((zb b 31 0) >>> zF 7)), (5, pt bk41), (6, pt bk81), (7, pt bk113), (8, pt bk751), (9, .bool (Yv 1 (tA (yE b))))] ∧ Ev w [] wo [.box bk1 (bys (zy b 31 ((zb b 31 0) &&& (127 : UInt8)))) 22, .box bk6 ((zh (ze 4 0)) ++ ((zh (ze 4 0)) ++ ((zh (ze 4 0)) ++ (zh (ze 4 0))))) 43, .box bk41 (zh (nd (yE b))) 34, .box bk81 (zh (nd (zt 1 (nv (nd (yE b))) (nv (nd (yE b)))))) 34, .box bk113 (zh (nd DN)) 34, .box bk751 (zh (nd (rE (yE b)))) 34]) ?_ ?_
 ·
  refine h_s (fun wv => Ev w [] wv [.box bk81 (zh (nd (zt 1 (nv (nd (yE b))) (nv (nd (yE b)))))) 34, .box bk113 (zh (nd DN)) 34]) [] 17 ?_
  have wo122 := Hv121.trans (z4 Hv121.heap)
  refine h_name fun G hG => ?_
  have nd987 : ∀ (ac : Act) (wo : World), Env ac 67 [(1, pt bk1), (2, pt bk6), (3, .bool false), (4, bv ((zb b 31 0) >>> zF 7)), (5, pt bk41), (6, pt bk81), (7, pt bk113), (41, .tuple #[.agg (zi (zh (nd (rE (yE b))))), .bool (Yv 1 (tA (yE b)))])] → Ev w [] wo [.box bk1 (bys (zy b 31 ((zb b 31 0) &&& (127 : UInt8)))) 22, .box bk6 ((zh (ze 4 0)) ++ ((zh (ze 4 0)) ++ ((zh (ze 4 0)) ++ (zh (ze 4 0))))) 43, .box bk41 (zh (nd (yE b))) 34, .box bk81 (zh (nd (zt 1 (nv (nd (yE b))) (nv (nd (yE b)))))) 34, .box bk113 (zh (nd DN)) 34] → G 6 #[true, true, true, true, true, true, true, true, true, true, true, false, false, false, false, false, false] ac wo := by
   intro _ _ En990 Hv991
   refine Zi hG ?_
   refine q_s [11,12,13] [] 3 En990 (Hv991.pk [3, 4]) fun _ En993 => ?_
   refine q_t 14 ?_
   refine m_z 34 (zh (ze 4 0)) En993 Hv991 fun _ _ bk994 En997 Hv998 => ?_
   refine ⟨fun _ => Hv998.pk [3, 4], ?_⟩
   refine q_t 15 ?_
   refine m_g 5 0 4 (zh (nd (rE (yE b)))) _ [.box bk1 (bys (zy b 31 ((zb b 31 0) &&& (127 : UInt8)))) 22, .box bk6 ((zh (ze 4 0)) ++ ((zh (ze 4 0)) ++ ((zh (ze 4 0)) ++ (zh (ze 4 0))))) 43, .box bk41 (zh (nd (yE b))) 34, .box bk81 (zh (nd (zt 1 (nv (nd (yE b))) (nv (nd (yE b)))))) 34, .box bk113 (zh (nd DN)) 34, .box bk994 (zh (nd (rE (yE b)))) 34] En997 Hv998 rfl (zc (zl _ _)) (by rw [(zc (zf))]; first | decide | (simp; done)) (zv _) (zs (zc (zf))) rfl fun _ _ En1001 Hv1002 => ?_
   refine ⟨fun _ => Hv1002.pk [3, 4], ?_⟩
   refine q_s [16] [] 0 En1001 (Hv1002.pk [3, 4]) fun _ En1004 => ?_
   exact h_e ⟨bk994, En1004.sb, Hv1002.pk [0, 1, 2, 3, 4, 5]⟩
  have nd1005 : ∀ (ac : Act) (wo : World) (bk762 : Nat), Env ac 67 [(1, pt bk1), (2, pt bk6), (3, .bool false), (4, bv ((zb b 31 0) >>> zF 7)), (5, pt bk41), (6, pt bk81), (7, pt bk113), (8, pt bk762), (40, .agg (zi (zh (nd (zt 1 (nv (nd (Zd 1 (nv (nd (zt 1 (nv (nd (yE b))) (nv (nd (yE b)))))) (nv ([1, 0, 0, 0] : List UInt64))))) (nv (nd (z0 1 (nv (nd (ZA 1 (nv (nd (zt 1 (nv (nd DN)) (nv (nd (zt 1 (nv (nd (yE b))) (nv (nd (yE b))))))))) (nv ([1, 0, 0, 0] : List UInt64))))) (mF 1 - 2)))))))))] → Ev w [] wo [.box bk1 (bys (zy b 31 ((zb b 31 0) &&& (127 : UInt8)))) 22, .box bk6 ((zh (ze 4 0)) ++ ((zh (ze 4 0)) ++ ((zh (ze 4 0)) ++ (zh (ze 4 0))))) 43, .box bk41 (zh (nd (yE b))) 34, .box bk81 (zh (nd (zt 1 (nv (nd (yE b))) (nv (nd (yE b)))))) 34, .box bk113 (zh (nd DN)) 34, .box bk762 (zh (ze 4 0)) 34] → G 6 #[true, true, true, true, true, true, true, true, true, true, false, false, false, false, true, false, false] ac wo := by
   intro _ _ bk762 En1008 Hv1009
   refine Zi hG ?_
   refine q_t 10 ?_
   refine c_p En1008 Hv1009 (root_tA _ (show (nd (zt 1 (nv (nd (Zd 1 (nv (nd (zt 1 (nv (nd (yE b))) (nv (nd (yE b)))))) (nv ([1, 0, 0, 0] : List UInt64))))) (nv (nd (z0 1 (nv (nd (ZA 1 (nv (nd (zt 1 (nv (nd DN)) (nv (nd (zt 1 (nv (nd (yE b))) (nv (nd (yE b))))))))) (nv ([1, 0, 0, 0] : List UInt64))))) (mF 1 - 2)))))) = nd (tA (yE b)) from tA_txt (nv_y hb))) fun _ _ En1015 Hv1016 => ?_
   refine ⟨fun _ => Hv1016.pk [3, 4], ?_⟩
   refine q_s [11,12,13] [] 2 En1015 (Hv1016.pk [3, 4]) fun _ En1018 => ?_
   refine q_t 15 ?_
   refine m_g 5 0 4 (zh (nd (rE (yE b)))) _ [.box bk1 (bys (zy b 31 ((zb b 31 0) &&& (127 : UInt8)))) 22, .box bk6 ((zh (ze 4 0)) ++ ((zh (ze 4 0)) ++ ((zh (ze 4 0)) ++ (zh (ze 4 0))))) 43, .box bk41 (zh (nd (yE b))) 34, .box bk81 (zh (nd (zt 1 (nv (nd (yE b))) (nv (nd (yE b)))))) 34, .box bk113 (zh (nd DN)) 34, .box bk762 (zh (nd (rE (yE b)))) 34] En1018 Hv1016 rfl (zc (zl _ _)) (by rw [(zc (zf))]; first | decide | (simp; done)) (zv _) (zs (zc (zf))) rfl fun _ _ En1021 Hv1022 => ?_
   refine ⟨fun _ => Hv1022.pk [3, 4], ?_⟩
   refine q_s [16] [] 0 En1021 (Hv1022.pk [3, 4]) fun _ En1024 => ?_
   exact h_e ⟨bk762, En1024.sb, Hv1022.pk [0, 1, 2, 3, 4, 5]⟩
  have nd1025 : ∀ (ac : Act) (wo : World), Env ac 67 [(1, pt bk1), (2, pt bk6), (3, .bool false), (4, bv ((zb b 31 0) >>> zF 7)), (5, pt bk41), (6, pt bk81), (7, pt bk113), (40, .agg (zi (zh (nd (zt 1 (nv (nd (Zd 1 (nv (nd (zt 1 (nv (nd (yE b))) (nv (nd (yE b)))))) (nv ([1, 0, 0, 0] : List UInt64))))) (nv (nd (z0 1 (nv (nd (ZA 1 (nv (nd (zt 1 (nv (nd DN)) (nv (nd (zt 1 (nv (nd (yE b))) (nv (nd (yE b))))))))) (nv ([1, 0, 0, 0] : List UInt64))))) (mF 1 - 2)))))))))] → Ev w [] wo [.box bk1 (bys (zy b 31 ((zb b 31 0) &&& (127 : UInt8)))) 22, .box bk6 ((zh (ze 4 0)) ++ ((zh (ze 4 0)) ++ ((zh (ze 4 0)) ++ (zh (ze 4 0))))) 43, .box bk41 (zh (nd (yE b))) 34, .box bk81 (zh (nd (zt 1 (nv (nd (yE b))) (nv (nd (yE b)))))) 34, .box bk113 (zh (nd DN)) 34] → G 7 #[true, true, true, true, true, true, true, true, true, true, false, false, false, false, false, false, false] ac wo := by
   intro _ _ En1028 Hv1029
   refine Zi hG ?_
   refine Qc [10, 14] (by kernel_rfl) rfl ?_
   refine ⟨?_, ?_, trivial⟩
   ·
    rintro _ rfl
    refine c_p En1028 Hv1029 (root_tA _ (show (nd (zt 1 (nv (nd (Zd 1 (nv (nd (zt 1 (nv (nd (yE b))) (nv (nd (yE b)))))) (nv ([1, 0, 0, 0] : List UInt64))))) (nv (nd (z0 1 (nv (nd (ZA 1 (nv (nd (zt 1 (nv (nd DN)) (nv (nd (zt 1 (nv (nd (yE b))) (nv (nd (yE b))))))))) (nv ([1, 0, 0, 0] : List UInt64))))) (mF 1 - 2)))))) = nd (tA (yE b)) from tA_txt (nv_y hb))) fun _ _ En1035 Hv1036 => ?_
    refine ⟨fun _ => Hv1036.pk [3, 4], ?_⟩
    exact Qe hG (by kernel_rfl) (nd987 _ _ (En1035.sb) (Hv1036.pk [0, 1, 2, 3, 4]))
   rintro _ rfl
   refine m_z 34 (zh (ze 4 0)) En1028 Hv1029 fun _ _ bk1037 En1040 Hv1041 => ?_
   refine ⟨fun _ => Hv1041.pk [3, 4], ?_⟩
   exact Qe hG (by kernel_rfl) (nd1005 _ _ bk1037 (En1040.sb) (Hv1041.pk [0, 1, 2, 3, 4, 5]))
  have nd1042 : ∀ (ac : Act) (wo : World) (bk782 : Nat), Env ac 67 [(1, pt bk1), (2, pt bk6), (3, .bool false), (4, bv ((zb b 31 0) >>> zF 7)), (5, pt bk41), (6, pt bk81), (7, pt bk113), (8, pt bk782), (33, .agg (zi (zh (nd (Zd 1 (nv (nd (zt 1 (nv (nd (yE b))) (nv (nd (yE b)))))) (nv ([1, 0, 0, 0] : List UInt64))))))), (39, .agg (zi (zh (nd (z0 1 (nv (nd (ZA 1 (nv (nd (zt 1 (nv (nd DN)) (nv (nd (zt 1 (nv (nd (yE b))) (nv (nd (yE b))))))))) (nv ([1, 0, 0, 0] : List UInt64))))) (mF 1 - 2))))))] → Ev w [] wo [.box bk1 (bys (zy b 31 ((zb b 31 0) &&& (127 : UInt8)))) 22, .box bk6 ((zh (ze 4 0)) ++ ((zh (ze 4 0)) ++ ((zh (ze 4 0)) ++ (zh (ze 4 0))))) 43, .box bk41 (zh (nd (yE b))) 34, .box bk81 (zh (nd (zt 1 (nv (nd (yE b))) (nv (nd (yE b)))))) 34, .box bk113 (zh (nd DN)) 34, .box bk782 (zh (ze 4 0)) 34] → G 7 #[true, true, true, true, true, true, true, true, true, false, false, false, false, false, true, false, false] ac wo := by
   intro _ _ bk782 En1045 Hv1046
   refine Zi hG ?_
   refine q_t 9 ?_
   refine c_p En1045 Hv1046 (Zv _ (nd (Zd 1 (nv (nd (zt 1 (nv (nd (yE b))) (nv (nd (yE b)))))) (nv ([1, 0, 0, 0] : List UInt64)))) (nd (z0 1 (nv (nd (ZA 1 (nv (nd (zt 1 (nv (nd DN)) (nv (nd (zt 1 (nv (nd (yE b))) (nv (nd (yE b))))))))) (nv ([1, 0, 0, 0] : List UInt64))))) (mF 1 - 2))) (zl _ _) (zl _ _)) fun _ _ En1052 Hv1053 => ?_
   refine ⟨fun _ => Hv1053.pk [3, 4], ?_⟩
   refine q_t 10 ?_
   refine c_p En1052 Hv1053 (root_tA _ (show (nd (zt 1 (nv (nd (Zd 1 (nv (nd (zt 1 (nv (nd (yE b))) (nv (nd (yE b)))))) (nv ([1, 0, 0, 0] : List UInt64))))) (nv (nd (z0 1 (nv (nd (ZA 1 (nv (nd (zt 1 (nv (nd DN)) (nv (nd (zt 1 (nv (nd (yE b))) (nv (nd (yE b))))))))) (nv ([1, 0, 0, 0] : List UInt64))))) (mF 1 - 2)))))) = nd (tA (yE b)) from tA_txt (nv_y hb))) fun _ _ En1059 Hv1060 => ?_
   refine ⟨fun _ => Hv1060.pk [3, 4], ?_⟩
   refine q_s [11,12,13] [] 2 En1059 (Hv1060.pk [3, 4]) fun _ En1062 => ?_
   refine q_t 15 ?_
   refine m_g 5 0 4 (zh (nd (rE (yE b)))) _ [.box bk1 (bys (zy b 31 ((zb b 31 0) &&& (127 : UInt8)))) 22, .box bk6 ((zh (ze 4 0)) ++ ((zh (ze 4 0)) ++ ((zh (ze 4 0)) ++ (zh (ze 4 0))))) 43, .box bk41 (zh (nd (yE b))) 34, .box bk81 (zh (nd (zt 1 (nv (nd (yE b))) (nv (nd (yE b)))))) 34, .box bk113 (zh (nd DN)) 34, .box bk782 (zh (nd (rE (yE b)))) 34] En1062 Hv1060 rfl (zc (zl _ _)) (by rw [(zc (zf))]; first | decide | (simp; done)) (zv _) (zs (zc (zf))) rfl fun _ _ En1065 Hv1066 => ?_
   refine ⟨fun _ => Hv1066.pk [3, 4], ?_⟩
   refine q_s [16] [] 0 En1065 (Hv1066.pk [3, 4]) fun _ En1068 => ?_
   exact h_e ⟨bk782, En1068.sb, Hv1066.pk [0, 1, 2, 3, 4, 5]⟩
  have nd1069 : ∀ (ac : Act) (wo : World), Env ac 67 [(1, pt bk1), (2, pt bk6), (3, .bool false), (4, bv ((zb b 31 0) >>> zF 7)), (5, pt bk41), (6, pt bk81), (7, pt bk113), (33, .agg (zi (zh (nd (Zd 1 (nv (nd (zt 1 (nv (nd (yE b))) (nv (nd (yE b)))))) (nv ([1, 0, 0, 0] : List UInt64))))))), (39, .agg (zi (zh (nd (z0 1 (nv (nd (ZA 1 (nv (nd (zt 1 (nv (nd DN)) (nv (nd (zt 1 (nv (nd (yE b))) (nv (nd (yE b))))))))) (nv ([1, 0, 0, 0] : List UInt64))))) (mF 1 - 2))))))] → Ev w [] wo [.box bk1 (bys (zy b 31 ((zb b 31 0) &&& (127 : UInt8)))) 22, .box bk6 ((zh (ze 4 0)) ++ ((zh (ze 4 0)) ++ ((zh (ze 4 0)) ++ (zh (ze 4 0))))) 43, .box bk41 (zh (nd (yE b))) 34, .box bk81 (zh (nd (zt 1 (nv (nd (yE b))) (nv (nd (yE b)))))) 34, .box bk113 (zh (nd DN)) 34] → G 8 #[true, true, true, true, true, true, true, true, true, false, false, false, false, false, false, false, false] ac wo := by
   intro _ _ En1072 Hv1073
   refine Zi hG ?_
   refine Qc [9, 14] (by kernel_rfl) rfl ?_
   refine ⟨?_, ?_, trivial⟩
   ·
    rintro _ rfl
    refine c_p En1072 Hv1073 (Zv _ (nd (Zd 1 (nv (nd (zt 1 (nv (nd (yE b))) (nv (nd (yE b)))))) (nv ([1, 0, 0, 0] : List UInt64)))) (nd (z0 1 (nv (nd (ZA 1 (nv (nd (zt 1 (nv (nd DN)) (nv (nd (zt 1 (nv (nd (yE b))) (nv (nd (yE b))))))))) (nv ([1, 0, 0, 0] : List UInt64))))) (mF 1 - 2))) (zl _ _) (zl _ _)) fun _ _ En1079 Hv1080 => ?_
    refine ⟨fun _ => Hv1080.pk [3, 4], ?_⟩
    exact Qe hG (by kernel_rfl) (nd1025 _ _ (En1079.sb) (Hv1080.pk [0, 1, 2, 3, 4]))
   rintro _ rfl
   refine m_z 34 (zh (ze 4 0)) En1072 Hv1073 fun _ _ bk1081 En1084 Hv1085 => ?_
   refine ⟨fun _ => Hv1085.pk [3, 4], ?_⟩
   exact Qe hG (by kernel_rfl) (nd1042 _ _ bk1081 (En1084.sb) (Hv1085.pk [0, 1, 2, 3, 4, 5]))
  have nd1086 : ∀ (ac : Act) (wo : World) (bk809 : Nat), Env ac 67 [(1, pt bk1), (2, pt bk6), (3, .bool false), (4, bv ((zb b 31 0) >>> zF 7)), (5, pt bk41), (6, pt bk81), (7, pt bk113), (8, pt bk809), (33, .agg (zi (zh (nd (Zd 1 (nv (nd (zt 1 (nv (nd (yE b))) (nv (nd (yE b)))))) (nv ([1, 0, 0, 0] : List UInt64))))))), (38, .agg (zi (zh (nd (ZA 1 (nv (nd (zt 1 (nv (nd DN)) (nv (nd (zt 1 (nv (nd (yE b))) (nv (nd (yE b))))))))) (nv ([1, 0, 0, 0] : List UInt64)))))))] → Ev w [] wo [.box bk1 (bys (zy b 31 ((zb b 31 0) &&& (127 : UInt8)))) 22, .box bk6 ((zh (ze 4 0)) ++ ((zh (ze 4 0)) ++ ((zh (ze 4 0)) ++ (zh (ze 4 0))))) 43, .box bk41 (zh (nd (yE b))) 34, .box bk81 (zh (nd (zt 1 (nv (nd (yE b))) (nv (nd (yE b)))))) 34, .box bk113 (zh (nd DN)) 34, .box bk809 (zh (ze 4 0)) 34] → G 8 #[true, true, true, true, true, true, true, true, false, false, false, false, false, false, true, false, false] ac wo := by
   intro _ _ bk809 En1089 Hv1090
   refine Zi hG ?_
   refine q_t 8 ?_
   refine c_p En1089 Hv1090 (Xs _ 1 h1f hM1 (nd (ZA 1 (nv (nd (zt 1 (nv (nd DN)) (nv (nd (zt 1 (nv (nd (yE b))) (nv (nd (yE b))))))))) (nv ([1, 0, 0, 0] : List UInt64)))) (zl _ _)) fun _ _ En1096 Hv1097 => ?_
   refine ⟨fun _ => Hv1097.pk [3, 4], ?_⟩
   refine q_t 9 ?_
   refine c_p En1096 Hv1097 (Zv _ (nd (Zd 1 (nv (nd (zt 1 (nv (nd (yE b))) (nv (nd (yE b)))))) (nv ([1, 0, 0, 0] : List UInt64)))) (nd (z0 1 (nv (nd (ZA 1 (nv (nd (zt 1 (nv (nd DN)) (nv (nd (zt 1 (nv (nd (yE b))) (nv (nd (yE b))))))))) (nv ([1, 0, 0, 0] : List UInt64))))) (mF 1 - 2))) (zl _ _) (zl _ _)) fun _ _ En1103 Hv1104 => ?_
   refine ⟨fun _ => Hv1104.pk [3, 4], ?_⟩
   refine q_t 10 ?_
   refine c_p En1103 Hv1104 (root_tA _ (show (nd (zt 1 (nv (nd (Zd 1 (nv (nd (zt 1 (nv (nd (yE b))) (nv (nd (yE b)))))) (nv ([1, 0, 0, 0] : List UInt64))))) (nv (nd (z0 1 (nv (nd (ZA 1 (nv (nd (zt 1 (nv (nd DN)) (nv (nd (zt 1 (nv (nd (yE b))) (nv (nd (yE b))))))))) (nv ([1, 0, 0, 0] : List UInt64))))) (mF 1 - 2)))))) = nd (tA (yE b)) from tA_txt (nv_y hb))) fun _ _ En1110 Hv1111 => ?_
   refine ⟨fun _ => Hv1111.pk [3, 4], ?_⟩
   refine q_s [11,12,13] [] 2 En1110 (Hv1111.pk [3, 4]) fun _ En1113 => ?_
   refine q_t 15 ?_
   refine m_g 5 0 4 (zh (nd (rE (yE b)))) _ [.box bk1 (bys (zy b 31 ((zb b 31 0) &&& (127 : UInt8)))) 22, .box bk6 ((zh (ze 4 0)) ++ ((zh (ze 4 0)) ++ ((zh (ze 4 0)) ++ (zh (ze 4 0))))) 43, .box bk41 (zh (nd (yE b))) 34, .box bk81 (zh (nd (zt 1 (nv (nd (yE b))) (nv (nd (yE b)))))) 34, .box bk113 (zh (nd DN)) 34, .box bk809 (zh (nd (rE (yE b)))) 34] En1113 Hv1111 rfl (zc (zl _ _)) (by rw [(zc (zf))]; first | decide | (simp; done)) (zv _) (zs (zc (zf))) rfl fun _ _ En1116 Hv1117 => ?_
   refine ⟨fun _ => Hv1117.pk [3, 4], ?_⟩
   refine q_s [16] [] 0 En1116 (Hv1117.pk [3, 4]) fun _ En1119 => ?_
   exact h_e ⟨bk809, En1119.sb, Hv1117.pk [0, 1, 2, 3, 4, 5]⟩
  have nd1120 : ∀ (ac : Act) (wo : World), Env ac 67 [(1, pt bk1), (2, pt bk6), (3, .bool false), (4, bv ((zb b 31 0) >>> zF 7)), (5, pt bk41), (6, pt bk81), (7, pt bk113), (33, .agg (zi (zh (nd (Zd 1 (nv (nd (zt 1 (nv (nd (yE b))) (nv (nd (yE b)))))) (nv ([1, 0, 0, 0] : List UInt64))))))), (38, .agg (zi (zh (nd (ZA 1 (nv (nd (zt 1 (nv (nd DN)) (nv (nd (zt 1 (nv (nd (yE b))) (nv (nd (yE b))))))))) (nv ([1, 0, 0, 0] : List UInt64)))))))] → Ev w [] wo [.box bk1 (bys (zy b 31 ((zb b 31 0) &&& (127 : UInt8)))) 22, .box bk6 ((zh (ze 4 0)) ++ ((zh (ze 4 0)) ++ ((zh (ze 4 0)) ++ (zh (ze 4 0))))) 43, .box bk41 (zh (nd (yE b))) 34, .box bk81 (zh (nd (zt 1 (nv (nd (yE b))) (nv (nd (yE b)))))) 34, .box bk113 (zh (nd DN)) 34] → G 9 #[true, true, true, true, true, true, true, true, false, false, false, false, false, false, false, false, false] ac wo := by
   intro _ _ En1123 Hv1124
   refine Zi hG ?_
   refine Qc [8, 14] (by kernel_rfl) rfl ?_
   refine ⟨?_, ?_, trivial⟩
   ·
    rintro _ rfl
    refine c_p En1123 Hv1124 (Xs _ 1 h1f hM1 (nd (ZA 1 (nv (nd (zt 1 (nv (nd DN)) (nv (nd (zt 1 (nv (nd (yE b))) (nv (nd (yE b))))))))) (nv ([1, 0, 0, 0] : List UInt64)))) (zl _ _)) fun _ _ En1130 Hv1131 => ?_
    refine ⟨fun _ => Hv1131.pk [3, 4], ?_⟩
    exact Qe hG (by kernel_rfl) (nd1069 _ _ (En1130.sb) (Hv1131.pk [0, 1, 2, 3, 4]))
   rintro _ rfl
   refine m_z 34 (zh (ze 4 0)) En1123 Hv1124 fun _ _ bk1132 En1135 Hv1136 => ?_
   refine ⟨fun _ => Hv1136.pk [3, 4], ?_⟩
   exact Qe hG (by kernel_rfl) (nd1086 _ _ bk1132 (En1135.sb) (Hv1136.pk [0, 1, 2, 3, 4, 5]))
  have nd1137 : ∀ (ac : Act) (wo : World) (bk843 : Nat), Env ac 67 [(1, pt bk1), (2, pt bk6), (3, .bool false), (4, bv ((zb b 31 0) >>> zF 7)), (5, pt bk41), (6, pt bk81), (7, pt bk113), (8, pt bk843), (33, .agg (zi (zh (nd (Zd 1 (nv (nd (zt 1 (nv (nd (yE b))) (nv (nd (yE b)))))) (nv ([1, 0, 0, 0] : List UInt64))))))), (36, .agg (zi (zh (nd (zt 1 (nv (nd DN)) (nv (nd (zt 1 (nv (nd (yE b))) (nv (nd (yE b))))))))))), (37, .agg (zi (zh ([1, 0, 0, 0] : List UInt64))))] → Ev w [] wo [.box bk1 (bys (zy b 31 ((zb b 31 0) &&& (127 : UInt8)))) 22, .box bk6 ((zh (ze 4 0)) ++ ((zh (ze 4 0)) ++ ((zh (ze 4 0)) ++ (zh (ze 4 0))))) 43, .box bk41 (zh (nd (yE b))) 34, .box bk81 (zh (nd (zt 1 (nv (nd (yE b))) (nv (nd (yE b)))))) 34, .box bk113 (zh (nd DN)) 34, .box bk843 (zh (ze 4 0)) 34] → G 9 #[true, true, true, true, true, true, true, false, false, false, false, false, false, false, true, false, false] ac wo := by
   intro _ _ bk843 En1140 Hv1141
   refine Zi hG ?_
   refine q_t 7 ?_
   refine c_p En1140 Hv1141 (Ju _ (nd (zt 1 (nv (nd DN)) (nv (nd (zt 1 (nv (nd (yE b))) (nv (nd (yE b)))))))) ([1, 0, 0, 0] : List UInt64) (zl _ _) (show za ([1, 0, 0, 0] : List UInt64) = 4 from rfl)) fun _ _ En1147 Hv1148 => ?_
   refine ⟨fun _ => Hv1148.pk [3, 4], ?_⟩
   refine q_t 8 ?_
   refine c_p En1147 Hv1148 (Xs _ 1 h1f hM1 (nd (ZA 1 (nv (nd (zt 1 (nv (nd DN)) (nv (nd (zt 1 (nv (nd (yE b))) (nv (nd (yE b))))))))) (nv ([1, 0, 0, 0] : List UInt64)))) (zl _ _)) fun _ _ En1154 Hv1155 => ?_
   refine ⟨fun _ => Hv1155.pk [3, 4], ?_⟩
   refine q_t 9 ?_
   refine c_p En1154 Hv1155 (Zv _ (nd (Zd 1 (nv (nd (zt 1 (nv (nd (yE b))) (nv (nd (yE b)))))) (nv ([1, 0, 0, 0] : List UInt64)))) (nd (z0 1 (nv (nd (ZA 1 (nv (nd (zt 1 (nv (nd DN)) (nv (nd (zt 1 (nv (nd (yE b))) (nv (nd (yE b))))))))) (nv ([1, 0, 0, 0] : List UInt64))))) (mF 1 - 2))) (zl _ _) (zl _ _)) fun _ _ En1161 Hv1162 => ?_
   refine ⟨fun _ => Hv1162.pk [3, 4], ?_⟩
   refine q_t 10 ?_
   refine c_p En1161 Hv1162 (root_tA _ (show (nd (zt 1 (nv (nd (Zd 1 (nv (nd (zt 1 (nv (nd (yE b))) (nv (nd (yE b)))))) (nv ([1, 0, 0, 0] : List UInt64))))) (nv (nd (z0 1 (nv (nd (ZA 1 (nv (nd (zt 1 (nv (nd DN)) (nv (nd (zt 1 (nv (nd (yE b))) (nv (nd (yE b))))))))) (nv ([1, 0, 0, 0] : List UInt64))))) (mF 1 - 2)))))) = nd (tA (yE b)) from tA_txt (nv_y hb))) fun _ _ En1168 Hv1169 => ?_
   refine ⟨fun _ => Hv1169.pk [3, 4], ?_⟩
   refine q_s [11,12,13] [] 2 En1168 (Hv1169.pk [3, 4]) fun _ En1171 => ?_
   refine q_t 15 ?_
   refine m_g 5 0 4 (zh (nd (rE (yE b)))) _ [.box bk1 (bys (zy b 31 ((zb b 31 0) &&& (127 : UInt8)))) 22, .box bk6 ((zh (ze 4 0)) ++ ((zh (ze 4 0)) ++ ((zh (ze 4 0)) ++ (zh (ze 4 0))))) 43, .box bk41 (zh (nd (yE b))) 34, .box bk81 (zh (nd (zt 1 (nv (nd (yE b))) (nv (nd (yE b)))))) 34, .box bk113 (zh (nd DN)) 34, .box bk843 (zh (nd (rE (yE b)))) 34] En1171 Hv1169 rfl (zc (zl _ _)) (by rw [(zc (zf))]; first | decide | (simp; done)) (zv _) (zs (zc (zf))) rfl fun _ _ En1174 Hv1175 => ?_
   refine ⟨fun _ => Hv1175.pk [3, 4], ?_⟩
   refine q_s [16] [] 0 En1174 (Hv1175.pk [3, 4]) fun _ En1177 => ?_
   exact h_e ⟨bk843, En1177.sb, Hv1175.pk [0, 1, 2, 3, 4, 5]⟩
  have nd1178 : ∀ (ac : Act) (wo : World), Env ac 67 [(1, pt bk1), (2, pt bk6), (3, .bool false), (4, bv ((zb b 31 0) >>> zF 7)), (5, pt bk41), (6, pt bk81), (7, pt bk113), (33, .agg (zi (zh (nd (Zd 1 (nv (nd (zt 1 (nv (nd (yE b))) (nv (nd (yE b)))))) (nv ([1, 0, 0, 0] : List UInt64))))))), (36, .agg (zi (zh (nd (zt 1 (nv (nd DN)) (nv (nd (zt 1 (nv (nd (yE b))) (nv (nd (yE b))))))))))), (37, .agg (zi (zh ([1, 0, 0, 0] : List UInt64))))] → Ev w [] wo [.box bk1 (bys (zy b 31 ((zb b 31 0) &&& (127 : UInt8)))) 22, .box bk6 ((zh (ze 4 0)) ++ ((zh (ze 4 0)) ++ ((zh (ze 4 0)) ++ (zh (ze 4 0))))) 43, .box bk41 (zh (nd (yE b))) 34, .box bk81 (zh (nd (zt 1 (nv (nd (yE b))) (nv (nd (yE b)))))) 34, .box bk113 (zh (nd DN)) 34] → G 10 #[true, true, true, true, true, true, true, false, false, false, false, false, false, false, false, false, false] ac wo := by
   intro _ _ En1181 Hv1182
   refine Zi hG ?_
   refine Qc [7, 14] (by kernel_rfl) rfl ?_
   refine ⟨?_, ?_, trivial⟩
   ·
    rintro _ rfl
    refine c_p En1181 Hv1182 (Ju _ (nd (zt 1 (nv (nd DN)) (nv (nd (zt 1 (nv (nd (yE b))) (nv (nd (yE b)))))))) ([1, 0, 0, 0] : List UInt64) (zl _ _) (show za ([1, 0, 0, 0] : List UInt64) = 4 from rfl)) fun _ _ En1188 Hv1189 => ?_
    refine ⟨fun _ => Hv1189.pk [3, 4], ?_⟩
    exact Qe hG (by kernel_rfl) (nd1120 _ _ (En1188.sb) (Hv1189.pk [0, 1, 2, 3, 4]))
   rintro _ rfl
   refine m_z 34 (zh (ze 4 0)) En1181 Hv1182 fun _ _ bk1190 En1193 Hv1194 => ?_
   refine ⟨fun _ => Hv1194.pk [3, 4], ?_⟩
   exact Qe hG (by kernel_rfl) (nd1137 _ _ bk1190 (En1193.sb) (Hv1194.pk [0, 1, 2, 3, 4, 5]))
  have nd1195 : ∀ (ac : Act) (wo : World) (bk884 : Nat), Env ac 67 [(1, pt bk1), (2, pt bk6), (3, .bool false), (4, bv ((zb b 31 0) >>> zF 7)), (5, pt bk41), (6, pt bk81), (7, pt bk113), (8, pt bk884), (33, .agg (zi (zh (nd (Zd 1 (nv (nd (zt 1 (nv (nd (yE b))) (nv (nd (yE b)))))) (nv ([1, 0, 0, 0] : List UInt64))))))), (34, .agg (zi (zh (nd DN)))), (35, .agg (zi (zh (nd (zt 1 (nv (nd (yE b))) (nv (nd (yE b)))))))), (37, .agg (zi (zh ([1, 0, 0, 0] : List UInt64))))] → Ev w [] wo [.box bk1 (bys (zy b 31 ((zb b 31 0) &&& (127 : UInt8)))) 22, .box bk6 ((zh (ze 4 0)) ++ ((zh (ze 4 0)) ++ ((zh (ze 4 0)) ++ (zh (ze 4 0))))) 43, .box bk41 (zh (nd (yE b))) 34, .box bk81 (zh (nd (zt 1 (nv (nd (yE b))) (nv (nd (yE b)))))) 34, .box bk113 (zh (nd DN)) 34, .box bk884 (zh (ze 4 0)) 34] → G 10 #[true, true, true, true, true, false, true, false, false, false, false, false, false, false, true, false, false] ac wo := by
   intro _ _ bk884 En1198 Hv1199
   refine Zi hG ?_
   refine q_t 5 ?_
   refine c_p En1198 Hv1199 (Zv _ (nd DN) (nd (zt 1 (nv (nd (yE b))) (nv (nd (yE b))))) (zl _ _) (zl _ _)) fun _ _ En1205 Hv1206 => ?_
   refine ⟨fun _ => Hv1206.pk [3, 4], ?_⟩
   refine q_t 7 ?_
   refine c_p En1205 Hv1206 (Ju _ (nd (zt 1 (nv (nd DN)) (nv (nd (zt 1 (nv (nd (yE b))) (nv (nd (yE b)))))))) ([1, 0, 0, 0] : List UInt64) (zl _ _) (show za ([1, 0, 0, 0] : List UInt64) = 4 from rfl)) fun _ _ En1212 Hv1213 => ?_
   refine ⟨fun _ => Hv1213.pk [3, 4], ?_⟩
   refine q_t 8 ?_
   refine c_p En1212 Hv1213 (Xs _ 1 h1f hM1 (nd (ZA 1 (nv (nd (zt 1 (nv (nd DN)) (nv (nd (zt 1 (nv (nd (yE b))) (nv (nd (yE b))))))))) (nv ([1, 0, 0, 0] : List UInt64)))) (zl _ _)) fun _ _ En1219 Hv1220 => ?_
   refine ⟨fun _ => Hv1220.pk [3, 4], ?_⟩
   refine q_t 9 ?_
   refine c_p En1219 Hv1220 (Zv _ (nd (Zd 1 (nv (nd (zt 1 (nv (nd (yE b))) (nv (nd (yE b)))))) (nv ([1, 0, 0, 0] : List UInt64)))) (nd (z0 1 (nv (nd (ZA 1 (nv (nd (zt 1 (nv (nd DN)) (nv (nd (zt 1 (nv (nd (yE b))) (nv (nd (yE b))))))))) (nv ([1, 0, 0, 0] : List UInt64))))) (mF 1 - 2))) (zl _ _) (zl _ _)) fun _ _ En1226 Hv1227 => ?_
   refine ⟨fun _ => Hv1227.pk [3, 4], ?_⟩
   refine q_t 10 ?_
   refine c_p En1226 Hv1227 (root_tA _ (show (nd (zt 1 (nv (nd (Zd 1 (nv (nd (zt 1 (nv (nd (yE b))) (nv (nd (yE b)))))) (nv ([1, 0, 0, 0] : List UInt64))))) (nv (nd (z0 1 (nv (nd (ZA 1 (nv (nd (zt 1 (nv (nd DN)) (nv (nd (zt 1 (nv (nd (yE b))) (nv (nd (yE b))))))))) (nv ([1, 0, 0, 0] : List UInt64))))) (mF 1 - 2)))))) = nd (tA (yE b)) from tA_txt (nv_y hb))) fun _ _ En1233 Hv1234 => ?_
   refine ⟨fun _ => Hv1234.pk [3, 4], ?_⟩
   refine q_s [11,12,13] [] 2 En1233 (Hv1234.pk [3, 4]) fun _ En1236 => ?_
   refine q_t 15 ?_
   refine m_g 5 0 4 (zh (nd (rE (yE b)))) _ [.box bk1 (bys (zy b 31 ((zb b 31 0) &&& (127 : UInt8)))) 22, .box bk6 ((zh (ze 4 0)) ++ ((zh (ze 4 0)) ++ ((zh (ze 4 0)) ++ (zh (ze 4 0))))) 43, .box bk41 (zh (nd (yE b))) 34, .box bk81 (zh (nd (zt 1 (nv (nd (yE b))) (nv (nd (yE b)))))) 34, .box bk113 (zh (nd DN)) 34, .box bk884 (zh (nd (rE (yE b)))) 34] En1236 Hv1234 rfl (zc (zl _ _)) (by rw [(zc (zf))]; first | decide | (simp; done)) (zv _) (zs (zc (zf))) rfl fun _ _ En1239 Hv1240 => ?_
   refine ⟨fun _ => Hv1240.pk [3, 4], ?_⟩
   refine q_s [16] [] 0 En1239 (Hv1240.pk [3, 4]) fun _ En1242 => ?_
   exact h_e ⟨bk884, En1242.sb, Hv1240.pk [0, 1, 2, 3, 4, 5]⟩
  have nd1243 : ∀ (ac : Act) (wo : World), Env ac 67 [(1, pt bk1), (2, pt bk6), (3, .bool false), (4, bv ((zb b 31 0) >>> zF 7)), (5, pt bk41), (6, pt bk81), (7, pt bk113), (33, .agg (zi (zh (nd (Zd 1 (nv (nd (zt 1 (nv (nd (yE b))) (nv (nd (yE b)))))) (nv ([1, 0, 0, 0] : List UInt64))))))), (34, .agg (zi (zh (nd DN)))), (35, .agg (zi (zh (nd (zt 1 (nv (nd (yE b))) (nv (nd (yE b)))))))), (37, .agg (zi (zh ([1, 0, 0, 0] : List UInt64))))] → Ev w [] wo [.box bk1 (bys (zy b 31 ((zb b 31 0) &&& (127 : UInt8)))) 22, .box bk6 ((zh (ze 4 0)) ++ ((zh (ze 4 0)) ++ ((zh (ze 4 0)) ++ (zh (ze 4 0))))) 43, .box bk41 (zh (nd (yE b))) 34, .box bk81 (zh (nd (zt 1 (nv (nd (yE b))) (nv (nd (yE b)))))) 34, .box bk113 (zh (nd DN)) 34] → G 11 #[true, true, true, true, true, false, true, false, false, false, false, false, false, false, false, false, false] ac wo := by
   intro _ _ En1246 Hv1247
   refine Zi hG ?_
   refine Qc [5, 14] (by kernel_rfl) rfl ?_
   refine ⟨?_, ?_, trivial⟩
   ·
    rintro _ rfl
    refine c_p En1246 Hv1247 (Zv _ (nd DN) (nd (zt 1 (nv (nd (yE b))) (nv (nd (yE b))))) (zl _ _) (zl _ _)) fun _ _ En1253 Hv1254 => ?_
    refine ⟨fun _ => Hv1254.pk [3, 4], ?_⟩
    exact Qe hG (by kernel_rfl) (nd1178 _ _ (En1253.sb) (Hv1254.pk [0, 1, 2, 3, 4]))
   rintro _ rfl
   refine m_z 34 (zh (ze 4 0)) En1246 Hv1247 fun _ _ bk1255 En1258 Hv1259 => ?_
   refine ⟨fun _ => Hv1259.pk [3, 4], ?_⟩
   exact Qe hG (by kernel_rfl) (nd1195 _ _ bk1255 (En1258.sb) (Hv1259.pk [0, 1, 2, 3, 4, 5]))
  have nd1260 : ∀ (ac : Act) (wo : World) (bk932 : Nat), Env ac 67 [(1, pt bk1), (2, pt bk6), (3, .bool false), (4, bv ((zb b 31 0) >>> zF 7)), (5, pt bk41), (6, pt bk81), (7, pt bk113), (8, pt bk932), (31, .agg (zi (zh (nd (zt 1 (nv (nd (yE b))) (nv (nd (yE b)))))))), (32, .agg (zi (zh ([1, 0, 0, 0] : List UInt64)))), (34, .agg (zi (zh (nd DN)))), (35, .agg (zi (zh (nd (zt 1 (nv (nd (yE b))) (nv (nd (yE b)))))))), (37, .agg (zi (zh ([1, 0, 0, 0] : List UInt64))))] → Ev w [] wo [.box bk1 (bys (zy b 31 ((zb b 31 0) &&& (127 : UInt8)))) 22, .box bk6 ((zh (ze 4 0)) ++ ((zh (ze 4 0)) ++ ((zh (ze 4 0)) ++ (zh (ze 4 0))))) 43, .box bk41 (zh (nd (yE b))) 34, .box bk81 (zh (nd (zt 1 (nv (nd (yE b))) (nv (nd (yE b)))))) 34, .box bk113 (zh (nd DN)) 34, .box bk932 (zh (ze 4 0)) 34] → G 11 #[true, true, false, true, true, false, true, false, false, false, false, false, false, false, true, false, false] ac wo := by
   intro _ _ bk932 En1263 Hv1264
   refine Zi hG ?_
   refine q_t 2 ?_
   refine c_p En1263 Hv1264 (edif_go _ (nd (zt 1 (nv (nd (yE b))) (nv (nd (yE b))))) ([1, 0, 0, 0] : List UInt64) (zl _ _) (show za ([1, 0, 0, 0] : List UInt64) = 4 from rfl)) fun _ _ En1270 Hv1271 => ?_
   refine ⟨fun _ => Hv1271.pk [3, 4], ?_⟩
   refine q_t 5 ?_
   refine c_p En1270 Hv1271 (Zv _ (nd DN) (nd (zt 1 (nv (nd (yE b))) (nv (nd (yE b))))) (zl _ _) (zl _ _)) fun _ _ En1277 Hv1278 => ?_
   refine ⟨fun _ => Hv1278.pk [3, 4], ?_⟩
   refine q_t 7 ?_
   refine c_p En1277 Hv1278 (Ju _ (nd (zt 1 (nv (nd DN)) (nv (nd (zt 1 (nv (nd (yE b))) (nv (nd (yE b)))))))) ([1, 0, 0, 0] : List UInt64) (zl _ _) (show za ([1, 0, 0, 0] : List UInt64) = 4 from rfl)) fun _ _ En1284 Hv1285 => ?_
   refine ⟨fun _ => Hv1285.pk [3, 4], ?_⟩
   refine q_t 8 ?_
   refine c_p En1284 Hv1285 (Xs _ 1 h1f hM1 (nd (ZA 1 (nv (nd (zt 1 (nv (nd DN)) (nv (nd (zt 1 (nv (nd (yE b))) (nv (nd (yE b))))))))) (nv ([1, 0, 0, 0] : List UInt64)))) (zl _ _)) fun _ _ En1291 Hv1292 => ?_
   refine ⟨fun _ => Hv1292.pk [3, 4], ?_⟩
   refine q_t 9 ?_
   refine c_p En1291 Hv1292 (Zv _ (nd (Zd 1 (nv (nd (zt 1 (nv (nd (yE b))) (nv (nd (yE b)))))) (nv ([1, 0, 0, 0] : List UInt64)))) (nd (z0 1 (nv (nd (ZA 1 (nv (nd (zt 1 (nv (nd DN)) (nv (nd (zt 1 (nv (nd (yE b))) (nv (nd (yE b))))))))) (nv ([1, 0, 0, 0] : List UInt64))))) (mF 1 - 2))) (zl _ _) (zl _ _)) fun _ _ En1298 Hv1299 => ?_
   refine ⟨fun _ => Hv1299.pk [3, 4], ?_⟩
   refine q_t 10 ?_
   refine c_p En1298 Hv1299 (root_tA _ (show (nd (zt 1 (nv (nd (Zd 1 (nv (nd (zt 1 (nv (nd (yE b))) (nv (nd (yE b)))))) (nv ([1, 0, 0, 0] : List UInt64))))) (nv (nd (z0 1 (nv (nd (ZA 1 (nv (nd (zt 1 (nv (nd DN)) (nv (nd (zt 1 (nv (nd (yE b))) (nv (nd (yE b))))))))) (nv ([1, 0, 0, 0] : List UInt64))))) (mF 1 - 2)))))) = nd (tA (yE b)) from tA_txt (nv_y hb))) fun _ _ En1305 Hv1306 => ?_
   refine ⟨fun _ => Hv1306.pk [3, 4], ?_⟩
   refine q_s [11,12,13] [] 2 En1305 (Hv1306.pk [3, 4]) fun _ En1308 => ?_
   refine q_t 15 ?_
   refine m_g 5 0 4 (zh (nd (rE (yE b)))) _ [.box bk1 (bys (zy b 31 ((zb b 31 0) &&& (127 : UInt8)))) 22, .box bk6 ((zh (ze 4 0)) ++ ((zh (ze 4 0)) ++ ((zh (ze 4 0)) ++ (zh (ze 4 0))))) 43, .box bk41 (zh (nd (yE b))) 34, .box bk81 (zh (nd (zt 1 (nv (nd (yE b))) (nv (nd (yE b)))))) 34, .box bk113 (zh (nd DN)) 34, .box bk932 (zh (nd (rE (yE b)))) 34] En1308 Hv1306 rfl (zc (zl _ _)) (by rw [(zc (zf))]; first | decide | (simp; done)) (zv _) (zs (zc (zf))) rfl fun _ _ En1311 Hv1312 => ?_
   refine ⟨fun _ => Hv1312.pk [3, 4], ?_⟩
   refine q_s [16] [] 0 En1311 (Hv1312.pk [3, 4]) fun _ En1314 => ?_
   exact h_e ⟨bk932, En1314.sb, Hv1312.pk [0, 1, 2, 3, 4, 5]⟩
  refine Zi hG ?_
  refine q_r 0 (s := Instr.loadAt 34 (pt bk81)) (v := .agg (zi (zh (nd (zt 1 (nv (nd (yE b))) (nv (nd (yE b)))))))) En120 (fun w hS => zR (m := 4) (cs := zh (nd (zt 1 (nv (nd (yE b))) (nv (nd (yE b)))))) (zc (zl _ _)) (by kernel_rfl) (by kernel_rfl) (hS.heap.cells (k := 0) (off := 0) (m := 4) rfl (zq (zc (zl _ _))))) (wo122.pk [3, 4]) fun _ En1316 => ?_
  refine q_s [1] [] 15 En1316 (wo122.pk [3, 4]) fun _ En1318 => ?_
  refine q_r 3 (s := Instr.loadAt 34 (pt bk113)) (v := .agg (zi (zh (nd DN)))) En1318 (fun w hS => zR (m := 4) (cs := zh (nd DN)) (zc (zl _ _)) (by kernel_rfl) (by kernel_rfl) (hS.heap.cells (k := 1) (off := 0) (m := 4) rfl (zq (zc (zl _ _))))) (wo122.pk [3, 4]) fun _ En1320 => ?_
  refine q_r 4 (s := Instr.loadAt 34 (pt bk81)) (v := .agg (zi (zh (nd (zt 1 (nv (nd (yE b))) (nv (nd (yE b)))))))) En1320 (fun w hS => zR (m := 4) (cs := zh (nd (zt 1 (nv (nd (yE b))) (nv (nd (yE b)))))) (zc (zl _ _)) (by kernel_rfl) (by kernel_rfl) (hS.heap.cells (k := 0) (off := 0) (m := 4) rfl (zq (zc (zl _ _))))) (wo122.pk [3, 4]) fun _ En1322 => ?_
  refine q_s [6] [] 12 En1322 (wo122.pk [3, 4]) fun _ En1324 => ?_
  refine Qc [2, 14] (by kernel_rfl) rfl ?_
  refine ⟨?_, ?_, trivial⟩
  ·
   rintro _ rfl
   refine c_p En1324 wo122 (edif_go _ (nd (zt 1 (nv (nd (yE b))) (nv (nd (yE b))))) ([1, 0, 0, 0] : List UInt64) (zl _ _) (show za ([1, 0, 0, 0] : List UInt64) = 4 from rfl)) fun _ _ En1330 Hv1331 => ?_
   refine ⟨fun _ => Hv1331.pk [3, 4], ?_⟩
   exact Qe hG (by kernel_rfl) (nd1243 _ _ (En1330.sb) (Hv1331.pk [0, 1, 2, 3, 4]))
  rintro _ rfl
  refine m_z 34 (zh (ze 4 0)) En1324 wo122 fun _ _ bk1332 En1335 Hv1336 => ?_
  refine ⟨fun _ => Hv1336.pk [3, 4], ?_⟩
  exact Qe hG (by kernel_rfl) (nd1260 _ _ bk1332 (En1335.sb) (Hv1336.pk [0, 1, 2, 3, 4, 5]))
 rintro _ _ ⟨bk751, En1339, Hv1340⟩
 refine zg <| wp_seq <| wp_seq <| zm <| d_k [1,2,3,4,5,6,7,8,46] [] 3 En1339 fun _ En1342 => ?_
 rcases ZC (!(Yv 1 (tA (yE b)))) with hb1343 | hb1343
 ·
  have En1344 := En1342.fx (t := 46) (congrArg Value.bool hb1343)
  have hp1345 : ¬ (Yv 1 (tA (yE b)) = true) := by simpa using hb1343
  refine d_e [1,2,3,4,5,6,7,8,54] [] En1344 fun _ En1347 => ?_
  refine zg <| c_t En1347 ?_
  refine wp_seq <| zm <| d_k [1,2,3,4,5,6,7,8,55] [] 1 En1347 fun _ En1349 => ?_
  refine f_o <| m_g 1 0 16 [.int .u64 0, .int .u64 0, .int .u64 0, .int .u64 0, .int .u64 0, .int .u64 0, .int .u64 0, .int .u64 0, .int .u64 0, .int .u64 0, .int .u64 0, .int .u64 0, .int .u64 0, .int .u64 0, .int .u64 0, .int .u64 0] _ [.box bk1 (bys (zy b 31 ((zb b 31 0) &&& (127 : UInt8)))) 22, .box bk6 [.int .u64 0, .int .u64 0, .int .u64 0, .int .u64 0, .int .u64 0, .int .u64 0, .int .u64 0, .int .u64 0, .int .u64 0, .int .u64 0, .int .u64 0, .int .u64 0, .int .u64 0, .int .u64 0, .int .u64 0, .int .u64 0] 43, .box bk41 (zh (nd (yE b))) 34, .box bk81 (zh (nd (zt 1 (nv (nd (yE b))) (nv (nd (yE b)))))) 34, .box bk113 (zh (nd DN)) 34, .box bk751 (zh (nd (rE (yE b)))) 34] En1349 Hv1340 rfl rfl (by rw [(zD (zc (zf)) (zD (zc (zf)) (zD (zc (zf)) (zc (zf)))))]; first | decide | (simp; done)) (one_all (by kernel_rfl)) (zs (zD (zc (zf)) (zD (zc (zf)) (zD (zc (zf)) (zc (zf)))))) rfl fun _ _ En1352 Hv1353 => ?_
  refine d_e [1,2,3,4,5,6,7,8] [] En1352 fun _ En1355 => ?_
  refine zg <| wp_ret <| Z0 <| Qq (v := .agg #[.int .u64 0, .int .u64 0, .int .u64 0, .int .u64 0, .int .u64 0, .int .u64 0, .int .u64 0, .int .u64 0, .int .u64 0, .int .u64 0, .int .u64 0, .int .u64 0, .int .u64 0, .int .u64 0, .int .u64 0, .int .u64 0]) (x := .bool false) (t := 2) (T := 43) (ad := ⟨bk6, 0, none⟩) (u := 3) En1355 (by kernel_rfl) (by kernel_rfl) (zM (t := 43) (k := 1) (off := 0) (m := 16) (xs := [.int .u64 0, .int .u64 0, .int .u64 0, .int .u64 0, .int .u64 0, .int .u64 0, .int .u64 0, .int .u64 0, .int .u64 0, .int .u64 0, .int .u64 0, .int .u64 0, .int .u64 0, .int .u64 0, .int .u64 0, .int .u64 0]) Hv1353 rfl rfl rfl (by kernel_rfl) (by kernel_rfl)) (by kernel_rfl) ?_
  have ei : isE b = false := no_2 (Q6.2 hp1345)
  exact ⟨(show _ = Ending.returned (.tuple #[.agg (zi (zh (ze 16 0))), .bool false]) from by kernel_rfl).trans (ret_to (to_no ei) ei.symm), Hv1353.pk []⟩
 have En1356 := En1342.fx (t := 46) (congrArg Value.bool hb1343)
 have hp1357 : Yv 1 (tA (yE b)) = true := by simpa using hb1343
 refine d_k [1,2,3,4,5,6,7,8,46,49] [] 6 En1356 fun _ En1359 => ?_
 rcases ZC (((Zn ((zb b 31 0) >>> zF 7) : Nat) : Int) == (1 : Int)) with hb1360 | hb1360
 ·
  have En1361 := En1359.fx (t := 49) (congrArg Value.bool hb1360)
  have hp1362 : ((Zn ((zb b 31 0) >>> zF 7) : Nat) : Int) = (1 : Int) := eq_of_beq hb1360
  refine f_o <| m_a 5 0 4 (zh (nd (rE (yE b)))) En1361 Hv1340 rfl (zq (zc (zl _ _))) (zc (zl _ _)) fun _ En1364 => ?_
  refine d_k [1,2,3,4,5,6,7,8,46,49,50,51] [] 8 En1364 fun _ En1366 => ?_
  refine f_o <| q_v (x := eqOp .eql 34 (.tmp 50) (.tmp 51) (.agg (zi (zh (nd (rE (yE b)))))) (.agg (zi (zh ([0, 0, 0, 0] : List UInt64))))) (v := .bool ((nd (rE (yE b))) == ([0, 0, 0, 0] : List UInt64))) En1366 (Go.Dbr.u64s_eqop (a := (.tmp 50)) (b := (.tmp 51)) (e := 32) (m := 4) (by kernel_rfl) (by kernel_rfl) (by kernel_rfl) (by kernel_rfl) (by kernel_rfl) (zl _ _) (show za ([0, 0, 0, 0] : List UInt64) = 4 from rfl) _) fun _ En1368 => ?_
  refine d_e [1,2,3,4,5,6,7,8,54] [] En1368 fun _ En1370 => ?_
  refine zg <| cond_at En1370 (t := (nd (rE (yE b))) == ([0, 0, 0, 0] : List UInt64)) (by kernel_rfl) (fun hc1371 => ?_) (fun hc1371 => ?_)
  ·
   replace hc1371 : (nd (rE (yE b))) = ([0, 0, 0, 0] : List UInt64) := eq_of_beq hc1371
   refine wp_seq <| zm <| d_k [1,2,3,4,5,6,7,8,55] [] 1 En1370 fun _ En1373 => ?_
   refine f_o <| m_g 1 0 16 [.int .u64 0, .int .u64 0, .int .u64 0, .int .u64 0, .int .u64 0, .int .u64 0, .int .u64 0, .int .u64 0, .int .u64 0, .int .u64 0, .int .u64 0, .int .u64 0, .int .u64 0, .int .u64 0, .int .u64 0, .int .u64 0] _ [.box bk1 (bys (zy b 31 ((zb b 31 0) &&& (127 : UInt8)))) 22, .box bk6 [.int .u64 0, .int .u64 0, .int .u64 0, .int .u64 0, .int .u64 0, .int .u64 0, .int .u64 0, .int .u64 0, .int .u64 0, .int .u64 0, .int .u64 0, .int .u64 0, .int .u64 0, .int .u64 0, .int .u64 0, .int .u64 0] 43, .box bk41 (zh (nd (yE b))) 34, .box bk81 (zh (nd (zt 1 (nv (nd (yE b))) (nv (nd (yE b)))))) 34, .box bk113 (zh (nd DN)) 34, .box bk751 (zh (nd (rE (yE b)))) 34] En1373 Hv1340 rfl rfl (by rw [(zD (zc (zf)) (zD (zc (zf)) (zD (zc (zf)) (zc (zf)))))]; first | decide | (simp; done)) (one_all (by kernel_rfl)) (zs (zD (zc (zf)) (zD (zc (zf)) (zD (zc (zf)) (zc (zf)))))) rfl fun _ _ En1376 Hv1377 => ?_
   refine d_e [1,2,3,4,5,6,7,8] [] En1376 fun _ En1379 => ?_
   refine zg <| wp_ret <| Z0 <| Qq (v := .agg #[.int .u64 0, .int .u64 0, .int .u64 0, .int .u64 0, .int .u64 0, .int .u64 0, .int .u64 0, .int .u64 0, .int .u64 0, .int .u64 0, .int .u64 0, .int .u64 0, .int .u64 0, .int .u64 0, .int .u64 0, .int .u64 0]) (x := .bool false) (t := 2) (T := 43) (ad := ⟨bk6, 0, none⟩) (u := 3) En1379 (by kernel_rfl) (by kernel_rfl) (zM (t := 43) (k := 1) (off := 0) (m := 16) (xs := [.int .u64 0, .int .u64 0, .int .u64 0, .int .u64 0, .int .u64 0, .int .u64 0, .int .u64 0, .int .u64 0, .int .u64 0, .int .u64 0, .int .u64 0, .int .u64 0, .int .u64 0, .int .u64 0, .int .u64 0, .int .u64 0]) Hv1377 rfl rfl rfl (by kernel_rfl) (by kernel_rfl)) (by kernel_rfl) ?_
   have ei : isE b = false := no_3 ((od_1 b).1 hp1362) hc1371
   exact ⟨(show _ = Ending.returned (.tuple #[.agg (zi (zh (ze 16 0))), .bool false]) from by kernel_rfl).trans (ret_to (to_no ei) ei.symm), Hv1377.pk []⟩
  replace hc1371 : ¬ ((nd (rE (yE b))) = ([0, 0, 0, 0] : List UInt64)) := ne_of_beq_false hc1371
  refine wp_skip <| zg <| wp_seq <| wp_seq <| d_r [1,2,3,4,5,6,7,8,57] [] En1370 fun _ En1381 => ?_
  refine zg <| c_e ((Zn ((zb b 31 0) >>> zF 7) : Nat) : Int) (1 : Int) En1381 (fun hc1382 => ?_) (fun hc1382 => ?_)
  ·
   refine zm <| f_o <| m_a 5 0 4 (zh (nd (rE (yE b)))) En1381 Hv1340 rfl (zq (zc (zl _ _))) (zc (zl _ _)) fun _ En1384 => ?_
   refine f_o <| c_p En1384 Hv1340 (neg_go _ 1 h1f (nd (rE (yE b))) (zl _ _)) fun _ _ En1390 Hv1391 => ?_
   refine f_o <| m_g 5 0 4 (zh (nd (Zd 1 0 (nv (nd (rE (yE b))))))) _ [.box bk1 (bys (zy b 31 ((zb b 31 0) &&& (127 : UInt8)))) 22, .box bk6 ((zh (ze 4 0)) ++ ((zh (ze 4 0)) ++ ((zh (ze 4 0)) ++ (zh (ze 4 0))))) 43, .box bk41 (zh (nd (yE b))) 34, .box bk81 (zh (nd (zt 1 (nv (nd (yE b))) (nv (nd (yE b)))))) 34, .box bk113 (zh (nd DN)) 34, .box bk751 (zh (nd (Zd 1 0 (nv (nd (rE (yE b))))))) 34] En1390 Hv1391 rfl (zc (zl _ _)) (by rw [(zc (zl _ _))]; first | decide | (simp; done)) (zv _) (zs (zc (zl _ _))) rfl fun _ _ En1394 Hv1395 => ?_
   refine f_e <| zg <| wp_seq <| r_c (fun ac wo => Env ac 67 [(1, pt bk1), (2, pt bk6), (3, .bool true), (4, bv ((zb b 31 0) >>> zF 7)), (5, pt bk41), (6, pt bk81), (7, pt bk113), (8, pt bk751)] ∧ Ev w [] wo [.box bk1 (bys (zy b 31 ((zb b 31 0) &&& (127 : UInt8)))) 22, .box bk6 ((zh (nd (Zd 1 0 (nv (nd (rE (yE b))))))) ++ ((zh (nd (yE b))) ++ ((zh ([1, 0, 0, 0] : List UInt64)) ++ (zh (nd (zt 1 (nv (nd (Zd 1 0 (nv (nd (rE (yE b))))))) (nv (nd (yE b))))))))) 43, .box bk41 (zh (nd (yE b))) 34, .box bk81 (zh (nd (zt 1 (nv (nd (yE b))) (nv (nd (yE b)))))) 34, .box bk113 (zh (nd DN)) 34, .box bk751 (zh (nd (Zd 1 0 (nv (nd (rE (yE b))))))) 34]) ?_ ?_
   ·
    refine s_g0 [(1, pt bk1), (2, pt bk6), (3, .bool false), (4, bv ((zb b 31 0) >>> zF 7)), (5, pt bk41), (6, pt bk81), (7, pt bk113), (8, pt bk751)] [0,1,2,3,4,5,6] [(60, .agg (zi (zh (nd (Zd 1 0 (nv (nd (rE (yE b))))))))), (61, .agg (zi (zh (nd (yE b))))), (62, .agg (zi (zh ([1, 0, 0, 0] : List UInt64)))), (63, .agg (zi (zh (nd (Zd 1 0 (nv (nd (rE (yE b))))))))), (64, .agg (zi (zh (nd (yE b))))), (65, .agg (zi (zh (nd (zt 1 (nv (nd (Zd 1 0 (nv (nd (rE (yE b))))))) (nv (nd (yE b)))))))), (66, .agg (zi ((zh (nd (Zd 1 0 (nv (nd (rE (yE b))))))) ++ ((zh (nd (yE b))) ++ ((zh ([1, 0, 0, 0] : List UInt64)) ++ (zh (nd (zt 1 (nv (nd (Zd 1 0 (nv (nd (rE (yE b))))))) (nv (nd (yE b)))))))))))] 2 [(1, pt bk1), (2, pt bk6), (3, .bool false), (4, bv ((zb b 31 0) >>> zF 7)), (5, pt bk41), (6, pt bk81), (7, pt bk113), (8, pt bk751), (66, .agg (zi ((zh (nd (Zd 1 0 (nv (nd (rE (yE b))))))) ++ ((zh (nd (yE b))) ++ ((zh ([1, 0, 0, 0] : List UInt64)) ++ (zh (nd (zt 1 (nv (nd (Zd 1 0 (nv (nd (rE (yE b))))))) (nv (nd (yE b)))))))))))] (En1394.sb) (Hv1395.trans (z4 Hv1395.heap)) ?_ fun _ _ En1427 Hv1428 => ?_
    ·
     refine s_a 5 0 4 (zh (nd (Zd 1 0 (nv (nd (rE (yE b))))))) rfl (zq (zc (zl _ _))) (zc (zl _ _)) ?_
     refine s_a 2 0 4 (zh (nd (yE b))) rfl (zq (zc (zl _ _))) (zc (zl _ _)) ?_
     refine s_p [] ?_
     refine s_a 5 0 4 (zh (nd (Zd 1 0 (nv (nd (rE (yE b))))))) rfl (zq (zc (zl _ _))) (zc (zl _ _)) ?_
     refine s_a 2 0 4 (zh (nd (yE b))) rfl (zq (zc (zl _ _))) (zc (zl _ _)) ?_
     refine s_f (fun _ => Zv _ (nd (Zd 1 0 (nv (nd (rE (yE b)))))) (nd (yE b)) (zl _ _) (zl _ _)) ?_
     refine s_p [] ?_
     exact s_n
    refine q_u 7 ?_
    refine m_g 1 0 16 ((zh (nd (Zd 1 0 (nv (nd (rE (yE b))))))) ++ ((zh (nd (yE b))) ++ ((zh ([1, 0, 0, 0] : List UInt64)) ++ (zh (nd (zt 1 (nv (nd (Zd 1 0 (nv (nd (rE (yE b))))))) (nv (nd (yE b))))))))) _ [.box bk1 (bys (zy b 31 ((zb b 31 0) &&& (127 : UInt8)))) 22, .box bk6 ((zh (nd (Zd 1 0 (nv (nd (rE (yE b))))))) ++ ((zh (nd (yE b))) ++ ((zh ([1, 0, 0, 0] : List UInt64)) ++ (zh (nd (zt 1 (nv (nd (Zd 1 0 (nv (nd (rE (yE b))))))) (nv (nd (yE b))))))))) 43, .box bk41 (zh (nd (yE b))) 34, .box bk81 (zh (nd (zt 1 (nv (nd (yE b))) (nv (nd (yE b)))))) 34, .box bk113 (zh (nd DN)) 34, .box bk751 (zh (nd (Zd 1 0 (nv (nd (rE (yE b))))))) 34] En1427 Hv1428 rfl (zD (zc (zl _ _)) (zD (zc (zl _ _)) (zD (zc (show za ([1, 0, 0, 0] : List UInt64) = 4 from rfl)) (zc (zl _ _))))) (by rw [(zD (zc (zf)) (zD (zc (zf)) (zD (zc (zf)) (zc (zf)))))]; first | decide | (simp; done)) (QH (zv _) (QH (zv _) (QH (zv _) (zv _)))) (zs (zD (zc (zf)) (zD (zc (zf)) (zD (zc (zf)) (zc (zf)))))) rfl fun _ _ En1437 Hv1438 => ?_
    refine q_a [8] [] 0 En1437 fun _ En1440 => ?_
    exact a_e ⟨En1440.sb, Hv1438.pk [0, 1, 2, 3, 4, 5]⟩
   rintro _ _ ⟨En1443, Hv1444⟩
   refine zg <| wp_ret <| Qq (v := .agg (zi ((zh (nd (Zd 1 0 (nv (nd (rE (yE b))))))) ++ ((zh (nd (yE b))) ++ ((zh ([1, 0, 0, 0] : List UInt64)) ++ (zh (nd (zt 1 (nv (nd (Zd 1 0 (nv (nd (rE (yE b))))))) (nv (nd (yE b))))))))))) (x := .bool true) (t := 2) (T := 43) (ad := ⟨bk6, 0, none⟩) (u := 3) En1443 (by kernel_rfl) (by kernel_rfl) (zM (t := 43) (k := 1) (off := 0) (m := 16) (xs := (zh (nd (Zd 1 0 (nv (nd (rE (yE b))))))) ++ ((zh (nd (yE b))) ++ ((zh ([1, 0, 0, 0] : List UInt64)) ++ (zh (nd (zt 1 (nv (nd (Zd 1 0 (nv (nd (rE (yE b))))))) (nv (nd (yE b))))))))) Hv1444 rfl (zq (zD (zc (zl _ _)) (zD (zc (zl _ _)) (zD (zc (show za ([1, 0, 0, 0] : List UInt64) = 4 from rfl)) (zc (zl _ _)))))) (zD (zc (zl _ _)) (zD (zc (zl _ _)) (zD (zc (show za ([1, 0, 0, 0] : List UInt64) = 4 from rfl)) (zc (zl _ _))))) (by kernel_rfl) (by kernel_rfl)) (by kernel_rfl) ?_
   have ho := (od_1 b).1 hp1362
   have ei : isE b = true := is_yes (by rw [← nv_y hb]; exact hc61) hp1357 (fun _ => hc1371)
   exact ⟨by rw [cat16]; exact ret_to ((pt_odd hb ho).trans (to_yes ei)) ei.symm, Hv1444.pk []⟩
  refine wp_skip <| zg <| wp_seq <| r_c (fun ac wo => Env ac 67 [(1, pt bk1), (2, pt bk6), (3, .bool true), (4, bv ((zb b 31 0) >>> zF 7)), (5, pt bk41), (6, pt bk81), (7, pt bk113), (8, pt bk751)] ∧ Ev w [] wo [.box bk1 (bys (zy b 31 ((zb b 31 0) &&& (127 : UInt8)))) 22, .box bk6 ((zh (nd (rE (yE b)))) ++ ((zh (nd (yE b))) ++ ((zh ([1, 0, 0, 0] : List UInt64)) ++ (zh (nd (zt 1 (nv (nd (rE (yE b)))) (nv (nd (yE b))))))))) 43, .box bk41 (zh (nd (yE b))) 34, .box bk81 (zh (nd (zt 1 (nv (nd (yE b))) (nv (nd (yE b)))))) 34, .box bk113 (zh (nd DN)) 34, .box bk751 (zh (nd (rE (yE b)))) 34]) ?_ ?_
  ·
   refine s_g0 [(1, pt bk1), (2, pt bk6), (3, .bool false), (4, bv ((zb b 31 0) >>> zF 7)), (5, pt bk41), (6, pt bk81), (7, pt bk113), (8, pt bk751)] [0,1,2,3,4,5,6] [(60, .agg (zi (zh (nd (rE (yE b)))))), (61, .agg (zi (zh (nd (yE b))))), (62, .agg (zi (zh ([1, 0, 0, 0] : List UInt64)))), (63, .agg (zi (zh (nd (rE (yE b)))))), (64, .agg (zi (zh (nd (yE b))))), (65, .agg (zi (zh (nd (zt 1 (nv (nd (rE (yE b)))) (nv (nd (yE b)))))))), (66, .agg (zi ((zh (nd (rE (yE b)))) ++ ((zh (nd (yE b))) ++ ((zh ([1, 0, 0, 0] : List UInt64)) ++ (zh (nd (zt 1 (nv (nd (rE (yE b)))) (nv (nd (yE b)))))))))))] 2 [(1, pt bk1), (2, pt bk6), (3, .bool false), (4, bv ((zb b 31 0) >>> zF 7)), (5, pt bk41), (6, pt bk81), (7, pt bk113), (8, pt bk751), (66, .agg (zi ((zh (nd (rE (yE b)))) ++ ((zh (nd (yE b))) ++ ((zh ([1, 0, 0, 0] : List UInt64)) ++ (zh (nd (zt 1 (nv (nd (rE (yE b)))) (nv (nd (yE b)))))))))))] (En1381.sb) (Hv1340.trans (z4 Hv1340.heap)) ?_ fun _ _ En1476 Hv1477 => ?_
   ·
    refine s_a 5 0 4 (zh (nd (rE (yE b)))) rfl (zq (zc (zl _ _))) (zc (zl _ _)) ?_
    refine s_a 2 0 4 (zh (nd (yE b))) rfl (zq (zc (zl _ _))) (zc (zl _ _)) ?_
    refine s_p [] ?_
    refine s_a 5 0 4 (zh (nd (rE (yE b)))) rfl (zq (zc (zl _ _))) (zc (zl _ _)) ?_
    refine s_a 2 0 4 (zh (nd (yE b))) rfl (zq (zc (zl _ _))) (zc (zl _ _)) ?_
    refine s_f (fun _ => Zv _ (nd (rE (yE b))) (nd (yE b)) (zl _ _) (zl _ _)) ?_
    refine s_p [] ?_
    exact s_n
   refine q_u 7 ?_
   refine m_g 1 0 16 ((zh (nd (rE (yE b)))) ++ ((zh (nd (yE b))) ++ ((zh ([1, 0, 0, 0] : List UInt64)) ++ (zh (nd (zt 1 (nv (nd (rE (yE b)))) (nv (nd (yE b))))))))) _ [.box bk1 (bys (zy b 31 ((zb b 31 0) &&& (127 : UInt8)))) 22, .box bk6 ((zh (nd (rE (yE b)))) ++ ((zh (nd (yE b))) ++ ((zh ([1, 0, 0, 0] : List UInt64)) ++ (zh (nd (zt 1 (nv (nd (rE (yE b)))) (nv (nd (yE b))))))))) 43, .box bk41 (zh (nd (yE b))) 34, .box bk81 (zh (nd (zt 1 (nv (nd (yE b))) (nv (nd (yE b)))))) 34, .box bk113 (zh (nd DN)) 34, .box bk751 (zh (nd (rE (yE b)))) 34] En1476 Hv1477 rfl (zD (zc (zl _ _)) (zD (zc (zl _ _)) (zD (zc (show za ([1, 0, 0, 0] : List UInt64) = 4 from rfl)) (zc (zl _ _))))) (by rw [(zD (zc (zf)) (zD (zc (zf)) (zD (zc (zf)) (zc (zf)))))]; first | decide | (simp; done)) (QH (zv _) (QH (zv _) (QH (zv _) (zv _)))) (zs (zD (zc (zf)) (zD (zc (zf)) (zD (zc (zf)) (zc (zf)))))) rfl fun _ _ En1486 Hv1487 => ?_
   refine q_a [8] [] 0 En1486 fun _ En1489 => ?_
   exact a_e ⟨En1489.sb, Hv1487.pk [0, 1, 2, 3, 4, 5]⟩
  rintro _ _ ⟨En1492, Hv1493⟩
  refine zg <| wp_ret <| Qq (v := .agg (zi ((zh (nd (rE (yE b)))) ++ ((zh (nd (yE b))) ++ ((zh ([1, 0, 0, 0] : List UInt64)) ++ (zh (nd (zt 1 (nv (nd (rE (yE b)))) (nv (nd (yE b))))))))))) (x := .bool true) (t := 2) (T := 43) (ad := ⟨bk6, 0, none⟩) (u := 3) En1492 (by kernel_rfl) (by kernel_rfl) (zM (t := 43) (k := 1) (off := 0) (m := 16) (xs := (zh (nd (rE (yE b)))) ++ ((zh (nd (yE b))) ++ ((zh ([1, 0, 0, 0] : List UInt64)) ++ (zh (nd (zt 1 (nv (nd (rE (yE b)))) (nv (nd (yE b))))))))) Hv1493 rfl (zq (zD (zc (zl _ _)) (zD (zc (zl _ _)) (zD (zc (show za ([1, 0, 0, 0] : List UInt64) = 4 from rfl)) (zc (zl _ _)))))) (zD (zc (zl _ _)) (zD (zc (zl _ _)) (zD (zc (show za ([1, 0, 0, 0] : List UInt64) = 4 from rfl)) (zc (zl _ _))))) (by kernel_rfl) (by kernel_rfl)) (by kernel_rfl) ?_
  exact absurd hp1362 hc1382
 have En1494 := En1359.fx (t := 49) (congrArg Value.bool hb1360)
 have hp1495 : ¬ (((Zn ((zb b 31 0) >>> zF 7) : Nat) : Int) = (1 : Int)) := ne_of_beq_false hb1360
 refine d_e [1,2,3,4,5,6,7,8,54] [] En1494 fun _ En1497 => ?_
 refine zg <| c_f En1497 ?_
 refine wp_skip <| zg <| wp_seq <| wp_seq <| d_r [1,2,3,4,5,6,7,8,57] [] En1497 fun _ En1499 => ?_
 refine zg <| c_e ((Zn ((zb b 31 0) >>> zF 7) : Nat) : Int) (1 : Int) En1499 (fun hc1500 => ?_) (fun hc1500 => ?_)
 ·
  refine zm <| f_o <| m_a 5 0 4 (zh (nd (rE (yE b)))) En1499 Hv1340 rfl (zq (zc (zl _ _))) (zc (zl _ _)) fun _ En1502 => ?_
  refine f_o <| c_p En1502 Hv1340 (neg_go _ 1 h1f (nd (rE (yE b))) (zl _ _)) fun _ _ En1508 Hv1509 => ?_
  refine f_o <| m_g 5 0 4 (zh (nd (Zd 1 0 (nv (nd (rE (yE b))))))) _ [.box bk1 (bys (zy b 31 ((zb b 31 0) &&& (127 : UInt8)))) 22, .box bk6 ((zh (ze 4 0)) ++ ((zh (ze 4 0)) ++ ((zh (ze 4 0)) ++ (zh (ze 4 0))))) 43, .box bk41 (zh (nd (yE b))) 34, .box bk81 (zh (nd (zt 1 (nv (nd (yE b))) (nv (nd (yE b)))))) 34, .box bk113 (zh (nd DN)) 34, .box bk751 (zh (nd (Zd 1 0 (nv (nd (rE (yE b))))))) 34] En1508 Hv1509 rfl (zc (zl _ _)) (by rw [(zc (zl _ _))]; first | decide | (simp; done)) (zv _) (zs (zc (zl _ _))) rfl fun _ _ En1512 Hv1513 => ?_
  refine f_e <| zg <| wp_seq <| r_c (fun ac wo => Env ac 67 [(1, pt bk1), (2, pt bk6), (3, .bool true), (4, bv ((zb b 31 0) >>> zF 7)), (5, pt bk41), (6, pt bk81), (7, pt bk113), (8, pt bk751)] ∧ Ev w [] wo [.box bk1 (bys (zy b 31 ((zb b 31 0) &&& (127 : UInt8)))) 22, .box bk6 ((zh (nd (Zd 1 0 (nv (nd (rE (yE b))))))) ++ ((zh (nd (yE b))) ++ ((zh ([1, 0, 0, 0] : List UInt64)) ++ (zh (nd (zt 1 (nv (nd (Zd 1 0 (nv (nd (rE (yE b))))))) (nv (nd (yE b))))))))) 43, .box bk41 (zh (nd (yE b))) 34, .box bk81 (zh (nd (zt 1 (nv (nd (yE b))) (nv (nd (yE b)))))) 34, .box bk113 (zh (nd DN)) 34, .box bk751 (zh (nd (Zd 1 0 (nv (nd (rE (yE b))))))) 34]) ?_ ?_
  ·
   refine s_g0 [(1, pt bk1), (2, pt bk6), (3, .bool false), (4, bv ((zb b 31 0) >>> zF 7)), (5, pt bk41), (6, pt bk81), (7, pt bk113), (8, pt bk751)] [0,1,2,3,4,5,6] [(60, .agg (zi (zh (nd (Zd 1 0 (nv (nd (rE (yE b))))))))), (61, .agg (zi (zh (nd (yE b))))), (62, .agg (zi (zh ([1, 0, 0, 0] : List UInt64)))), (63, .agg (zi (zh (nd (Zd 1 0 (nv (nd (rE (yE b))))))))), (64, .agg (zi (zh (nd (yE b))))), (65, .agg (zi (zh (nd (zt 1 (nv (nd (Zd 1 0 (nv (nd (rE (yE b))))))) (nv (nd (yE b)))))))), (66, .agg (zi ((zh (nd (Zd 1 0 (nv (nd (rE (yE b))))))) ++ ((zh (nd (yE b))) ++ ((zh ([1, 0, 0, 0] : List UInt64)) ++ (zh (nd (zt 1 (nv (nd (Zd 1 0 (nv (nd (rE (yE b))))))) (nv (nd (yE b)))))))))))] 2 [(1, pt bk1), (2, pt bk6), (3, .bool false), (4, bv ((zb b 31 0) >>> zF 7)), (5, pt bk41), (6, pt bk81), (7, pt bk113), (8, pt bk751), (66, .agg (zi ((zh (nd (Zd 1 0 (nv (nd (rE (yE b))))))) ++ ((zh (nd (yE b))) ++ ((zh ([1, 0, 0, 0] : List UInt64)) ++ (zh (nd (zt 1 (nv (nd (Zd 1 0 (nv (nd (rE (yE b))))))) (nv (nd (yE b)))))))))))] (En1512.sb) (Hv1513.trans (z4 Hv1513.heap)) ?_ fun _ _ En1545 Hv1546 => ?_
   ·
    refine s_a 5 0 4 (zh (nd (Zd 1 0 (nv (nd (rE (yE b))))))) rfl (zq (zc (zl _ _))) (zc (zl _ _)) ?_
    refine s_a 2 0 4 (zh (nd (yE b))) rfl (zq (zc (zl _ _))) (zc (zl _ _)) ?_
    refine s_p [] ?_
    refine s_a 5 0 4 (zh (nd (Zd 1 0 (nv (nd (rE (yE b))))))) rfl (zq (zc (zl _ _))) (zc (zl _ _)) ?_
    refine s_a 2 0 4 (zh (nd (yE b))) rfl (zq (zc (zl _ _))) (zc (zl _ _)) ?_
    refine s_f (fun _ => Zv _ (nd (Zd 1 0 (nv (nd (rE (yE b)))))) (nd (yE b)) (zl _ _) (zl _ _)) ?_
    refine s_p [] ?_
    exact s_n
   refine q_u 7 ?_
   refine m_g 1 0 16 ((zh (nd (Zd 1 0 (nv (nd (rE (yE b))))))) ++ ((zh (nd (yE b))) ++ ((zh ([1, 0, 0, 0] : List UInt64)) ++ (zh (nd (zt 1 (nv (nd (Zd 1 0 (nv (nd (rE (yE b))))))) (nv (nd (yE b))))))))) _ [.box bk1 (bys (zy b 31 ((zb b 31 0) &&& (127 : UInt8)))) 22, .box bk6 ((zh (nd (Zd 1 0 (nv (nd (rE (yE b))))))) ++ ((zh (nd (yE b))) ++ ((zh ([1, 0, 0, 0] : List UInt64)) ++ (zh (nd (zt 1 (nv (nd (Zd 1 0 (nv (nd (rE (yE b))))))) (nv (nd (yE b))))))))) 43, .box bk41 (zh (nd (yE b))) 34, .box bk81 (zh (nd (zt 1 (nv (nd (yE b))) (nv (nd (yE b)))))) 34, .box bk113 (zh (nd DN)) 34, .box bk751 (zh (nd (Zd 1 0 (nv (nd (rE (yE b))))))) 34] En1545 Hv1546 rfl (zD (zc (zl _ _)) (zD (zc (zl _ _)) (zD (zc (show za ([1, 0, 0, 0] : List UInt64) = 4 from rfl)) (zc (zl _ _))))) (by rw [(zD (zc (zf)) (zD (zc (zf)) (zD (zc (zf)) (zc (zf)))))]; first | decide | (simp; done)) (QH (zv _) (QH (zv _) (QH (zv _) (zv _)))) (zs (zD (zc (zf)) (zD (zc (zf)) (zD (zc (zf)) (zc (zf)))))) rfl fun _ _ En1555 Hv1556 => ?_
   refine q_a [8] [] 0 En1555 fun _ En1558 => ?_
   exact a_e ⟨En1558.sb, Hv1556.pk [0, 1, 2, 3, 4, 5]⟩
  rintro _ _ ⟨En1561, Hv1562⟩
  refine zg <| wp_ret <| Qq (v := .agg (zi ((zh (nd (Zd 1 0 (nv (nd (rE (yE b))))))) ++ ((zh (nd (yE b))) ++ ((zh ([1, 0, 0, 0] : List UInt64)) ++ (zh (nd (zt 1 (nv (nd (Zd 1 0 (nv (nd (rE (yE b))))))) (nv (nd (yE b))))))))))) (x := .bool true) (t := 2) (T := 43) (ad := ⟨bk6, 0, none⟩) (u := 3) En1561 (by kernel_rfl) (by kernel_rfl) (zM (t := 43) (k := 1) (off := 0) (m := 16) (xs := (zh (nd (Zd 1 0 (nv (nd (rE (yE b))))))) ++ ((zh (nd (yE b))) ++ ((zh ([1, 0, 0, 0] : List UInt64)) ++ (zh (nd (zt 1 (nv (nd (Zd 1 0 (nv (nd (rE (yE b))))))) (nv (nd (yE b))))))))) Hv1562 rfl (zq (zD (zc (zl _ _)) (zD (zc (zl _ _)) (zD (zc (show za ([1, 0, 0, 0] : List UInt64) = 4 from rfl)) (zc (zl _ _)))))) (zD (zc (zl _ _)) (zD (zc (zl _ _)) (zD (zc (show za ([1, 0, 0, 0] : List UInt64) = 4 from rfl)) (zc (zl _ _))))) (by kernel_rfl) (by kernel_rfl)) (by kernel_rfl) ?_
  exact absurd hc1500 hp1495
 refine wp_skip <| zg <| wp_seq <| r_c (fun ac wo => Env ac 67 [(1, pt bk1), (2, pt bk6), (3, .bool true), (4, bv ((zb b 31 0) >>> zF 7)), (5, pt bk41), (6, pt bk81), (7, pt bk113), (8, pt bk751)] ∧ Ev w [] wo [.box bk1 (bys (zy b 31 ((zb b 31 0) &&& (127 : UInt8)))) 22, .box bk6 ((zh (nd (rE (yE b)))) ++ ((zh (nd (yE b))) ++ ((zh ([1, 0, 0, 0] : List UInt64)) ++ (zh (nd (zt 1 (nv (nd (rE (yE b)))) (nv (nd (yE b))))))))) 43, .box bk41 (zh (nd (yE b))) 34, .box bk81 (zh (nd (zt 1 (nv (nd (yE b))) (nv (nd (yE b)))))) 34, .box bk113 (zh (nd DN)) 34, .box bk751 (zh (nd (rE (yE b)))) 34]) ?_ ?_
 ·
  refine s_g0 [(1, pt bk1), (2, pt bk6), (3, .bool false), (4, bv ((zb b 31 0) >>> zF 7)), (5, pt bk41), (6, pt bk81), (7, pt bk113), (8, pt bk751)] [0,1,2,3,4,5,6] [(60, .agg (zi (zh (nd (rE (yE b)))))), (61, .agg (zi (zh (nd (yE b))))), (62, .agg (zi (zh ([1, 0, 0, 0] : List UInt64)))), (63, .agg (zi (zh (nd (rE (yE b)))))), (64, .agg (zi (zh (nd (yE b))))), (65, .agg (zi (zh (nd (zt 1 (nv (nd (rE (yE b)))) (nv (nd (yE b)))))))), (66, .agg (zi ((zh (nd (rE (yE b)))) ++ ((zh (nd (yE b))) ++ ((zh ([1, 0, 0, 0] : List UInt64)) ++ (zh (nd (zt 1 (nv (nd (rE (yE b)))) (nv (nd (yE b)))))))))))] 2 [(1, pt bk1), (2, pt bk6), (3, .bool false), (4, bv ((zb b 31 0) >>> zF 7)), (5, pt bk41), (6, pt bk81), (7, pt bk113), (8, pt bk751), (66, .agg (zi ((zh (nd (rE (yE b)))) ++ ((zh (nd (yE b))) ++ ((zh ([1, 0, 0, 0] : List UInt64)) ++ (zh (nd (zt 1 (nv (nd (rE (yE b)))) (nv (nd (yE b)))))))))))] (En1499.sb) (Hv1340.trans (z4 Hv1340.heap)) ?_ fun _ _ En1594 Hv1595 => ?_
  ·
   refine s_a 5 0 4 (zh (nd (rE (yE b)))) rfl (zq (zc (zl _ _))) (zc (zl _ _)) ?_
   refine s_a 2 0 4 (zh (nd (yE b))) rfl (zq (zc (zl _ _))) (zc (zl _ _)) ?_
   refine s_p [] ?_
   refine s_a 5 0 4 (zh (nd (rE (yE b)))) rfl (zq (zc (zl _ _))) (zc (zl _ _)) ?_
   refine s_a 2 0 4 (zh (nd (yE b))) rfl (zq (zc (zl _ _))) (zc (zl _ _)) ?_
   refine s_f (fun _ => Zv _ (nd (rE (yE b))) (nd (yE b)) (zl _ _) (zl _ _)) ?_
   refine s_p [] ?_
   exact s_n
  refine q_u 7 ?_
  refine m_g 1 0 16 ((zh (nd (rE (yE b)))) ++ ((zh (nd (yE b))) ++ ((zh ([1, 0, 0, 0] : List UInt64)) ++ (zh (nd (zt 1 (nv (nd (rE (yE b)))) (nv (nd (yE b))))))))) _ [.box bk1 (bys (zy b 31 ((zb b 31 0) &&& (127 : UInt8)))) 22, .box bk6 ((zh (nd (rE (yE b)))) ++ ((zh (nd (yE b))) ++ ((zh ([1, 0, 0, 0] : List UInt64)) ++ (zh (nd (zt 1 (nv (nd (rE (yE b)))) (nv (nd (yE b))))))))) 43, .box bk41 (zh (nd (yE b))) 34, .box bk81 (zh (nd (zt 1 (nv (nd (yE b))) (nv (nd (yE b)))))) 34, .box bk113 (zh (nd DN)) 34, .box bk751 (zh (nd (rE (yE b)))) 34] En1594 Hv1595 rfl (zD (zc (zl _ _)) (zD (zc (zl _ _)) (zD (zc (show za ([1, 0, 0, 0] : List UInt64) = 4 from rfl)) (zc (zl _ _))))) (by rw [(zD (zc (zf)) (zD (zc (zf)) (zD (zc (zf)) (zc (zf)))))]; first | decide | (simp; done)) (QH (zv _) (QH (zv _) (QH (zv _) (zv _)))) (zs (zD (zc (zf)) (zD (zc (zf)) (zD (zc (zf)) (zc (zf)))))) rfl fun _ _ En1604 Hv1605 => ?_
  refine q_a [8] [] 0 En1604 fun _ En1607 => ?_
  exact a_e ⟨En1607.sb, Hv1605.pk [0, 1, 2, 3, 4, 5]⟩
 rintro _ _ ⟨En1610, Hv1611⟩
 refine zg <| wp_ret <| Qq (v := .agg (zi ((zh (nd (rE (yE b)))) ++ ((zh (nd (yE b))) ++ ((zh ([1, 0, 0, 0] : List UInt64)) ++ (zh (nd (zt 1 (nv (nd (rE (yE b)))) (nv (nd (yE b))))))))))) (x := .bool true) (t := 2) (T := 43) (ad := ⟨bk6, 0, none⟩) (u := 3) En1610 (by kernel_rfl) (by kernel_rfl) (zM (t := 43) (k := 1) (off := 0) (m := 16) (xs := (zh (nd (rE (yE b)))) ++ ((zh (nd (yE b))) ++ ((zh ([1, 0, 0, 0] : List UInt64)) ++ (zh (nd (zt 1 (nv (nd (rE (yE b)))) (nv (nd (yE b))))))))) Hv1611 rfl (zq (zD (zc (zl _ _)) (zD (zc (zl _ _)) (zD (zc (show za ([1, 0, 0, 0] : List UInt64) = 4 from rfl)) (zc (zl _ _)))))) (zD (zc (zl _ _)) (zD (zc (zl _ _)) (zD (zc (show za ([1, 0, 0, 0] : List UInt64) = 4 from rfl)) (zc (zl _ _))))) (by kernel_rfl) (by kernel_rfl)) (by kernel_rfl) ?_
 have ho : odE b = false := Q6.2 (fun g => hp1495 ((od_1 b).2 g))
 have ei : isE b = true := is_yes (by rw [← nv_y hb]; exact hc61) hp1357 (fun g => absurd ((od_1 b).2 g) hp1495)
 exact ⟨by rw [cat16]; exact ret_to ((pt_even hb ho).trans (to_yes ei)) ei.symm, Hv1611.pk []⟩

end Go.Proofs.YtlnogkmnklfjlaaDoor

/- Layer 12: the base; the document: points of bytes. -/

namespace Go.Proofs.YtlnogkmnklfjlaaDoor
open Go.Dbr
set_option maxRecDepth 100000
set_option maxHeartbeats 2000000
set_option linter.unusedVariables false
set_option linter.unusedSimpArgs false

theorem base_toL : toL baseB = Z7 := by rw [toL, base_pt.1, base_y.1, base_y.2]; rfl
theorem base_told (w : World) : Calls Tryd.prog 16 #[.agg #[.int .u8 88, .int .u8 102, .int .u8 102, .int .u8 102, .int .u8 102, .int .u8 102, .int .u8 102, .int .u8 102, .int .u8 102, .int .u8 102, .int .u8 102, .int .u8 102, .int .u8 102, .int .u8 102, .int .u8 102, .int .u8 102, .int .u8 102, .int .u8 102, .int .u8 102, .int .u8 102, .int .u8 102, .int .u8 102, .int .u8 102, .int .u8 102, .int .u8 102, .int .u8 102, .int .u8 102, .int .u8 102, .int .u8 102, .int .u8 102, .int .u8 102, .int .u8 102]] w fun e w' => e = .returned (.tuple #[.agg (zi (zh Z7)), .bool (isE baseB)]) ∧ Ev w [] w' [] := by
  have h := told_go w baseB rfl
  rw [base_toL] at h
  exact h

theorem base_go (w : World) : Calls Tryd.prog 22 #[] w fun e w' => e = .returned (.agg (zi (zh Z7))) ∧ Ev w [] w' [] := by
 refine d_0 [] 9 Go.Proofs.Tryd.func22 Go.Proofs.Tryd.ntmps22 (Heap.nil _) fun act0 En0 Hv0 => ?_
 refine wp_seq <| zm <| f_o <| m_z 43 ((zh (ze 4 0)) ++ ((zh (ze 4 0)) ++ ((zh (ze 4 0)) ++ (zh (ze 4 0))))) En0 Hv0 fun _ _ bk1 En4 Hv5 => ?_
 refine f_e <| zg <| wp_seq <| zm <| d_k [0,4] [] 1 En4 fun _ En7 => ?_
 refine f_o <| c_p En7 Hv5 (base_told _) fun _ _ En13 Hv14 => ?_
 refine d_k [0,6,7] [] 5 En13 fun _ En16 => ?_
 refine f_o <| m_z 43 ((zh (ze 4 0)) ++ ((zh (ze 4 0)) ++ ((zh (ze 4 0)) ++ (zh (ze 4 0))))) En16 Hv14 fun _ _ bk17 En20 Hv21 => ?_
 refine f_o <| m_g 1 0 16 (zh Z7) _ [.box bk1 ((zh (ze 4 0)) ++ ((zh (ze 4 0)) ++ ((zh (ze 4 0)) ++ (zh (ze 4 0))))) 43, .box bk17 (zh Z7) 43] En20 Hv21 rfl (zc (Ja _ _)) (by rw [(zD (zc (zf)) (zD (zc (zf)) (zD (zc (zf)) (zc (zf)))))]; first | decide | (simp; done)) (zv _) (zs (zD (zc (zf)) (zD (zc (zf)) (zD (zc (zf)) (zc (zf)))))) rfl fun _ _ En24 Hv25 => ?_
 refine d_e [0,1] [] En24 fun _ En27 => ?_
 refine zg <| wp_seq <| zm <| f_o <| m_a 1 0 16 (zh Z7) En27 Hv25 rfl (zq (zc (Ja _ _))) (zc (Ja _ _)) fun _ En29 => ?_
 refine f_o <| m_g 0 0 16 (zh Z7) _ [.box bk1 (zh Z7) 43, .box bk17 (zh Z7) 43] En29 Hv25 rfl (zc (Ja _ _)) (by rw [(zD (zc (zf)) (zD (zc (zf)) (zD (zc (zf)) (zc (zf)))))]; first | decide | (simp; done)) (zv _) (zs (zD (zc (zf)) (zD (zc (zf)) (zD (zc (zf)) (zc (zf)))))) rfl fun _ _ En32 Hv33 => ?_
 refine f_e <| zg <| wp_ret <| d_cell1 (v := .agg (zi (zh Z7))) (t := 0) (T := 43) (ad := ⟨bk1, 0, none⟩) En32 (by kernel_rfl) (by kernel_rfl) (zM (t := 43) (k := 0) (off := 0) (m := 16) (xs := zh Z7) Hv33 rfl (zq (zc (Ja _ _))) (zc (Ja _ _)) (by kernel_rfl) (by kernel_rfl)) ?_
 exact ⟨rfl, Hv33.pk []⟩

theorem point_go (w : World) (b : List UInt8) (hb : za b = 32) : Calls Tryd.prog 7 #[.agg (zi (bys b))] w fun e w' => e = .returned (.bool (isE b)) ∧ Ev w [] w' [] := by
 refine d_0 [(0, .agg (zi (bys b)))] 11 Go.Proofs.Tryd.func7 Go.Proofs.Tryd.ntmps7 (Heap.nil _) fun act0 En0 Hv0 => ?_
 refine wp_seq <| zm <| f_o <| m_m 22 (bys b) En0 Hv0 fun _ _ bk1 En4 Hv5 => ?_
 refine d_e [1,2] [] En4 fun _ En7 => ?_
 refine zg <| wp_seq <| zm <| f_o <| m_a 0 0 32 (bys b) En7 Hv5 rfl (zq (zC hb)) (zC hb) fun _ En9 => ?_
 refine f_o <| c_p En9 Hv5 (told_go _ b hb) fun _ _ En15 Hv16 => ?_
 refine d_k [2,8,9] [] 5 En15 fun _ En18 => ?_
 refine f_o <| m_z 43 ((zh (ze 4 0)) ++ ((zh (ze 4 0)) ++ ((zh (ze 4 0)) ++ (zh (ze 4 0))))) En18 Hv16 fun _ _ bk19 En22 Hv23 => ?_
 refine f_o <| m_g 1 0 16 (zh (toL b)) _ [.box bk1 (bys b) 22, .box bk19 (zh (toL b)) 43] En22 Hv23 rfl (zc (toL_len _)) (by rw [(zD (zc (zf)) (zD (zc (zf)) (zD (zc (zf)) (zc (zf)))))]; first | decide | (simp; done)) (zv _) (zs (zD (zc (zf)) (zD (zc (zf)) (zD (zc (zf)) (zc (zf)))))) rfl fun _ _ En26 Hv27 => ?_
 refine d_e [2,4] [] En26 fun _ En29 => ?_
 refine zg <| d_s [2] [] En29 fun _ En31 => ?_
 refine wp_ret <| Qb (t := 2) (v := .bool (isE b)) En31 (by kernel_rfl) (by kernel_rfl) ?_
 exact ⟨rfl, Hv27.pk []⟩

end Go.Proofs.YtlnogkmnklfjlaaDoor

/- Layer 5: words turned, mixed. -/





namespace Go.Proofs.YtlnogkmnklfjlaaDoor.Sh
open Go.Dbr
set_option maxRecDepth 100000
set_option maxHeartbeats 2000000
set_option linter.unusedVariables false
set_option linter.unusedSimpArgs false

abbrev pt (b : Nat) : Value := .pointer (some (Addr.mk b 0 none))
abbrev ni (n : Nat) : Value := .int .i64 (n : Int)

def rotr32 (x : UInt32) (n : Nat) : UInt32 := (x >>> JZ n) ||| (x <<< JZ (32 - n))

def rotr64 (x : UInt64) (n : Nat) : UInt64 := (x >>> zd n) ||| (x <<< zd (64 - n))

theorem turned64_go (w : World) (x : UInt64) (n : Nat) (h0 : 0 < n) (hn : n < 64) : Calls Tryd.prog 102 #[zn x, ni n, .int .i64 64] w fun e w' => e = .returned (zn (rotr64 x n)) ∧ Ev w [] w' [] := by
 refine d_0 [(0, zn x), (1, ni n), (2, .int .i64 64)] 16 Go.Proofs.Tryd.func102 Go.Proofs.Tryd.ntmps102 (Heap.nil _) fun act0 En0 Hv0 => ?_
 refine d_s [0,1,2,6] [] En0 fun _ En2 => ?_
 refine wp_seq <| r_c (fun ac wo => Env ac 16 [(6, zn ((x >>> zd n) ||| (x <<< zd (64 - n))))] ∧ Ev w [] wo []) ?_ ?_
 ·
  refine draw_any (by kernel_rfl) 10 (by kernel_rfl) ?_
  have wo3 := Hv0.trans (z4 Hv0.heap)
  refine q_a [0,1] [] 8 En2 fun _ En15 => ?_
  refine q_g 2 En15 (fun _ => Go.Dbr.run_shr_u64 x .i64 n (by omega) _) fun _ En17 => ?_
  refine q_a [3,4,5,6] [(6, g_n (w_r (e := (64 : Int) - ((n : Nat) : Int)) (x := ((64 - n : Nat) : Int)) (by omega)))] 3 En17 fun _ En19 => ?_
  refine q_g 7 En19 (fun _ => Go.Dbr.run_shl_u64 x .i64 (64 - n) (by omega) _) fun _ En21 => ?_
  refine q_a [8,9] [(8, g_i .u64 (Go.Dbr.u64_or (x := x >>> zd n) (y := x <<< zd (64 - n)) rfl rfl))] 0 En21 fun _ En23 => ?_
  exact a_e ⟨En23.sb, wo3.pk []⟩
 rintro _ _ ⟨En26, Hv27⟩
 refine zg <| wp_ret <| Qb (t := 6) (v := zn ((x >>> zd n) ||| (x <<< zd (64 - n)))) En26 (by kernel_rfl) (by kernel_rfl) ?_
 exact ⟨rfl, Hv27.pk []⟩

def mix32 (x : UInt32) (i j k : Nat) (shift : Bool) : UInt32 := bif shift then (rotr32 x i ^^^ rotr32 x j) ^^^ (x >>> JZ k) else (rotr32 x i ^^^ rotr32 x j) ^^^ rotr32 x k

def mix64 (x : UInt64) (i j k : Nat) (shift : Bool) : UInt64 := bif shift then (rotr64 x i ^^^ rotr64 x j) ^^^ (x >>> zd k) else (rotr64 x i ^^^ rotr64 x j) ^^^ rotr64 x k

theorem mixed64_true (w : World) (x : UInt64) (i j k : Nat) (hi : 0 < i ∧ i < 64) (hj : 0 < j ∧ j < 64) (hk : 0 < k ∧ k < 64) : Calls Tryd.prog 98 #[zn x, .int .i64 64, .agg #[ni i, ni j, ni k], .bool true] w fun e w' => e = .returned (zn (mix64 x i j k true)) ∧ Ev w [] w' [] := by
 refine d_0 [(0, zn x), (1, .int .i64 64), (2, .agg #[ni i, ni j, ni k]), (3, .bool true)] 35 Go.Proofs.Tryd.func98 Go.Proofs.Tryd.ntmps98 (Heap.nil _) fun act0 En0 Hv0 => ?_
 refine wp_seq <| zm <| f_o <| m_m 113 [ni i, ni j, ni k] En0 Hv0 fun _ _ bk1 En4 Hv5 => ?_
 refine d_e [0,1,3,6,8] [] En4 fun _ En7 => ?_
 refine zg <| wp_seq <| r_c (fun ac wo => Env ac 35 [(0, zn x), (1, .int .i64 64), (3, .bool true), (6, pt bk1), (8, .int .u64 0), (9, zn ((rotr64 x i) ^^^ (rotr64 x j)))] ∧ Ev w [] wo [.box bk1 [ni i, ni j, ni k] 113]) ?_ ?_
 ·
  refine h_s (fun wv => Ev w [] wv [.box bk1 [ni i, ni j, ni k] 113]) [] 12 ?_
  have wo8 := Hv5.trans (z4 Hv5.heap)
  refine q_s [0,1] [] 10 En7 (wo8.pk [0]) fun _ En96 => ?_
  refine q_l 0 2 En96 (wo8.pk [0]) fun _ En98 => ?_
  refine q_s [3,5,6] [] 6 En98 (wo8.pk [0]) fun _ En100 => ?_
  refine q_l 0 7 En100 (wo8.pk [0]) fun _ En102 => ?_
  refine q_s [8] [] 4 En102 (wo8.pk [0]) fun _ En104 => ?_
  refine q_t 4 ?_
  refine c_p En104 wo8 (turned64_go _ x i (by omega) (by omega)) fun _ _ En110 Hv111 => ?_
  refine ⟨fun _ => Hv111.pk [0], ?_⟩
  refine q_t 9 ?_
  refine c_p En110 Hv111 (turned64_go _ x j (by omega) (by omega)) fun _ _ En117 Hv118 => ?_
  refine ⟨fun _ => Hv118.pk [0], ?_⟩
  refine q_s [10,11] [(10, g_i .u64 (Go.Dbr.u64_xor (x := rotr64 x i) (y := rotr64 x j) rfl rfl))] 0 En117 (Hv118.pk [0]) fun _ En120 => ?_
  exact h_e ⟨En120.sb, Hv118.pk [0]⟩
 rintro _ _ ⟨En123, Hv124⟩
 refine zg <| wp_seq <| d_s [0,1,6,8,9,21] [] En123 fun _ En126 => ?_
 refine c_t En126 ?_
 refine wp_seq <| zm <| d_k [0,1,6,8,9,22,23,24] [] 3 En126 fun _ En128 => ?_
 refine f_o <| m_l 0 En128 Hv124 fun _ En130 => ?_
 refine f_o <| q_v En130 (Go.Dbr.run_shr_u64 x .i64 k (by omega) _) fun _ En132 => ?_
 refine d_e [0,1,6,8,9] [(5, g_i .u64 (Go.Dbr.u64_xor (x := (rotr64 x i) ^^^ (rotr64 x j)) (y := x >>> zd k) rfl rfl))] En132 fun _ En134 => ?_
 refine zg <| wp_ret <| Z0 <| Qb (t := 8) (v := zn (((rotr64 x i) ^^^ (rotr64 x j)) ^^^ (x >>> zd k))) En134 (by kernel_rfl) (by kernel_rfl) ?_
 exact ⟨rfl, Hv124.pk []⟩

theorem mixed64_false (w : World) (x : UInt64) (i j k : Nat) (hi : 0 < i ∧ i < 64) (hj : 0 < j ∧ j < 64) (hk : 0 < k ∧ k < 64) : Calls Tryd.prog 98 #[zn x, .int .i64 64, .agg #[ni i, ni j, ni k], .bool false] w fun e w' => e = .returned (zn (mix64 x i j k false)) ∧ Ev w [] w' [] := by
 refine d_0 [(0, zn x), (1, .int .i64 64), (2, .agg #[ni i, ni j, ni k]), (3, .bool false)] 35 Go.Proofs.Tryd.func98 Go.Proofs.Tryd.ntmps98 (Heap.nil _) fun act0 En0 Hv0 => ?_
 refine wp_seq <| zm <| f_o <| m_m 113 [ni i, ni j, ni k] En0 Hv0 fun _ _ bk1 En4 Hv5 => ?_
 refine d_e [0,1,3,6,8] [] En4 fun _ En7 => ?_
 refine zg <| wp_seq <| r_c (fun ac wo => Env ac 35 [(0, zn x), (1, .int .i64 64), (3, .bool false), (6, pt bk1), (8, .int .u64 0), (9, zn ((rotr64 x i) ^^^ (rotr64 x j)))] ∧ Ev w [] wo [.box bk1 [ni i, ni j, ni k] 113]) ?_ ?_
 ·
  refine h_s (fun wv => Ev w [] wv [.box bk1 [ni i, ni j, ni k] 113]) [] 12 ?_
  have wo8 := Hv5.trans (z4 Hv5.heap)
  refine q_s [0,1] [] 10 En7 (wo8.pk [0]) fun _ En96 => ?_
  refine q_l 0 2 En96 (wo8.pk [0]) fun _ En98 => ?_
  refine q_s [3,5,6] [] 6 En98 (wo8.pk [0]) fun _ En100 => ?_
  refine q_l 0 7 En100 (wo8.pk [0]) fun _ En102 => ?_
  refine q_s [8] [] 4 En102 (wo8.pk [0]) fun _ En104 => ?_
  refine q_t 4 ?_
  refine c_p En104 wo8 (turned64_go _ x i (by omega) (by omega)) fun _ _ En110 Hv111 => ?_
  refine ⟨fun _ => Hv111.pk [0], ?_⟩
  refine q_t 9 ?_
  refine c_p En110 Hv111 (turned64_go _ x j (by omega) (by omega)) fun _ _ En117 Hv118 => ?_
  refine ⟨fun _ => Hv118.pk [0], ?_⟩
  refine q_s [10,11] [(10, g_i .u64 (Go.Dbr.u64_xor (x := rotr64 x i) (y := rotr64 x j) rfl rfl))] 0 En117 (Hv118.pk [0]) fun _ En120 => ?_
  exact h_e ⟨En120.sb, Hv118.pk [0]⟩
 rintro _ _ ⟨En123, Hv124⟩
 refine zg <| wp_seq <| d_s [0,1,6,8,9,21] [] En123 fun _ En126 => ?_
 refine c_f En126 ?_
 refine wp_skip <| zg <| wp_seq <| zm <| d_k [0,1,6,8,9,28,29,30] [] 3 En126 fun _ En128 => ?_
 refine f_o <| m_l 0 En128 Hv124 fun _ En130 => ?_
 refine d_k [0,1,6,8,9,28,29,31,32] [] 5 En130 fun _ En132 => ?_
 refine f_o <| c_p En132 Hv124 (turned64_go _ x k (by omega) (by omega)) fun _ _ En138 Hv139 => ?_
 refine d_e [0,1,6,8,9] [(6, g_i .u64 (Go.Dbr.u64_xor (x := (rotr64 x i) ^^^ (rotr64 x j)) (y := rotr64 x k) rfl rfl))] En138 fun _ En141 => ?_
 refine zg <| wp_ret <| Qb (t := 8) (v := zn (((rotr64 x i) ^^^ (rotr64 x j)) ^^^ (rotr64 x k))) En141 (by kernel_rfl) (by kernel_rfl) ?_
 exact ⟨rfl, Hv139.pk []⟩

end Go.Proofs.YtlnogkmnklfjlaaDoor.Sh

/- Layer 5: words of bytes. -/

namespace Go.Proofs.YtlnogkmnklfjlaaDoor.Sh
open Go.Dbr
set_option maxRecDepth 100000
set_option maxHeartbeats 2000000
set_option linter.unusedVariables false
set_option linter.unusedSimpArgs false

/-- so many bytes as a word, the highest first -/
def beP32 (l : List UInt8) : Nat → UInt32
  | 0 => 0
  | k + 1 => (beP32 l k <<< JZ 8) ||| UInt8.toUInt32 (zb l k 0)
def beW32 (l : List UInt8) (q : Nat) : UInt32 := beP32 (zk 4 (zo (4 * q) l)) 4
def wB32 (l : List UInt8) : Nat → List UInt32
  | 0 => []
  | q + 1 => wB32 l q ++ [beW32 l q]
/-- so many bytes as a word, the highest first -/
def beP64 (l : List UInt8) : Nat → UInt64
  | 0 => 0
  | k + 1 => (beP64 l k <<< zd 8) ||| Zr (zb l k 0)
def beW64 (l : List UInt8) (q : Nat) : UInt64 := beP64 (zk 8 (zo (8 * q) l)) 8
def wB64 (l : List UInt8) : Nat → List UInt64
  | 0 => []
  | q + 1 => wB64 l q ++ [beW64 l q]
theorem wB64_len (l : List UInt8) (q : Nat) : (wB64 l q).length = q := by
  induction q with
  | zero => rfl
  | succ q ih => rw [wB64, zU, ih]; rfl

theorem words64_go (w : World) (ax : Option Addr) (nx cx : Nat) (lx : List UInt8) (ex : nx = za lx) (ix : InB w [] ax cx lx) : Calls Tryd.prog 90 #[.slice ax nx cx, .int .i64 8, .int .i64 80] w fun e w' => ∃ ao co, e = .returned (.slice ao (za (wB64 lx (za lx / 8))) co) ∧ Ev w [] w' [.vec ao co 1 (zh (wB64 lx (za lx / 8))) 32] := by
 subst ex
 have hs := ix.small
 have hcx := ix.cap
 refine d_0 [(0, .slice ax (za lx) cx), (1, .int .i64 8), (2, .int .i64 80)] 39 Go.Proofs.Tryd.func90 Go.Proofs.Tryd.ntmps90 (Heap.nil _) fun act0 En0 Hv0 => ?_
 refine wp_seq <| d_r [0,1,2,6] [] En0 fun _ En2 => ?_
 refine zg <| wp_seq <| zm <| d_k [0,1,6,11] [] 1 En2 fun _ En4 => ?_
 refine f_o <| op_makeroom (d := some 12) (t := 118) (T := 32) (m := 80) (kl := .i64) (kc := .i64) (z := .int .u64 0) (bytes := 8) En4 (by kernel_rfl) Hv0 (by kernel_rfl) (by kernel_rfl) (by kernel_rfl) (by omega) (by unfold maxLen; omega) ?_
 intro _ _ bk5 En8 Hv9
 refine d_e [0,1,6,7] [] En8 fun _ En11 => ?_
 refine zg <| wp_seq <| wp_block ?_
 have hD0 : zo (8 * 0) lx = lx := rfl
 refine loop_m (fun ms12 ac wo => ∃ (q : Nat) (at1 : Option Addr) (ct : Nat) (ao : Option Addr) (co : Nat) (o : List UInt64), ms12 = (za lx - 8 * q : Nat) ∧ Env ac 39 [(0, .slice at1 (za (zo (8 * q) lx)) ct), (1, .int .i64 8), (6, .slice none 0 0), (7, .slice ao (za o) co)] ∧ Ev w [] wo [.vec ao co 1 (zh o) 32] ∧ (InB w [] at1 ct (zo (8 * q) lx)) ∧ (8 * q ≤ za lx) ∧ (o = wB64 lx q)) ⟨_, 0, ax, cx, some ⟨bk5, 0, none⟩, 80, [], rfl, En11.sb, Hv9.pk [0], ix, by omega, rfl⟩ ?_
 rintro mm18 _ _ ⟨q, at1, ct, ao, co, o, rfl, En16, Hv17, hT, hq, heo⟩
 refine wp_seq <| wp_seq ?_
 have hDl : za (zo (8 * q) lx) = za lx - 8 * q := zr
 refine d_r [0,1,6,7,16] [] En16 fun _ En20 => ?_
 refine zg <| c_d (((za (zo (8 * q) lx) : Nat) : Int) ≥ (8 : Int)) En20 (fun hc21 => ?_) (fun hc21 => ?_)
 ·
  refine wp_skip <| zg <| wp_seq <| wp_block <| wp_seq <| d_r [0,1,6,7,8] [] En20 fun _ En23 => ?_
  refine zg <| wp_seq <| wp_seq ?_
  have hDl : za (zo (8 * q) lx) = za lx - 8 * q := zr
  have hDt : za (zk 8 (zo (8 * q) lx)) = 8 := by rw [List.length_take]; omega
  refine zm <| d_k [0,1,6,7,8,20,21] [] 2 En23 fun _ En25 => ?_
  refine f_o ?_
  have hcap26 := hT.cap
  refine op_slice0 (d := some 22) (t := 26) (e := 5) (sz := 1) (len := za (zo (8 * q) lx)) (cap := ct) (hi := 8) (ao := at1) (lov := none) (hiv := (some (.int .i64 8))) En25 (by kernel_rfl) (by kernel_rfl) (by kernel_rfl) (by omega) (.inl ⟨rfl, rfl⟩) (.inr ⟨.i64, rfl⟩) ?_
  intro _ En28
  refine d_e [0,1,6,7,8,22,23,24] [] En28 fun _ En30 => ?_
  refine zg <| wp_block <| loop_m (fun ms31 ac wo => ∃ (k : Nat) (x : UInt64), ms31 = (8 - k : Nat) ∧ Env ac 39 [(0, .slice at1 (za (zo (8 * q) lx)) ct), (1, .int .i64 8), (6, .slice none 0 0), (7, .slice ao (za o) co), (8, zn x), (22, .slice at1 8 ct), (23, .int .i64 8), (24, ni k)] ∧ Ev w [] wo [.vec ao co 1 (zh o) 32] ∧ (k ≤ 8) ∧ (x = beP64 (zk 8 (zo (8 * q) lx)) k)) ⟨_, 0, 0, rfl, En30.sb, Hv17.pk [0], by omega, rfl⟩ ?_
  rintro mm37 _ _ ⟨k, x, rfl, En35, Hv36, hk, hex⟩
  refine wp_seq <| d_r [0,1,6,7,8,22,23,24,25] [] En35 fun _ En39 => ?_
  refine zg <| wp_seq <| c_d (((k : Nat) : Int) < (8 : Int)) En39 (fun hc40 => ?_) (fun hc40 => ?_)
  ·
   refine wp_skip <| zg <| wp_seq <| wp_block <| wp_seq ?_
   have hb43 : k < 8 := (by omega)
   obtain ⟨adr41, had42⟩ := some_of (fun e => by have := hT.nz e; omega) hb43
   refine zm <| f_o <| q_v (x := Instr.indexAt 26 (.slice at1 8 ct) (ni k)) (v := .pointer (some (Addr.add adr41 k))) En39 (Go.Dbr.run_indexsl (e := 5) (sz := 1) (j := k) (jo := k) had42 (by kernel_rfl) (by kernel_rfl) (by omega) hb43 (Nat.mul_one _) _) fun _ En45 => ?_
   refine f_o ?_
   have hb46 : k < za (zk 8 (zo (8 * q) lx)) := by omega
   refine op_loadel (d := some 27) (t := 5) (ad := adr41) (ao := at1) (xs := bys (zk 8 (zo (8 * q) lx))) (j := k) (v := bv (zb (zk 8 (zo (8 * q) lx)) k 0)) En45 (by kernel_rfl) (bys_take_reads (hT.ev Hv36).reads 8) had42 (Qa hb46) (by kernel_rfl) ?_
   intro _ En48
   refine d_e [0,1,6,7,8,10,22,23,24] [] En48 fun _ En50 => ?_
   refine zg <| d_r [0,1,6,7,8,22,23,24] [(1, g_i .u64 (Go.Dbr.u64_shl (x := x) (n := 8) rfl (by decide))), (3, g_i .u64 (Go.Dbr.u8_to_u64 (x := zb (zk 8 (zo (8 * q) lx)) k 0) rfl)), (4, g_i .u64 (Go.Dbr.u64_or (x := x <<< zd 8) (y := Zr (zb (zk 8 (zo (8 * q) lx)) k 0)) rfl rfl))] En50 fun _ En52 => ?_
   refine block_normal <| zg <| d_r [0,1,6,7,8,22,23,24] [(0, g_n (w_a k 1))] En52 fun _ En54 => ?_
   refine zg <| ⟨_, ⟨k + 1, ((x <<< zd 8) ||| (Zr (zb (zk 8 (zo (8 * q) lx)) k 0))), rfl, En54.sb, Hv36.pk [0], by omega, by rw [hex]; rfl⟩, ?_⟩
   omega
  refine wp_exit <| zI <| zI <| block_exit <| zg ?_
  have hk4 : k = 8 := by omega
  rw [hk4] at hex
  have hol : za o = q := by rw [heo, wB64_len]
  refine zm <| d_k [0,1,6,7,8,22,23,24,34,35] [] 2 En39 fun _ En56 => ?_
  refine f_o <| op_lit (d := some 36) (t := 118) (T := 32) (m := 1) (parts := #[(0, zn x)]) (xs := zh [x]) (sz := 1) En56 (by kernel_rfl) (by kernel_rfl) rfl (by decide) Hv36 ?_
  intro _ _ bk57 En60 Hv61
  refine f_o <| op_append (d := some 37) (t := 118) (tx := 118) (ty := 118) (k := 0) (p := za o) (m := 1) (x := .slice (some ⟨bk57, 0, none⟩) 1 1) (bytes := 8) En60 (by kernel_rfl) Hv61 rfl (u64s_len _) (Reads.src (size := 1) (tx := 118) (e' := 32) (by kernel_rfl) (Hv61.heap.reads (k := 1) rfl) rfl (fun e => by cases e) (zv _)) (by kernel_rfl) (z := .int .u64 0) (by kernel_rfl) rfl (by decide) (by omega) (by unfold maxLen; omega) ?_
  intro _ _ ao62 cp63 En68 Hv69 hnz _
  clear hnz
  rw [← u64s_append] at Hv69
  have ehz64 : (za o) + 1 = za (o ++ [x]) := (by first | (simp; done) | (simp; omega) | omega)
  rw [ehz64] at En68
  refine d_e [0,1,6,7,8,22,23,24] [] En68 fun _ En71 => ?_
  refine block_normal <| zg <| zm <| d_k [0,1,6,7,8,17,18,22,23,24] [] 2 En71 fun _ En73 => ?_
  refine f_o ?_
  have hcap74 := hT.cap
  refine op_slice (d := some 19) (t := 26) (e := 5) (sz := 1) (len := za (zo (8 * q) lx)) (cap := ct) (lo := 8) (hi := za (zo (8 * q) lx)) (ao := at1) (lov := (some (.int .i64 8))) (hiv := none) En73 (by kernel_rfl) (by kernel_rfl) (by kernel_rfl) (by omega) (by omega) (.inr ⟨.i64, rfl⟩) (.inl ⟨rfl, rfl⟩) ?_
  intro _ En76
  refine d_e [0,1,6,7,8,22,23,24] [] En76 fun _ En78 => ?_
  refine zg ?_
  have hTn : InB w [] (cutAt at1 ct 8 1) (ct - 8) (zo (8 * (q + 1)) lx) := by have h := hT.drop 8 (by omega); rwa [List.drop_drop] at h
  have el : (za (zo (8 * q) lx)) - 8 = za (zo (8 * (q + 1)) lx) := by rw [zr, zr]; omega
  rw [el] at En78
  refine ⟨_, ⟨q + 1, (cutAt at1 ct 8 1), (ct - 8), ao62, cp63, (o ++ [x]), rfl, En78.sb, Hv69.pk [0], hTn, by omega, by rw [heo, hex]; rfl⟩, ?_⟩
  omega
 refine wp_exit <| zI <| zI <| block_exit <| zg <| wp_seq <| d_r [0,1,6,7] [] En20 fun _ En80 => ?_
 refine zg <| wp_ret <| Qb (t := 6) (v := .slice ao (za o) co) En80 (by kernel_rfl) (by kernel_rfl) ?_
 have hqq : q = za lx / 8 := by omega
 rw [hqq] at heo
 subst heo
 have Hf81 := Hv17.pk [0] (M := [.vec ao co 1 (zh (wB64 lx (za lx / 8))) 32])
 exact ⟨_, _, rfl, Hf81⟩

end Go.Proofs.YtlnogkmnklfjlaaDoor.Sh

/- Layer 5: a block is taken into a state. -/

namespace Go.Proofs.YtlnogkmnklfjlaaDoor.Sh
open Go.Dbr
set_option maxRecDepth 100000
set_option maxHeartbeats 2000000
set_option linter.unusedVariables false
set_option linter.unusedSimpArgs false

theorem seg_eq {l : List Value} {i j : Nat} {v : Option Value} (h : i = j) (e : l[j]? = v) : l[i]? = v := by rw [h]; exact e
theorem set_eq {l m : List Value} {i j : Nat} {v : Value} (h : i = j) (e : l.set j v = m) : l.set i v = m := by rw [h]; exact e

theorem v8 {α : Type} {v : List α} (h : v.length = 8) : ∃ a0 a1 a2 a3 a4 a5 a6 a7, v = [a0, a1, a2, a3, a4, a5, a6, a7] := by
  match v, h with
  | [a0, a1, a2, a3, a4, a5, a6, a7], _ => exact ⟨a0, a1, a2, a3, a4, a5, a6, a7, rfl⟩

def K32 : List UInt32 := [1116352408, 1899447441, 3049323471, 3921009573, 961987163, 1508970993, 2453635748, 2870763221, 3624381080, 310598401, 607225278, 1426881987, 1925078388, 2162078206, 2614888103, 3248222580, 3835390401, 4022224774, 264347078, 604807628, 770255983, 1249150122, 1555081692, 1996064986, 2554220882, 2821834349, 2952996808, 3210313671, 3336571891, 3584528711, 113926993, 338241895, 666307205, 773529912, 1294757372, 1396182291, 1695183700, 1986661051, 2177026350, 2456956037, 2730485921, 2820302411, 3259730800, 3345764771, 3516065817, 3600352804, 4094571909, 275423344, 430227734, 506948616, 659060556, 883997877, 958139571, 1322822218, 1537002063, 1747873779, 1955562222, 2024104815, 2227730452, 2361852424, 2428436474, 2756734187, 3204031479, 3329325298]
def sch32 (w : List UInt32) : Nat → List UInt32
  | 0 => w
  | q + 1 => sch32 w q ++ [((mix32 (zb (sch32 w q) (14 + q) 0) 17 19 10 true + zb (sch32 w q) (9 + q) 0) + mix32 (zb (sch32 w q) (1 + q) 0) 7 18 3 true) + zb (sch32 w q) q 0]
def x32 (v : List UInt32) (k w : UInt32) : UInt32 := (((zb v 7 0 + mix32 (zb v 4 0) 6 11 25 false) + (zb v 6 0 ^^^ (zb v 4 0 &&& (zb v 5 0 ^^^ zb v 6 0)))) + k) + w
def y32 (v : List UInt32) : UInt32 := mix32 (zb v 0 0) 2 13 22 false + ((zb v 0 0 &&& zb v 1 0) ||| (zb v 2 0 &&& (zb v 0 0 ||| zb v 1 0)))
def step32 (v : List UInt32) (k w : UInt32) : List UInt32 := [x32 v k w + y32 v, zb v 0 0, zb v 1 0, zb v 2 0, zb v 3 0 + x32 v k w, zb v 4 0, zb v 5 0, zb v 6 0]
def rnd32 (w v : List UInt32) : Nat → List UInt32
  | 0 => v
  | j + 1 => step32 (rnd32 w v j) (zb K32 j 0) (zb w j 0)
def add32 (s v : List UInt32) : Nat → List UInt32
  | 0 => s
  | i + 1 => zy (add32 s v i) i (zb (add32 s v i) i 0 + zb v i 0)
theorem add32_len {s : List UInt32} {m : Nat} (h : s.length = m) (v : List UInt32) (i : Nat) : (add32 s v i).length = m := by
  induction i with
  | zero => exact h
  | succ i ih => simp [add32, ih]
/-- a state behind a block's words -/
def blk32 (s w : List UInt32) : List UInt32 := add32 s (rnd32 (sch32 w 48) s 64) 8
theorem blk32_len {s : List UInt32} {m : Nat} (h : s.length = m) (w : List UInt32) : (blk32 s w).length = m := add32_len h _ _

def K64 : List UInt64 := [4794697086780616226, 8158064640168781261, 13096744586834688815, 16840607885511220156, 4131703408338449720, 6480981068601479193, 10538285296894168987, 12329834152419229976, 15566598209576043074, 1334009975649890238, 2608012711638119052, 6128411473006802146, 8268148722764581231, 9286055187155687089, 11230858885718282805, 13951009754708518548, 16472876342353939154, 17275323862435702243, 1135362057144423861, 2597628984639134821, 3308224258029322869, 5365058923640841347, 6679025012923562964, 8573033837759648693, 10970295158949994411, 12119686244451234320, 12683024718118986047, 13788192230050041572, 14330467153632333762, 15395433587784984357, 489312712824947311, 1452737877330783856, 2861767655752347644, 3322285676063803686, 5560940570517711597, 5996557281743188959, 7280758554555802590, 8532644243296465576, 9350256976987008742, 10552545826968843579, 11727347734174303076, 12113106623233404929, 14000437183269869457, 14369950271660146224, 15101387698204529176, 15463397548674623760, 17586052441742319658, 1182934255886127544, 1847814050463011016, 2177327727835720531, 2830643537854262169, 3796741975233480872, 4115178125766777443, 5681478168544905931, 6601373596472566643, 7507060721942968483, 8399075790359081724, 8693463985226723168, 9568029438360202098, 10144078919501101548, 10430055236837252648, 11840083180663258601, 13761210420658862357, 14299343276471374635, 14566680578165727644, 15097957966210449927, 16922976911328602910, 17689382322260857208, 500013540394364858, 748580250866718886, 1242879168328830382, 1977374033974150939, 2944078676154940804, 3659926193048069267, 4368137639120453308, 4836135668995329356, 5532061633213252278, 6448918945643986474, 6902733635092675308, 7801388544844847127]
def sch64 (w : List UInt64) : Nat → List UInt64
  | 0 => w
  | q + 1 => sch64 w q ++ [((mix64 (zb (sch64 w q) (14 + q) 0) 19 61 6 true + zb (sch64 w q) (9 + q) 0) + mix64 (zb (sch64 w q) (1 + q) 0) 1 8 7 true) + zb (sch64 w q) q 0]
theorem sch64_len (w : List UInt64) (q : Nat) : (sch64 w q).length = w.length + q := by
  induction q with
  | zero => rfl
  | succ q ih => rw [sch64, zU, ih]; rfl
def x64 (v : List UInt64) (k w : UInt64) : UInt64 := (((zb v 7 0 + mix64 (zb v 4 0) 14 18 41 false) + (zb v 6 0 ^^^ (zb v 4 0 &&& (zb v 5 0 ^^^ zb v 6 0)))) + k) + w
def y64 (v : List UInt64) : UInt64 := mix64 (zb v 0 0) 28 34 39 false + ((zb v 0 0 &&& zb v 1 0) ||| (zb v 2 0 &&& (zb v 0 0 ||| zb v 1 0)))
def step64 (v : List UInt64) (k w : UInt64) : List UInt64 := [x64 v k w + y64 v, zb v 0 0, zb v 1 0, zb v 2 0, zb v 3 0 + x64 v k w, zb v 4 0, zb v 5 0, zb v 6 0]
def rnd64 (w v : List UInt64) : Nat → List UInt64
  | 0 => v
  | j + 1 => step64 (rnd64 w v j) (zb K64 j 0) (zb w j 0)
def add64 (s v : List UInt64) : Nat → List UInt64
  | 0 => s
  | i + 1 => zy (add64 s v i) i (zb (add64 s v i) i 0 + zb v i 0)
theorem add64_len {s : List UInt64} {m : Nat} (h : s.length = m) (v : List UInt64) (i : Nat) : (add64 s v i).length = m := by
  induction i with
  | zero => exact h
  | succ i ih => simp [add64, ih]
/-- a state behind a block's words -/
def blk64 (s w : List UInt64) : List UInt64 := add64 s (rnd64 (sch64 w 64) s 80) 8
theorem blk64_len {s : List UInt64} {m : Nat} (h : s.length = m) (w : List UInt64) : (blk64 s w).length = m := add64_len h _ _

abbrev kL64 : List Value := [Value.int .i64 64, Value.int .i64 1, Value.int .i64 8, Value.int .i64 7, Value.int .i64 19, Value.int .i64 61, Value.int .i64 6, Value.int .i64 28, Value.int .i64 34, Value.int .i64 39, Value.int .i64 14, Value.int .i64 18, Value.int .i64 41]
end Go.Proofs.YtlnogkmnklfjlaaDoor.Sh
