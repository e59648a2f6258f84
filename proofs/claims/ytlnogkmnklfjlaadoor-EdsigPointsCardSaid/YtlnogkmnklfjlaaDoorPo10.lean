import Derived.Test.YtlnogkmnklfjlaaDoorPo9
open Go.Dbr renaming u64s_lenh → zb, then_normal → zg, u64s → zh, region_from → zm, load_whole → zn, store_whole → zo, u64s_one → zu, len_app → zw, run_loadAgg2 → zP, then_ret → Zg, d_cell_tmp → Zn, h_from → Zs, bys_getD → ZS, one_app → ZX, h_ways → QF, h_to → QQ
open List renaming replicate → zc, length_replicate → zd, length → ze, getD → zf, toArray → zi, set → zp
open Go.Proofs.YtlnogkmnklfjlaaDoor renaming nds_len → zk, mulM → zq, powM → zC, subM → zJ, addM → Zf, emul_go → ZV, rootOk → Ql, esum_go → Jb, inv_go → Xi
open Go.Dbr.Ev renaming cellAgg → zx, drew → zQ
open UInt8 renaming ofNat → zA, toNat → Zc
open Bool renaming eq_false_or_eq_true → ZA, true_and → QA, eq_false_iff → QM, false_and → J4
/- Layer 12: points of bytes. -/

namespace Go.Proofs.YtlnogkmnklfjlaaDoor
open Go.Dbr
set_option maxRecDepth 100000
set_option maxHeartbeats 2000000
set_option linter.unusedVariables false
set_option linter.unusedSimpArgs false

theorem yE_lt {b : List UInt8} (hb : b.length = 32) : yE b < W256 := by
  have := lv_lt (clr b)
  rw [clr_len hb] at this
  exact this
theorem nv_y {b : List UInt8} (hb : b.length = 32) : nv (nd (yE b)) = yE b := nv_nd (yE_lt hb)
theorem one1 : nv [1, 0, 0, 0] = 1 := rfl
theorem d_half : nd (zq 1 (nv (nd D2N)) (nv (nd (zC 1 (nv [2, 0, 0, 0]) (mF 1 - 2))))) = nd DN := by
  rw [nv_iv, nv_d2, show nv [2, 0, 0, 0] = 2 from rfl, ivE_pw]
  exact congrArg nd (by decide +kernel)
theorem tA_txt {y : Nat} (hy : nv (nd y) = y) : nd (zq 1 (nv (nd (zJ 1 (nv (nd (zq 1 (nv (nd y)) (nv (nd y))))) (nv [1, 0, 0, 0])))) (nv (nd (zC 1 (nv (nd (Zf 1 (nv (nd (zq 1 (nv (nd DN)) (nv (nd (zq 1 (nv (nd y)) (nv (nd y)))))))) (nv [1, 0, 0, 0])))) (mF 1 - 2))))) = nd (tA y) := by
  rw [nv_iv, nv_a1, nv_m1, nv_s1, nv_m1, nv_dn, hy, one1, tA]
theorem nv_tA (y : Nat) : nv (nd (tA y)) = tA y := nvE (tA_lt y)
theorem rE_txt (y : Nat) : nd (rootN 1 (nv (nd (tA y)))) = nd (rE y) := by rw [nv_tA, rE]
theorem rE_nv (y : Nat) : nv (nd (rE y)) = rE y := nvE (rE_lt y)
theorem rE_0 (y : Nat) : (nd (rE y) == zc 4 0) = decide (rE y = 0) := by
  by_cases h : rE y = 0
  · rw [decide_eq_true h, h]; rfl
  · rw [decide_eq_false h]
    refine beq_false_of_ne fun g => h ?_
    have := congrArg nv g
    rwa [rE_nv] at this
theorem od_dec : ∀ n : Fin 256, ((((zA n.val >>> zA 7).toNat : Nat) : Int) = 1) ↔ 128 ≤ n.val := by decide +kernel
theorem od_1 (b : List UInt8) : ((((zf b 31 0 >>> zA 7).toNat : Nat) : Int) = 1) ↔ odE b = true := by
  have h := od_dec ⟨(zf b 31 0).toNat, UInt8.toNat_lt _⟩
  simp only [UInt8.ofNat_toNat] at h
  rw [odE, decide_eq_true_eq]
  exact h
/-- what is told of bytes -/
def toL (b : List UInt8) : L4 := bif isE b then ptL (yE b) (odE b) else zc 16 0
theorem toL_len (b : List UInt8) : (toL b).length = 16 := by
  unfold toL
  cases isE b with
  | true => exact ptL_len _ _
  | false => rfl
theorem no_1 {b : List UInt8} (h : ¬ yE b < mF 1) : isE b = false := by rw [isE, decide_eq_false h, J4]
theorem no_2 {b : List UInt8} (h : Ql 1 (tA (yE b)) = false) : isE b = false := by rw [isE, xOkE, h, J4, Bool.and_false]
theorem no_3 {b : List UInt8} (h : odE b = true) (h2 : nd (rE (yE b)) = zc 4 0) : isE b = false := by
  have := rE_0 (yE b)
  rw [h2] at this
  rw [isE, xOkE, h, ← this]
  simp
theorem is_yes {b : List UInt8} (h : yE b < mF 1) (h1 : Ql 1 (tA (yE b)) = true) (h2 : odE b = true → ¬ nd (rE (yE b)) = zc 4 0) : isE b = true := by
  rw [isE, xOkE, decide_eq_true h, h1, QA, QA]
  cases g : odE b with
  | false => rfl
  | true =>
    rw [QA, ← rE_0, beq_false_of_ne (h2 g)]
    rfl
theorem to_no {b : List UInt8} (h : isE b = false) : zc 16 0 = toL b := by rw [toL, h]; rfl
theorem to_yes {b : List UInt8} (h : isE b = true) : ptL (yE b) (odE b) = toL b := by rw [toL, h]; rfl
theorem ret_to {a b : L4} {s t : Bool} (h1 : a = b) (h2 : s = t) : Ending.returned (.tuple #[.agg (zi (zh a)), .bool s]) = Ending.returned (.tuple #[.agg (zi (zh b)), .bool t]) := by rw [h1, h2]
theorem pt_even {b : List UInt8} (hb : b.length = 32) (h : odE b = false) : nd (rE (yE b)) ++ (nd (yE b) ++ ([1, 0, 0, 0] ++ nd (zq 1 (nv (nd (rE (yE b)))) (nv (nd (yE b)))))) = ptL (yE b) (odE b) := by
  rw [rE_nv, nv_y hb, ptL, h, xE_f, l4]
  rfl
theorem pt_odd {b : List UInt8} (hb : b.length = 32) (h : odE b = true) : nd (zJ 1 0 (nv (nd (rE (yE b))))) ++ (nd (yE b) ++ ([1, 0, 0, 0] ++ nd (zq 1 (nv (nd (zJ 1 0 (nv (nd (rE (yE b))))))) (nv (nd (yE b)))))) = ptL (yE b) (odE b) := by
  rw [rE_nv, nv_s1, nv_y hb, ptL, h, xE_t, l4]
  rfl

theorem root_tA (w : World) {a : List UInt64} {y : Nat} (h : a = nd (tA y)) : Calls Tryd.prog 34 #[.int .i64 1, .agg (zi (zh a))] w fun e w' => e = .returned (.tuple #[.agg (zi (zh (nd (rE y)))), .bool (Ql 1 (tA y))]) ∧ Ev w [] w' [] := by
  subst h
  have h := root1_go w (nd (tA y)) (ndl _)
  rw [rE_txt, nv_tA] at h
  exact h

theorem rroot_tA (w : World) {a : List UInt64} {y : Nat} (h : a = nd (tA y)) : Calls Tryd.prog 60 #[.int .i64 1, .agg (zi (zh a))] w fun e w' => e = .returned (.tuple #[.agg (zi (zh (nd (rE y)))), .bool (Ql 1 (tA y))]) ∧ Ev w [] w' [] := by
  subst h
  have h := rroot1_go w (nd (tA y)) (ndl _)
  rw [rE_txt, nv_tA] at h
  exact h

theorem told_go (w : World) (b : List UInt8) (hb : ze b = 32) : Calls Tryd.prog 16 #[.agg (zi (bys b))] w fun e w' => e = .returned (.tuple #[.agg (zi (zh (toL b))), .bool (isE b)]) ∧ Ev w [] w' [] := by
 refine d_0 [(0, .agg (zi (bys b)))] 67 Go.Proofs.Tryd.func16 Go.Proofs.Tryd.ntmps16 (Heap.nil _) fun act0 En0 Hv0 => ?_
 refine wp_seq <| zm <| f_o <| m_m 22 (bys b) En0 Hv0 fun _ _ bk1 En4 Hv5 => ?_
 refine f_o <| m_z 43 ((zh (zc 4 0)) ++ ((zh (zc 4 0)) ++ ((zh (zc 4 0)) ++ (zh (zc 4 0))))) En4 Hv5 fun _ _ bk6 En9 Hv10 => ?_
 refine d_e [1,2,3] [] En9 fun _ En12 => ?_
 refine zg <| wp_seq <| zm <| d_k [1,2,3,10] [] 1 En12 fun _ En14 => ?_
 refine f_o ?_
 have hb15 : 31 < ze b := by rw [hb]; omega
 refine m_v 0 31 (bv (zf b 31 0)) En14 Hv10 rfl (ZS hb15) fun _ En17 => ?_
 refine d_e [1,2,3,4] [(2, g_i .u8 (Go.Dbr.u8_shr (x := zf b 31 0) (n := 7) rfl (by decide)))] En17 fun _ En19 => ?_
 refine zg <| wp_seq <| zm <| d_k [1,2,3,4,13] [] 1 En19 fun _ En21 => ?_
 refine f_o ?_
 have hb22 : 31 < ze b := by rw [hb]; omega
 refine m_v 0 31 (bv (zf b 31 0)) En21 Hv10 rfl (ZS hb22) fun _ En24 => ?_
 refine d_k [1,2,3,4,15,16] [(2, g_i .u8 (Go.Dbr.u8_and (x := zf b 31 0) (y := (127 : UInt8)) rfl rfl))] 4 En24 fun _ En26 => ?_
 refine f_o ?_
 have hb27 : 31 < ze b := by rw [hb]; omega
 refine m_t 0 31 (bv ((zf b 31 0) &&& (127 : UInt8))) [.box bk1 (bys (zp b 31 ((zf b 31 0) &&& (127 : UInt8)))) 22, .box bk6 ((zh (zc 4 0)) ++ ((zh (zc 4 0)) ++ ((zh (zc 4 0)) ++ (zh (zc 4 0))))) 43] En26 Hv10 rfl (ZS hb27) (bys_set _ _ _) rfl fun _ _ En30 Hv31 => ?_
 refine f_e <| zg <| wp_seq <| zm <| f_o <| m_a 0 0 32 (bys (zp b 31 ((zf b 31 0) &&& (127 : UInt8)))) En30 Hv31 rfl (zn (bys_lenh (List.length_set.trans hb))) (bys_lenh (List.length_set.trans hb)) fun _ En33 => ?_
 refine f_o <| c_p En33 Hv31 (fromle_go _ (zp b 31 ((zf b 31 0) &&& (127 : UInt8))) (List.length_set.trans hb)) fun _ _ En39 Hv40 => ?_
 refine f_o <| m_z 34 (zh (zc 4 0)) En39 Hv40 fun _ _ bk41 En44 Hv45 => ?_
 refine f_o <| m_g 2 0 4 (zh (nd (lv (zp b 31 ((zf b 31 0) &&& (127 : UInt8)))))) _ [.box bk1 (bys (zp b 31 ((zf b 31 0) &&& (127 : UInt8)))) 22, .box bk6 ((zh (zc 4 0)) ++ ((zh (zc 4 0)) ++ ((zh (zc 4 0)) ++ (zh (zc 4 0))))) 43, .box bk41 (zh (nd (lv (zp b 31 ((zf b 31 0) &&& (127 : UInt8)))))) 34] En44 Hv45 rfl (zb (zk _ _)) (by rw [(zb (zd))]; first | decide | (simp; done)) (zu _) (zo (zb (zd))) rfl fun _ _ En48 Hv49 => ?_
 refine f_e <| zg <| wp_seq <| wp_seq ?_
 rw [show (nd (lv (zp b 31 ((zf b 31 0) &&& (127 : UInt8))))) = (nd (yE b)) from rfl] at Hv49
 refine zm <| f_o <| m_a 2 0 4 (zh (nd (yE b))) En48 Hv49 rfl (zn (zb (zk _ _))) (zb (zk _ _)) fun _ En51 => ?_
 refine f_o <| c_p En51 Hv49 (rightq_go _ 1 (nd (yE b)) (zk _ _)) fun _ _ En57 Hv58 => ?_
 refine d_e [1,2,3,4,5,21] [] En57 fun _ En60 => ?_
 refine zg <| cond_at En60 (t := !(decide (nv (nd (yE b)) < mF 1))) (by kernel_rfl) (fun hc61 => ?_) (fun hc61 => ?_)
 ·
  replace hc61 : ¬ (nv (nd (yE b)) < mF 1) := by simpa using hc61
  refine wp_seq <| zm <| d_k [1,2,3,4,5,22] [] 1 En60 fun _ En63 => ?_
  refine f_o <| m_g 1 0 16 [.int .u64 0, .int .u64 0, .int .u64 0, .int .u64 0, .int .u64 0, .int .u64 0, .int .u64 0, .int .u64 0, .int .u64 0, .int .u64 0, .int .u64 0, .int .u64 0, .int .u64 0, .int .u64 0, .int .u64 0, .int .u64 0] _ [.box bk1 (bys (zp b 31 ((zf b 31 0) &&& (127 : UInt8)))) 22, .box bk6 [.int .u64 0, .int .u64 0, .int .u64 0, .int .u64 0, .int .u64 0, .int .u64 0, .int .u64 0, .int .u64 0, .int .u64 0, .int .u64 0, .int .u64 0, .int .u64 0, .int .u64 0, .int .u64 0, .int .u64 0, .int .u64 0] 43, .box bk41 (zh (nd (yE b))) 34] En63 Hv58 rfl rfl (by rw [(zw (zb (zd)) (zw (zb (zd)) (zw (zb (zd)) (zb (zd)))))]; first | decide | (simp; done)) (one_all (by kernel_rfl)) (zo (zw (zb (zd)) (zw (zb (zd)) (zw (zb (zd)) (zb (zd)))))) rfl fun _ _ En66 Hv67 => ?_
  refine d_e [1,2,3,4,5] [] En66 fun _ En69 => ?_
  refine zg <| wp_ret <| Zg <| Zn (v := .agg #[.int .u64 0, .int .u64 0, .int .u64 0, .int .u64 0, .int .u64 0, .int .u64 0, .int .u64 0, .int .u64 0, .int .u64 0, .int .u64 0, .int .u64 0, .int .u64 0, .int .u64 0, .int .u64 0, .int .u64 0, .int .u64 0]) (x := .bool false) (t := 2) (T := 43) (ad := ⟨bk6, 0, none⟩) (u := 3) En69 (by kernel_rfl) (by kernel_rfl) (zx (t := 43) (k := 1) (off := 0) (m := 16) (xs := [.int .u64 0, .int .u64 0, .int .u64 0, .int .u64 0, .int .u64 0, .int .u64 0, .int .u64 0, .int .u64 0, .int .u64 0, .int .u64 0, .int .u64 0, .int .u64 0, .int .u64 0, .int .u64 0, .int .u64 0, .int .u64 0]) Hv67 rfl rfl rfl (by kernel_rfl) (by kernel_rfl)) (by kernel_rfl) ?_
  have ei : isE b = false := no_1 (by rw [← nv_y hb]; exact hc61)
  exact ⟨(show _ = Ending.returned (.tuple #[.agg (zi (zh (zc 16 0))), .bool false]) from by kernel_rfl).trans (ret_to (to_no ei) ei.symm), Hv67.pk []⟩
 replace hc61 : nv (nd (yE b)) < mF 1 := by simpa using hc61
 refine wp_skip <| zg <| wp_seq <| zm <| f_o <| m_a 2 0 4 (zh (nd (yE b))) En60 Hv58 rfl (zn (zb (zk _ _))) (zb (zk _ _)) fun _ En71 => ?_
 refine f_o <| m_a 2 0 4 (zh (nd (yE b))) En71 Hv58 rfl (zn (zb (zk _ _))) (zb (zk _ _)) fun _ En73 => ?_
 refine f_o <| c_p En73 Hv58 (ZV _ (nd (yE b)) (nd (yE b)) (zk _ _) (zk _ _)) fun _ _ En79 Hv80 => ?_
 refine f_o <| m_z 34 (zh (zc 4 0)) En79 Hv80 fun _ _ bk81 En84 Hv85 => ?_
 refine f_o <| m_g 3 0 4 (zh (nd (zq 1 (nv (nd (yE b))) (nv (nd (yE b)))))) _ [.box bk1 (bys (zp b 31 ((zf b 31 0) &&& (127 : UInt8)))) 22, .box bk6 ((zh (zc 4 0)) ++ ((zh (zc 4 0)) ++ ((zh (zc 4 0)) ++ (zh (zc 4 0))))) 43, .box bk41 (zh (nd (yE b))) 34, .box bk81 (zh (nd (zq 1 (nv (nd (yE b))) (nv (nd (yE b)))))) 34] En84 Hv85 rfl (zb (zk _ _)) (by rw [(zb (zd))]; first | decide | (simp; done)) (zu _) (zo (zb (zd))) rfl fun _ _ En88 Hv89 => ?_
 refine f_e <| zg <| wp_seq ?_
 rw [show (nd (zq 1 (nv (nd (yE b))) (nv (nd (yE b))))) = (nd (zq 1 (nv (nd (yE b))) (nv (nd (yE b))))) from rfl] at Hv89
 refine zm <| f_o <| c_p En88 Hv89 (twiceD_go _) fun _ _ En95 Hv96 => ?_
 refine d_k [1,2,3,4,5,6,26,27] [] 2 En95 fun _ En98 => ?_
 refine f_o <| c_p En98 Hv96 (Xi _ 1 h1f hM1 ([2, 0, 0, 0] : List UInt64) (show ze ([2, 0, 0, 0] : List UInt64) = 4 from rfl)) fun _ _ En104 Hv105 => ?_
 refine f_o <| c_p En104 Hv105 (ZV _ (nd D2N) (nd (zC 1 (nv ([2, 0, 0, 0] : List UInt64)) (mF 1 - 2))) (zk _ _) (zk _ _)) fun _ _ En111 Hv112 => ?_
 refine f_o <| m_z 34 (zh (zc 4 0)) En111 Hv112 fun _ _ bk113 En116 Hv117 => ?_
 refine f_o <| m_g 4 0 4 (zh (nd (zq 1 (nv (nd D2N)) (nv (nd (zC 1 (nv ([2, 0, 0, 0] : List UInt64)) (mF 1 - 2))))))) _ [.box bk1 (bys (zp b 31 ((zf b 31 0) &&& (127 : UInt8)))) 22, .box bk6 ((zh (zc 4 0)) ++ ((zh (zc 4 0)) ++ ((zh (zc 4 0)) ++ (zh (zc 4 0))))) 43, .box bk41 (zh (nd (yE b))) 34, .box bk81 (zh (nd (zq 1 (nv (nd (yE b))) (nv (nd (yE b)))))) 34, .box bk113 (zh (nd (zq 1 (nv (nd D2N)) (nv (nd (zC 1 (nv ([2, 0, 0, 0] : List UInt64)) (mF 1 - 2))))))) 34] En116 Hv117 rfl (zb (zk _ _)) (by rw [(zb (zd))]; first | decide | (simp; done)) (zu _) (zo (zb (zd))) rfl fun _ _ En120 Hv121 => ?_
 refine f_e <| zg <| wp_seq ?_
 rw [show (nd (zq 1 (nv (nd D2N)) (nv (nd (zC 1 (nv ([2, 0, 0, 0] : List UInt64)) (mF 1 - 2)))))) = (nd DN) from d_half] at Hv121
 refine r_c (fun ac wo => ∃ (bk751 : Nat), Env ac 67 [(1, pt bk1), (2, pt bk6), (3, .bool false), (4, bv ((zf b 31 0) >>> zA 7)), (5, pt bk41), (6, pt bk81), (7, pt bk113), (8, pt bk751), (9, .bool (Ql 1 (tA (yE b))))] ∧ Ev w [] wo [.box bk1 (bys (zp b 31 ((zf b 31 0) &&& (127 : UInt8)))) 22, .box bk6 ((zh (zc 4 0)) ++ ((zh (zc 4 0)) ++ ((zh (zc 4 0)) ++ (zh (zc 4 0))))) 43, .box bk41 (zh (nd (yE b))) 34, .box bk81 (zh (nd (zq 1 (nv (nd (yE b))) (nv (nd (yE b)))))) 34, .box bk113 (zh (nd DN)) 34, .box bk751 (zh (nd (rE (yE b)))) 34]) ?_ ?_
 ·
  refine h_s (fun wv => Ev w [] wv [.box bk81 (zh (nd (zq 1 (nv (nd (yE b))) (nv (nd (yE b)))))) 34, .box bk113 (zh (nd DN)) 34]) [] 17 ?_
  have wo122 := Hv121.trans (zQ Hv121.heap)
  refine h_name fun G hG => ?_
  have nd987 : ∀ (ac : Act) (wo : World), Env ac 67 [(1, pt bk1), (2, pt bk6), (3, .bool false), (4, bv ((zf b 31 0) >>> zA 7)), (5, pt bk41), (6, pt bk81), (7, pt bk113), (41, .tuple #[.agg (zi (zh (nd (rE (yE b))))), .bool (Ql 1 (tA (yE b)))])] → Ev w [] wo [.box bk1 (bys (zp b 31 ((zf b 31 0) &&& (127 : UInt8)))) 22, .box bk6 ((zh (zc 4 0)) ++ ((zh (zc 4 0)) ++ ((zh (zc 4 0)) ++ (zh (zc 4 0))))) 43, .box bk41 (zh (nd (yE b))) 34, .box bk81 (zh (nd (zq 1 (nv (nd (yE b))) (nv (nd (yE b)))))) 34, .box bk113 (zh (nd DN)) 34] → G 6 #[true, true, true, true, true, true, true, true, true, true, true, false, false, false, false, false, false] ac wo := by
   intro _ _ En990 Hv991
   refine Zs hG ?_
   refine q_s [11,12,13] [] 3 En990 (Hv991.pk [3, 4]) fun _ En993 => ?_
   refine q_t 14 ?_
   refine m_z 34 (zh (zc 4 0)) En993 Hv991 fun _ _ bk994 En997 Hv998 => ?_
   refine ⟨fun _ => Hv998.pk [3, 4], ?_⟩
   refine q_t 15 ?_
   refine m_g 5 0 4 (zh (nd (rE (yE b)))) _ [.box bk1 (bys (zp b 31 ((zf b 31 0) &&& (127 : UInt8)))) 22, .box bk6 ((zh (zc 4 0)) ++ ((zh (zc 4 0)) ++ ((zh (zc 4 0)) ++ (zh (zc 4 0))))) 43, .box bk41 (zh (nd (yE b))) 34, .box bk81 (zh (nd (zq 1 (nv (nd (yE b))) (nv (nd (yE b)))))) 34, .box bk113 (zh (nd DN)) 34, .box bk994 (zh (nd (rE (yE b)))) 34] En997 Hv998 rfl (zb (zk _ _)) (by rw [(zb (zd))]; first | decide | (simp; done)) (zu _) (zo (zb (zd))) rfl fun _ _ En1001 Hv1002 => ?_
   refine ⟨fun _ => Hv1002.pk [3, 4], ?_⟩
   refine q_s [16] [] 0 En1001 (Hv1002.pk [3, 4]) fun _ En1004 => ?_
   exact h_e ⟨bk994, En1004.sb, Hv1002.pk [0, 1, 2, 3, 4, 5]⟩
  have nd1005 : ∀ (ac : Act) (wo : World) (bk762 : Nat), Env ac 67 [(1, pt bk1), (2, pt bk6), (3, .bool false), (4, bv ((zf b 31 0) >>> zA 7)), (5, pt bk41), (6, pt bk81), (7, pt bk113), (8, pt bk762), (40, .agg (zi (zh (nd (zq 1 (nv (nd (zJ 1 (nv (nd (zq 1 (nv (nd (yE b))) (nv (nd (yE b)))))) (nv ([1, 0, 0, 0] : List UInt64))))) (nv (nd (zC 1 (nv (nd (Zf 1 (nv (nd (zq 1 (nv (nd DN)) (nv (nd (zq 1 (nv (nd (yE b))) (nv (nd (yE b))))))))) (nv ([1, 0, 0, 0] : List UInt64))))) (mF 1 - 2)))))))))] → Ev w [] wo [.box bk1 (bys (zp b 31 ((zf b 31 0) &&& (127 : UInt8)))) 22, .box bk6 ((zh (zc 4 0)) ++ ((zh (zc 4 0)) ++ ((zh (zc 4 0)) ++ (zh (zc 4 0))))) 43, .box bk41 (zh (nd (yE b))) 34, .box bk81 (zh (nd (zq 1 (nv (nd (yE b))) (nv (nd (yE b)))))) 34, .box bk113 (zh (nd DN)) 34, .box bk762 (zh (zc 4 0)) 34] → G 6 #[true, true, true, true, true, true, true, true, true, true, false, false, false, false, true, false, false] ac wo := by
   intro _ _ bk762 En1008 Hv1009
   refine Zs hG ?_
   refine q_t 10 ?_
   refine c_p En1008 Hv1009 (root_tA _ (show (nd (zq 1 (nv (nd (zJ 1 (nv (nd (zq 1 (nv (nd (yE b))) (nv (nd (yE b)))))) (nv ([1, 0, 0, 0] : List UInt64))))) (nv (nd (zC 1 (nv (nd (Zf 1 (nv (nd (zq 1 (nv (nd DN)) (nv (nd (zq 1 (nv (nd (yE b))) (nv (nd (yE b))))))))) (nv ([1, 0, 0, 0] : List UInt64))))) (mF 1 - 2)))))) = nd (tA (yE b)) from tA_txt (nv_y hb))) fun _ _ En1015 Hv1016 => ?_
   refine ⟨fun _ => Hv1016.pk [3, 4], ?_⟩
   refine q_s [11,12,13] [] 2 En1015 (Hv1016.pk [3, 4]) fun _ En1018 => ?_
   refine q_t 15 ?_
   refine m_g 5 0 4 (zh (nd (rE (yE b)))) _ [.box bk1 (bys (zp b 31 ((zf b 31 0) &&& (127 : UInt8)))) 22, .box bk6 ((zh (zc 4 0)) ++ ((zh (zc 4 0)) ++ ((zh (zc 4 0)) ++ (zh (zc 4 0))))) 43, .box bk41 (zh (nd (yE b))) 34, .box bk81 (zh (nd (zq 1 (nv (nd (yE b))) (nv (nd (yE b)))))) 34, .box bk113 (zh (nd DN)) 34, .box bk762 (zh (nd (rE (yE b)))) 34] En1018 Hv1016 rfl (zb (zk _ _)) (by rw [(zb (zd))]; first | decide | (simp; done)) (zu _) (zo (zb (zd))) rfl fun _ _ En1021 Hv1022 => ?_
   refine ⟨fun _ => Hv1022.pk [3, 4], ?_⟩
   refine q_s [16] [] 0 En1021 (Hv1022.pk [3, 4]) fun _ En1024 => ?_
   exact h_e ⟨bk762, En1024.sb, Hv1022.pk [0, 1, 2, 3, 4, 5]⟩
  have nd1025 : ∀ (ac : Act) (wo : World), Env ac 67 [(1, pt bk1), (2, pt bk6), (3, .bool false), (4, bv ((zf b 31 0) >>> zA 7)), (5, pt bk41), (6, pt bk81), (7, pt bk113), (40, .agg (zi (zh (nd (zq 1 (nv (nd (zJ 1 (nv (nd (zq 1 (nv (nd (yE b))) (nv (nd (yE b)))))) (nv ([1, 0, 0, 0] : List UInt64))))) (nv (nd (zC 1 (nv (nd (Zf 1 (nv (nd (zq 1 (nv (nd DN)) (nv (nd (zq 1 (nv (nd (yE b))) (nv (nd (yE b))))))))) (nv ([1, 0, 0, 0] : List UInt64))))) (mF 1 - 2)))))))))] → Ev w [] wo [.box bk1 (bys (zp b 31 ((zf b 31 0) &&& (127 : UInt8)))) 22, .box bk6 ((zh (zc 4 0)) ++ ((zh (zc 4 0)) ++ ((zh (zc 4 0)) ++ (zh (zc 4 0))))) 43, .box bk41 (zh (nd (yE b))) 34, .box bk81 (zh (nd (zq 1 (nv (nd (yE b))) (nv (nd (yE b)))))) 34, .box bk113 (zh (nd DN)) 34] → G 7 #[true, true, true, true, true, true, true, true, true, true, false, false, false, false, false, false, false] ac wo := by
   intro _ _ En1028 Hv1029
   refine Zs hG ?_
   refine QF [10, 14] (by kernel_rfl) rfl ?_
   refine ⟨?_, ?_, trivial⟩
   ·
    rintro _ rfl
    refine c_p En1028 Hv1029 (root_tA _ (show (nd (zq 1 (nv (nd (zJ 1 (nv (nd (zq 1 (nv (nd (yE b))) (nv (nd (yE b)))))) (nv ([1, 0, 0, 0] : List UInt64))))) (nv (nd (zC 1 (nv (nd (Zf 1 (nv (nd (zq 1 (nv (nd DN)) (nv (nd (zq 1 (nv (nd (yE b))) (nv (nd (yE b))))))))) (nv ([1, 0, 0, 0] : List UInt64))))) (mF 1 - 2)))))) = nd (tA (yE b)) from tA_txt (nv_y hb))) fun _ _ En1035 Hv1036 => ?_
    refine ⟨fun _ => Hv1036.pk [3, 4], ?_⟩
    exact QQ hG (by kernel_rfl) (nd987 _ _ (En1035.sb) (Hv1036.pk [0, 1, 2, 3, 4]))
   rintro _ rfl
   refine m_z 34 (zh (zc 4 0)) En1028 Hv1029 fun _ _ bk1037 En1040 Hv1041 => ?_
   refine ⟨fun _ => Hv1041.pk [3, 4], ?_⟩
   exact QQ hG (by kernel_rfl) (nd1005 _ _ bk1037 (En1040.sb) (Hv1041.pk [0, 1, 2, 3, 4, 5]))
  have nd1042 : ∀ (ac : Act) (wo : World) (bk782 : Nat), Env ac 67 [(1, pt bk1), (2, pt bk6), (3, .bool false), (4, bv ((zf b 31 0) >>> zA 7)), (5, pt bk41), (6, pt bk81), (7, pt bk113), (8, pt bk782), (33, .agg (zi (zh (nd (zJ 1 (nv (nd (zq 1 (nv (nd (yE b))) (nv (nd (yE b)))))) (nv ([1, 0, 0, 0] : List UInt64))))))), (39, .agg (zi (zh (nd (zC 1 (nv (nd (Zf 1 (nv (nd (zq 1 (nv (nd DN)) (nv (nd (zq 1 (nv (nd (yE b))) (nv (nd (yE b))))))))) (nv ([1, 0, 0, 0] : List UInt64))))) (mF 1 - 2))))))] → Ev w [] wo [.box bk1 (bys (zp b 31 ((zf b 31 0) &&& (127 : UInt8)))) 22, .box bk6 ((zh (zc 4 0)) ++ ((zh (zc 4 0)) ++ ((zh (zc 4 0)) ++ (zh (zc 4 0))))) 43, .box bk41 (zh (nd (yE b))) 34, .box bk81 (zh (nd (zq 1 (nv (nd (yE b))) (nv (nd (yE b)))))) 34, .box bk113 (zh (nd DN)) 34, .box bk782 (zh (zc 4 0)) 34] → G 7 #[true, true, true, true, true, true, true, true, true, false, false, false, false, false, true, false, false] ac wo := by
   intro _ _ bk782 En1045 Hv1046
   refine Zs hG ?_
   refine q_t 9 ?_
   refine c_p En1045 Hv1046 (ZV _ (nd (zJ 1 (nv (nd (zq 1 (nv (nd (yE b))) (nv (nd (yE b)))))) (nv ([1, 0, 0, 0] : List UInt64)))) (nd (zC 1 (nv (nd (Zf 1 (nv (nd (zq 1 (nv (nd DN)) (nv (nd (zq 1 (nv (nd (yE b))) (nv (nd (yE b))))))))) (nv ([1, 0, 0, 0] : List UInt64))))) (mF 1 - 2))) (zk _ _) (zk _ _)) fun _ _ En1052 Hv1053 => ?_
   refine ⟨fun _ => Hv1053.pk [3, 4], ?_⟩
   refine q_t 10 ?_
   refine c_p En1052 Hv1053 (root_tA _ (show (nd (zq 1 (nv (nd (zJ 1 (nv (nd (zq 1 (nv (nd (yE b))) (nv (nd (yE b)))))) (nv ([1, 0, 0, 0] : List UInt64))))) (nv (nd (zC 1 (nv (nd (Zf 1 (nv (nd (zq 1 (nv (nd DN)) (nv (nd (zq 1 (nv (nd (yE b))) (nv (nd (yE b))))))))) (nv ([1, 0, 0, 0] : List UInt64))))) (mF 1 - 2)))))) = nd (tA (yE b)) from tA_txt (nv_y hb))) fun _ _ En1059 Hv1060 => ?_
   refine ⟨fun _ => Hv1060.pk [3, 4], ?_⟩
   refine q_s [11,12,13] [] 2 En1059 (Hv1060.pk [3, 4]) fun _ En1062 => ?_
   refine q_t 15 ?_
   refine m_g 5 0 4 (zh (nd (rE (yE b)))) _ [.box bk1 (bys (zp b 31 ((zf b 31 0) &&& (127 : UInt8)))) 22, .box bk6 ((zh (zc 4 0)) ++ ((zh (zc 4 0)) ++ ((zh (zc 4 0)) ++ (zh (zc 4 0))))) 43, .box bk41 (zh (nd (yE b))) 34, .box bk81 (zh (nd (zq 1 (nv (nd (yE b))) (nv (nd (yE b)))))) 34, .box bk113 (zh (nd DN)) 34, .box bk782 (zh (nd (rE (yE b)))) 34] En1062 Hv1060 rfl (zb (zk _ _)) (by rw [(zb (zd))]; first | decide | (simp; done)) (zu _) (zo (zb (zd))) rfl fun _ _ En1065 Hv1066 => ?_
   refine ⟨fun _ => Hv1066.pk [3, 4], ?_⟩
   refine q_s [16] [] 0 En1065 (Hv1066.pk [3, 4]) fun _ En1068 => ?_
   exact h_e ⟨bk782, En1068.sb, Hv1066.pk [0, 1, 2, 3, 4, 5]⟩
  have nd1069 : ∀ (ac : Act) (wo : World), Env ac 67 [(1, pt bk1), (2, pt bk6), (3, .bool false), (4, bv ((zf b 31 0) >>> zA 7)), (5, pt bk41), (6, pt bk81), (7, pt bk113), (33, .agg (zi (zh (nd (zJ 1 (nv (nd (zq 1 (nv (nd (yE b))) (nv (nd (yE b)))))) (nv ([1, 0, 0, 0] : List UInt64))))))), (39, .agg (zi (zh (nd (zC 1 (nv (nd (Zf 1 (nv (nd (zq 1 (nv (nd DN)) (nv (nd (zq 1 (nv (nd (yE b))) (nv (nd (yE b))))))))) (nv ([1, 0, 0, 0] : List UInt64))))) (mF 1 - 2))))))] → Ev w [] wo [.box bk1 (bys (zp b 31 ((zf b 31 0) &&& (127 : UInt8)))) 22, .box bk6 ((zh (zc 4 0)) ++ ((zh (zc 4 0)) ++ ((zh (zc 4 0)) ++ (zh (zc 4 0))))) 43, .box bk41 (zh (nd (yE b))) 34, .box bk81 (zh (nd (zq 1 (nv (nd (yE b))) (nv (nd (yE b)))))) 34, .box bk113 (zh (nd DN)) 34] → G 8 #[true, true, true, true, true, true, true, true, true, false, false, false, false, false, false, false, false] ac wo := by
   intro _ _ En1072 Hv1073
   refine Zs hG ?_
   refine QF [9, 14] (by kernel_rfl) rfl ?_
   refine ⟨?_, ?_, trivial⟩
   ·
    rintro _ rfl
    refine c_p En1072 Hv1073 (ZV _ (nd (zJ 1 (nv (nd (zq 1 (nv (nd (yE b))) (nv (nd (yE b)))))) (nv ([1, 0, 0, 0] : List UInt64)))) (nd (zC 1 (nv (nd (Zf 1 (nv (nd (zq 1 (nv (nd DN)) (nv (nd (zq 1 (nv (nd (yE b))) (nv (nd (yE b))))))))) (nv ([1, 0, 0, 0] : List UInt64))))) (mF 1 - 2))) (zk _ _) (zk _ _)) fun _ _ En1079 Hv1080 => ?_
    refine ⟨fun _ => Hv1080.pk [3, 4], ?_⟩
    exact QQ hG (by kernel_rfl) (nd1025 _ _ (En1079.sb) (Hv1080.pk [0, 1, 2, 3, 4]))
   rintro _ rfl
   refine m_z 34 (zh (zc 4 0)) En1072 Hv1073 fun _ _ bk1081 En1084 Hv1085 => ?_
   refine ⟨fun _ => Hv1085.pk [3, 4], ?_⟩
   exact QQ hG (by kernel_rfl) (nd1042 _ _ bk1081 (En1084.sb) (Hv1085.pk [0, 1, 2, 3, 4, 5]))
  have nd1086 : ∀ (ac : Act) (wo : World) (bk809 : Nat), Env ac 67 [(1, pt bk1), (2, pt bk6), (3, .bool false), (4, bv ((zf b 31 0) >>> zA 7)), (5, pt bk41), (6, pt bk81), (7, pt bk113), (8, pt bk809), (33, .agg (zi (zh (nd (zJ 1 (nv (nd (zq 1 (nv (nd (yE b))) (nv (nd (yE b)))))) (nv ([1, 0, 0, 0] : List UInt64))))))), (38, .agg (zi (zh (nd (Zf 1 (nv (nd (zq 1 (nv (nd DN)) (nv (nd (zq 1 (nv (nd (yE b))) (nv (nd (yE b))))))))) (nv ([1, 0, 0, 0] : List UInt64)))))))] → Ev w [] wo [.box bk1 (bys (zp b 31 ((zf b 31 0) &&& (127 : UInt8)))) 22, .box bk6 ((zh (zc 4 0)) ++ ((zh (zc 4 0)) ++ ((zh (zc 4 0)) ++ (zh (zc 4 0))))) 43, .box bk41 (zh (nd (yE b))) 34, .box bk81 (zh (nd (zq 1 (nv (nd (yE b))) (nv (nd (yE b)))))) 34, .box bk113 (zh (nd DN)) 34, .box bk809 (zh (zc 4 0)) 34] → G 8 #[true, true, true, true, true, true, true, true, false, false, false, false, false, false, true, false, false] ac wo := by
   intro _ _ bk809 En1089 Hv1090
   refine Zs hG ?_
   refine q_t 8 ?_
   refine c_p En1089 Hv1090 (Xi _ 1 h1f hM1 (nd (Zf 1 (nv (nd (zq 1 (nv (nd DN)) (nv (nd (zq 1 (nv (nd (yE b))) (nv (nd (yE b))))))))) (nv ([1, 0, 0, 0] : List UInt64)))) (zk _ _)) fun _ _ En1096 Hv1097 => ?_
   refine ⟨fun _ => Hv1097.pk [3, 4], ?_⟩
   refine q_t 9 ?_
   refine c_p En1096 Hv1097 (ZV _ (nd (zJ 1 (nv (nd (zq 1 (nv (nd (yE b))) (nv (nd (yE b)))))) (nv ([1, 0, 0, 0] : List UInt64)))) (nd (zC 1 (nv (nd (Zf 1 (nv (nd (zq 1 (nv (nd DN)) (nv (nd (zq 1 (nv (nd (yE b))) (nv (nd (yE b))))))))) (nv ([1, 0, 0, 0] : List UInt64))))) (mF 1 - 2))) (zk _ _) (zk _ _)) fun _ _ En1103 Hv1104 => ?_
   refine ⟨fun _ => Hv1104.pk [3, 4], ?_⟩
   refine q_t 10 ?_
   refine c_p En1103 Hv1104 (root_tA _ (show (nd (zq 1 (nv (nd (zJ 1 (nv (nd (zq 1 (nv (nd (yE b))) (nv (nd (yE b)))))) (nv ([1, 0, 0, 0] : List UInt64))))) (nv (nd (zC 1 (nv (nd (Zf 1 (nv (nd (zq 1 (nv (nd DN)) (nv (nd (zq 1 (nv (nd (yE b))) (nv (nd (yE b))))))))) (nv ([1, 0, 0, 0] : List UInt64))))) (mF 1 - 2)))))) = nd (tA (yE b)) from tA_txt (nv_y hb))) fun _ _ En1110 Hv1111 => ?_
   refine ⟨fun _ => Hv1111.pk [3, 4], ?_⟩
   refine q_s [11,12,13] [] 2 En1110 (Hv1111.pk [3, 4]) fun _ En1113 => ?_
   refine q_t 15 ?_
   refine m_g 5 0 4 (zh (nd (rE (yE b)))) _ [.box bk1 (bys (zp b 31 ((zf b 31 0) &&& (127 : UInt8)))) 22, .box bk6 ((zh (zc 4 0)) ++ ((zh (zc 4 0)) ++ ((zh (zc 4 0)) ++ (zh (zc 4 0))))) 43, .box bk41 (zh (nd (yE b))) 34, .box bk81 (zh (nd (zq 1 (nv (nd (yE b))) (nv (nd (yE b)))))) 34, .box bk113 (zh (nd DN)) 34, .box bk809 (zh (nd (rE (yE b)))) 34] En1113 Hv1111 rfl (zb (zk _ _)) (by rw [(zb (zd))]; first | decide | (simp; done)) (zu _) (zo (zb (zd))) rfl fun _ _ En1116 Hv1117 => ?_
   refine ⟨fun _ => Hv1117.pk [3, 4], ?_⟩
   refine q_s [16] [] 0 En1116 (Hv1117.pk [3, 4]) fun _ En1119 => ?_
   exact h_e ⟨bk809, En1119.sb, Hv1117.pk [0, 1, 2, 3, 4, 5]⟩
  have nd1120 : ∀ (ac : Act) (wo : World), Env ac 67 [(1, pt bk1), (2, pt bk6), (3, .bool false), (4, bv ((zf b 31 0) >>> zA 7)), (5, pt bk41), (6, pt bk81), (7, pt bk113), (33, .agg (zi (zh (nd (zJ 1 (nv (nd (zq 1 (nv (nd (yE b))) (nv (nd (yE b)))))) (nv ([1, 0, 0, 0] : List UInt64))))))), (38, .agg (zi (zh (nd (Zf 1 (nv (nd (zq 1 (nv (nd DN)) (nv (nd (zq 1 (nv (nd (yE b))) (nv (nd (yE b))))))))) (nv ([1, 0, 0, 0] : List UInt64)))))))] → Ev w [] wo [.box bk1 (bys (zp b 31 ((zf b 31 0) &&& (127 : UInt8)))) 22, .box bk6 ((zh (zc 4 0)) ++ ((zh (zc 4 0)) ++ ((zh (zc 4 0)) ++ (zh (zc 4 0))))) 43, .box bk41 (zh (nd (yE b))) 34, .box bk81 (zh (nd (zq 1 (nv (nd (yE b))) (nv (nd (yE b)))))) 34, .box bk113 (zh (nd DN)) 34] → G 9 #[true, true, true, true, true, true, true, true, false, false, false, false, false, false, false, false, false] ac wo := by
   intro _ _ En1123 Hv1124
   refine Zs hG ?_
   refine QF [8, 14] (by kernel_rfl) rfl ?_
   refine ⟨?_, ?_, trivial⟩
   ·
    rintro _ rfl
    refine c_p En1123 Hv1124 (Xi _ 1 h1f hM1 (nd (Zf 1 (nv (nd (zq 1 (nv (nd DN)) (nv (nd (zq 1 (nv (nd (yE b))) (nv (nd (yE b))))))))) (nv ([1, 0, 0, 0] : List UInt64)))) (zk _ _)) fun _ _ En1130 Hv1131 => ?_
    refine ⟨fun _ => Hv1131.pk [3, 4], ?_⟩
    exact QQ hG (by kernel_rfl) (nd1069 _ _ (En1130.sb) (Hv1131.pk [0, 1, 2, 3, 4]))
   rintro _ rfl
   refine m_z 34 (zh (zc 4 0)) En1123 Hv1124 fun _ _ bk1132 En1135 Hv1136 => ?_
   refine ⟨fun _ => Hv1136.pk [3, 4], ?_⟩
   exact QQ hG (by kernel_rfl) (nd1086 _ _ bk1132 (En1135.sb) (Hv1136.pk [0, 1, 2, 3, 4, 5]))
  have nd1137 : ∀ (ac : Act) (wo : World) (bk843 : Nat), Env ac 67 [(1, pt bk1), (2, pt bk6), (3, .bool false), (4, bv ((zf b 31 0) >>> zA 7)), (5, pt bk41), (6, pt bk81), (7, pt bk113), (8, pt bk843), (33, .agg (zi (zh (nd (zJ 1 (nv (nd (zq 1 (nv (nd (yE b))) (nv (nd (yE b)))))) (nv ([1, 0, 0, 0] : List UInt64))))))), (36, .agg (zi (zh (nd (zq 1 (nv (nd DN)) (nv (nd (zq 1 (nv (nd (yE b))) (nv (nd (yE b))))))))))), (37, .agg (zi (zh ([1, 0, 0, 0] : List UInt64))))] → Ev w [] wo [.box bk1 (bys (zp b 31 ((zf b 31 0) &&& (127 : UInt8)))) 22, .box bk6 ((zh (zc 4 0)) ++ ((zh (zc 4 0)) ++ ((zh (zc 4 0)) ++ (zh (zc 4 0))))) 43, .box bk41 (zh (nd (yE b))) 34, .box bk81 (zh (nd (zq 1 (nv (nd (yE b))) (nv (nd (yE b)))))) 34, .box bk113 (zh (nd DN)) 34, .box bk843 (zh (zc 4 0)) 34] → G 9 #[true, true, true, true, true, true, true, false, false, false, false, false, false, false, true, false, false] ac wo := by
   intro _ _ bk843 En1140 Hv1141
   refine Zs hG ?_
   refine q_t 7 ?_
   refine c_p En1140 Hv1141 (Jb _ (nd (zq 1 (nv (nd DN)) (nv (nd (zq 1 (nv (nd (yE b))) (nv (nd (yE b)))))))) ([1, 0, 0, 0] : List UInt64) (zk _ _) (show ze ([1, 0, 0, 0] : List UInt64) = 4 from rfl)) fun _ _ En1147 Hv1148 => ?_
   refine ⟨fun _ => Hv1148.pk [3, 4], ?_⟩
   refine q_t 8 ?_
   refine c_p En1147 Hv1148 (Xi _ 1 h1f hM1 (nd (Zf 1 (nv (nd (zq 1 (nv (nd DN)) (nv (nd (zq 1 (nv (nd (yE b))) (nv (nd (yE b))))))))) (nv ([1, 0, 0, 0] : List UInt64)))) (zk _ _)) fun _ _ En1154 Hv1155 => ?_
   refine ⟨fun _ => Hv1155.pk [3, 4], ?_⟩
   refine q_t 9 ?_
   refine c_p En1154 Hv1155 (ZV _ (nd (zJ 1 (nv (nd (zq 1 (nv (nd (yE b))) (nv (nd (yE b)))))) (nv ([1, 0, 0, 0] : List UInt64)))) (nd (zC 1 (nv (nd (Zf 1 (nv (nd (zq 1 (nv (nd DN)) (nv (nd (zq 1 (nv (nd (yE b))) (nv (nd (yE b))))))))) (nv ([1, 0, 0, 0] : List UInt64))))) (mF 1 - 2))) (zk _ _) (zk _ _)) fun _ _ En1161 Hv1162 => ?_
   refine ⟨fun _ => Hv1162.pk [3, 4], ?_⟩
   refine q_t 10 ?_
   refine c_p En1161 Hv1162 (root_tA _ (show (nd (zq 1 (nv (nd (zJ 1 (nv (nd (zq 1 (nv (nd (yE b))) (nv (nd (yE b)))))) (nv ([1, 0, 0, 0] : List UInt64))))) (nv (nd (zC 1 (nv (nd (Zf 1 (nv (nd (zq 1 (nv (nd DN)) (nv (nd (zq 1 (nv (nd (yE b))) (nv (nd (yE b))))))))) (nv ([1, 0, 0, 0] : List UInt64))))) (mF 1 - 2)))))) = nd (tA (yE b)) from tA_txt (nv_y hb))) fun _ _ En1168 Hv1169 => ?_
   refine ⟨fun _ => Hv1169.pk [3, 4], ?_⟩
   refine q_s [11,12,13] [] 2 En1168 (Hv1169.pk [3, 4]) fun _ En1171 => ?_
   refine q_t 15 ?_
   refine m_g 5 0 4 (zh (nd (rE (yE b)))) _ [.box bk1 (bys (zp b 31 ((zf b 31 0) &&& (127 : UInt8)))) 22, .box bk6 ((zh (zc 4 0)) ++ ((zh (zc 4 0)) ++ ((zh (zc 4 0)) ++ (zh (zc 4 0))))) 43, .box bk41 (zh (nd (yE b))) 34, .box bk81 (zh (nd (zq 1 (nv (nd (yE b))) (nv (nd (yE b)))))) 34, .box bk113 (zh (nd DN)) 34, .box bk843 (zh (nd (rE (yE b)))) 34] En1171 Hv1169 rfl (zb (zk _ _)) (by rw [(zb (zd))]; first | decide | (simp; done)) (zu _) (zo (zb (zd))) rfl fun _ _ En1174 Hv1175 => ?_
   refine ⟨fun _ => Hv1175.pk [3, 4], ?_⟩
   refine q_s [16] [] 0 En1174 (Hv1175.pk [3, 4]) fun _ En1177 => ?_
   exact h_e ⟨bk843, En1177.sb, Hv1175.pk [0, 1, 2, 3, 4, 5]⟩
  have nd1178 : ∀ (ac : Act) (wo : World), Env ac 67 [(1, pt bk1), (2, pt bk6), (3, .bool false), (4, bv ((zf b 31 0) >>> zA 7)), (5, pt bk41), (6, pt bk81), (7, pt bk113), (33, .agg (zi (zh (nd (zJ 1 (nv (nd (zq 1 (nv (nd (yE b))) (nv (nd (yE b)))))) (nv ([1, 0, 0, 0] : List UInt64))))))), (36, .agg (zi (zh (nd (zq 1 (nv (nd DN)) (nv (nd (zq 1 (nv (nd (yE b))) (nv (nd (yE b))))))))))), (37, .agg (zi (zh ([1, 0, 0, 0] : List UInt64))))] → Ev w [] wo [.box bk1 (bys (zp b 31 ((zf b 31 0) &&& (127 : UInt8)))) 22, .box bk6 ((zh (zc 4 0)) ++ ((zh (zc 4 0)) ++ ((zh (zc 4 0)) ++ (zh (zc 4 0))))) 43, .box bk41 (zh (nd (yE b))) 34, .box bk81 (zh (nd (zq 1 (nv (nd (yE b))) (nv (nd (yE b)))))) 34, .box bk113 (zh (nd DN)) 34] → G 10 #[true, true, true, true, true, true, true, false, false, false, false, false, false, false, false, false, false] ac wo := by
   intro _ _ En1181 Hv1182
   refine Zs hG ?_
   refine QF [7, 14] (by kernel_rfl) rfl ?_
   refine ⟨?_, ?_, trivial⟩
   ·
    rintro _ rfl
    refine c_p En1181 Hv1182 (Jb _ (nd (zq 1 (nv (nd DN)) (nv (nd (zq 1 (nv (nd (yE b))) (nv (nd (yE b)))))))) ([1, 0, 0, 0] : List UInt64) (zk _ _) (show ze ([1, 0, 0, 0] : List UInt64) = 4 from rfl)) fun _ _ En1188 Hv1189 => ?_
    refine ⟨fun _ => Hv1189.pk [3, 4], ?_⟩
    exact QQ hG (by kernel_rfl) (nd1120 _ _ (En1188.sb) (Hv1189.pk [0, 1, 2, 3, 4]))
   rintro _ rfl
   refine m_z 34 (zh (zc 4 0)) En1181 Hv1182 fun _ _ bk1190 En1193 Hv1194 => ?_
   refine ⟨fun _ => Hv1194.pk [3, 4], ?_⟩
   exact QQ hG (by kernel_rfl) (nd1137 _ _ bk1190 (En1193.sb) (Hv1194.pk [0, 1, 2, 3, 4, 5]))
  have nd1195 : ∀ (ac : Act) (wo : World) (bk884 : Nat), Env ac 67 [(1, pt bk1), (2, pt bk6), (3, .bool false), (4, bv ((zf b 31 0) >>> zA 7)), (5, pt bk41), (6, pt bk81), (7, pt bk113), (8, pt bk884), (33, .agg (zi (zh (nd (zJ 1 (nv (nd (zq 1 (nv (nd (yE b))) (nv (nd (yE b)))))) (nv ([1, 0, 0, 0] : List UInt64))))))), (34, .agg (zi (zh (nd DN)))), (35, .agg (zi (zh (nd (zq 1 (nv (nd (yE b))) (nv (nd (yE b)))))))), (37, .agg (zi (zh ([1, 0, 0, 0] : List UInt64))))] → Ev w [] wo [.box bk1 (bys (zp b 31 ((zf b 31 0) &&& (127 : UInt8)))) 22, .box bk6 ((zh (zc 4 0)) ++ ((zh (zc 4 0)) ++ ((zh (zc 4 0)) ++ (zh (zc 4 0))))) 43, .box bk41 (zh (nd (yE b))) 34, .box bk81 (zh (nd (zq 1 (nv (nd (yE b))) (nv (nd (yE b)))))) 34, .box bk113 (zh (nd DN)) 34, .box bk884 (zh (zc 4 0)) 34] → G 10 #[true, true, true, true, true, false, true, false, false, false, false, false, false, false, true, false, false] ac wo := by
   intro _ _ bk884 En1198 Hv1199
   refine Zs hG ?_
   refine q_t 5 ?_
   refine c_p En1198 Hv1199 (ZV _ (nd DN) (nd (zq 1 (nv (nd (yE b))) (nv (nd (yE b))))) (zk _ _) (zk _ _)) fun _ _ En1205 Hv1206 => ?_
   refine ⟨fun _ => Hv1206.pk [3, 4], ?_⟩
   refine q_t 7 ?_
   refine c_p En1205 Hv1206 (Jb _ (nd (zq 1 (nv (nd DN)) (nv (nd (zq 1 (nv (nd (yE b))) (nv (nd (yE b)))))))) ([1, 0, 0, 0] : List UInt64) (zk _ _) (show ze ([1, 0, 0, 0] : List UInt64) = 4 from rfl)) fun _ _ En1212 Hv1213 => ?_
   refine ⟨fun _ => Hv1213.pk [3, 4], ?_⟩
   refine q_t 8 ?_
   refine c_p En1212 Hv1213 (Xi _ 1 h1f hM1 (nd (Zf 1 (nv (nd (zq 1 (nv (nd DN)) (nv (nd (zq 1 (nv (nd (yE b))) (nv (nd (yE b))))))))) (nv ([1, 0, 0, 0] : List UInt64)))) (zk _ _)) fun _ _ En1219 Hv1220 => ?_
   refine ⟨fun _ => Hv1220.pk [3, 4], ?_⟩
   refine q_t 9 ?_
   refine c_p En1219 Hv1220 (ZV _ (nd (zJ 1 (nv (nd (zq 1 (nv (nd (yE b))) (nv (nd (yE b)))))) (nv ([1, 0, 0, 0] : List UInt64)))) (nd (zC 1 (nv (nd (Zf 1 (nv (nd (zq 1 (nv (nd DN)) (nv (nd (zq 1 (nv (nd (yE b))) (nv (nd (yE b))))))))) (nv ([1, 0, 0, 0] : List UInt64))))) (mF 1 - 2))) (zk _ _) (zk _ _)) fun _ _ En1226 Hv1227 => ?_
   refine ⟨fun _ => Hv1227.pk [3, 4], ?_⟩
   refine q_t 10 ?_
   refine c_p En1226 Hv1227 (root_tA _ (show (nd (zq 1 (nv (nd (zJ 1 (nv (nd (zq 1 (nv (nd (yE b))) (nv (nd (yE b)))))) (nv ([1, 0, 0, 0] : List UInt64))))) (nv (nd (zC 1 (nv (nd (Zf 1 (nv (nd (zq 1 (nv (nd DN)) (nv (nd (zq 1 (nv (nd (yE b))) (nv (nd (yE b))))))))) (nv ([1, 0, 0, 0] : List UInt64))))) (mF 1 - 2)))))) = nd (tA (yE b)) from tA_txt (nv_y hb))) fun _ _ En1233 Hv1234 => ?_
   refine ⟨fun _ => Hv1234.pk [3, 4], ?_⟩
   refine q_s [11,12,13] [] 2 En1233 (Hv1234.pk [3, 4]) fun _ En1236 => ?_
   refine q_t 15 ?_
   refine m_g 5 0 4 (zh (nd (rE (yE b)))) _ [.box bk1 (bys (zp b 31 ((zf b 31 0) &&& (127 : UInt8)))) 22, .box bk6 ((zh (zc 4 0)) ++ ((zh (zc 4 0)) ++ ((zh (zc 4 0)) ++ (zh (zc 4 0))))) 43, .box bk41 (zh (nd (yE b))) 34, .box bk81 (zh (nd (zq 1 (nv (nd (yE b))) (nv (nd (yE b)))))) 34, .box bk113 (zh (nd DN)) 34, .box bk884 (zh (nd (rE (yE b)))) 34] En1236 Hv1234 rfl (zb (zk _ _)) (by rw [(zb (zd))]; first | decide | (simp; done)) (zu _) (zo (zb (zd))) rfl fun _ _ En1239 Hv1240 => ?_
   refine ⟨fun _ => Hv1240.pk [3, 4], ?_⟩
   refine q_s [16] [] 0 En1239 (Hv1240.pk [3, 4]) fun _ En1242 => ?_
   exact h_e ⟨bk884, En1242.sb, Hv1240.pk [0, 1, 2, 3, 4, 5]⟩
  have nd1243 : ∀ (ac : Act) (wo : World), Env ac 67 [(1, pt bk1), (2, pt bk6), (3, .bool false), (4, bv ((zf b 31 0) >>> zA 7)), (5, pt bk41), (6, pt bk81), (7, pt bk113), (33, .agg (zi (zh (nd (zJ 1 (nv (nd (zq 1 (nv (nd (yE b))) (nv (nd (yE b)))))) (nv ([1, 0, 0, 0] : List UInt64))))))), (34, .agg (zi (zh (nd DN)))), (35, .agg (zi (zh (nd (zq 1 (nv (nd (yE b))) (nv (nd (yE b)))))))), (37, .agg (zi (zh ([1, 0, 0, 0] : List UInt64))))] → Ev w [] wo [.box bk1 (bys (zp b 31 ((zf b 31 0) &&& (127 : UInt8)))) 22, .box bk6 ((zh (zc 4 0)) ++ ((zh (zc 4 0)) ++ ((zh (zc 4 0)) ++ (zh (zc 4 0))))) 43, .box bk41 (zh (nd (yE b))) 34, .box bk81 (zh (nd (zq 1 (nv (nd (yE b))) (nv (nd (yE b)))))) 34, .box bk113 (zh (nd DN)) 34] → G 11 #[true, true, true, true, true, false, true, false, false, false, false, false, false, false, false, false, false] ac wo := by
   intro _ _ En1246 Hv1247
   refine Zs hG ?_
   refine QF [5, 14] (by kernel_rfl) rfl ?_
   refine ⟨?_, ?_, trivial⟩
   ·
    rintro _ rfl
    refine c_p En1246 Hv1247 (ZV _ (nd DN) (nd (zq 1 (nv (nd (yE b))) (nv (nd (yE b))))) (zk _ _) (zk _ _)) fun _ _ En1253 Hv1254 => ?_
    refine ⟨fun _ => Hv1254.pk [3, 4], ?_⟩
    exact QQ hG (by kernel_rfl) (nd1178 _ _ (En1253.sb) (Hv1254.pk [0, 1, 2, 3, 4]))
   rintro _ rfl
   refine m_z 34 (zh (zc 4 0)) En1246 Hv1247 fun _ _ bk1255 En1258 Hv1259 => ?_
   refine ⟨fun _ => Hv1259.pk [3, 4], ?_⟩
   exact QQ hG (by kernel_rfl) (nd1195 _ _ bk1255 (En1258.sb) (Hv1259.pk [0, 1, 2, 3, 4, 5]))
  have nd1260 : ∀ (ac : Act) (wo : World) (bk932 : Nat), Env ac 67 [(1, pt bk1), (2, pt bk6), (3, .bool false), (4, bv ((zf b 31 0) >>> zA 7)), (5, pt bk41), (6, pt bk81), (7, pt bk113), (8, pt bk932), (31, .agg (zi (zh (nd (zq 1 (nv (nd (yE b))) (nv (nd (yE b)))))))), (32, .agg (zi (zh ([1, 0, 0, 0] : List UInt64)))), (34, .agg (zi (zh (nd DN)))), (35, .agg (zi (zh (nd (zq 1 (nv (nd (yE b))) (nv (nd (yE b)))))))), (37, .agg (zi (zh ([1, 0, 0, 0] : List UInt64))))] → Ev w [] wo [.box bk1 (bys (zp b 31 ((zf b 31 0) &&& (127 : UInt8)))) 22, .box bk6 ((zh (zc 4 0)) ++ ((zh (zc 4 0)) ++ ((zh (zc 4 0)) ++ (zh (zc 4 0))))) 43, .box bk41 (zh (nd (yE b))) 34, .box bk81 (zh (nd (zq 1 (nv (nd (yE b))) (nv (nd (yE b)))))) 34, .box bk113 (zh (nd DN)) 34, .box bk932 (zh (zc 4 0)) 34] → G 11 #[true, true, false, true, true, false, true, false, false, false, false, false, false, false, true, false, false] ac wo := by
   intro _ _ bk932 En1263 Hv1264
   refine Zs hG ?_
   refine q_t 2 ?_
   refine c_p En1263 Hv1264 (edif_go _ (nd (zq 1 (nv (nd (yE b))) (nv (nd (yE b))))) ([1, 0, 0, 0] : List UInt64) (zk _ _) (show ze ([1, 0, 0, 0] : List UInt64) = 4 from rfl)) fun _ _ En1270 Hv1271 => ?_
   refine ⟨fun _ => Hv1271.pk [3, 4], ?_⟩
   refine q_t 5 ?_
   refine c_p En1270 Hv1271 (ZV _ (nd DN) (nd (zq 1 (nv (nd (yE b))) (nv (nd (yE b))))) (zk _ _) (zk _ _)) fun _ _ En1277 Hv1278 => ?_
   refine ⟨fun _ => Hv1278.pk [3, 4], ?_⟩
   refine q_t 7 ?_
   refine c_p En1277 Hv1278 (Jb _ (nd (zq 1 (nv (nd DN)) (nv (nd (zq 1 (nv (nd (yE b))) (nv (nd (yE b)))))))) ([1, 0, 0, 0] : List UInt64) (zk _ _) (show ze ([1, 0, 0, 0] : List UInt64) = 4 from rfl)) fun _ _ En1284 Hv1285 => ?_
   refine ⟨fun _ => Hv1285.pk [3, 4], ?_⟩
   refine q_t 8 ?_
   refine c_p En1284 Hv1285 (Xi _ 1 h1f hM1 (nd (Zf 1 (nv (nd (zq 1 (nv (nd DN)) (nv (nd (zq 1 (nv (nd (yE b))) (nv (nd (yE b))))))))) (nv ([1, 0, 0, 0] : List UInt64)))) (zk _ _)) fun _ _ En1291 Hv1292 => ?_
   refine ⟨fun _ => Hv1292.pk [3, 4], ?_⟩
   refine q_t 9 ?_
   refine c_p En1291 Hv1292 (ZV _ (nd (zJ 1 (nv (nd (zq 1 (nv (nd (yE b))) (nv (nd (yE b)))))) (nv ([1, 0, 0, 0] : List UInt64)))) (nd (zC 1 (nv (nd (Zf 1 (nv (nd (zq 1 (nv (nd DN)) (nv (nd (zq 1 (nv (nd (yE b))) (nv (nd (yE b))))))))) (nv ([1, 0, 0, 0] : List UInt64))))) (mF 1 - 2))) (zk _ _) (zk _ _)) fun _ _ En1298 Hv1299 => ?_
   refine ⟨fun _ => Hv1299.pk [3, 4], ?_⟩
   refine q_t 10 ?_
   refine c_p En1298 Hv1299 (root_tA _ (show (nd (zq 1 (nv (nd (zJ 1 (nv (nd (zq 1 (nv (nd (yE b))) (nv (nd (yE b)))))) (nv ([1, 0, 0, 0] : List UInt64))))) (nv (nd (zC 1 (nv (nd (Zf 1 (nv (nd (zq 1 (nv (nd DN)) (nv (nd (zq 1 (nv (nd (yE b))) (nv (nd (yE b))))))))) (nv ([1, 0, 0, 0] : List UInt64))))) (mF 1 - 2)))))) = nd (tA (yE b)) from tA_txt (nv_y hb))) fun _ _ En1305 Hv1306 => ?_
   refine ⟨fun _ => Hv1306.pk [3, 4], ?_⟩
   refine q_s [11,12,13] [] 2 En1305 (Hv1306.pk [3, 4]) fun _ En1308 => ?_
   refine q_t 15 ?_
   refine m_g 5 0 4 (zh (nd (rE (yE b)))) _ [.box bk1 (bys (zp b 31 ((zf b 31 0) &&& (127 : UInt8)))) 22, .box bk6 ((zh (zc 4 0)) ++ ((zh (zc 4 0)) ++ ((zh (zc 4 0)) ++ (zh (zc 4 0))))) 43, .box bk41 (zh (nd (yE b))) 34, .box bk81 (zh (nd (zq 1 (nv (nd (yE b))) (nv (nd (yE b)))))) 34, .box bk113 (zh (nd DN)) 34, .box bk932 (zh (nd (rE (yE b)))) 34] En1308 Hv1306 rfl (zb (zk _ _)) (by rw [(zb (zd))]; first | decide | (simp; done)) (zu _) (zo (zb (zd))) rfl fun _ _ En1311 Hv1312 => ?_
   refine ⟨fun _ => Hv1312.pk [3, 4], ?_⟩
   refine q_s [16] [] 0 En1311 (Hv1312.pk [3, 4]) fun _ En1314 => ?_
   exact h_e ⟨bk932, En1314.sb, Hv1312.pk [0, 1, 2, 3, 4, 5]⟩
  refine Zs hG ?_
  refine q_r 0 (s := Instr.loadAt 34 (pt bk81)) (v := .agg (zi (zh (nd (zq 1 (nv (nd (yE b))) (nv (nd (yE b)))))))) En120 (fun w hS => zP (m := 4) (cs := zh (nd (zq 1 (nv (nd (yE b))) (nv (nd (yE b)))))) (zb (zk _ _)) (by kernel_rfl) (by kernel_rfl) (hS.heap.cells (k := 0) (off := 0) (m := 4) rfl (zn (zb (zk _ _))))) (wo122.pk [3, 4]) fun _ En1316 => ?_
  refine q_s [1] [] 15 En1316 (wo122.pk [3, 4]) fun _ En1318 => ?_
  refine q_r 3 (s := Instr.loadAt 34 (pt bk113)) (v := .agg (zi (zh (nd DN)))) En1318 (fun w hS => zP (m := 4) (cs := zh (nd DN)) (zb (zk _ _)) (by kernel_rfl) (by kernel_rfl) (hS.heap.cells (k := 1) (off := 0) (m := 4) rfl (zn (zb (zk _ _))))) (wo122.pk [3, 4]) fun _ En1320 => ?_
  refine q_r 4 (s := Instr.loadAt 34 (pt bk81)) (v := .agg (zi (zh (nd (zq 1 (nv (nd (yE b))) (nv (nd (yE b)))))))) En1320 (fun w hS => zP (m := 4) (cs := zh (nd (zq 1 (nv (nd (yE b))) (nv (nd (yE b)))))) (zb (zk _ _)) (by kernel_rfl) (by kernel_rfl) (hS.heap.cells (k := 0) (off := 0) (m := 4) rfl (zn (zb (zk _ _))))) (wo122.pk [3, 4]) fun _ En1322 => ?_
  refine q_s [6] [] 12 En1322 (wo122.pk [3, 4]) fun _ En1324 => ?_
  refine QF [2, 14] (by kernel_rfl) rfl ?_
  refine ⟨?_, ?_, trivial⟩
  ·
   rintro _ rfl
   refine c_p En1324 wo122 (edif_go _ (nd (zq 1 (nv (nd (yE b))) (nv (nd (yE b))))) ([1, 0, 0, 0] : List UInt64) (zk _ _) (show ze ([1, 0, 0, 0] : List UInt64) = 4 from rfl)) fun _ _ En1330 Hv1331 => ?_
   refine ⟨fun _ => Hv1331.pk [3, 4], ?_⟩
   exact QQ hG (by kernel_rfl) (nd1243 _ _ (En1330.sb) (Hv1331.pk [0, 1, 2, 3, 4]))
  rintro _ rfl
  refine m_z 34 (zh (zc 4 0)) En1324 wo122 fun _ _ bk1332 En1335 Hv1336 => ?_
  refine ⟨fun _ => Hv1336.pk [3, 4], ?_⟩
  exact QQ hG (by kernel_rfl) (nd1260 _ _ bk1332 (En1335.sb) (Hv1336.pk [0, 1, 2, 3, 4, 5]))
 rintro _ _ ⟨bk751, En1339, Hv1340⟩
 refine zg <| wp_seq <| wp_seq <| zm <| d_k [1,2,3,4,5,6,7,8,46] [] 3 En1339 fun _ En1342 => ?_
 rcases ZA (!(Ql 1 (tA (yE b)))) with hb1343 | hb1343
 ·
  have En1344 := En1342.fx (t := 46) (congrArg Value.bool hb1343)
  have hp1345 : ¬ (Ql 1 (tA (yE b)) = true) := by simpa using hb1343
  refine d_e [1,2,3,4,5,6,7,8,54] [] En1344 fun _ En1347 => ?_
  refine zg <| c_t En1347 ?_
  refine wp_seq <| zm <| d_k [1,2,3,4,5,6,7,8,55] [] 1 En1347 fun _ En1349 => ?_
  refine f_o <| m_g 1 0 16 [.int .u64 0, .int .u64 0, .int .u64 0, .int .u64 0, .int .u64 0, .int .u64 0, .int .u64 0, .int .u64 0, .int .u64 0, .int .u64 0, .int .u64 0, .int .u64 0, .int .u64 0, .int .u64 0, .int .u64 0, .int .u64 0] _ [.box bk1 (bys (zp b 31 ((zf b 31 0) &&& (127 : UInt8)))) 22, .box bk6 [.int .u64 0, .int .u64 0, .int .u64 0, .int .u64 0, .int .u64 0, .int .u64 0, .int .u64 0, .int .u64 0, .int .u64 0, .int .u64 0, .int .u64 0, .int .u64 0, .int .u64 0, .int .u64 0, .int .u64 0, .int .u64 0] 43, .box bk41 (zh (nd (yE b))) 34, .box bk81 (zh (nd (zq 1 (nv (nd (yE b))) (nv (nd (yE b)))))) 34, .box bk113 (zh (nd DN)) 34, .box bk751 (zh (nd (rE (yE b)))) 34] En1349 Hv1340 rfl rfl (by rw [(zw (zb (zd)) (zw (zb (zd)) (zw (zb (zd)) (zb (zd)))))]; first | decide | (simp; done)) (one_all (by kernel_rfl)) (zo (zw (zb (zd)) (zw (zb (zd)) (zw (zb (zd)) (zb (zd)))))) rfl fun _ _ En1352 Hv1353 => ?_
  refine d_e [1,2,3,4,5,6,7,8] [] En1352 fun _ En1355 => ?_
  refine zg <| wp_ret <| Zg <| Zn (v := .agg #[.int .u64 0, .int .u64 0, .int .u64 0, .int .u64 0, .int .u64 0, .int .u64 0, .int .u64 0, .int .u64 0, .int .u64 0, .int .u64 0, .int .u64 0, .int .u64 0, .int .u64 0, .int .u64 0, .int .u64 0, .int .u64 0]) (x := .bool false) (t := 2) (T := 43) (ad := ⟨bk6, 0, none⟩) (u := 3) En1355 (by kernel_rfl) (by kernel_rfl) (zx (t := 43) (k := 1) (off := 0) (m := 16) (xs := [.int .u64 0, .int .u64 0, .int .u64 0, .int .u64 0, .int .u64 0, .int .u64 0, .int .u64 0, .int .u64 0, .int .u64 0, .int .u64 0, .int .u64 0, .int .u64 0, .int .u64 0, .int .u64 0, .int .u64 0, .int .u64 0]) Hv1353 rfl rfl rfl (by kernel_rfl) (by kernel_rfl)) (by kernel_rfl) ?_
  have ei : isE b = false := no_2 (QM.2 hp1345)
  exact ⟨(show _ = Ending.returned (.tuple #[.agg (zi (zh (zc 16 0))), .bool false]) from by kernel_rfl).trans (ret_to (to_no ei) ei.symm), Hv1353.pk []⟩
 have En1356 := En1342.fx (t := 46) (congrArg Value.bool hb1343)
 have hp1357 : Ql 1 (tA (yE b)) = true := by simpa using hb1343
 refine d_k [1,2,3,4,5,6,7,8,46,49] [] 6 En1356 fun _ En1359 => ?_
 rcases ZA (((Zc ((zf b 31 0) >>> zA 7) : Nat) : Int) == (1 : Int)) with hb1360 | hb1360
 ·
  have En1361 := En1359.fx (t := 49) (congrArg Value.bool hb1360)
  have hp1362 : ((Zc ((zf b 31 0) >>> zA 7) : Nat) : Int) = (1 : Int) := eq_of_beq hb1360
  refine f_o <| m_a 5 0 4 (zh (nd (rE (yE b)))) En1361 Hv1340 rfl (zn (zb (zk _ _))) (zb (zk _ _)) fun _ En1364 => ?_
  refine d_k [1,2,3,4,5,6,7,8,46,49,50,51] [] 8 En1364 fun _ En1366 => ?_
  refine f_o <| q_v (x := eqOp .eql 34 (.tmp 50) (.tmp 51) (.agg (zi (zh (nd (rE (yE b)))))) (.agg (zi (zh ([0, 0, 0, 0] : List UInt64))))) (v := .bool ((nd (rE (yE b))) == ([0, 0, 0, 0] : List UInt64))) En1366 (Go.Dbr.u64s_eqop (a := (.tmp 50)) (b := (.tmp 51)) (e := 32) (m := 4) (by kernel_rfl) (by kernel_rfl) (by kernel_rfl) (by kernel_rfl) (by kernel_rfl) (zk _ _) (show ze ([0, 0, 0, 0] : List UInt64) = 4 from rfl) _) fun _ En1368 => ?_
  refine d_e [1,2,3,4,5,6,7,8,54] [] En1368 fun _ En1370 => ?_
  refine zg <| cond_at En1370 (t := (nd (rE (yE b))) == ([0, 0, 0, 0] : List UInt64)) (by kernel_rfl) (fun hc1371 => ?_) (fun hc1371 => ?_)
  ·
   replace hc1371 : (nd (rE (yE b))) = ([0, 0, 0, 0] : List UInt64) := eq_of_beq hc1371
   refine wp_seq <| zm <| d_k [1,2,3,4,5,6,7,8,55] [] 1 En1370 fun _ En1373 => ?_
   refine f_o <| m_g 1 0 16 [.int .u64 0, .int .u64 0, .int .u64 0, .int .u64 0, .int .u64 0, .int .u64 0, .int .u64 0, .int .u64 0, .int .u64 0, .int .u64 0, .int .u64 0, .int .u64 0, .int .u64 0, .int .u64 0, .int .u64 0, .int .u64 0] _ [.box bk1 (bys (zp b 31 ((zf b 31 0) &&& (127 : UInt8)))) 22, .box bk6 [.int .u64 0, .int .u64 0, .int .u64 0, .int .u64 0, .int .u64 0, .int .u64 0, .int .u64 0, .int .u64 0, .int .u64 0, .int .u64 0, .int .u64 0, .int .u64 0, .int .u64 0, .int .u64 0, .int .u64 0, .int .u64 0] 43, .box bk41 (zh (nd (yE b))) 34, .box bk81 (zh (nd (zq 1 (nv (nd (yE b))) (nv (nd (yE b)))))) 34, .box bk113 (zh (nd DN)) 34, .box bk751 (zh (nd (rE (yE b)))) 34] En1373 Hv1340 rfl rfl (by rw [(zw (zb (zd)) (zw (zb (zd)) (zw (zb (zd)) (zb (zd)))))]; first | decide | (simp; done)) (one_all (by kernel_rfl)) (zo (zw (zb (zd)) (zw (zb (zd)) (zw (zb (zd)) (zb (zd)))))) rfl fun _ _ En1376 Hv1377 => ?_
   refine d_e [1,2,3,4,5,6,7,8] [] En1376 fun _ En1379 => ?_
   refine zg <| wp_ret <| Zg <| Zn (v := .agg #[.int .u64 0, .int .u64 0, .int .u64 0, .int .u64 0, .int .u64 0, .int .u64 0, .int .u64 0, .int .u64 0, .int .u64 0, .int .u64 0, .int .u64 0, .int .u64 0, .int .u64 0, .int .u64 0, .int .u64 0, .int .u64 0]) (x := .bool false) (t := 2) (T := 43) (ad := ⟨bk6, 0, none⟩) (u := 3) En1379 (by kernel_rfl) (by kernel_rfl) (zx (t := 43) (k := 1) (off := 0) (m := 16) (xs := [.int .u64 0, .int .u64 0, .int .u64 0, .int .u64 0, .int .u64 0, .int .u64 0, .int .u64 0, .int .u64 0, .int .u64 0, .int .u64 0, .int .u64 0, .int .u64 0, .int .u64 0, .int .u64 0, .int .u64 0, .int .u64 0]) Hv1377 rfl rfl rfl (by kernel_rfl) (by kernel_rfl)) (by kernel_rfl) ?_
   have ei : isE b = false := no_3 ((od_1 b).1 hp1362) hc1371
   exact ⟨(show _ = Ending.returned (.tuple #[.agg (zi (zh (zc 16 0))), .bool false]) from by kernel_rfl).trans (ret_to (to_no ei) ei.symm), Hv1377.pk []⟩
  replace hc1371 : ¬ ((nd (rE (yE b))) = ([0, 0, 0, 0] : List UInt64)) := ne_of_beq_false hc1371
  refine wp_skip <| zg <| wp_seq <| wp_seq <| d_r [1,2,3,4,5,6,7,8,57] [] En1370 fun _ En1381 => ?_
  refine zg <| c_e ((Zc ((zf b 31 0) >>> zA 7) : Nat) : Int) (1 : Int) En1381 (fun hc1382 => ?_) (fun hc1382 => ?_)
  ·
   refine zm <| f_o <| m_a 5 0 4 (zh (nd (rE (yE b)))) En1381 Hv1340 rfl (zn (zb (zk _ _))) (zb (zk _ _)) fun _ En1384 => ?_
   refine f_o <| c_p En1384 Hv1340 (neg_go _ 1 h1f (nd (rE (yE b))) (zk _ _)) fun _ _ En1390 Hv1391 => ?_
   refine f_o <| m_g 5 0 4 (zh (nd (zJ 1 0 (nv (nd (rE (yE b))))))) _ [.box bk1 (bys (zp b 31 ((zf b 31 0) &&& (127 : UInt8)))) 22, .box bk6 ((zh (zc 4 0)) ++ ((zh (zc 4 0)) ++ ((zh (zc 4 0)) ++ (zh (zc 4 0))))) 43, .box bk41 (zh (nd (yE b))) 34, .box bk81 (zh (nd (zq 1 (nv (nd (yE b))) (nv (nd (yE b)))))) 34, .box bk113 (zh (nd DN)) 34, .box bk751 (zh (nd (zJ 1 0 (nv (nd (rE (yE b))))))) 34] En1390 Hv1391 rfl (zb (zk _ _)) (by rw [(zb (zk _ _))]; first | decide | (simp; done)) (zu _) (zo (zb (zk _ _))) rfl fun _ _ En1394 Hv1395 => ?_
   refine f_e <| zg <| wp_seq <| r_c (fun ac wo => Env ac 67 [(1, pt bk1), (2, pt bk6), (3, .bool true), (4, bv ((zf b 31 0) >>> zA 7)), (5, pt bk41), (6, pt bk81), (7, pt bk113), (8, pt bk751)] ∧ Ev w [] wo [.box bk1 (bys (zp b 31 ((zf b 31 0) &&& (127 : UInt8)))) 22, .box bk6 ((zh (nd (zJ 1 0 (nv (nd (rE (yE b))))))) ++ ((zh (nd (yE b))) ++ ((zh ([1, 0, 0, 0] : List UInt64)) ++ (zh (nd (zq 1 (nv (nd (zJ 1 0 (nv (nd (rE (yE b))))))) (nv (nd (yE b))))))))) 43, .box bk41 (zh (nd (yE b))) 34, .box bk81 (zh (nd (zq 1 (nv (nd (yE b))) (nv (nd (yE b)))))) 34, .box bk113 (zh (nd DN)) 34, .box bk751 (zh (nd (zJ 1 0 (nv (nd (rE (yE b))))))) 34]) ?_ ?_
   ·
    refine s_g0 [(1, pt bk1), (2, pt bk6), (3, .bool false), (4, bv ((zf b 31 0) >>> zA 7)), (5, pt bk41), (6, pt bk81), (7, pt bk113), (8, pt bk751)] [0,1,2,3,4,5,6] [(60, .agg (zi (zh (nd (zJ 1 0 (nv (nd (rE (yE b))))))))), (61, .agg (zi (zh (nd (yE b))))), (62, .agg (zi (zh ([1, 0, 0, 0] : List UInt64)))), (63, .agg (zi (zh (nd (zJ 1 0 (nv (nd (rE (yE b))))))))), (64, .agg (zi (zh (nd (yE b))))), (65, .agg (zi (zh (nd (zq 1 (nv (nd (zJ 1 0 (nv (nd (rE (yE b))))))) (nv (nd (yE b)))))))), (66, .agg (zi ((zh (nd (zJ 1 0 (nv (nd (rE (yE b))))))) ++ ((zh (nd (yE b))) ++ ((zh ([1, 0, 0, 0] : List UInt64)) ++ (zh (nd (zq 1 (nv (nd (zJ 1 0 (nv (nd (rE (yE b))))))) (nv (nd (yE b)))))))))))] 2 [(1, pt bk1), (2, pt bk6), (3, .bool false), (4, bv ((zf b 31 0) >>> zA 7)), (5, pt bk41), (6, pt bk81), (7, pt bk113), (8, pt bk751), (66, .agg (zi ((zh (nd (zJ 1 0 (nv (nd (rE (yE b))))))) ++ ((zh (nd (yE b))) ++ ((zh ([1, 0, 0, 0] : List UInt64)) ++ (zh (nd (zq 1 (nv (nd (zJ 1 0 (nv (nd (rE (yE b))))))) (nv (nd (yE b)))))))))))] (En1394.sb) (Hv1395.trans (zQ Hv1395.heap)) ?_ fun _ _ En1427 Hv1428 => ?_
    ·
     refine s_a 5 0 4 (zh (nd (zJ 1 0 (nv (nd (rE (yE b))))))) rfl (zn (zb (zk _ _))) (zb (zk _ _)) ?_
     refine s_a 2 0 4 (zh (nd (yE b))) rfl (zn (zb (zk _ _))) (zb (zk _ _)) ?_
     refine s_p [] ?_
     refine s_a 5 0 4 (zh (nd (zJ 1 0 (nv (nd (rE (yE b))))))) rfl (zn (zb (zk _ _))) (zb (zk _ _)) ?_
     refine s_a 2 0 4 (zh (nd (yE b))) rfl (zn (zb (zk _ _))) (zb (zk _ _)) ?_
     refine s_f (fun _ => ZV _ (nd (zJ 1 0 (nv (nd (rE (yE b)))))) (nd (yE b)) (zk _ _) (zk _ _)) ?_
     refine s_p [] ?_
     exact s_n
    refine q_u 7 ?_
    refine m_g 1 0 16 ((zh (nd (zJ 1 0 (nv (nd (rE (yE b))))))) ++ ((zh (nd (yE b))) ++ ((zh ([1, 0, 0, 0] : List UInt64)) ++ (zh (nd (zq 1 (nv (nd (zJ 1 0 (nv (nd (rE (yE b))))))) (nv (nd (yE b))))))))) _ [.box bk1 (bys (zp b 31 ((zf b 31 0) &&& (127 : UInt8)))) 22, .box bk6 ((zh (nd (zJ 1 0 (nv (nd (rE (yE b))))))) ++ ((zh (nd (yE b))) ++ ((zh ([1, 0, 0, 0] : List UInt64)) ++ (zh (nd (zq 1 (nv (nd (zJ 1 0 (nv (nd (rE (yE b))))))) (nv (nd (yE b))))))))) 43, .box bk41 (zh (nd (yE b))) 34, .box bk81 (zh (nd (zq 1 (nv (nd (yE b))) (nv (nd (yE b)))))) 34, .box bk113 (zh (nd DN)) 34, .box bk751 (zh (nd (zJ 1 0 (nv (nd (rE (yE b))))))) 34] En1427 Hv1428 rfl (zw (zb (zk _ _)) (zw (zb (zk _ _)) (zw (zb (show ze ([1, 0, 0, 0] : List UInt64) = 4 from rfl)) (zb (zk _ _))))) (by rw [(zw (zb (zd)) (zw (zb (zd)) (zw (zb (zd)) (zb (zd)))))]; first | decide | (simp; done)) (ZX (zu _) (ZX (zu _) (ZX (zu _) (zu _)))) (zo (zw (zb (zd)) (zw (zb (zd)) (zw (zb (zd)) (zb (zd)))))) rfl fun _ _ En1437 Hv1438 => ?_
    refine q_a [8] [] 0 En1437 fun _ En1440 => ?_
    exact a_e ⟨En1440.sb, Hv1438.pk [0, 1, 2, 3, 4, 5]⟩
   rintro _ _ ⟨En1443, Hv1444⟩
   refine zg <| wp_ret <| Zn (v := .agg (zi ((zh (nd (zJ 1 0 (nv (nd (rE (yE b))))))) ++ ((zh (nd (yE b))) ++ ((zh ([1, 0, 0, 0] : List UInt64)) ++ (zh (nd (zq 1 (nv (nd (zJ 1 0 (nv (nd (rE (yE b))))))) (nv (nd (yE b))))))))))) (x := .bool true) (t := 2) (T := 43) (ad := ⟨bk6, 0, none⟩) (u := 3) En1443 (by kernel_rfl) (by kernel_rfl) (zx (t := 43) (k := 1) (off := 0) (m := 16) (xs := (zh (nd (zJ 1 0 (nv (nd (rE (yE b))))))) ++ ((zh (nd (yE b))) ++ ((zh ([1, 0, 0, 0] : List UInt64)) ++ (zh (nd (zq 1 (nv (nd (zJ 1 0 (nv (nd (rE (yE b))))))) (nv (nd (yE b))))))))) Hv1444 rfl (zn (zw (zb (zk _ _)) (zw (zb (zk _ _)) (zw (zb (show ze ([1, 0, 0, 0] : List UInt64) = 4 from rfl)) (zb (zk _ _)))))) (zw (zb (zk _ _)) (zw (zb (zk _ _)) (zw (zb (show ze ([1, 0, 0, 0] : List UInt64) = 4 from rfl)) (zb (zk _ _))))) (by kernel_rfl) (by kernel_rfl)) (by kernel_rfl) ?_
   have ho := (od_1 b).1 hp1362
   have ei : isE b = true := is_yes (by rw [← nv_y hb]; exact hc61) hp1357 (fun _ => hc1371)
   exact ⟨by rw [cat16]; exact ret_to ((pt_odd hb ho).trans (to_yes ei)) ei.symm, Hv1444.pk []⟩
  refine wp_skip <| zg <| wp_seq <| r_c (fun ac wo => Env ac 67 [(1, pt bk1), (2, pt bk6), (3, .bool true), (4, bv ((zf b 31 0) >>> zA 7)), (5, pt bk41), (6, pt bk81), (7, pt bk113), (8, pt bk751)] ∧ Ev w [] wo [.box bk1 (bys (zp b 31 ((zf b 31 0) &&& (127 : UInt8)))) 22, .box bk6 ((zh (nd (rE (yE b)))) ++ ((zh (nd (yE b))) ++ ((zh ([1, 0, 0, 0] : List UInt64)) ++ (zh (nd (zq 1 (nv (nd (rE (yE b)))) (nv (nd (yE b))))))))) 43, .box bk41 (zh (nd (yE b))) 34, .box bk81 (zh (nd (zq 1 (nv (nd (yE b))) (nv (nd (yE b)))))) 34, .box bk113 (zh (nd DN)) 34, .box bk751 (zh (nd (rE (yE b)))) 34]) ?_ ?_
  ·
   refine s_g0 [(1, pt bk1), (2, pt bk6), (3, .bool false), (4, bv ((zf b 31 0) >>> zA 7)), (5, pt bk41), (6, pt bk81), (7, pt bk113), (8, pt bk751)] [0,1,2,3,4,5,6] [(60, .agg (zi (zh (nd (rE (yE b)))))), (61, .agg (zi (zh (nd (yE b))))), (62, .agg (zi (zh ([1, 0, 0, 0] : List UInt64)))), (63, .agg (zi (zh (nd (rE (yE b)))))), (64, .agg (zi (zh (nd (yE b))))), (65, .agg (zi (zh (nd (zq 1 (nv (nd (rE (yE b)))) (nv (nd (yE b)))))))), (66, .agg (zi ((zh (nd (rE (yE b)))) ++ ((zh (nd (yE b))) ++ ((zh ([1, 0, 0, 0] : List UInt64)) ++ (zh (nd (zq 1 (nv (nd (rE (yE b)))) (nv (nd (yE b)))))))))))] 2 [(1, pt bk1), (2, pt bk6), (3, .bool false), (4, bv ((zf b 31 0) >>> zA 7)), (5, pt bk41), (6, pt bk81), (7, pt bk113), (8, pt bk751), (66, .agg (zi ((zh (nd (rE (yE b)))) ++ ((zh (nd (yE b))) ++ ((zh ([1, 0, 0, 0] : List UInt64)) ++ (zh (nd (zq 1 (nv (nd (rE (yE b)))) (nv (nd (yE b)))))))))))] (En1381.sb) (Hv1340.trans (zQ Hv1340.heap)) ?_ fun _ _ En1476 Hv1477 => ?_
   ·
    refine s_a 5 0 4 (zh (nd (rE (yE b)))) rfl (zn (zb (zk _ _))) (zb (zk _ _)) ?_
    refine s_a 2 0 4 (zh (nd (yE b))) rfl (zn (zb (zk _ _))) (zb (zk _ _)) ?_
    refine s_p [] ?_
    refine s_a 5 0 4 (zh (nd (rE (yE b)))) rfl (zn (zb (zk _ _))) (zb (zk _ _)) ?_
    refine s_a 2 0 4 (zh (nd (yE b))) rfl (zn (zb (zk _ _))) (zb (zk _ _)) ?_
    refine s_f (fun _ => ZV _ (nd (rE (yE b))) (nd (yE b)) (zk _ _) (zk _ _)) ?_
    refine s_p [] ?_
    exact s_n
   refine q_u 7 ?_
   refine m_g 1 0 16 ((zh (nd (rE (yE b)))) ++ ((zh (nd (yE b))) ++ ((zh ([1, 0, 0, 0] : List UInt64)) ++ (zh (nd (zq 1 (nv (nd (rE (yE b)))) (nv (nd (yE b))))))))) _ [.box bk1 (bys (zp b 31 ((zf b 31 0) &&& (127 : UInt8)))) 22, .box bk6 ((zh (nd (rE (yE b)))) ++ ((zh (nd (yE b))) ++ ((zh ([1, 0, 0, 0] : List UInt64)) ++ (zh (nd (zq 1 (nv (nd (rE (yE b)))) (nv (nd (yE b))))))))) 43, .box bk41 (zh (nd (yE b))) 34, .box bk81 (zh (nd (zq 1 (nv (nd (yE b))) (nv (nd (yE b)))))) 34, .box bk113 (zh (nd DN)) 34, .box bk751 (zh (nd (rE (yE b)))) 34] En1476 Hv1477 rfl (zw (zb (zk _ _)) (zw (zb (zk _ _)) (zw (zb (show ze ([1, 0, 0, 0] : List UInt64) = 4 from rfl)) (zb (zk _ _))))) (by rw [(zw (zb (zd)) (zw (zb (zd)) (zw (zb (zd)) (zb (zd)))))]; first | decide | (simp; done)) (ZX (zu _) (ZX (zu _) (ZX (zu _) (zu _)))) (zo (zw (zb (zd)) (zw (zb (zd)) (zw (zb (zd)) (zb (zd)))))) rfl fun _ _ En1486 Hv1487 => ?_
   refine q_a [8] [] 0 En1486 fun _ En1489 => ?_
   exact a_e ⟨En1489.sb, Hv1487.pk [0, 1, 2, 3, 4, 5]⟩
  rintro _ _ ⟨En1492, Hv1493⟩
  refine zg <| wp_ret <| Zn (v := .agg (zi ((zh (nd (rE (yE b)))) ++ ((zh (nd (yE b))) ++ ((zh ([1, 0, 0, 0] : List UInt64)) ++ (zh (nd (zq 1 (nv (nd (rE (yE b)))) (nv (nd (yE b))))))))))) (x := .bool true) (t := 2) (T := 43) (ad := ⟨bk6, 0, none⟩) (u := 3) En1492 (by kernel_rfl) (by kernel_rfl) (zx (t := 43) (k := 1) (off := 0) (m := 16) (xs := (zh (nd (rE (yE b)))) ++ ((zh (nd (yE b))) ++ ((zh ([1, 0, 0, 0] : List UInt64)) ++ (zh (nd (zq 1 (nv (nd (rE (yE b)))) (nv (nd (yE b))))))))) Hv1493 rfl (zn (zw (zb (zk _ _)) (zw (zb (zk _ _)) (zw (zb (show ze ([1, 0, 0, 0] : List UInt64) = 4 from rfl)) (zb (zk _ _)))))) (zw (zb (zk _ _)) (zw (zb (zk _ _)) (zw (zb (show ze ([1, 0, 0, 0] : List UInt64) = 4 from rfl)) (zb (zk _ _))))) (by kernel_rfl) (by kernel_rfl)) (by kernel_rfl) ?_
  exact absurd hp1362 hc1382
 have En1494 := En1359.fx (t := 49) (congrArg Value.bool hb1360)
 have hp1495 : ¬ (((Zc ((zf b 31 0) >>> zA 7) : Nat) : Int) = (1 : Int)) := ne_of_beq_false hb1360
 refine d_e [1,2,3,4,5,6,7,8,54] [] En1494 fun _ En1497 => ?_
 refine zg <| c_f En1497 ?_
 refine wp_skip <| zg <| wp_seq <| wp_seq <| d_r [1,2,3,4,5,6,7,8,57] [] En1497 fun _ En1499 => ?_
 refine zg <| c_e ((Zc ((zf b 31 0) >>> zA 7) : Nat) : Int) (1 : Int) En1499 (fun hc1500 => ?_) (fun hc1500 => ?_)
 ·
  refine zm <| f_o <| m_a 5 0 4 (zh (nd (rE (yE b)))) En1499 Hv1340 rfl (zn (zb (zk _ _))) (zb (zk _ _)) fun _ En1502 => ?_
  refine f_o <| c_p En1502 Hv1340 (neg_go _ 1 h1f (nd (rE (yE b))) (zk _ _)) fun _ _ En1508 Hv1509 => ?_
  refine f_o <| m_g 5 0 4 (zh (nd (zJ 1 0 (nv (nd (rE (yE b))))))) _ [.box bk1 (bys (zp b 31 ((zf b 31 0) &&& (127 : UInt8)))) 22, .box bk6 ((zh (zc 4 0)) ++ ((zh (zc 4 0)) ++ ((zh (zc 4 0)) ++ (zh (zc 4 0))))) 43, .box bk41 (zh (nd (yE b))) 34, .box bk81 (zh (nd (zq 1 (nv (nd (yE b))) (nv (nd (yE b)))))) 34, .box bk113 (zh (nd DN)) 34, .box bk751 (zh (nd (zJ 1 0 (nv (nd (rE (yE b))))))) 34] En1508 Hv1509 rfl (zb (zk _ _)) (by rw [(zb (zk _ _))]; first | decide | (simp; done)) (zu _) (zo (zb (zk _ _))) rfl fun _ _ En1512 Hv1513 => ?_
  refine f_e <| zg <| wp_seq <| r_c (fun ac wo => Env ac 67 [(1, pt bk1), (2, pt bk6), (3, .bool true), (4, bv ((zf b 31 0) >>> zA 7)), (5, pt bk41), (6, pt bk81), (7, pt bk113), (8, pt bk751)] ∧ Ev w [] wo [.box bk1 (bys (zp b 31 ((zf b 31 0) &&& (127 : UInt8)))) 22, .box bk6 ((zh (nd (zJ 1 0 (nv (nd (rE (yE b))))))) ++ ((zh (nd (yE b))) ++ ((zh ([1, 0, 0, 0] : List UInt64)) ++ (zh (nd (zq 1 (nv (nd (zJ 1 0 (nv (nd (rE (yE b))))))) (nv (nd (yE b))))))))) 43, .box bk41 (zh (nd (yE b))) 34, .box bk81 (zh (nd (zq 1 (nv (nd (yE b))) (nv (nd (yE b)))))) 34, .box bk113 (zh (nd DN)) 34, .box bk751 (zh (nd (zJ 1 0 (nv (nd (rE (yE b))))))) 34]) ?_ ?_
  ·
   refine s_g0 [(1, pt bk1), (2, pt bk6), (3, .bool false), (4, bv ((zf b 31 0) >>> zA 7)), (5, pt bk41), (6, pt bk81), (7, pt bk113), (8, pt bk751)] [0,1,2,3,4,5,6] [(60, .agg (zi (zh (nd (zJ 1 0 (nv (nd (rE (yE b))))))))), (61, .agg (zi (zh (nd (yE b))))), (62, .agg (zi (zh ([1, 0, 0, 0] : List UInt64)))), (63, .agg (zi (zh (nd (zJ 1 0 (nv (nd (rE (yE b))))))))), (64, .agg (zi (zh (nd (yE b))))), (65, .agg (zi (zh (nd (zq 1 (nv (nd (zJ 1 0 (nv (nd (rE (yE b))))))) (nv (nd (yE b)))))))), (66, .agg (zi ((zh (nd (zJ 1 0 (nv (nd (rE (yE b))))))) ++ ((zh (nd (yE b))) ++ ((zh ([1, 0, 0, 0] : List UInt64)) ++ (zh (nd (zq 1 (nv (nd (zJ 1 0 (nv (nd (rE (yE b))))))) (nv (nd (yE b)))))))))))] 2 [(1, pt bk1), (2, pt bk6), (3, .bool false), (4, bv ((zf b 31 0) >>> zA 7)), (5, pt bk41), (6, pt bk81), (7, pt bk113), (8, pt bk751), (66, .agg (zi ((zh (nd (zJ 1 0 (nv (nd (rE (yE b))))))) ++ ((zh (nd (yE b))) ++ ((zh ([1, 0, 0, 0] : List UInt64)) ++ (zh (nd (zq 1 (nv (nd (zJ 1 0 (nv (nd (rE (yE b))))))) (nv (nd (yE b)))))))))))] (En1512.sb) (Hv1513.trans (zQ Hv1513.heap)) ?_ fun _ _ En1545 Hv1546 => ?_
   ·
    refine s_a 5 0 4 (zh (nd (zJ 1 0 (nv (nd (rE (yE b))))))) rfl (zn (zb (zk _ _))) (zb (zk _ _)) ?_
    refine s_a 2 0 4 (zh (nd (yE b))) rfl (zn (zb (zk _ _))) (zb (zk _ _)) ?_
    refine s_p [] ?_
    refine s_a 5 0 4 (zh (nd (zJ 1 0 (nv (nd (rE (yE b))))))) rfl (zn (zb (zk _ _))) (zb (zk _ _)) ?_
    refine s_a 2 0 4 (zh (nd (yE b))) rfl (zn (zb (zk _ _))) (zb (zk _ _)) ?_
    refine s_f (fun _ => ZV _ (nd (zJ 1 0 (nv (nd (rE (yE b)))))) (nd (yE b)) (zk _ _) (zk _ _)) ?_
    refine s_p [] ?_
    exact s_n
   refine q_u 7 ?_
   refine m_g 1 0 16 ((zh (nd (zJ 1 0 (nv (nd (rE (yE b))))))) ++ ((zh (nd (yE b))) ++ ((zh ([1, 0, 0, 0] : List UInt64)) ++ (zh (nd (zq 1 (nv (nd (zJ 1 0 (nv (nd (rE (yE b))))))) (nv (nd (yE b))))))))) _ [.box bk1 (bys (zp b 31 ((zf b 31 0) &&& (127 : UInt8)))) 22, .box bk6 ((zh (nd (zJ 1 0 (nv (nd (rE (yE b))))))) ++ ((zh (nd (yE b))) ++ ((zh ([1, 0, 0, 0] : List UInt64)) ++ (zh (nd (zq 1 (nv (nd (zJ 1 0 (nv (nd (rE (yE b))))))) (nv (nd (yE b))))))))) 43, .box bk41 (zh (nd (yE b))) 34, .box bk81 (zh (nd (zq 1 (nv (nd (yE b))) (nv (nd (yE b)))))) 34, .box bk113 (zh (nd DN)) 34, .box bk751 (zh (nd (zJ 1 0 (nv (nd (rE (yE b))))))) 34] En1545 Hv1546 rfl (zw (zb (zk _ _)) (zw (zb (zk _ _)) (zw (zb (show ze ([1, 0, 0, 0] : List UInt64) = 4 from rfl)) (zb (zk _ _))))) (by rw [(zw (zb (zd)) (zw (zb (zd)) (zw (zb (zd)) (zb (zd)))))]; first | decide | (simp; done)) (ZX (zu _) (ZX (zu _) (ZX (zu _) (zu _)))) (zo (zw (zb (zd)) (zw (zb (zd)) (zw (zb (zd)) (zb (zd)))))) rfl fun _ _ En1555 Hv1556 => ?_
   refine q_a [8] [] 0 En1555 fun _ En1558 => ?_
   exact a_e ⟨En1558.sb, Hv1556.pk [0, 1, 2, 3, 4, 5]⟩
  rintro _ _ ⟨En1561, Hv1562⟩
  refine zg <| wp_ret <| Zn (v := .agg (zi ((zh (nd (zJ 1 0 (nv (nd (rE (yE b))))))) ++ ((zh (nd (yE b))) ++ ((zh ([1, 0, 0, 0] : List UInt64)) ++ (zh (nd (zq 1 (nv (nd (zJ 1 0 (nv (nd (rE (yE b))))))) (nv (nd (yE b))))))))))) (x := .bool true) (t := 2) (T := 43) (ad := ⟨bk6, 0, none⟩) (u := 3) En1561 (by kernel_rfl) (by kernel_rfl) (zx (t := 43) (k := 1) (off := 0) (m := 16) (xs := (zh (nd (zJ 1 0 (nv (nd (rE (yE b))))))) ++ ((zh (nd (yE b))) ++ ((zh ([1, 0, 0, 0] : List UInt64)) ++ (zh (nd (zq 1 (nv (nd (zJ 1 0 (nv (nd (rE (yE b))))))) (nv (nd (yE b))))))))) Hv1562 rfl (zn (zw (zb (zk _ _)) (zw (zb (zk _ _)) (zw (zb (show ze ([1, 0, 0, 0] : List UInt64) = 4 from rfl)) (zb (zk _ _)))))) (zw (zb (zk _ _)) (zw (zb (zk _ _)) (zw (zb (show ze ([1, 0, 0, 0] : List UInt64) = 4 from rfl)) (zb (zk _ _))))) (by kernel_rfl) (by kernel_rfl)) (by kernel_rfl) ?_
  exact absurd hc1500 hp1495
 refine wp_skip <| zg <| wp_seq <| r_c (fun ac wo => Env ac 67 [(1, pt bk1), (2, pt bk6), (3, .bool true), (4, bv ((zf b 31 0) >>> zA 7)), (5, pt bk41), (6, pt bk81), (7, pt bk113), (8, pt bk751)] ∧ Ev w [] wo [.box bk1 (bys (zp b 31 ((zf b 31 0) &&& (127 : UInt8)))) 22, .box bk6 ((zh (nd (rE (yE b)))) ++ ((zh (nd (yE b))) ++ ((zh ([1, 0, 0, 0] : List UInt64)) ++ (zh (nd (zq 1 (nv (nd (rE (yE b)))) (nv (nd (yE b))))))))) 43, .box bk41 (zh (nd (yE b))) 34, .box bk81 (zh (nd (zq 1 (nv (nd (yE b))) (nv (nd (yE b)))))) 34, .box bk113 (zh (nd DN)) 34, .box bk751 (zh (nd (rE (yE b)))) 34]) ?_ ?_
 ·
  refine s_g0 [(1, pt bk1), (2, pt bk6), (3, .bool false), (4, bv ((zf b 31 0) >>> zA 7)), (5, pt bk41), (6, pt bk81), (7, pt bk113), (8, pt bk751)] [0,1,2,3,4,5,6] [(60, .agg (zi (zh (nd (rE (yE b)))))), (61, .agg (zi (zh (nd (yE b))))), (62, .agg (zi (zh ([1, 0, 0, 0] : List UInt64)))), (63, .agg (zi (zh (nd (rE (yE b)))))), (64, .agg (zi (zh (nd (yE b))))), (65, .agg (zi (zh (nd (zq 1 (nv (nd (rE (yE b)))) (nv (nd (yE b)))))))), (66, .agg (zi ((zh (nd (rE (yE b)))) ++ ((zh (nd (yE b))) ++ ((zh ([1, 0, 0, 0] : List UInt64)) ++ (zh (nd (zq 1 (nv (nd (rE (yE b)))) (nv (nd (yE b)))))))))))] 2 [(1, pt bk1), (2, pt bk6), (3, .bool false), (4, bv ((zf b 31 0) >>> zA 7)), (5, pt bk41), (6, pt bk81), (7, pt bk113), (8, pt bk751), (66, .agg (zi ((zh (nd (rE (yE b)))) ++ ((zh (nd (yE b))) ++ ((zh ([1, 0, 0, 0] : List UInt64)) ++ (zh (nd (zq 1 (nv (nd (rE (yE b)))) (nv (nd (yE b)))))))))))] (En1499.sb) (Hv1340.trans (zQ Hv1340.heap)) ?_ fun _ _ En1594 Hv1595 => ?_
  ·
   refine s_a 5 0 4 (zh (nd (rE (yE b)))) rfl (zn (zb (zk _ _))) (zb (zk _ _)) ?_
   refine s_a 2 0 4 (zh (nd (yE b))) rfl (zn (zb (zk _ _))) (zb (zk _ _)) ?_
   refine s_p [] ?_
   refine s_a 5 0 4 (zh (nd (rE (yE b)))) rfl (zn (zb (zk _ _))) (zb (zk _ _)) ?_
   refine s_a 2 0 4 (zh (nd (yE b))) rfl (zn (zb (zk _ _))) (zb (zk _ _)) ?_
   refine s_f (fun _ => ZV _ (nd (rE (yE b))) (nd (yE b)) (zk _ _) (zk _ _)) ?_
   refine s_p [] ?_
   exact s_n
  refine q_u 7 ?_
  refine m_g 1 0 16 ((zh (nd (rE (yE b)))) ++ ((zh (nd (yE b))) ++ ((zh ([1, 0, 0, 0] : List UInt64)) ++ (zh (nd (zq 1 (nv (nd (rE (yE b)))) (nv (nd (yE b))))))))) _ [.box bk1 (bys (zp b 31 ((zf b 31 0) &&& (127 : UInt8)))) 22, .box bk6 ((zh (nd (rE (yE b)))) ++ ((zh (nd (yE b))) ++ ((zh ([1, 0, 0, 0] : List UInt64)) ++ (zh (nd (zq 1 (nv (nd (rE (yE b)))) (nv (nd (yE b))))))))) 43, .box bk41 (zh (nd (yE b))) 34, .box bk81 (zh (nd (zq 1 (nv (nd (yE b))) (nv (nd (yE b)))))) 34, .box bk113 (zh (nd DN)) 34, .box bk751 (zh (nd (rE (yE b)))) 34] En1594 Hv1595 rfl (zw (zb (zk _ _)) (zw (zb (zk _ _)) (zw (zb (show ze ([1, 0, 0, 0] : List UInt64) = 4 from rfl)) (zb (zk _ _))))) (by rw [(zw (zb (zd)) (zw (zb (zd)) (zw (zb (zd)) (zb (zd)))))]; first | decide | (simp; done)) (ZX (zu _) (ZX (zu _) (ZX (zu _) (zu _)))) (zo (zw (zb (zd)) (zw (zb (zd)) (zw (zb (zd)) (zb (zd)))))) rfl fun _ _ En1604 Hv1605 => ?_
  refine q_a [8] [] 0 En1604 fun _ En1607 => ?_
  exact a_e ⟨En1607.sb, Hv1605.pk [0, 1, 2, 3, 4, 5]⟩
 rintro _ _ ⟨En1610, Hv1611⟩
 refine zg <| wp_ret <| Zn (v := .agg (zi ((zh (nd (rE (yE b)))) ++ ((zh (nd (yE b))) ++ ((zh ([1, 0, 0, 0] : List UInt64)) ++ (zh (nd (zq 1 (nv (nd (rE (yE b)))) (nv (nd (yE b))))))))))) (x := .bool true) (t := 2) (T := 43) (ad := ⟨bk6, 0, none⟩) (u := 3) En1610 (by kernel_rfl) (by kernel_rfl) (zx (t := 43) (k := 1) (off := 0) (m := 16) (xs := (zh (nd (rE (yE b)))) ++ ((zh (nd (yE b))) ++ ((zh ([1, 0, 0, 0] : List UInt64)) ++ (zh (nd (zq 1 (nv (nd (rE (yE b)))) (nv (nd (yE b))))))))) Hv1611 rfl (zn (zw (zb (zk _ _)) (zw (zb (zk _ _)) (zw (zb (show ze ([1, 0, 0, 0] : List UInt64) = 4 from rfl)) (zb (zk _ _)))))) (zw (zb (zk _ _)) (zw (zb (zk _ _)) (zw (zb (show ze ([1, 0, 0, 0] : List UInt64) = 4 from rfl)) (zb (zk _ _))))) (by kernel_rfl) (by kernel_rfl)) (by kernel_rfl) ?_
 have ho : odE b = false := QM.2 (fun g => hp1495 ((od_1 b).2 g))
 have ei : isE b = true := is_yes (by rw [← nv_y hb]; exact hc61) hp1357 (fun g => absurd ((od_1 b).2 g) hp1495)
 exact ⟨by rw [cat16]; exact ret_to ((pt_even hb ho).trans (to_yes ei)) ei.symm, Hv1611.pk []⟩

end Go.Proofs.YtlnogkmnklfjlaaDoor
