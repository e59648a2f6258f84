import Derived.Test.YtlnogkmnklfjlaaGreatDoorSg9
import Derived.Test.YtlnogkmnklfjlaaGreatDoorSg1
import Derived.Test.YtlnogkmnklfjlaaGreatDoorSg2
open List renaming getD → za, length → zb, replicate → zd, toArray → zg, length_replicate → zi, take → zn, drop → zo, set → zp, length_drop → zu, length_append → zC, map_append → ZI
open UInt64 renaming ofNat → zc
open Go.Dbr renaming then_normal → ze, u64s_lenh → zf, u64s → zh, region_from → zk, uv64 → zm, load_whole → zq, u64s_one → zt, then_exit → zy, len_app → zE, run_loadAgg2 → zM, m_gw → zQ, h_from → Zl, m_aw → Zp, then_ret → ZE, d_cell_tmp → Z6, bys_getD → Z9, h_ways → Qk, h_to → Ql, d_ret1 → Qu, one_app → QB, one_all → Y4
open Go.Proofs.YtlnogkmnklfjlaaGreatDoor renaming nds_len → zl, mulM → zr, powM → zJ, subM → z7, addM → Zh, emul_go → QD, dmul_go → QP, rootOk → QW, baseL → YD, xOkE → JH, esum_go → J4, ptL_len → Xi, inv_go → X7
open Go.Dbr.Ev renaming cellAgg → zB, drew → zO
open UInt8 renaming ofNat → zK, toUInt64 → Zc, toNat → ZJ
open Bool renaming eq_false_or_eq_true → ZB, cond_false → QT, cond_true → Q5, eq_false_iff → Yq, true_and → Yt, false_and → XP
open UInt32 renaming ofNat → Xx
namespace Go.Proofs.YtlnogkmnklfjlaaGreatDoor
open Go.Dbr
set_option maxRecDepth 100000
set_option maxHeartbeats 2000000
set_option linter.unusedVariables false
set_option linter.unusedSimpArgs false
theorem yE_lt {b : List UInt8} (hb : b.length = 32) : yE b < W256 := by
  have := lv_lt (clr b)
  rw [clr_len hb] at this
  exact this
theorem nv_y {b : List UInt8} (hb : b.length = 32) : nv (nd (yE b)) = yE b := nv_nd (yE_lt hb)
theorem one1 : nv [1, 0, 0, 0] = 1 := rfl
theorem d_half : nd (zr 1 (nv (nd D2N)) (nv (nd (zJ 1 (nv [2, 0, 0, 0]) (mF 1 - 2))))) = nd DN := by
  rw [nv_iv, nv_d2, show nv [2, 0, 0, 0] = 2 from rfl, ivE_pw]
  exact congrArg nd (by decide +kernel)
theorem tA_txt {y : Nat} (hy : nv (nd y) = y) : nd (zr 1 (nv (nd (z7 1 (nv (nd (zr 1 (nv (nd y)) (nv (nd y))))) (nv [1, 0, 0, 0])))) (nv (nd (zJ 1 (nv (nd (Zh 1 (nv (nd (zr 1 (nv (nd DN)) (nv (nd (zr 1 (nv (nd y)) (nv (nd y)))))))) (nv [1, 0, 0, 0])))) (mF 1 - 2))))) = nd (tA y) := by
  rw [nv_iv, nv_a1, nv_m1, nv_s1, nv_m1, nv_dn, hy, one1, tA]
theorem nv_tA (y : Nat) : nv (nd (tA y)) = tA y := nvE (tA_lt y)
theorem rE_txt (y : Nat) : nd (rootN 1 (nv (nd (tA y)))) = nd (rE y) := by rw [nv_tA, rE]
theorem rE_nv (y : Nat) : nv (nd (rE y)) = rE y := nvE (rE_lt y)
theorem rE_0 (y : Nat) : (nd (rE y) == zd 4 0) = decide (rE y = 0) := by
  by_cases h : rE y = 0
  · rw [decide_eq_true h, h]; rfl
  · rw [decide_eq_false h]
    refine beq_false_of_ne fun g => h ?_
    have := congrArg nv g
    rwa [rE_nv] at this
theorem od_dec : ∀ n : Fin 256, ((((zK n.val >>> zK 7).toNat : Nat) : Int) = 1) ↔ 128 ≤ n.val := by decide +kernel
theorem od_1 (b : List UInt8) : ((((za b 31 0 >>> zK 7).toNat : Nat) : Int) = 1) ↔ odE b = true := by
  have h := od_dec ⟨(za b 31 0).toNat, UInt8.toNat_lt _⟩
  simp only [UInt8.ofNat_toNat] at h
  rw [odE, decide_eq_true_eq]
  exact h
def toL (b : List UInt8) : L4 := bif isE b then ptL (yE b) (odE b) else zd 16 0
theorem no_1 {b : List UInt8} (h : ¬ yE b < mF 1) : isE b = false := by rw [isE, decide_eq_false h, XP]
theorem no_2 {b : List UInt8} (h : QW 1 (tA (yE b)) = false) : isE b = false := by rw [isE, JH, h, XP, Bool.and_false]
theorem no_3 {b : List UInt8} (h : odE b = true) (h2 : nd (rE (yE b)) = zd 4 0) : isE b = false := by
  have := rE_0 (yE b)
  rw [h2] at this
  rw [isE, JH, h, ← this]
  simp
theorem is_yes {b : List UInt8} (h : yE b < mF 1) (h1 : QW 1 (tA (yE b)) = true) (h2 : odE b = true → ¬ nd (rE (yE b)) = zd 4 0) : isE b = true := by
  rw [isE, JH, decide_eq_true h, h1, Yt, Yt]
  cases g : odE b with
  | false => rfl
  | true =>
    rw [Yt, ← rE_0, beq_false_of_ne (h2 g)]
    rfl
theorem to_no {b : List UInt8} (h : isE b = false) : zd 16 0 = toL b := by rw [toL, h]; rfl
theorem to_yes {b : List UInt8} (h : isE b = true) : ptL (yE b) (odE b) = toL b := by rw [toL, h]; rfl
theorem ret_to {a b : L4} {s t : Bool} (h1 : a = b) (h2 : s = t) : Ending.returned (.tuple #[.agg (zg (zh a)), .bool s]) = Ending.returned (.tuple #[.agg (zg (zh b)), .bool t]) := by rw [h1, h2]
theorem pt_even {b : List UInt8} (hb : b.length = 32) (h : odE b = false) : nd (rE (yE b)) ++ (nd (yE b) ++ ([1, 0, 0, 0] ++ nd (zr 1 (nv (nd (rE (yE b)))) (nv (nd (yE b)))))) = ptL (yE b) (odE b) := by
  rw [rE_nv, nv_y hb, ptL, h, xE_f, l4]
  rfl
theorem pt_odd {b : List UInt8} (hb : b.length = 32) (h : odE b = true) : nd (z7 1 0 (nv (nd (rE (yE b))))) ++ (nd (yE b) ++ ([1, 0, 0, 0] ++ nd (zr 1 (nv (nd (z7 1 0 (nv (nd (rE (yE b))))))) (nv (nd (yE b)))))) = ptL (yE b) (odE b) := by
  rw [rE_nv, nv_s1, nv_y hb, ptL, h, xE_t, l4]
  rfl
theorem root_tA (w : World) {a : List UInt64} {y : Nat} (h : a = nd (tA y)) : Calls Tryz.prog 67 #[.int .i64 1, .agg (zg (zh a))] w fun e w' => e = .returned (.tuple #[.agg (zg (zh (nd (rE y)))), .bool (QW 1 (tA y))]) ∧ Ev w [] w' [] := by
  subst h
  have h := root1_go w (nd (tA y)) (ndl _)
  rw [rE_txt, nv_tA] at h
  exact h
theorem rroot_tA (w : World) {a : List UInt64} {y : Nat} (h : a = nd (tA y)) : Calls Tryz.prog 80 #[.int .i64 1, .agg (zg (zh a))] w fun e w' => e = .returned (.tuple #[.agg (zg (zh (nd (rE y)))), .bool (QW 1 (tA y))]) ∧ Ev w [] w' [] := by
  subst h
  have h := rroot1_go w (nd (tA y)) (ndl _)
  rw [rE_txt, nv_tA] at h
  exact h
theorem told_go (w : World) (b : List UInt8) (hb : zb b = 32) : Calls Tryz.prog 29 #[.agg (zg (bys b))] w fun e w' => e = .returned (.tuple #[.agg (zg (zh (toL b))), .bool (isE b)]) ∧ Ev w [] w' [] := by
 refine d_0 [(0, .agg (zg (bys b)))] 67 Go.Proofs.Tryz.func29 Go.Proofs.Tryz.ntmps29 (Heap.nil _) fun cu cv cw => wp_seq <| zk <| f_o <| m_m 22 (bys b) cv cw fun _ _ Ef cx cy => f_o <| m_z 37 ((zh (zd 4 0)) ++ ((zh (zd 4 0)) ++ ((zh (zd 4 0)) ++ (zh (zd 4 0))))) cx cy fun _ _ Ee cz HC => d_e [1,2,3] [] cz fun _ bX => ?_
 refine ze <| wp_seq <| zk <| d_k [1,2,3,10] [] 1 bX fun _ bY => f_o ?_
 have bZ : 31 < zb b := by rw [hb]; omega
 refine m_v 0 31 (bv (za b 31 0)) bY HC rfl (Z9 bZ) fun _ b0 => d_e [1,2,3,4] [(2, g_i .u8 (Go.Dbr.u8_shr (x := za b 31 0) (n := 7) rfl (by decide)))] b0 fun _ b1 => ze <| wp_seq <| zk <| d_k [1,2,3,4,13] [] 1 b1 fun _ b2 => f_o ?_
 have b3 : 31 < zb b := by rw [hb]; omega
 refine m_v 0 31 (bv (za b 31 0)) b2 HC rfl (Z9 b3) fun _ b4 => d_k [1,2,3,4,15,16] [(2, g_i .u8 (Go.Dbr.u8_and (x := za b 31 0) (y := (127 : UInt8)) rfl rfl))] 4 b4 fun _ b5 => f_o ?_
 have b6 : 31 < zb b := by rw [hb]; omega
 refine m_t 0 31 (bv ((za b 31 0) &&& (127 : UInt8))) _ b5 HC rfl (Z9 b6) (bys_set _ _ _) rfl fun _ _ b7 bK => f_e <| ze <| wp_seq <| zk <| f_o <| Zp 0 32 (bys (zp b 31 ((za b 31 0) &&& (127 : UInt8)))) b7 bK rfl (bys_lenh (List.length_set.trans hb)) fun _ b8 => f_o <| c_p b8 bK (fromle_go _ (zp b 31 ((za b 31 0) &&& (127 : UInt8))) (List.length_set.trans hb)) fun _ _ b9 ca => f_o <| m_z 33 (zh (zd 4 0)) b9 ca fun _ _ Ec cb cc => ?_
 refine f_o <| zQ 2 4 (zh (nd (lv (zp b 31 ((za b 31 0) &&& (127 : UInt8)))))) [.box Ef (bys (zp b 31 ((za b 31 0) &&& (127 : UInt8)))) 22, .box Ee ((zh (zd 4 0)) ++ ((zh (zd 4 0)) ++ ((zh (zd 4 0)) ++ (zh (zd 4 0))))) 37, .box Ec (zh (nd (lv (zp b 31 ((za b 31 0) &&& (127 : UInt8)))))) 33] cb cc rfl (zf (zl _ _)) (zf (zi)) (zt _) rfl fun _ _ cd HD => f_e <| ze <| wp_seq <| wp_seq ?_
 rw [show (nd (lv (zp b 31 ((za b 31 0) &&& (127 : UInt8))))) = (nd (yE b)) from rfl] at HD
 refine zk <| f_o <| Zp 2 4 (zh (nd (yE b))) cd HD rfl (zf (zl _ _)) fun _ ce => f_o <| c_p ce HD (rightq_go _ 1 (nd (yE b)) (zl _ _)) fun _ _ cf Hy => d_e [1,2,3,4,5,21] [] cf fun _ HE => ?_
 refine ze <| cond_at HE (t := !(decide (nv (nd (yE b)) < mF 1))) (by kernel_rfl) (fun El => ?_) (fun El => ?_)
 ·
  replace El : ¬ (nv (nd (yE b)) < mF 1) := by simpa using El
  refine wp_seq <| zk <| d_k [1,2,3,4,5,22] [] 1 HE fun _ cg => f_o <| zQ 1 16 [.int .u64 0, .int .u64 0, .int .u64 0, .int .u64 0, .int .u64 0, .int .u64 0, .int .u64 0, .int .u64 0, .int .u64 0, .int .u64 0, .int .u64 0, .int .u64 0, .int .u64 0, .int .u64 0, .int .u64 0, .int .u64 0] _ cg Hy rfl rfl (zE (zf (zi)) (zE (zf (zi)) (zE (zf (zi)) (zf (zi))))) (Y4 (by kernel_rfl)) rfl fun _ _ ch bL => d_e [1,2,3,4,5] [] ch fun _ ci => ze <| wp_ret <| ZE <| Z6 (v := .agg #[.int .u64 0, .int .u64 0, .int .u64 0, .int .u64 0, .int .u64 0, .int .u64 0, .int .u64 0, .int .u64 0, .int .u64 0, .int .u64 0, .int .u64 0, .int .u64 0, .int .u64 0, .int .u64 0, .int .u64 0, .int .u64 0]) (x := .bool false) (t := 2) (T := 37) (ad := ⟨Ee, 0, none⟩) (u := 3) ci (by kernel_rfl) (by kernel_rfl) (zB (t := 37) (k := 1) (off := 0) (m := 16) (xs := [.int .u64 0, .int .u64 0, .int .u64 0, .int .u64 0, .int .u64 0, .int .u64 0, .int .u64 0, .int .u64 0, .int .u64 0, .int .u64 0, .int .u64 0, .int .u64 0, .int .u64 0, .int .u64 0, .int .u64 0, .int .u64 0]) bL rfl rfl rfl (by kernel_rfl) (by kernel_rfl)) (by kernel_rfl) ?_
  have ei : isE b = false := no_1 (by rw [← nv_y hb]; exact El)
  exact ⟨(show _ = Ending.returned (.tuple #[.agg (zg (zh (zd 16 0))), .bool false]) from by kernel_rfl).trans (ret_to (to_no ei) ei.symm), bL.pk []⟩
 replace El : nv (nd (yE b)) < mF 1 := by simpa using El
 refine wp_skip <| ze <| wp_seq <| zk <| f_o <| Zp 2 4 (zh (nd (yE b))) HE Hy rfl (zf (zl _ _)) fun _ cj => f_o <| Zp 2 4 (zh (nd (yE b))) cj Hy rfl (zf (zl _ _)) fun _ ck => f_o <| c_p ck Hy (QD _ (nd (yE b)) (nd (yE b)) (zl _ _) (zl _ _)) fun _ _ cl cm => f_o <| m_z 33 (zh (zd 4 0)) cl cm fun _ _ Eb cn co => ?_
 refine f_o <| zQ 3 4 (zh (nd (zr 1 (nv (nd (yE b))) (nv (nd (yE b)))))) [.box Ef (bys (zp b 31 ((za b 31 0) &&& (127 : UInt8)))) 22, .box Ee ((zh (zd 4 0)) ++ ((zh (zd 4 0)) ++ ((zh (zd 4 0)) ++ (zh (zd 4 0))))) 37, .box Ec (zh (nd (yE b))) 33, .box Eb (zh (nd (zr 1 (nv (nd (yE b))) (nv (nd (yE b)))))) 33] cn co rfl (zf (zl _ _)) (zf (zi)) (zt _) rfl fun _ _ cp bM => f_e <| ze <| wp_seq ?_
 rw [show (nd (zr 1 (nv (nd (yE b))) (nv (nd (yE b))))) = (nd (zr 1 (nv (nd (yE b))) (nv (nd (yE b))))) from rfl] at bM
 refine zk <| f_o <| c_p cp bM (twiceD_go _) fun _ _ cq cr => d_k [1,2,3,4,5,6,26,27] [] 2 cq fun _ ct => f_o <| c_p ct cr (X7 _ 1 h1f hM1 ([2, 0, 0, 0] : List UInt64) (show zb ([2, 0, 0, 0] : List UInt64) = 4 from rfl)) fun _ _ bN bO => f_o <| c_p bN bO (QD _ (nd D2N) (nd (zJ 1 (nv ([2, 0, 0, 0] : List UInt64)) (mF 1 - 2))) (zl _ _) (zl _ _)) fun _ _ bP bQ => ?_
 refine f_o <| m_z 33 (zh (zd 4 0)) bP bQ fun _ _ Ea bR bS => f_o <| zQ 4 4 (zh (nd (zr 1 (nv (nd D2N)) (nv (nd (zJ 1 (nv ([2, 0, 0, 0] : List UInt64)) (mF 1 - 2))))))) _ bR bS rfl (zf (zl _ _)) (zf (zi)) (zt _) rfl fun _ _ bT EJ => f_e <| ze <| wp_seq ?_
 rw [show (nd (zr 1 (nv (nd D2N)) (nv (nd (zJ 1 (nv ([2, 0, 0, 0] : List UInt64)) (mF 1 - 2)))))) = (nd DN) from d_half] at EJ
 refine r_c (fun ac wo => ∃ (Ed : Nat), Env ac 67 [(1, pt Ef), (2, pt Ee), (3, .bool false), (4, bv ((za b 31 0) >>> zK 7)), (5, pt Ec), (6, pt Eb), (7, pt Ea), (8, pt Ed), (9, .bool (QW 1 (tA (yE b))))] ∧ Ev w [] wo [.box Ef (bys (zp b 31 ((za b 31 0) &&& (127 : UInt8)))) 22, .box Ee ((zh (zd 4 0)) ++ ((zh (zd 4 0)) ++ ((zh (zd 4 0)) ++ (zh (zd 4 0))))) 37, .box Ec (zh (nd (yE b))) 33, .box Eb (zh (nd (zr 1 (nv (nd (yE b))) (nv (nd (yE b)))))) 33, .box Ea (zh (nd DN)) 33, .box Ed (zh (nd (rE (yE b)))) 33]) ?_ ?_
 ·
  refine h_s (fun wv => Ev w [] wv [.box Eb (zh (nd (zr 1 (nv (nd (yE b))) (nv (nd (yE b)))))) 33, .box Ea (zh (nd DN)) 33]) [] 17 ?_
  have Ei := EJ.trans (zO EJ.heap)
  refine h_name fun G hG => ?_
  have nd987 : ∀ (ac : Act) (wo : World), Env ac 67 [(1, pt Ef), (2, pt Ee), (3, .bool false), (4, bv ((za b 31 0) >>> zK 7)), (5, pt Ec), (6, pt Eb), (7, pt Ea), (41, .tuple #[.agg (zg (zh (nd (rE (yE b))))), .bool (QW 1 (tA (yE b)))])] → Ev w [] wo [.box Ef (bys (zp b 31 ((za b 31 0) &&& (127 : UInt8)))) 22, .box Ee ((zh (zd 4 0)) ++ ((zh (zd 4 0)) ++ ((zh (zd 4 0)) ++ (zh (zd 4 0))))) 37, .box Ec (zh (nd (yE b))) 33, .box Eb (zh (nd (zr 1 (nv (nd (yE b))) (nv (nd (yE b)))))) 33, .box Ea (zh (nd DN)) 33] → G 6 #[true, true, true, true, true, true, true, true, true, true, true, false, false, false, false, false, false] ac wo := by
   intro _ _ bU Hz
   refine Zl hG ?_
   refine q_s [11,12,13] [] 3 bU (Hz.pk [3, 4]) fun _ bV => q_t 14 ?_
   refine m_z 33 (zh (zd 4 0)) bV Hz fun _ _ HA bW HB => ⟨fun _ => HB.pk [3, 4], ?_⟩
   refine q_t 15 ?_
   refine zQ 5 4 (zh (nd (rE (yE b)))) [.box Ef (bys (zp b 31 ((za b 31 0) &&& (127 : UInt8)))) 22, .box Ee ((zh (zd 4 0)) ++ ((zh (zd 4 0)) ++ ((zh (zd 4 0)) ++ (zh (zd 4 0))))) 37, .box Ec (zh (nd (yE b))) 33, .box Eb (zh (nd (zr 1 (nv (nd (yE b))) (nv (nd (yE b)))))) 33, .box Ea (zh (nd DN)) 33, .box HA (zh (nd (rE (yE b)))) 33] bW HB rfl (zf (zl _ _)) (zf (zi)) (zt _) rfl fun _ _ HF Ep => ⟨fun _ => Ep.pk [3, 4], ?_⟩
   refine q_s [16] [] 0 HF (Ep.pk [3, 4]) fun _ HG => ?_
   exact h_e ⟨HA, HG.sb, Ep.pk [0, 1, 2, 3, 4, 5]⟩
  have nd1005 : ∀ (ac : Act) (wo : World) (EG : Nat), Env ac 67 [(1, pt Ef), (2, pt Ee), (3, .bool false), (4, bv ((za b 31 0) >>> zK 7)), (5, pt Ec), (6, pt Eb), (7, pt Ea), (8, pt EG), (40, .agg (zg (zh (nd (zr 1 (nv (nd (z7 1 (nv (nd (zr 1 (nv (nd (yE b))) (nv (nd (yE b)))))) (nv ([1, 0, 0, 0] : List UInt64))))) (nv (nd (zJ 1 (nv (nd (Zh 1 (nv (nd (zr 1 (nv (nd DN)) (nv (nd (zr 1 (nv (nd (yE b))) (nv (nd (yE b))))))))) (nv ([1, 0, 0, 0] : List UInt64))))) (mF 1 - 2)))))))))] → Ev w [] wo [.box Ef (bys (zp b 31 ((za b 31 0) &&& (127 : UInt8)))) 22, .box Ee ((zh (zd 4 0)) ++ ((zh (zd 4 0)) ++ ((zh (zd 4 0)) ++ (zh (zd 4 0))))) 37, .box Ec (zh (nd (yE b))) 33, .box Eb (zh (nd (zr 1 (nv (nd (yE b))) (nv (nd (yE b)))))) 33, .box Ea (zh (nd DN)) 33, .box EG (zh (zd 4 0)) 33] → G 6 #[true, true, true, true, true, true, true, true, true, true, false, false, false, false, true, false, false] ac wo := by
   intro _ _ EG HH HI
   refine Zl hG ?_
   refine q_t 10 ?_
   refine c_p HH HI (root_tA _ (show (nd (zr 1 (nv (nd (z7 1 (nv (nd (zr 1 (nv (nd (yE b))) (nv (nd (yE b)))))) (nv ([1, 0, 0, 0] : List UInt64))))) (nv (nd (zJ 1 (nv (nd (Zh 1 (nv (nd (zr 1 (nv (nd DN)) (nv (nd (zr 1 (nv (nd (yE b))) (nv (nd (yE b))))))))) (nv ([1, 0, 0, 0] : List UInt64))))) (mF 1 - 2)))))) = nd (tA (yE b)) from tA_txt (nv_y hb))) fun _ _ HJ Eq => ⟨fun _ => Eq.pk [3, 4], ?_⟩
   refine q_s [11,12,13] [] 2 HJ (Eq.pk [3, 4]) fun _ HK => q_t 15 ?_
   refine zQ 5 4 (zh (nd (rE (yE b)))) _ HK Eq rfl (zf (zl _ _)) (zf (zi)) (zt _) rfl fun _ _ HL Er => ⟨fun _ => Er.pk [3, 4], ?_⟩
   refine q_s [16] [] 0 HL (Er.pk [3, 4]) fun _ HM => ?_
   exact h_e ⟨EG, HM.sb, Er.pk [0, 1, 2, 3, 4, 5]⟩
  have nd1025 : ∀ (ac : Act) (wo : World), Env ac 67 [(1, pt Ef), (2, pt Ee), (3, .bool false), (4, bv ((za b 31 0) >>> zK 7)), (5, pt Ec), (6, pt Eb), (7, pt Ea), (40, .agg (zg (zh (nd (zr 1 (nv (nd (z7 1 (nv (nd (zr 1 (nv (nd (yE b))) (nv (nd (yE b)))))) (nv ([1, 0, 0, 0] : List UInt64))))) (nv (nd (zJ 1 (nv (nd (Zh 1 (nv (nd (zr 1 (nv (nd DN)) (nv (nd (zr 1 (nv (nd (yE b))) (nv (nd (yE b))))))))) (nv ([1, 0, 0, 0] : List UInt64))))) (mF 1 - 2)))))))))] → Ev w [] wo [.box Ef (bys (zp b 31 ((za b 31 0) &&& (127 : UInt8)))) 22, .box Ee ((zh (zd 4 0)) ++ ((zh (zd 4 0)) ++ ((zh (zd 4 0)) ++ (zh (zd 4 0))))) 37, .box Ec (zh (nd (yE b))) 33, .box Eb (zh (nd (zr 1 (nv (nd (yE b))) (nv (nd (yE b)))))) 33, .box Ea (zh (nd DN)) 33] → G 7 #[true, true, true, true, true, true, true, true, true, true, false, false, false, false, false, false, false] ac wo := by
   intro _ _ EK EL
   refine Zl hG ?_
   refine Qk [10, 14] (by kernel_rfl) rfl ?_
   refine ⟨?_, ?_, trivial⟩
   ·
    rintro _ rfl
    refine c_p EK EL (root_tA _ (show (nd (zr 1 (nv (nd (z7 1 (nv (nd (zr 1 (nv (nd (yE b))) (nv (nd (yE b)))))) (nv ([1, 0, 0, 0] : List UInt64))))) (nv (nd (zJ 1 (nv (nd (Zh 1 (nv (nd (zr 1 (nv (nd DN)) (nv (nd (zr 1 (nv (nd (yE b))) (nv (nd (yE b))))))))) (nv ([1, 0, 0, 0] : List UInt64))))) (mF 1 - 2)))))) = nd (tA (yE b)) from tA_txt (nv_y hb))) fun _ _ HN EM => ⟨fun _ => EM.pk [3, 4], ?_⟩
    exact Ql hG (by kernel_rfl) (nd987 _ _ (HN.sb) (EM.pk [0, 1, 2, 3, 4]))
   rintro _ rfl
   refine m_z 33 (zh (zd 4 0)) EK EL fun _ _ HO HP EN => ⟨fun _ => EN.pk [3, 4], ?_⟩
   exact Ql hG (by kernel_rfl) (nd1005 _ _ HO (HP.sb) (EN.pk [0, 1, 2, 3, 4, 5]))
  have nd1042 : ∀ (ac : Act) (wo : World) (Em : Nat), Env ac 67 [(1, pt Ef), (2, pt Ee), (3, .bool false), (4, bv ((za b 31 0) >>> zK 7)), (5, pt Ec), (6, pt Eb), (7, pt Ea), (8, pt Em), (33, .agg (zg (zh (nd (z7 1 (nv (nd (zr 1 (nv (nd (yE b))) (nv (nd (yE b)))))) (nv ([1, 0, 0, 0] : List UInt64))))))), (39, .agg (zg (zh (nd (zJ 1 (nv (nd (Zh 1 (nv (nd (zr 1 (nv (nd DN)) (nv (nd (zr 1 (nv (nd (yE b))) (nv (nd (yE b))))))))) (nv ([1, 0, 0, 0] : List UInt64))))) (mF 1 - 2))))))] → Ev w [] wo [.box Ef (bys (zp b 31 ((za b 31 0) &&& (127 : UInt8)))) 22, .box Ee ((zh (zd 4 0)) ++ ((zh (zd 4 0)) ++ ((zh (zd 4 0)) ++ (zh (zd 4 0))))) 37, .box Ec (zh (nd (yE b))) 33, .box Eb (zh (nd (zr 1 (nv (nd (yE b))) (nv (nd (yE b)))))) 33, .box Ea (zh (nd DN)) 33, .box Em (zh (zd 4 0)) 33] → G 7 #[true, true, true, true, true, true, true, true, true, false, false, false, false, false, true, false, false] ac wo := by
   intro _ _ Em HQ HR
   refine Zl hG ?_
   refine q_t 9 ?_
   refine c_p HQ HR (QD _ (nd (z7 1 (nv (nd (zr 1 (nv (nd (yE b))) (nv (nd (yE b)))))) (nv ([1, 0, 0, 0] : List UInt64)))) (nd (zJ 1 (nv (nd (Zh 1 (nv (nd (zr 1 (nv (nd DN)) (nv (nd (zr 1 (nv (nd (yE b))) (nv (nd (yE b))))))))) (nv ([1, 0, 0, 0] : List UInt64))))) (mF 1 - 2))) (zl _ _) (zl _ _)) fun _ _ HS EO => ⟨fun _ => EO.pk [3, 4], ?_⟩
   refine q_t 10 ?_
   refine c_p HS EO (root_tA _ (show (nd (zr 1 (nv (nd (z7 1 (nv (nd (zr 1 (nv (nd (yE b))) (nv (nd (yE b)))))) (nv ([1, 0, 0, 0] : List UInt64))))) (nv (nd (zJ 1 (nv (nd (Zh 1 (nv (nd (zr 1 (nv (nd DN)) (nv (nd (zr 1 (nv (nd (yE b))) (nv (nd (yE b))))))))) (nv ([1, 0, 0, 0] : List UInt64))))) (mF 1 - 2)))))) = nd (tA (yE b)) from tA_txt (nv_y hb))) fun _ _ HT Es => ⟨fun _ => Es.pk [3, 4], ?_⟩
   refine q_s [11,12,13] [] 2 HT (Es.pk [3, 4]) fun _ HU => q_t 15 ?_
   refine zQ 5 4 (zh (nd (rE (yE b)))) [.box Ef (bys (zp b 31 ((za b 31 0) &&& (127 : UInt8)))) 22, .box Ee ((zh (zd 4 0)) ++ ((zh (zd 4 0)) ++ ((zh (zd 4 0)) ++ (zh (zd 4 0))))) 37, .box Ec (zh (nd (yE b))) 33, .box Eb (zh (nd (zr 1 (nv (nd (yE b))) (nv (nd (yE b)))))) 33, .box Ea (zh (nd DN)) 33, .box Em (zh (nd (rE (yE b)))) 33] HU Es rfl (zf (zl _ _)) (zf (zi)) (zt _) rfl fun _ _ HV Et => ⟨fun _ => Et.pk [3, 4], ?_⟩
   refine q_s [16] [] 0 HV (Et.pk [3, 4]) fun _ HW => ?_
   exact h_e ⟨Em, HW.sb, Et.pk [0, 1, 2, 3, 4, 5]⟩
  have nd1069 : ∀ (ac : Act) (wo : World), Env ac 67 [(1, pt Ef), (2, pt Ee), (3, .bool false), (4, bv ((za b 31 0) >>> zK 7)), (5, pt Ec), (6, pt Eb), (7, pt Ea), (33, .agg (zg (zh (nd (z7 1 (nv (nd (zr 1 (nv (nd (yE b))) (nv (nd (yE b)))))) (nv ([1, 0, 0, 0] : List UInt64))))))), (39, .agg (zg (zh (nd (zJ 1 (nv (nd (Zh 1 (nv (nd (zr 1 (nv (nd DN)) (nv (nd (zr 1 (nv (nd (yE b))) (nv (nd (yE b))))))))) (nv ([1, 0, 0, 0] : List UInt64))))) (mF 1 - 2))))))] → Ev w [] wo [.box Ef (bys (zp b 31 ((za b 31 0) &&& (127 : UInt8)))) 22, .box Ee ((zh (zd 4 0)) ++ ((zh (zd 4 0)) ++ ((zh (zd 4 0)) ++ (zh (zd 4 0))))) 37, .box Ec (zh (nd (yE b))) 33, .box Eb (zh (nd (zr 1 (nv (nd (yE b))) (nv (nd (yE b)))))) 33, .box Ea (zh (nd DN)) 33] → G 8 #[true, true, true, true, true, true, true, true, true, false, false, false, false, false, false, false, false] ac wo := by
   intro _ _ EP EQ
   refine Zl hG ?_
   refine Qk [9, 14] (by kernel_rfl) rfl ?_
   refine ⟨?_, ?_, trivial⟩
   ·
    rintro _ rfl
    refine c_p EP EQ (QD _ (nd (z7 1 (nv (nd (zr 1 (nv (nd (yE b))) (nv (nd (yE b)))))) (nv ([1, 0, 0, 0] : List UInt64)))) (nd (zJ 1 (nv (nd (Zh 1 (nv (nd (zr 1 (nv (nd DN)) (nv (nd (zr 1 (nv (nd (yE b))) (nv (nd (yE b))))))))) (nv ([1, 0, 0, 0] : List UInt64))))) (mF 1 - 2))) (zl _ _) (zl _ _)) fun _ _ HX ER => ⟨fun _ => ER.pk [3, 4], ?_⟩
    exact Ql hG (by kernel_rfl) (nd1025 _ _ (HX.sb) (ER.pk [0, 1, 2, 3, 4]))
   rintro _ rfl
   refine m_z 33 (zh (zd 4 0)) EP EQ fun _ _ HY HZ ES => ⟨fun _ => ES.pk [3, 4], ?_⟩
   exact Ql hG (by kernel_rfl) (nd1042 _ _ HY (HZ.sb) (ES.pk [0, 1, 2, 3, 4, 5]))
  have nd1086 : ∀ (ac : Act) (wo : World) (EH : Nat), Env ac 67 [(1, pt Ef), (2, pt Ee), (3, .bool false), (4, bv ((za b 31 0) >>> zK 7)), (5, pt Ec), (6, pt Eb), (7, pt Ea), (8, pt EH), (33, .agg (zg (zh (nd (z7 1 (nv (nd (zr 1 (nv (nd (yE b))) (nv (nd (yE b)))))) (nv ([1, 0, 0, 0] : List UInt64))))))), (38, .agg (zg (zh (nd (Zh 1 (nv (nd (zr 1 (nv (nd DN)) (nv (nd (zr 1 (nv (nd (yE b))) (nv (nd (yE b))))))))) (nv ([1, 0, 0, 0] : List UInt64)))))))] → Ev w [] wo [.box Ef (bys (zp b 31 ((za b 31 0) &&& (127 : UInt8)))) 22, .box Ee ((zh (zd 4 0)) ++ ((zh (zd 4 0)) ++ ((zh (zd 4 0)) ++ (zh (zd 4 0))))) 37, .box Ec (zh (nd (yE b))) 33, .box Eb (zh (nd (zr 1 (nv (nd (yE b))) (nv (nd (yE b)))))) 33, .box Ea (zh (nd DN)) 33, .box EH (zh (zd 4 0)) 33] → G 8 #[true, true, true, true, true, true, true, true, false, false, false, false, false, false, true, false, false] ac wo := by
   intro _ _ EH H0 H1
   refine Zl hG ?_
   refine q_t 8 ?_
   refine c_p H0 H1 (X7 _ 1 h1f hM1 (nd (Zh 1 (nv (nd (zr 1 (nv (nd DN)) (nv (nd (zr 1 (nv (nd (yE b))) (nv (nd (yE b))))))))) (nv ([1, 0, 0, 0] : List UInt64)))) (zl _ _)) fun _ _ H2 ET => ⟨fun _ => ET.pk [3, 4], ?_⟩
   refine q_t 9 ?_
   refine c_p H2 ET (QD _ (nd (z7 1 (nv (nd (zr 1 (nv (nd (yE b))) (nv (nd (yE b)))))) (nv ([1, 0, 0, 0] : List UInt64)))) (nd (zJ 1 (nv (nd (Zh 1 (nv (nd (zr 1 (nv (nd DN)) (nv (nd (zr 1 (nv (nd (yE b))) (nv (nd (yE b))))))))) (nv ([1, 0, 0, 0] : List UInt64))))) (mF 1 - 2))) (zl _ _) (zl _ _)) fun _ _ H3 EU => ⟨fun _ => EU.pk [3, 4], ?_⟩
   refine q_t 10 ?_
   refine c_p H3 EU (root_tA _ (show (nd (zr 1 (nv (nd (z7 1 (nv (nd (zr 1 (nv (nd (yE b))) (nv (nd (yE b)))))) (nv ([1, 0, 0, 0] : List UInt64))))) (nv (nd (zJ 1 (nv (nd (Zh 1 (nv (nd (zr 1 (nv (nd DN)) (nv (nd (zr 1 (nv (nd (yE b))) (nv (nd (yE b))))))))) (nv ([1, 0, 0, 0] : List UInt64))))) (mF 1 - 2)))))) = nd (tA (yE b)) from tA_txt (nv_y hb))) fun _ _ H4 Eu => ⟨fun _ => Eu.pk [3, 4], ?_⟩
   refine q_s [11,12,13] [] 2 H4 (Eu.pk [3, 4]) fun _ H5 => q_t 15 ?_
   refine zQ 5 4 (zh (nd (rE (yE b)))) _ H5 Eu rfl (zf (zl _ _)) (zf (zi)) (zt _) rfl fun _ _ H6 Ew => ⟨fun _ => Ew.pk [3, 4], ?_⟩
   refine q_s [16] [] 0 H6 (Ew.pk [3, 4]) fun _ H7 => ?_
   exact h_e ⟨EH, H7.sb, Ew.pk [0, 1, 2, 3, 4, 5]⟩
  have nd1120 : ∀ (ac : Act) (wo : World), Env ac 67 [(1, pt Ef), (2, pt Ee), (3, .bool false), (4, bv ((za b 31 0) >>> zK 7)), (5, pt Ec), (6, pt Eb), (7, pt Ea), (33, .agg (zg (zh (nd (z7 1 (nv (nd (zr 1 (nv (nd (yE b))) (nv (nd (yE b)))))) (nv ([1, 0, 0, 0] : List UInt64))))))), (38, .agg (zg (zh (nd (Zh 1 (nv (nd (zr 1 (nv (nd DN)) (nv (nd (zr 1 (nv (nd (yE b))) (nv (nd (yE b))))))))) (nv ([1, 0, 0, 0] : List UInt64)))))))] → Ev w [] wo [.box Ef (bys (zp b 31 ((za b 31 0) &&& (127 : UInt8)))) 22, .box Ee ((zh (zd 4 0)) ++ ((zh (zd 4 0)) ++ ((zh (zd 4 0)) ++ (zh (zd 4 0))))) 37, .box Ec (zh (nd (yE b))) 33, .box Eb (zh (nd (zr 1 (nv (nd (yE b))) (nv (nd (yE b)))))) 33, .box Ea (zh (nd DN)) 33] → G 9 #[true, true, true, true, true, true, true, true, false, false, false, false, false, false, false, false, false] ac wo := by
   intro _ _ EV EW
   refine Zl hG ?_
   refine Qk [8, 14] (by kernel_rfl) rfl ?_
   refine ⟨?_, ?_, trivial⟩
   ·
    rintro _ rfl
    refine c_p EV EW (X7 _ 1 h1f hM1 (nd (Zh 1 (nv (nd (zr 1 (nv (nd DN)) (nv (nd (zr 1 (nv (nd (yE b))) (nv (nd (yE b))))))))) (nv ([1, 0, 0, 0] : List UInt64)))) (zl _ _)) fun _ _ H8 EX => ⟨fun _ => EX.pk [3, 4], ?_⟩
    exact Ql hG (by kernel_rfl) (nd1069 _ _ (H8.sb) (EX.pk [0, 1, 2, 3, 4]))
   rintro _ rfl
   refine m_z 33 (zh (zd 4 0)) EV EW fun _ _ H9 aa EY => ⟨fun _ => EY.pk [3, 4], ?_⟩
   exact Ql hG (by kernel_rfl) (nd1086 _ _ H9 (aa.sb) (EY.pk [0, 1, 2, 3, 4, 5]))
  have nd1137 : ∀ (ac : Act) (wo : World) (En : Nat), Env ac 67 [(1, pt Ef), (2, pt Ee), (3, .bool false), (4, bv ((za b 31 0) >>> zK 7)), (5, pt Ec), (6, pt Eb), (7, pt Ea), (8, pt En), (33, .agg (zg (zh (nd (z7 1 (nv (nd (zr 1 (nv (nd (yE b))) (nv (nd (yE b)))))) (nv ([1, 0, 0, 0] : List UInt64))))))), (36, .agg (zg (zh (nd (zr 1 (nv (nd DN)) (nv (nd (zr 1 (nv (nd (yE b))) (nv (nd (yE b))))))))))), (37, .agg (zg (zh ([1, 0, 0, 0] : List UInt64))))] → Ev w [] wo [.box Ef (bys (zp b 31 ((za b 31 0) &&& (127 : UInt8)))) 22, .box Ee ((zh (zd 4 0)) ++ ((zh (zd 4 0)) ++ ((zh (zd 4 0)) ++ (zh (zd 4 0))))) 37, .box Ec (zh (nd (yE b))) 33, .box Eb (zh (nd (zr 1 (nv (nd (yE b))) (nv (nd (yE b)))))) 33, .box Ea (zh (nd DN)) 33, .box En (zh (zd 4 0)) 33] → G 9 #[true, true, true, true, true, true, true, false, false, false, false, false, false, false, true, false, false] ac wo := by
   intro _ _ En ab ae
   refine Zl hG ?_
   refine q_t 7 ?_
   refine c_p ab ae (J4 _ (nd (zr 1 (nv (nd DN)) (nv (nd (zr 1 (nv (nd (yE b))) (nv (nd (yE b)))))))) ([1, 0, 0, 0] : List UInt64) (zl _ _) (show zb ([1, 0, 0, 0] : List UInt64) = 4 from rfl)) fun _ _ af EZ => ⟨fun _ => EZ.pk [3, 4], ?_⟩
   refine q_t 8 ?_
   refine c_p af EZ (X7 _ 1 h1f hM1 (nd (Zh 1 (nv (nd (zr 1 (nv (nd DN)) (nv (nd (zr 1 (nv (nd (yE b))) (nv (nd (yE b))))))))) (nv ([1, 0, 0, 0] : List UInt64)))) (zl _ _)) fun _ _ ag E0 => ⟨fun _ => E0.pk [3, 4], ?_⟩
   refine q_t 9 ?_
   refine c_p ag E0 (QD _ (nd (z7 1 (nv (nd (zr 1 (nv (nd (yE b))) (nv (nd (yE b)))))) (nv ([1, 0, 0, 0] : List UInt64)))) (nd (zJ 1 (nv (nd (Zh 1 (nv (nd (zr 1 (nv (nd DN)) (nv (nd (zr 1 (nv (nd (yE b))) (nv (nd (yE b))))))))) (nv ([1, 0, 0, 0] : List UInt64))))) (mF 1 - 2))) (zl _ _) (zl _ _)) fun _ _ ah E1 => ⟨fun _ => E1.pk [3, 4], ?_⟩
   refine q_t 10 ?_
   refine c_p ah E1 (root_tA _ (show (nd (zr 1 (nv (nd (z7 1 (nv (nd (zr 1 (nv (nd (yE b))) (nv (nd (yE b)))))) (nv ([1, 0, 0, 0] : List UInt64))))) (nv (nd (zJ 1 (nv (nd (Zh 1 (nv (nd (zr 1 (nv (nd DN)) (nv (nd (zr 1 (nv (nd (yE b))) (nv (nd (yE b))))))))) (nv ([1, 0, 0, 0] : List UInt64))))) (mF 1 - 2)))))) = nd (tA (yE b)) from tA_txt (nv_y hb))) fun _ _ ai Ex => ⟨fun _ => Ex.pk [3, 4], ?_⟩
   refine q_s [11,12,13] [] 2 ai (Ex.pk [3, 4]) fun _ aj => q_t 15 ?_
   refine zQ 5 4 (zh (nd (rE (yE b)))) [.box Ef (bys (zp b 31 ((za b 31 0) &&& (127 : UInt8)))) 22, .box Ee ((zh (zd 4 0)) ++ ((zh (zd 4 0)) ++ ((zh (zd 4 0)) ++ (zh (zd 4 0))))) 37, .box Ec (zh (nd (yE b))) 33, .box Eb (zh (nd (zr 1 (nv (nd (yE b))) (nv (nd (yE b)))))) 33, .box Ea (zh (nd DN)) 33, .box En (zh (nd (rE (yE b)))) 33] aj Ex rfl (zf (zl _ _)) (zf (zi)) (zt _) rfl fun _ _ ak Ey => ⟨fun _ => Ey.pk [3, 4], ?_⟩
   refine q_s [16] [] 0 ak (Ey.pk [3, 4]) fun _ al => ?_
   exact h_e ⟨En, al.sb, Ey.pk [0, 1, 2, 3, 4, 5]⟩
  have nd1178 : ∀ (ac : Act) (wo : World), Env ac 67 [(1, pt Ef), (2, pt Ee), (3, .bool false), (4, bv ((za b 31 0) >>> zK 7)), (5, pt Ec), (6, pt Eb), (7, pt Ea), (33, .agg (zg (zh (nd (z7 1 (nv (nd (zr 1 (nv (nd (yE b))) (nv (nd (yE b)))))) (nv ([1, 0, 0, 0] : List UInt64))))))), (36, .agg (zg (zh (nd (zr 1 (nv (nd DN)) (nv (nd (zr 1 (nv (nd (yE b))) (nv (nd (yE b))))))))))), (37, .agg (zg (zh ([1, 0, 0, 0] : List UInt64))))] → Ev w [] wo [.box Ef (bys (zp b 31 ((za b 31 0) &&& (127 : UInt8)))) 22, .box Ee ((zh (zd 4 0)) ++ ((zh (zd 4 0)) ++ ((zh (zd 4 0)) ++ (zh (zd 4 0))))) 37, .box Ec (zh (nd (yE b))) 33, .box Eb (zh (nd (zr 1 (nv (nd (yE b))) (nv (nd (yE b)))))) 33, .box Ea (zh (nd DN)) 33] → G 10 #[true, true, true, true, true, true, true, false, false, false, false, false, false, false, false, false, false] ac wo := by
   intro _ _ E2 E3
   refine Zl hG ?_
   refine Qk [7, 14] (by kernel_rfl) rfl ?_
   refine ⟨?_, ?_, trivial⟩
   ·
    rintro _ rfl
    refine c_p E2 E3 (J4 _ (nd (zr 1 (nv (nd DN)) (nv (nd (zr 1 (nv (nd (yE b))) (nv (nd (yE b)))))))) ([1, 0, 0, 0] : List UInt64) (zl _ _) (show zb ([1, 0, 0, 0] : List UInt64) = 4 from rfl)) fun _ _ am E4 => ⟨fun _ => E4.pk [3, 4], ?_⟩
    exact Ql hG (by kernel_rfl) (nd1120 _ _ (am.sb) (E4.pk [0, 1, 2, 3, 4]))
   rintro _ rfl
   refine m_z 33 (zh (zd 4 0)) E2 E3 fun _ _ an ao E5 => ⟨fun _ => E5.pk [3, 4], ?_⟩
   exact Ql hG (by kernel_rfl) (nd1137 _ _ an (ao.sb) (E5.pk [0, 1, 2, 3, 4, 5]))
  have nd1195 : ∀ (ac : Act) (wo : World) (EI : Nat), Env ac 67 [(1, pt Ef), (2, pt Ee), (3, .bool false), (4, bv ((za b 31 0) >>> zK 7)), (5, pt Ec), (6, pt Eb), (7, pt Ea), (8, pt EI), (33, .agg (zg (zh (nd (z7 1 (nv (nd (zr 1 (nv (nd (yE b))) (nv (nd (yE b)))))) (nv ([1, 0, 0, 0] : List UInt64))))))), (34, .agg (zg (zh (nd DN)))), (35, .agg (zg (zh (nd (zr 1 (nv (nd (yE b))) (nv (nd (yE b)))))))), (37, .agg (zg (zh ([1, 0, 0, 0] : List UInt64))))] → Ev w [] wo [.box Ef (bys (zp b 31 ((za b 31 0) &&& (127 : UInt8)))) 22, .box Ee ((zh (zd 4 0)) ++ ((zh (zd 4 0)) ++ ((zh (zd 4 0)) ++ (zh (zd 4 0))))) 37, .box Ec (zh (nd (yE b))) 33, .box Eb (zh (nd (zr 1 (nv (nd (yE b))) (nv (nd (yE b)))))) 33, .box Ea (zh (nd DN)) 33, .box EI (zh (zd 4 0)) 33] → G 10 #[true, true, true, true, true, false, true, false, false, false, false, false, false, false, true, false, false] ac wo := by
   intro _ _ EI ap aq
   refine Zl hG ?_
   refine q_t 5 ?_
   refine c_p ap aq (QD _ (nd DN) (nd (zr 1 (nv (nd (yE b))) (nv (nd (yE b))))) (zl _ _) (zl _ _)) fun _ _ ar E6 => ⟨fun _ => E6.pk [3, 4], ?_⟩
   refine q_t 7 ?_
   refine c_p ar E6 (J4 _ (nd (zr 1 (nv (nd DN)) (nv (nd (zr 1 (nv (nd (yE b))) (nv (nd (yE b)))))))) ([1, 0, 0, 0] : List UInt64) (zl _ _) (show zb ([1, 0, 0, 0] : List UInt64) = 4 from rfl)) fun _ _ au E7 => ⟨fun _ => E7.pk [3, 4], ?_⟩
   refine q_t 8 ?_
   refine c_p au E7 (X7 _ 1 h1f hM1 (nd (Zh 1 (nv (nd (zr 1 (nv (nd DN)) (nv (nd (zr 1 (nv (nd (yE b))) (nv (nd (yE b))))))))) (nv ([1, 0, 0, 0] : List UInt64)))) (zl _ _)) fun _ _ av E8 => ⟨fun _ => E8.pk [3, 4], ?_⟩
   refine q_t 9 ?_
   refine c_p av E8 (QD _ (nd (z7 1 (nv (nd (zr 1 (nv (nd (yE b))) (nv (nd (yE b)))))) (nv ([1, 0, 0, 0] : List UInt64)))) (nd (zJ 1 (nv (nd (Zh 1 (nv (nd (zr 1 (nv (nd DN)) (nv (nd (zr 1 (nv (nd (yE b))) (nv (nd (yE b))))))))) (nv ([1, 0, 0, 0] : List UInt64))))) (mF 1 - 2))) (zl _ _) (zl _ _)) fun _ _ aw E9 => ⟨fun _ => E9.pk [3, 4], ?_⟩
   refine q_t 10 ?_
   refine c_p aw E9 (root_tA _ (show (nd (zr 1 (nv (nd (z7 1 (nv (nd (zr 1 (nv (nd (yE b))) (nv (nd (yE b)))))) (nv ([1, 0, 0, 0] : List UInt64))))) (nv (nd (zJ 1 (nv (nd (Zh 1 (nv (nd (zr 1 (nv (nd DN)) (nv (nd (zr 1 (nv (nd (yE b))) (nv (nd (yE b))))))))) (nv ([1, 0, 0, 0] : List UInt64))))) (mF 1 - 2)))))) = nd (tA (yE b)) from tA_txt (nv_y hb))) fun _ _ ax Ez => ⟨fun _ => Ez.pk [3, 4], ?_⟩
   refine q_s [11,12,13] [] 2 ax (Ez.pk [3, 4]) fun _ ay => q_t 15 ?_
   refine zQ 5 4 (zh (nd (rE (yE b)))) _ ay Ez rfl (zf (zl _ _)) (zf (zi)) (zt _) rfl fun _ _ az EA => ⟨fun _ => EA.pk [3, 4], ?_⟩
   refine q_s [16] [] 0 az (EA.pk [3, 4]) fun _ aA => ?_
   exact h_e ⟨EI, aA.sb, EA.pk [0, 1, 2, 3, 4, 5]⟩
  have nd1243 : ∀ (ac : Act) (wo : World), Env ac 67 [(1, pt Ef), (2, pt Ee), (3, .bool false), (4, bv ((za b 31 0) >>> zK 7)), (5, pt Ec), (6, pt Eb), (7, pt Ea), (33, .agg (zg (zh (nd (z7 1 (nv (nd (zr 1 (nv (nd (yE b))) (nv (nd (yE b)))))) (nv ([1, 0, 0, 0] : List UInt64))))))), (34, .agg (zg (zh (nd DN)))), (35, .agg (zg (zh (nd (zr 1 (nv (nd (yE b))) (nv (nd (yE b)))))))), (37, .agg (zg (zh ([1, 0, 0, 0] : List UInt64))))] → Ev w [] wo [.box Ef (bys (zp b 31 ((za b 31 0) &&& (127 : UInt8)))) 22, .box Ee ((zh (zd 4 0)) ++ ((zh (zd 4 0)) ++ ((zh (zd 4 0)) ++ (zh (zd 4 0))))) 37, .box Ec (zh (nd (yE b))) 33, .box Eb (zh (nd (zr 1 (nv (nd (yE b))) (nv (nd (yE b)))))) 33, .box Ea (zh (nd DN)) 33] → G 11 #[true, true, true, true, true, false, true, false, false, false, false, false, false, false, false, false, false] ac wo := by
   intro _ _ Ha Hb
   refine Zl hG ?_
   refine Qk [5, 14] (by kernel_rfl) rfl ?_
   refine ⟨?_, ?_, trivial⟩
   ·
    rintro _ rfl
    refine c_p Ha Hb (QD _ (nd DN) (nd (zr 1 (nv (nd (yE b))) (nv (nd (yE b))))) (zl _ _) (zl _ _)) fun _ _ aB Hc => ⟨fun _ => Hc.pk [3, 4], ?_⟩
    exact Ql hG (by kernel_rfl) (nd1178 _ _ (aB.sb) (Hc.pk [0, 1, 2, 3, 4]))
   rintro _ rfl
   refine m_z 33 (zh (zd 4 0)) Ha Hb fun _ _ aC aD Hd => ⟨fun _ => Hd.pk [3, 4], ?_⟩
   exact Ql hG (by kernel_rfl) (nd1195 _ _ aC (aD.sb) (Hd.pk [0, 1, 2, 3, 4, 5]))
  have nd1260 : ∀ (ac : Act) (wo : World) (Eo : Nat), Env ac 67 [(1, pt Ef), (2, pt Ee), (3, .bool false), (4, bv ((za b 31 0) >>> zK 7)), (5, pt Ec), (6, pt Eb), (7, pt Ea), (8, pt Eo), (31, .agg (zg (zh (nd (zr 1 (nv (nd (yE b))) (nv (nd (yE b)))))))), (32, .agg (zg (zh ([1, 0, 0, 0] : List UInt64)))), (34, .agg (zg (zh (nd DN)))), (35, .agg (zg (zh (nd (zr 1 (nv (nd (yE b))) (nv (nd (yE b)))))))), (37, .agg (zg (zh ([1, 0, 0, 0] : List UInt64))))] → Ev w [] wo [.box Ef (bys (zp b 31 ((za b 31 0) &&& (127 : UInt8)))) 22, .box Ee ((zh (zd 4 0)) ++ ((zh (zd 4 0)) ++ ((zh (zd 4 0)) ++ (zh (zd 4 0))))) 37, .box Ec (zh (nd (yE b))) 33, .box Eb (zh (nd (zr 1 (nv (nd (yE b))) (nv (nd (yE b)))))) 33, .box Ea (zh (nd DN)) 33, .box Eo (zh (zd 4 0)) 33] → G 11 #[true, true, false, true, true, false, true, false, false, false, false, false, false, false, true, false, false] ac wo := by
   intro _ _ Eo aE aF
   refine Zl hG ?_
   refine q_t 2 ?_
   refine c_p aE aF (edif_go _ (nd (zr 1 (nv (nd (yE b))) (nv (nd (yE b))))) ([1, 0, 0, 0] : List UInt64) (zl _ _) (show zb ([1, 0, 0, 0] : List UInt64) = 4 from rfl)) fun _ _ aG He => ⟨fun _ => He.pk [3, 4], ?_⟩
   refine q_t 5 ?_
   refine c_p aG He (QD _ (nd DN) (nd (zr 1 (nv (nd (yE b))) (nv (nd (yE b))))) (zl _ _) (zl _ _)) fun _ _ aH Hf => ⟨fun _ => Hf.pk [3, 4], ?_⟩
   refine q_t 7 ?_
   refine c_p aH Hf (J4 _ (nd (zr 1 (nv (nd DN)) (nv (nd (zr 1 (nv (nd (yE b))) (nv (nd (yE b)))))))) ([1, 0, 0, 0] : List UInt64) (zl _ _) (show zb ([1, 0, 0, 0] : List UInt64) = 4 from rfl)) fun _ _ aI Hg => ⟨fun _ => Hg.pk [3, 4], ?_⟩
   refine q_t 8 ?_
   refine c_p aI Hg (X7 _ 1 h1f hM1 (nd (Zh 1 (nv (nd (zr 1 (nv (nd DN)) (nv (nd (zr 1 (nv (nd (yE b))) (nv (nd (yE b))))))))) (nv ([1, 0, 0, 0] : List UInt64)))) (zl _ _)) fun _ _ aJ Hh => ⟨fun _ => Hh.pk [3, 4], ?_⟩
   refine q_t 9 ?_
   refine c_p aJ Hh (QD _ (nd (z7 1 (nv (nd (zr 1 (nv (nd (yE b))) (nv (nd (yE b)))))) (nv ([1, 0, 0, 0] : List UInt64)))) (nd (zJ 1 (nv (nd (Zh 1 (nv (nd (zr 1 (nv (nd DN)) (nv (nd (zr 1 (nv (nd (yE b))) (nv (nd (yE b))))))))) (nv ([1, 0, 0, 0] : List UInt64))))) (mF 1 - 2))) (zl _ _) (zl _ _)) fun _ _ aK Hi => ⟨fun _ => Hi.pk [3, 4], ?_⟩
   refine q_t 10 ?_
   refine c_p aK Hi (root_tA _ (show (nd (zr 1 (nv (nd (z7 1 (nv (nd (zr 1 (nv (nd (yE b))) (nv (nd (yE b)))))) (nv ([1, 0, 0, 0] : List UInt64))))) (nv (nd (zJ 1 (nv (nd (Zh 1 (nv (nd (zr 1 (nv (nd DN)) (nv (nd (zr 1 (nv (nd (yE b))) (nv (nd (yE b))))))))) (nv ([1, 0, 0, 0] : List UInt64))))) (mF 1 - 2)))))) = nd (tA (yE b)) from tA_txt (nv_y hb))) fun _ _ aL EB => ⟨fun _ => EB.pk [3, 4], ?_⟩
   refine q_s [11,12,13] [] 2 aL (EB.pk [3, 4]) fun _ aM => q_t 15 ?_
   refine zQ 5 4 (zh (nd (rE (yE b)))) [.box Ef (bys (zp b 31 ((za b 31 0) &&& (127 : UInt8)))) 22, .box Ee ((zh (zd 4 0)) ++ ((zh (zd 4 0)) ++ ((zh (zd 4 0)) ++ (zh (zd 4 0))))) 37, .box Ec (zh (nd (yE b))) 33, .box Eb (zh (nd (zr 1 (nv (nd (yE b))) (nv (nd (yE b)))))) 33, .box Ea (zh (nd DN)) 33, .box Eo (zh (nd (rE (yE b)))) 33] aM EB rfl (zf (zl _ _)) (zf (zi)) (zt _) rfl fun _ _ aN EC => ⟨fun _ => EC.pk [3, 4], ?_⟩
   refine q_s [16] [] 0 aN (EC.pk [3, 4]) fun _ aO => ?_
   exact h_e ⟨Eo, aO.sb, EC.pk [0, 1, 2, 3, 4, 5]⟩
  refine Zl hG ?_
  refine q_r 0 (s := Instr.loadAt 33 (pt Eb)) (v := .agg (zg (zh (nd (zr 1 (nv (nd (yE b))) (nv (nd (yE b)))))))) bT (fun w hS => zM (m := 4) (cs := zh (nd (zr 1 (nv (nd (yE b))) (nv (nd (yE b)))))) (zf (zl _ _)) (by kernel_rfl) (by kernel_rfl) (hS.heap.cells (k := 0) (off := 0) (m := 4) rfl (zq (zf (zl _ _))))) (Ei.pk [3, 4]) fun _ aP => q_s [1] [] 15 aP (Ei.pk [3, 4]) fun _ aQ => q_r 3 (s := Instr.loadAt 33 (pt Ea)) (v := .agg (zg (zh (nd DN)))) aQ (fun w hS => zM (m := 4) (cs := zh (nd DN)) (zf (zl _ _)) (by kernel_rfl) (by kernel_rfl) (hS.heap.cells (k := 1) (off := 0) (m := 4) rfl (zq (zf (zl _ _))))) (Ei.pk [3, 4]) fun _ aR => q_r 4 (s := Instr.loadAt 33 (pt Eb)) (v := .agg (zg (zh (nd (zr 1 (nv (nd (yE b))) (nv (nd (yE b)))))))) aR (fun w hS => zM (m := 4) (cs := zh (nd (zr 1 (nv (nd (yE b))) (nv (nd (yE b)))))) (zf (zl _ _)) (by kernel_rfl) (by kernel_rfl) (hS.heap.cells (k := 0) (off := 0) (m := 4) rfl (zq (zf (zl _ _))))) (Ei.pk [3, 4]) fun _ aS => ?_
  refine q_s [6] [] 12 aS (Ei.pk [3, 4]) fun _ Hj => Qk [2, 14] (by kernel_rfl) rfl ?_
  refine ⟨?_, ?_, trivial⟩
  ·
   rintro _ rfl
   refine c_p Hj Ei (edif_go _ (nd (zr 1 (nv (nd (yE b))) (nv (nd (yE b))))) ([1, 0, 0, 0] : List UInt64) (zl _ _) (show zb ([1, 0, 0, 0] : List UInt64) = 4 from rfl)) fun _ _ aT Hk => ⟨fun _ => Hk.pk [3, 4], ?_⟩
   exact Ql hG (by kernel_rfl) (nd1243 _ _ (aT.sb) (Hk.pk [0, 1, 2, 3, 4]))
  rintro _ rfl
  refine m_z 33 (zh (zd 4 0)) Hj Ei fun _ _ aU aV Hl => ⟨fun _ => Hl.pk [3, 4], ?_⟩
  exact Ql hG (by kernel_rfl) (nd1260 _ _ aU (aV.sb) (Hl.pk [0, 1, 2, 3, 4, 5]))
 rintro _ _ ⟨Ed, aW, Eg⟩
 refine ze <| wp_seq <| wp_seq <| zk <| d_k [1,2,3,4,5,6,7,8,46] [] 3 aW fun _ Hm => ?_
 rcases ZB (!(QW 1 (tA (yE b)))) with Ej | Ej
 ·
  have aX := Hm.fx (t := 46) (congrArg Value.bool Ej)
  have hp1345 : ¬ (QW 1 (tA (yE b)) = true) := by simpa using Ej
  refine d_e [1,2,3,4,5,6,7,8,54] [] aX fun _ Hn => ze <| c_t Hn ?_
  refine wp_seq <| zk <| d_k [1,2,3,4,5,6,7,8,55] [] 1 Hn fun _ aY => f_o <| zQ 1 16 [.int .u64 0, .int .u64 0, .int .u64 0, .int .u64 0, .int .u64 0, .int .u64 0, .int .u64 0, .int .u64 0, .int .u64 0, .int .u64 0, .int .u64 0, .int .u64 0, .int .u64 0, .int .u64 0, .int .u64 0, .int .u64 0] _ aY Eg rfl rfl (zE (zf (zi)) (zE (zf (zi)) (zE (zf (zi)) (zf (zi))))) (Y4 (by kernel_rfl)) rfl fun _ _ aZ Ho => d_e [1,2,3,4,5,6,7,8] [] aZ fun _ a0 => ze <| wp_ret <| ZE <| Z6 (v := .agg #[.int .u64 0, .int .u64 0, .int .u64 0, .int .u64 0, .int .u64 0, .int .u64 0, .int .u64 0, .int .u64 0, .int .u64 0, .int .u64 0, .int .u64 0, .int .u64 0, .int .u64 0, .int .u64 0, .int .u64 0, .int .u64 0]) (x := .bool false) (t := 2) (T := 37) (ad := ⟨Ee, 0, none⟩) (u := 3) a0 (by kernel_rfl) (by kernel_rfl) (zB (t := 37) (k := 1) (off := 0) (m := 16) (xs := [.int .u64 0, .int .u64 0, .int .u64 0, .int .u64 0, .int .u64 0, .int .u64 0, .int .u64 0, .int .u64 0, .int .u64 0, .int .u64 0, .int .u64 0, .int .u64 0, .int .u64 0, .int .u64 0, .int .u64 0, .int .u64 0]) Ho rfl rfl rfl (by kernel_rfl) (by kernel_rfl)) (by kernel_rfl) ?_
  have ei : isE b = false := no_2 (Yq.2 hp1345)
  exact ⟨(show _ = Ending.returned (.tuple #[.agg (zg (zh (zd 16 0))), .bool false]) from by kernel_rfl).trans (ret_to (to_no ei) ei.symm), Ho.pk []⟩
 have a1 := Hm.fx (t := 46) (congrArg Value.bool Ej)
 have hp1357 : QW 1 (tA (yE b)) = true := by simpa using Ej
 refine d_k [1,2,3,4,5,6,7,8,46,49] [] 6 a1 fun _ Hp => ?_
 rcases ZB (((ZJ ((za b 31 0) >>> zK 7) : Nat) : Int) == (1 : Int)) with Ek | Ek
 ·
  have a2 := Hp.fx (t := 49) (congrArg Value.bool Ek)
  have hp1362 : ((ZJ ((za b 31 0) >>> zK 7) : Nat) : Int) = (1 : Int) := eq_of_beq Ek
  refine f_o <| Zp 5 4 (zh (nd (rE (yE b)))) a2 Eg rfl (zf (zl _ _)) fun _ a3 => d_k [1,2,3,4,5,6,7,8,46,49,50,51] [] 8 a3 fun _ a4 => f_o <| q_v (x := eqOp .eql 33 (.tmp 50) (.tmp 51) (.agg (zg (zh (nd (rE (yE b)))))) (.agg (zg (zh ([0, 0, 0, 0] : List UInt64))))) (v := .bool ((nd (rE (yE b))) == ([0, 0, 0, 0] : List UInt64))) a4 (Go.Dbr.u64s_eqop (a := (.tmp 50)) (b := (.tmp 51)) (e := 31) (m := 4) (by kernel_rfl) (by kernel_rfl) (by kernel_rfl) (by kernel_rfl) (by kernel_rfl) (zl _ _) (show zb ([0, 0, 0, 0] : List UInt64) = 4 from rfl) _) fun _ a5 => d_e [1,2,3,4,5,6,7,8,54] [] a5 fun _ ED => ?_
  refine ze <| cond_at ED (t := (nd (rE (yE b))) == ([0, 0, 0, 0] : List UInt64)) (by kernel_rfl) (fun Eh => ?_) (fun Eh => ?_)
  ·
   replace Eh : (nd (rE (yE b))) = ([0, 0, 0, 0] : List UInt64) := eq_of_beq Eh
   refine wp_seq <| zk <| d_k [1,2,3,4,5,6,7,8,55] [] 1 ED fun _ a6 => f_o <| zQ 1 16 [.int .u64 0, .int .u64 0, .int .u64 0, .int .u64 0, .int .u64 0, .int .u64 0, .int .u64 0, .int .u64 0, .int .u64 0, .int .u64 0, .int .u64 0, .int .u64 0, .int .u64 0, .int .u64 0, .int .u64 0, .int .u64 0] [.box Ef (bys (zp b 31 ((za b 31 0) &&& (127 : UInt8)))) 22, .box Ee [.int .u64 0, .int .u64 0, .int .u64 0, .int .u64 0, .int .u64 0, .int .u64 0, .int .u64 0, .int .u64 0, .int .u64 0, .int .u64 0, .int .u64 0, .int .u64 0, .int .u64 0, .int .u64 0, .int .u64 0, .int .u64 0] 37, .box Ec (zh (nd (yE b))) 33, .box Eb (zh (nd (zr 1 (nv (nd (yE b))) (nv (nd (yE b)))))) 33, .box Ea (zh (nd DN)) 33, .box Ed (zh (nd (rE (yE b)))) 33] a6 Eg rfl rfl (zE (zf (zi)) (zE (zf (zi)) (zE (zf (zi)) (zf (zi))))) (Y4 (by kernel_rfl)) rfl fun _ _ a7 Hq => d_e [1,2,3,4,5,6,7,8] [] a7 fun _ a8 => ze <| wp_ret <| ZE <| Z6 (v := .agg #[.int .u64 0, .int .u64 0, .int .u64 0, .int .u64 0, .int .u64 0, .int .u64 0, .int .u64 0, .int .u64 0, .int .u64 0, .int .u64 0, .int .u64 0, .int .u64 0, .int .u64 0, .int .u64 0, .int .u64 0, .int .u64 0]) (x := .bool false) (t := 2) (T := 37) (ad := ⟨Ee, 0, none⟩) (u := 3) a8 (by kernel_rfl) (by kernel_rfl) (zB (t := 37) (k := 1) (off := 0) (m := 16) (xs := [.int .u64 0, .int .u64 0, .int .u64 0, .int .u64 0, .int .u64 0, .int .u64 0, .int .u64 0, .int .u64 0, .int .u64 0, .int .u64 0, .int .u64 0, .int .u64 0, .int .u64 0, .int .u64 0, .int .u64 0, .int .u64 0]) Hq rfl rfl rfl (by kernel_rfl) (by kernel_rfl)) (by kernel_rfl) ?_
   have ei : isE b = false := no_3 ((od_1 b).1 hp1362) Eh
   exact ⟨(show _ = Ending.returned (.tuple #[.agg (zg (zh (zd 16 0))), .bool false]) from by kernel_rfl).trans (ret_to (to_no ei) ei.symm), Hq.pk []⟩
  replace Eh : ¬ ((nd (rE (yE b))) = ([0, 0, 0, 0] : List UInt64)) := ne_of_beq_false Eh
  refine wp_skip <| ze <| wp_seq <| wp_seq <| d_r [1,2,3,4,5,6,7,8,57] [] ED fun _ EE => ?_
  refine ze <| c_e ((ZJ ((za b 31 0) >>> zK 7) : Nat) : Int) (1 : Int) EE (fun Hr => ?_) (fun Hr => ?_)
  ·
   refine zk <| f_o <| Zp 5 4 (zh (nd (rE (yE b)))) EE Eg rfl (zf (zl _ _)) fun _ a9 => f_o <| c_p a9 Eg (neg_go _ 1 h1f (nd (rE (yE b))) (zl _ _)) fun _ _ ba bb => f_o <| zQ 5 4 (zh (nd (z7 1 0 (nv (nd (rE (yE b))))))) _ ba bb rfl (zf (zl _ _)) (zf (zl _ _)) (zt _) rfl fun _ _ bc Hs => ?_
   refine f_e <| ze <| wp_seq <| r_c (fun ac wo => Env ac 67 [(1, pt Ef), (2, pt Ee), (3, .bool true), (4, bv ((za b 31 0) >>> zK 7)), (5, pt Ec), (6, pt Eb), (7, pt Ea), (8, pt Ed)] ∧ Ev w [] wo [.box Ef (bys (zp b 31 ((za b 31 0) &&& (127 : UInt8)))) 22, .box Ee ((zh (nd (z7 1 0 (nv (nd (rE (yE b))))))) ++ ((zh (nd (yE b))) ++ ((zh ([1, 0, 0, 0] : List UInt64)) ++ (zh (nd (zr 1 (nv (nd (z7 1 0 (nv (nd (rE (yE b))))))) (nv (nd (yE b))))))))) 37, .box Ec (zh (nd (yE b))) 33, .box Eb (zh (nd (zr 1 (nv (nd (yE b))) (nv (nd (yE b)))))) 33, .box Ea (zh (nd DN)) 33, .box Ed (zh (nd (z7 1 0 (nv (nd (rE (yE b))))))) 33]) ?_ ?_
   ·
    refine s_g0 [(1, pt Ef), (2, pt Ee), (3, .bool false), (4, bv ((za b 31 0) >>> zK 7)), (5, pt Ec), (6, pt Eb), (7, pt Ea), (8, pt Ed)] [0,1,2,3,4,5,6] [(60, .agg (zg (zh (nd (z7 1 0 (nv (nd (rE (yE b))))))))), (61, .agg (zg (zh (nd (yE b))))), (62, .agg (zg (zh ([1, 0, 0, 0] : List UInt64)))), (63, .agg (zg (zh (nd (z7 1 0 (nv (nd (rE (yE b))))))))), (64, .agg (zg (zh (nd (yE b))))), (65, .agg (zg (zh (nd (zr 1 (nv (nd (z7 1 0 (nv (nd (rE (yE b))))))) (nv (nd (yE b)))))))), (66, .agg (zg ((zh (nd (z7 1 0 (nv (nd (rE (yE b))))))) ++ ((zh (nd (yE b))) ++ ((zh ([1, 0, 0, 0] : List UInt64)) ++ (zh (nd (zr 1 (nv (nd (z7 1 0 (nv (nd (rE (yE b))))))) (nv (nd (yE b)))))))))))] 2 [(1, pt Ef), (2, pt Ee), (3, .bool false), (4, bv ((za b 31 0) >>> zK 7)), (5, pt Ec), (6, pt Eb), (7, pt Ea), (8, pt Ed), (66, .agg (zg ((zh (nd (z7 1 0 (nv (nd (rE (yE b))))))) ++ ((zh (nd (yE b))) ++ ((zh ([1, 0, 0, 0] : List UInt64)) ++ (zh (nd (zr 1 (nv (nd (z7 1 0 (nv (nd (rE (yE b))))))) (nv (nd (yE b)))))))))))] (bc.sb) (Hs.trans (zO Hs.heap)) ?_ fun _ _ bd be => ?_
    ·
     refine s_a 5 0 4 (zh (nd (z7 1 0 (nv (nd (rE (yE b))))))) rfl (zq (zf (zl _ _))) (zf (zl _ _)) ?_
     refine s_a 2 0 4 (zh (nd (yE b))) rfl (zq (zf (zl _ _))) (zf (zl _ _)) ?_
     refine s_p [] ?_
     refine s_a 5 0 4 (zh (nd (z7 1 0 (nv (nd (rE (yE b))))))) rfl (zq (zf (zl _ _))) (zf (zl _ _)) ?_
     refine s_a 2 0 4 (zh (nd (yE b))) rfl (zq (zf (zl _ _))) (zf (zl _ _)) ?_
     refine s_f (fun _ => QD _ (nd (z7 1 0 (nv (nd (rE (yE b)))))) (nd (yE b)) (zl _ _) (zl _ _)) ?_
     refine s_p [] ?_
     exact s_n
    refine q_u 7 ?_
    refine zQ 1 16 ((zh (nd (z7 1 0 (nv (nd (rE (yE b))))))) ++ ((zh (nd (yE b))) ++ ((zh ([1, 0, 0, 0] : List UInt64)) ++ (zh (nd (zr 1 (nv (nd (z7 1 0 (nv (nd (rE (yE b))))))) (nv (nd (yE b))))))))) [.box Ef (bys (zp b 31 ((za b 31 0) &&& (127 : UInt8)))) 22, .box Ee ((zh (nd (z7 1 0 (nv (nd (rE (yE b))))))) ++ ((zh (nd (yE b))) ++ ((zh ([1, 0, 0, 0] : List UInt64)) ++ (zh (nd (zr 1 (nv (nd (z7 1 0 (nv (nd (rE (yE b))))))) (nv (nd (yE b))))))))) 37, .box Ec (zh (nd (yE b))) 33, .box Eb (zh (nd (zr 1 (nv (nd (yE b))) (nv (nd (yE b)))))) 33, .box Ea (zh (nd DN)) 33, .box Ed (zh (nd (z7 1 0 (nv (nd (rE (yE b))))))) 33] bd be rfl (zE (zf (zl _ _)) (zE (zf (zl _ _)) (zE (zf (show zb ([1, 0, 0, 0] : List UInt64) = 4 from rfl)) (zf (zl _ _))))) (zE (zf (zi)) (zE (zf (zi)) (zE (zf (zi)) (zf (zi))))) (QB (zt _) (QB (zt _) (QB (zt _) (zt _)))) rfl fun _ _ bf bg => q_a [8] [] 0 bf fun _ bh => ?_
    exact a_e ⟨bh.sb, bg.pk [0, 1, 2, 3, 4, 5]⟩
   rintro _ _ ⟨bi, Ht⟩
   refine ze <| wp_ret <| Z6 (v := .agg (zg ((zh (nd (z7 1 0 (nv (nd (rE (yE b))))))) ++ ((zh (nd (yE b))) ++ ((zh ([1, 0, 0, 0] : List UInt64)) ++ (zh (nd (zr 1 (nv (nd (z7 1 0 (nv (nd (rE (yE b))))))) (nv (nd (yE b))))))))))) (x := .bool true) (t := 2) (T := 37) (ad := ⟨Ee, 0, none⟩) (u := 3) bi (by kernel_rfl) (by kernel_rfl) (zB (t := 37) (k := 1) (off := 0) (m := 16) (xs := (zh (nd (z7 1 0 (nv (nd (rE (yE b))))))) ++ ((zh (nd (yE b))) ++ ((zh ([1, 0, 0, 0] : List UInt64)) ++ (zh (nd (zr 1 (nv (nd (z7 1 0 (nv (nd (rE (yE b))))))) (nv (nd (yE b))))))))) Ht rfl (zq (zE (zf (zl _ _)) (zE (zf (zl _ _)) (zE (zf (show zb ([1, 0, 0, 0] : List UInt64) = 4 from rfl)) (zf (zl _ _)))))) (zE (zf (zl _ _)) (zE (zf (zl _ _)) (zE (zf (show zb ([1, 0, 0, 0] : List UInt64) = 4 from rfl)) (zf (zl _ _))))) (by kernel_rfl) (by kernel_rfl)) (by kernel_rfl) ?_
   have ho := (od_1 b).1 hp1362
   have ei : isE b = true := is_yes (by rw [← nv_y hb]; exact El) hp1357 (fun _ => Eh)
   exact ⟨by rw [cat16]; exact ret_to ((pt_odd hb ho).trans (to_yes ei)) ei.symm, Ht.pk []⟩
  refine wp_skip <| ze <| wp_seq <| r_c (fun ac wo => Env ac 67 [(1, pt Ef), (2, pt Ee), (3, .bool true), (4, bv ((za b 31 0) >>> zK 7)), (5, pt Ec), (6, pt Eb), (7, pt Ea), (8, pt Ed)] ∧ Ev w [] wo [.box Ef (bys (zp b 31 ((za b 31 0) &&& (127 : UInt8)))) 22, .box Ee ((zh (nd (rE (yE b)))) ++ ((zh (nd (yE b))) ++ ((zh ([1, 0, 0, 0] : List UInt64)) ++ (zh (nd (zr 1 (nv (nd (rE (yE b)))) (nv (nd (yE b))))))))) 37, .box Ec (zh (nd (yE b))) 33, .box Eb (zh (nd (zr 1 (nv (nd (yE b))) (nv (nd (yE b)))))) 33, .box Ea (zh (nd DN)) 33, .box Ed (zh (nd (rE (yE b)))) 33]) ?_ ?_
  ·
   refine s_g0 [(1, pt Ef), (2, pt Ee), (3, .bool false), (4, bv ((za b 31 0) >>> zK 7)), (5, pt Ec), (6, pt Eb), (7, pt Ea), (8, pt Ed)] [0,1,2,3,4,5,6] [(60, .agg (zg (zh (nd (rE (yE b)))))), (61, .agg (zg (zh (nd (yE b))))), (62, .agg (zg (zh ([1, 0, 0, 0] : List UInt64)))), (63, .agg (zg (zh (nd (rE (yE b)))))), (64, .agg (zg (zh (nd (yE b))))), (65, .agg (zg (zh (nd (zr 1 (nv (nd (rE (yE b)))) (nv (nd (yE b)))))))), (66, .agg (zg ((zh (nd (rE (yE b)))) ++ ((zh (nd (yE b))) ++ ((zh ([1, 0, 0, 0] : List UInt64)) ++ (zh (nd (zr 1 (nv (nd (rE (yE b)))) (nv (nd (yE b)))))))))))] 2 [(1, pt Ef), (2, pt Ee), (3, .bool false), (4, bv ((za b 31 0) >>> zK 7)), (5, pt Ec), (6, pt Eb), (7, pt Ea), (8, pt Ed), (66, .agg (zg ((zh (nd (rE (yE b)))) ++ ((zh (nd (yE b))) ++ ((zh ([1, 0, 0, 0] : List UInt64)) ++ (zh (nd (zr 1 (nv (nd (rE (yE b)))) (nv (nd (yE b)))))))))))] (EE.sb) (Eg.trans (zO Eg.heap)) ?_ fun _ _ bj bk => ?_
   ·
    refine s_a 5 0 4 (zh (nd (rE (yE b)))) rfl (zq (zf (zl _ _))) (zf (zl _ _)) ?_
    refine s_a 2 0 4 (zh (nd (yE b))) rfl (zq (zf (zl _ _))) (zf (zl _ _)) ?_
    refine s_p [] ?_
    refine s_a 5 0 4 (zh (nd (rE (yE b)))) rfl (zq (zf (zl _ _))) (zf (zl _ _)) ?_
    refine s_a 2 0 4 (zh (nd (yE b))) rfl (zq (zf (zl _ _))) (zf (zl _ _)) ?_
    refine s_f (fun _ => QD _ (nd (rE (yE b))) (nd (yE b)) (zl _ _) (zl _ _)) ?_
    refine s_p [] ?_
    exact s_n
   refine q_u 7 ?_
   refine zQ 1 16 ((zh (nd (rE (yE b)))) ++ ((zh (nd (yE b))) ++ ((zh ([1, 0, 0, 0] : List UInt64)) ++ (zh (nd (zr 1 (nv (nd (rE (yE b)))) (nv (nd (yE b))))))))) _ bj bk rfl (zE (zf (zl _ _)) (zE (zf (zl _ _)) (zE (zf (show zb ([1, 0, 0, 0] : List UInt64) = 4 from rfl)) (zf (zl _ _))))) (zE (zf (zi)) (zE (zf (zi)) (zE (zf (zi)) (zf (zi))))) (QB (zt _) (QB (zt _) (QB (zt _) (zt _)))) rfl fun _ _ bl bm => q_a [8] [] 0 bl fun _ bn => ?_
   exact a_e ⟨bn.sb, bm.pk [0, 1, 2, 3, 4, 5]⟩
  rintro _ _ ⟨bo, bp⟩
  refine ze <| wp_ret <| Z6 (v := .agg (zg ((zh (nd (rE (yE b)))) ++ ((zh (nd (yE b))) ++ ((zh ([1, 0, 0, 0] : List UInt64)) ++ (zh (nd (zr 1 (nv (nd (rE (yE b)))) (nv (nd (yE b))))))))))) (x := .bool true) (t := 2) (T := 37) (ad := ⟨Ee, 0, none⟩) (u := 3) bo (by kernel_rfl) (by kernel_rfl) (zB (t := 37) (k := 1) (off := 0) (m := 16) (xs := (zh (nd (rE (yE b)))) ++ ((zh (nd (yE b))) ++ ((zh ([1, 0, 0, 0] : List UInt64)) ++ (zh (nd (zr 1 (nv (nd (rE (yE b)))) (nv (nd (yE b))))))))) bp rfl (zq (zE (zf (zl _ _)) (zE (zf (zl _ _)) (zE (zf (show zb ([1, 0, 0, 0] : List UInt64) = 4 from rfl)) (zf (zl _ _)))))) (zE (zf (zl _ _)) (zE (zf (zl _ _)) (zE (zf (show zb ([1, 0, 0, 0] : List UInt64) = 4 from rfl)) (zf (zl _ _))))) (by kernel_rfl) (by kernel_rfl)) (by kernel_rfl) ?_
  exact absurd hp1362 Hr
 have bq := Hp.fx (t := 49) (congrArg Value.bool Ek)
 have hp1495 : ¬ (((ZJ ((za b 31 0) >>> zK 7) : Nat) : Int) = (1 : Int)) := ne_of_beq_false Ek
 refine d_e [1,2,3,4,5,6,7,8,54] [] bq fun _ Hu => ze <| c_f Hu ?_
 refine wp_skip <| ze <| wp_seq <| wp_seq <| d_r [1,2,3,4,5,6,7,8,57] [] Hu fun _ EF => ?_
 refine ze <| c_e ((ZJ ((za b 31 0) >>> zK 7) : Nat) : Int) (1 : Int) EF (fun Hv => ?_) (fun Hv => ?_)
 ·
  refine zk <| f_o <| Zp 5 4 (zh (nd (rE (yE b)))) EF Eg rfl (zf (zl _ _)) fun _ br => f_o <| c_p br Eg (neg_go _ 1 h1f (nd (rE (yE b))) (zl _ _)) fun _ _ bs bt => f_o <| zQ 5 4 (zh (nd (z7 1 0 (nv (nd (rE (yE b))))))) [.box Ef (bys (zp b 31 ((za b 31 0) &&& (127 : UInt8)))) 22, .box Ee ((zh (zd 4 0)) ++ ((zh (zd 4 0)) ++ ((zh (zd 4 0)) ++ (zh (zd 4 0))))) 37, .box Ec (zh (nd (yE b))) 33, .box Eb (zh (nd (zr 1 (nv (nd (yE b))) (nv (nd (yE b)))))) 33, .box Ea (zh (nd DN)) 33, .box Ed (zh (nd (z7 1 0 (nv (nd (rE (yE b))))))) 33] bs bt rfl (zf (zl _ _)) (zf (zl _ _)) (zt _) rfl fun _ _ bu Hw => ?_
  refine f_e <| ze <| wp_seq <| r_c (fun ac wo => Env ac 67 [(1, pt Ef), (2, pt Ee), (3, .bool true), (4, bv ((za b 31 0) >>> zK 7)), (5, pt Ec), (6, pt Eb), (7, pt Ea), (8, pt Ed)] ∧ Ev w [] wo [.box Ef (bys (zp b 31 ((za b 31 0) &&& (127 : UInt8)))) 22, .box Ee ((zh (nd (z7 1 0 (nv (nd (rE (yE b))))))) ++ ((zh (nd (yE b))) ++ ((zh ([1, 0, 0, 0] : List UInt64)) ++ (zh (nd (zr 1 (nv (nd (z7 1 0 (nv (nd (rE (yE b))))))) (nv (nd (yE b))))))))) 37, .box Ec (zh (nd (yE b))) 33, .box Eb (zh (nd (zr 1 (nv (nd (yE b))) (nv (nd (yE b)))))) 33, .box Ea (zh (nd DN)) 33, .box Ed (zh (nd (z7 1 0 (nv (nd (rE (yE b))))))) 33]) ?_ ?_
  ·
   refine s_g0 [(1, pt Ef), (2, pt Ee), (3, .bool false), (4, bv ((za b 31 0) >>> zK 7)), (5, pt Ec), (6, pt Eb), (7, pt Ea), (8, pt Ed)] [0,1,2,3,4,5,6] [(60, .agg (zg (zh (nd (z7 1 0 (nv (nd (rE (yE b))))))))), (61, .agg (zg (zh (nd (yE b))))), (62, .agg (zg (zh ([1, 0, 0, 0] : List UInt64)))), (63, .agg (zg (zh (nd (z7 1 0 (nv (nd (rE (yE b))))))))), (64, .agg (zg (zh (nd (yE b))))), (65, .agg (zg (zh (nd (zr 1 (nv (nd (z7 1 0 (nv (nd (rE (yE b))))))) (nv (nd (yE b)))))))), (66, .agg (zg ((zh (nd (z7 1 0 (nv (nd (rE (yE b))))))) ++ ((zh (nd (yE b))) ++ ((zh ([1, 0, 0, 0] : List UInt64)) ++ (zh (nd (zr 1 (nv (nd (z7 1 0 (nv (nd (rE (yE b))))))) (nv (nd (yE b)))))))))))] 2 [(1, pt Ef), (2, pt Ee), (3, .bool false), (4, bv ((za b 31 0) >>> zK 7)), (5, pt Ec), (6, pt Eb), (7, pt Ea), (8, pt Ed), (66, .agg (zg ((zh (nd (z7 1 0 (nv (nd (rE (yE b))))))) ++ ((zh (nd (yE b))) ++ ((zh ([1, 0, 0, 0] : List UInt64)) ++ (zh (nd (zr 1 (nv (nd (z7 1 0 (nv (nd (rE (yE b))))))) (nv (nd (yE b)))))))))))] (bu.sb) (Hw.trans (zO Hw.heap)) ?_ fun _ _ bw bx => ?_
   ·
    refine s_a 5 0 4 (zh (nd (z7 1 0 (nv (nd (rE (yE b))))))) rfl (zq (zf (zl _ _))) (zf (zl _ _)) ?_
    refine s_a 2 0 4 (zh (nd (yE b))) rfl (zq (zf (zl _ _))) (zf (zl _ _)) ?_
    refine s_p [] ?_
    refine s_a 5 0 4 (zh (nd (z7 1 0 (nv (nd (rE (yE b))))))) rfl (zq (zf (zl _ _))) (zf (zl _ _)) ?_
    refine s_a 2 0 4 (zh (nd (yE b))) rfl (zq (zf (zl _ _))) (zf (zl _ _)) ?_
    refine s_f (fun _ => QD _ (nd (z7 1 0 (nv (nd (rE (yE b)))))) (nd (yE b)) (zl _ _) (zl _ _)) ?_
    refine s_p [] ?_
    exact s_n
   refine q_u 7 ?_
   refine zQ 1 16 ((zh (nd (z7 1 0 (nv (nd (rE (yE b))))))) ++ ((zh (nd (yE b))) ++ ((zh ([1, 0, 0, 0] : List UInt64)) ++ (zh (nd (zr 1 (nv (nd (z7 1 0 (nv (nd (rE (yE b))))))) (nv (nd (yE b))))))))) _ bw bx rfl (zE (zf (zl _ _)) (zE (zf (zl _ _)) (zE (zf (show zb ([1, 0, 0, 0] : List UInt64) = 4 from rfl)) (zf (zl _ _))))) (zE (zf (zi)) (zE (zf (zi)) (zE (zf (zi)) (zf (zi))))) (QB (zt _) (QB (zt _) (QB (zt _) (zt _)))) rfl fun _ _ bz bA => q_a [8] [] 0 bz fun _ bB => ?_
   exact a_e ⟨bB.sb, bA.pk [0, 1, 2, 3, 4, 5]⟩
  rintro _ _ ⟨bC, bD⟩
  refine ze <| wp_ret <| Z6 (v := .agg (zg ((zh (nd (z7 1 0 (nv (nd (rE (yE b))))))) ++ ((zh (nd (yE b))) ++ ((zh ([1, 0, 0, 0] : List UInt64)) ++ (zh (nd (zr 1 (nv (nd (z7 1 0 (nv (nd (rE (yE b))))))) (nv (nd (yE b))))))))))) (x := .bool true) (t := 2) (T := 37) (ad := ⟨Ee, 0, none⟩) (u := 3) bC (by kernel_rfl) (by kernel_rfl) (zB (t := 37) (k := 1) (off := 0) (m := 16) (xs := (zh (nd (z7 1 0 (nv (nd (rE (yE b))))))) ++ ((zh (nd (yE b))) ++ ((zh ([1, 0, 0, 0] : List UInt64)) ++ (zh (nd (zr 1 (nv (nd (z7 1 0 (nv (nd (rE (yE b))))))) (nv (nd (yE b))))))))) bD rfl (zq (zE (zf (zl _ _)) (zE (zf (zl _ _)) (zE (zf (show zb ([1, 0, 0, 0] : List UInt64) = 4 from rfl)) (zf (zl _ _)))))) (zE (zf (zl _ _)) (zE (zf (zl _ _)) (zE (zf (show zb ([1, 0, 0, 0] : List UInt64) = 4 from rfl)) (zf (zl _ _))))) (by kernel_rfl) (by kernel_rfl)) (by kernel_rfl) ?_
  exact absurd Hv hp1495
 refine wp_skip <| ze <| wp_seq <| r_c (fun ac wo => Env ac 67 [(1, pt Ef), (2, pt Ee), (3, .bool true), (4, bv ((za b 31 0) >>> zK 7)), (5, pt Ec), (6, pt Eb), (7, pt Ea), (8, pt Ed)] ∧ Ev w [] wo [.box Ef (bys (zp b 31 ((za b 31 0) &&& (127 : UInt8)))) 22, .box Ee ((zh (nd (rE (yE b)))) ++ ((zh (nd (yE b))) ++ ((zh ([1, 0, 0, 0] : List UInt64)) ++ (zh (nd (zr 1 (nv (nd (rE (yE b)))) (nv (nd (yE b))))))))) 37, .box Ec (zh (nd (yE b))) 33, .box Eb (zh (nd (zr 1 (nv (nd (yE b))) (nv (nd (yE b)))))) 33, .box Ea (zh (nd DN)) 33, .box Ed (zh (nd (rE (yE b)))) 33]) ?_ ?_
 ·
  refine s_g0 [(1, pt Ef), (2, pt Ee), (3, .bool false), (4, bv ((za b 31 0) >>> zK 7)), (5, pt Ec), (6, pt Eb), (7, pt Ea), (8, pt Ed)] [0,1,2,3,4,5,6] [(60, .agg (zg (zh (nd (rE (yE b)))))), (61, .agg (zg (zh (nd (yE b))))), (62, .agg (zg (zh ([1, 0, 0, 0] : List UInt64)))), (63, .agg (zg (zh (nd (rE (yE b)))))), (64, .agg (zg (zh (nd (yE b))))), (65, .agg (zg (zh (nd (zr 1 (nv (nd (rE (yE b)))) (nv (nd (yE b)))))))), (66, .agg (zg ((zh (nd (rE (yE b)))) ++ ((zh (nd (yE b))) ++ ((zh ([1, 0, 0, 0] : List UInt64)) ++ (zh (nd (zr 1 (nv (nd (rE (yE b)))) (nv (nd (yE b)))))))))))] 2 [(1, pt Ef), (2, pt Ee), (3, .bool false), (4, bv ((za b 31 0) >>> zK 7)), (5, pt Ec), (6, pt Eb), (7, pt Ea), (8, pt Ed), (66, .agg (zg ((zh (nd (rE (yE b)))) ++ ((zh (nd (yE b))) ++ ((zh ([1, 0, 0, 0] : List UInt64)) ++ (zh (nd (zr 1 (nv (nd (rE (yE b)))) (nv (nd (yE b)))))))))))] (EF.sb) (Eg.trans (zO Eg.heap)) ?_ fun _ _ bE bF => ?_
  ·
   refine s_a 5 0 4 (zh (nd (rE (yE b)))) rfl (zq (zf (zl _ _))) (zf (zl _ _)) ?_
   refine s_a 2 0 4 (zh (nd (yE b))) rfl (zq (zf (zl _ _))) (zf (zl _ _)) ?_
   refine s_p [] ?_
   refine s_a 5 0 4 (zh (nd (rE (yE b)))) rfl (zq (zf (zl _ _))) (zf (zl _ _)) ?_
   refine s_a 2 0 4 (zh (nd (yE b))) rfl (zq (zf (zl _ _))) (zf (zl _ _)) ?_
   refine s_f (fun _ => QD _ (nd (rE (yE b))) (nd (yE b)) (zl _ _) (zl _ _)) ?_
   refine s_p [] ?_
   exact s_n
  refine q_u 7 ?_
  refine zQ 1 16 ((zh (nd (rE (yE b)))) ++ ((zh (nd (yE b))) ++ ((zh ([1, 0, 0, 0] : List UInt64)) ++ (zh (nd (zr 1 (nv (nd (rE (yE b)))) (nv (nd (yE b))))))))) [.box Ef (bys (zp b 31 ((za b 31 0) &&& (127 : UInt8)))) 22, .box Ee ((zh (nd (rE (yE b)))) ++ ((zh (nd (yE b))) ++ ((zh ([1, 0, 0, 0] : List UInt64)) ++ (zh (nd (zr 1 (nv (nd (rE (yE b)))) (nv (nd (yE b))))))))) 37, .box Ec (zh (nd (yE b))) 33, .box Eb (zh (nd (zr 1 (nv (nd (yE b))) (nv (nd (yE b)))))) 33, .box Ea (zh (nd DN)) 33, .box Ed (zh (nd (rE (yE b)))) 33] bE bF rfl (zE (zf (zl _ _)) (zE (zf (zl _ _)) (zE (zf (show zb ([1, 0, 0, 0] : List UInt64) = 4 from rfl)) (zf (zl _ _))))) (zE (zf (zi)) (zE (zf (zi)) (zE (zf (zi)) (zf (zi))))) (QB (zt _) (QB (zt _) (QB (zt _) (zt _)))) rfl fun _ _ bG bH => q_a [8] [] 0 bG fun _ bI => ?_
  exact a_e ⟨bI.sb, bH.pk [0, 1, 2, 3, 4, 5]⟩
 rintro _ _ ⟨bJ, Hx⟩
 refine ze <| wp_ret <| Z6 (v := .agg (zg ((zh (nd (rE (yE b)))) ++ ((zh (nd (yE b))) ++ ((zh ([1, 0, 0, 0] : List UInt64)) ++ (zh (nd (zr 1 (nv (nd (rE (yE b)))) (nv (nd (yE b))))))))))) (x := .bool true) (t := 2) (T := 37) (ad := ⟨Ee, 0, none⟩) (u := 3) bJ (by kernel_rfl) (by kernel_rfl) (zB (t := 37) (k := 1) (off := 0) (m := 16) (xs := (zh (nd (rE (yE b)))) ++ ((zh (nd (yE b))) ++ ((zh ([1, 0, 0, 0] : List UInt64)) ++ (zh (nd (zr 1 (nv (nd (rE (yE b)))) (nv (nd (yE b))))))))) Hx rfl (zq (zE (zf (zl _ _)) (zE (zf (zl _ _)) (zE (zf (show zb ([1, 0, 0, 0] : List UInt64) = 4 from rfl)) (zf (zl _ _)))))) (zE (zf (zl _ _)) (zE (zf (zl _ _)) (zE (zf (show zb ([1, 0, 0, 0] : List UInt64) = 4 from rfl)) (zf (zl _ _))))) (by kernel_rfl) (by kernel_rfl)) (by kernel_rfl) ?_
 have ho : odE b = false := Yq.2 (fun g => hp1495 ((od_1 b).2 g))
 have ei : isE b = true := is_yes (by rw [← nv_y hb]; exact El) hp1357 (fun g => absurd ((od_1 b).2 g) hp1495)
 exact ⟨by rw [cat16]; exact ret_to ((pt_even hb ho).trans (to_yes ei)) ei.symm, Hx.pk []⟩
end Go.Proofs.YtlnogkmnklfjlaaGreatDoor

namespace Go.Proofs.YtlnogkmnklfjlaaGreatDoor
open Go.Dbr
set_option maxRecDepth 100000
set_option maxHeartbeats 2000000
set_option linter.unusedVariables false
set_option linter.unusedSimpArgs false
theorem base_toL : toL baseB = YD := by rw [toL, base_pt.1, base_y.1, base_y.2]; rfl
theorem base_told (w : World) : Calls Tryz.prog 29 #[.agg #[.int .u8 88, .int .u8 102, .int .u8 102, .int .u8 102, .int .u8 102, .int .u8 102, .int .u8 102, .int .u8 102, .int .u8 102, .int .u8 102, .int .u8 102, .int .u8 102, .int .u8 102, .int .u8 102, .int .u8 102, .int .u8 102, .int .u8 102, .int .u8 102, .int .u8 102, .int .u8 102, .int .u8 102, .int .u8 102, .int .u8 102, .int .u8 102, .int .u8 102, .int .u8 102, .int .u8 102, .int .u8 102, .int .u8 102, .int .u8 102, .int .u8 102, .int .u8 102]] w fun e w' => e = .returned (.tuple #[.agg (zg (zh YD)), .bool (isE baseB)]) ∧ Ev w [] w' [] := by
  have h := told_go w baseB rfl
  rw [base_toL] at h
  exact h
theorem base_go (w : World) : Calls Tryz.prog 13 #[] w fun e w' => e = .returned (.agg (zg (zh YD))) ∧ Ev w [] w' [] := by
 refine d_0 [] 9 Go.Proofs.Tryz.func13 Go.Proofs.Tryz.ntmps13 (Heap.nil _) fun En Eo Ep => wp_seq <| zk <| f_o <| m_z 37 ((zh (zd 4 0)) ++ ((zh (zd 4 0)) ++ ((zh (zd 4 0)) ++ (zh (zd 4 0))))) Eo Ep fun _ _ Em Eq Er => f_e <| ze <| wp_seq <| zk <| d_k [0,4] [] 1 Eq fun _ Es => f_o <| c_p Es Er (base_told _) fun _ _ Ec Ed => ?_
 refine d_k [0,6,7] [] 5 Ec fun _ Ee => f_o <| m_z 37 ((zh (zd 4 0)) ++ ((zh (zd 4 0)) ++ ((zh (zd 4 0)) ++ (zh (zd 4 0))))) Ee Ed fun _ _ Ef Eg Eh => f_o <| zQ 1 16 (zh YD) _ Eg Eh rfl (zf (Xi _ _)) (zE (zf (zi)) (zE (zf (zi)) (zE (zf (zi)) (zf (zi))))) (zt _) rfl fun _ _ Ei Ea => d_e [0,1] [] Ei fun _ Ej => ?_
 refine ze <| wp_seq <| zk <| f_o <| Zp 1 16 (zh YD) Ej Ea rfl (zf (Xi _ _)) fun _ Ek => f_o <| zQ 0 16 (zh YD) [.box Em (zh YD) 37, .box Ef (zh YD) 37] Ek Ea rfl (zf (Xi _ _)) (zE (zf (zi)) (zE (zf (zi)) (zE (zf (zi)) (zf (zi))))) (zt _) rfl fun _ _ El Eb => f_e <| ze <| wp_ret <| d_cell1 (v := .agg (zg (zh YD))) (t := 0) (T := 37) (ad := ⟨Em, 0, none⟩) El (by kernel_rfl) (by kernel_rfl) (zB (t := 37) (k := 0) (off := 0) (m := 16) (xs := zh YD) Eb rfl (zq (zf (Xi _ _))) (zf (Xi _ _)) (by kernel_rfl) (by kernel_rfl)) ?_
 exact ⟨rfl, Eb.pk []⟩
theorem dinv_go (w : World) (a : List UInt64) (ha : zb a = 4) : Calls Tryz.prog 46 #[.agg (zg (zh a))] w fun e w' => e = .returned (.agg (zg (zh (nd (zJ 1 (nv a) (mF 1 - 2)))))) ∧ Ev w [] w' [] := by
 refine d_0 [(0, .agg (zg (zh a)))] 5 Go.Proofs.Tryz.func46 Go.Proofs.Tryz.ntmps46 (Heap.nil _) fun Eg Eh Ei => wp_seq <| zk <| f_o <| m_m 33 (zh a) Eh Ei fun _ _ En Ej Ek => f_o <| m_z 33 (zh (zd 4 0)) Ej Ek fun _ _ El Em Ea => f_e <| ze <| wp_seq <| zk <| f_o <| Zp 0 4 (zh a) Em Ea rfl (zf ha) fun _ Ec => ?_
 refine f_o <| c_p Ec Ea (rinv_go _ 1 h1f hR1 a ha) fun _ _ Ed Ee => f_o <| zQ 1 4 (zh (nd (zJ 1 (nv a) (mF 1 - 2)))) _ Ed Ee rfl (zf (zl _ _)) (zf (zi)) (zt _) rfl fun _ _ Ef Eb => f_e <| ze <| wp_ret <| d_cell1 (v := .agg (zg (zh (nd (zJ 1 (nv a) (mF 1 - 2)))))) (t := 2) (T := 33) (ad := ⟨El, 0, none⟩) Ef (by kernel_rfl) (by kernel_rfl) (zB (t := 33) (k := 1) (off := 0) (m := 4) (xs := zh (nd (zJ 1 (nv a) (mF 1 - 2)))) Eb rfl (zq (zf (zl _ _))) (zf (zl _ _)) (by kernel_rfl) (by kernel_rfl)) ?_
 exact ⟨rfl, Eb.pk []⟩
theorem d_txt : nd (zr 1 (nv (nd (z7 1 (nv [0, 0, 0, 0]) (nv [121665, 0, 0, 0])))) (nv (nd (zJ 1 (nv [121666, 0, 0, 0]) (mF 1 - 2))))) = nd DN := by
  rw [nv_iv, nv_s1, show nv [121666, 0, 0, 0] = 121666 from rfl, ivE_pw]
  exact congrArg nd (by decide +kernel)
theorem cat12 (a b c : L4) : zh a ++ (zh b ++ zh c) = zh (a ++ (b ++ c)) := by
  unfold zh
  rw [ZI, ZI]
def wiD (y : Nat) (odd : Bool) : L4 := bif JH y odd then ptD y odd else zd 12 0
theorem wx_2 {y : Nat} {o : Bool} (h : QW 1 (tA y) = false) : JH y o = false := by rw [JH, h, XP]
theorem wx_3 {y : Nat} {o : Bool} (h : o = true) (h2 : nd (rE y) = zd 4 0) : JH y o = false := by
  have := rE_0 y
  rw [h2] at this
  rw [JH, h, ← this]
  simp
theorem wx_yes {y : Nat} {o : Bool} (h1 : QW 1 (tA y) = true) (h2 : o = true → ¬ nd (rE y) = zd 4 0) : JH y o = true := by
  rw [JH, h1, Yt]
  cases g : o with
  | false => rfl
  | true =>
    rw [Yt, ← rE_0, beq_false_of_ne (h2 g)]
    rfl
theorem wi_no {y : Nat} {o : Bool} (h : JH y o = false) : zd 12 0 = wiD y o := by rw [wiD, h]; first | rw [QT] | rw [Q5]
theorem wi_yes {y : Nat} {o : Bool} (h : JH y o = true) : ptD y o = wiD y o := by rw [wiD, h]; first | rw [QT] | rw [Q5]
theorem ret_wi {a b : L4} {s t : Bool} (h1 : a = b) (h2 : s = t) : Ending.returned (.tuple #[.agg (zg (zh a)), .bool s]) = Ending.returned (.tuple #[.agg (zg (zh b)), .bool t]) := by rw [h1, h2]
theorem wt_even {y : Nat} {o : Bool} (hy : nv (nd y) = y) (h : o = false) : nd (rE y) ++ (nd y ++ [1, 0, 0, 0]) = ptD y o := by
  rw [ptD, h, xE_f, l3]
  rfl
theorem wt_odd {y : Nat} {o : Bool} (hy : nv (nd y) = y) (h : o = true) : nd (z7 1 (nv [0, 0, 0, 0]) (nv (nd (rE y)))) ++ (nd y ++ [1, 0, 0, 0]) = ptD y o := by
  rw [rE_nv, ptD, h, xE_t, l3]
  rfl
theorem dd_go (w : World) : Calls Tryz.prog 16 #[] w fun e w' => e = .returned (.agg (zg (zh (nd DN)))) ∧ Ev w [] w' [] := by
 refine d_0 [] 7 Go.Proofs.Tryz.func16 Go.Proofs.Tryz.ntmps16 (Heap.nil _) fun Ej Ek El => wp_seq <| zk <| f_o <| m_z 33 (zh (zd 4 0)) Ek El fun _ _ Em En Eo => f_e <| ze <| wp_seq <| zk <| d_k [0,1,2] [] 2 En fun _ Ep => f_o <| c_p Ep Eo (dsub_go _ ([0, 0, 0, 0] : List UInt64) ([121665, 0, 0, 0] : List UInt64) (show zb ([0, 0, 0, 0] : List UInt64) = 4 from rfl) (show zb ([121665, 0, 0, 0] : List UInt64) = 4 from rfl)) fun _ _ Eb Ec => ?_
 refine d_k [0,3,4] [] 4 Eb fun _ Ed => f_o <| c_p Ed Ec (dinv_go _ ([121666, 0, 0, 0] : List UInt64) (show zb ([121666, 0, 0, 0] : List UInt64) = 4 from rfl)) fun _ _ Ee Ef => f_o <| c_p Ee Ef (QP _ (nd (z7 1 (nv ([0, 0, 0, 0] : List UInt64)) (nv ([121665, 0, 0, 0] : List UInt64)))) (nd (zJ 1 (nv ([121666, 0, 0, 0] : List UInt64)) (mF 1 - 2))) (zl _ _) (zl _ _)) fun _ _ Eg Eh => f_o <| zQ 0 4 (zh (nd (zr 1 (nv (nd (z7 1 (nv ([0, 0, 0, 0] : List UInt64)) (nv ([121665, 0, 0, 0] : List UInt64))))) (nv (nd (zJ 1 (nv ([121666, 0, 0, 0] : List UInt64)) (mF 1 - 2))))))) _ Eg Eh rfl (zf (zl _ _)) (zf (zi)) (zt _) rfl fun _ _ Ei Ea => ?_
 refine f_e <| ze <| wp_ret <| d_cell1 (v := .agg (zg (zh (nd (zr 1 (nv (nd (z7 1 (nv ([0, 0, 0, 0] : List UInt64)) (nv ([121665, 0, 0, 0] : List UInt64))))) (nv (nd (zJ 1 (nv ([121666, 0, 0, 0] : List UInt64)) (mF 1 - 2))))))))) (t := 0) (T := 33) (ad := ⟨Em, 0, none⟩) Ei (by kernel_rfl) (by kernel_rfl) (zB (t := 33) (k := 0) (off := 0) (m := 4) (xs := zh (nd (zr 1 (nv (nd (z7 1 (nv ([0, 0, 0, 0] : List UInt64)) (nv ([121665, 0, 0, 0] : List UInt64))))) (nv (nd (zJ 1 (nv ([121666, 0, 0, 0] : List UInt64)) (mF 1 - 2))))))) Ea rfl (zq (zf (zl _ _))) (zf (zl _ _)) (by kernel_rfl) (by kernel_rfl)) ?_
 exact ⟨congrArg (fun l : List UInt64 => Ending.returned (Value.agg (zh l).toArray)) d_txt, Ea.pk []⟩
theorem dwith_go (w : World) (y : Nat) (hy : nv (nd y) = y) (o : Bool) : Calls Tryz.prog 48 #[.agg (zg (zh (nd y))), .bool o, .agg (zg (zh (nd DN)))] w fun e w' => e = .returned (.tuple #[.agg (zg (zh (wiD y o))), .bool (JH y o)]) ∧ Ev w [] w' [] := by
 refine d_0 [(0, .agg (zg (zh (nd y)))), (1, .bool o), (2, .agg (zg (zh (nd DN))))] 51 Go.Proofs.Tryz.func48 Go.Proofs.Tryz.ntmps48 (Heap.nil _) fun aD aE aF => wp_seq <| zk <| f_o <| m_m 33 (zh (nd y)) aE aF fun _ _ Eh aG aH => f_o <| m_m 33 (zh (nd DN)) aG aH fun _ _ aI aJ H8 => f_o <| m_z 44 ((zh (zd 4 0)) ++ ((zh (zd 4 0)) ++ (zh (zd 4 0)))) aJ H8 fun _ _ Ea H9 EZ => ?_
 refine d_e [1,3,5,6,7] [] H9 fun _ aa => ze <| wp_seq <| zk <| f_o <| Zp 0 4 (zh (nd y)) aa EZ rfl (zf (zl _ _)) fun _ ab => f_o <| Zp 0 4 (zh (nd y)) ab EZ rfl (zf (zl _ _)) fun _ ae => f_o <| c_p ae EZ (QP _ (nd y) (nd y) (zl _ _) (zl _ _)) fun _ _ af ag => ?_
 refine f_o <| m_z 33 (zh (zd 4 0)) af ag fun _ _ Ed ah ai => f_o <| zQ 3 4 (zh (nd (zr 1 (nv (nd y)) (nv (nd y))))) _ ah ai rfl (zf (zl _ _)) (zf (zi)) (zt _) rfl fun _ _ aj E1 => f_e <| ze <| wp_seq <| zk <| f_o <| Zp 3 4 (zh (nd (zr 1 (nv (nd y)) (nv (nd y))))) aj E1 rfl (zf (zl _ _)) fun _ ak => d_k [1,3,5,6,7,8,16,17] [] 2 ak fun _ al => ?_
 refine f_o <| c_p al E1 (dsub_go _ (nd (zr 1 (nv (nd y)) (nv (nd y)))) ([1, 0, 0, 0] : List UInt64) (zl _ _) (show zb ([1, 0, 0, 0] : List UInt64) = 4 from rfl)) fun _ _ am an => f_o <| m_z 33 (zh (zd 4 0)) am an fun _ _ Eb ao ap => f_o <| zQ 4 4 (zh (nd (z7 1 (nv (nd (zr 1 (nv (nd y)) (nv (nd y))))) (nv ([1, 0, 0, 0] : List UInt64))))) [.box Eh (zh (nd y)) 33, .box aI (zh (nd DN)) 33, .box Ea ((zh (zd 4 0)) ++ ((zh (zd 4 0)) ++ (zh (zd 4 0)))) 44, .box Ed (zh (nd (zr 1 (nv (nd y)) (nv (nd y))))) 33, .box Eb (zh (nd (z7 1 (nv (nd (zr 1 (nv (nd y)) (nv (nd y))))) (nv ([1, 0, 0, 0] : List UInt64))))) 33] ao ap rfl (zf (zl _ _)) (zf (zi)) (zt _) rfl fun _ _ aq E0 => f_e <| ze <| wp_seq <| zk <| f_o <| Zp 1 4 (zh (nd DN)) aq E0 rfl (zf (zl _ _)) fun _ ar => ?_
 refine f_o <| Zp 3 4 (zh (nd (zr 1 (nv (nd y)) (nv (nd y))))) ar E0 rfl (zf (zl _ _)) fun _ au => f_o <| c_p au E0 (QP _ (nd DN) (nd (zr 1 (nv (nd y)) (nv (nd y)))) (zl _ _) (zl _ _)) fun _ _ av aw => d_k [1,3,6,7,8,9,21,22] [] 4 av fun _ ax => f_o <| c_p ax aw (dadd_go _ (nd (zr 1 (nv (nd DN)) (nv (nd (zr 1 (nv (nd y)) (nv (nd y))))))) ([1, 0, 0, 0] : List UInt64) (zl _ _) (show zb ([1, 0, 0, 0] : List UInt64) = 4 from rfl)) fun _ _ ay az => ?_
 refine f_o <| m_z 33 (zh (zd 4 0)) ay az fun _ _ Ec aA aB => f_o <| zQ 5 4 (zh (nd (Zh 1 (nv (nd (zr 1 (nv (nd DN)) (nv (nd (zr 1 (nv (nd y)) (nv (nd y)))))))) (nv ([1, 0, 0, 0] : List UInt64))))) _ aA aB rfl (zf (zl _ _)) (zf (zi)) (zt _) rfl fun _ _ aC E2 => ?_
 refine f_e <| ze <| wp_seq <| r_c (fun ac wo => ∃ (Ei : Nat), Env ac 51 [(1, .bool o), (3, pt Eh), (6, pt Ea), (7, .bool false), (8, pt Ed), (9, pt Eb), (10, pt Ec), (11, pt Ei), (12, .bool (QW 1 (tA y)))] ∧ Ev w [] wo [.box Eh (zh (nd y)) 33, .box Ea ((zh (zd 4 0)) ++ ((zh (zd 4 0)) ++ (zh (zd 4 0)))) 44, .box Ed (zh (nd (zr 1 (nv (nd y)) (nv (nd y))))) 33, .box Eb (zh (nd (z7 1 (nv (nd (zr 1 (nv (nd y)) (nv (nd y))))) (nv ([1, 0, 0, 0] : List UInt64))))) 33, .box Ec (zh (nd (Zh 1 (nv (nd (zr 1 (nv (nd DN)) (nv (nd (zr 1 (nv (nd y)) (nv (nd y)))))))) (nv ([1, 0, 0, 0] : List UInt64))))) 33, .box Ei (zh (nd (rE y))) 33]) ?_ ?_
 ·
  refine h_s (fun wv => Ev w [] wv [.box Eb (zh (nd (z7 1 (nv (nd (zr 1 (nv (nd y)) (nv (nd y))))) (nv ([1, 0, 0, 0] : List UInt64))))) 33, .box Ec (zh (nd (Zh 1 (nv (nd (zr 1 (nv (nd DN)) (nv (nd (zr 1 (nv (nd y)) (nv (nd y)))))))) (nv ([1, 0, 0, 0] : List UInt64))))) 33]) [] 11 ?_
  have Ex := E2.trans (zO E2.heap)
  refine h_name fun G hG => ?_
  have nd427 : ∀ (ac : Act) (wo : World), Env ac 51 [(1, .bool o), (3, pt Eh), (6, pt Ea), (7, .bool false), (8, pt Ed), (9, pt Eb), (10, pt Ec), (29, .tuple #[.agg (zg (zh (nd (rE y)))), .bool (QW 1 (tA y))])] → Ev w [] wo [.box Eh (zh (nd y)) 33, .box Ea ((zh (zd 4 0)) ++ ((zh (zd 4 0)) ++ (zh (zd 4 0)))) 44, .box Ed (zh (nd (zr 1 (nv (nd y)) (nv (nd y))))) 33, .box Eb (zh (nd (z7 1 (nv (nd (zr 1 (nv (nd y)) (nv (nd y))))) (nv ([1, 0, 0, 0] : List UInt64))))) 33, .box Ec (zh (nd (Zh 1 (nv (nd (zr 1 (nv (nd DN)) (nv (nd (zr 1 (nv (nd y)) (nv (nd y)))))))) (nv ([1, 0, 0, 0] : List UInt64))))) 33] → G 6 #[true, true, true, true, true, false, false, false, false, false, false] ac wo := by
   intro _ _ E3 Ey
   refine Zl hG ?_
   refine q_s [5,6,7] [] 3 E3 (Ey.pk [3, 4]) fun _ E4 => q_t 8 ?_
   refine m_z 33 (zh (zd 4 0)) E4 Ey fun _ _ Ez E5 EA => ⟨fun _ => EA.pk [3, 4], ?_⟩
   refine q_t 9 ?_
   refine zQ 5 4 (zh (nd (rE y))) [.box Eh (zh (nd y)) 33, .box Ea ((zh (zd 4 0)) ++ ((zh (zd 4 0)) ++ (zh (zd 4 0)))) 44, .box Ed (zh (nd (zr 1 (nv (nd y)) (nv (nd y))))) 33, .box Eb (zh (nd (z7 1 (nv (nd (zr 1 (nv (nd y)) (nv (nd y))))) (nv ([1, 0, 0, 0] : List UInt64))))) 33, .box Ec (zh (nd (Zh 1 (nv (nd (zr 1 (nv (nd DN)) (nv (nd (zr 1 (nv (nd y)) (nv (nd y)))))))) (nv ([1, 0, 0, 0] : List UInt64))))) 33, .box Ez (zh (nd (rE y))) 33] E5 EA rfl (zf (zl _ _)) (zf (zi)) (zt _) rfl fun _ _ E6 En => ⟨fun _ => En.pk [3, 4], ?_⟩
   refine q_s [10] [] 0 E6 (En.pk [3, 4]) fun _ E7 => ?_
   exact h_e ⟨Ez, E7.sb, En.pk [0, 1, 2, 3, 4, 5]⟩
  have nd445 : ∀ (ac : Act) (wo : World) (El : Nat), Env ac 51 [(1, .bool o), (3, pt Eh), (6, pt Ea), (7, .bool false), (8, pt Ed), (9, pt Eb), (10, pt Ec), (11, pt El), (28, .agg (zg (zh (nd (zr 1 (nv (nd (z7 1 (nv (nd (zr 1 (nv (nd y)) (nv (nd y))))) (nv ([1, 0, 0, 0] : List UInt64))))) (nv (nd (zJ 1 (nv (nd (Zh 1 (nv (nd (zr 1 (nv (nd DN)) (nv (nd (zr 1 (nv (nd y)) (nv (nd y)))))))) (nv ([1, 0, 0, 0] : List UInt64))))) (mF 1 - 2)))))))))] → Ev w [] wo [.box Eh (zh (nd y)) 33, .box Ea ((zh (zd 4 0)) ++ ((zh (zd 4 0)) ++ (zh (zd 4 0)))) 44, .box Ed (zh (nd (zr 1 (nv (nd y)) (nv (nd y))))) 33, .box Eb (zh (nd (z7 1 (nv (nd (zr 1 (nv (nd y)) (nv (nd y))))) (nv ([1, 0, 0, 0] : List UInt64))))) 33, .box Ec (zh (nd (Zh 1 (nv (nd (zr 1 (nv (nd DN)) (nv (nd (zr 1 (nv (nd y)) (nv (nd y)))))))) (nv ([1, 0, 0, 0] : List UInt64))))) 33, .box El (zh (zd 4 0)) 33] → G 6 #[true, true, true, true, false, false, false, false, true, false, false] ac wo := by
   intro _ _ El E8 E9
   refine Zl hG ?_
   refine q_t 4 ?_
   refine c_p E8 E9 (rroot_tA _ (show (nd (zr 1 (nv (nd (z7 1 (nv (nd (zr 1 (nv (nd y)) (nv (nd y))))) (nv ([1, 0, 0, 0] : List UInt64))))) (nv (nd (zJ 1 (nv (nd (Zh 1 (nv (nd (zr 1 (nv (nd DN)) (nv (nd (zr 1 (nv (nd y)) (nv (nd y)))))))) (nv ([1, 0, 0, 0] : List UInt64))))) (mF 1 - 2)))))) = nd (tA y) from tA_txt hy)) fun _ _ Ha Eo => ⟨fun _ => Eo.pk [3, 4], ?_⟩
   refine q_s [5,6,7] [] 2 Ha (Eo.pk [3, 4]) fun _ Hb => q_t 9 ?_
   refine zQ 5 4 (zh (nd (rE y))) _ Hb Eo rfl (zf (zl _ _)) (zf (zi)) (zt _) rfl fun _ _ Hc Ep => ⟨fun _ => Ep.pk [3, 4], ?_⟩
   refine q_s [10] [] 0 Hc (Ep.pk [3, 4]) fun _ Hd => ?_
   exact h_e ⟨El, Hd.sb, Ep.pk [0, 1, 2, 3, 4, 5]⟩
  have nd465 : ∀ (ac : Act) (wo : World), Env ac 51 [(1, .bool o), (3, pt Eh), (6, pt Ea), (7, .bool false), (8, pt Ed), (9, pt Eb), (10, pt Ec), (28, .agg (zg (zh (nd (zr 1 (nv (nd (z7 1 (nv (nd (zr 1 (nv (nd y)) (nv (nd y))))) (nv ([1, 0, 0, 0] : List UInt64))))) (nv (nd (zJ 1 (nv (nd (Zh 1 (nv (nd (zr 1 (nv (nd DN)) (nv (nd (zr 1 (nv (nd y)) (nv (nd y)))))))) (nv ([1, 0, 0, 0] : List UInt64))))) (mF 1 - 2)))))))))] → Ev w [] wo [.box Eh (zh (nd y)) 33, .box Ea ((zh (zd 4 0)) ++ ((zh (zd 4 0)) ++ (zh (zd 4 0)))) 44, .box Ed (zh (nd (zr 1 (nv (nd y)) (nv (nd y))))) 33, .box Eb (zh (nd (z7 1 (nv (nd (zr 1 (nv (nd y)) (nv (nd y))))) (nv ([1, 0, 0, 0] : List UInt64))))) 33, .box Ec (zh (nd (Zh 1 (nv (nd (zr 1 (nv (nd DN)) (nv (nd (zr 1 (nv (nd y)) (nv (nd y)))))))) (nv ([1, 0, 0, 0] : List UInt64))))) 33] → G 7 #[true, true, true, true, false, false, false, false, false, false, false] ac wo := by
   intro _ _ EB EC
   refine Zl hG ?_
   refine Qk [4, 8] (by kernel_rfl) rfl ?_
   refine ⟨?_, ?_, trivial⟩
   ·
    rintro _ rfl
    refine c_p EB EC (rroot_tA _ (show (nd (zr 1 (nv (nd (z7 1 (nv (nd (zr 1 (nv (nd y)) (nv (nd y))))) (nv ([1, 0, 0, 0] : List UInt64))))) (nv (nd (zJ 1 (nv (nd (Zh 1 (nv (nd (zr 1 (nv (nd DN)) (nv (nd (zr 1 (nv (nd y)) (nv (nd y)))))))) (nv ([1, 0, 0, 0] : List UInt64))))) (mF 1 - 2)))))) = nd (tA y) from tA_txt hy)) fun _ _ He ED => ⟨fun _ => ED.pk [3, 4], ?_⟩
    exact Ql hG (by kernel_rfl) (nd427 _ _ (He.sb) (ED.pk [0, 1, 2, 3, 4]))
   rintro _ rfl
   refine m_z 33 (zh (zd 4 0)) EB EC fun _ _ Hf Hg EE => ⟨fun _ => EE.pk [3, 4], ?_⟩
   exact Ql hG (by kernel_rfl) (nd445 _ _ Hf (Hg.sb) (EE.pk [0, 1, 2, 3, 4, 5]))
  have nd482 : ∀ (ac : Act) (wo : World) (Ej : Nat), Env ac 51 [(1, .bool o), (3, pt Eh), (6, pt Ea), (7, .bool false), (8, pt Ed), (9, pt Eb), (10, pt Ec), (11, pt Ej), (25, .agg (zg (zh (nd (z7 1 (nv (nd (zr 1 (nv (nd y)) (nv (nd y))))) (nv ([1, 0, 0, 0] : List UInt64))))))), (27, .agg (zg (zh (nd (zJ 1 (nv (nd (Zh 1 (nv (nd (zr 1 (nv (nd DN)) (nv (nd (zr 1 (nv (nd y)) (nv (nd y)))))))) (nv ([1, 0, 0, 0] : List UInt64))))) (mF 1 - 2))))))] → Ev w [] wo [.box Eh (zh (nd y)) 33, .box Ea ((zh (zd 4 0)) ++ ((zh (zd 4 0)) ++ (zh (zd 4 0)))) 44, .box Ed (zh (nd (zr 1 (nv (nd y)) (nv (nd y))))) 33, .box Eb (zh (nd (z7 1 (nv (nd (zr 1 (nv (nd y)) (nv (nd y))))) (nv ([1, 0, 0, 0] : List UInt64))))) 33, .box Ec (zh (nd (Zh 1 (nv (nd (zr 1 (nv (nd DN)) (nv (nd (zr 1 (nv (nd y)) (nv (nd y)))))))) (nv ([1, 0, 0, 0] : List UInt64))))) 33, .box Ej (zh (zd 4 0)) 33] → G 7 #[true, true, true, false, false, false, false, false, true, false, false] ac wo := by
   intro _ _ Ej Hh Hi
   refine Zl hG ?_
   refine q_t 3 ?_
   refine c_p Hh Hi (QP _ (nd (z7 1 (nv (nd (zr 1 (nv (nd y)) (nv (nd y))))) (nv ([1, 0, 0, 0] : List UInt64)))) (nd (zJ 1 (nv (nd (Zh 1 (nv (nd (zr 1 (nv (nd DN)) (nv (nd (zr 1 (nv (nd y)) (nv (nd y)))))))) (nv ([1, 0, 0, 0] : List UInt64))))) (mF 1 - 2))) (zl _ _) (zl _ _)) fun _ _ Hj EF => ⟨fun _ => EF.pk [3, 4], ?_⟩
   refine q_t 4 ?_
   refine c_p Hj EF (rroot_tA _ (show (nd (zr 1 (nv (nd (z7 1 (nv (nd (zr 1 (nv (nd y)) (nv (nd y))))) (nv ([1, 0, 0, 0] : List UInt64))))) (nv (nd (zJ 1 (nv (nd (Zh 1 (nv (nd (zr 1 (nv (nd DN)) (nv (nd (zr 1 (nv (nd y)) (nv (nd y)))))))) (nv ([1, 0, 0, 0] : List UInt64))))) (mF 1 - 2)))))) = nd (tA y) from tA_txt hy)) fun _ _ Hk Eq => ⟨fun _ => Eq.pk [3, 4], ?_⟩
   refine q_s [5,6,7] [] 2 Hk (Eq.pk [3, 4]) fun _ Hl => q_t 9 ?_
   refine zQ 5 4 (zh (nd (rE y))) [.box Eh (zh (nd y)) 33, .box Ea ((zh (zd 4 0)) ++ ((zh (zd 4 0)) ++ (zh (zd 4 0)))) 44, .box Ed (zh (nd (zr 1 (nv (nd y)) (nv (nd y))))) 33, .box Eb (zh (nd (z7 1 (nv (nd (zr 1 (nv (nd y)) (nv (nd y))))) (nv ([1, 0, 0, 0] : List UInt64))))) 33, .box Ec (zh (nd (Zh 1 (nv (nd (zr 1 (nv (nd DN)) (nv (nd (zr 1 (nv (nd y)) (nv (nd y)))))))) (nv ([1, 0, 0, 0] : List UInt64))))) 33, .box Ej (zh (nd (rE y))) 33] Hl Eq rfl (zf (zl _ _)) (zf (zi)) (zt _) rfl fun _ _ Hm Er => ⟨fun _ => Er.pk [3, 4], ?_⟩
   refine q_s [10] [] 0 Hm (Er.pk [3, 4]) fun _ Hn => ?_
   exact h_e ⟨Ej, Hn.sb, Er.pk [0, 1, 2, 3, 4, 5]⟩
  have nd509 : ∀ (ac : Act) (wo : World), Env ac 51 [(1, .bool o), (3, pt Eh), (6, pt Ea), (7, .bool false), (8, pt Ed), (9, pt Eb), (10, pt Ec), (25, .agg (zg (zh (nd (z7 1 (nv (nd (zr 1 (nv (nd y)) (nv (nd y))))) (nv ([1, 0, 0, 0] : List UInt64))))))), (27, .agg (zg (zh (nd (zJ 1 (nv (nd (Zh 1 (nv (nd (zr 1 (nv (nd DN)) (nv (nd (zr 1 (nv (nd y)) (nv (nd y)))))))) (nv ([1, 0, 0, 0] : List UInt64))))) (mF 1 - 2))))))] → Ev w [] wo [.box Eh (zh (nd y)) 33, .box Ea ((zh (zd 4 0)) ++ ((zh (zd 4 0)) ++ (zh (zd 4 0)))) 44, .box Ed (zh (nd (zr 1 (nv (nd y)) (nv (nd y))))) 33, .box Eb (zh (nd (z7 1 (nv (nd (zr 1 (nv (nd y)) (nv (nd y))))) (nv ([1, 0, 0, 0] : List UInt64))))) 33, .box Ec (zh (nd (Zh 1 (nv (nd (zr 1 (nv (nd DN)) (nv (nd (zr 1 (nv (nd y)) (nv (nd y)))))))) (nv ([1, 0, 0, 0] : List UInt64))))) 33] → G 8 #[true, true, true, false, false, false, false, false, false, false, false] ac wo := by
   intro _ _ EG EH
   refine Zl hG ?_
   refine Qk [3, 8] (by kernel_rfl) rfl ?_
   refine ⟨?_, ?_, trivial⟩
   ·
    rintro _ rfl
    refine c_p EG EH (QP _ (nd (z7 1 (nv (nd (zr 1 (nv (nd y)) (nv (nd y))))) (nv ([1, 0, 0, 0] : List UInt64)))) (nd (zJ 1 (nv (nd (Zh 1 (nv (nd (zr 1 (nv (nd DN)) (nv (nd (zr 1 (nv (nd y)) (nv (nd y)))))))) (nv ([1, 0, 0, 0] : List UInt64))))) (mF 1 - 2))) (zl _ _) (zl _ _)) fun _ _ Ho EI => ⟨fun _ => EI.pk [3, 4], ?_⟩
    exact Ql hG (by kernel_rfl) (nd465 _ _ (Ho.sb) (EI.pk [0, 1, 2, 3, 4]))
   rintro _ rfl
   refine m_z 33 (zh (zd 4 0)) EG EH fun _ _ Hp Hq EJ => ⟨fun _ => EJ.pk [3, 4], ?_⟩
   exact Ql hG (by kernel_rfl) (nd482 _ _ Hp (Hq.sb) (EJ.pk [0, 1, 2, 3, 4, 5]))
  have nd526 : ∀ (ac : Act) (wo : World) (Em : Nat), Env ac 51 [(1, .bool o), (3, pt Eh), (6, pt Ea), (7, .bool false), (8, pt Ed), (9, pt Eb), (10, pt Ec), (11, pt Em), (25, .agg (zg (zh (nd (z7 1 (nv (nd (zr 1 (nv (nd y)) (nv (nd y))))) (nv ([1, 0, 0, 0] : List UInt64))))))), (26, .agg (zg (zh (nd (Zh 1 (nv (nd (zr 1 (nv (nd DN)) (nv (nd (zr 1 (nv (nd y)) (nv (nd y)))))))) (nv ([1, 0, 0, 0] : List UInt64)))))))] → Ev w [] wo [.box Eh (zh (nd y)) 33, .box Ea ((zh (zd 4 0)) ++ ((zh (zd 4 0)) ++ (zh (zd 4 0)))) 44, .box Ed (zh (nd (zr 1 (nv (nd y)) (nv (nd y))))) 33, .box Eb (zh (nd (z7 1 (nv (nd (zr 1 (nv (nd y)) (nv (nd y))))) (nv ([1, 0, 0, 0] : List UInt64))))) 33, .box Ec (zh (nd (Zh 1 (nv (nd (zr 1 (nv (nd DN)) (nv (nd (zr 1 (nv (nd y)) (nv (nd y)))))))) (nv ([1, 0, 0, 0] : List UInt64))))) 33, .box Em (zh (zd 4 0)) 33] → G 8 #[true, true, false, false, false, false, false, false, true, false, false] ac wo := by
   intro _ _ Em Hr Hs
   refine Zl hG ?_
   refine q_t 2 ?_
   refine c_p Hr Hs (dinv_go _ (nd (Zh 1 (nv (nd (zr 1 (nv (nd DN)) (nv (nd (zr 1 (nv (nd y)) (nv (nd y)))))))) (nv ([1, 0, 0, 0] : List UInt64)))) (zl _ _)) fun _ _ Ht EK => ⟨fun _ => EK.pk [3, 4], ?_⟩
   refine q_t 3 ?_
   refine c_p Ht EK (QP _ (nd (z7 1 (nv (nd (zr 1 (nv (nd y)) (nv (nd y))))) (nv ([1, 0, 0, 0] : List UInt64)))) (nd (zJ 1 (nv (nd (Zh 1 (nv (nd (zr 1 (nv (nd DN)) (nv (nd (zr 1 (nv (nd y)) (nv (nd y)))))))) (nv ([1, 0, 0, 0] : List UInt64))))) (mF 1 - 2))) (zl _ _) (zl _ _)) fun _ _ Hu EL => ⟨fun _ => EL.pk [3, 4], ?_⟩
   refine q_t 4 ?_
   refine c_p Hu EL (rroot_tA _ (show (nd (zr 1 (nv (nd (z7 1 (nv (nd (zr 1 (nv (nd y)) (nv (nd y))))) (nv ([1, 0, 0, 0] : List UInt64))))) (nv (nd (zJ 1 (nv (nd (Zh 1 (nv (nd (zr 1 (nv (nd DN)) (nv (nd (zr 1 (nv (nd y)) (nv (nd y)))))))) (nv ([1, 0, 0, 0] : List UInt64))))) (mF 1 - 2)))))) = nd (tA y) from tA_txt hy)) fun _ _ Hv Es => ⟨fun _ => Es.pk [3, 4], ?_⟩
   refine q_s [5,6,7] [] 2 Hv (Es.pk [3, 4]) fun _ Hw => q_t 9 ?_
   refine zQ 5 4 (zh (nd (rE y))) _ Hw Es rfl (zf (zl _ _)) (zf (zi)) (zt _) rfl fun _ _ Hx Et => ⟨fun _ => Et.pk [3, 4], ?_⟩
   refine q_s [10] [] 0 Hx (Et.pk [3, 4]) fun _ Hy => ?_
   exact h_e ⟨Em, Hy.sb, Et.pk [0, 1, 2, 3, 4, 5]⟩
  refine Zl hG ?_
  refine q_r 0 (s := Instr.loadAt 33 (pt Eb)) (v := .agg (zg (zh (nd (z7 1 (nv (nd (zr 1 (nv (nd y)) (nv (nd y))))) (nv ([1, 0, 0, 0] : List UInt64))))))) aC (fun w hS => zM (m := 4) (cs := zh (nd (z7 1 (nv (nd (zr 1 (nv (nd y)) (nv (nd y))))) (nv ([1, 0, 0, 0] : List UInt64))))) (zf (zl _ _)) (by kernel_rfl) (by kernel_rfl) (hS.heap.cells (k := 0) (off := 0) (m := 4) rfl (zq (zf (zl _ _))))) (Ex.pk [4, 5]) fun _ Hz => q_r 1 (s := Instr.loadAt 33 (pt Ec)) (v := .agg (zg (zh (nd (Zh 1 (nv (nd (zr 1 (nv (nd DN)) (nv (nd (zr 1 (nv (nd y)) (nv (nd y)))))))) (nv ([1, 0, 0, 0] : List UInt64))))))) Hz (fun w hS => zM (m := 4) (cs := zh (nd (Zh 1 (nv (nd (zr 1 (nv (nd DN)) (nv (nd (zr 1 (nv (nd y)) (nv (nd y)))))))) (nv ([1, 0, 0, 0] : List UInt64))))) (zf (zl _ _)) (by kernel_rfl) (by kernel_rfl) (hS.heap.cells (k := 1) (off := 0) (m := 4) rfl (zq (zf (zl _ _))))) (Ex.pk [4, 5]) fun _ EM => Qk [2, 8] (by kernel_rfl) rfl ?_
  refine ⟨?_, ?_, trivial⟩
  ·
   rintro _ rfl
   refine c_p EM Ex (dinv_go _ (nd (Zh 1 (nv (nd (zr 1 (nv (nd DN)) (nv (nd (zr 1 (nv (nd y)) (nv (nd y)))))))) (nv ([1, 0, 0, 0] : List UInt64)))) (zl _ _)) fun _ _ HA EN => ⟨fun _ => EN.pk [4, 5], ?_⟩
   exact Ql hG (by kernel_rfl) (nd509 _ _ (HA.sb) (EN.pk [0, 2, 3, 4, 5]))
  rintro _ rfl
  refine m_z 33 (zh (zd 4 0)) EM Ex fun _ _ HB HC EO => ⟨fun _ => EO.pk [4, 5], ?_⟩
  exact Ql hG (by kernel_rfl) (nd526 _ _ HB (HC.sb) (EO.pk [0, 2, 3, 4, 5, 6]))
 rintro _ _ ⟨Ei, HD, Ee⟩
 refine ze <| wp_seq <| wp_seq <| zk <| d_k [1,3,6,7,8,9,10,11,34] [] 3 HD fun _ EP => ?_
 rcases ZB (!(QW 1 (tA y))) with Ek | Ek
 ·
  have HE := EP.fx (t := 34) (congrArg Value.bool Ek)
  have hp584 : ¬ (QW 1 (tA y) = true) := by simpa using Ek
  refine d_e [1,3,6,7,8,9,10,11,41] [] HE fun _ EQ => ze <| c_t EQ ?_
  refine wp_seq <| zk <| d_k [1,3,6,7,8,9,10,11,42] [] 1 EQ fun _ HF => f_o <| zQ 1 12 [.int .u64 0, .int .u64 0, .int .u64 0, .int .u64 0, .int .u64 0, .int .u64 0, .int .u64 0, .int .u64 0, .int .u64 0, .int .u64 0, .int .u64 0, .int .u64 0] [.box Eh (zh (nd y)) 33, .box Ea [.int .u64 0, .int .u64 0, .int .u64 0, .int .u64 0, .int .u64 0, .int .u64 0, .int .u64 0, .int .u64 0, .int .u64 0, .int .u64 0, .int .u64 0, .int .u64 0] 44, .box Ed (zh (nd (zr 1 (nv (nd y)) (nv (nd y))))) 33, .box Eb (zh (nd (z7 1 (nv (nd (zr 1 (nv (nd y)) (nv (nd y))))) (nv ([1, 0, 0, 0] : List UInt64))))) 33, .box Ec (zh (nd (Zh 1 (nv (nd (zr 1 (nv (nd DN)) (nv (nd (zr 1 (nv (nd y)) (nv (nd y)))))))) (nv ([1, 0, 0, 0] : List UInt64))))) 33, .box Ei (zh (nd (rE y))) 33] HF Ee rfl rfl (zE (zf (zi)) (zE (zf (zi)) (zf (zi)))) (Y4 (by kernel_rfl)) rfl fun _ _ HG ER => d_e [1,3,6,7,8,9,10,11] [] HG fun _ HH => ze <| wp_ret <| ZE <| Z6 (v := .agg #[.int .u64 0, .int .u64 0, .int .u64 0, .int .u64 0, .int .u64 0, .int .u64 0, .int .u64 0, .int .u64 0, .int .u64 0, .int .u64 0, .int .u64 0, .int .u64 0]) (x := .bool false) (t := 6) (T := 44) (ad := ⟨Ea, 0, none⟩) (u := 7) HH (by kernel_rfl) (by kernel_rfl) (zB (t := 44) (k := 1) (off := 0) (m := 12) (xs := [.int .u64 0, .int .u64 0, .int .u64 0, .int .u64 0, .int .u64 0, .int .u64 0, .int .u64 0, .int .u64 0, .int .u64 0, .int .u64 0, .int .u64 0, .int .u64 0]) ER rfl rfl rfl (by kernel_rfl) (by kernel_rfl)) (by kernel_rfl) ?_
  have ei : JH y o = false := wx_2 (Yq.2 hp584)
  exact ⟨(show _ = Ending.returned (.tuple #[.agg (zg (zh (zd 12 0))), .bool false]) from by kernel_rfl).trans (ret_wi (wi_no ei) ei.symm), ER.pk []⟩
 have HI := EP.fx (t := 34) (congrArg Value.bool Ek)
 have hp596 : QW 1 (tA y) = true := by simpa using Ek
 refine d_k [1,3,6,7,8,9,10,11,34,36] [] 5 HI fun _ ES => ?_
 rcases ZB (o) with Ef | Ef
 ·
  have HJ := ES.fx (t := 1) (congrArg Value.bool Ef)
  have HK := HJ.fx (t := 36) (congrArg Value.bool Ef)
  have hp602 : o = true := Ef
  refine f_o <| Zp 5 4 (zh (nd (rE y))) HK Ee rfl (zf (zl _ _)) fun _ HL => d_k [1,3,6,7,8,9,10,11,34,36,37,38] [] 7 HL fun _ HM => f_o <| q_v (x := eqOp .eql 33 (.tmp 37) (.tmp 38) (.agg (zg (zh (nd (rE y))))) (.agg (zg (zh ([0, 0, 0, 0] : List UInt64))))) (v := .bool ((nd (rE y)) == ([0, 0, 0, 0] : List UInt64))) HM (Go.Dbr.u64s_eqop (a := (.tmp 37)) (b := (.tmp 38)) (e := 31) (m := 4) (by kernel_rfl) (by kernel_rfl) (by kernel_rfl) (by kernel_rfl) (by kernel_rfl) (zl _ _) (show zb ([0, 0, 0, 0] : List UInt64) = 4 from rfl) _) fun _ HN => d_e [1,3,6,7,8,9,10,11,41] [] HN fun _ Eu => ?_
  refine ze <| cond_at Eu (t := (nd (rE y)) == ([0, 0, 0, 0] : List UInt64)) (by kernel_rfl) (fun Eg => ?_) (fun Eg => ?_)
  ·
   replace Eg : (nd (rE y)) = ([0, 0, 0, 0] : List UInt64) := eq_of_beq Eg
   refine wp_seq <| zk <| d_k [1,3,6,7,8,9,10,11,42] [] 1 Eu fun _ HO => f_o <| zQ 1 12 [.int .u64 0, .int .u64 0, .int .u64 0, .int .u64 0, .int .u64 0, .int .u64 0, .int .u64 0, .int .u64 0, .int .u64 0, .int .u64 0, .int .u64 0, .int .u64 0] _ HO Ee rfl rfl (zE (zf (zi)) (zE (zf (zi)) (zf (zi)))) (Y4 (by kernel_rfl)) rfl fun _ _ HP ET => d_e [1,3,6,7,8,9,10,11] [] HP fun _ HQ => ze <| wp_ret <| ZE <| Z6 (v := .agg #[.int .u64 0, .int .u64 0, .int .u64 0, .int .u64 0, .int .u64 0, .int .u64 0, .int .u64 0, .int .u64 0, .int .u64 0, .int .u64 0, .int .u64 0, .int .u64 0]) (x := .bool false) (t := 6) (T := 44) (ad := ⟨Ea, 0, none⟩) (u := 7) HQ (by kernel_rfl) (by kernel_rfl) (zB (t := 44) (k := 1) (off := 0) (m := 12) (xs := [.int .u64 0, .int .u64 0, .int .u64 0, .int .u64 0, .int .u64 0, .int .u64 0, .int .u64 0, .int .u64 0, .int .u64 0, .int .u64 0, .int .u64 0, .int .u64 0]) ET rfl rfl rfl (by kernel_rfl) (by kernel_rfl)) (by kernel_rfl) ?_
   have ei : JH y o = false := wx_3 (by simpa using hp602) Eg
   exact ⟨(show _ = Ending.returned (.tuple #[.agg (zg (zh (zd 12 0))), .bool false]) from by kernel_rfl).trans (ret_wi (wi_no ei) ei.symm), ET.pk []⟩
  replace Eg : ¬ ((nd (rE y)) = ([0, 0, 0, 0] : List UInt64)) := ne_of_beq_false Eg
  refine wp_skip <| ze <| wp_seq <| d_s [1,3,6,7,8,9,10,11,43] [] Eu fun _ EU => c_t EU ?_
  refine zk <| d_k [1,3,6,7,8,9,10,11,44] [] 1 EU fun _ HR => f_o <| Zp 5 4 (zh (nd (rE y))) HR Ee rfl (zf (zl _ _)) fun _ HS => f_o <| c_p HS Ee (dsub_go _ ([0, 0, 0, 0] : List UInt64) (nd (rE y)) (show zb ([0, 0, 0, 0] : List UInt64) = 4 from rfl) (zl _ _)) fun _ _ HT HU => f_o <| zQ 5 4 (zh (nd (z7 1 (nv ([0, 0, 0, 0] : List UInt64)) (nv (nd (rE y)))))) [.box Eh (zh (nd y)) 33, .box Ea ((zh (zd 4 0)) ++ ((zh (zd 4 0)) ++ (zh (zd 4 0)))) 44, .box Ed (zh (nd (zr 1 (nv (nd y)) (nv (nd y))))) 33, .box Eb (zh (nd (z7 1 (nv (nd (zr 1 (nv (nd y)) (nv (nd y))))) (nv ([1, 0, 0, 0] : List UInt64))))) 33, .box Ec (zh (nd (Zh 1 (nv (nd (zr 1 (nv (nd DN)) (nv (nd (zr 1 (nv (nd y)) (nv (nd y)))))))) (nv ([1, 0, 0, 0] : List UInt64))))) 33, .box Ei (zh (nd (z7 1 (nv ([0, 0, 0, 0] : List UInt64)) (nv (nd (rE y)))))) 33] HT HU rfl (zf (zl _ _)) (zf (zl _ _)) (zt _) rfl fun _ _ HV Ew => ?_
  refine f_e <| ze <| wp_seq <| zk <| f_o <| Zp 5 4 (zh (nd (z7 1 (nv ([0, 0, 0, 0] : List UInt64)) (nv (nd (rE y)))))) HV Ew rfl (zf (zl _ _)) fun _ HW => f_o <| Zp 0 4 (zh (nd y)) HW Ew rfl (zf (zl _ _)) fun _ HX => d_k [1,3,6,7,8,9,10,11,50] [] 4 HX fun _ HY => f_o <| zQ 1 12 ((zh (nd (z7 1 (nv ([0, 0, 0, 0] : List UInt64)) (nv (nd (rE y)))))) ++ ((zh (nd y)) ++ (zh ([1, 0, 0, 0] : List UInt64)))) _ HY Ew rfl (zE (zf (zl _ _)) (zE (zf (zl _ _)) (zf (show zb ([1, 0, 0, 0] : List UInt64) = 4 from rfl)))) (zE (zf (zi)) (zE (zf (zi)) (zf (zi)))) (QB (zt _) (QB (zt _) (zt _))) rfl fun _ _ HZ EV => ?_
  refine d_e [1,3,6,7,8,9,10,11] [] HZ fun _ H0 => ze <| wp_ret <| Z6 (v := .agg (zg ((zh (nd (z7 1 (nv ([0, 0, 0, 0] : List UInt64)) (nv (nd (rE y)))))) ++ ((zh (nd y)) ++ (zh ([1, 0, 0, 0] : List UInt64)))))) (x := .bool true) (t := 6) (T := 44) (ad := ⟨Ea, 0, none⟩) (u := 7) H0 (by kernel_rfl) (by kernel_rfl) (zB (t := 44) (k := 1) (off := 0) (m := 12) (xs := (zh (nd (z7 1 (nv ([0, 0, 0, 0] : List UInt64)) (nv (nd (rE y)))))) ++ ((zh (nd y)) ++ (zh ([1, 0, 0, 0] : List UInt64)))) EV rfl (zq (zE (zf (zl _ _)) (zE (zf (zl _ _)) (zf (show zb ([1, 0, 0, 0] : List UInt64) = 4 from rfl))))) (zE (zf (zl _ _)) (zE (zf (zl _ _)) (zf (show zb ([1, 0, 0, 0] : List UInt64) = 4 from rfl)))) (by kernel_rfl) (by kernel_rfl)) (by kernel_rfl) ?_
  have ho : o = true := by simpa using hp602
  have ei : JH y o = true := wx_yes hp596 (fun _ => Eg)
  exact ⟨by rw [cat12]; exact ret_wi ((wt_odd hy ho).trans (wi_yes ei)) ei.symm, EV.pk []⟩
 have H1 := ES.fx (t := 1) (congrArg Value.bool Ef)
 have H2 := H1.fx (t := 36) (congrArg Value.bool Ef)
 have hp651 : ¬ (o = true) := Yq.1 Ef
 refine d_e [1,3,6,7,8,9,10,11,41] [] H2 fun _ EW => ze <| c_f EW ?_
 refine wp_skip <| ze <| wp_seq <| d_s [1,3,6,7,8,9,10,11,43] [] EW fun _ EX => c_f EX ?_
 refine wp_skip <| ze <| wp_seq <| zk <| f_o <| Zp 5 4 (zh (nd (rE y))) EX Ee rfl (zf (zl _ _)) fun _ H3 => f_o <| Zp 0 4 (zh (nd y)) H3 Ee rfl (zf (zl _ _)) fun _ H4 => d_k [1,3,6,7,8,9,10,11,50] [] 4 H4 fun _ H5 => f_o <| zQ 1 12 ((zh (nd (rE y))) ++ ((zh (nd y)) ++ (zh ([1, 0, 0, 0] : List UInt64)))) [.box Eh (zh (nd y)) 33, .box Ea ((zh (nd (rE y))) ++ ((zh (nd y)) ++ (zh ([1, 0, 0, 0] : List UInt64)))) 44, .box Ed (zh (nd (zr 1 (nv (nd y)) (nv (nd y))))) 33, .box Eb (zh (nd (z7 1 (nv (nd (zr 1 (nv (nd y)) (nv (nd y))))) (nv ([1, 0, 0, 0] : List UInt64))))) 33, .box Ec (zh (nd (Zh 1 (nv (nd (zr 1 (nv (nd DN)) (nv (nd (zr 1 (nv (nd y)) (nv (nd y)))))))) (nv ([1, 0, 0, 0] : List UInt64))))) 33, .box Ei (zh (nd (rE y))) 33] H5 Ee rfl (zE (zf (zl _ _)) (zE (zf (zl _ _)) (zf (show zb ([1, 0, 0, 0] : List UInt64) = 4 from rfl)))) (zE (zf (zi)) (zE (zf (zi)) (zf (zi)))) (QB (zt _) (QB (zt _) (zt _))) rfl fun _ _ H6 EY => ?_
 refine d_e [1,3,6,7,8,9,10,11] [] H6 fun _ H7 => ze <| wp_ret <| Z6 (v := .agg (zg ((zh (nd (rE y))) ++ ((zh (nd y)) ++ (zh ([1, 0, 0, 0] : List UInt64)))))) (x := .bool true) (t := 6) (T := 44) (ad := ⟨Ea, 0, none⟩) (u := 7) H7 (by kernel_rfl) (by kernel_rfl) (zB (t := 44) (k := 1) (off := 0) (m := 12) (xs := (zh (nd (rE y))) ++ ((zh (nd y)) ++ (zh ([1, 0, 0, 0] : List UInt64)))) EY rfl (zq (zE (zf (zl _ _)) (zE (zf (zl _ _)) (zf (show zb ([1, 0, 0, 0] : List UInt64) = 4 from rfl))))) (zE (zf (zl _ _)) (zE (zf (zl _ _)) (zf (show zb ([1, 0, 0, 0] : List UInt64) = 4 from rfl)))) (by kernel_rfl) (by kernel_rfl)) (by kernel_rfl) ?_
 have ho : o = false := by simpa using hp651
 have ei : JH y o = true := wx_yes hp596 (fun g => absurd (g.symm.trans ho) (by decide))
 exact ⟨by rw [cat12]; exact ret_wi ((wt_even hy ho).trans (wi_yes ei)) ei.symm, EY.pk []⟩
end Go.Proofs.YtlnogkmnklfjlaaGreatDoor

namespace Go.Proofs.YtlnogkmnklfjlaaGreatDoor.Sh
open Go.Dbr
set_option maxRecDepth 100000
set_option maxHeartbeats 2000000
set_option linter.unusedVariables false
set_option linter.unusedSimpArgs false
abbrev pt (b : Nat) : Value := .pointer (some (Addr.mk b 0 none))
abbrev ni (n : Nat) : Value := .int .i64 (n : Int)
def rotr32 (x : UInt32) (n : Nat) : UInt32 := (x >>> Xx n) ||| (x <<< Xx (32 - n))
def rotr64 (x : UInt64) (n : Nat) : UInt64 := (x >>> zc n) ||| (x <<< zc (64 - n))
theorem turned64_go (w : World) (x : UInt64) (n : Nat) (h0 : 0 < n) (hn : n < 64) : Calls Tryz.prog 116 #[zm x, ni n, .int .i64 64] w fun e w' => e = .returned (zm (rotr64 x n)) ∧ Ev w [] w' [] := by
 refine d_0 [(0, zm x), (1, ni n), (2, .int .i64 64)] 16 Go.Proofs.Tryz.func116 Go.Proofs.Tryz.ntmps116 (Heap.nil _) fun Ei Ej Eh => d_s [0,1,2,6] [] Ej fun _ Ek => ?_
 refine wp_seq <| r_c (fun ac wo => Env ac 16 [(6, zm ((x >>> zc n) ||| (x <<< zc (64 - n))))] ∧ Ev w [] wo []) ?_ ?_
 ·
  refine draw_any (by kernel_rfl) 10 (by kernel_rfl) ?_
  have El := Eh.trans (zO Eh.heap)
  refine q_a [0,1] [] 8 Ek fun _ Ea => q_g 2 Ea (fun _ => Go.Dbr.run_shr_u64 x .i64 n (by omega) _) fun _ Eb => q_a [3,4,5,6] [(6, g_n (w_r (e := (64 : Int) - ((n : Nat) : Int)) (x := ((64 - n : Nat) : Int)) (by omega)))] 3 Eb fun _ Ec => q_g 7 Ec (fun _ => Go.Dbr.run_shl_u64 x .i64 (64 - n) (by omega) _) fun _ Ed => ?_
  refine q_a [8,9] [(8, g_i .u64 (Go.Dbr.u64_or (x := x >>> zc n) (y := x <<< zc (64 - n)) rfl rfl))] 0 Ed fun _ Ee => ?_
  exact a_e ⟨Ee.sb, El.pk []⟩
 rintro _ _ ⟨Ef, Eg⟩
 refine ze <| wp_ret <| Qu (t := 6) (v := zm ((x >>> zc n) ||| (x <<< zc (64 - n)))) Ef (by kernel_rfl) (by kernel_rfl) ?_
 exact ⟨rfl, Eg.pk []⟩
def mix32 (x : UInt32) (i j k : Nat) (shift : Bool) : UInt32 := bif shift then (rotr32 x i ^^^ rotr32 x j) ^^^ (x >>> Xx k) else (rotr32 x i ^^^ rotr32 x j) ^^^ rotr32 x k
def mix64 (x : UInt64) (i j k : Nat) (shift : Bool) : UInt64 := bif shift then (rotr64 x i ^^^ rotr64 x j) ^^^ (x >>> zc k) else (rotr64 x i ^^^ rotr64 x j) ^^^ rotr64 x k
theorem mixed64_true (w : World) (x : UInt64) (i j k : Nat) (hi : 0 < i ∧ i < 64) (hj : 0 < j ∧ j < 64) (hk : 0 < k ∧ k < 64) : Calls Tryz.prog 114 #[zm x, .int .i64 64, .agg #[ni i, ni j, ni k], .bool true] w fun e w' => e = .returned (zm (mix64 x i j k true)) ∧ Ev w [] w' [] := by
 refine d_0 [(0, zm x), (1, .int .i64 64), (2, .agg #[ni i, ni j, ni k]), (3, .bool true)] 35 Go.Proofs.Tryz.func114 Go.Proofs.Tryz.ntmps114 (Heap.nil _) fun Eu Ew Ex => wp_seq <| zk <| f_o <| m_m 122 [ni i, ni j, ni k] Ew Ex fun _ _ Eq Ey Et => d_e [0,1,3,6,8] [] Ey fun _ Ez => ?_
 refine ze <| wp_seq <| r_c (fun ac wo => Env ac 35 [(0, zm x), (1, .int .i64 64), (3, .bool true), (6, pt Eq), (8, .int .u64 0), (9, zm ((rotr64 x i) ^^^ (rotr64 x j)))] ∧ Ev w [] wo [.box Eq [ni i, ni j, ni k] 122]) ?_ ?_
 ·
  refine h_s (fun wv => Ev w [] wv [.box Eq [ni i, ni j, ni k] 122]) [] 12 ?_
  have Ee := Et.trans (zO Et.heap)
  refine q_s [0,1] [] 10 Ez (Ee.pk [0]) fun _ Er => q_l 0 2 Er (Ee.pk [0]) fun _ Es => q_s [3,5,6] [] 6 Es (Ee.pk [0]) fun _ Ef => q_l 0 7 Ef (Ee.pk [0]) fun _ Eg => ?_
  refine q_s [8] [] 4 Eg (Ee.pk [0]) fun _ Eh => q_t 4 ?_
  refine c_p Eh Ee (turned64_go _ x i (by omega) (by omega)) fun _ _ Ei Eb => ⟨fun _ => Eb.pk [0], ?_⟩
  refine q_t 9 ?_
  refine c_p Ei Eb (turned64_go _ x j (by omega) (by omega)) fun _ _ Ej Ea => ⟨fun _ => Ea.pk [0], ?_⟩
  refine q_s [10,11] [(10, g_i .u64 (Go.Dbr.u64_xor (x := rotr64 x i) (y := rotr64 x j) rfl rfl))] 0 Ej (Ea.pk [0]) fun _ Ek => ?_
  exact h_e ⟨Ek.sb, Ea.pk [0]⟩
 rintro _ _ ⟨El, Ec⟩
 refine ze <| wp_seq <| d_s [0,1,6,8,9,21] [] El fun _ Ed => c_t Ed ?_
 refine wp_seq <| zk <| d_k [0,1,6,8,9,22,23,24] [] 3 Ed fun _ Em => f_o <| m_l 0 Em Ec fun _ En => f_o <| q_v En (Go.Dbr.run_shr_u64 x .i64 k (by omega) _) fun _ Eo => d_e [0,1,6,8,9] [(5, g_i .u64 (Go.Dbr.u64_xor (x := (rotr64 x i) ^^^ (rotr64 x j)) (y := x >>> zc k) rfl rfl))] Eo fun _ Ep => ?_
 refine ze <| wp_ret <| ZE <| Qu (t := 8) (v := zm (((rotr64 x i) ^^^ (rotr64 x j)) ^^^ (x >>> zc k))) Ep (by kernel_rfl) (by kernel_rfl) ?_
 exact ⟨rfl, Ec.pk []⟩
theorem mixed64_false (w : World) (x : UInt64) (i j k : Nat) (hi : 0 < i ∧ i < 64) (hj : 0 < j ∧ j < 64) (hk : 0 < k ∧ k < 64) : Calls Tryz.prog 114 #[zm x, .int .i64 64, .agg #[ni i, ni j, ni k], .bool false] w fun e w' => e = .returned (zm (mix64 x i j k false)) ∧ Ev w [] w' [] := by
 refine d_0 [(0, zm x), (1, .int .i64 64), (2, .agg #[ni i, ni j, ni k]), (3, .bool false)] 35 Go.Proofs.Tryz.func114 Go.Proofs.Tryz.ntmps114 (Heap.nil _) fun Ex Ey Ez => wp_seq <| zk <| f_o <| m_m 122 [ni i, ni j, ni k] Ey Ez fun _ _ Es EA Ew => d_e [0,1,3,6,8] [] EA fun _ EB => ?_
 refine ze <| wp_seq <| r_c (fun ac wo => Env ac 35 [(0, zm x), (1, .int .i64 64), (3, .bool false), (6, pt Es), (8, .int .u64 0), (9, zm ((rotr64 x i) ^^^ (rotr64 x j)))] ∧ Ev w [] wo [.box Es [ni i, ni j, ni k] 122]) ?_ ?_
 ·
  refine h_s (fun wv => Ev w [] wv [.box Es [ni i, ni j, ni k] 122]) [] 12 ?_
  have Ee := Ew.trans (zO Ew.heap)
  refine q_s [0,1] [] 10 EB (Ee.pk [0]) fun _ Et => q_l 0 2 Et (Ee.pk [0]) fun _ Eu => q_s [3,5,6] [] 6 Eu (Ee.pk [0]) fun _ Ef => q_l 0 7 Ef (Ee.pk [0]) fun _ Eg => ?_
  refine q_s [8] [] 4 Eg (Ee.pk [0]) fun _ Eh => q_t 4 ?_
  refine c_p Eh Ee (turned64_go _ x i (by omega) (by omega)) fun _ _ Ei Eb => ⟨fun _ => Eb.pk [0], ?_⟩
  refine q_t 9 ?_
  refine c_p Ei Eb (turned64_go _ x j (by omega) (by omega)) fun _ _ Ej Ea => ⟨fun _ => Ea.pk [0], ?_⟩
  refine q_s [10,11] [(10, g_i .u64 (Go.Dbr.u64_xor (x := rotr64 x i) (y := rotr64 x j) rfl rfl))] 0 Ej (Ea.pk [0]) fun _ Ek => ?_
  exact h_e ⟨Ek.sb, Ea.pk [0]⟩
 rintro _ _ ⟨El, Ec⟩
 refine ze <| wp_seq <| d_s [0,1,6,8,9,21] [] El fun _ Ed => c_f Ed ?_
 refine wp_skip <| ze <| wp_seq <| zk <| d_k [0,1,6,8,9,28,29,30] [] 3 Ed fun _ Em => f_o <| m_l 0 Em Ec fun _ En => d_k [0,1,6,8,9,28,29,31,32] [] 5 En fun _ Eo => f_o <| c_p Eo Ec (turned64_go _ x k (by omega) (by omega)) fun _ _ Ep Eq => ?_
 refine d_e [0,1,6,8,9] [(6, g_i .u64 (Go.Dbr.u64_xor (x := (rotr64 x i) ^^^ (rotr64 x j)) (y := rotr64 x k) rfl rfl))] Ep fun _ Er => ze <| wp_ret <| Qu (t := 8) (v := zm (((rotr64 x i) ^^^ (rotr64 x j)) ^^^ (rotr64 x k))) Er (by kernel_rfl) (by kernel_rfl) ?_
 exact ⟨rfl, Eq.pk []⟩
end Go.Proofs.YtlnogkmnklfjlaaGreatDoor.Sh

namespace Go.Proofs.YtlnogkmnklfjlaaGreatDoor.Sh
open Go.Dbr
set_option maxRecDepth 100000
set_option maxHeartbeats 2000000
set_option linter.unusedVariables false
set_option linter.unusedSimpArgs false
def beP32 (l : List UInt8) : Nat → UInt32
  | 0 => 0
  | k + 1 => (beP32 l k <<< Xx 8) ||| UInt8.toUInt32 (za l k 0)
def beW32 (l : List UInt8) (q : Nat) : UInt32 := beP32 (zn 4 (zo (4 * q) l)) 4
def wB32 (l : List UInt8) : Nat → List UInt32
  | 0 => []
  | q + 1 => wB32 l q ++ [beW32 l q]
def beP64 (l : List UInt8) : Nat → UInt64
  | 0 => 0
  | k + 1 => (beP64 l k <<< zc 8) ||| Zc (za l k 0)
def beW64 (l : List UInt8) (q : Nat) : UInt64 := beP64 (zn 8 (zo (8 * q) l)) 8
def wB64 (l : List UInt8) : Nat → List UInt64
  | 0 => []
  | q + 1 => wB64 l q ++ [beW64 l q]
theorem wB64_len (l : List UInt8) (q : Nat) : (wB64 l q).length = q := by
  induction q with
  | zero => rfl
  | succ q ih => rw [wB64, zC, ih]; rfl
theorem words64_go (w : World) (ax : Option Addr) (nx cx : Nat) (lx : List UInt8) (ex : nx = zb lx) (ix : InB w [] ax cx lx) : Calls Tryz.prog 101 #[.slice ax nx cx, .int .i64 8, .int .i64 80] w fun e w' => ∃ ao co, e = .returned (.slice ao (zb (wB64 lx (zb lx / 8))) co) ∧ Ev w [] w' [.vec ao co 1 (zh (wB64 lx (zb lx / 8))) 31] := by
 subst ex
 have hs := ix.small
 have hcx := ix.cap
 refine d_0 [(0, .slice ax (zb lx) cx), (1, .int .i64 8), (2, .int .i64 80)] 39 Go.Proofs.Tryz.func101 Go.Proofs.Tryz.ntmps101 (Heap.nil _) fun EP EQ ER => wp_seq <| d_r [0,1,2,6] [] EQ fun _ ES => ze <| wp_seq <| zk <| d_k [0,1,6,11] [] 1 ES fun _ ET => f_o <| op_makeroom (d := some 12) (t := 127) (T := 31) (m := 80) (kl := .i64) (kc := .i64) (z := .int .u64 0) (bytes := 8) ET (by kernel_rfl) ER (by kernel_rfl) (by kernel_rfl) (by kernel_rfl) (by omega) (by unfold maxLen; omega) ?_
 intro _ _ EU EV EW
 refine d_e [0,1,6,7] [] EV fun _ Em => ze <| wp_seq <| wp_block ?_
 have hD0 : zo (8 * 0) lx = lx := rfl
 refine loop_m (fun En ac wo => ∃ (q : Nat) (at1 : Option Addr) (ct : Nat) (ao : Option Addr) (co : Nat) (o : List UInt64), En = (zb lx - 8 * q : Nat) ∧ Env ac 39 [(0, .slice at1 (zb (zo (8 * q) lx)) ct), (1, .int .i64 8), (6, .slice none 0 0), (7, .slice ao (zb o) co)] ∧ Ev w [] wo [.vec ao co 1 (zh o) 31] ∧ (InB w [] at1 ct (zo (8 * q) lx)) ∧ (8 * q ≤ zb lx) ∧ (o = wB64 lx q)) ⟨_, 0, ax, cx, some ⟨EU, 0, none⟩, 80, [], rfl, Em.sb, EW.pk [0], ix, by omega, rfl⟩ ?_
 rintro EX _ _ ⟨q, at1, ct, ao, co, o, rfl, Eo, Ef, hT, hq, heo⟩
 refine wp_seq <| wp_seq ?_
 have hDl : zb (zo (8 * q) lx) = zb lx - 8 * q := zu
 refine d_r [0,1,6,7,16] [] Eo fun _ Ec => ?_
 refine ze <| c_d (((zb (zo (8 * q) lx) : Nat) : Int) ≥ (8 : Int)) Ec (fun Ep => ?_) (fun Ep => ?_)
 ·
  refine wp_skip <| ze <| wp_seq <| wp_block <| wp_seq <| d_r [0,1,6,7,8] [] Ec fun _ Eq => ze <| wp_seq <| wp_seq ?_
  have hDl : zb (zo (8 * q) lx) = zb lx - 8 * q := zu
  have hDt : zb (zn 8 (zo (8 * q) lx)) = 8 := by rw [List.length_take]; omega
  refine zk <| d_k [0,1,6,7,8,20,21] [] 2 Eq fun _ Er => f_o ?_
  have Es := hT.cap
  refine op_slice0 (d := some 22) (t := 23) (e := 5) (sz := 1) (len := zb (zo (8 * q) lx)) (cap := ct) (hi := 8) (ao := at1) (lov := none) (hiv := (some (.int .i64 8))) Er (by kernel_rfl) (by kernel_rfl) (by kernel_rfl) (by omega) (.inl ⟨rfl, rfl⟩) (.inr ⟨.i64, rfl⟩) ?_
  intro _ Et
  refine d_e [0,1,6,7,8,22,23,24] [] Et fun _ Eu => ze <| wp_block <| loop_m (fun Ew ac wo => ∃ (k : Nat) (x : UInt64), Ew = (8 - k : Nat) ∧ Env ac 39 [(0, .slice at1 (zb (zo (8 * q) lx)) ct), (1, .int .i64 8), (6, .slice none 0 0), (7, .slice ao (zb o) co), (8, zm x), (22, .slice at1 8 ct), (23, .int .i64 8), (24, ni k)] ∧ Ev w [] wo [.vec ao co 1 (zh o) 31] ∧ (k ≤ 8) ∧ (x = beP64 (zn 8 (zo (8 * q) lx)) k)) ⟨_, 0, 0, rfl, Eu.sb, Ef.pk [0], by omega, rfl⟩ ?_
  rintro EY _ _ ⟨k, x, rfl, Ex, Ed, hk, hex⟩
  refine wp_seq <| d_r [0,1,6,7,8,22,23,24,25] [] Ex fun _ Ee => ?_
  refine ze <| wp_seq <| c_d (((k : Nat) : Int) < (8 : Int)) Ee (fun Ey => ?_) (fun Ey => ?_)
  ·
   refine wp_skip <| ze <| wp_seq <| wp_block <| wp_seq ?_
   have Eg : k < 8 := (by omega)
   obtain ⟨Ea, Eb⟩ := some_of (fun e => by have := hT.nz e; omega) Eg
   refine zk <| f_o <| q_v (x := Instr.indexAt 23 (.slice at1 8 ct) (ni k)) (v := .pointer (some (Addr.add Ea k))) Ee (Go.Dbr.run_indexsl (e := 5) (sz := 1) (j := k) (jo := k) Eb (by kernel_rfl) (by kernel_rfl) (by omega) Eg (Nat.mul_one _) _) fun _ Ez => f_o ?_
   have EA : k < zb (zn 8 (zo (8 * q) lx)) := by omega
   refine op_loadel (d := some 27) (t := 5) (ad := Ea) (ao := at1) (xs := bys (zn 8 (zo (8 * q) lx))) (j := k) (v := bv (za (zn 8 (zo (8 * q) lx)) k 0)) Ez (by kernel_rfl) (bys_take_reads (hT.ev Ed).reads 8) Eb (Z9 EA) (by kernel_rfl) ?_
   intro _ EB
   refine d_e [0,1,6,7,8,10,22,23,24] [] EB fun _ EC => ze <| d_r [0,1,6,7,8,22,23,24] [(1, g_i .u64 (Go.Dbr.u64_shl (x := x) (n := 8) rfl (by decide))), (3, g_i .u64 (Go.Dbr.u8_to_u64 (x := za (zn 8 (zo (8 * q) lx)) k 0) rfl)), (4, g_i .u64 (Go.Dbr.u64_or (x := x <<< zc 8) (y := Zc (za (zn 8 (zo (8 * q) lx)) k 0)) rfl rfl))] EC fun _ ED => block_normal <| ze <| d_r [0,1,6,7,8,22,23,24] [(0, g_n (w_a k 1))] ED fun _ EE => ze <| ⟨_, ⟨k + 1, ((x <<< zc 8) ||| (Zc (za (zn 8 (zo (8 * q) lx)) k 0))), rfl, EE.sb, Ed.pk [0], by omega, by rw [hex]; rfl⟩, ?_⟩
   omega
  refine wp_exit <| zy <| zy <| block_exit <| ze ?_
  have hk4 : k = 8 := by omega
  rw [hk4] at hex
  have hol : zb o = q := by rw [heo, wB64_len]
  refine zk <| d_k [0,1,6,7,8,22,23,24,34,35] [] 2 Ee fun _ EF => f_o <| op_lit (d := some 36) (t := 127) (T := 31) (m := 1) (parts := #[(0, zm x)]) (xs := zh [x]) (sz := 1) EF (by kernel_rfl) (by kernel_rfl) rfl (by decide) Ed ?_
  intro _ _ EG EH Eh
  refine f_o <| op_append (d := some 37) (t := 127) (tx := 127) (ty := 127) (k := 0) (p := zb o) (m := 1) (x := .slice (some ⟨EG, 0, none⟩) 1 1) (bytes := 8) EH (by kernel_rfl) Eh rfl (u64s_len _) (Reads.src (size := 1) (tx := 127) (e' := 31) (by kernel_rfl) (Eh.heap.reads (k := 1) rfl) rfl (fun e => by cases e) (zt _)) (by kernel_rfl) (z := .int .u64 0) (by kernel_rfl) rfl (by decide) (by omega) (by unfold maxLen; omega) ?_
  intro _ _ EI EJ Ei Ej hnz _
  clear hnz
  rw [← u64s_append] at Ej
  have Ek : (zb o) + 1 = zb (o ++ [x]) := (by first | (simp; done) | (simp; omega) | omega)
  rw [Ek] at Ei
  refine d_e [0,1,6,7,8,22,23,24] [] Ei fun _ EK => block_normal <| ze <| zk <| d_k [0,1,6,7,8,17,18,22,23,24] [] 2 EK fun _ EL => f_o ?_
  have EM := hT.cap
  refine op_slice (d := some 19) (t := 23) (e := 5) (sz := 1) (len := zb (zo (8 * q) lx)) (cap := ct) (lo := 8) (hi := zb (zo (8 * q) lx)) (ao := at1) (lov := (some (.int .i64 8))) (hiv := none) EL (by kernel_rfl) (by kernel_rfl) (by kernel_rfl) (by omega) (by omega) (.inr ⟨.i64, rfl⟩) (.inl ⟨rfl, rfl⟩) ?_
  intro _ EN
  refine d_e [0,1,6,7,8,22,23,24] [] EN fun _ El => ze ?_
  have hTn : InB w [] (cutAt at1 ct 8 1) (ct - 8) (zo (8 * (q + 1)) lx) := by have h := hT.drop 8 (by omega); rwa [List.drop_drop] at h
  have el : (zb (zo (8 * q) lx)) - 8 = zb (zo (8 * (q + 1)) lx) := by rw [zu, zu]; omega
  rw [el] at El
  refine ⟨_, ⟨q + 1, (cutAt at1 ct 8 1), (ct - 8), EI, EJ, (o ++ [x]), rfl, El.sb, Ej.pk [0], hTn, by omega, by rw [heo, hex]; rfl⟩, ?_⟩
  omega
 refine wp_exit <| zy <| zy <| block_exit <| ze <| wp_seq <| d_r [0,1,6,7] [] Ec fun _ EO => ze <| wp_ret <| Qu (t := 6) (v := .slice ao (zb o) co) EO (by kernel_rfl) (by kernel_rfl) ?_
 have hqq : q = zb lx / 8 := by omega
 rw [hqq] at heo
 subst heo
 have Hf81 := Ef.pk [0] (M := [.vec ao co 1 (zh (wB64 lx (zb lx / 8))) 31])
 exact ⟨_, _, rfl, Hf81⟩
end Go.Proofs.YtlnogkmnklfjlaaGreatDoor.Sh

namespace Go.Proofs.YtlnogkmnklfjlaaGreatDoor.Sh
open Go.Dbr
set_option maxRecDepth 100000
set_option maxHeartbeats 2000000
set_option linter.unusedVariables false
set_option linter.unusedSimpArgs false
theorem seg_eq {l : List Value} {i j : Nat} {v : Option Value} (h : i = j) (e : l[j]? = v) : l[i]? = v := by rw [h]; exact e
theorem set_eq {l m : List Value} {i j : Nat} {v : Value} (h : i = j) (e : l.set j v = m) : l.set i v = m := by rw [h]; exact e
theorem v8 {α : Type} {v : List α} (h : v.length = 8) : ∃ a0 a1 a2 a3 a4 a5 a6 a7, v = [a0, a1, a2, a3, a4, a5, a6, a7] := by
  match v, h with
  | [a0, a1, a2, a3, a4, a5, a6, a7], _ => exact ⟨a0, a1, a2, a3, a4, a5, a6, a7, rfl⟩
def K32 : List UInt32 := [1116352408, 1899447441, 3049323471, 3921009573, 961987163, 1508970993, 2453635748, 2870763221, 3624381080, 310598401, 607225278, 1426881987, 1925078388, 2162078206, 2614888103, 3248222580, 3835390401, 4022224774, 264347078, 604807628, 770255983, 1249150122, 1555081692, 1996064986, 2554220882, 2821834349, 2952996808, 3210313671, 3336571891, 3584528711, 113926993, 338241895, 666307205, 773529912, 1294757372, 1396182291, 1695183700, 1986661051, 2177026350, 2456956037, 2730485921, 2820302411, 3259730800, 3345764771, 3516065817, 3600352804, 4094571909, 275423344, 430227734, 506948616, 659060556, 883997877, 958139571, 1322822218, 1537002063, 1747873779, 1955562222, 2024104815, 2227730452, 2361852424, 2428436474, 2756734187, 3204031479, 3329325298]
def sch32 (w : List UInt32) : Nat → List UInt32
  | 0 => w
  | q + 1 => sch32 w q ++ [((mix32 (za (sch32 w q) (14 + q) 0) 17 19 10 true + za (sch32 w q) (9 + q) 0) + mix32 (za (sch32 w q) (1 + q) 0) 7 18 3 true) + za (sch32 w q) q 0]
def x32 (v : List UInt32) (k w : UInt32) : UInt32 := (((za v 7 0 + mix32 (za v 4 0) 6 11 25 false) + (za v 6 0 ^^^ (za v 4 0 &&& (za v 5 0 ^^^ za v 6 0)))) + k) + w
def y32 (v : List UInt32) : UInt32 := mix32 (za v 0 0) 2 13 22 false + ((za v 0 0 &&& za v 1 0) ||| (za v 2 0 &&& (za v 0 0 ||| za v 1 0)))
def step32 (v : List UInt32) (k w : UInt32) : List UInt32 := [x32 v k w + y32 v, za v 0 0, za v 1 0, za v 2 0, za v 3 0 + x32 v k w, za v 4 0, za v 5 0, za v 6 0]
def rnd32 (w v : List UInt32) : Nat → List UInt32
  | 0 => v
  | j + 1 => step32 (rnd32 w v j) (za K32 j 0) (za w j 0)
def add32 (s v : List UInt32) : Nat → List UInt32
  | 0 => s
  | i + 1 => zp (add32 s v i) i (za (add32 s v i) i 0 + za v i 0)
theorem add32_len {s : List UInt32} {m : Nat} (h : s.length = m) (v : List UInt32) (i : Nat) : (add32 s v i).length = m := by
  induction i with
  | zero => exact h
  | succ i ih => simp [add32, ih]
def blk32 (s w : List UInt32) : List UInt32 := add32 s (rnd32 (sch32 w 48) s 64) 8
theorem blk32_len {s : List UInt32} {m : Nat} (h : s.length = m) (w : List UInt32) : (blk32 s w).length = m := add32_len h _ _
def K64 : List UInt64 := [4794697086780616226, 8158064640168781261, 13096744586834688815, 16840607885511220156, 4131703408338449720, 6480981068601479193, 10538285296894168987, 12329834152419229976, 15566598209576043074, 1334009975649890238, 2608012711638119052, 6128411473006802146, 8268148722764581231, 9286055187155687089, 11230858885718282805, 13951009754708518548, 16472876342353939154, 17275323862435702243, 1135362057144423861, 2597628984639134821, 3308224258029322869, 5365058923640841347, 6679025012923562964, 8573033837759648693, 10970295158949994411, 12119686244451234320, 12683024718118986047, 13788192230050041572, 14330467153632333762, 15395433587784984357, 489312712824947311, 1452737877330783856, 2861767655752347644, 3322285676063803686, 5560940570517711597, 5996557281743188959, 7280758554555802590, 8532644243296465576, 9350256976987008742, 10552545826968843579, 11727347734174303076, 12113106623233404929, 14000437183269869457, 14369950271660146224, 15101387698204529176, 15463397548674623760, 17586052441742319658, 1182934255886127544, 1847814050463011016, 2177327727835720531, 2830643537854262169, 3796741975233480872, 4115178125766777443, 5681478168544905931, 6601373596472566643, 7507060721942968483, 8399075790359081724, 8693463985226723168, 9568029438360202098, 10144078919501101548, 10430055236837252648, 11840083180663258601, 13761210420658862357, 14299343276471374635, 14566680578165727644, 15097957966210449927, 16922976911328602910, 17689382322260857208, 500013540394364858, 748580250866718886, 1242879168328830382, 1977374033974150939, 2944078676154940804, 3659926193048069267, 4368137639120453308, 4836135668995329356, 5532061633213252278, 6448918945643986474, 6902733635092675308, 7801388544844847127]
def sch64 (w : List UInt64) : Nat → List UInt64
  | 0 => w
  | q + 1 => sch64 w q ++ [((mix64 (za (sch64 w q) (14 + q) 0) 19 61 6 true + za (sch64 w q) (9 + q) 0) + mix64 (za (sch64 w q) (1 + q) 0) 1 8 7 true) + za (sch64 w q) q 0]
theorem sch64_len (w : List UInt64) (q : Nat) : (sch64 w q).length = w.length + q := by
  induction q with
  | zero => rfl
  | succ q ih => rw [sch64, zC, ih]; rfl
def x64 (v : List UInt64) (k w : UInt64) : UInt64 := (((za v 7 0 + mix64 (za v 4 0) 14 18 41 false) + (za v 6 0 ^^^ (za v 4 0 &&& (za v 5 0 ^^^ za v 6 0)))) + k) + w
def y64 (v : List UInt64) : UInt64 := mix64 (za v 0 0) 28 34 39 false + ((za v 0 0 &&& za v 1 0) ||| (za v 2 0 &&& (za v 0 0 ||| za v 1 0)))
def step64 (v : List UInt64) (k w : UInt64) : List UInt64 := [x64 v k w + y64 v, za v 0 0, za v 1 0, za v 2 0, za v 3 0 + x64 v k w, za v 4 0, za v 5 0, za v 6 0]
def rnd64 (w v : List UInt64) : Nat → List UInt64
  | 0 => v
  | j + 1 => step64 (rnd64 w v j) (za K64 j 0) (za w j 0)
def add64 (s v : List UInt64) : Nat → List UInt64
  | 0 => s
  | i + 1 => zp (add64 s v i) i (za (add64 s v i) i 0 + za v i 0)
theorem add64_len {s : List UInt64} {m : Nat} (h : s.length = m) (v : List UInt64) (i : Nat) : (add64 s v i).length = m := by
  induction i with
  | zero => exact h
  | succ i ih => simp [add64, ih]
def blk64 (s w : List UInt64) : List UInt64 := add64 s (rnd64 (sch64 w 64) s 80) 8
theorem blk64_len {s : List UInt64} {m : Nat} (h : s.length = m) (w : List UInt64) : (blk64 s w).length = m := add64_len h _ _
abbrev kL64 : List Value := [Value.int .i64 64, Value.int .i64 1, Value.int .i64 8, Value.int .i64 7, Value.int .i64 19, Value.int .i64 61, Value.int .i64 6, Value.int .i64 28, Value.int .i64 34, Value.int .i64 39, Value.int .i64 14, Value.int .i64 18, Value.int .i64 41]
end Go.Proofs.YtlnogkmnklfjlaaGreatDoor.Sh
