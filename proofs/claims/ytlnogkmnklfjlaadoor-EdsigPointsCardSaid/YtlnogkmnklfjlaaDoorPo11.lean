import Derived.Test.YtlnogkmnklfjlaaDoorPo10
import Derived.Test.YtlnogkmnklfjlaaDoorPo1
import Derived.Test.YtlnogkmnklfjlaaDoorPo2
open UInt64 renaming ofNat → za
open Go.Dbr renaming u64s_lenh → zb, then_normal → zg, u64s → zh, uv64 → zl, region_from → zm, load_whole → zn, store_whole → zo, u64s_one → zu, len_app → zw, then_exit → zy, run_loadAgg2 → zP, bys_lenh → zU, then_ret → Zg, d_cell_tmp → Zn, h_from → Zs, bys_getD → ZS, d_ret1 → ZW, one_app → ZX, h_ways → QF, h_to → QQ
open List renaming replicate → zc, length_replicate → zd, length → ze, getD → zf, toArray → zi, set → zp, take → zr, drop → zs, length_drop → zS, length_append → z4, map_append → Zv
open Go.Proofs.YtlnogkmnklfjlaaDoor renaming nds_len → zk, mulM → zq, powM → zC, subM → zJ, addM → Zf, rootOk → Ql, baseL → Yr, xOkE → YO, tA_txt → Jj, ptL_len → Jv, dmul_go → J9, rroot_tA → Xm
open Go.Dbr.Ev renaming cellAgg → zx, drew → zQ
open UInt8 renaming toNat → Zc, toUInt64 → Zi
open Bool renaming eq_false_or_eq_true → ZA, cond_false → ZZ, cond_true → Qe, true_and → QA, eq_false_iff → QM
open UInt32 renaming ofNat → JR
/- Layer 12: the base; the document: points of bytes. -/

namespace Go.Proofs.YtlnogkmnklfjlaaDoor
open Go.Dbr
set_option maxRecDepth 100000
set_option maxHeartbeats 2000000
set_option linter.unusedVariables false
set_option linter.unusedSimpArgs false

theorem base_toL : toL baseB = Yr := by rw [toL, base_pt.1, base_y.1, base_y.2]; rfl
theorem base_told (w : World) : Calls Tryd.prog 16 #[.agg #[.int .u8 88, .int .u8 102, .int .u8 102, .int .u8 102, .int .u8 102, .int .u8 102, .int .u8 102, .int .u8 102, .int .u8 102, .int .u8 102, .int .u8 102, .int .u8 102, .int .u8 102, .int .u8 102, .int .u8 102, .int .u8 102, .int .u8 102, .int .u8 102, .int .u8 102, .int .u8 102, .int .u8 102, .int .u8 102, .int .u8 102, .int .u8 102, .int .u8 102, .int .u8 102, .int .u8 102, .int .u8 102, .int .u8 102, .int .u8 102, .int .u8 102, .int .u8 102]] w fun e w' => e = .returned (.tuple #[.agg (zi (zh Yr)), .bool (isE baseB)]) ∧ Ev w [] w' [] := by
  have h := told_go w baseB rfl
  rw [base_toL] at h
  exact h

theorem base_go (w : World) : Calls Tryd.prog 22 #[] w fun e w' => e = .returned (.agg (zi (zh Yr))) ∧ Ev w [] w' [] := by
 refine d_0 [] 9 Go.Proofs.Tryd.func22 Go.Proofs.Tryd.ntmps22 (Heap.nil _) fun act0 En0 Hv0 => ?_
 refine wp_seq <| zm <| f_o <| m_z 43 ((zh (zc 4 0)) ++ ((zh (zc 4 0)) ++ ((zh (zc 4 0)) ++ (zh (zc 4 0))))) En0 Hv0 fun _ _ bk1 En4 Hv5 => ?_
 refine f_e <| zg <| wp_seq <| zm <| d_k [0,4] [] 1 En4 fun _ En7 => ?_
 refine f_o <| c_p En7 Hv5 (base_told _) fun _ _ En13 Hv14 => ?_
 refine d_k [0,6,7] [] 5 En13 fun _ En16 => ?_
 refine f_o <| m_z 43 ((zh (zc 4 0)) ++ ((zh (zc 4 0)) ++ ((zh (zc 4 0)) ++ (zh (zc 4 0))))) En16 Hv14 fun _ _ bk17 En20 Hv21 => ?_
 refine f_o <| m_g 1 0 16 (zh Yr) _ [.box bk1 ((zh (zc 4 0)) ++ ((zh (zc 4 0)) ++ ((zh (zc 4 0)) ++ (zh (zc 4 0))))) 43, .box bk17 (zh Yr) 43] En20 Hv21 rfl (zb (Jv _ _)) (by rw [(zw (zb (zd)) (zw (zb (zd)) (zw (zb (zd)) (zb (zd)))))]; first | decide | (simp; done)) (zu _) (zo (zw (zb (zd)) (zw (zb (zd)) (zw (zb (zd)) (zb (zd)))))) rfl fun _ _ En24 Hv25 => ?_
 refine d_e [0,1] [] En24 fun _ En27 => ?_
 refine zg <| wp_seq <| zm <| f_o <| m_a 1 0 16 (zh Yr) En27 Hv25 rfl (zn (zb (Jv _ _))) (zb (Jv _ _)) fun _ En29 => ?_
 refine f_o <| m_g 0 0 16 (zh Yr) _ [.box bk1 (zh Yr) 43, .box bk17 (zh Yr) 43] En29 Hv25 rfl (zb (Jv _ _)) (by rw [(zw (zb (zd)) (zw (zb (zd)) (zw (zb (zd)) (zb (zd)))))]; first | decide | (simp; done)) (zu _) (zo (zw (zb (zd)) (zw (zb (zd)) (zw (zb (zd)) (zb (zd)))))) rfl fun _ _ En32 Hv33 => ?_
 refine f_e <| zg <| wp_ret <| d_cell1 (v := .agg (zi (zh Yr))) (t := 0) (T := 43) (ad := ⟨bk1, 0, none⟩) En32 (by kernel_rfl) (by kernel_rfl) (zx (t := 43) (k := 0) (off := 0) (m := 16) (xs := zh Yr) Hv33 rfl (zn (zb (Jv _ _))) (zb (Jv _ _)) (by kernel_rfl) (by kernel_rfl)) ?_
 exact ⟨rfl, Hv33.pk []⟩

theorem point_go (w : World) (b : List UInt8) (hb : ze b = 32) : Calls Tryd.prog 7 #[.agg (zi (bys b))] w fun e w' => e = .returned (.bool (isE b)) ∧ Ev w [] w' [] := by
 refine d_0 [(0, .agg (zi (bys b)))] 11 Go.Proofs.Tryd.func7 Go.Proofs.Tryd.ntmps7 (Heap.nil _) fun act0 En0 Hv0 => ?_
 refine wp_seq <| zm <| f_o <| m_m 22 (bys b) En0 Hv0 fun _ _ bk1 En4 Hv5 => ?_
 refine d_e [1,2] [] En4 fun _ En7 => ?_
 refine zg <| wp_seq <| zm <| f_o <| m_a 0 0 32 (bys b) En7 Hv5 rfl (zn (zU hb)) (zU hb) fun _ En9 => ?_
 refine f_o <| c_p En9 Hv5 (told_go _ b hb) fun _ _ En15 Hv16 => ?_
 refine d_k [2,8,9] [] 5 En15 fun _ En18 => ?_
 refine f_o <| m_z 43 ((zh (zc 4 0)) ++ ((zh (zc 4 0)) ++ ((zh (zc 4 0)) ++ (zh (zc 4 0))))) En18 Hv16 fun _ _ bk19 En22 Hv23 => ?_
 refine f_o <| m_g 1 0 16 (zh (toL b)) _ [.box bk1 (bys b) 22, .box bk19 (zh (toL b)) 43] En22 Hv23 rfl (zb (toL_len _)) (by rw [(zw (zb (zd)) (zw (zb (zd)) (zw (zb (zd)) (zb (zd)))))]; first | decide | (simp; done)) (zu _) (zo (zw (zb (zd)) (zw (zb (zd)) (zw (zb (zd)) (zb (zd)))))) rfl fun _ _ En26 Hv27 => ?_
 refine d_e [2,4] [] En26 fun _ En29 => ?_
 refine zg <| d_s [2] [] En29 fun _ En31 => ?_
 refine wp_ret <| ZW (t := 2) (v := .bool (isE b)) En31 (by kernel_rfl) (by kernel_rfl) ?_
 exact ⟨rfl, Hv27.pk []⟩

theorem dinv_go (w : World) (a : List UInt64) (ha : ze a = 4) : Calls Tryd.prog 42 #[.agg (zi (zh a))] w fun e w' => e = .returned (.agg (zi (zh (nd (zC 1 (nv a) (mF 1 - 2)))))) ∧ Ev w [] w' [] := by
 refine d_0 [(0, .agg (zi (zh a)))] 5 Go.Proofs.Tryd.func42 Go.Proofs.Tryd.ntmps42 (Heap.nil _) fun act0 En0 Hv0 => ?_
 refine wp_seq <| zm <| f_o <| m_m 34 (zh a) En0 Hv0 fun _ _ bk1 En4 Hv5 => ?_
 refine f_o <| m_z 34 (zh (zc 4 0)) En4 Hv5 fun _ _ bk6 En9 Hv10 => ?_
 refine f_e <| zg <| wp_seq <| zm <| f_o <| m_a 0 0 4 (zh a) En9 Hv10 rfl (zn (zb ha)) (zb ha) fun _ En12 => ?_
 refine f_o <| c_p En12 Hv10 (rinv_go _ 1 h1f hR1 a ha) fun _ _ En18 Hv19 => ?_
 refine f_o <| m_g 1 0 4 (zh (nd (zC 1 (nv a) (mF 1 - 2)))) _ [.box bk1 (zh a) 34, .box bk6 (zh (nd (zC 1 (nv a) (mF 1 - 2)))) 34] En18 Hv19 rfl (zb (zk _ _)) (by rw [(zb (zd))]; first | decide | (simp; done)) (zu _) (zo (zb (zd))) rfl fun _ _ En22 Hv23 => ?_
 refine f_e <| zg <| wp_ret <| d_cell1 (v := .agg (zi (zh (nd (zC 1 (nv a) (mF 1 - 2)))))) (t := 2) (T := 34) (ad := ⟨bk6, 0, none⟩) En22 (by kernel_rfl) (by kernel_rfl) (zx (t := 34) (k := 1) (off := 0) (m := 4) (xs := zh (nd (zC 1 (nv a) (mF 1 - 2)))) Hv23 rfl (zn (zb (zk _ _))) (zb (zk _ _)) (by kernel_rfl) (by kernel_rfl)) ?_
 exact ⟨rfl, Hv23.pk []⟩

theorem d_txt : nd (zq 1 (nv (nd (zJ 1 (nv [0, 0, 0, 0]) (nv [121665, 0, 0, 0])))) (nv (nd (zC 1 (nv [121666, 0, 0, 0]) (mF 1 - 2))))) = nd DN := by
  rw [nv_iv, nv_s1, show nv [121666, 0, 0, 0] = 121666 from rfl, ivE_pw]
  exact congrArg nd (by decide +kernel)
theorem cat12 (a b c : L4) : zh a ++ (zh b ++ zh c) = zh (a ++ (b ++ c)) := by
  unfold zh
  rw [Zv, Zv]
/-- what the document tells of a y -/
def wiD (y : Nat) (odd : Bool) : L4 := bif YO y odd then ptD y odd else zc 12 0
theorem wiD_len (y : Nat) (odd : Bool) : (wiD y odd).length = 12 := by
  unfold wiD
  cases YO y odd with
  | true => exact ptD_len _ _
  | false => rfl
theorem wx_2 {y : Nat} {o : Bool} (h : Ql 1 (tA y) = false) : YO y o = false := by rw [YO, h, Bool.false_and]
theorem wx_3 {y : Nat} {o : Bool} (h : o = true) (h2 : nd (rE y) = zc 4 0) : YO y o = false := by
  have := rE_0 y
  rw [h2] at this
  rw [YO, h, ← this]
  simp
theorem wx_yes {y : Nat} {o : Bool} (h1 : Ql 1 (tA y) = true) (h2 : o = true → ¬ nd (rE y) = zc 4 0) : YO y o = true := by
  rw [YO, h1, QA]
  cases g : o with
  | false => rfl
  | true =>
    rw [QA, ← rE_0, beq_false_of_ne (h2 g)]
    rfl
theorem wi_no {y : Nat} {o : Bool} (h : YO y o = false) : zc 12 0 = wiD y o := by rw [wiD, h]; first | rw [ZZ] | rw [Qe]
theorem wi_yes {y : Nat} {o : Bool} (h : YO y o = true) : ptD y o = wiD y o := by rw [wiD, h]; first | rw [ZZ] | rw [Qe]
theorem ret_wi {a b : L4} {s t : Bool} (h1 : a = b) (h2 : s = t) : Ending.returned (.tuple #[.agg (zi (zh a)), .bool s]) = Ending.returned (.tuple #[.agg (zi (zh b)), .bool t]) := by rw [h1, h2]
theorem wt_even {y : Nat} {o : Bool} (hy : nv (nd y) = y) (h : o = false) : nd (rE y) ++ (nd y ++ [1, 0, 0, 0]) = ptD y o := by
  rw [ptD, h, xE_f, l3]
  rfl
theorem wt_odd {y : Nat} {o : Bool} (hy : nv (nd y) = y) (h : o = true) : nd (zJ 1 (nv [0, 0, 0, 0]) (nv (nd (rE y)))) ++ (nd y ++ [1, 0, 0, 0]) = ptD y o := by
  rw [rE_nv, ptD, h, xE_t, l3]
  rfl

theorem dd_go (w : World) : Calls Tryd.prog 18 #[] w fun e w' => e = .returned (.agg (zi (zh (nd DN)))) ∧ Ev w [] w' [] := by
 refine d_0 [] 7 Go.Proofs.Tryd.func18 Go.Proofs.Tryd.ntmps18 (Heap.nil _) fun act0 En0 Hv0 => ?_
 refine wp_seq <| zm <| f_o <| m_z 34 (zh (zc 4 0)) En0 Hv0 fun _ _ bk1 En4 Hv5 => ?_
 refine f_e <| zg <| wp_seq <| zm <| d_k [0,1,2] [] 2 En4 fun _ En7 => ?_
 refine f_o <| c_p En7 Hv5 (dsub_go _ ([0, 0, 0, 0] : List UInt64) ([121665, 0, 0, 0] : List UInt64) (show ze ([0, 0, 0, 0] : List UInt64) = 4 from rfl) (show ze ([121665, 0, 0, 0] : List UInt64) = 4 from rfl)) fun _ _ En13 Hv14 => ?_
 refine d_k [0,3,4] [] 4 En13 fun _ En16 => ?_
 refine f_o <| c_p En16 Hv14 (dinv_go _ ([121666, 0, 0, 0] : List UInt64) (show ze ([121666, 0, 0, 0] : List UInt64) = 4 from rfl)) fun _ _ En22 Hv23 => ?_
 refine f_o <| c_p En22 Hv23 (J9 _ (nd (zJ 1 (nv ([0, 0, 0, 0] : List UInt64)) (nv ([121665, 0, 0, 0] : List UInt64)))) (nd (zC 1 (nv ([121666, 0, 0, 0] : List UInt64)) (mF 1 - 2))) (zk _ _) (zk _ _)) fun _ _ En29 Hv30 => ?_
 refine f_o <| m_g 0 0 4 (zh (nd (zq 1 (nv (nd (zJ 1 (nv ([0, 0, 0, 0] : List UInt64)) (nv ([121665, 0, 0, 0] : List UInt64))))) (nv (nd (zC 1 (nv ([121666, 0, 0, 0] : List UInt64)) (mF 1 - 2))))))) _ [.box bk1 (zh (nd (zq 1 (nv (nd (zJ 1 (nv ([0, 0, 0, 0] : List UInt64)) (nv ([121665, 0, 0, 0] : List UInt64))))) (nv (nd (zC 1 (nv ([121666, 0, 0, 0] : List UInt64)) (mF 1 - 2))))))) 34] En29 Hv30 rfl (zb (zk _ _)) (by rw [(zb (zd))]; first | decide | (simp; done)) (zu _) (zo (zb (zd))) rfl fun _ _ En33 Hv34 => ?_
 refine f_e <| zg <| wp_ret <| d_cell1 (v := .agg (zi (zh (nd (zq 1 (nv (nd (zJ 1 (nv ([0, 0, 0, 0] : List UInt64)) (nv ([121665, 0, 0, 0] : List UInt64))))) (nv (nd (zC 1 (nv ([121666, 0, 0, 0] : List UInt64)) (mF 1 - 2))))))))) (t := 0) (T := 34) (ad := ⟨bk1, 0, none⟩) En33 (by kernel_rfl) (by kernel_rfl) (zx (t := 34) (k := 0) (off := 0) (m := 4) (xs := zh (nd (zq 1 (nv (nd (zJ 1 (nv ([0, 0, 0, 0] : List UInt64)) (nv ([121665, 0, 0, 0] : List UInt64))))) (nv (nd (zC 1 (nv ([121666, 0, 0, 0] : List UInt64)) (mF 1 - 2))))))) Hv34 rfl (zn (zb (zk _ _))) (zb (zk _ _)) (by kernel_rfl) (by kernel_rfl)) ?_
 exact ⟨congrArg (fun l : List UInt64 => Ending.returned (Value.agg (zh l).toArray)) d_txt, Hv34.pk []⟩

theorem dwith_go (w : World) (y : Nat) (hy : nv (nd y) = y) (o : Bool) : Calls Tryd.prog 39 #[.agg (zi (zh (nd y))), .bool o, .agg (zi (zh (nd DN)))] w fun e w' => e = .returned (.tuple #[.agg (zi (zh (wiD y o))), .bool (YO y o)]) ∧ Ev w [] w' [] := by
 refine d_0 [(0, .agg (zi (zh (nd y)))), (1, .bool o), (2, .agg (zi (zh (nd DN))))] 51 Go.Proofs.Tryd.func39 Go.Proofs.Tryd.ntmps39 (Heap.nil _) fun act0 En0 Hv0 => ?_
 refine wp_seq <| zm <| f_o <| m_m 34 (zh (nd y)) En0 Hv0 fun _ _ bk1 En4 Hv5 => ?_
 refine f_o <| m_m 34 (zh (nd DN)) En4 Hv5 fun _ _ bk6 En9 Hv10 => ?_
 refine f_o <| m_z 47 ((zh (zc 4 0)) ++ ((zh (zc 4 0)) ++ (zh (zc 4 0)))) En9 Hv10 fun _ _ bk11 En14 Hv15 => ?_
 refine d_e [1,3,5,6,7] [] En14 fun _ En17 => ?_
 refine zg <| wp_seq <| zm <| f_o <| m_a 0 0 4 (zh (nd y)) En17 Hv15 rfl (zn (zb (zk _ _))) (zb (zk _ _)) fun _ En19 => ?_
 refine f_o <| m_a 0 0 4 (zh (nd y)) En19 Hv15 rfl (zn (zb (zk _ _))) (zb (zk _ _)) fun _ En21 => ?_
 refine f_o <| c_p En21 Hv15 (J9 _ (nd y) (nd y) (zk _ _) (zk _ _)) fun _ _ En27 Hv28 => ?_
 refine f_o <| m_z 34 (zh (zc 4 0)) En27 Hv28 fun _ _ bk29 En32 Hv33 => ?_
 refine f_o <| m_g 3 0 4 (zh (nd (zq 1 (nv (nd y)) (nv (nd y))))) _ [.box bk1 (zh (nd y)) 34, .box bk6 (zh (nd DN)) 34, .box bk11 ((zh (zc 4 0)) ++ ((zh (zc 4 0)) ++ (zh (zc 4 0)))) 47, .box bk29 (zh (nd (zq 1 (nv (nd y)) (nv (nd y))))) 34] En32 Hv33 rfl (zb (zk _ _)) (by rw [(zb (zd))]; first | decide | (simp; done)) (zu _) (zo (zb (zd))) rfl fun _ _ En36 Hv37 => ?_
 refine f_e <| zg <| wp_seq <| zm <| f_o <| m_a 3 0 4 (zh (nd (zq 1 (nv (nd y)) (nv (nd y))))) En36 Hv37 rfl (zn (zb (zk _ _))) (zb (zk _ _)) fun _ En39 => ?_
 refine d_k [1,3,5,6,7,8,16,17] [] 2 En39 fun _ En41 => ?_
 refine f_o <| c_p En41 Hv37 (dsub_go _ (nd (zq 1 (nv (nd y)) (nv (nd y)))) ([1, 0, 0, 0] : List UInt64) (zk _ _) (show ze ([1, 0, 0, 0] : List UInt64) = 4 from rfl)) fun _ _ En47 Hv48 => ?_
 refine f_o <| m_z 34 (zh (zc 4 0)) En47 Hv48 fun _ _ bk49 En52 Hv53 => ?_
 refine f_o <| m_g 4 0 4 (zh (nd (zJ 1 (nv (nd (zq 1 (nv (nd y)) (nv (nd y))))) (nv ([1, 0, 0, 0] : List UInt64))))) _ [.box bk1 (zh (nd y)) 34, .box bk6 (zh (nd DN)) 34, .box bk11 ((zh (zc 4 0)) ++ ((zh (zc 4 0)) ++ (zh (zc 4 0)))) 47, .box bk29 (zh (nd (zq 1 (nv (nd y)) (nv (nd y))))) 34, .box bk49 (zh (nd (zJ 1 (nv (nd (zq 1 (nv (nd y)) (nv (nd y))))) (nv ([1, 0, 0, 0] : List UInt64))))) 34] En52 Hv53 rfl (zb (zk _ _)) (by rw [(zb (zd))]; first | decide | (simp; done)) (zu _) (zo (zb (zd))) rfl fun _ _ En56 Hv57 => ?_
 refine f_e <| zg <| wp_seq <| zm <| f_o <| m_a 1 0 4 (zh (nd DN)) En56 Hv57 rfl (zn (zb (zk _ _))) (zb (zk _ _)) fun _ En59 => ?_
 refine f_o <| m_a 3 0 4 (zh (nd (zq 1 (nv (nd y)) (nv (nd y))))) En59 Hv57 rfl (zn (zb (zk _ _))) (zb (zk _ _)) fun _ En61 => ?_
 refine f_o <| c_p En61 Hv57 (J9 _ (nd DN) (nd (zq 1 (nv (nd y)) (nv (nd y)))) (zk _ _) (zk _ _)) fun _ _ En67 Hv68 => ?_
 refine d_k [1,3,6,7,8,9,21,22] [] 4 En67 fun _ En70 => ?_
 refine f_o <| c_p En70 Hv68 (dadd_go _ (nd (zq 1 (nv (nd DN)) (nv (nd (zq 1 (nv (nd y)) (nv (nd y))))))) ([1, 0, 0, 0] : List UInt64) (zk _ _) (show ze ([1, 0, 0, 0] : List UInt64) = 4 from rfl)) fun _ _ En76 Hv77 => ?_
 refine f_o <| m_z 34 (zh (zc 4 0)) En76 Hv77 fun _ _ bk78 En81 Hv82 => ?_
 refine f_o <| m_g 5 0 4 (zh (nd (Zf 1 (nv (nd (zq 1 (nv (nd DN)) (nv (nd (zq 1 (nv (nd y)) (nv (nd y)))))))) (nv ([1, 0, 0, 0] : List UInt64))))) _ [.box bk1 (zh (nd y)) 34, .box bk6 (zh (nd DN)) 34, .box bk11 ((zh (zc 4 0)) ++ ((zh (zc 4 0)) ++ (zh (zc 4 0)))) 47, .box bk29 (zh (nd (zq 1 (nv (nd y)) (nv (nd y))))) 34, .box bk49 (zh (nd (zJ 1 (nv (nd (zq 1 (nv (nd y)) (nv (nd y))))) (nv ([1, 0, 0, 0] : List UInt64))))) 34, .box bk78 (zh (nd (Zf 1 (nv (nd (zq 1 (nv (nd DN)) (nv (nd (zq 1 (nv (nd y)) (nv (nd y)))))))) (nv ([1, 0, 0, 0] : List UInt64))))) 34] En81 Hv82 rfl (zb (zk _ _)) (by rw [(zb (zd))]; first | decide | (simp; done)) (zu _) (zo (zb (zd))) rfl fun _ _ En85 Hv86 => ?_
 refine f_e <| zg <| wp_seq <| r_c (fun ac wo => ∃ (bk335 : Nat), Env ac 51 [(1, .bool o), (3, pt bk1), (6, pt bk11), (7, .bool false), (8, pt bk29), (9, pt bk49), (10, pt bk78), (11, pt bk335), (12, .bool (Ql 1 (tA y)))] ∧ Ev w [] wo [.box bk1 (zh (nd y)) 34, .box bk11 ((zh (zc 4 0)) ++ ((zh (zc 4 0)) ++ (zh (zc 4 0)))) 47, .box bk29 (zh (nd (zq 1 (nv (nd y)) (nv (nd y))))) 34, .box bk49 (zh (nd (zJ 1 (nv (nd (zq 1 (nv (nd y)) (nv (nd y))))) (nv ([1, 0, 0, 0] : List UInt64))))) 34, .box bk78 (zh (nd (Zf 1 (nv (nd (zq 1 (nv (nd DN)) (nv (nd (zq 1 (nv (nd y)) (nv (nd y)))))))) (nv ([1, 0, 0, 0] : List UInt64))))) 34, .box bk335 (zh (nd (rE y))) 34]) ?_ ?_
 ·
  refine h_s (fun wv => Ev w [] wv [.box bk49 (zh (nd (zJ 1 (nv (nd (zq 1 (nv (nd y)) (nv (nd y))))) (nv ([1, 0, 0, 0] : List UInt64))))) 34, .box bk78 (zh (nd (Zf 1 (nv (nd (zq 1 (nv (nd DN)) (nv (nd (zq 1 (nv (nd y)) (nv (nd y)))))))) (nv ([1, 0, 0, 0] : List UInt64))))) 34]) [] 11 ?_
  have wo87 := Hv86.trans (zQ Hv86.heap)
  refine h_name fun G hG => ?_
  have nd427 : ∀ (ac : Act) (wo : World), Env ac 51 [(1, .bool o), (3, pt bk1), (6, pt bk11), (7, .bool false), (8, pt bk29), (9, pt bk49), (10, pt bk78), (29, .tuple #[.agg (zi (zh (nd (rE y)))), .bool (Ql 1 (tA y))])] → Ev w [] wo [.box bk1 (zh (nd y)) 34, .box bk11 ((zh (zc 4 0)) ++ ((zh (zc 4 0)) ++ (zh (zc 4 0)))) 47, .box bk29 (zh (nd (zq 1 (nv (nd y)) (nv (nd y))))) 34, .box bk49 (zh (nd (zJ 1 (nv (nd (zq 1 (nv (nd y)) (nv (nd y))))) (nv ([1, 0, 0, 0] : List UInt64))))) 34, .box bk78 (zh (nd (Zf 1 (nv (nd (zq 1 (nv (nd DN)) (nv (nd (zq 1 (nv (nd y)) (nv (nd y)))))))) (nv ([1, 0, 0, 0] : List UInt64))))) 34] → G 6 #[true, true, true, true, true, false, false, false, false, false, false] ac wo := by
   intro _ _ En430 Hv431
   refine Zs hG ?_
   refine q_s [5,6,7] [] 3 En430 (Hv431.pk [3, 4]) fun _ En433 => ?_
   refine q_t 8 ?_
   refine m_z 34 (zh (zc 4 0)) En433 Hv431 fun _ _ bk434 En437 Hv438 => ?_
   refine ⟨fun _ => Hv438.pk [3, 4], ?_⟩
   refine q_t 9 ?_
   refine m_g 5 0 4 (zh (nd (rE y))) _ [.box bk1 (zh (nd y)) 34, .box bk11 ((zh (zc 4 0)) ++ ((zh (zc 4 0)) ++ (zh (zc 4 0)))) 47, .box bk29 (zh (nd (zq 1 (nv (nd y)) (nv (nd y))))) 34, .box bk49 (zh (nd (zJ 1 (nv (nd (zq 1 (nv (nd y)) (nv (nd y))))) (nv ([1, 0, 0, 0] : List UInt64))))) 34, .box bk78 (zh (nd (Zf 1 (nv (nd (zq 1 (nv (nd DN)) (nv (nd (zq 1 (nv (nd y)) (nv (nd y)))))))) (nv ([1, 0, 0, 0] : List UInt64))))) 34, .box bk434 (zh (nd (rE y))) 34] En437 Hv438 rfl (zb (zk _ _)) (by rw [(zb (zd))]; first | decide | (simp; done)) (zu _) (zo (zb (zd))) rfl fun _ _ En441 Hv442 => ?_
   refine ⟨fun _ => Hv442.pk [3, 4], ?_⟩
   refine q_s [10] [] 0 En441 (Hv442.pk [3, 4]) fun _ En444 => ?_
   exact h_e ⟨bk434, En444.sb, Hv442.pk [0, 1, 2, 3, 4, 5]⟩
  have nd445 : ∀ (ac : Act) (wo : World) (bk346 : Nat), Env ac 51 [(1, .bool o), (3, pt bk1), (6, pt bk11), (7, .bool false), (8, pt bk29), (9, pt bk49), (10, pt bk78), (11, pt bk346), (28, .agg (zi (zh (nd (zq 1 (nv (nd (zJ 1 (nv (nd (zq 1 (nv (nd y)) (nv (nd y))))) (nv ([1, 0, 0, 0] : List UInt64))))) (nv (nd (zC 1 (nv (nd (Zf 1 (nv (nd (zq 1 (nv (nd DN)) (nv (nd (zq 1 (nv (nd y)) (nv (nd y)))))))) (nv ([1, 0, 0, 0] : List UInt64))))) (mF 1 - 2)))))))))] → Ev w [] wo [.box bk1 (zh (nd y)) 34, .box bk11 ((zh (zc 4 0)) ++ ((zh (zc 4 0)) ++ (zh (zc 4 0)))) 47, .box bk29 (zh (nd (zq 1 (nv (nd y)) (nv (nd y))))) 34, .box bk49 (zh (nd (zJ 1 (nv (nd (zq 1 (nv (nd y)) (nv (nd y))))) (nv ([1, 0, 0, 0] : List UInt64))))) 34, .box bk78 (zh (nd (Zf 1 (nv (nd (zq 1 (nv (nd DN)) (nv (nd (zq 1 (nv (nd y)) (nv (nd y)))))))) (nv ([1, 0, 0, 0] : List UInt64))))) 34, .box bk346 (zh (zc 4 0)) 34] → G 6 #[true, true, true, true, false, false, false, false, true, false, false] ac wo := by
   intro _ _ bk346 En448 Hv449
   refine Zs hG ?_
   refine q_t 4 ?_
   refine c_p En448 Hv449 (Xm _ (show (nd (zq 1 (nv (nd (zJ 1 (nv (nd (zq 1 (nv (nd y)) (nv (nd y))))) (nv ([1, 0, 0, 0] : List UInt64))))) (nv (nd (zC 1 (nv (nd (Zf 1 (nv (nd (zq 1 (nv (nd DN)) (nv (nd (zq 1 (nv (nd y)) (nv (nd y)))))))) (nv ([1, 0, 0, 0] : List UInt64))))) (mF 1 - 2)))))) = nd (tA y) from Jj hy)) fun _ _ En455 Hv456 => ?_
   refine ⟨fun _ => Hv456.pk [3, 4], ?_⟩
   refine q_s [5,6,7] [] 2 En455 (Hv456.pk [3, 4]) fun _ En458 => ?_
   refine q_t 9 ?_
   refine m_g 5 0 4 (zh (nd (rE y))) _ [.box bk1 (zh (nd y)) 34, .box bk11 ((zh (zc 4 0)) ++ ((zh (zc 4 0)) ++ (zh (zc 4 0)))) 47, .box bk29 (zh (nd (zq 1 (nv (nd y)) (nv (nd y))))) 34, .box bk49 (zh (nd (zJ 1 (nv (nd (zq 1 (nv (nd y)) (nv (nd y))))) (nv ([1, 0, 0, 0] : List UInt64))))) 34, .box bk78 (zh (nd (Zf 1 (nv (nd (zq 1 (nv (nd DN)) (nv (nd (zq 1 (nv (nd y)) (nv (nd y)))))))) (nv ([1, 0, 0, 0] : List UInt64))))) 34, .box bk346 (zh (nd (rE y))) 34] En458 Hv456 rfl (zb (zk _ _)) (by rw [(zb (zd))]; first | decide | (simp; done)) (zu _) (zo (zb (zd))) rfl fun _ _ En461 Hv462 => ?_
   refine ⟨fun _ => Hv462.pk [3, 4], ?_⟩
   refine q_s [10] [] 0 En461 (Hv462.pk [3, 4]) fun _ En464 => ?_
   exact h_e ⟨bk346, En464.sb, Hv462.pk [0, 1, 2, 3, 4, 5]⟩
  have nd465 : ∀ (ac : Act) (wo : World), Env ac 51 [(1, .bool o), (3, pt bk1), (6, pt bk11), (7, .bool false), (8, pt bk29), (9, pt bk49), (10, pt bk78), (28, .agg (zi (zh (nd (zq 1 (nv (nd (zJ 1 (nv (nd (zq 1 (nv (nd y)) (nv (nd y))))) (nv ([1, 0, 0, 0] : List UInt64))))) (nv (nd (zC 1 (nv (nd (Zf 1 (nv (nd (zq 1 (nv (nd DN)) (nv (nd (zq 1 (nv (nd y)) (nv (nd y)))))))) (nv ([1, 0, 0, 0] : List UInt64))))) (mF 1 - 2)))))))))] → Ev w [] wo [.box bk1 (zh (nd y)) 34, .box bk11 ((zh (zc 4 0)) ++ ((zh (zc 4 0)) ++ (zh (zc 4 0)))) 47, .box bk29 (zh (nd (zq 1 (nv (nd y)) (nv (nd y))))) 34, .box bk49 (zh (nd (zJ 1 (nv (nd (zq 1 (nv (nd y)) (nv (nd y))))) (nv ([1, 0, 0, 0] : List UInt64))))) 34, .box bk78 (zh (nd (Zf 1 (nv (nd (zq 1 (nv (nd DN)) (nv (nd (zq 1 (nv (nd y)) (nv (nd y)))))))) (nv ([1, 0, 0, 0] : List UInt64))))) 34] → G 7 #[true, true, true, true, false, false, false, false, false, false, false] ac wo := by
   intro _ _ En468 Hv469
   refine Zs hG ?_
   refine QF [4, 8] (by kernel_rfl) rfl ?_
   refine ⟨?_, ?_, trivial⟩
   ·
    rintro _ rfl
    refine c_p En468 Hv469 (Xm _ (show (nd (zq 1 (nv (nd (zJ 1 (nv (nd (zq 1 (nv (nd y)) (nv (nd y))))) (nv ([1, 0, 0, 0] : List UInt64))))) (nv (nd (zC 1 (nv (nd (Zf 1 (nv (nd (zq 1 (nv (nd DN)) (nv (nd (zq 1 (nv (nd y)) (nv (nd y)))))))) (nv ([1, 0, 0, 0] : List UInt64))))) (mF 1 - 2)))))) = nd (tA y) from Jj hy)) fun _ _ En475 Hv476 => ?_
    refine ⟨fun _ => Hv476.pk [3, 4], ?_⟩
    exact QQ hG (by kernel_rfl) (nd427 _ _ (En475.sb) (Hv476.pk [0, 1, 2, 3, 4]))
   rintro _ rfl
   refine m_z 34 (zh (zc 4 0)) En468 Hv469 fun _ _ bk477 En480 Hv481 => ?_
   refine ⟨fun _ => Hv481.pk [3, 4], ?_⟩
   exact QQ hG (by kernel_rfl) (nd445 _ _ bk477 (En480.sb) (Hv481.pk [0, 1, 2, 3, 4, 5]))
  have nd482 : ∀ (ac : Act) (wo : World) (bk366 : Nat), Env ac 51 [(1, .bool o), (3, pt bk1), (6, pt bk11), (7, .bool false), (8, pt bk29), (9, pt bk49), (10, pt bk78), (11, pt bk366), (25, .agg (zi (zh (nd (zJ 1 (nv (nd (zq 1 (nv (nd y)) (nv (nd y))))) (nv ([1, 0, 0, 0] : List UInt64))))))), (27, .agg (zi (zh (nd (zC 1 (nv (nd (Zf 1 (nv (nd (zq 1 (nv (nd DN)) (nv (nd (zq 1 (nv (nd y)) (nv (nd y)))))))) (nv ([1, 0, 0, 0] : List UInt64))))) (mF 1 - 2))))))] → Ev w [] wo [.box bk1 (zh (nd y)) 34, .box bk11 ((zh (zc 4 0)) ++ ((zh (zc 4 0)) ++ (zh (zc 4 0)))) 47, .box bk29 (zh (nd (zq 1 (nv (nd y)) (nv (nd y))))) 34, .box bk49 (zh (nd (zJ 1 (nv (nd (zq 1 (nv (nd y)) (nv (nd y))))) (nv ([1, 0, 0, 0] : List UInt64))))) 34, .box bk78 (zh (nd (Zf 1 (nv (nd (zq 1 (nv (nd DN)) (nv (nd (zq 1 (nv (nd y)) (nv (nd y)))))))) (nv ([1, 0, 0, 0] : List UInt64))))) 34, .box bk366 (zh (zc 4 0)) 34] → G 7 #[true, true, true, false, false, false, false, false, true, false, false] ac wo := by
   intro _ _ bk366 En485 Hv486
   refine Zs hG ?_
   refine q_t 3 ?_
   refine c_p En485 Hv486 (J9 _ (nd (zJ 1 (nv (nd (zq 1 (nv (nd y)) (nv (nd y))))) (nv ([1, 0, 0, 0] : List UInt64)))) (nd (zC 1 (nv (nd (Zf 1 (nv (nd (zq 1 (nv (nd DN)) (nv (nd (zq 1 (nv (nd y)) (nv (nd y)))))))) (nv ([1, 0, 0, 0] : List UInt64))))) (mF 1 - 2))) (zk _ _) (zk _ _)) fun _ _ En492 Hv493 => ?_
   refine ⟨fun _ => Hv493.pk [3, 4], ?_⟩
   refine q_t 4 ?_
   refine c_p En492 Hv493 (Xm _ (show (nd (zq 1 (nv (nd (zJ 1 (nv (nd (zq 1 (nv (nd y)) (nv (nd y))))) (nv ([1, 0, 0, 0] : List UInt64))))) (nv (nd (zC 1 (nv (nd (Zf 1 (nv (nd (zq 1 (nv (nd DN)) (nv (nd (zq 1 (nv (nd y)) (nv (nd y)))))))) (nv ([1, 0, 0, 0] : List UInt64))))) (mF 1 - 2)))))) = nd (tA y) from Jj hy)) fun _ _ En499 Hv500 => ?_
   refine ⟨fun _ => Hv500.pk [3, 4], ?_⟩
   refine q_s [5,6,7] [] 2 En499 (Hv500.pk [3, 4]) fun _ En502 => ?_
   refine q_t 9 ?_
   refine m_g 5 0 4 (zh (nd (rE y))) _ [.box bk1 (zh (nd y)) 34, .box bk11 ((zh (zc 4 0)) ++ ((zh (zc 4 0)) ++ (zh (zc 4 0)))) 47, .box bk29 (zh (nd (zq 1 (nv (nd y)) (nv (nd y))))) 34, .box bk49 (zh (nd (zJ 1 (nv (nd (zq 1 (nv (nd y)) (nv (nd y))))) (nv ([1, 0, 0, 0] : List UInt64))))) 34, .box bk78 (zh (nd (Zf 1 (nv (nd (zq 1 (nv (nd DN)) (nv (nd (zq 1 (nv (nd y)) (nv (nd y)))))))) (nv ([1, 0, 0, 0] : List UInt64))))) 34, .box bk366 (zh (nd (rE y))) 34] En502 Hv500 rfl (zb (zk _ _)) (by rw [(zb (zd))]; first | decide | (simp; done)) (zu _) (zo (zb (zd))) rfl fun _ _ En505 Hv506 => ?_
   refine ⟨fun _ => Hv506.pk [3, 4], ?_⟩
   refine q_s [10] [] 0 En505 (Hv506.pk [3, 4]) fun _ En508 => ?_
   exact h_e ⟨bk366, En508.sb, Hv506.pk [0, 1, 2, 3, 4, 5]⟩
  have nd509 : ∀ (ac : Act) (wo : World), Env ac 51 [(1, .bool o), (3, pt bk1), (6, pt bk11), (7, .bool false), (8, pt bk29), (9, pt bk49), (10, pt bk78), (25, .agg (zi (zh (nd (zJ 1 (nv (nd (zq 1 (nv (nd y)) (nv (nd y))))) (nv ([1, 0, 0, 0] : List UInt64))))))), (27, .agg (zi (zh (nd (zC 1 (nv (nd (Zf 1 (nv (nd (zq 1 (nv (nd DN)) (nv (nd (zq 1 (nv (nd y)) (nv (nd y)))))))) (nv ([1, 0, 0, 0] : List UInt64))))) (mF 1 - 2))))))] → Ev w [] wo [.box bk1 (zh (nd y)) 34, .box bk11 ((zh (zc 4 0)) ++ ((zh (zc 4 0)) ++ (zh (zc 4 0)))) 47, .box bk29 (zh (nd (zq 1 (nv (nd y)) (nv (nd y))))) 34, .box bk49 (zh (nd (zJ 1 (nv (nd (zq 1 (nv (nd y)) (nv (nd y))))) (nv ([1, 0, 0, 0] : List UInt64))))) 34, .box bk78 (zh (nd (Zf 1 (nv (nd (zq 1 (nv (nd DN)) (nv (nd (zq 1 (nv (nd y)) (nv (nd y)))))))) (nv ([1, 0, 0, 0] : List UInt64))))) 34] → G 8 #[true, true, true, false, false, false, false, false, false, false, false] ac wo := by
   intro _ _ En512 Hv513
   refine Zs hG ?_
   refine QF [3, 8] (by kernel_rfl) rfl ?_
   refine ⟨?_, ?_, trivial⟩
   ·
    rintro _ rfl
    refine c_p En512 Hv513 (J9 _ (nd (zJ 1 (nv (nd (zq 1 (nv (nd y)) (nv (nd y))))) (nv ([1, 0, 0, 0] : List UInt64)))) (nd (zC 1 (nv (nd (Zf 1 (nv (nd (zq 1 (nv (nd DN)) (nv (nd (zq 1 (nv (nd y)) (nv (nd y)))))))) (nv ([1, 0, 0, 0] : List UInt64))))) (mF 1 - 2))) (zk _ _) (zk _ _)) fun _ _ En519 Hv520 => ?_
    refine ⟨fun _ => Hv520.pk [3, 4], ?_⟩
    exact QQ hG (by kernel_rfl) (nd465 _ _ (En519.sb) (Hv520.pk [0, 1, 2, 3, 4]))
   rintro _ rfl
   refine m_z 34 (zh (zc 4 0)) En512 Hv513 fun _ _ bk521 En524 Hv525 => ?_
   refine ⟨fun _ => Hv525.pk [3, 4], ?_⟩
   exact QQ hG (by kernel_rfl) (nd482 _ _ bk521 (En524.sb) (Hv525.pk [0, 1, 2, 3, 4, 5]))
  have nd526 : ∀ (ac : Act) (wo : World) (bk393 : Nat), Env ac 51 [(1, .bool o), (3, pt bk1), (6, pt bk11), (7, .bool false), (8, pt bk29), (9, pt bk49), (10, pt bk78), (11, pt bk393), (25, .agg (zi (zh (nd (zJ 1 (nv (nd (zq 1 (nv (nd y)) (nv (nd y))))) (nv ([1, 0, 0, 0] : List UInt64))))))), (26, .agg (zi (zh (nd (Zf 1 (nv (nd (zq 1 (nv (nd DN)) (nv (nd (zq 1 (nv (nd y)) (nv (nd y)))))))) (nv ([1, 0, 0, 0] : List UInt64)))))))] → Ev w [] wo [.box bk1 (zh (nd y)) 34, .box bk11 ((zh (zc 4 0)) ++ ((zh (zc 4 0)) ++ (zh (zc 4 0)))) 47, .box bk29 (zh (nd (zq 1 (nv (nd y)) (nv (nd y))))) 34, .box bk49 (zh (nd (zJ 1 (nv (nd (zq 1 (nv (nd y)) (nv (nd y))))) (nv ([1, 0, 0, 0] : List UInt64))))) 34, .box bk78 (zh (nd (Zf 1 (nv (nd (zq 1 (nv (nd DN)) (nv (nd (zq 1 (nv (nd y)) (nv (nd y)))))))) (nv ([1, 0, 0, 0] : List UInt64))))) 34, .box bk393 (zh (zc 4 0)) 34] → G 8 #[true, true, false, false, false, false, false, false, true, false, false] ac wo := by
   intro _ _ bk393 En529 Hv530
   refine Zs hG ?_
   refine q_t 2 ?_
   refine c_p En529 Hv530 (dinv_go _ (nd (Zf 1 (nv (nd (zq 1 (nv (nd DN)) (nv (nd (zq 1 (nv (nd y)) (nv (nd y)))))))) (nv ([1, 0, 0, 0] : List UInt64)))) (zk _ _)) fun _ _ En536 Hv537 => ?_
   refine ⟨fun _ => Hv537.pk [3, 4], ?_⟩
   refine q_t 3 ?_
   refine c_p En536 Hv537 (J9 _ (nd (zJ 1 (nv (nd (zq 1 (nv (nd y)) (nv (nd y))))) (nv ([1, 0, 0, 0] : List UInt64)))) (nd (zC 1 (nv (nd (Zf 1 (nv (nd (zq 1 (nv (nd DN)) (nv (nd (zq 1 (nv (nd y)) (nv (nd y)))))))) (nv ([1, 0, 0, 0] : List UInt64))))) (mF 1 - 2))) (zk _ _) (zk _ _)) fun _ _ En543 Hv544 => ?_
   refine ⟨fun _ => Hv544.pk [3, 4], ?_⟩
   refine q_t 4 ?_
   refine c_p En543 Hv544 (Xm _ (show (nd (zq 1 (nv (nd (zJ 1 (nv (nd (zq 1 (nv (nd y)) (nv (nd y))))) (nv ([1, 0, 0, 0] : List UInt64))))) (nv (nd (zC 1 (nv (nd (Zf 1 (nv (nd (zq 1 (nv (nd DN)) (nv (nd (zq 1 (nv (nd y)) (nv (nd y)))))))) (nv ([1, 0, 0, 0] : List UInt64))))) (mF 1 - 2)))))) = nd (tA y) from Jj hy)) fun _ _ En550 Hv551 => ?_
   refine ⟨fun _ => Hv551.pk [3, 4], ?_⟩
   refine q_s [5,6,7] [] 2 En550 (Hv551.pk [3, 4]) fun _ En553 => ?_
   refine q_t 9 ?_
   refine m_g 5 0 4 (zh (nd (rE y))) _ [.box bk1 (zh (nd y)) 34, .box bk11 ((zh (zc 4 0)) ++ ((zh (zc 4 0)) ++ (zh (zc 4 0)))) 47, .box bk29 (zh (nd (zq 1 (nv (nd y)) (nv (nd y))))) 34, .box bk49 (zh (nd (zJ 1 (nv (nd (zq 1 (nv (nd y)) (nv (nd y))))) (nv ([1, 0, 0, 0] : List UInt64))))) 34, .box bk78 (zh (nd (Zf 1 (nv (nd (zq 1 (nv (nd DN)) (nv (nd (zq 1 (nv (nd y)) (nv (nd y)))))))) (nv ([1, 0, 0, 0] : List UInt64))))) 34, .box bk393 (zh (nd (rE y))) 34] En553 Hv551 rfl (zb (zk _ _)) (by rw [(zb (zd))]; first | decide | (simp; done)) (zu _) (zo (zb (zd))) rfl fun _ _ En556 Hv557 => ?_
   refine ⟨fun _ => Hv557.pk [3, 4], ?_⟩
   refine q_s [10] [] 0 En556 (Hv557.pk [3, 4]) fun _ En559 => ?_
   exact h_e ⟨bk393, En559.sb, Hv557.pk [0, 1, 2, 3, 4, 5]⟩
  refine Zs hG ?_
  refine q_r 0 (s := Instr.loadAt 34 (pt bk49)) (v := .agg (zi (zh (nd (zJ 1 (nv (nd (zq 1 (nv (nd y)) (nv (nd y))))) (nv ([1, 0, 0, 0] : List UInt64))))))) En85 (fun w hS => zP (m := 4) (cs := zh (nd (zJ 1 (nv (nd (zq 1 (nv (nd y)) (nv (nd y))))) (nv ([1, 0, 0, 0] : List UInt64))))) (zb (zk _ _)) (by kernel_rfl) (by kernel_rfl) (hS.heap.cells (k := 0) (off := 0) (m := 4) rfl (zn (zb (zk _ _))))) (wo87.pk [4, 5]) fun _ En561 => ?_
  refine q_r 1 (s := Instr.loadAt 34 (pt bk78)) (v := .agg (zi (zh (nd (Zf 1 (nv (nd (zq 1 (nv (nd DN)) (nv (nd (zq 1 (nv (nd y)) (nv (nd y)))))))) (nv ([1, 0, 0, 0] : List UInt64))))))) En561 (fun w hS => zP (m := 4) (cs := zh (nd (Zf 1 (nv (nd (zq 1 (nv (nd DN)) (nv (nd (zq 1 (nv (nd y)) (nv (nd y)))))))) (nv ([1, 0, 0, 0] : List UInt64))))) (zb (zk _ _)) (by kernel_rfl) (by kernel_rfl) (hS.heap.cells (k := 1) (off := 0) (m := 4) rfl (zn (zb (zk _ _))))) (wo87.pk [4, 5]) fun _ En563 => ?_
  refine QF [2, 8] (by kernel_rfl) rfl ?_
  refine ⟨?_, ?_, trivial⟩
  ·
   rintro _ rfl
   refine c_p En563 wo87 (dinv_go _ (nd (Zf 1 (nv (nd (zq 1 (nv (nd DN)) (nv (nd (zq 1 (nv (nd y)) (nv (nd y)))))))) (nv ([1, 0, 0, 0] : List UInt64)))) (zk _ _)) fun _ _ En569 Hv570 => ?_
   refine ⟨fun _ => Hv570.pk [4, 5], ?_⟩
   exact QQ hG (by kernel_rfl) (nd509 _ _ (En569.sb) (Hv570.pk [0, 2, 3, 4, 5]))
  rintro _ rfl
  refine m_z 34 (zh (zc 4 0)) En563 wo87 fun _ _ bk571 En574 Hv575 => ?_
  refine ⟨fun _ => Hv575.pk [4, 5], ?_⟩
  exact QQ hG (by kernel_rfl) (nd526 _ _ bk571 (En574.sb) (Hv575.pk [0, 2, 3, 4, 5, 6]))
 rintro _ _ ⟨bk335, En578, Hv579⟩
 refine zg <| wp_seq <| wp_seq <| zm <| d_k [1,3,6,7,8,9,10,11,34] [] 3 En578 fun _ En581 => ?_
 rcases ZA (!(Ql 1 (tA y))) with hb582 | hb582
 ·
  have En583 := En581.fx (t := 34) (congrArg Value.bool hb582)
  have hp584 : ¬ (Ql 1 (tA y) = true) := by simpa using hb582
  refine d_e [1,3,6,7,8,9,10,11,41] [] En583 fun _ En586 => ?_
  refine zg <| c_t En586 ?_
  refine wp_seq <| zm <| d_k [1,3,6,7,8,9,10,11,42] [] 1 En586 fun _ En588 => ?_
  refine f_o <| m_g 1 0 12 [.int .u64 0, .int .u64 0, .int .u64 0, .int .u64 0, .int .u64 0, .int .u64 0, .int .u64 0, .int .u64 0, .int .u64 0, .int .u64 0, .int .u64 0, .int .u64 0] _ [.box bk1 (zh (nd y)) 34, .box bk11 [.int .u64 0, .int .u64 0, .int .u64 0, .int .u64 0, .int .u64 0, .int .u64 0, .int .u64 0, .int .u64 0, .int .u64 0, .int .u64 0, .int .u64 0, .int .u64 0] 47, .box bk29 (zh (nd (zq 1 (nv (nd y)) (nv (nd y))))) 34, .box bk49 (zh (nd (zJ 1 (nv (nd (zq 1 (nv (nd y)) (nv (nd y))))) (nv ([1, 0, 0, 0] : List UInt64))))) 34, .box bk78 (zh (nd (Zf 1 (nv (nd (zq 1 (nv (nd DN)) (nv (nd (zq 1 (nv (nd y)) (nv (nd y)))))))) (nv ([1, 0, 0, 0] : List UInt64))))) 34, .box bk335 (zh (nd (rE y))) 34] En588 Hv579 rfl rfl (by rw [(zw (zb (zd)) (zw (zb (zd)) (zb (zd))))]; first | decide | (simp; done)) (one_all (by kernel_rfl)) (zo (zw (zb (zd)) (zw (zb (zd)) (zb (zd))))) rfl fun _ _ En591 Hv592 => ?_
  refine d_e [1,3,6,7,8,9,10,11] [] En591 fun _ En594 => ?_
  refine zg <| wp_ret <| Zg <| Zn (v := .agg #[.int .u64 0, .int .u64 0, .int .u64 0, .int .u64 0, .int .u64 0, .int .u64 0, .int .u64 0, .int .u64 0, .int .u64 0, .int .u64 0, .int .u64 0, .int .u64 0]) (x := .bool false) (t := 6) (T := 47) (ad := ⟨bk11, 0, none⟩) (u := 7) En594 (by kernel_rfl) (by kernel_rfl) (zx (t := 47) (k := 1) (off := 0) (m := 12) (xs := [.int .u64 0, .int .u64 0, .int .u64 0, .int .u64 0, .int .u64 0, .int .u64 0, .int .u64 0, .int .u64 0, .int .u64 0, .int .u64 0, .int .u64 0, .int .u64 0]) Hv592 rfl rfl rfl (by kernel_rfl) (by kernel_rfl)) (by kernel_rfl) ?_
  have ei : YO y o = false := wx_2 (QM.2 hp584)
  exact ⟨(show _ = Ending.returned (.tuple #[.agg (zi (zh (zc 12 0))), .bool false]) from by kernel_rfl).trans (ret_wi (wi_no ei) ei.symm), Hv592.pk []⟩
 have En595 := En581.fx (t := 34) (congrArg Value.bool hb582)
 have hp596 : Ql 1 (tA y) = true := by simpa using hb582
 refine d_k [1,3,6,7,8,9,10,11,34,36] [] 5 En595 fun _ En598 => ?_
 rcases ZA (o) with hb599 | hb599
 ·
  have En600 := En598.fx (t := 1) (congrArg Value.bool hb599)
  have En601 := En600.fx (t := 36) (congrArg Value.bool hb599)
  have hp602 : o = true := hb599
  refine f_o <| m_a 5 0 4 (zh (nd (rE y))) En601 Hv579 rfl (zn (zb (zk _ _))) (zb (zk _ _)) fun _ En604 => ?_
  refine d_k [1,3,6,7,8,9,10,11,34,36,37,38] [] 7 En604 fun _ En606 => ?_
  refine f_o <| q_v (x := eqOp .eql 34 (.tmp 37) (.tmp 38) (.agg (zi (zh (nd (rE y))))) (.agg (zi (zh ([0, 0, 0, 0] : List UInt64))))) (v := .bool ((nd (rE y)) == ([0, 0, 0, 0] : List UInt64))) En606 (Go.Dbr.u64s_eqop (a := (.tmp 37)) (b := (.tmp 38)) (e := 32) (m := 4) (by kernel_rfl) (by kernel_rfl) (by kernel_rfl) (by kernel_rfl) (by kernel_rfl) (zk _ _) (show ze ([0, 0, 0, 0] : List UInt64) = 4 from rfl) _) fun _ En608 => ?_
  refine d_e [1,3,6,7,8,9,10,11,41] [] En608 fun _ En610 => ?_
  refine zg <| cond_at En610 (t := (nd (rE y)) == ([0, 0, 0, 0] : List UInt64)) (by kernel_rfl) (fun hc611 => ?_) (fun hc611 => ?_)
  ·
   replace hc611 : (nd (rE y)) = ([0, 0, 0, 0] : List UInt64) := eq_of_beq hc611
   refine wp_seq <| zm <| d_k [1,3,6,7,8,9,10,11,42] [] 1 En610 fun _ En613 => ?_
   refine f_o <| m_g 1 0 12 [.int .u64 0, .int .u64 0, .int .u64 0, .int .u64 0, .int .u64 0, .int .u64 0, .int .u64 0, .int .u64 0, .int .u64 0, .int .u64 0, .int .u64 0, .int .u64 0] _ [.box bk1 (zh (nd y)) 34, .box bk11 [.int .u64 0, .int .u64 0, .int .u64 0, .int .u64 0, .int .u64 0, .int .u64 0, .int .u64 0, .int .u64 0, .int .u64 0, .int .u64 0, .int .u64 0, .int .u64 0] 47, .box bk29 (zh (nd (zq 1 (nv (nd y)) (nv (nd y))))) 34, .box bk49 (zh (nd (zJ 1 (nv (nd (zq 1 (nv (nd y)) (nv (nd y))))) (nv ([1, 0, 0, 0] : List UInt64))))) 34, .box bk78 (zh (nd (Zf 1 (nv (nd (zq 1 (nv (nd DN)) (nv (nd (zq 1 (nv (nd y)) (nv (nd y)))))))) (nv ([1, 0, 0, 0] : List UInt64))))) 34, .box bk335 (zh (nd (rE y))) 34] En613 Hv579 rfl rfl (by rw [(zw (zb (zd)) (zw (zb (zd)) (zb (zd))))]; first | decide | (simp; done)) (one_all (by kernel_rfl)) (zo (zw (zb (zd)) (zw (zb (zd)) (zb (zd))))) rfl fun _ _ En616 Hv617 => ?_
   refine d_e [1,3,6,7,8,9,10,11] [] En616 fun _ En619 => ?_
   refine zg <| wp_ret <| Zg <| Zn (v := .agg #[.int .u64 0, .int .u64 0, .int .u64 0, .int .u64 0, .int .u64 0, .int .u64 0, .int .u64 0, .int .u64 0, .int .u64 0, .int .u64 0, .int .u64 0, .int .u64 0]) (x := .bool false) (t := 6) (T := 47) (ad := ⟨bk11, 0, none⟩) (u := 7) En619 (by kernel_rfl) (by kernel_rfl) (zx (t := 47) (k := 1) (off := 0) (m := 12) (xs := [.int .u64 0, .int .u64 0, .int .u64 0, .int .u64 0, .int .u64 0, .int .u64 0, .int .u64 0, .int .u64 0, .int .u64 0, .int .u64 0, .int .u64 0, .int .u64 0]) Hv617 rfl rfl rfl (by kernel_rfl) (by kernel_rfl)) (by kernel_rfl) ?_
   have ei : YO y o = false := wx_3 (by simpa using hp602) hc611
   exact ⟨(show _ = Ending.returned (.tuple #[.agg (zi (zh (zc 12 0))), .bool false]) from by kernel_rfl).trans (ret_wi (wi_no ei) ei.symm), Hv617.pk []⟩
  replace hc611 : ¬ ((nd (rE y)) = ([0, 0, 0, 0] : List UInt64)) := ne_of_beq_false hc611
  refine wp_skip <| zg <| wp_seq <| d_s [1,3,6,7,8,9,10,11,43] [] En610 fun _ En621 => ?_
  refine c_t En621 ?_
  refine zm <| d_k [1,3,6,7,8,9,10,11,44] [] 1 En621 fun _ En623 => ?_
  refine f_o <| m_a 5 0 4 (zh (nd (rE y))) En623 Hv579 rfl (zn (zb (zk _ _))) (zb (zk _ _)) fun _ En625 => ?_
  refine f_o <| c_p En625 Hv579 (dsub_go _ ([0, 0, 0, 0] : List UInt64) (nd (rE y)) (show ze ([0, 0, 0, 0] : List UInt64) = 4 from rfl) (zk _ _)) fun _ _ En631 Hv632 => ?_
  refine f_o <| m_g 5 0 4 (zh (nd (zJ 1 (nv ([0, 0, 0, 0] : List UInt64)) (nv (nd (rE y)))))) _ [.box bk1 (zh (nd y)) 34, .box bk11 ((zh (zc 4 0)) ++ ((zh (zc 4 0)) ++ (zh (zc 4 0)))) 47, .box bk29 (zh (nd (zq 1 (nv (nd y)) (nv (nd y))))) 34, .box bk49 (zh (nd (zJ 1 (nv (nd (zq 1 (nv (nd y)) (nv (nd y))))) (nv ([1, 0, 0, 0] : List UInt64))))) 34, .box bk78 (zh (nd (Zf 1 (nv (nd (zq 1 (nv (nd DN)) (nv (nd (zq 1 (nv (nd y)) (nv (nd y)))))))) (nv ([1, 0, 0, 0] : List UInt64))))) 34, .box bk335 (zh (nd (zJ 1 (nv ([0, 0, 0, 0] : List UInt64)) (nv (nd (rE y)))))) 34] En631 Hv632 rfl (zb (zk _ _)) (by rw [(zb (zk _ _))]; first | decide | (simp; done)) (zu _) (zo (zb (zk _ _))) rfl fun _ _ En635 Hv636 => ?_
  refine f_e <| zg <| wp_seq <| zm <| f_o <| m_a 5 0 4 (zh (nd (zJ 1 (nv ([0, 0, 0, 0] : List UInt64)) (nv (nd (rE y)))))) En635 Hv636 rfl (zn (zb (zk _ _))) (zb (zk _ _)) fun _ En638 => ?_
  refine f_o <| m_a 0 0 4 (zh (nd y)) En638 Hv636 rfl (zn (zb (zk _ _))) (zb (zk _ _)) fun _ En640 => ?_
  refine d_k [1,3,6,7,8,9,10,11,50] [] 4 En640 fun _ En642 => ?_
  refine f_o <| m_g 1 0 12 ((zh (nd (zJ 1 (nv ([0, 0, 0, 0] : List UInt64)) (nv (nd (rE y)))))) ++ ((zh (nd y)) ++ (zh ([1, 0, 0, 0] : List UInt64)))) _ [.box bk1 (zh (nd y)) 34, .box bk11 ((zh (nd (zJ 1 (nv ([0, 0, 0, 0] : List UInt64)) (nv (nd (rE y)))))) ++ ((zh (nd y)) ++ (zh ([1, 0, 0, 0] : List UInt64)))) 47, .box bk29 (zh (nd (zq 1 (nv (nd y)) (nv (nd y))))) 34, .box bk49 (zh (nd (zJ 1 (nv (nd (zq 1 (nv (nd y)) (nv (nd y))))) (nv ([1, 0, 0, 0] : List UInt64))))) 34, .box bk78 (zh (nd (Zf 1 (nv (nd (zq 1 (nv (nd DN)) (nv (nd (zq 1 (nv (nd y)) (nv (nd y)))))))) (nv ([1, 0, 0, 0] : List UInt64))))) 34, .box bk335 (zh (nd (zJ 1 (nv ([0, 0, 0, 0] : List UInt64)) (nv (nd (rE y)))))) 34] En642 Hv636 rfl (zw (zb (zk _ _)) (zw (zb (zk _ _)) (zb (show ze ([1, 0, 0, 0] : List UInt64) = 4 from rfl)))) (by rw [(zw (zb (zd)) (zw (zb (zd)) (zb (zd))))]; first | decide | (simp; done)) (ZX (zu _) (ZX (zu _) (zu _))) (zo (zw (zb (zd)) (zw (zb (zd)) (zb (zd))))) rfl fun _ _ En645 Hv646 => ?_
  refine d_e [1,3,6,7,8,9,10,11] [] En645 fun _ En648 => ?_
  refine zg <| wp_ret <| Zn (v := .agg (zi ((zh (nd (zJ 1 (nv ([0, 0, 0, 0] : List UInt64)) (nv (nd (rE y)))))) ++ ((zh (nd y)) ++ (zh ([1, 0, 0, 0] : List UInt64)))))) (x := .bool true) (t := 6) (T := 47) (ad := ⟨bk11, 0, none⟩) (u := 7) En648 (by kernel_rfl) (by kernel_rfl) (zx (t := 47) (k := 1) (off := 0) (m := 12) (xs := (zh (nd (zJ 1 (nv ([0, 0, 0, 0] : List UInt64)) (nv (nd (rE y)))))) ++ ((zh (nd y)) ++ (zh ([1, 0, 0, 0] : List UInt64)))) Hv646 rfl (zn (zw (zb (zk _ _)) (zw (zb (zk _ _)) (zb (show ze ([1, 0, 0, 0] : List UInt64) = 4 from rfl))))) (zw (zb (zk _ _)) (zw (zb (zk _ _)) (zb (show ze ([1, 0, 0, 0] : List UInt64) = 4 from rfl)))) (by kernel_rfl) (by kernel_rfl)) (by kernel_rfl) ?_
  have ho : o = true := by simpa using hp602
  have ei : YO y o = true := wx_yes hp596 (fun _ => hc611)
  exact ⟨by rw [cat12]; exact ret_wi ((wt_odd hy ho).trans (wi_yes ei)) ei.symm, Hv646.pk []⟩
 have En649 := En598.fx (t := 1) (congrArg Value.bool hb599)
 have En650 := En649.fx (t := 36) (congrArg Value.bool hb599)
 have hp651 : ¬ (o = true) := QM.1 hb599
 refine d_e [1,3,6,7,8,9,10,11,41] [] En650 fun _ En653 => ?_
 refine zg <| c_f En653 ?_
 refine wp_skip <| zg <| wp_seq <| d_s [1,3,6,7,8,9,10,11,43] [] En653 fun _ En655 => ?_
 refine c_f En655 ?_
 refine wp_skip <| zg <| wp_seq <| zm <| f_o <| m_a 5 0 4 (zh (nd (rE y))) En655 Hv579 rfl (zn (zb (zk _ _))) (zb (zk _ _)) fun _ En657 => ?_
 refine f_o <| m_a 0 0 4 (zh (nd y)) En657 Hv579 rfl (zn (zb (zk _ _))) (zb (zk _ _)) fun _ En659 => ?_
 refine d_k [1,3,6,7,8,9,10,11,50] [] 4 En659 fun _ En661 => ?_
 refine f_o <| m_g 1 0 12 ((zh (nd (rE y))) ++ ((zh (nd y)) ++ (zh ([1, 0, 0, 0] : List UInt64)))) _ [.box bk1 (zh (nd y)) 34, .box bk11 ((zh (nd (rE y))) ++ ((zh (nd y)) ++ (zh ([1, 0, 0, 0] : List UInt64)))) 47, .box bk29 (zh (nd (zq 1 (nv (nd y)) (nv (nd y))))) 34, .box bk49 (zh (nd (zJ 1 (nv (nd (zq 1 (nv (nd y)) (nv (nd y))))) (nv ([1, 0, 0, 0] : List UInt64))))) 34, .box bk78 (zh (nd (Zf 1 (nv (nd (zq 1 (nv (nd DN)) (nv (nd (zq 1 (nv (nd y)) (nv (nd y)))))))) (nv ([1, 0, 0, 0] : List UInt64))))) 34, .box bk335 (zh (nd (rE y))) 34] En661 Hv579 rfl (zw (zb (zk _ _)) (zw (zb (zk _ _)) (zb (show ze ([1, 0, 0, 0] : List UInt64) = 4 from rfl)))) (by rw [(zw (zb (zd)) (zw (zb (zd)) (zb (zd))))]; first | decide | (simp; done)) (ZX (zu _) (ZX (zu _) (zu _))) (zo (zw (zb (zd)) (zw (zb (zd)) (zb (zd))))) rfl fun _ _ En664 Hv665 => ?_
 refine d_e [1,3,6,7,8,9,10,11] [] En664 fun _ En667 => ?_
 refine zg <| wp_ret <| Zn (v := .agg (zi ((zh (nd (rE y))) ++ ((zh (nd y)) ++ (zh ([1, 0, 0, 0] : List UInt64)))))) (x := .bool true) (t := 6) (T := 47) (ad := ⟨bk11, 0, none⟩) (u := 7) En667 (by kernel_rfl) (by kernel_rfl) (zx (t := 47) (k := 1) (off := 0) (m := 12) (xs := (zh (nd (rE y))) ++ ((zh (nd y)) ++ (zh ([1, 0, 0, 0] : List UInt64)))) Hv665 rfl (zn (zw (zb (zk _ _)) (zw (zb (zk _ _)) (zb (show ze ([1, 0, 0, 0] : List UInt64) = 4 from rfl))))) (zw (zb (zk _ _)) (zw (zb (zk _ _)) (zb (show ze ([1, 0, 0, 0] : List UInt64) = 4 from rfl)))) (by kernel_rfl) (by kernel_rfl)) (by kernel_rfl) ?_
 have ho : o = false := by simpa using hp651
 have ei : YO y o = true := wx_yes hp596 (fun g => absurd (g.symm.trans ho) (by decide))
 exact ⟨by rw [cat12]; exact ret_wi ((wt_even hy ho).trans (wi_yes ei)) ei.symm, Hv665.pk []⟩

theorem od_2 (b : List UInt8) : decide (((Zc (zf b 31 0) : Nat) : Int) ≥ (128 : Int)) = odE b := by
  rw [odE]
  exact decide_eq_decide.2 (by omega)
def toD (b : List UInt8) : L4 := bif decide (yE b < mF 1) then wiD (yE b) (odE b) else zc 12 0
theorem toD_len (b : List UInt8) : (toD b).length = 12 := by
  unfold toD
  generalize decide (yE b < mF 1) = t
  cases t with
  | true => rw [Qe]; exact wiD_len (yE b) (odE b)
  | false => rw [ZZ]; exact zd
theorem dto_no {b : List UInt8} (h : ¬ yE b < mF 1) : zc 12 0 = toD b := by rw [toD, decide_eq_false h, ZZ]
theorem dto_yes {b : List UInt8} (h : yE b < mF 1) : wiD (yE b) (odE b) = toD b ∧ YO (yE b) (odE b) = isE b := by
  rw [toD, isE, decide_eq_true h, Qe, QA]
  exact ⟨rfl, rfl⟩

theorem rless1_go (w : World) (a : List UInt64) (ha : ze a = 4) : Calls Tryd.prog 38 #[.agg (zi (zh a)), .agg (zi (zh (nd (mF 1))))] w fun e w' => e = .returned (.bool (decide (nv a < mF 1))) ∧ Ev w [] w' [] := by
  have h := rless_go w a (nd (mF 1)) ha (zk _ _)
  rw [nv_mF] at h
  exact h

theorem dtold_go (w : World) (b : List UInt8) (hb : ze b = 32) : Calls Tryd.prog 17 #[.agg (zi (bys b)), .agg (zi (zh (nd DN)))] w fun e w' => e = .returned (.tuple #[.agg (zi (zh (toD b))), .bool (isE b)]) ∧ Ev w [] w' [] := by
 refine d_0 [(0, .agg (zi (bys b))), (1, .agg (zi (zh (nd DN))))] 28 Go.Proofs.Tryd.func17 Go.Proofs.Tryd.ntmps17 (Heap.nil _) fun act0 En0 Hv0 => ?_
 refine wp_seq <| zm <| f_o <| m_m 22 (bys b) En0 Hv0 fun _ _ bk1 En4 Hv5 => ?_
 refine f_o <| m_m 34 (zh (nd DN)) En4 Hv5 fun _ _ bk6 En9 Hv10 => ?_
 refine f_o <| m_z 47 ((zh (zc 4 0)) ++ ((zh (zc 4 0)) ++ (zh (zc 4 0)))) En9 Hv10 fun _ _ bk11 En14 Hv15 => ?_
 refine d_e [2,3,4,5] [] En14 fun _ En17 => ?_
 refine zg <| wp_seq <| zm <| d_k [2,3,4,5,8] [] 1 En17 fun _ En19 => ?_
 refine f_o ?_
 have hb20 : 31 < ze b := by rw [hb]; omega
 refine m_v 0 31 (bv (zf b 31 0)) En19 Hv15 rfl (ZS hb20) fun _ En22 => ?_
 refine d_e [2,3,4,5,6] [(2, g_b (show (decide (((Zc (zf b 31 0) : Nat) : Int) ≥ (128 : Int))) = odE b from od_2 b))] En22 fun _ En24 => ?_
 refine zg <| wp_seq <| zm <| d_k [2,3,4,5,6,11] [] 1 En24 fun _ En26 => ?_
 refine f_o ?_
 have hb27 : 31 < ze b := by rw [hb]; omega
 refine m_v 0 31 (bv (zf b 31 0)) En26 Hv15 rfl (ZS hb27) fun _ En29 => ?_
 refine d_k [2,3,4,5,6,13,14] [(2, g_i .u8 (Go.Dbr.u8_and (x := zf b 31 0) (y := (127 : UInt8)) rfl rfl))] 4 En29 fun _ En31 => ?_
 refine f_o ?_
 have hb32 : 31 < ze b := by rw [hb]; omega
 refine m_t 0 31 (bv ((zf b 31 0) &&& (127 : UInt8))) [.box bk1 (bys (zp b 31 ((zf b 31 0) &&& (127 : UInt8)))) 22, .box bk6 (zh (nd DN)) 34, .box bk11 ((zh (zc 4 0)) ++ ((zh (zc 4 0)) ++ (zh (zc 4 0)))) 47] En31 Hv15 rfl (ZS hb32) (bys_set _ _ _) rfl fun _ _ En35 Hv36 => ?_
 refine f_e <| zg <| wp_seq <| zm <| f_o <| m_a 0 0 32 (bys (zp b 31 ((zf b 31 0) &&& (127 : UInt8)))) En35 Hv36 rfl (zn (zU (List.length_set.trans hb))) (zU (List.length_set.trans hb)) fun _ En38 => ?_
 refine f_o <| c_p En38 Hv36 (rfromle_go _ (zp b 31 ((zf b 31 0) &&& (127 : UInt8))) (List.length_set.trans hb)) fun _ _ En44 Hv45 => ?_
 refine f_o <| m_z 34 (zh (zc 4 0)) En44 Hv45 fun _ _ bk46 En49 Hv50 => ?_
 refine f_o <| m_g 3 0 4 (zh (nd (lv (zp b 31 ((zf b 31 0) &&& (127 : UInt8)))))) _ [.box bk1 (bys (zp b 31 ((zf b 31 0) &&& (127 : UInt8)))) 22, .box bk6 (zh (nd DN)) 34, .box bk11 ((zh (zc 4 0)) ++ ((zh (zc 4 0)) ++ (zh (zc 4 0)))) 47, .box bk46 (zh (nd (lv (zp b 31 ((zf b 31 0) &&& (127 : UInt8)))))) 34] En49 Hv50 rfl (zb (zk _ _)) (by rw [(zb (zd))]; first | decide | (simp; done)) (zu _) (zo (zb (zd))) rfl fun _ _ En53 Hv54 => ?_
 refine f_e <| zg <| wp_seq <| wp_seq ?_
 rw [show (nd (lv (zp b 31 ((zf b 31 0) &&& (127 : UInt8))))) = (nd (yE b)) from rfl] at Hv54
 refine r_c (fun ac wo => Env ac 28 [(2, pt bk1), (3, pt bk6), (4, pt bk11), (5, .bool false), (6, .bool (odE b)), (7, pt bk46), (20, .bool (!(decide (nv (nd (yE b)) < mF 1))))] ∧ Ev w [] wo [.box bk1 (bys (zp b 31 ((zf b 31 0) &&& (127 : UInt8)))) 22, .box bk6 (zh (nd DN)) 34, .box bk11 ((zh (zc 4 0)) ++ ((zh (zc 4 0)) ++ (zh (zc 4 0)))) 47, .box bk46 (zh (nd (yE b))) 34]) ?_ ?_
 ·
  refine s_g0 [(2, pt bk1), (3, pt bk6), (4, pt bk11), (5, .bool false), (6, .bool (odE b)), (7, pt bk46)] [0,1,2,3] [(17, .agg (zi (zh (nd (yE b))))), (18, .agg (zi (zh (nd (mF 1))))), (19, .bool (decide (nv (nd (yE b)) < mF 1))), (20, .bool (!(decide (nv (nd (yE b)) < mF 1))))] 0 [(2, pt bk1), (3, pt bk6), (4, pt bk11), (5, .bool false), (6, .bool (odE b)), (7, pt bk46), (20, .bool (!(decide (nv (nd (yE b)) < mF 1))))] (En53.sb) (Hv54.trans (zQ Hv54.heap)) ?_ fun _ _ En80 Hv81 => ?_
  ·
   refine s_a 3 0 4 (zh (nd (yE b))) rfl (zn (zb (zk _ _))) (zb (zk _ _)) ?_
   refine s_f (fun _ => rmodulus_go _ 1) ?_
   refine s_f (fun _ => rless1_go _ (nd (yE b)) (zk _ _)) ?_
   refine s_p [] ?_
   exact s_n
  exact a_e ⟨En80.sb, Hv81.pk [0, 1, 2, 3]⟩
 rintro _ _ ⟨En84, Hv85⟩
 refine zg <| cond_at En84 (t := !(decide (nv (nd (yE b)) < mF 1))) (by kernel_rfl) (fun hc86 => ?_) (fun hc86 => ?_)
 ·
  replace hc86 : ¬ (nv (nd (yE b)) < mF 1) := by simpa using hc86
  refine wp_seq <| zm <| d_k [2,3,4,5,6,7,21] [] 1 En84 fun _ En88 => ?_
  refine f_o <| m_g 2 0 12 [.int .u64 0, .int .u64 0, .int .u64 0, .int .u64 0, .int .u64 0, .int .u64 0, .int .u64 0, .int .u64 0, .int .u64 0, .int .u64 0, .int .u64 0, .int .u64 0] _ [.box bk1 (bys (zp b 31 ((zf b 31 0) &&& (127 : UInt8)))) 22, .box bk6 (zh (nd DN)) 34, .box bk11 [.int .u64 0, .int .u64 0, .int .u64 0, .int .u64 0, .int .u64 0, .int .u64 0, .int .u64 0, .int .u64 0, .int .u64 0, .int .u64 0, .int .u64 0, .int .u64 0] 47, .box bk46 (zh (nd (yE b))) 34] En88 Hv85 rfl rfl (by rw [(zw (zb (zd)) (zw (zb (zd)) (zb (zd))))]; first | decide | (simp; done)) (one_all (by kernel_rfl)) (zo (zw (zb (zd)) (zw (zb (zd)) (zb (zd))))) rfl fun _ _ En91 Hv92 => ?_
  refine d_e [2,3,4,5,6,7] [] En91 fun _ En94 => ?_
  refine zg <| wp_ret <| Zg <| Zn (v := .agg #[.int .u64 0, .int .u64 0, .int .u64 0, .int .u64 0, .int .u64 0, .int .u64 0, .int .u64 0, .int .u64 0, .int .u64 0, .int .u64 0, .int .u64 0, .int .u64 0]) (x := .bool false) (t := 4) (T := 47) (ad := ⟨bk11, 0, none⟩) (u := 5) En94 (by kernel_rfl) (by kernel_rfl) (zx (t := 47) (k := 2) (off := 0) (m := 12) (xs := [.int .u64 0, .int .u64 0, .int .u64 0, .int .u64 0, .int .u64 0, .int .u64 0, .int .u64 0, .int .u64 0, .int .u64 0, .int .u64 0, .int .u64 0, .int .u64 0]) Hv92 rfl rfl rfl (by kernel_rfl) (by kernel_rfl)) (by kernel_rfl) ?_
  have hn : ¬ yE b < mF 1 := (by rw [← nv_y hb]; first | exact hc86 | simpa using hc86)
  exact ⟨(show _ = Ending.returned (.tuple #[.agg (zi (zh (zc 12 0))), .bool false]) from by kernel_rfl).trans (ret_wi (dto_no hn) (no_1 hn).symm), Hv92.pk []⟩
 replace hc86 : nv (nd (yE b)) < mF 1 := by simpa using hc86
 refine wp_skip <| zg <| wp_seq <| zm <| f_o <| m_a 3 0 4 (zh (nd (yE b))) En84 Hv85 rfl (zn (zb (zk _ _))) (zb (zk _ _)) fun _ En96 => ?_
 refine d_k [2,3,4,5,7,22,23] [] 2 En96 fun _ En98 => ?_
 refine f_o <| m_a 1 0 4 (zh (nd DN)) En98 Hv85 rfl (zn (zb (zk _ _))) (zb (zk _ _)) fun _ En100 => ?_
 refine f_o <| c_p En100 Hv85 (dwith_go _ (yE b) (nv_y hb) (odE b)) fun _ _ En106 Hv107 => ?_
 refine d_k [2,4,5,7,26,27] [] 6 En106 fun _ En109 => ?_
 refine f_o <| m_g 2 0 12 (zh (wiD (yE b) (odE b))) _ [.box bk1 (bys (zp b 31 ((zf b 31 0) &&& (127 : UInt8)))) 22, .box bk6 (zh (nd DN)) 34, .box bk11 (zh (wiD (yE b) (odE b))) 47, .box bk46 (zh (nd (yE b))) 34] En109 Hv107 rfl (zb (wiD_len _ _)) (by rw [(zw (zb (zd)) (zw (zb (zd)) (zb (zd))))]; first | decide | (simp; done)) (zu _) (zo (zw (zb (zd)) (zw (zb (zd)) (zb (zd))))) rfl fun _ _ En112 Hv113 => ?_
 refine d_e [2,4,5,7] [] En112 fun _ En115 => ?_
 refine zg <| wp_ret <| Zn (v := .agg (zi (zh (wiD (yE b) (odE b))))) (x := .bool (YO (yE b) (odE b))) (t := 4) (T := 47) (ad := ⟨bk11, 0, none⟩) (u := 5) En115 (by kernel_rfl) (by kernel_rfl) (zx (t := 47) (k := 2) (off := 0) (m := 12) (xs := zh (wiD (yE b) (odE b))) Hv113 rfl (zn (zb (wiD_len _ _))) (zb (wiD_len _ _)) (by kernel_rfl) (by kernel_rfl)) (by kernel_rfl) ?_
 have hy1 : yE b < mF 1 := (by rw [← nv_y hb]; first | exact hc86 | simpa using hc86)
 exact ⟨ret_wi (dto_yes hy1).1 (dto_yes hy1).2, Hv113.pk []⟩

theorem dispoint_go (w : World) (b : List UInt8) (hb : ze b = 32) : Calls Tryd.prog 8 #[.agg (zi (bys b))] w fun e w' => e = .returned (.bool (isE b)) ∧ Ev w [] w' [] := by
 refine d_0 [(0, .agg (zi (bys b)))] 12 Go.Proofs.Tryd.func8 Go.Proofs.Tryd.ntmps8 (Heap.nil _) fun act0 En0 Hv0 => ?_
 refine wp_seq <| zm <| f_o <| m_m 22 (bys b) En0 Hv0 fun _ _ bk1 En4 Hv5 => ?_
 refine d_e [1,2] [] En4 fun _ En7 => ?_
 refine zg <| wp_seq <| r_c (fun ac wo => Env ac 12 [(2, .bool false), (4, .bool (isE b))] ∧ Ev w [] wo []) ?_ ?_
 ·
  refine h_s (fun wv => Ev w [] wv [.box bk1 (bys b) 22]) [] 9 ?_
  have wo8 := Hv5.trans (zQ Hv5.heap)
  refine h_name fun G hG => ?_
  have nd206 : ∀ (ac : Act) (wo : World), Env ac 12 [(2, .bool false), (8, .tuple #[.agg (zi (zh (toD b))), .bool (isE b)])] → Ev w [] wo [.box bk1 (bys b) 22] → G 6 #[true, true, true, false, false, false, false, false, false] ac wo := by
   intro _ _ En209 Hv210
   refine Zs hG ?_
   refine q_s [3,4,5] [] 3 En209 (Hv210.pk [0]) fun _ En212 => ?_
   refine q_t 6 ?_
   refine m_z 47 ((zh (zc 4 0)) ++ ((zh (zc 4 0)) ++ (zh (zc 4 0)))) En212 Hv210 fun _ _ bk213 En216 Hv217 => ?_
   refine ⟨fun _ => Hv217.pk [0], ?_⟩
   refine q_t 7 ?_
   refine m_g 1 0 12 (zh (toD b)) _ [.box bk1 (bys b) 22, .box bk213 (zh (toD b)) 47] En216 Hv217 rfl (zb (toD_len _)) (by rw [(zw (zb (zd)) (zw (zb (zd)) (zb (zd))))]; first | decide | (simp; done)) (zu _) (zo (zw (zb (zd)) (zw (zb (zd)) (zb (zd))))) rfl fun _ _ En220 Hv221 => ?_
   refine ⟨fun _ => Hv221.pk [0], ?_⟩
   refine q_s [8] [] 0 En220 (Hv221.pk [0]) fun _ En223 => ?_
   exact h_e ⟨En223.sb, Hv221.pk []⟩
  have nd224 : ∀ (ac : Act) (wo : World) (bk159 : Nat), Env ac 12 [(2, .bool false), (3, pt bk159), (6, .agg (zi (bys b))), (7, .agg (zi (zh (nd DN))))] → Ev w [] wo [.box bk1 (bys b) 22, .box bk159 ((zh (zc 4 0)) ++ ((zh (zc 4 0)) ++ (zh (zc 4 0)))) 47] → G 6 #[true, true, false, false, false, false, true, false, false] ac wo := by
   intro _ _ bk159 En227 Hv228
   refine Zs hG ?_
   refine q_t 2 ?_
   refine c_p En227 Hv228 (dtold_go _ b hb) fun _ _ En234 Hv235 => ?_
   refine ⟨fun _ => Hv235.pk [0], ?_⟩
   refine q_s [3,4,5] [] 2 En234 (Hv235.pk [0]) fun _ En237 => ?_
   refine q_t 7 ?_
   refine m_g 1 0 12 (zh (toD b)) _ [.box bk1 (bys b) 22, .box bk159 (zh (toD b)) 47] En237 Hv235 rfl (zb (toD_len _)) (by rw [(zw (zb (zd)) (zw (zb (zd)) (zb (zd))))]; first | decide | (simp; done)) (zu _) (zo (zw (zb (zd)) (zw (zb (zd)) (zb (zd))))) rfl fun _ _ En240 Hv241 => ?_
   refine ⟨fun _ => Hv241.pk [0], ?_⟩
   refine q_s [8] [] 0 En240 (Hv241.pk [0]) fun _ En243 => ?_
   exact h_e ⟨En243.sb, Hv241.pk []⟩
  have nd244 : ∀ (ac : Act) (wo : World), Env ac 12 [(2, .bool false), (6, .agg (zi (bys b))), (7, .agg (zi (zh (nd DN))))] → Ev w [] wo [.box bk1 (bys b) 22] → G 7 #[true, true, false, false, false, false, false, false, false] ac wo := by
   intro _ _ En247 Hv248
   refine Zs hG ?_
   refine QF [2, 6] (by kernel_rfl) rfl ?_
   refine ⟨?_, ?_, trivial⟩
   ·
    rintro _ rfl
    refine c_p En247 Hv248 (dtold_go _ b hb) fun _ _ En254 Hv255 => ?_
    refine ⟨fun _ => Hv255.pk [0], ?_⟩
    exact QQ hG (by kernel_rfl) (nd206 _ _ (En254.sb) (Hv255.pk [0]))
   rintro _ rfl
   refine m_z 47 ((zh (zc 4 0)) ++ ((zh (zc 4 0)) ++ (zh (zc 4 0)))) En247 Hv248 fun _ _ bk256 En259 Hv260 => ?_
   refine ⟨fun _ => Hv260.pk [0], ?_⟩
   exact QQ hG (by kernel_rfl) (nd224 _ _ bk256 (En259.sb) (Hv260.pk [0, 1]))
  have nd261 : ∀ (ac : Act) (wo : World) (bk179 : Nat), Env ac 12 [(2, .bool false), (3, pt bk179), (6, .agg (zi (bys b)))] → Ev w [] wo [.box bk1 (bys b) 22, .box bk179 ((zh (zc 4 0)) ++ ((zh (zc 4 0)) ++ (zh (zc 4 0)))) 47] → G 7 #[true, false, false, false, false, false, true, false, false] ac wo := by
   intro _ _ bk179 En264 Hv265
   refine Zs hG ?_
   refine q_t 1 ?_
   refine c_p En264 Hv265 (dd_go _) fun _ _ En271 Hv272 => ?_
   refine ⟨fun _ => Hv272.pk [0], ?_⟩
   refine q_t 2 ?_
   refine c_p En271 Hv272 (dtold_go _ b hb) fun _ _ En278 Hv279 => ?_
   refine ⟨fun _ => Hv279.pk [0], ?_⟩
   refine q_s [3,4,5] [] 2 En278 (Hv279.pk [0]) fun _ En281 => ?_
   refine q_t 7 ?_
   refine m_g 1 0 12 (zh (toD b)) _ [.box bk1 (bys b) 22, .box bk179 (zh (toD b)) 47] En281 Hv279 rfl (zb (toD_len _)) (by rw [(zw (zb (zd)) (zw (zb (zd)) (zb (zd))))]; first | decide | (simp; done)) (zu _) (zo (zw (zb (zd)) (zw (zb (zd)) (zb (zd))))) rfl fun _ _ En284 Hv285 => ?_
   refine ⟨fun _ => Hv285.pk [0], ?_⟩
   refine q_s [8] [] 0 En284 (Hv285.pk [0]) fun _ En287 => ?_
   exact h_e ⟨En287.sb, Hv285.pk []⟩
  refine Zs hG ?_
  refine q_r 0 (s := Instr.loadAt 22 (pt bk1)) (v := .agg (zi (bys b))) En7 (fun w hS => zP (m := 32) (cs := bys b) (zU hb) (by kernel_rfl) (by kernel_rfl) (hS.heap.cells (k := 0) (off := 0) (m := 32) rfl (zn (zU hb)))) (wo8.pk [0]) fun _ En289 => ?_
  refine QF [1, 6] (by kernel_rfl) rfl ?_
  refine ⟨?_, ?_, trivial⟩
  ·
   rintro _ rfl
   refine c_p En289 wo8 (dd_go _) fun _ _ En295 Hv296 => ?_
   refine ⟨fun _ => Hv296.pk [0], ?_⟩
   exact QQ hG (by kernel_rfl) (nd244 _ _ (En295.sb) (Hv296.pk [0]))
  rintro _ rfl
  refine m_z 47 ((zh (zc 4 0)) ++ ((zh (zc 4 0)) ++ (zh (zc 4 0)))) En289 wo8 fun _ _ bk297 En300 Hv301 => ?_
  refine ⟨fun _ => Hv301.pk [0], ?_⟩
  exact QQ hG (by kernel_rfl) (nd261 _ _ bk297 (En300.sb) (Hv301.pk [0, 1]))
 rintro _ _ ⟨En304, Hv305⟩
 refine zg <| d_s [2] [] En304 fun _ En307 => ?_
 refine wp_ret <| ZW (t := 2) (v := .bool (isE b)) En307 (by kernel_rfl) (by kernel_rfl) ?_
 exact ⟨rfl, Hv305.pk []⟩

end Go.Proofs.YtlnogkmnklfjlaaDoor

/- Layer 5: words turned, mixed. -/





namespace Go.Proofs.YtlnogkmnklfjlaaDoor.Sh
open Go.Dbr
set_option maxRecDepth 100000
set_option maxHeartbeats 2000000
set_option linter.unusedVariables false
set_option linter.unusedSimpArgs false

abbrev pt (b : Nat) : Value := .pointer (some (Addr.mk b 0 none))
abbrev ni (n : Nat) : Value := .int .i64 (n : Int)

def rotr32 (x : UInt32) (n : Nat) : UInt32 := (x >>> JR n) ||| (x <<< JR (32 - n))

def rotr64 (x : UInt64) (n : Nat) : UInt64 := (x >>> za n) ||| (x <<< za (64 - n))

theorem turned64_go (w : World) (x : UInt64) (n : Nat) (h0 : 0 < n) (hn : n < 64) : Calls Tryd.prog 102 #[zl x, ni n, .int .i64 64] w fun e w' => e = .returned (zl (rotr64 x n)) ∧ Ev w [] w' [] := by
 refine d_0 [(0, zl x), (1, ni n), (2, .int .i64 64)] 16 Go.Proofs.Tryd.func102 Go.Proofs.Tryd.ntmps102 (Heap.nil _) fun act0 En0 Hv0 => ?_
 refine d_s [0,1,2,6] [] En0 fun _ En2 => ?_
 refine wp_seq <| r_c (fun ac wo => Env ac 16 [(6, zl ((x >>> za n) ||| (x <<< za (64 - n))))] ∧ Ev w [] wo []) ?_ ?_
 ·
  refine draw_any (by kernel_rfl) 10 (by kernel_rfl) ?_
  have wo3 := Hv0.trans (zQ Hv0.heap)
  refine q_a [0,1] [] 8 En2 fun _ En15 => ?_
  refine q_g 2 En15 (fun _ => Go.Dbr.run_shr_u64 x .i64 n (by omega) _) fun _ En17 => ?_
  refine q_a [3,4,5,6] [(6, g_n (w_r (e := (64 : Int) - ((n : Nat) : Int)) (x := ((64 - n : Nat) : Int)) (by omega)))] 3 En17 fun _ En19 => ?_
  refine q_g 7 En19 (fun _ => Go.Dbr.run_shl_u64 x .i64 (64 - n) (by omega) _) fun _ En21 => ?_
  refine q_a [8,9] [(8, g_i .u64 (Go.Dbr.u64_or (x := x >>> za n) (y := x <<< za (64 - n)) rfl rfl))] 0 En21 fun _ En23 => ?_
  exact a_e ⟨En23.sb, wo3.pk []⟩
 rintro _ _ ⟨En26, Hv27⟩
 refine zg <| wp_ret <| ZW (t := 6) (v := zl ((x >>> za n) ||| (x <<< za (64 - n)))) En26 (by kernel_rfl) (by kernel_rfl) ?_
 exact ⟨rfl, Hv27.pk []⟩

def mix32 (x : UInt32) (i j k : Nat) (shift : Bool) : UInt32 := bif shift then (rotr32 x i ^^^ rotr32 x j) ^^^ (x >>> JR k) else (rotr32 x i ^^^ rotr32 x j) ^^^ rotr32 x k

def mix64 (x : UInt64) (i j k : Nat) (shift : Bool) : UInt64 := bif shift then (rotr64 x i ^^^ rotr64 x j) ^^^ (x >>> za k) else (rotr64 x i ^^^ rotr64 x j) ^^^ rotr64 x k

theorem mixed64_true (w : World) (x : UInt64) (i j k : Nat) (hi : 0 < i ∧ i < 64) (hj : 0 < j ∧ j < 64) (hk : 0 < k ∧ k < 64) : Calls Tryd.prog 98 #[zl x, .int .i64 64, .agg #[ni i, ni j, ni k], .bool true] w fun e w' => e = .returned (zl (mix64 x i j k true)) ∧ Ev w [] w' [] := by
 refine d_0 [(0, zl x), (1, .int .i64 64), (2, .agg #[ni i, ni j, ni k]), (3, .bool true)] 35 Go.Proofs.Tryd.func98 Go.Proofs.Tryd.ntmps98 (Heap.nil _) fun act0 En0 Hv0 => ?_
 refine wp_seq <| zm <| f_o <| m_m 113 [ni i, ni j, ni k] En0 Hv0 fun _ _ bk1 En4 Hv5 => ?_
 refine d_e [0,1,3,6,8] [] En4 fun _ En7 => ?_
 refine zg <| wp_seq <| r_c (fun ac wo => Env ac 35 [(0, zl x), (1, .int .i64 64), (3, .bool true), (6, pt bk1), (8, .int .u64 0), (9, zl ((rotr64 x i) ^^^ (rotr64 x j)))] ∧ Ev w [] wo [.box bk1 [ni i, ni j, ni k] 113]) ?_ ?_
 ·
  refine h_s (fun wv => Ev w [] wv [.box bk1 [ni i, ni j, ni k] 113]) [] 12 ?_
  have wo8 := Hv5.trans (zQ Hv5.heap)
  refine q_s [0,1] [] 10 En7 (wo8.pk [0]) fun _ En96 => ?_
  refine q_l 0 2 En96 (wo8.pk [0]) fun _ En98 => ?_
  refine q_s [3,5,6] [] 6 En98 (wo8.pk [0]) fun _ En100 => ?_
  refine q_l 0 7 En100 (wo8.pk [0]) fun _ En102 => ?_
  refine q_s [8] [] 4 En102 (wo8.pk [0]) fun _ En104 => ?_
  refine q_t 4 ?_
  refine c_p En104 wo8 (turned64_go _ x i (by omega) (by omega)) fun _ _ En110 Hv111 => ?_
  refine ⟨fun _ => Hv111.pk [0], ?_⟩
  refine q_t 9 ?_
  refine c_p En110 Hv111 (turned64_go _ x j (by omega) (by omega)) fun _ _ En117 Hv118 => ?_
  refine ⟨fun _ => Hv118.pk [0], ?_⟩
  refine q_s [10,11] [(10, g_i .u64 (Go.Dbr.u64_xor (x := rotr64 x i) (y := rotr64 x j) rfl rfl))] 0 En117 (Hv118.pk [0]) fun _ En120 => ?_
  exact h_e ⟨En120.sb, Hv118.pk [0]⟩
 rintro _ _ ⟨En123, Hv124⟩
 refine zg <| wp_seq <| d_s [0,1,6,8,9,21] [] En123 fun _ En126 => ?_
 refine c_t En126 ?_
 refine wp_seq <| zm <| d_k [0,1,6,8,9,22,23,24] [] 3 En126 fun _ En128 => ?_
 refine f_o <| m_l 0 En128 Hv124 fun _ En130 => ?_
 refine f_o <| q_v En130 (Go.Dbr.run_shr_u64 x .i64 k (by omega) _) fun _ En132 => ?_
 refine d_e [0,1,6,8,9] [(5, g_i .u64 (Go.Dbr.u64_xor (x := (rotr64 x i) ^^^ (rotr64 x j)) (y := x >>> za k) rfl rfl))] En132 fun _ En134 => ?_
 refine zg <| wp_ret <| Zg <| ZW (t := 8) (v := zl (((rotr64 x i) ^^^ (rotr64 x j)) ^^^ (x >>> za k))) En134 (by kernel_rfl) (by kernel_rfl) ?_
 exact ⟨rfl, Hv124.pk []⟩

theorem mixed64_false (w : World) (x : UInt64) (i j k : Nat) (hi : 0 < i ∧ i < 64) (hj : 0 < j ∧ j < 64) (hk : 0 < k ∧ k < 64) : Calls Tryd.prog 98 #[zl x, .int .i64 64, .agg #[ni i, ni j, ni k], .bool false] w fun e w' => e = .returned (zl (mix64 x i j k false)) ∧ Ev w [] w' [] := by
 refine d_0 [(0, zl x), (1, .int .i64 64), (2, .agg #[ni i, ni j, ni k]), (3, .bool false)] 35 Go.Proofs.Tryd.func98 Go.Proofs.Tryd.ntmps98 (Heap.nil _) fun act0 En0 Hv0 => ?_
 refine wp_seq <| zm <| f_o <| m_m 113 [ni i, ni j, ni k] En0 Hv0 fun _ _ bk1 En4 Hv5 => ?_
 refine d_e [0,1,3,6,8] [] En4 fun _ En7 => ?_
 refine zg <| wp_seq <| r_c (fun ac wo => Env ac 35 [(0, zl x), (1, .int .i64 64), (3, .bool false), (6, pt bk1), (8, .int .u64 0), (9, zl ((rotr64 x i) ^^^ (rotr64 x j)))] ∧ Ev w [] wo [.box bk1 [ni i, ni j, ni k] 113]) ?_ ?_
 ·
  refine h_s (fun wv => Ev w [] wv [.box bk1 [ni i, ni j, ni k] 113]) [] 12 ?_
  have wo8 := Hv5.trans (zQ Hv5.heap)
  refine q_s [0,1] [] 10 En7 (wo8.pk [0]) fun _ En96 => ?_
  refine q_l 0 2 En96 (wo8.pk [0]) fun _ En98 => ?_
  refine q_s [3,5,6] [] 6 En98 (wo8.pk [0]) fun _ En100 => ?_
  refine q_l 0 7 En100 (wo8.pk [0]) fun _ En102 => ?_
  refine q_s [8] [] 4 En102 (wo8.pk [0]) fun _ En104 => ?_
  refine q_t 4 ?_
  refine c_p En104 wo8 (turned64_go _ x i (by omega) (by omega)) fun _ _ En110 Hv111 => ?_
  refine ⟨fun _ => Hv111.pk [0], ?_⟩
  refine q_t 9 ?_
  refine c_p En110 Hv111 (turned64_go _ x j (by omega) (by omega)) fun _ _ En117 Hv118 => ?_
  refine ⟨fun _ => Hv118.pk [0], ?_⟩
  refine q_s [10,11] [(10, g_i .u64 (Go.Dbr.u64_xor (x := rotr64 x i) (y := rotr64 x j) rfl rfl))] 0 En117 (Hv118.pk [0]) fun _ En120 => ?_
  exact h_e ⟨En120.sb, Hv118.pk [0]⟩
 rintro _ _ ⟨En123, Hv124⟩
 refine zg <| wp_seq <| d_s [0,1,6,8,9,21] [] En123 fun _ En126 => ?_
 refine c_f En126 ?_
 refine wp_skip <| zg <| wp_seq <| zm <| d_k [0,1,6,8,9,28,29,30] [] 3 En126 fun _ En128 => ?_
 refine f_o <| m_l 0 En128 Hv124 fun _ En130 => ?_
 refine d_k [0,1,6,8,9,28,29,31,32] [] 5 En130 fun _ En132 => ?_
 refine f_o <| c_p En132 Hv124 (turned64_go _ x k (by omega) (by omega)) fun _ _ En138 Hv139 => ?_
 refine d_e [0,1,6,8,9] [(6, g_i .u64 (Go.Dbr.u64_xor (x := (rotr64 x i) ^^^ (rotr64 x j)) (y := rotr64 x k) rfl rfl))] En138 fun _ En141 => ?_
 refine zg <| wp_ret <| ZW (t := 8) (v := zl (((rotr64 x i) ^^^ (rotr64 x j)) ^^^ (rotr64 x k))) En141 (by kernel_rfl) (by kernel_rfl) ?_
 exact ⟨rfl, Hv139.pk []⟩

end Go.Proofs.YtlnogkmnklfjlaaDoor.Sh

/- Layer 5: words of bytes. -/

namespace Go.Proofs.YtlnogkmnklfjlaaDoor.Sh
open Go.Dbr
set_option maxRecDepth 100000
set_option maxHeartbeats 2000000
set_option linter.unusedVariables false
set_option linter.unusedSimpArgs false

/-- so many bytes as a word, the highest first -/
def beP32 (l : List UInt8) : Nat → UInt32
  | 0 => 0
  | k + 1 => (beP32 l k <<< JR 8) ||| UInt8.toUInt32 (zf l k 0)
def beW32 (l : List UInt8) (q : Nat) : UInt32 := beP32 (zr 4 (zs (4 * q) l)) 4
def wB32 (l : List UInt8) : Nat → List UInt32
  | 0 => []
  | q + 1 => wB32 l q ++ [beW32 l q]
/-- so many bytes as a word, the highest first -/
def beP64 (l : List UInt8) : Nat → UInt64
  | 0 => 0
  | k + 1 => (beP64 l k <<< za 8) ||| Zi (zf l k 0)
def beW64 (l : List UInt8) (q : Nat) : UInt64 := beP64 (zr 8 (zs (8 * q) l)) 8
def wB64 (l : List UInt8) : Nat → List UInt64
  | 0 => []
  | q + 1 => wB64 l q ++ [beW64 l q]
theorem wB64_len (l : List UInt8) (q : Nat) : (wB64 l q).length = q := by
  induction q with
  | zero => rfl
  | succ q ih => rw [wB64, z4, ih]; rfl

theorem words64_go (w : World) (ax : Option Addr) (nx cx : Nat) (lx : List UInt8) (ex : nx = ze lx) (ix : InB w [] ax cx lx) : Calls Tryd.prog 90 #[.slice ax nx cx, .int .i64 8, .int .i64 80] w fun e w' => ∃ ao co, e = .returned (.slice ao (ze (wB64 lx (ze lx / 8))) co) ∧ Ev w [] w' [.vec ao co 1 (zh (wB64 lx (ze lx / 8))) 32] := by
 subst ex
 have hs := ix.small
 have hcx := ix.cap
 refine d_0 [(0, .slice ax (ze lx) cx), (1, .int .i64 8), (2, .int .i64 80)] 39 Go.Proofs.Tryd.func90 Go.Proofs.Tryd.ntmps90 (Heap.nil _) fun act0 En0 Hv0 => ?_
 refine wp_seq <| d_r [0,1,2,6] [] En0 fun _ En2 => ?_
 refine zg <| wp_seq <| zm <| d_k [0,1,6,11] [] 1 En2 fun _ En4 => ?_
 refine f_o <| op_makeroom (d := some 12) (t := 118) (T := 32) (m := 80) (kl := .i64) (kc := .i64) (z := .int .u64 0) (bytes := 8) En4 (by kernel_rfl) Hv0 (by kernel_rfl) (by kernel_rfl) (by kernel_rfl) (by omega) (by unfold maxLen; omega) ?_
 intro _ _ bk5 En8 Hv9
 refine d_e [0,1,6,7] [] En8 fun _ En11 => ?_
 refine zg <| wp_seq <| wp_block ?_
 have hD0 : zs (8 * 0) lx = lx := rfl
 refine loop_m (fun ms12 ac wo => ∃ (q : Nat) (at1 : Option Addr) (ct : Nat) (ao : Option Addr) (co : Nat) (o : List UInt64), ms12 = (ze lx - 8 * q : Nat) ∧ Env ac 39 [(0, .slice at1 (ze (zs (8 * q) lx)) ct), (1, .int .i64 8), (6, .slice none 0 0), (7, .slice ao (ze o) co)] ∧ Ev w [] wo [.vec ao co 1 (zh o) 32] ∧ (InB w [] at1 ct (zs (8 * q) lx)) ∧ (8 * q ≤ ze lx) ∧ (o = wB64 lx q)) ⟨_, 0, ax, cx, some ⟨bk5, 0, none⟩, 80, [], rfl, En11.sb, Hv9.pk [0], ix, by omega, rfl⟩ ?_
 rintro mm18 _ _ ⟨q, at1, ct, ao, co, o, rfl, En16, Hv17, hT, hq, heo⟩
 refine wp_seq <| wp_seq ?_
 have hDl : ze (zs (8 * q) lx) = ze lx - 8 * q := zS
 refine d_r [0,1,6,7,16] [] En16 fun _ En20 => ?_
 refine zg <| c_d (((ze (zs (8 * q) lx) : Nat) : Int) ≥ (8 : Int)) En20 (fun hc21 => ?_) (fun hc21 => ?_)
 ·
  refine wp_skip <| zg <| wp_seq <| wp_block <| wp_seq <| d_r [0,1,6,7,8] [] En20 fun _ En23 => ?_
  refine zg <| wp_seq <| wp_seq ?_
  have hDl : ze (zs (8 * q) lx) = ze lx - 8 * q := zS
  have hDt : ze (zr 8 (zs (8 * q) lx)) = 8 := by rw [List.length_take]; omega
  refine zm <| d_k [0,1,6,7,8,20,21] [] 2 En23 fun _ En25 => ?_
  refine f_o ?_
  have hcap26 := hT.cap
  refine op_slice0 (d := some 22) (t := 26) (e := 5) (sz := 1) (len := ze (zs (8 * q) lx)) (cap := ct) (hi := 8) (ao := at1) (lov := none) (hiv := (some (.int .i64 8))) En25 (by kernel_rfl) (by kernel_rfl) (by kernel_rfl) (by omega) (.inl ⟨rfl, rfl⟩) (.inr ⟨.i64, rfl⟩) ?_
  intro _ En28
  refine d_e [0,1,6,7,8,22,23,24] [] En28 fun _ En30 => ?_
  refine zg <| wp_block <| loop_m (fun ms31 ac wo => ∃ (k : Nat) (x : UInt64), ms31 = (8 - k : Nat) ∧ Env ac 39 [(0, .slice at1 (ze (zs (8 * q) lx)) ct), (1, .int .i64 8), (6, .slice none 0 0), (7, .slice ao (ze o) co), (8, zl x), (22, .slice at1 8 ct), (23, .int .i64 8), (24, ni k)] ∧ Ev w [] wo [.vec ao co 1 (zh o) 32] ∧ (k ≤ 8) ∧ (x = beP64 (zr 8 (zs (8 * q) lx)) k)) ⟨_, 0, 0, rfl, En30.sb, Hv17.pk [0], by omega, rfl⟩ ?_
  rintro mm37 _ _ ⟨k, x, rfl, En35, Hv36, hk, hex⟩
  refine wp_seq <| d_r [0,1,6,7,8,22,23,24,25] [] En35 fun _ En39 => ?_
  refine zg <| wp_seq <| c_d (((k : Nat) : Int) < (8 : Int)) En39 (fun hc40 => ?_) (fun hc40 => ?_)
  ·
   refine wp_skip <| zg <| wp_seq <| wp_block <| wp_seq ?_
   have hb43 : k < 8 := (by omega)
   obtain ⟨adr41, had42⟩ := some_of (fun e => by have := hT.nz e; omega) hb43
   refine zm <| f_o <| q_v (x := Instr.indexAt 26 (.slice at1 8 ct) (ni k)) (v := .pointer (some (Addr.add adr41 k))) En39 (Go.Dbr.run_indexsl (e := 5) (sz := 1) (j := k) (jo := k) had42 (by kernel_rfl) (by kernel_rfl) (by omega) hb43 (Nat.mul_one _) _) fun _ En45 => ?_
   refine f_o ?_
   have hb46 : k < ze (zr 8 (zs (8 * q) lx)) := by omega
   refine op_loadel (d := some 27) (t := 5) (ad := adr41) (ao := at1) (xs := bys (zr 8 (zs (8 * q) lx))) (j := k) (v := bv (zf (zr 8 (zs (8 * q) lx)) k 0)) En45 (by kernel_rfl) (bys_take_reads (hT.ev Hv36).reads 8) had42 (ZS hb46) (by kernel_rfl) ?_
   intro _ En48
   refine d_e [0,1,6,7,8,10,22,23,24] [] En48 fun _ En50 => ?_
   refine zg <| d_r [0,1,6,7,8,22,23,24] [(1, g_i .u64 (Go.Dbr.u64_shl (x := x) (n := 8) rfl (by decide))), (3, g_i .u64 (Go.Dbr.u8_to_u64 (x := zf (zr 8 (zs (8 * q) lx)) k 0) rfl)), (4, g_i .u64 (Go.Dbr.u64_or (x := x <<< za 8) (y := Zi (zf (zr 8 (zs (8 * q) lx)) k 0)) rfl rfl))] En50 fun _ En52 => ?_
   refine block_normal <| zg <| d_r [0,1,6,7,8,22,23,24] [(0, g_n (w_a k 1))] En52 fun _ En54 => ?_
   refine zg <| ⟨_, ⟨k + 1, ((x <<< za 8) ||| (Zi (zf (zr 8 (zs (8 * q) lx)) k 0))), rfl, En54.sb, Hv36.pk [0], by omega, by rw [hex]; rfl⟩, ?_⟩
   omega
  refine wp_exit <| zy <| zy <| block_exit <| zg ?_
  have hk4 : k = 8 := by omega
  rw [hk4] at hex
  have hol : ze o = q := by rw [heo, wB64_len]
  refine zm <| d_k [0,1,6,7,8,22,23,24,34,35] [] 2 En39 fun _ En56 => ?_
  refine f_o <| op_lit (d := some 36) (t := 118) (T := 32) (m := 1) (parts := #[(0, zl x)]) (xs := zh [x]) (sz := 1) En56 (by kernel_rfl) (by kernel_rfl) rfl (by decide) Hv36 ?_
  intro _ _ bk57 En60 Hv61
  refine f_o <| op_append (d := some 37) (t := 118) (tx := 118) (ty := 118) (k := 0) (p := ze o) (m := 1) (x := .slice (some ⟨bk57, 0, none⟩) 1 1) (bytes := 8) En60 (by kernel_rfl) Hv61 rfl (u64s_len _) (Reads.src (size := 1) (tx := 118) (e' := 32) (by kernel_rfl) (Hv61.heap.reads (k := 1) rfl) rfl (fun e => by cases e) (zu _)) (by kernel_rfl) (z := .int .u64 0) (by kernel_rfl) rfl (by decide) (by omega) (by unfold maxLen; omega) ?_
  intro _ _ ao62 cp63 En68 Hv69 hnz _
  clear hnz
  rw [← u64s_append] at Hv69
  have ehz64 : (ze o) + 1 = ze (o ++ [x]) := (by first | (simp; done) | (simp; omega) | omega)
  rw [ehz64] at En68
  refine d_e [0,1,6,7,8,22,23,24] [] En68 fun _ En71 => ?_
  refine block_normal <| zg <| zm <| d_k [0,1,6,7,8,17,18,22,23,24] [] 2 En71 fun _ En73 => ?_
  refine f_o ?_
  have hcap74 := hT.cap
  refine op_slice (d := some 19) (t := 26) (e := 5) (sz := 1) (len := ze (zs (8 * q) lx)) (cap := ct) (lo := 8) (hi := ze (zs (8 * q) lx)) (ao := at1) (lov := (some (.int .i64 8))) (hiv := none) En73 (by kernel_rfl) (by kernel_rfl) (by kernel_rfl) (by omega) (by omega) (.inr ⟨.i64, rfl⟩) (.inl ⟨rfl, rfl⟩) ?_
  intro _ En76
  refine d_e [0,1,6,7,8,22,23,24] [] En76 fun _ En78 => ?_
  refine zg ?_
  have hTn : InB w [] (cutAt at1 ct 8 1) (ct - 8) (zs (8 * (q + 1)) lx) := by have h := hT.drop 8 (by omega); rwa [List.drop_drop] at h
  have el : (ze (zs (8 * q) lx)) - 8 = ze (zs (8 * (q + 1)) lx) := by rw [zS, zS]; omega
  rw [el] at En78
  refine ⟨_, ⟨q + 1, (cutAt at1 ct 8 1), (ct - 8), ao62, cp63, (o ++ [x]), rfl, En78.sb, Hv69.pk [0], hTn, by omega, by rw [heo, hex]; rfl⟩, ?_⟩
  omega
 refine wp_exit <| zy <| zy <| block_exit <| zg <| wp_seq <| d_r [0,1,6,7] [] En20 fun _ En80 => ?_
 refine zg <| wp_ret <| ZW (t := 6) (v := .slice ao (ze o) co) En80 (by kernel_rfl) (by kernel_rfl) ?_
 have hqq : q = ze lx / 8 := by omega
 rw [hqq] at heo
 subst heo
 have Hf81 := Hv17.pk [0] (M := [.vec ao co 1 (zh (wB64 lx (ze lx / 8))) 32])
 exact ⟨_, _, rfl, Hf81⟩

end Go.Proofs.YtlnogkmnklfjlaaDoor.Sh

/- Layer 5: a block is taken into a state. -/

namespace Go.Proofs.YtlnogkmnklfjlaaDoor.Sh
open Go.Dbr
set_option maxRecDepth 100000
set_option maxHeartbeats 2000000
set_option linter.unusedVariables false
set_option linter.unusedSimpArgs false

theorem seg_eq {l : List Value} {i j : Nat} {v : Option Value} (h : i = j) (e : l[j]? = v) : l[i]? = v := by rw [h]; exact e
theorem set_eq {l m : List Value} {i j : Nat} {v : Value} (h : i = j) (e : l.set j v = m) : l.set i v = m := by rw [h]; exact e

theorem v8 {α : Type} {v : List α} (h : v.length = 8) : ∃ a0 a1 a2 a3 a4 a5 a6 a7, v = [a0, a1, a2, a3, a4, a5, a6, a7] := by
  match v, h with
  | [a0, a1, a2, a3, a4, a5, a6, a7], _ => exact ⟨a0, a1, a2, a3, a4, a5, a6, a7, rfl⟩

def K32 : List UInt32 := [1116352408, 1899447441, 3049323471, 3921009573, 961987163, 1508970993, 2453635748, 2870763221, 3624381080, 310598401, 607225278, 1426881987, 1925078388, 2162078206, 2614888103, 3248222580, 3835390401, 4022224774, 264347078, 604807628, 770255983, 1249150122, 1555081692, 1996064986, 2554220882, 2821834349, 2952996808, 3210313671, 3336571891, 3584528711, 113926993, 338241895, 666307205, 773529912, 1294757372, 1396182291, 1695183700, 1986661051, 2177026350, 2456956037, 2730485921, 2820302411, 3259730800, 3345764771, 3516065817, 3600352804, 4094571909, 275423344, 430227734, 506948616, 659060556, 883997877, 958139571, 1322822218, 1537002063, 1747873779, 1955562222, 2024104815, 2227730452, 2361852424, 2428436474, 2756734187, 3204031479, 3329325298]
def sch32 (w : List UInt32) : Nat → List UInt32
  | 0 => w
  | q + 1 => sch32 w q ++ [((mix32 (zf (sch32 w q) (14 + q) 0) 17 19 10 true + zf (sch32 w q) (9 + q) 0) + mix32 (zf (sch32 w q) (1 + q) 0) 7 18 3 true) + zf (sch32 w q) q 0]
def x32 (v : List UInt32) (k w : UInt32) : UInt32 := (((zf v 7 0 + mix32 (zf v 4 0) 6 11 25 false) + (zf v 6 0 ^^^ (zf v 4 0 &&& (zf v 5 0 ^^^ zf v 6 0)))) + k) + w
def y32 (v : List UInt32) : UInt32 := mix32 (zf v 0 0) 2 13 22 false + ((zf v 0 0 &&& zf v 1 0) ||| (zf v 2 0 &&& (zf v 0 0 ||| zf v 1 0)))
def step32 (v : List UInt32) (k w : UInt32) : List UInt32 := [x32 v k w + y32 v, zf v 0 0, zf v 1 0, zf v 2 0, zf v 3 0 + x32 v k w, zf v 4 0, zf v 5 0, zf v 6 0]
def rnd32 (w v : List UInt32) : Nat → List UInt32
  | 0 => v
  | j + 1 => step32 (rnd32 w v j) (zf K32 j 0) (zf w j 0)
def add32 (s v : List UInt32) : Nat → List UInt32
  | 0 => s
  | i + 1 => zp (add32 s v i) i (zf (add32 s v i) i 0 + zf v i 0)
theorem add32_len {s : List UInt32} {m : Nat} (h : s.length = m) (v : List UInt32) (i : Nat) : (add32 s v i).length = m := by
  induction i with
  | zero => exact h
  | succ i ih => simp [add32, ih]
/-- a state behind a block's words -/
def blk32 (s w : List UInt32) : List UInt32 := add32 s (rnd32 (sch32 w 48) s 64) 8
theorem blk32_len {s : List UInt32} {m : Nat} (h : s.length = m) (w : List UInt32) : (blk32 s w).length = m := add32_len h _ _

def K64 : List UInt64 := [4794697086780616226, 8158064640168781261, 13096744586834688815, 16840607885511220156, 4131703408338449720, 6480981068601479193, 10538285296894168987, 12329834152419229976, 15566598209576043074, 1334009975649890238, 2608012711638119052, 6128411473006802146, 8268148722764581231, 9286055187155687089, 11230858885718282805, 13951009754708518548, 16472876342353939154, 17275323862435702243, 1135362057144423861, 2597628984639134821, 3308224258029322869, 5365058923640841347, 6679025012923562964, 8573033837759648693, 10970295158949994411, 12119686244451234320, 12683024718118986047, 13788192230050041572, 14330467153632333762, 15395433587784984357, 489312712824947311, 1452737877330783856, 2861767655752347644, 3322285676063803686, 5560940570517711597, 5996557281743188959, 7280758554555802590, 8532644243296465576, 9350256976987008742, 10552545826968843579, 11727347734174303076, 12113106623233404929, 14000437183269869457, 14369950271660146224, 15101387698204529176, 15463397548674623760, 17586052441742319658, 1182934255886127544, 1847814050463011016, 2177327727835720531, 2830643537854262169, 3796741975233480872, 4115178125766777443, 5681478168544905931, 6601373596472566643, 7507060721942968483, 8399075790359081724, 8693463985226723168, 9568029438360202098, 10144078919501101548, 10430055236837252648, 11840083180663258601, 13761210420658862357, 14299343276471374635, 14566680578165727644, 15097957966210449927, 16922976911328602910, 17689382322260857208, 500013540394364858, 748580250866718886, 1242879168328830382, 1977374033974150939, 2944078676154940804, 3659926193048069267, 4368137639120453308, 4836135668995329356, 5532061633213252278, 6448918945643986474, 6902733635092675308, 7801388544844847127]
def sch64 (w : List UInt64) : Nat → List UInt64
  | 0 => w
  | q + 1 => sch64 w q ++ [((mix64 (zf (sch64 w q) (14 + q) 0) 19 61 6 true + zf (sch64 w q) (9 + q) 0) + mix64 (zf (sch64 w q) (1 + q) 0) 1 8 7 true) + zf (sch64 w q) q 0]
theorem sch64_len (w : List UInt64) (q : Nat) : (sch64 w q).length = w.length + q := by
  induction q with
  | zero => rfl
  | succ q ih => rw [sch64, z4, ih]; rfl
def x64 (v : List UInt64) (k w : UInt64) : UInt64 := (((zf v 7 0 + mix64 (zf v 4 0) 14 18 41 false) + (zf v 6 0 ^^^ (zf v 4 0 &&& (zf v 5 0 ^^^ zf v 6 0)))) + k) + w
def y64 (v : List UInt64) : UInt64 := mix64 (zf v 0 0) 28 34 39 false + ((zf v 0 0 &&& zf v 1 0) ||| (zf v 2 0 &&& (zf v 0 0 ||| zf v 1 0)))
def step64 (v : List UInt64) (k w : UInt64) : List UInt64 := [x64 v k w + y64 v, zf v 0 0, zf v 1 0, zf v 2 0, zf v 3 0 + x64 v k w, zf v 4 0, zf v 5 0, zf v 6 0]
def rnd64 (w v : List UInt64) : Nat → List UInt64
  | 0 => v
  | j + 1 => step64 (rnd64 w v j) (zf K64 j 0) (zf w j 0)
def add64 (s v : List UInt64) : Nat → List UInt64
  | 0 => s
  | i + 1 => zp (add64 s v i) i (zf (add64 s v i) i 0 + zf v i 0)
theorem add64_len {s : List UInt64} {m : Nat} (h : s.length = m) (v : List UInt64) (i : Nat) : (add64 s v i).length = m := by
  induction i with
  | zero => exact h
  | succ i ih => simp [add64, ih]
/-- a state behind a block's words -/
def blk64 (s w : List UInt64) : List UInt64 := add64 s (rnd64 (sch64 w 64) s 80) 8
theorem blk64_len {s : List UInt64} {m : Nat} (h : s.length = m) (w : List UInt64) : (blk64 s w).length = m := add64_len h _ _

abbrev kL64 : List Value := [Value.int .i64 64, Value.int .i64 1, Value.int .i64 8, Value.int .i64 7, Value.int .i64 19, Value.int .i64 61, Value.int .i64 6, Value.int .i64 28, Value.int .i64 34, Value.int .i64 39, Value.int .i64 14, Value.int .i64 18, Value.int .i64 41]
end Go.Proofs.YtlnogkmnklfjlaaDoor.Sh
