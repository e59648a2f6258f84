import Derived.Test.YtlnogkmnklfjlaaDoorPo8
import Derived.Laws.StructEq
import Derived.Laws.Tables
open UInt64 renaming ofNat → za, toUInt8 → zj, toNat → zt, toNat_and → QW
open Go.Dbr renaming u64s_lenh → zb, then_normal → zg, u64s → zh, uv64 → zl, region_from → zm, load_whole → zn, store_whole → zo, u64s_one → zu, block_normal → zv, len_app → zw, then_exit → zy, bys_lenh → zU, block_exit → zV, d_cell1 → z5, one_app → ZX
open List renaming replicate → zc, length_replicate → zd, length → ze, getD → zf, toArray → zi, set → zp, take → zr, drop → zs, length_take → zI, drop_append → Zd, take_append → Ze, map_append → Zv, getElem?_take → ZG, take_of_length_le → ZI, append_assoc → Qb, drop_drop → Qr, getElem?_drop → QD, take_append_drop → Q8, drop_of_length_le → JQ
open Go.Proofs.YtlnogkmnklfjlaaDoor renaming nds_len → zk, mulM → zq, powM → zC, subM → zJ, addM → Zf, nv_nd → Qu, lb_len → Yk, wtE_len → Ja, sub_len → Jt, zero16 → Jz
open Go.Dbr.Ev renaming cellAgg → zx, drew → zQ
open UInt8 renaming ofNat → zA
open Nat renaming mod_eq_of_lt → zB, mod_lt → Zw, pow_add → Zy, pow_mul → Z6
open BitVec renaming ofInt → Zb
/- Layer 12: points together, as the program reckons. -/



namespace Go.Proofs.YtlnogkmnklfjlaaDoor
open Go.Dbr
set_option maxRecDepth 100000
set_option maxHeartbeats 2000000
set_option linter.unusedVariables false
set_option linter.unusedSimpArgs false

theorem hL1 : LeftOk 1 := leftOk3 (by decide)
theorem hR1 : RMulOk 1 := rmulOk h1f hL1
theorem nv_m1 (x y : Nat) : nv (nd (zq 1 x y)) = zq 1 x y := Qu (mulM_lt h1f x y)
theorem nv_a1 (x y : Nat) : nv (nd (Zf 1 x y)) = Zf 1 x y := Qu (addM_lt h1f x y)
theorem nv_s1 (x y : Nat) : nv (nd (zJ 1 x y)) = zJ 1 x y := Qu (subM_lt h1f x y)
theorem nv_d2 : nv (nd D2N) = D2N := Qu (by decide)
theorem nv_dn : nv (nd DN) = DN := Qu (by decide)
theorem nv_iv (x : Nat) : nv (nd (zC 1 x (mF 1 - 2))) = ivE x := Qu (powM_lt h1f x _)
theorem cut16 (p : L4) : zh (p.take 4) ++ (zh ((p.drop 4).take 4) ++ (zh ((p.drop 8).take 4) ++ zh (p.drop 12))) = zh p := by
  unfold zh
  rw [← Zv, ← Zv, ← Zv]
  congr 1
  have h : p.drop 8 = (p.drop 4).drop 4 := by rw [Qr]
  have h2 : p.drop 12 = (p.drop 8).drop 4 := by rw [Qr]
  rw [h2, Q8, h, Q8, Q8]
theorem cat16 (a b c d : L4) : zh a ++ (zh b ++ (zh c ++ zh d)) = zh (a ++ (b ++ (c ++ d))) := by
  unfold zh
  rw [Zv, Zv, Zv]
theorem ret4 {x y z t x' y' z' t' : List UInt64} (h1 : x = x') (h2 : y = y') (h3 : z = z') (h4 : t = t') : Ending.returned (.agg (zi ((zh x) ++ ((zh y) ++ ((zh z) ++ (zh t)))))) = Ending.returned (.agg (zi ((zh x') ++ ((zh y') ++ ((zh z') ++ (zh t')))))) := by rw [h1, h2, h3, h4]

theorem emul_go (w : World) (a b : List UInt64) (ha : ze a = 4) (hb : ze b = 4) : Calls Tryd.prog 31 #[.agg (zi (zh a)), .agg (zi (zh b))] w fun e w' => e = .returned (.agg (zi (zh (nd (zq 1 (nv a) (nv b)))))) ∧ Ev w [] w' [] := by
 refine d_0 [(0, .agg (zi (zh a))), (1, .agg (zi (zh b)))] 8 Go.Proofs.Tryd.func31 Go.Proofs.Tryd.ntmps31 (Heap.nil _) fun act0 En0 Hv0 => ?_
 refine wp_seq <| zm <| f_o <| m_m 34 (zh a) En0 Hv0 fun _ _ bk1 En4 Hv5 => ?_
 refine f_o <| m_m 34 (zh b) En4 Hv5 fun _ _ bk6 En9 Hv10 => ?_
 refine f_o <| m_z 34 (zh (zc 4 0)) En9 Hv10 fun _ _ bk11 En14 Hv15 => ?_
 refine f_e <| zg <| wp_seq <| zm <| f_o <| m_a 0 0 4 (zh a) En14 Hv15 rfl (zn (zb ha)) (zb ha) fun _ En17 => ?_
 refine f_o <| m_a 1 0 4 (zh b) En17 Hv15 rfl (zn (zb hb)) (zb hb) fun _ En19 => ?_
 refine f_o <| c_p En19 Hv15 (hM1 _ a b ha hb) fun _ _ En25 Hv26 => ?_
 refine f_o <| m_g 2 0 4 (zh (nd (zq 1 (nv a) (nv b)))) _ [.box bk1 (zh a) 34, .box bk6 (zh b) 34, .box bk11 (zh (nd (zq 1 (nv a) (nv b)))) 34] En25 Hv26 rfl (zb (zk _ _)) (by rw [(zb (zd))]; first | decide | (simp; done)) (zu _) (zo (zb (zd))) rfl fun _ _ En29 Hv30 => ?_
 refine f_e <| zg <| wp_ret <| z5 (v := .agg (zi (zh (nd (zq 1 (nv a) (nv b)))))) (t := 4) (T := 34) (ad := ⟨bk11, 0, none⟩) En29 (by kernel_rfl) (by kernel_rfl) (zx (t := 34) (k := 2) (off := 0) (m := 4) (xs := zh (nd (zq 1 (nv a) (nv b)))) Hv30 rfl (zn (zb (zk _ _))) (zb (zk _ _)) (by kernel_rfl) (by kernel_rfl)) ?_
 exact ⟨rfl, Hv30.pk []⟩

theorem esum_go (w : World) (a b : List UInt64) (ha : ze a = 4) (hb : ze b = 4) : Calls Tryd.prog 36 #[.agg (zi (zh a)), .agg (zi (zh b))] w fun e w' => e = .returned (.agg (zi (zh (nd (Zf 1 (nv a) (nv b)))))) ∧ Ev w [] w' [] := by
 refine d_0 [(0, .agg (zi (zh a))), (1, .agg (zi (zh b)))] 8 Go.Proofs.Tryd.func36 Go.Proofs.Tryd.ntmps36 (Heap.nil _) fun act0 En0 Hv0 => ?_
 refine wp_seq <| zm <| f_o <| m_m 34 (zh a) En0 Hv0 fun _ _ bk1 En4 Hv5 => ?_
 refine f_o <| m_m 34 (zh b) En4 Hv5 fun _ _ bk6 En9 Hv10 => ?_
 refine f_o <| m_z 34 (zh (zc 4 0)) En9 Hv10 fun _ _ bk11 En14 Hv15 => ?_
 refine f_e <| zg <| wp_seq <| zm <| f_o <| m_a 0 0 4 (zh a) En14 Hv15 rfl (zn (zb ha)) (zb ha) fun _ En17 => ?_
 refine f_o <| m_a 1 0 4 (zh b) En17 Hv15 rfl (zn (zb hb)) (zb hb) fun _ En19 => ?_
 refine f_o <| c_p En19 Hv15 (add_go _ 1 h1f a b ha hb) fun _ _ En25 Hv26 => ?_
 refine f_o <| m_g 2 0 4 (zh (nd (Zf 1 (nv a) (nv b)))) _ [.box bk1 (zh a) 34, .box bk6 (zh b) 34, .box bk11 (zh (nd (Zf 1 (nv a) (nv b)))) 34] En25 Hv26 rfl (zb (zk _ _)) (by rw [(zb (zd))]; first | decide | (simp; done)) (zu _) (zo (zb (zd))) rfl fun _ _ En29 Hv30 => ?_
 refine f_e <| zg <| wp_ret <| z5 (v := .agg (zi (zh (nd (Zf 1 (nv a) (nv b)))))) (t := 4) (T := 34) (ad := ⟨bk11, 0, none⟩) En29 (by kernel_rfl) (by kernel_rfl) (zx (t := 34) (k := 2) (off := 0) (m := 4) (xs := zh (nd (Zf 1 (nv a) (nv b)))) Hv30 rfl (zn (zb (zk _ _))) (zb (zk _ _)) (by kernel_rfl) (by kernel_rfl)) ?_
 exact ⟨rfl, Hv30.pk []⟩

theorem edif_go (w : World) (a b : List UInt64) (ha : ze a = 4) (hb : ze b = 4) : Calls Tryd.prog 35 #[.agg (zi (zh a)), .agg (zi (zh b))] w fun e w' => e = .returned (.agg (zi (zh (nd (zJ 1 (nv a) (nv b)))))) ∧ Ev w [] w' [] := by
 refine d_0 [(0, .agg (zi (zh a))), (1, .agg (zi (zh b)))] 8 Go.Proofs.Tryd.func35 Go.Proofs.Tryd.ntmps35 (Heap.nil _) fun act0 En0 Hv0 => ?_
 refine wp_seq <| zm <| f_o <| m_m 34 (zh a) En0 Hv0 fun _ _ bk1 En4 Hv5 => ?_
 refine f_o <| m_m 34 (zh b) En4 Hv5 fun _ _ bk6 En9 Hv10 => ?_
 refine f_o <| m_z 34 (zh (zc 4 0)) En9 Hv10 fun _ _ bk11 En14 Hv15 => ?_
 refine f_e <| zg <| wp_seq <| zm <| f_o <| m_a 0 0 4 (zh a) En14 Hv15 rfl (zn (zb ha)) (zb ha) fun _ En17 => ?_
 refine f_o <| m_a 1 0 4 (zh b) En17 Hv15 rfl (zn (zb hb)) (zb hb) fun _ En19 => ?_
 refine f_o <| c_p En19 Hv15 (sub_go _ 1 h1f a b ha hb) fun _ _ En25 Hv26 => ?_
 refine f_o <| m_g 2 0 4 (zh (nd (zJ 1 (nv a) (nv b)))) _ [.box bk1 (zh a) 34, .box bk6 (zh b) 34, .box bk11 (zh (nd (zJ 1 (nv a) (nv b)))) 34] En25 Hv26 rfl (zb (zk _ _)) (by rw [(zb (zd))]; first | decide | (simp; done)) (zu _) (zo (zb (zd))) rfl fun _ _ En29 Hv30 => ?_
 refine f_e <| zg <| wp_ret <| z5 (v := .agg (zi (zh (nd (zJ 1 (nv a) (nv b)))))) (t := 4) (T := 34) (ad := ⟨bk11, 0, none⟩) En29 (by kernel_rfl) (by kernel_rfl) (zx (t := 34) (k := 2) (off := 0) (m := 4) (xs := zh (nd (zJ 1 (nv a) (nv b)))) Hv30 rfl (zn (zb (zk _ _))) (zb (zk _ _)) (by kernel_rfl) (by kernel_rfl)) ?_
 exact ⟨rfl, Hv30.pk []⟩

theorem dmul_go (w : World) (a b : List UInt64) (ha : ze a = 4) (hb : ze b = 4) : Calls Tryd.prog 40 #[.agg (zi (zh a)), .agg (zi (zh b))] w fun e w' => e = .returned (.agg (zi (zh (nd (zq 1 (nv a) (nv b)))))) ∧ Ev w [] w' [] := by
 refine d_0 [(0, .agg (zi (zh a))), (1, .agg (zi (zh b)))] 8 Go.Proofs.Tryd.func40 Go.Proofs.Tryd.ntmps40 (Heap.nil _) fun act0 En0 Hv0 => ?_
 refine wp_seq <| zm <| f_o <| m_m 34 (zh a) En0 Hv0 fun _ _ bk1 En4 Hv5 => ?_
 refine f_o <| m_m 34 (zh b) En4 Hv5 fun _ _ bk6 En9 Hv10 => ?_
 refine f_o <| m_z 34 (zh (zc 4 0)) En9 Hv10 fun _ _ bk11 En14 Hv15 => ?_
 refine f_e <| zg <| wp_seq <| zm <| f_o <| m_a 0 0 4 (zh a) En14 Hv15 rfl (zn (zb ha)) (zb ha) fun _ En17 => ?_
 refine f_o <| m_a 1 0 4 (zh b) En17 Hv15 rfl (zn (zb hb)) (zb hb) fun _ En19 => ?_
 refine f_o <| c_p En19 Hv15 (hR1 _ a b ha hb) fun _ _ En25 Hv26 => ?_
 refine f_o <| m_g 2 0 4 (zh (nd (zq 1 (nv a) (nv b)))) _ [.box bk1 (zh a) 34, .box bk6 (zh b) 34, .box bk11 (zh (nd (zq 1 (nv a) (nv b)))) 34] En25 Hv26 rfl (zb (zk _ _)) (by rw [(zb (zd))]; first | decide | (simp; done)) (zu _) (zo (zb (zd))) rfl fun _ _ En29 Hv30 => ?_
 refine f_e <| zg <| wp_ret <| z5 (v := .agg (zi (zh (nd (zq 1 (nv a) (nv b)))))) (t := 4) (T := 34) (ad := ⟨bk11, 0, none⟩) En29 (by kernel_rfl) (by kernel_rfl) (zx (t := 34) (k := 2) (off := 0) (m := 4) (xs := zh (nd (zq 1 (nv a) (nv b)))) Hv30 rfl (zn (zb (zk _ _))) (zb (zk _ _)) (by kernel_rfl) (by kernel_rfl)) ?_
 exact ⟨rfl, Hv30.pk []⟩

theorem dadd_go (w : World) (a b : List UInt64) (ha : ze a = 4) (hb : ze b = 4) : Calls Tryd.prog 59 #[.agg (zi (zh a)), .agg (zi (zh b))] w fun e w' => e = .returned (.agg (zi (zh (nd (Zf 1 (nv a) (nv b)))))) ∧ Ev w [] w' [] := by
 refine d_0 [(0, .agg (zi (zh a))), (1, .agg (zi (zh b)))] 8 Go.Proofs.Tryd.func59 Go.Proofs.Tryd.ntmps59 (Heap.nil _) fun act0 En0 Hv0 => ?_
 refine wp_seq <| zm <| f_o <| m_m 34 (zh a) En0 Hv0 fun _ _ bk1 En4 Hv5 => ?_
 refine f_o <| m_m 34 (zh b) En4 Hv5 fun _ _ bk6 En9 Hv10 => ?_
 refine f_o <| m_z 34 (zh (zc 4 0)) En9 Hv10 fun _ _ bk11 En14 Hv15 => ?_
 refine f_e <| zg <| wp_seq <| zm <| f_o <| m_a 0 0 4 (zh a) En14 Hv15 rfl (zn (zb ha)) (zb ha) fun _ En17 => ?_
 refine f_o <| m_a 1 0 4 (zh b) En17 Hv15 rfl (zn (zb hb)) (zb hb) fun _ En19 => ?_
 refine f_o <| c_p En19 Hv15 (radd_go _ 1 h1f hL1 a b ha hb) fun _ _ En25 Hv26 => ?_
 refine f_o <| m_g 2 0 4 (zh (nd (Zf 1 (nv a) (nv b)))) _ [.box bk1 (zh a) 34, .box bk6 (zh b) 34, .box bk11 (zh (nd (Zf 1 (nv a) (nv b)))) 34] En25 Hv26 rfl (zb (zk _ _)) (by rw [(zb (zd))]; first | decide | (simp; done)) (zu _) (zo (zb (zd))) rfl fun _ _ En29 Hv30 => ?_
 refine f_e <| zg <| wp_ret <| z5 (v := .agg (zi (zh (nd (Zf 1 (nv a) (nv b)))))) (t := 4) (T := 34) (ad := ⟨bk11, 0, none⟩) En29 (by kernel_rfl) (by kernel_rfl) (zx (t := 34) (k := 2) (off := 0) (m := 4) (xs := zh (nd (Zf 1 (nv a) (nv b)))) Hv30 rfl (zn (zb (zk _ _))) (zb (zk _ _)) (by kernel_rfl) (by kernel_rfl)) ?_
 exact ⟨rfl, Hv30.pk []⟩

theorem dsub_go (w : World) (a b : List UInt64) (ha : ze a = 4) (hb : ze b = 4) : Calls Tryd.prog 41 #[.agg (zi (zh a)), .agg (zi (zh b))] w fun e w' => e = .returned (.agg (zi (zh (nd (zJ 1 (nv a) (nv b)))))) ∧ Ev w [] w' [] := by
 refine d_0 [(0, .agg (zi (zh a))), (1, .agg (zi (zh b)))] 8 Go.Proofs.Tryd.func41 Go.Proofs.Tryd.ntmps41 (Heap.nil _) fun act0 En0 Hv0 => ?_
 refine wp_seq <| zm <| f_o <| m_m 34 (zh a) En0 Hv0 fun _ _ bk1 En4 Hv5 => ?_
 refine f_o <| m_m 34 (zh b) En4 Hv5 fun _ _ bk6 En9 Hv10 => ?_
 refine f_o <| m_z 34 (zh (zc 4 0)) En9 Hv10 fun _ _ bk11 En14 Hv15 => ?_
 refine f_e <| zg <| wp_seq <| zm <| f_o <| m_a 0 0 4 (zh a) En14 Hv15 rfl (zn (zb ha)) (zb ha) fun _ En17 => ?_
 refine f_o <| m_a 1 0 4 (zh b) En17 Hv15 rfl (zn (zb hb)) (zb hb) fun _ En19 => ?_
 refine f_o <| c_p En19 Hv15 (rsub_go _ 1 h1f hL1 a b ha hb) fun _ _ En25 Hv26 => ?_
 refine f_o <| m_g 2 0 4 (zh (nd (zJ 1 (nv a) (nv b)))) _ [.box bk1 (zh a) 34, .box bk6 (zh b) 34, .box bk11 (zh (nd (zJ 1 (nv a) (nv b)))) 34] En25 Hv26 rfl (zb (zk _ _)) (by rw [(zb (zd))]; first | decide | (simp; done)) (zu _) (zo (zb (zd))) rfl fun _ _ En29 Hv30 => ?_
 refine f_e <| zg <| wp_ret <| z5 (v := .agg (zi (zh (nd (zJ 1 (nv a) (nv b)))))) (t := 4) (T := 34) (ad := ⟨bk11, 0, none⟩) En29 (by kernel_rfl) (by kernel_rfl) (zx (t := 34) (k := 2) (off := 0) (m := 4) (xs := zh (nd (zJ 1 (nv a) (nv b)))) Hv30 rfl (zn (zb (zk _ _))) (zb (zk _ _)) (by kernel_rfl) (by kernel_rfl)) ?_
 exact ⟨rfl, Hv30.pk []⟩

theorem twiceD_go (w : World) : Calls Tryd.prog 32 #[] w fun e w' => e = .returned (.agg (zi (zh (nd D2N)))) ∧ Ev w [] w' [] := by
 refine d_0 [] 2 Go.Proofs.Tryd.func32 Go.Proofs.Tryd.ntmps32 (Heap.nil _) fun act0 En0 Hv0 => ?_
 refine wp_seq <| zm <| f_o <| m_z 34 (zh (zc 4 0)) En0 Hv0 fun _ _ bk1 En4 Hv5 => ?_
 refine f_e <| zg <| wp_seq <| zm <| d_k [0,1] [] 1 En4 fun _ En7 => ?_
 refine f_o <| m_g 0 0 4 (zh ([16993941304535871833, 63073048630374742, 1841551078520508720, 2596001775599221991] : List UInt64)) _ [.box bk1 (zh ([16993941304535871833, 63073048630374742, 1841551078520508720, 2596001775599221991] : List UInt64)) 34] En7 Hv5 rfl (zb (show ze ([16993941304535871833, 63073048630374742, 1841551078520508720, 2596001775599221991] : List UInt64) = 4 from rfl)) (by rw [(zb (zd))]; first | decide | (simp; done)) (zu _) (zo (zb (zd))) rfl fun _ _ En10 Hv11 => ?_
 refine f_e <| zg <| wp_ret <| z5 (v := .agg (zi (zh ([16993941304535871833, 63073048630374742, 1841551078520508720, 2596001775599221991] : List UInt64)))) (t := 0) (T := 34) (ad := ⟨bk1, 0, none⟩) En10 (by kernel_rfl) (by kernel_rfl) (zx (t := 34) (k := 0) (off := 0) (m := 4) (xs := zh ([16993941304535871833, 63073048630374742, 1841551078520508720, 2596001775599221991] : List UInt64)) Hv11 rfl (zn (zb (show ze ([16993941304535871833, 63073048630374742, 1841551078520508720, 2596001775599221991] : List UInt64) = 4 from rfl))) (zb (show ze ([16993941304535871833, 63073048630374742, 1841551078520508720, 2596001775599221991] : List UInt64) = 4 from rfl)) (by kernel_rfl) (by kernel_rfl)) ?_
 exact ⟨by kernel_rfl, Hv11.pk []⟩

theorem nothing_go (w : World) : Calls Tryd.prog 47 #[] w fun e w' => e = .returned (.agg (zi (zh Jz))) ∧ Ev w [] w' [] := by
 refine d_0 [] 4 Go.Proofs.Tryd.func47 Go.Proofs.Tryd.ntmps47 (Heap.nil _) fun act0 En0 Hv0 => ?_
 refine wp_seq <| zm <| f_o <| m_z 43 ((zh (zc 4 0)) ++ ((zh (zc 4 0)) ++ ((zh (zc 4 0)) ++ (zh (zc 4 0))))) En0 Hv0 fun _ _ bk1 En4 Hv5 => ?_
 refine f_e <| zg <| wp_seq <| zm <| d_k [0,3] [] 3 En4 fun _ En7 => ?_
 refine f_o <| m_g 0 0 16 ((zh (zc 4 0)) ++ ((zh ([1, 0, 0, 0] : List UInt64)) ++ ((zh ([1, 0, 0, 0] : List UInt64)) ++ (zh (zc 4 0))))) _ [.box bk1 ((zh (zc 4 0)) ++ ((zh ([1, 0, 0, 0] : List UInt64)) ++ ((zh ([1, 0, 0, 0] : List UInt64)) ++ (zh (zc 4 0))))) 43] En7 Hv5 rfl (zw (zb (zd)) (zw (zb (show ze ([1, 0, 0, 0] : List UInt64) = 4 from rfl)) (zw (zb (show ze ([1, 0, 0, 0] : List UInt64) = 4 from rfl)) (zb (zd))))) (by rw [(zw (zb (zd)) (zw (zb (zd)) (zw (zb (zd)) (zb (zd)))))]; first | decide | (simp; done)) (ZX (zu _) (ZX (zu _) (ZX (zu _) (zu _)))) (zo (zw (zb (zd)) (zw (zb (zd)) (zw (zb (zd)) (zb (zd)))))) rfl fun _ _ En10 Hv11 => ?_
 refine f_e <| zg <| wp_ret <| z5 (v := .agg (zi ((zh (zc 4 0)) ++ ((zh ([1, 0, 0, 0] : List UInt64)) ++ ((zh ([1, 0, 0, 0] : List UInt64)) ++ (zh (zc 4 0))))))) (t := 0) (T := 43) (ad := ⟨bk1, 0, none⟩) En10 (by kernel_rfl) (by kernel_rfl) (zx (t := 43) (k := 0) (off := 0) (m := 16) (xs := (zh (zc 4 0)) ++ ((zh ([1, 0, 0, 0] : List UInt64)) ++ ((zh ([1, 0, 0, 0] : List UInt64)) ++ (zh (zc 4 0))))) Hv11 rfl (zn (zw (zb (zd)) (zw (zb (show ze ([1, 0, 0, 0] : List UInt64) = 4 from rfl)) (zw (zb (show ze ([1, 0, 0, 0] : List UInt64) = 4 from rfl)) (zb (zd)))))) (zw (zb (zd)) (zw (zb (show ze ([1, 0, 0, 0] : List UInt64) = 4 from rfl)) (zw (zb (show ze ([1, 0, 0, 0] : List UInt64) = 4 from rfl)) (zb (zd))))) (by kernel_rfl) (by kernel_rfl)) ?_
 exact ⟨by first | rfl | kernel_rfl, Hv11.pk []⟩

theorem with_go (w : World) (x1 y1 z1 t1 x2 y2 z2 t2 : List UInt64) (hx1 : ze x1 = 4) (hy1 : ze y1 = 4) (hz1 : ze z1 = 4) (ht1 : ze t1 = 4) (hx2 : ze x2 = 4) (hy2 : ze y2 = 4) (hz2 : ze z2 = 4) (ht2 : ze t2 = 4) : Calls Tryd.prog 25 #[.agg (zi ((zh x1) ++ ((zh y1) ++ ((zh z1) ++ (zh t1))))), .agg (zi ((zh x2) ++ ((zh y2) ++ ((zh z2) ++ (zh t2)))))] w fun e w' => e = .returned (.agg (zi ((zh (nd (zq 1 (oE (nv x1) (nv y1) (nv x2) (nv y2)) (oF (nv z1) (nv t1) (nv z2) (nv t2))))) ++ ((zh (nd (zq 1 (oG (nv z1) (nv t1) (nv z2) (nv t2)) (oH (nv x1) (nv y1) (nv x2) (nv y2))))) ++ ((zh (nd (zq 1 (oF (nv z1) (nv t1) (nv z2) (nv t2)) (oG (nv z1) (nv t1) (nv z2) (nv t2))))) ++ (zh (nd (zq 1 (oE (nv x1) (nv y1) (nv x2) (nv y2)) (oH (nv x1) (nv y1) (nv x2) (nv y2)))))))))) ∧ Ev w [] w' [] := by
 refine d_0 [(0, .agg (zi ((zh x1) ++ ((zh y1) ++ ((zh z1) ++ (zh t1)))))), (1, .agg (zi ((zh x2) ++ ((zh y2) ++ ((zh z2) ++ (zh t2))))))] 75 Go.Proofs.Tryd.func25 Go.Proofs.Tryd.ntmps25 (Heap.nil _) fun act0 En0 Hv0 => ?_
 refine wp_seq <| zm <| f_o <| m_m 43 ((zh x1) ++ ((zh y1) ++ ((zh z1) ++ (zh t1)))) En0 Hv0 fun _ _ bk1 En4 Hv5 => ?_
 refine f_o <| m_m 43 ((zh x2) ++ ((zh y2) ++ ((zh z2) ++ (zh t2)))) En4 Hv5 fun _ _ bk6 En9 Hv10 => ?_
 refine f_o <| m_z 43 ((zh (zc 4 0)) ++ ((zh (zc 4 0)) ++ ((zh (zc 4 0)) ++ (zh (zc 4 0))))) En9 Hv10 fun _ _ bk11 En14 Hv15 => ?_
 refine f_e <| zg <| wp_seq <| r_c (fun ac wo => ∃ (bk67 : Nat), Env ac 75 [(2, pt bk1), (3, pt bk6), (4, pt bk11), (5, pt bk67)] ∧ Ev w [] wo [.box bk1 ((zh x1) ++ ((zh y1) ++ ((zh z1) ++ (zh t1)))) 43, .box bk6 ((zh x2) ++ ((zh y2) ++ ((zh z2) ++ (zh t2)))) 43, .box bk11 ((zh (zc 4 0)) ++ ((zh (zc 4 0)) ++ ((zh (zc 4 0)) ++ (zh (zc 4 0))))) 43, .box bk67 (zh (nd (zq 1 (nv (nd (zJ 1 (nv y1) (nv x1)))) (nv (nd (zJ 1 (nv y2) (nv x2))))))) 34]) ?_ ?_
 ·
  refine s_g1 [(2, pt bk1), (3, pt bk6), (4, pt bk11)] [0,1,2,3,4,5,6,7,8,9,10] [(13, .pointer (some ⟨bk1, 4, none⟩)), (14, .agg (zi (zh y1))), (15, pt bk1), (16, .agg (zi (zh x1))), (17, .agg (zi (zh (nd (zJ 1 (nv y1) (nv x1)))))), (18, .pointer (some ⟨bk6, 4, none⟩)), (19, .agg (zi (zh y2))), (20, pt bk6), (21, .agg (zi (zh x2))), (22, .agg (zi (zh (nd (zJ 1 (nv y2) (nv x2)))))), (23, .agg (zi (zh (nd (zq 1 (nv (nd (zJ 1 (nv y1) (nv x1)))) (nv (nd (zJ 1 (nv y2) (nv x2)))))))))] 1 [(2, pt bk1), (3, pt bk6), (4, pt bk11), (23, .agg (zi (zh (nd (zq 1 (nv (nd (zJ 1 (nv y1) (nv x1)))) (nv (nd (zJ 1 (nv y2) (nv x2)))))))))] 11 (zh (zc 4 0)) (En14.sb) (Hv15.trans (zQ Hv15.heap)) ?_ fun _ _ bk67 En65 Hv66 => ?_
  ·
   refine s_p [] ?_
   refine s_a 0 4 4 (zh y1) rfl (by simp [zb hx1, zb hy1, zb hz1, zb ht1, Zd, Ze]) (zb hy1) ?_
   refine s_p [] ?_
   refine s_a 0 0 4 (zh x1) rfl (by simp [zb hx1, zb hy1, zb hz1, zb ht1, Zd, Ze]) (zb hx1) ?_
   refine s_f (fun _ => edif_go _ y1 x1 hy1 hx1) ?_
   refine s_p [] ?_
   refine s_a 1 4 4 (zh y2) rfl (by simp [zb hx2, zb hy2, zb hz2, zb ht2, Zd, Ze]) (zb hy2) ?_
   refine s_p [] ?_
   refine s_a 1 0 4 (zh x2) rfl (by simp [zb hx2, zb hy2, zb hz2, zb ht2, Zd, Ze]) (zb hx2) ?_
   refine s_f (fun _ => edif_go _ y2 x2 hy2 hx2) ?_
   refine s_f (fun _ => emul_go _ (nd (zJ 1 (nv y1) (nv x1))) (nd (zJ 1 (nv y2) (nv x2))) (zk _ _) (zk _ _)) ?_
   exact s_n
  refine q_u 12 ?_
  refine m_g 3 0 4 (zh (nd (zq 1 (nv (nd (zJ 1 (nv y1) (nv x1)))) (nv (nd (zJ 1 (nv y2) (nv x2))))))) _ [.box bk1 ((zh x1) ++ ((zh y1) ++ ((zh z1) ++ (zh t1)))) 43, .box bk6 ((zh x2) ++ ((zh y2) ++ ((zh z2) ++ (zh t2)))) 43, .box bk11 ((zh (zc 4 0)) ++ ((zh (zc 4 0)) ++ ((zh (zc 4 0)) ++ (zh (zc 4 0))))) 43, .box bk67 (zh (nd (zq 1 (nv (nd (zJ 1 (nv y1) (nv x1)))) (nv (nd (zJ 1 (nv y2) (nv x2))))))) 34] En65 Hv66 rfl (zb (zk _ _)) (by rw [(zb (zd))]; first | decide | (simp; done)) (zu _) (zo (zb (zd))) rfl fun _ _ En74 Hv75 => ?_
  exact a_e ⟨bk67, En74.sb, Hv75.pk [0, 1, 2, 3]⟩
 rintro _ _ ⟨bk67, En78, Hv79⟩
 obtain ⟨qa, h_qa⟩ : ∃ q : List UInt64, q = nd (zq 1 (nv (nd (zJ 1 (nv y1) (nv x1)))) (nv (nd (zJ 1 (nv y2) (nv x2))))) := ⟨_, rfl⟩
 rw [← h_qa] at Hv79
 have n_qa : ze qa = 4 := by rw [h_qa]; exact zk _ _
 refine zg <| wp_seq <| r_c (fun ac wo => ∃ (bk131 : Nat), Env ac 75 [(2, pt bk1), (3, pt bk6), (4, pt bk11), (5, pt bk67), (6, pt bk131)] ∧ Ev w [] wo [.box bk1 ((zh x1) ++ ((zh y1) ++ ((zh z1) ++ (zh t1)))) 43, .box bk6 ((zh x2) ++ ((zh y2) ++ ((zh z2) ++ (zh t2)))) 43, .box bk11 ((zh (zc 4 0)) ++ ((zh (zc 4 0)) ++ ((zh (zc 4 0)) ++ (zh (zc 4 0))))) 43, .box bk67 (zh qa) 34, .box bk131 (zh (nd (zq 1 (nv (nd (Zf 1 (nv y1) (nv x1)))) (nv (nd (Zf 1 (nv y2) (nv x2))))))) 34]) ?_ ?_
 ·
  refine s_g1 [(2, pt bk1), (3, pt bk6), (4, pt bk11), (5, pt bk67)] [0,1,2,3,4,5,6,7,8,9,10] [(24, .pointer (some ⟨bk1, 4, none⟩)), (25, .agg (zi (zh y1))), (26, pt bk1), (27, .agg (zi (zh x1))), (28, .agg (zi (zh (nd (Zf 1 (nv y1) (nv x1)))))), (29, .pointer (some ⟨bk6, 4, none⟩)), (30, .agg (zi (zh y2))), (31, pt bk6), (32, .agg (zi (zh x2))), (33, .agg (zi (zh (nd (Zf 1 (nv y2) (nv x2)))))), (34, .agg (zi (zh (nd (zq 1 (nv (nd (Zf 1 (nv y1) (nv x1)))) (nv (nd (Zf 1 (nv y2) (nv x2)))))))))] 1 [(2, pt bk1), (3, pt bk6), (4, pt bk11), (5, pt bk67), (34, .agg (zi (zh (nd (zq 1 (nv (nd (Zf 1 (nv y1) (nv x1)))) (nv (nd (Zf 1 (nv y2) (nv x2)))))))))] 11 (zh (zc 4 0)) (En78.sb) (Hv79.trans (zQ Hv79.heap)) ?_ fun _ _ bk131 En129 Hv130 => ?_
  ·
   refine s_p [] ?_
   refine s_a 0 4 4 (zh y1) rfl (by simp [zb hx1, zb hy1, zb hz1, zb ht1, Zd, Ze]) (zb hy1) ?_
   refine s_p [] ?_
   refine s_a 0 0 4 (zh x1) rfl (by simp [zb hx1, zb hy1, zb hz1, zb ht1, Zd, Ze]) (zb hx1) ?_
   refine s_f (fun _ => esum_go _ y1 x1 hy1 hx1) ?_
   refine s_p [] ?_
   refine s_a 1 4 4 (zh y2) rfl (by simp [zb hx2, zb hy2, zb hz2, zb ht2, Zd, Ze]) (zb hy2) ?_
   refine s_p [] ?_
   refine s_a 1 0 4 (zh x2) rfl (by simp [zb hx2, zb hy2, zb hz2, zb ht2, Zd, Ze]) (zb hx2) ?_
   refine s_f (fun _ => esum_go _ y2 x2 hy2 hx2) ?_
   refine s_f (fun _ => emul_go _ (nd (Zf 1 (nv y1) (nv x1))) (nd (Zf 1 (nv y2) (nv x2))) (zk _ _) (zk _ _)) ?_
   exact s_n
  refine q_u 12 ?_
  refine m_g 4 0 4 (zh (nd (zq 1 (nv (nd (Zf 1 (nv y1) (nv x1)))) (nv (nd (Zf 1 (nv y2) (nv x2))))))) _ [.box bk1 ((zh x1) ++ ((zh y1) ++ ((zh z1) ++ (zh t1)))) 43, .box bk6 ((zh x2) ++ ((zh y2) ++ ((zh z2) ++ (zh t2)))) 43, .box bk11 ((zh (zc 4 0)) ++ ((zh (zc 4 0)) ++ ((zh (zc 4 0)) ++ (zh (zc 4 0))))) 43, .box bk67 (zh qa) 34, .box bk131 (zh (nd (zq 1 (nv (nd (Zf 1 (nv y1) (nv x1)))) (nv (nd (Zf 1 (nv y2) (nv x2))))))) 34] En129 Hv130 rfl (zb (zk _ _)) (by rw [(zb (zd))]; first | decide | (simp; done)) (zu _) (zo (zb (zd))) rfl fun _ _ En138 Hv139 => ?_
  exact a_e ⟨bk131, En138.sb, Hv139.pk [0, 1, 2, 3, 4]⟩
 rintro _ _ ⟨bk131, En142, Hv143⟩
 obtain ⟨qb, h_qb⟩ : ∃ q : List UInt64, q = nd (zq 1 (nv (nd (Zf 1 (nv y1) (nv x1)))) (nv (nd (Zf 1 (nv y2) (nv x2))))) := ⟨_, rfl⟩
 rw [← h_qb] at Hv143
 have n_qb : ze qb = 4 := by rw [h_qb]; exact zk _ _
 refine zg <| wp_seq <| zm <| d_k [2,3,4,5,6,35] [] 1 En142 fun _ En145 => ?_
 refine f_o <| m_a 0 12 4 (zh t1) En145 Hv143 rfl (by simp [zb hx1, zb hy1, zb hz1, zb ht1, Zd, Ze, ZI, JQ]) (zb ht1) fun _ En147 => ?_
 refine d_k [2,3,4,5,6,36,37] [] 3 En147 fun _ En149 => ?_
 refine f_o <| m_a 1 12 4 (zh t2) En149 Hv143 rfl (by simp [zb hx2, zb hy2, zb hz2, zb ht2, Zd, Ze, ZI, JQ]) (zb ht2) fun _ En151 => ?_
 refine f_o <| c_p En151 Hv143 (emul_go _ t1 t2 ht1 ht2) fun _ _ En157 Hv158 => ?_
 refine f_o <| c_p En157 Hv158 (twiceD_go _) fun _ _ En164 Hv165 => ?_
 refine f_o <| c_p En164 Hv165 (emul_go _ (nd (zq 1 (nv t1) (nv t2))) (nd D2N) (zk _ _) (zk _ _)) fun _ _ En171 Hv172 => ?_
 refine f_o <| m_z 34 (zh (zc 4 0)) En171 Hv172 fun _ _ bk173 En176 Hv177 => ?_
 refine f_o <| m_g 5 0 4 (zh (nd (zq 1 (nv (nd (zq 1 (nv t1) (nv t2)))) (nv (nd D2N))))) _ [.box bk1 ((zh x1) ++ ((zh y1) ++ ((zh z1) ++ (zh t1)))) 43, .box bk6 ((zh x2) ++ ((zh y2) ++ ((zh z2) ++ (zh t2)))) 43, .box bk11 ((zh (zc 4 0)) ++ ((zh (zc 4 0)) ++ ((zh (zc 4 0)) ++ (zh (zc 4 0))))) 43, .box bk67 (zh qa) 34, .box bk131 (zh qb) 34, .box bk173 (zh (nd (zq 1 (nv (nd (zq 1 (nv t1) (nv t2)))) (nv (nd D2N))))) 34] En176 Hv177 rfl (zb (zk _ _)) (by rw [(zb (zd))]; first | decide | (simp; done)) (zu _) (zo (zb (zd))) rfl fun _ _ En180 Hv181 => ?_
 refine f_e ?_
 obtain ⟨qc, h_qc⟩ : ∃ q : List UInt64, q = nd (zq 1 (nv (nd (zq 1 (nv t1) (nv t2)))) (nv (nd D2N))) := ⟨_, rfl⟩
 rw [← h_qc] at Hv181
 have n_qc : ze qc = 4 := by rw [h_qc]; exact zk _ _
 refine zg <| wp_seq <| zm <| d_k [2,3,4,5,6,7,42] [] 1 En180 fun _ En183 => ?_
 refine f_o <| m_a 0 8 4 (zh z1) En183 Hv181 rfl (by simp [zb hx1, zb hy1, zb hz1, zb ht1, Zd, Ze]) (zb hz1) fun _ En185 => ?_
 refine d_k [2,3,4,5,6,7,43,44] [] 3 En185 fun _ En187 => ?_
 refine f_o <| m_a 1 8 4 (zh z2) En187 Hv181 rfl (by simp [zb hx2, zb hy2, zb hz2, zb ht2, Zd, Ze]) (zb hz2) fun _ En189 => ?_
 refine f_o <| c_p En189 Hv181 (emul_go _ z1 z2 hz1 hz2) fun _ _ En195 Hv196 => ?_
 refine f_o <| m_z 34 (zh (zc 4 0)) En195 Hv196 fun _ _ bk197 En200 Hv201 => ?_
 refine f_o <| m_g 6 0 4 (zh (nd (zq 1 (nv z1) (nv z2)))) _ [.box bk1 ((zh x1) ++ ((zh y1) ++ ((zh z1) ++ (zh t1)))) 43, .box bk6 ((zh x2) ++ ((zh y2) ++ ((zh z2) ++ (zh t2)))) 43, .box bk11 ((zh (zc 4 0)) ++ ((zh (zc 4 0)) ++ ((zh (zc 4 0)) ++ (zh (zc 4 0))))) 43, .box bk67 (zh qa) 34, .box bk131 (zh qb) 34, .box bk173 (zh qc) 34, .box bk197 (zh (nd (zq 1 (nv z1) (nv z2)))) 34] En200 Hv201 rfl (zb (zk _ _)) (by rw [(zb (zd))]; first | decide | (simp; done)) (zu _) (zo (zb (zd))) rfl fun _ _ En204 Hv205 => ?_
 refine f_e <| zg <| wp_seq <| zm <| f_o <| m_a 6 0 4 (zh (nd (zq 1 (nv z1) (nv z2)))) En204 Hv205 rfl (zn (zb (zk _ _))) (zb (zk _ _)) fun _ En207 => ?_
 refine f_o <| m_a 6 0 4 (zh (nd (zq 1 (nv z1) (nv z2)))) En207 Hv205 rfl (zn (zb (zk _ _))) (zb (zk _ _)) fun _ En209 => ?_
 refine f_o <| c_p En209 Hv205 (esum_go _ (nd (zq 1 (nv z1) (nv z2))) (nd (zq 1 (nv z1) (nv z2))) (zk _ _) (zk _ _)) fun _ _ En215 Hv216 => ?_
 refine f_o <| m_g 6 0 4 (zh (nd (Zf 1 (nv (nd (zq 1 (nv z1) (nv z2)))) (nv (nd (zq 1 (nv z1) (nv z2))))))) _ [.box bk1 ((zh x1) ++ ((zh y1) ++ ((zh z1) ++ (zh t1)))) 43, .box bk6 ((zh x2) ++ ((zh y2) ++ ((zh z2) ++ (zh t2)))) 43, .box bk11 ((zh (zc 4 0)) ++ ((zh (zc 4 0)) ++ ((zh (zc 4 0)) ++ (zh (zc 4 0))))) 43, .box bk67 (zh qa) 34, .box bk131 (zh qb) 34, .box bk173 (zh qc) 34, .box bk197 (zh (nd (Zf 1 (nv (nd (zq 1 (nv z1) (nv z2)))) (nv (nd (zq 1 (nv z1) (nv z2))))))) 34] En215 Hv216 rfl (zb (zk _ _)) (by rw [(zb (zk _ _))]; first | decide | (simp; done)) (zu _) (zo (zb (zk _ _))) rfl fun _ _ En219 Hv220 => ?_
 refine f_e ?_
 obtain ⟨qd, h_qd⟩ : ∃ q : List UInt64, q = nd (Zf 1 (nv (nd (zq 1 (nv z1) (nv z2)))) (nv (nd (zq 1 (nv z1) (nv z2))))) := ⟨_, rfl⟩
 rw [← h_qd] at Hv220
 have n_qd : ze qd = 4 := by rw [h_qd]; exact zk _ _
 refine zg <| wp_seq <| r_c (fun ac wo => ∃ (bk301 : Nat) (bk302 : Nat) (bk303 : Nat) (bk304 : Nat), Env ac 75 [(2, pt bk1), (3, pt bk6), (4, pt bk11), (5, pt bk67), (6, pt bk131), (7, pt bk173), (8, pt bk197), (9, pt bk301), (10, pt bk302), (11, pt bk303), (12, pt bk304)] ∧ Ev w [] wo [.box bk1 ((zh x1) ++ ((zh y1) ++ ((zh z1) ++ (zh t1)))) 43, .box bk6 ((zh x2) ++ ((zh y2) ++ ((zh z2) ++ (zh t2)))) 43, .box bk11 ((zh (zc 4 0)) ++ ((zh (zc 4 0)) ++ ((zh (zc 4 0)) ++ (zh (zc 4 0))))) 43, .box bk67 (zh qa) 34, .box bk131 (zh qb) 34, .box bk173 (zh qc) 34, .box bk197 (zh qd) 34, .box bk301 (zh (nd (zJ 1 (nv qb) (nv qa)))) 34, .box bk302 (zh (nd (zJ 1 (nv qd) (nv qc)))) 34, .box bk303 (zh (nd (Zf 1 (nv qd) (nv qc)))) 34, .box bk304 (zh (nd (Zf 1 (nv qb) (nv qa)))) 34]) ?_ ?_
 ·
  refine s_g4 [(2, pt bk1), (3, pt bk6), (4, pt bk11), (5, pt bk67), (6, pt bk131), (7, pt bk173), (8, pt bk197)] [0,1,2,3,4,5,6,7,8,9,10,11] [(50, .agg (zi (zh qb))), (51, .agg (zi (zh qa))), (52, .agg (zi (zh (nd (zJ 1 (nv qb) (nv qa)))))), (53, .agg (zi (zh qd))), (54, .agg (zi (zh qc))), (55, .agg (zi (zh (nd (zJ 1 (nv qd) (nv qc)))))), (56, .agg (zi (zh qd))), (57, .agg (zi (zh qc))), (58, .agg (zi (zh (nd (Zf 1 (nv qd) (nv qc)))))), (59, .agg (zi (zh qb))), (60, .agg (zi (zh qa))), (61, .agg (zi (zh (nd (Zf 1 (nv qb) (nv qa))))))] 4 [(2, pt bk1), (3, pt bk6), (4, pt bk11), (5, pt bk67), (6, pt bk131), (7, pt bk173), (8, pt bk197), (52, .agg (zi (zh (nd (zJ 1 (nv qb) (nv qa)))))), (55, .agg (zi (zh (nd (zJ 1 (nv qd) (nv qc)))))), (58, .agg (zi (zh (nd (Zf 1 (nv qd) (nv qc)))))), (61, .agg (zi (zh (nd (Zf 1 (nv qb) (nv qa))))))] 12 13 14 15 (zh (zc 4 0)) (zh (zc 4 0)) (zh (zc 4 0)) (zh (zc 4 0)) (En219.sb) (Hv220.trans (zQ Hv220.heap)) ?_ fun _ _ bk301 bk302 bk303 bk304 En299 Hv300 => ?_
  ·
   refine s_a 4 0 4 (zh qb) rfl (zn (zb n_qb)) (zb n_qb) ?_
   refine s_a 3 0 4 (zh qa) rfl (zn (zb n_qa)) (zb n_qa) ?_
   refine s_f (fun _ => edif_go _ qb qa n_qb n_qa) ?_
   refine s_a 6 0 4 (zh qd) rfl (zn (zb n_qd)) (zb n_qd) ?_
   refine s_a 5 0 4 (zh qc) rfl (zn (zb n_qc)) (zb n_qc) ?_
   refine s_f (fun _ => edif_go _ qd qc n_qd n_qc) ?_
   refine s_a 6 0 4 (zh qd) rfl (zn (zb n_qd)) (zb n_qd) ?_
   refine s_a 5 0 4 (zh qc) rfl (zn (zb n_qc)) (zb n_qc) ?_
   refine s_f (fun _ => esum_go _ qd qc n_qd n_qc) ?_
   refine s_a 4 0 4 (zh qb) rfl (zn (zb n_qb)) (zb n_qb) ?_
   refine s_a 3 0 4 (zh qa) rfl (zn (zb n_qa)) (zb n_qa) ?_
   refine s_f (fun _ => esum_go _ qb qa n_qb n_qa) ?_
   exact s_n
  refine q_u 16 ?_
  refine m_g 7 0 4 (zh (nd (zJ 1 (nv qb) (nv qa)))) _ [.box bk1 ((zh x1) ++ ((zh y1) ++ ((zh z1) ++ (zh t1)))) 43, .box bk6 ((zh x2) ++ ((zh y2) ++ ((zh z2) ++ (zh t2)))) 43, .box bk11 ((zh (zc 4 0)) ++ ((zh (zc 4 0)) ++ ((zh (zc 4 0)) ++ (zh (zc 4 0))))) 43, .box bk67 (zh qa) 34, .box bk131 (zh qb) 34, .box bk173 (zh qc) 34, .box bk197 (zh qd) 34, .box bk301 (zh (nd (zJ 1 (nv qb) (nv qa)))) 34, .box bk302 (zh (zc 4 0)) 34, .box bk303 (zh (zc 4 0)) 34, .box bk304 (zh (zc 4 0)) 34] En299 Hv300 rfl (zb (zk _ _)) (by rw [(zb (zd))]; first | decide | (simp; done)) (zu _) (zo (zb (zd))) rfl fun _ _ En323 Hv324 => ?_
  refine q_u 17 ?_
  refine m_g 8 0 4 (zh (nd (zJ 1 (nv qd) (nv qc)))) _ [.box bk1 ((zh x1) ++ ((zh y1) ++ ((zh z1) ++ (zh t1)))) 43, .box bk6 ((zh x2) ++ ((zh y2) ++ ((zh z2) ++ (zh t2)))) 43, .box bk11 ((zh (zc 4 0)) ++ ((zh (zc 4 0)) ++ ((zh (zc 4 0)) ++ (zh (zc 4 0))))) 43, .box bk67 (zh qa) 34, .box bk131 (zh qb) 34, .box bk173 (zh qc) 34, .box bk197 (zh qd) 34, .box bk301 (zh (nd (zJ 1 (nv qb) (nv qa)))) 34, .box bk302 (zh (nd (zJ 1 (nv qd) (nv qc)))) 34, .box bk303 (zh (zc 4 0)) 34, .box bk304 (zh (zc 4 0)) 34] En323 Hv324 rfl (zb (zk _ _)) (by rw [(zb (zd))]; first | decide | (simp; done)) (zu _) (zo (zb (zd))) rfl fun _ _ En327 Hv328 => ?_
  refine q_u 18 ?_
  refine m_g 9 0 4 (zh (nd (Zf 1 (nv qd) (nv qc)))) _ [.box bk1 ((zh x1) ++ ((zh y1) ++ ((zh z1) ++ (zh t1)))) 43, .box bk6 ((zh x2) ++ ((zh y2) ++ ((zh z2) ++ (zh t2)))) 43, .box bk11 ((zh (zc 4 0)) ++ ((zh (zc 4 0)) ++ ((zh (zc 4 0)) ++ (zh (zc 4 0))))) 43, .box bk67 (zh qa) 34, .box bk131 (zh qb) 34, .box bk173 (zh qc) 34, .box bk197 (zh qd) 34, .box bk301 (zh (nd (zJ 1 (nv qb) (nv qa)))) 34, .box bk302 (zh (nd (zJ 1 (nv qd) (nv qc)))) 34, .box bk303 (zh (nd (Zf 1 (nv qd) (nv qc)))) 34, .box bk304 (zh (zc 4 0)) 34] En327 Hv328 rfl (zb (zk _ _)) (by rw [(zb (zd))]; first | decide | (simp; done)) (zu _) (zo (zb (zd))) rfl fun _ _ En331 Hv332 => ?_
  refine q_u 19 ?_
  refine m_g 10 0 4 (zh (nd (Zf 1 (nv qb) (nv qa)))) _ [.box bk1 ((zh x1) ++ ((zh y1) ++ ((zh z1) ++ (zh t1)))) 43, .box bk6 ((zh x2) ++ ((zh y2) ++ ((zh z2) ++ (zh t2)))) 43, .box bk11 ((zh (zc 4 0)) ++ ((zh (zc 4 0)) ++ ((zh (zc 4 0)) ++ (zh (zc 4 0))))) 43, .box bk67 (zh qa) 34, .box bk131 (zh qb) 34, .box bk173 (zh qc) 34, .box bk197 (zh qd) 34, .box bk301 (zh (nd (zJ 1 (nv qb) (nv qa)))) 34, .box bk302 (zh (nd (zJ 1 (nv qd) (nv qc)))) 34, .box bk303 (zh (nd (Zf 1 (nv qd) (nv qc)))) 34, .box bk304 (zh (nd (Zf 1 (nv qb) (nv qa)))) 34] En331 Hv332 rfl (zb (zk _ _)) (by rw [(zb (zd))]; first | decide | (simp; done)) (zu _) (zo (zb (zd))) rfl fun _ _ En335 Hv336 => ?_
  exact a_e ⟨bk301, bk302, bk303, bk304, En335.sb, Hv336.pk [0, 1, 2, 3, 4, 5, 6, 7, 8, 9, 10]⟩
 rintro _ _ ⟨bk301, bk302, bk303, bk304, En339, Hv340⟩
 obtain ⟨qe, h_qe⟩ : ∃ q : List UInt64, q = nd (zJ 1 (nv qb) (nv qa)) := ⟨_, rfl⟩
 rw [← h_qe] at Hv340
 have n_qe : ze qe = 4 := by rw [h_qe]; exact zk _ _
 obtain ⟨qf, h_qf⟩ : ∃ q : List UInt64, q = nd (zJ 1 (nv qd) (nv qc)) := ⟨_, rfl⟩
 rw [← h_qf] at Hv340
 have n_qf : ze qf = 4 := by rw [h_qf]; exact zk _ _
 obtain ⟨qg, h_qg⟩ : ∃ q : List UInt64, q = nd (Zf 1 (nv qd) (nv qc)) := ⟨_, rfl⟩
 rw [← h_qg] at Hv340
 have n_qg : ze qg = 4 := by rw [h_qg]; exact zk _ _
 obtain ⟨qh, h_qh⟩ : ∃ q : List UInt64, q = nd (Zf 1 (nv qb) (nv qa)) := ⟨_, rfl⟩
 rw [← h_qh] at Hv340
 have n_qh : ze qh = 4 := by rw [h_qh]; exact zk _ _
 refine zg <| wp_seq <| r_c (fun ac wo => Env ac 75 [(2, pt bk1), (3, pt bk6), (4, pt bk11), (5, pt bk67), (6, pt bk131), (7, pt bk173), (8, pt bk197), (9, pt bk301), (10, pt bk302), (11, pt bk303), (12, pt bk304)] ∧ Ev w [] wo [.box bk1 ((zh x1) ++ ((zh y1) ++ ((zh z1) ++ (zh t1)))) 43, .box bk6 ((zh x2) ++ ((zh y2) ++ ((zh z2) ++ (zh t2)))) 43, .box bk11 ((zh (nd (zq 1 (nv qe) (nv qf)))) ++ ((zh (nd (zq 1 (nv qg) (nv qh)))) ++ ((zh (nd (zq 1 (nv qf) (nv qg)))) ++ (zh (nd (zq 1 (nv qe) (nv qh))))))) 43, .box bk67 (zh qa) 34, .box bk131 (zh qb) 34, .box bk173 (zh qc) 34, .box bk197 (zh qd) 34, .box bk301 (zh qe) 34, .box bk302 (zh qf) 34, .box bk303 (zh qg) 34, .box bk304 (zh qh) 34]) ?_ ?_
 ·
  refine s_g0 [(2, pt bk1), (3, pt bk6), (4, pt bk11), (5, pt bk67), (6, pt bk131), (7, pt bk173), (8, pt bk197), (9, pt bk301), (10, pt bk302), (11, pt bk303), (12, pt bk304)] [0,1,2,3,4,5,6,7,8,9,10,11,12] [(62, .agg (zi (zh qe))), (63, .agg (zi (zh qf))), (64, .agg (zi (zh (nd (zq 1 (nv qe) (nv qf)))))), (65, .agg (zi (zh qg))), (66, .agg (zi (zh qh))), (67, .agg (zi (zh (nd (zq 1 (nv qg) (nv qh)))))), (68, .agg (zi (zh qf))), (69, .agg (zi (zh qg))), (70, .agg (zi (zh (nd (zq 1 (nv qf) (nv qg)))))), (71, .agg (zi (zh qe))), (72, .agg (zi (zh qh))), (73, .agg (zi (zh (nd (zq 1 (nv qe) (nv qh)))))), (74, .agg (zi ((zh (nd (zq 1 (nv qe) (nv qf)))) ++ ((zh (nd (zq 1 (nv qg) (nv qh)))) ++ ((zh (nd (zq 1 (nv qf) (nv qg)))) ++ (zh (nd (zq 1 (nv qe) (nv qh)))))))))] 1 [(2, pt bk1), (3, pt bk6), (4, pt bk11), (5, pt bk67), (6, pt bk131), (7, pt bk173), (8, pt bk197), (9, pt bk301), (10, pt bk302), (11, pt bk303), (12, pt bk304), (74, .agg (zi ((zh (nd (zq 1 (nv qe) (nv qf)))) ++ ((zh (nd (zq 1 (nv qg) (nv qh)))) ++ ((zh (nd (zq 1 (nv qf) (nv qg)))) ++ (zh (nd (zq 1 (nv qe) (nv qh)))))))))] (En339.sb) (Hv340.trans (zQ Hv340.heap)) ?_ fun _ _ En419 Hv420 => ?_
  ·
   refine s_a 7 0 4 (zh qe) rfl (zn (zb n_qe)) (zb n_qe) ?_
   refine s_a 8 0 4 (zh qf) rfl (zn (zb n_qf)) (zb n_qf) ?_
   refine s_f (fun _ => emul_go _ qe qf n_qe n_qf) ?_
   refine s_a 9 0 4 (zh qg) rfl (zn (zb n_qg)) (zb n_qg) ?_
   refine s_a 10 0 4 (zh qh) rfl (zn (zb n_qh)) (zb n_qh) ?_
   refine s_f (fun _ => emul_go _ qg qh n_qg n_qh) ?_
   refine s_a 8 0 4 (zh qf) rfl (zn (zb n_qf)) (zb n_qf) ?_
   refine s_a 9 0 4 (zh qg) rfl (zn (zb n_qg)) (zb n_qg) ?_
   refine s_f (fun _ => emul_go _ qf qg n_qf n_qg) ?_
   refine s_a 7 0 4 (zh qe) rfl (zn (zb n_qe)) (zb n_qe) ?_
   refine s_a 10 0 4 (zh qh) rfl (zn (zb n_qh)) (zb n_qh) ?_
   refine s_f (fun _ => emul_go _ qe qh n_qe n_qh) ?_
   refine s_p [] ?_
   exact s_n
  refine q_u 13 ?_
  refine m_g 2 0 16 ((zh (nd (zq 1 (nv qe) (nv qf)))) ++ ((zh (nd (zq 1 (nv qg) (nv qh)))) ++ ((zh (nd (zq 1 (nv qf) (nv qg)))) ++ (zh (nd (zq 1 (nv qe) (nv qh))))))) _ [.box bk1 ((zh x1) ++ ((zh y1) ++ ((zh z1) ++ (zh t1)))) 43, .box bk6 ((zh x2) ++ ((zh y2) ++ ((zh z2) ++ (zh t2)))) 43, .box bk11 ((zh (nd (zq 1 (nv qe) (nv qf)))) ++ ((zh (nd (zq 1 (nv qg) (nv qh)))) ++ ((zh (nd (zq 1 (nv qf) (nv qg)))) ++ (zh (nd (zq 1 (nv qe) (nv qh))))))) 43, .box bk67 (zh qa) 34, .box bk131 (zh qb) 34, .box bk173 (zh qc) 34, .box bk197 (zh qd) 34, .box bk301 (zh qe) 34, .box bk302 (zh qf) 34, .box bk303 (zh qg) 34, .box bk304 (zh qh) 34] En419 Hv420 rfl (zw (zb (zk _ _)) (zw (zb (zk _ _)) (zw (zb (zk _ _)) (zb (zk _ _))))) (by rw [(zw (zb (zd)) (zw (zb (zd)) (zw (zb (zd)) (zb (zd)))))]; first | decide | (simp; done)) (ZX (zu _) (ZX (zu _) (ZX (zu _) (zu _)))) (zo (zw (zb (zd)) (zw (zb (zd)) (zw (zb (zd)) (zb (zd)))))) rfl fun _ _ En427 Hv428 => ?_
  exact a_e ⟨En427.sb, Hv428.pk [0, 1, 2, 3, 4, 5, 6, 7, 8, 9, 10]⟩
 rintro _ _ ⟨En431, Hv432⟩
 refine zg <| wp_ret <| z5 (v := .agg (zi ((zh (nd (zq 1 (nv qe) (nv qf)))) ++ ((zh (nd (zq 1 (nv qg) (nv qh)))) ++ ((zh (nd (zq 1 (nv qf) (nv qg)))) ++ (zh (nd (zq 1 (nv qe) (nv qh))))))))) (t := 4) (T := 43) (ad := ⟨bk11, 0, none⟩) En431 (by kernel_rfl) (by kernel_rfl) (zx (t := 43) (k := 2) (off := 0) (m := 16) (xs := (zh (nd (zq 1 (nv qe) (nv qf)))) ++ ((zh (nd (zq 1 (nv qg) (nv qh)))) ++ ((zh (nd (zq 1 (nv qf) (nv qg)))) ++ (zh (nd (zq 1 (nv qe) (nv qh))))))) Hv432 rfl (zn (zw (zb (zk _ _)) (zw (zb (zk _ _)) (zw (zb (zk _ _)) (zb (zk _ _)))))) (zw (zb (zk _ _)) (zw (zb (zk _ _)) (zw (zb (zk _ _)) (zb (zk _ _))))) (by kernel_rfl) (by kernel_rfl)) ?_
 have e0 : nd (zq 1 (nv qe) (nv qf)) = nd (zq 1 (oE (nv x1) (nv y1) (nv x2) (nv y2)) (oF (nv z1) (nv t1) (nv z2) (nv t2))) := by
  subst h_qh h_qg h_qf h_qe h_qd h_qc h_qb h_qa
  simp only [nv_m1, nv_a1, nv_s1, nv_d2, oE, oF, oG, oH, oA, oB, oC, oD]
 have e1 : nd (zq 1 (nv qg) (nv qh)) = nd (zq 1 (oG (nv z1) (nv t1) (nv z2) (nv t2)) (oH (nv x1) (nv y1) (nv x2) (nv y2))) := by
  subst h_qh h_qg h_qf h_qe h_qd h_qc h_qb h_qa
  simp only [nv_m1, nv_a1, nv_s1, nv_d2, oE, oF, oG, oH, oA, oB, oC, oD]
 have e2 : nd (zq 1 (nv qf) (nv qg)) = nd (zq 1 (oF (nv z1) (nv t1) (nv z2) (nv t2)) (oG (nv z1) (nv t1) (nv z2) (nv t2))) := by
  subst h_qh h_qg h_qf h_qe h_qd h_qc h_qb h_qa
  simp only [nv_m1, nv_a1, nv_s1, nv_d2, oE, oF, oG, oH, oA, oB, oC, oD]
 have e3 : nd (zq 1 (nv qe) (nv qh)) = nd (zq 1 (oE (nv x1) (nv y1) (nv x2) (nv y2)) (oH (nv x1) (nv y1) (nv x2) (nv y2))) := by
  subst h_qh h_qg h_qf h_qe h_qd h_qc h_qb h_qa
  simp only [nv_m1, nv_a1, nv_s1, nv_d2, oE, oF, oG, oH, oA, oB, oC, oD]
 exact ⟨ret4 e0 e1 e2 e3, Hv432.pk []⟩

theorem with16_go (w : World) (p q : L4) (hp : p.length = 16) (hq : q.length = 16) : Calls Tryd.prog 25 #[.agg (zi (zh p)), .agg (zi (zh q))] w fun e w' => e = .returned (.agg (zi (zh (wtE p q)))) ∧ Ev w [] w' [] := by
  have h := with_go w (p.take 4) ((p.drop 4).take 4) ((p.drop 8).take 4) (p.drop 12) (q.take 4) ((q.drop 4).take 4) ((q.drop 8).take 4) (q.drop 12) (by simp [hp]) (by simp [hp]) (by simp [hp]) (by simp [hp]) (by simp [hq]) (by simp [hq]) (by simp [hq]) (by simp [hq])
  rw [cut16, cut16, cat16] at h
  exact h

end Go.Proofs.YtlnogkmnklfjlaaDoor

/- Structs of a Boolean and two arrays of words, compared. -/


namespace Go.Dbr
open Go Go.RowKit
set_option linter.unusedSimpArgs false
set_option linter.unusedVariables false
section
variable {P : Program} {w : World}
end
end Go.Dbr

/- Structs that are built of parts whose cells are told. -/


namespace Go.Dbr
open Go Go.RowKit
set_option linter.unusedSimpArgs false
set_option linter.unusedVariables false
end Go.Dbr

/- Layer 12: a point so many times. -/


namespace Go.Proofs.YtlnogkmnklfjlaaDoor
open Go.Dbr
set_option maxRecDepth 100000
set_option maxHeartbeats 2000000
set_option linter.unusedVariables false
set_option linter.unusedSimpArgs false

def rows0 : L4 := Jz ++ zc 240 0
theorem rows0_len : rows0.length = 256 := rfl
/-- a row is put -/
theorem put_same {l x : L4} {i : Nat} (hl : l.length = 256) (hx : x.length = 16) (hi : i < 16) : zr 16 (zs (i * 16) (zr (i * 16) l ++ x ++ zs (i * 16 + 16) l)) = x := by
  have h1 : (zr (i * 16) l).length = i * 16 := by rw [zI]; omega
  rw [Qb, List.drop_left' h1, List.take_left' hx]
theorem put_other {l x : L4} {i j : Nat} (hl : l.length = 256) (hx : x.length = 16) (hi : i < 16) (hj : j < i) : zr 16 (zs (j * 16) (zr (i * 16) l ++ x ++ zs (i * 16 + 16) l)) = zr 16 (zs (j * 16) l) := by
  refine List.ext_getElem? fun q => ?_
  rw [ZG, ZG]
  split
  · rename_i hq
    rw [QD, QD, Qb, List.getElem?_append_left (by rw [zI]; omega), ZG, if_pos (by omega)]
  · rfl
theorem nib_shr (x : UInt64) (m : Nat) (hm : m < 16) : ((x >>> za (4 * m)) &&& 15).toNat = x.toNat / 16 ^ m % 16 := by
  rw [QW, UInt64.toNat_shiftRight, show (15 : UInt64).toNat = 2 ^ 4 - 1 from rfl, Nat.and_two_pow_sub_one_eq_mod, ofNat_val, zB (show 4 * m < 18446744073709551616 by omega), zB (show 4 * m < 64 by omega), Nat.shiftRight_eq_div_pow, show (2 : Nat) ^ (4 * m) = 16 ^ m from by rw [Z6]]
theorem dig_nv {k : L4} (hk : k.length = 4) (j : Nat) (hj : j < 4) : (zf k j 0).toNat = nv k / 18446744073709551616 ^ j % 18446744073709551616 := by
  match k, hk with
  | [a, b, c, d], _ =>
    rw [nv4]
    have h1 := lt64 a
    have h2 := lt64 b
    have h3 := lt64 c
    have h4 := lt64 d
    match j, hj with
    | 0, _ => show a.toNat = _; rw [Nat.pow_zero]; omega
    | 1, _ => show b.toNat = _; rw [Nat.pow_one]; omega
    | 2, _ => show c.toNat = _; rw [show (18446744073709551616 : Nat) ^ 2 = 340282366920938463463374607431768211456 from rfl]; omega
    | 3, _ => show d.toNat = _; rw [show (18446744073709551616 : Nat) ^ 3 = 6277101735386680763835789423207666416102355444464034512896 from rfl]; omega
theorem nib_u {k : L4} (hk : k.length = 4) {i : Nat} (hi : i < 64) : ((zt ((zf k (i / 16) 0 >>> za (4 * (i % 16))) &&& 15) : Nat) : Int) = ((nib (nv k) i : Nat) : Int) := by
  rw [nib_shr _ _ (by omega), dig_nv hk _ (by omega), nib]
  congr 1
  have e : (16 : Nat) ^ i = 18446744073709551616 ^ (i / 16) * 16 ^ (i % 16) := by
    rw [show (18446744073709551616 : Nat) = 16 ^ 16 from rfl, ← Z6, ← Zy]
    congr 1
    omega
  rw [e, ← Nat.div_div_eq_div_mul]
  generalize nv k / 18446744073709551616 ^ (i / 16) = q
  have hm : i % 16 < 16 := Zw _ (by decide)
  have e2 : (18446744073709551616 : Nat) = 16 ^ (i % 16) * (16 * 16 ^ (15 - i % 16)) := by
    rw [show (18446744073709551616 : Nat) = 16 ^ 16 from rfl, ← Nat.pow_succ', ← Zy]
    congr 1
    omega
  rw [e2, Nat.mod_mul_right_div_self, Nat.mod_mul_right_mod]
theorem nib_lt (k i : Nat) : nib k i < 16 := Zw _ (by decide)
theorem rows0_0 : zr 16 (zs (0 * 16) rows0) = Jz := rfl

theorem times16_go (w : World) (p k : List UInt64) (hp : ze p = 16) (hk : ze k = 4) : Calls Tryd.prog 23 #[.agg (zi (zh p)), .agg (zi (zh k))] w fun e w' => e = .returned (.agg (zi (zh (tmF p (nv k) 64)))) ∧ Ev w [] w' [] := by
 refine d_0 [(0, .agg (zi (zh p))), (1, .agg (zi (zh k)))] 48 Go.Proofs.Tryd.func23 Go.Proofs.Tryd.ntmps23 (Heap.nil _) fun act0 En0 Hv0 => ?_
 refine wp_seq <| zm <| f_o <| m_m 43 (zh p) En0 Hv0 fun _ _ bk1 En4 Hv5 => ?_
 refine f_o <| m_m 34 (zh k) En4 Hv5 fun _ _ bk6 En9 Hv10 => ?_
 refine f_o <| m_z 43 (zh (zc 16 0)) En9 Hv10 fun _ _ bk11 En14 Hv15 => ?_
 refine f_e <| zg <| wp_seq <| zm <| f_o <| c_p En14 Hv15 (nothing_go _) fun _ _ En21 Hv22 => ?_
 refine d_k [2,3,4,10] [] 2 En21 fun _ En24 => ?_
 refine f_o <| m_z 75 (zh (zc 256 0)) En24 Hv22 fun _ _ bk25 En28 Hv29 => ?_
 refine f_o <| m_g 3 0 256 (zh rows0) _ [.box bk1 (zh p) 43, .box bk6 (zh k) 34, .box bk11 (zh (zc 16 0)) 43, .box bk25 (zh rows0) 75] En28 Hv29 rfl (zb rows0_len) (by rw [(zb (zd))]; first | decide | (simp; done)) (zu _) (zo (zb (zd))) rfl fun _ _ En32 Hv33 => ?_
 refine f_e <| zg <| wp_seq <| d_s [2,3,4,5,6] [] En32 fun _ En35 => ?_
 refine wp_block <| loop_m (fun ms36 ac wo => ∃ (i : Nat) (R : List UInt64), ms36 = (15 - i : Nat) ∧ Env ac 48 [(2, pt bk1), (3, pt bk6), (4, pt bk11), (5, pt bk25), (6, ni (i + 1))] ∧ Ev w [] wo [.box bk25 (zh R) 75, .box bk1 (zh p) 43, .box bk6 (zh k) 34, .box bk11 (zh (zc 16 0)) 43] ∧ (i ≤ 15) ∧ (ze R = 256) ∧ (∀ j, j < i + 1 → zr 16 (zs (j * 16) R) = rowF p j)) ⟨_, 0, rows0, rfl, En35.sb, Hv33.pk [3, 0, 1, 2], (by omega), rows0_len, (fun j hj => by have e : j = 0 := (by omega); subst e; exact rows0_0)⟩ ?_
 rintro mm42 _ _ ⟨i, R, rfl, En40, Hv41, hi, hR, hf⟩
 refine wp_seq <| d_s [2,3,4,5,6,12] [] En40 fun _ En44 => ?_
 refine c_d (((i + 1 : Nat) : Int) < (16 : Int)) En44 (fun hc45 => ?_) (fun hc45 => ?_)
 ·
  refine wp_skip <| zg <| wp_seq <| wp_block <| r_c (fun ac wo => Env ac 48 [(2, pt bk1), (3, pt bk6), (4, pt bk11), (5, pt bk25), (6, ni (i + 1))] ∧ Ev w [] wo [.box bk25 (zh (zr ((i + 1) * 16) R ++ (wtE (zr 16 (zs (i * 16) R)) p) ++ zs (((i + 1) * 16) + 16) R)) 75, .box bk1 (zh p) 43, .box bk6 (zh k) 34, .box bk11 (zh (zc 16 0)) 43]) ?_ ?_
  ·
   refine s_g0 [(2, pt bk1), (3, pt bk6), (4, pt bk11), (5, pt bk25), (6, ni (i + 1))] [0,1,2,3,4,5,6,7] [(15, ni (i + 1)), (16, ni (i + 1)), (17, ni i), (18, .pointer (some ⟨bk25, i * 16, none⟩)), (19, .agg (zi (zh (zr 16 (zs (i * 16) R))))), (20, .agg (zi (zh p))), (21, .agg (zi (zh (wtE (zr 16 (zs (i * 16) R)) p)))), (22, .pointer (some ⟨bk25, (i + 1) * 16, none⟩))] 1 [(2, pt bk1), (3, pt bk6), (4, pt bk11), (5, pt bk25), (6, ni (i + 1)), (21, .agg (zi (zh (wtE (zr 16 (zs (i * 16) R)) p)))), (22, .pointer (some ⟨bk25, (i + 1) * 16, none⟩))] (En44.sb) (Hv41.trans (zQ Hv41.heap)) ?_ fun _ _ En81 Hv82 => ?_
   ·
    refine s_p [] ?_
    refine s_p [] ?_
    refine s_p [(2, g_n (w_r (e := ((i + 1 : Nat) : Int) - (1 : Int)) (x := ((i : Nat) : Int)) (by omega)))] ?_
    refine s_c (fun Mx46 _ _ En49 Hv50 => ?_) ?_
    ·
     refine q_v (x := Instr.indexAt 75 (pt bk25) (ni i)) (v := .pointer (some ⟨bk25, i * 16, none⟩)) En49 (Go.Dbr.run_indexarr (e := 43) (sz := 16) (m := 16) (j := i) (o := i * 16) (by kernel_rfl) (by kernel_rfl) (by omega) (by omega) (by omega) _) fun _ En52 => ?_
     exact s_e En52 Hv50
    refine s_a 0 (i * 16) 16 (zh (zr 16 (zs (i * 16) R))) rfl (u64s_sub _ _ _) (zb (Jt hR (by omega))) ?_
    refine s_a 1 0 16 (zh p) rfl (zn (zb hp)) (zb hp) ?_
    refine s_f (fun _ => with16_go _ (zr 16 (zs (i * 16) R)) p (Jt hR (by omega)) hp) ?_
    refine s_c (fun Mx72 _ _ En75 Hv76 => ?_) ?_
    ·
     refine q_v (x := Instr.indexAt 75 (pt bk25) (ni (i + 1))) (v := .pointer (some ⟨bk25, (i + 1) * 16, none⟩)) En75 (Go.Dbr.run_indexarr (e := 43) (sz := 16) (m := 16) (j := i + 1) (o := (i + 1) * 16) (by kernel_rfl) (by kernel_rfl) (by omega) (by omega) (by omega) _) fun _ En78 => ?_
     exact s_e En78 Hv76
    exact s_n
   refine q_u 8 ?_
   refine m_g 0 ((i + 1) * 16) 16 (zh (wtE (zr 16 (zs (i * 16) R)) p)) (zh (zr ((i + 1) * 16) R ++ (wtE (zr 16 (zs (i * 16) R)) p) ++ zs (((i + 1) * 16) + 16) R)) [.box bk25 (zh (zr ((i + 1) * 16) R ++ (wtE (zr 16 (zs (i * 16) R)) p) ++ zs (((i + 1) * 16) + 16) R)) 75, .box bk1 (zh p) 43, .box bk6 (zh k) 34, .box bk11 (zh (zc 16 0)) 43] En81 Hv82 rfl (zb (Ja _ _)) (by rw [(zb hR)]; omega) (zu _) (u64s_put _ _ _ _) rfl fun _ _ En89 Hv90 => ?_
   exact a_e ⟨En89.sb, Hv90.pk [0, 1, 2, 3]⟩
  rintro _ _ ⟨En93, Hv94⟩
  refine zv <| zg <| d_r [2,3,4,5,6] [(1, g_n (w_a (i + 1) 1))] En93 fun _ En96 => ?_
  refine zg <| ⟨_, ⟨i + 1, (zr ((i + 1) * 16) R ++ (wtE (zr 16 (zs (i * 16) R)) p) ++ zs (((i + 1) * 16) + 16) R), rfl, En96.sb, Hv94.pk [0, 1, 2, 3], (by omega), (put_len hR (Ja _ _) (by omega)), (fun j hj => by rcases Nat.lt_succ_iff_lt_or_eq.1 hj with h | h; (rw [put_other hR (Ja _ _) (by omega) (by omega)]; exact hf j (by omega)); (rw [h, put_same hR (Ja _ _) (by omega)]; rw [hf i (Nat.lt_succ_self i)]; rfl))⟩, ?_⟩
  omega
 refine wp_exit <| zy <| zy <| zV <| zg <| wp_seq <| zm <| f_o <| c_p En44 Hv41 (nothing_go _) fun _ _ En102 Hv103 => ?_
 refine f_o <| m_z 43 (zh (zc 16 0)) En102 Hv103 fun _ _ bk104 En107 Hv108 => ?_
 refine f_o <| m_g 4 0 16 (zh Jz) _ [.box bk25 (zh R) 75, .box bk1 (zh p) 43, .box bk6 (zh k) 34, .box bk11 (zh (zc 16 0)) 43, .box bk104 (zh Jz) 43] En107 Hv108 rfl (zb (l4_len _ _ _ _)) (by rw [(zb (zd))]; first | decide | (simp; done)) (zu _) (zo (zb (zd))) rfl fun _ _ En111 Hv112 => ?_
 refine f_e <| zg <| wp_seq <| d_s [2,3,4,5,6,7,8] [] En111 fun _ En114 => ?_
 refine wp_block <| loop_m (fun ms115 ac wo => ∃ (j : Nat) (o : List UInt64), ms115 = (64 - j : Nat) ∧ Env ac 48 [(2, pt bk1), (3, pt bk6), (4, pt bk11), (5, pt bk25), (6, ni (i + 1)), (7, pt bk104), (8, .int .i64 ((63 : Int) - ((j : Nat) : Int)))] ∧ Ev w [] wo [.box bk104 (zh o) 43, .box bk25 (zh R) 75, .box bk1 (zh p) 43, .box bk6 (zh k) 34, .box bk11 (zh (zc 16 0)) 43] ∧ (j ≤ 64) ∧ (ze o = 16) ∧ (o = tmF p (nv k) j)) ⟨_, 0, Jz, rfl, En114.sb, Hv112.pk [4, 0, 1, 2, 3], (by omega), (l4_len _ _ _ _), rfl⟩ ?_
 rintro mm121 _ _ ⟨j, o, rfl, En119, Hv120, hj, ho, he⟩
 refine wp_seq <| d_s [2,3,4,5,6,7,8,25] [] En119 fun _ En123 => ?_
 refine c_d ((63 : Int) - ((j : Nat) : Int) ≥ (0 : Int)) En123 (fun hc124 => ?_) (fun hc124 => ?_)
 ·
  refine wp_skip <| zg <| wp_seq <| wp_block <| wp_seq <| d_s [2,3,4,5,6,7,8,28] [] En123 fun _ En126 => ?_
  refine wp_block <| loop_m (fun ms127 ac wo => ∃ (q : Nat) (o2 : List UInt64), ms127 = (4 - q : Nat) ∧ Env ac 48 [(2, pt bk1), (3, pt bk6), (4, pt bk11), (5, pt bk25), (6, ni (i + 1)), (7, pt bk104), (8, .int .i64 ((63 : Int) - ((j : Nat) : Int))), (28, ni q)] ∧ Ev w [] wo [.box bk104 (zh o2) 43, .box bk25 (zh R) 75, .box bk1 (zh p) 43, .box bk6 (zh k) 34, .box bk11 (zh (zc 16 0)) 43] ∧ (q ≤ 4) ∧ (ze o2 = 16) ∧ (o2 = dblF o q)) ⟨_, 0, o, rfl, En126.sb, Hv120.pk [0, 1, 2, 3, 4], (by omega), ho, rfl⟩ ?_
  rintro mm133 _ _ ⟨q, o2, rfl, En131, Hv132, hq, ho2, heq⟩
  refine d_s [2,3,4,5,6,7,8,28,29] [] En131 fun _ En135 => ?_
  refine wp_seq <| c_d (((q : Nat) : Int) < (4 : Int)) En135 (fun hc136 => ?_) (fun hc136 => ?_)
  ·
   refine wp_skip <| zg <| wp_seq <| wp_block <| zm <| f_o <| m_a 0 0 16 (zh o2) En135 Hv132 rfl (zn (zb ho2)) (zb ho2) fun _ En138 => ?_
   refine f_o <| m_a 0 0 16 (zh o2) En138 Hv132 rfl (zn (zb ho2)) (zb ho2) fun _ En140 => ?_
   refine f_o <| c_p En140 Hv132 (with16_go _ o2 o2 ho2 ho2) fun _ _ En146 Hv147 => ?_
   refine f_o <| m_g 0 0 16 (zh (wtE o2 o2)) _ [.box bk104 (zh (wtE o2 o2)) 43, .box bk25 (zh R) 75, .box bk1 (zh p) 43, .box bk6 (zh k) 34, .box bk11 (zh (zc 16 0)) 43] En146 Hv147 rfl (zb (Ja _ _)) (by rw [(zb ho2)]; first | decide | (simp; done)) (zu _) (zo (zb ho2)) rfl fun _ _ En150 Hv151 => ?_
   refine f_e <| zv <| zg <| d_r [2,3,4,5,6,7,8,28] [(0, g_n (w_a q 1))] En150 fun _ En153 => ?_
   refine zg <| ⟨_, ⟨q + 1, (wtE o2 o2), rfl, En153.sb, Hv151.pk [0, 1, 2, 3, 4], (by omega), (Ja _ _), (by rw [heq]; rfl)⟩, ?_⟩
   omega
  refine wp_exit <| zy <| zy <| zV <| zg ?_
  have hq4 : q = 4 := by omega
  have he2 : o2 = dblF o 4 := by rw [heq, hq4]
  have hj63 : j < 64 := by omega
  have hnl := nib_lt (nv k) (63 - j)
  refine r_c (fun ac wo => Env ac 48 [(2, pt bk1), (3, pt bk6), (4, pt bk11), (5, pt bk25), (6, ni (i + 1)), (7, pt bk104), (8, .int .i64 ((63 : Int) - ((j : Nat) : Int))), (28, ni q)] ∧ Ev w [] wo [.box bk104 (zh (wtE o2 (zr 16 (zs ((nib (nv k) (63 - j)) * 16) R)))) 43, .box bk25 (zh R) 75, .box bk1 (zh p) 43, .box bk6 (zh k) 34, .box bk11 (zh (zc 16 0)) 43]) ?_ ?_
  ·
   refine s_g0 [(2, pt bk1), (3, pt bk6), (4, pt bk11), (5, pt bk25), (6, ni (i + 1)), (7, pt bk104), (8, .int .i64 ((63 : Int) - ((j : Nat) : Int))), (28, ni q)] [0,1,2,3,4,5,6,7,8,9,10,11,12] [(34, .agg (zi (zh o2))), (35, ni (63 - j)), (36, ni ((63 - j) / 16)), (37, .pointer (some ⟨bk6, (63 - j) / 16, none⟩)), (38, zl (zf k ((63 - j) / 16) 0)), (39, ni (63 - j)), (40, ni ((63 - j) % 16)), (41, ni (4 * ((63 - j) % 16))), (42, zl ((zf k ((63 - j) / 16) 0) >>> za (4 * ((63 - j) % 16)))), (43, .int .u64 ((nib (nv k) (63 - j) : Nat) : Int)), (44, .pointer (some ⟨bk25, (nib (nv k) (63 - j)) * 16, none⟩)), (45, .agg (zi (zh (zr 16 (zs ((nib (nv k) (63 - j)) * 16) R))))), (46, .agg (zi (zh (wtE o2 (zr 16 (zs ((nib (nv k) (63 - j)) * 16) R))))))] 1 [(2, pt bk1), (3, pt bk6), (4, pt bk11), (5, pt bk25), (6, ni (i + 1)), (7, pt bk104), (8, .int .i64 ((63 : Int) - ((j : Nat) : Int))), (28, ni q), (46, .agg (zi (zh (wtE o2 (zr 16 (zs ((nib (nv k) (63 - j)) * 16) R))))))] (En135.sb) (Hv132.trans (zQ Hv132.heap)) ?_ fun _ _ En204 Hv205 => ?_
   ·
    refine s_a 0 0 16 (zh o2) rfl (zn (zb ho2)) (zb ho2) ?_
    refine s_p [(1, g_i .i64 (show (63 : Int) - ((j : Nat) : Int) = ((63 - j : Nat) : Int) from by omega))] ?_
    refine s_p [(2, g_i .i64 (show IntKind.wrap .i64 (Int.tdiv ((63 - j : Nat) : Int) (16 : Int)) = (((63 - j) / 16 : Nat) : Int) from Go.Dbr.i64_quo_nat (a := ((63 - j : Nat) : Int)) (n := 63 - j) (m := 16) rfl (by omega)))] ?_
    refine s_c (fun Mx159 _ _ En162 Hv163 => ?_) ?_
    ·
     refine q_v (x := Instr.indexAt 34 (pt bk6) (ni ((63 - j) / 16))) (v := .pointer (some ⟨bk6, (63 - j) / 16, none⟩)) En162 (Go.Dbr.run_indexarr (e := 32) (sz := 1) (m := 4) (j := (63 - j) / 16) (o := (63 - j) / 16) (by kernel_rfl) (by kernel_rfl) (by omega) (by omega) (by omega) _) fun _ En165 => ?_
     exact s_e En165 Hv163
    refine s_c (fun Mx166 _ _ En169 Hv170 => ?_) ?_
    ·
     have hb171 : (63 - j) / 16 < ze k := by rw [hk]; omega
     refine m_v 3 ((63 - j) / 16) (zl (zf k ((63 - j) / 16) 0)) En169 Hv170 rfl (u64s_getD hb171) fun _ En173 => ?_
     exact s_e En173 Hv170
    refine s_p [(5, g_i .i64 (show (63 : Int) - ((j : Nat) : Int) = ((63 - j : Nat) : Int) from by omega))] ?_
    refine s_p [(6, g_i .i64 (show Int.tmod ((63 - j : Nat) : Int) (16 : Int) = (((63 - j) % 16 : Nat) : Int) from Go.Dbr.i64_rem_nat (a := ((63 - j : Nat) : Int)) (n := 63 - j) (m := 16) rfl (by omega)))] ?_
    refine s_p [(7, g_n (w_m 4 ((63 - j) % 16)))] ?_
    refine s_c (fun Mx174 _ _ En177 Hv178 => ?_) ?_
    ·
     refine q_v En177 (Go.Dbr.run_shr_u64 (zf k ((63 - j) / 16) 0) .i64 (4 * ((63 - j) % 16)) (by omega) _) fun _ En180 => ?_
     exact s_e En180 Hv178
    refine s_p [(9, g_v (show (.int .u64 (IntKind.wrap .u64 ((Zb (IntKind.bits .u64) ((zt ((zf k ((63 - j) / 16) 0) >>> za (4 * ((63 - j) % 16))) : Nat) : Int) &&& Zb (IntKind.bits .u64) (15 : Int)).toNat : Int)) : Value) = .int .u64 ((nib (nv k) (63 - j) : Nat) : Int) by rw [Go.Dbr.u64_and (a := ((zt ((zf k ((63 - j) / 16) 0) >>> za (4 * ((63 - j) % 16))) : Nat) : Int)) (b := (15 : Int)) (x := (zf k ((63 - j) / 16) 0) >>> za (4 * ((63 - j) % 16))) (y := (15 : UInt64)) rfl rfl, nib_u hk (show 63 - j < 64 by omega)] <;> rfl))] ?_
    refine s_c (fun Mx181 _ _ En184 Hv185 => ?_) ?_
    ·
     refine q_v (x := Instr.indexAt 75 (pt bk25) (.int .u64 ((nib (nv k) (63 - j) : Nat) : Int))) (v := .pointer (some ⟨bk25, (nib (nv k) (63 - j)) * 16, none⟩)) En184 (Go.Dbr.run_indexarr (e := 43) (sz := 16) (m := 16) (j := nib (nv k) (63 - j)) (o := (nib (nv k) (63 - j)) * 16) (by kernel_rfl) (by kernel_rfl) (by omega) (by omega) (by omega) _) fun _ En187 => ?_
     exact s_e En187 Hv185
    refine s_a 1 ((nib (nv k) (63 - j)) * 16) 16 (zh (zr 16 (zs ((nib (nv k) (63 - j)) * 16) R))) rfl (u64s_sub _ _ _) (zb (Jt hR (by omega))) ?_
    refine s_f (fun _ => with16_go _ o2 (zr 16 (zs ((nib (nv k) (63 - j)) * 16) R)) ho2 (Jt hR (by omega))) ?_
    exact s_n
   refine q_u 13 ?_
   refine m_g 0 0 16 (zh (wtE o2 (zr 16 (zs ((nib (nv k) (63 - j)) * 16) R)))) _ [.box bk104 (zh (wtE o2 (zr 16 (zs ((nib (nv k) (63 - j)) * 16) R)))) 43, .box bk25 (zh R) 75, .box bk1 (zh p) 43, .box bk6 (zh k) 34, .box bk11 (zh (zc 16 0)) 43] En204 Hv205 rfl (zb (Ja _ _)) (by rw [(zb ho2)]; first | decide | (simp; done)) (zu _) (zo (zb ho2)) rfl fun _ _ En212 Hv213 => ?_
   exact a_e ⟨En212.sb, Hv213.pk [0, 1, 2, 3, 4]⟩
  rintro _ _ ⟨En216, Hv217⟩
  refine zv <| zg <| d_r [2,3,4,5,6,7,8,28] [(1, g_n (w_r (e := ((63 : Int) - ((j : Nat) : Int)) - (1 : Int)) (x := (63 : Int) - ((j + 1 : Nat) : Int)) (by omega)))] En216 fun _ En219 => ?_
  refine zg <| ⟨_, ⟨j + 1, (wtE o2 (zr 16 (zs ((nib (nv k) (63 - j)) * 16) R))), rfl, En219.sb, Hv217.pk [0, 1, 2, 3, 4], (by omega), (Ja _ _), (by rw [he2, hf _ (by have := nib_lt (nv k) (63 - j); omega), he]; rfl)⟩, ?_⟩
  omega
 refine wp_exit <| zy <| zy <| zV <| zg <| wp_seq <| zm <| f_o <| m_a 0 0 16 (zh o) En123 Hv120 rfl (zn (zb ho)) (zb ho) fun _ En221 => ?_
 refine f_o <| m_g 4 0 16 (zh o) _ [.box bk104 (zh o) 43, .box bk25 (zh R) 75, .box bk1 (zh p) 43, .box bk6 (zh k) 34, .box bk11 (zh o) 43] En221 Hv120 rfl (zb ho) (by rw [(zb (zd))]; first | decide | (simp; done)) (zu _) (zo (zb (zd))) rfl fun _ _ En224 Hv225 => ?_
 refine f_e <| zg <| wp_ret <| z5 (v := .agg (zi (zh o))) (t := 4) (T := 43) (ad := ⟨bk11, 0, none⟩) En224 (by kernel_rfl) (by kernel_rfl) (zx (t := 43) (k := 4) (off := 0) (m := 16) (xs := zh o) Hv225 rfl (zn (zb ho)) (zb ho) (by kernel_rfl) (by kernel_rfl)) ?_
 have hj4 : j = 64 := by omega
 exact ⟨by rw [he, hj4], Hv225.pk []⟩

end Go.Proofs.YtlnogkmnklfjlaaDoor

/- Layer 12: points compared, their bytes, points of bytes. -/

namespace Go.Proofs.YtlnogkmnklfjlaaDoor
open Go.Dbr
set_option maxRecDepth 100000
set_option maxHeartbeats 2000000
set_option linter.unusedVariables false
set_option linter.unusedSimpArgs false

theorem odd_of (a : Nat) : zj (zf (nd a) 0 0 &&& 1) <<< zA 7 = zA (a % 2) <<< 7 := by
  congr 1
  apply UInt8.toNat_inj.1
  have e : zf (nd a) 0 0 = za a := rfl
  rw [e, UInt64.toNat_toUInt8, QW, show (1 : UInt64).toNat = 1 from rfl, Nat.and_one_is_mod, ofNat_val, UInt8.toNat_ofNat']
  omega

theorem bytes_go (w : World) (x1 y1 z1 t1 : List UInt64) (hx1 : ze x1 = 4) (hy1 : ze y1 = 4) (hz1 : ze z1 = 4) (ht1 : ze t1 = 4) : Calls Tryd.prog 27 #[.agg (zi ((zh x1) ++ ((zh y1) ++ ((zh z1) ++ (zh t1)))))] w fun e w' => e = .returned (.agg (zi (bys (outN (zq 1 (nv x1) (ivE (nv z1))) (zq 1 (nv y1) (ivE (nv z1))))))) ∧ Ev w [] w' [] := by
 refine d_0 [(0, .agg (zi ((zh x1) ++ ((zh y1) ++ ((zh z1) ++ (zh t1))))))] 26 Go.Proofs.Tryd.func27 Go.Proofs.Tryd.ntmps27 (Heap.nil _) fun act0 En0 Hv0 => ?_
 refine wp_seq <| zm <| f_o <| m_m 43 ((zh x1) ++ ((zh y1) ++ ((zh z1) ++ (zh t1)))) En0 Hv0 fun _ _ bk1 En4 Hv5 => ?_
 refine f_o <| m_z 22 (bys (zc 32 0)) En4 Hv5 fun _ _ bk6 En9 Hv10 => ?_
 refine f_e <| zg <| wp_seq <| zm <| d_k [1,2,5] [] 1 En9 fun _ En12 => ?_
 refine f_o <| m_a 0 8 4 (zh z1) En12 Hv10 rfl (by simp [zb hx1, zb hy1, zb hz1, zb ht1, Zd, Ze]) (zb hz1) fun _ En14 => ?_
 refine f_o <| c_p En14 Hv10 (inv_go _ 1 h1f hM1 z1 hz1) fun _ _ En20 Hv21 => ?_
 refine f_o <| m_z 34 (zh (zc 4 0)) En20 Hv21 fun _ _ bk22 En25 Hv26 => ?_
 refine f_o <| m_g 2 0 4 (zh (nd (zC 1 (nv z1) (mF 1 - 2)))) _ [.box bk1 ((zh x1) ++ ((zh y1) ++ ((zh z1) ++ (zh t1)))) 43, .box bk6 (bys (zc 32 0)) 22, .box bk22 (zh (nd (zC 1 (nv z1) (mF 1 - 2)))) 34] En25 Hv26 rfl (zb (zk _ _)) (by rw [(zb (zd))]; first | decide | (simp; done)) (zu _) (zo (zb (zd))) rfl fun _ _ En29 Hv30 => ?_
 refine f_e <| zg <| wp_seq <| zm <| d_k [1,2,3,8] [] 1 En29 fun _ En32 => ?_
 refine f_o <| m_a 0 4 4 (zh y1) En32 Hv30 rfl (by simp [zb hx1, zb hy1, zb hz1, zb ht1, Zd, Ze]) (zb hy1) fun _ En34 => ?_
 refine f_o <| m_a 2 0 4 (zh (nd (zC 1 (nv z1) (mF 1 - 2)))) En34 Hv30 rfl (zn (zb (zk _ _))) (zb (zk _ _)) fun _ En36 => ?_
 refine f_o <| c_p En36 Hv30 (emul_go _ y1 (nd (zC 1 (nv z1) (mF 1 - 2))) hy1 (zk _ _)) fun _ _ En42 Hv43 => ?_
 refine f_o <| c_p En42 Hv43 (tole_go _ (nd (zq 1 (nv y1) (nv (nd (zC 1 (nv z1) (mF 1 - 2)))))) (zk _ _)) fun _ _ En49 Hv50 => ?_
 refine f_o <| m_z 22 (bys (zc 32 0)) En49 Hv50 fun _ _ bk51 En54 Hv55 => ?_
 refine f_o <| m_g 3 0 32 (bys (lb 32 (nv (nd (zq 1 (nv y1) (nv (nd (zC 1 (nv z1) (mF 1 - 2))))))))) _ [.box bk1 ((zh x1) ++ ((zh y1) ++ ((zh z1) ++ (zh t1)))) 43, .box bk6 (bys (zc 32 0)) 22, .box bk22 (zh (nd (zC 1 (nv z1) (mF 1 - 2)))) 34, .box bk51 (bys (lb 32 (nv (nd (zq 1 (nv y1) (nv (nd (zC 1 (nv z1) (mF 1 - 2))))))))) 22] En54 Hv55 rfl (zU (Yk _ _)) (by rw [(zU (zd))]; first | decide | (simp; done)) (bys_one _) (zo (zU (zd))) rfl fun _ _ En58 Hv59 => ?_
 refine f_e <| zg <| wp_seq <| r_c (fun ac wo => Env ac 26 [(1, pt bk1), (2, pt bk6), (3, pt bk22), (4, pt bk51)] ∧ Ev w [] wo [.box bk1 ((zh x1) ++ ((zh y1) ++ ((zh z1) ++ (zh t1)))) 43, .box bk6 (bys (zc 32 0)) 22, .box bk22 (zh (nd (zC 1 (nv z1) (mF 1 - 2)))) 34, .box bk51 (bys (zp (lb 32 (nv (nd (zq 1 (nv y1) (nv (nd (zC 1 (nv z1) (mF 1 - 2)))))))) 31 ((zf (lb 32 (nv (nd (zq 1 (nv y1) (nv (nd (zC 1 (nv z1) (mF 1 - 2)))))))) 31 0) ||| ((zj ((zf (nd (zq 1 (nv x1) (nv (nd (zC 1 (nv z1) (mF 1 - 2)))))) 0 0) &&& (1 : UInt64))) <<< zA 7)))) 22]) ?_ ?_
 ·
  refine s_g0 [(1, pt bk1), (2, pt bk6), (3, pt bk22), (4, pt bk51)] [0,1,2,3,4,5,6,7,8,9,10,11] [(13, .pointer (some ⟨bk51, 31, none⟩)), (14, bv (zf (lb 32 (nv (nd (zq 1 (nv y1) (nv (nd (zC 1 (nv z1) (mF 1 - 2)))))))) 31 0)), (15, pt bk1), (16, .agg (zi (zh x1))), (17, .agg (zi (zh (nd (zC 1 (nv z1) (mF 1 - 2)))))), (18, .agg (zi (zh (nd (zq 1 (nv x1) (nv (nd (zC 1 (nv z1) (mF 1 - 2))))))))), (19, zl (zf (nd (zq 1 (nv x1) (nv (nd (zC 1 (nv z1) (mF 1 - 2)))))) 0 0)), (20, zl ((zf (nd (zq 1 (nv x1) (nv (nd (zC 1 (nv z1) (mF 1 - 2)))))) 0 0) &&& (1 : UInt64))), (21, bv (zj ((zf (nd (zq 1 (nv x1) (nv (nd (zC 1 (nv z1) (mF 1 - 2)))))) 0 0) &&& (1 : UInt64)))), (22, bv ((zj ((zf (nd (zq 1 (nv x1) (nv (nd (zC 1 (nv z1) (mF 1 - 2)))))) 0 0) &&& (1 : UInt64))) <<< zA 7)), (23, bv ((zf (lb 32 (nv (nd (zq 1 (nv y1) (nv (nd (zC 1 (nv z1) (mF 1 - 2)))))))) 31 0) ||| ((zj ((zf (nd (zq 1 (nv x1) (nv (nd (zC 1 (nv z1) (mF 1 - 2)))))) 0 0) &&& (1 : UInt64))) <<< zA 7))), (24, .pointer (some ⟨bk51, 31, none⟩))] 1 [(1, pt bk1), (2, pt bk6), (3, pt bk22), (4, pt bk51), (23, bv ((zf (lb 32 (nv (nd (zq 1 (nv y1) (nv (nd (zC 1 (nv z1) (mF 1 - 2)))))))) 31 0) ||| ((zj ((zf (nd (zq 1 (nv x1) (nv (nd (zC 1 (nv z1) (mF 1 - 2)))))) 0 0) &&& (1 : UInt64))) <<< zA 7))), (24, .pointer (some ⟨bk51, 31, none⟩))] (En58.sb) (Hv59.trans (zQ Hv59.heap)) ?_ fun _ _ En97 Hv98 => ?_
  ·
   refine s_p [] ?_
   refine s_c (fun Mx60 _ _ En63 Hv64 => ?_) ?_
   ·
    have hb65 : 31 < ze (lb 32 (nv (nd (zq 1 (nv y1) (nv (nd (zC 1 (nv z1) (mF 1 - 2)))))))) := by rw [(Yk _ _)]; omega
    refine m_v 3 31 (bv (zf (lb 32 (nv (nd (zq 1 (nv y1) (nv (nd (zC 1 (nv z1) (mF 1 - 2)))))))) 31 0)) En63 Hv64 rfl (bys_getD hb65) fun _ En67 => ?_
    exact s_e En67 Hv64
   refine s_p [] ?_
   refine s_a 0 0 4 (zh x1) rfl (by simp [zb hx1, zb hy1, zb hz1, zb ht1, Zd, Ze]) (zb hx1) ?_
   refine s_a 2 0 4 (zh (nd (zC 1 (nv z1) (mF 1 - 2)))) rfl (zn (zb (zk _ _))) (zb (zk _ _)) ?_
   refine s_f (fun _ => emul_go _ x1 (nd (zC 1 (nv z1) (mF 1 - 2))) hx1 (zk _ _)) ?_
   have hb87 : 0 < ze (nd (zq 1 (nv x1) (nv (nd (zC 1 (nv z1) (mF 1 - 2)))))) := by rw [(zk _ _)]; omega
   refine s_c (fun Mx88 _ _ En91 Hv92 => ?_) ?_
   ·
    refine q_v (x := Instr.index 34 (.agg (zi (zh (nd (zq 1 (nv x1) (nv (nd (zC 1 (nv z1) (mF 1 - 2))))))))) (.int .i64 0)) (v := zl (zf (nd (zq 1 (nv x1) (nv (nd (zC 1 (nv z1) (mF 1 - 2)))))) 0 0)) En91 (Go.Dbr.run_indexval (e := 32) (m := 4) (cs := zh (nd (zq 1 (nv x1) (nv (nd (zC 1 (nv z1) (mF 1 - 2))))))) (j := 0) (v := zl (zf (nd (zq 1 (nv x1) (nv (nd (zC 1 (nv z1) (mF 1 - 2)))))) 0 0)) (by kernel_rfl) (by kernel_rfl) (by kernel_rfl) (by omega) (by omega) (u64s_getD hb87) _) fun _ En94 => ?_
    exact s_e En94 Hv92
   refine s_p [(7, g_i .u64 (Go.Dbr.u64_and (x := zf (nd (zq 1 (nv x1) (nv (nd (zC 1 (nv z1) (mF 1 - 2)))))) 0 0) (y := (1 : UInt64)) rfl rfl))] ?_
   refine s_p [(8, g_i .u8 (Go.Dbr.u64_to_u8 (x := (zf (nd (zq 1 (nv x1) (nv (nd (zC 1 (nv z1) (mF 1 - 2)))))) 0 0) &&& (1 : UInt64)) rfl))] ?_
   refine s_p [(9, g_i .u8 (Go.Dbr.u8_shl (x := zj ((zf (nd (zq 1 (nv x1) (nv (nd (zC 1 (nv z1) (mF 1 - 2)))))) 0 0) &&& (1 : UInt64))) (n := 7) rfl (by decide)))] ?_
   refine s_p [(10, g_i .u8 (Go.Dbr.u8_or (x := zf (lb 32 (nv (nd (zq 1 (nv y1) (nv (nd (zC 1 (nv z1) (mF 1 - 2)))))))) 31 0) (y := (zj ((zf (nd (zq 1 (nv x1) (nv (nd (zC 1 (nv z1) (mF 1 - 2)))))) 0 0) &&& (1 : UInt64))) <<< zA 7) rfl rfl))] ?_
   refine s_p [] ?_
   exact s_n
  refine q_u 12 ?_
  have hb104 : 31 < ze (lb 32 (nv (nd (zq 1 (nv y1) (nv (nd (zC 1 (nv z1) (mF 1 - 2)))))))) := by rw [(Yk _ _)]; omega
  refine m_t 3 31 (bv ((zf (lb 32 (nv (nd (zq 1 (nv y1) (nv (nd (zC 1 (nv z1) (mF 1 - 2)))))))) 31 0) ||| ((zj ((zf (nd (zq 1 (nv x1) (nv (nd (zC 1 (nv z1) (mF 1 - 2)))))) 0 0) &&& (1 : UInt64))) <<< zA 7))) [.box bk1 ((zh x1) ++ ((zh y1) ++ ((zh z1) ++ (zh t1)))) 43, .box bk6 (bys (zc 32 0)) 22, .box bk22 (zh (nd (zC 1 (nv z1) (mF 1 - 2)))) 34, .box bk51 (bys (zp (lb 32 (nv (nd (zq 1 (nv y1) (nv (nd (zC 1 (nv z1) (mF 1 - 2)))))))) 31 ((zf (lb 32 (nv (nd (zq 1 (nv y1) (nv (nd (zC 1 (nv z1) (mF 1 - 2)))))))) 31 0) ||| ((zj ((zf (nd (zq 1 (nv x1) (nv (nd (zC 1 (nv z1) (mF 1 - 2)))))) 0 0) &&& (1 : UInt64))) <<< zA 7)))) 22] En97 Hv98 rfl (bys_getD hb104) (bys_set _ _ _) rfl fun _ _ En107 Hv108 => ?_
  exact a_e ⟨En107.sb, Hv108.pk [0, 1, 2, 3]⟩
 rintro _ _ ⟨En111, Hv112⟩
 refine zg <| wp_seq <| zm <| f_o <| m_a 3 0 32 (bys (zp (lb 32 (nv (nd (zq 1 (nv y1) (nv (nd (zC 1 (nv z1) (mF 1 - 2)))))))) 31 ((zf (lb 32 (nv (nd (zq 1 (nv y1) (nv (nd (zC 1 (nv z1) (mF 1 - 2)))))))) 31 0) ||| ((zj ((zf (nd (zq 1 (nv x1) (nv (nd (zC 1 (nv z1) (mF 1 - 2)))))) 0 0) &&& (1 : UInt64))) <<< zA 7)))) En111 Hv112 rfl (zn (zU (List.length_set.trans (Yk _ _)))) (zU (List.length_set.trans (Yk _ _))) fun _ En114 => ?_
 refine f_o <| m_g 1 0 32 (bys (zp (lb 32 (nv (nd (zq 1 (nv y1) (nv (nd (zC 1 (nv z1) (mF 1 - 2)))))))) 31 ((zf (lb 32 (nv (nd (zq 1 (nv y1) (nv (nd (zC 1 (nv z1) (mF 1 - 2)))))))) 31 0) ||| ((zj ((zf (nd (zq 1 (nv x1) (nv (nd (zC 1 (nv z1) (mF 1 - 2)))))) 0 0) &&& (1 : UInt64))) <<< zA 7)))) _ [.box bk1 ((zh x1) ++ ((zh y1) ++ ((zh z1) ++ (zh t1)))) 43, .box bk6 (bys (zp (lb 32 (nv (nd (zq 1 (nv y1) (nv (nd (zC 1 (nv z1) (mF 1 - 2)))))))) 31 ((zf (lb 32 (nv (nd (zq 1 (nv y1) (nv (nd (zC 1 (nv z1) (mF 1 - 2)))))))) 31 0) ||| ((zj ((zf (nd (zq 1 (nv x1) (nv (nd (zC 1 (nv z1) (mF 1 - 2)))))) 0 0) &&& (1 : UInt64))) <<< zA 7)))) 22, .box bk22 (zh (nd (zC 1 (nv z1) (mF 1 - 2)))) 34, .box bk51 (bys (zp (lb 32 (nv (nd (zq 1 (nv y1) (nv (nd (zC 1 (nv z1) (mF 1 - 2)))))))) 31 ((zf (lb 32 (nv (nd (zq 1 (nv y1) (nv (nd (zC 1 (nv z1) (mF 1 - 2)))))))) 31 0) ||| ((zj ((zf (nd (zq 1 (nv x1) (nv (nd (zC 1 (nv z1) (mF 1 - 2)))))) 0 0) &&& (1 : UInt64))) <<< zA 7)))) 22] En114 Hv112 rfl (zU (List.length_set.trans (Yk _ _))) (by rw [(zU (zd))]; first | decide | (simp; done)) (bys_one _) (zo (zU (zd))) rfl fun _ _ En117 Hv118 => ?_
 refine f_e <| zg <| wp_ret <| z5 (v := .agg (zi (bys (zp (lb 32 (nv (nd (zq 1 (nv y1) (nv (nd (zC 1 (nv z1) (mF 1 - 2)))))))) 31 ((zf (lb 32 (nv (nd (zq 1 (nv y1) (nv (nd (zC 1 (nv z1) (mF 1 - 2)))))))) 31 0) ||| ((zj ((zf (nd (zq 1 (nv x1) (nv (nd (zC 1 (nv z1) (mF 1 - 2)))))) 0 0) &&& (1 : UInt64))) <<< zA 7)))))) (t := 2) (T := 22) (ad := ⟨bk6, 0, none⟩) En117 (by kernel_rfl) (by kernel_rfl) (zx (t := 22) (k := 1) (off := 0) (m := 32) (xs := bys (zp (lb 32 (nv (nd (zq 1 (nv y1) (nv (nd (zC 1 (nv z1) (mF 1 - 2)))))))) 31 ((zf (lb 32 (nv (nd (zq 1 (nv y1) (nv (nd (zC 1 (nv z1) (mF 1 - 2)))))))) 31 0) ||| ((zj ((zf (nd (zq 1 (nv x1) (nv (nd (zC 1 (nv z1) (mF 1 - 2)))))) 0 0) &&& (1 : UInt64))) <<< zA 7)))) Hv118 rfl (zn (zU (List.length_set.trans (Yk _ _)))) (zU (List.length_set.trans (Yk _ _))) (by kernel_rfl) (by kernel_rfl)) ?_
 have e0 : zp (lb 32 (nv (nd (zq 1 (nv y1) (nv (nd (zC 1 (nv z1) (mF 1 - 2)))))))) 31 ((zf (lb 32 (nv (nd (zq 1 (nv y1) (nv (nd (zC 1 (nv z1) (mF 1 - 2)))))))) 31 0) ||| ((zj ((zf (nd (zq 1 (nv x1) (nv (nd (zC 1 (nv z1) (mF 1 - 2)))))) 0 0) &&& (1 : UInt64))) <<< zA 7)) = outN (zq 1 (nv x1) (ivE (nv z1))) (zq 1 (nv y1) (ivE (nv z1))) := by
  simp only [nv_m1, nv_iv, odd_of, outN]
 exact ⟨congrArg (fun l : List UInt8 => Ending.returned (Value.agg (bys l).toArray)) e0, Hv118.pk []⟩

theorem bytes16_go (w : World) (p : L4) (hp : p.length = 16) : Calls Tryd.prog 27 #[.agg (zi (zh p))] w fun e w' => e = .returned (.agg (zi (bys (outN (zq 1 (k1 p) (ivE (k3 p))) (zq 1 (k2 p) (ivE (k3 p))))))) ∧ Ev w [] w' [] := by
  have h := bytes_go w (p.take 4) ((p.drop 4).take 4) ((p.drop 8).take 4) (p.drop 12) (by simp [hp]) (by simp [hp]) (by simp [hp]) (by simp [hp]) 
  rw [cut16] at h
  exact h

end Go.Proofs.YtlnogkmnklfjlaaDoor
