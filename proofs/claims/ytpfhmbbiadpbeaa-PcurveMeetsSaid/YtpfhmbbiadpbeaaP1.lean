/- Layer 13: points together, as the program reckons. -/
import Derived.Test.YtpfhmbbiadpbeaaF12
import Derived.Test.YtpfhmbbiadpbeaaStab
namespace Go.Proofs.Ytpfhmbbiadpbeaa
open Go.Dbr
set_option maxRecDepth 100000
set_option maxHeartbeats 2000000
set_option linter.unusedVariables false
set_option linter.unusedSimpArgs false

theorem h2f : (2 : Int) = 1 ∨ (2 : Int) = 2 ∨ (2 : Int) = 3 ∨ (2 : Int) = 4 := .inr (.inl rfl)
theorem hL2 : LeftOk 2 := leftOk3 (by decide)
theorem hR2 : RMulOk 2 := rmulOk h2f hL2
def bN : Nat := 41058363725152142129326129780047268409114441015993725554835256314039467401291
def thN (a : Nat) : Nat := addM 2 (addM 2 a a) a
def crN (a b c d l : Nat) : Nat := subM 2 (mulM 2 (addM 2 a b) (addM 2 c d)) l
theorem nv_a2 (x y : Nat) : nv (nd (addM 2 x y)) = addM 2 x y := nv_nd (addM_lt h2f x y)
theorem nv_s2 (x y : Nat) : nv (nd (subM 2 x y)) = subM 2 x y := nv_nd (subM_lt h2f x y)
theorem nv_m2 (x y : Nat) : nv (nd (mulM 2 x y)) = mulM 2 x y := nv_nd (mulM_lt h2f x y)
theorem nv_th (a : Nat) : nv (nd (thN a)) = thN a := by unfold thN; exact nv_a2 _ _
theorem nv_cr (a b c d l : Nat) : nv (nd (crN a b c d l)) = crN a b c d l := by unfold crN; exact nv_s2 _ _
theorem nv_b : nv (nd bN) = bN := nv_nd (by decide)

theorem pmul_go (w : World) (a b : List UInt64) (ha : List.length a = 4) (hb : List.length b = 4) : Calls Try.prog 38 #[.agg (List.toArray (u64s a)), .agg (List.toArray (u64s b))] w fun e w' => e = .returned (.agg (List.toArray (u64s (nd (mulM 2 (nv a) (nv b)))))) ∧ Ev w [] w' [] := by
 refine d_0 [(0, .agg (List.toArray (u64s a))), (1, .agg (List.toArray (u64s b)))] 8 Go.Proofs.Try.func38 Go.Proofs.Try.ntmps38 (Heap.nil _) fun act0 En0 Hv0 => ?_
 refine wp_seq ?_
 refine region_from ?_
 refine f_o ?_
 refine m_m 24 (u64s a) En0 Hv0 fun ac2 wo3 bk1 En4 Hv5 => ?_
 refine f_o ?_
 refine m_m 24 (u64s b) En4 Hv5 fun ac7 wo8 bk6 En9 Hv10 => ?_
 refine f_o ?_
 refine m_z 24 (u64s (List.replicate 4 0)) En9 Hv10 fun ac12 wo13 bk11 En14 Hv15 => ?_
 refine f_e ?_
 refine then_normal ?_
 refine wp_seq ?_
 refine region_from ?_
 refine f_o ?_
 refine m_a 0 0 4 (u64s a) En14 Hv15 rfl (load_whole (u64s_lenh ha)) (u64s_lenh ha) fun ac16 En17 => ?_
 refine f_o ?_
 refine m_a 1 0 4 (u64s b) En17 Hv15 rfl (load_whole (u64s_lenh hb)) (u64s_lenh hb) fun ac18 En19 => ?_
 refine f_o ?_
 refine c_p En19 Hv15 (hM2 _ a b ha hb) fun ac24 wo21 En25 Hv26 => ?_
 refine f_o ?_
 refine m_g 2 0 4 (u64s (nd (mulM 2 (nv a) (nv b)))) (u64s (nd (mulM 2 (nv a) (nv b)))) [.box bk1 (u64s a) 24, .box bk6 (u64s b) 24, .box bk11 (u64s (nd (mulM 2 (nv a) (nv b)))) 24] En25 Hv26 rfl (u64s_lenh (nds_len _ _)) (by rw [(u64s_lenh (List.length_replicate))]; decide) (u64s_one _) (store_whole (u64s_lenh (List.length_replicate))) rfl fun ac27 wo28 En29 Hv30 => ?_
 refine f_e ?_
 refine then_normal ?_
 refine wp_ret ?_
 refine d_cell1 (v := .agg (List.toArray (u64s (nd (mulM 2 (nv a) (nv b)))))) (t := 4) (T := 24) (ad := ⟨bk11, 0, none⟩) En29 (by kernel_rfl) (by kernel_rfl) (Ev.cellAgg (t := 24) (k := 2) (off := 0) (m := 4) (xs := u64s (nd (mulM 2 (nv a) (nv b)))) Hv30 rfl (load_whole (u64s_lenh (nds_len _ _))) (u64s_lenh (nds_len _ _)) (by kernel_rfl) (by kernel_rfl)) ?_
 exact ⟨rfl, Hv30.pk []⟩

theorem psum_go (w : World) (a b : List UInt64) (ha : List.length a = 4) (hb : List.length b = 4) : Calls Try.prog 36 #[.agg (List.toArray (u64s a)), .agg (List.toArray (u64s b))] w fun e w' => e = .returned (.agg (List.toArray (u64s (nd (addM 2 (nv a) (nv b)))))) ∧ Ev w [] w' [] := by
 refine d_0 [(0, .agg (List.toArray (u64s a))), (1, .agg (List.toArray (u64s b)))] 8 Go.Proofs.Try.func36 Go.Proofs.Try.ntmps36 (Heap.nil _) fun act0 En0 Hv0 => ?_
 refine wp_seq ?_
 refine region_from ?_
 refine f_o ?_
 refine m_m 24 (u64s a) En0 Hv0 fun ac2 wo3 bk1 En4 Hv5 => ?_
 refine f_o ?_
 refine m_m 24 (u64s b) En4 Hv5 fun ac7 wo8 bk6 En9 Hv10 => ?_
 refine f_o ?_
 refine m_z 24 (u64s (List.replicate 4 0)) En9 Hv10 fun ac12 wo13 bk11 En14 Hv15 => ?_
 refine f_e ?_
 refine then_normal ?_
 refine wp_seq ?_
 refine region_from ?_
 refine f_o ?_
 refine m_a 0 0 4 (u64s a) En14 Hv15 rfl (load_whole (u64s_lenh ha)) (u64s_lenh ha) fun ac16 En17 => ?_
 refine f_o ?_
 refine m_a 1 0 4 (u64s b) En17 Hv15 rfl (load_whole (u64s_lenh hb)) (u64s_lenh hb) fun ac18 En19 => ?_
 refine f_o ?_
 refine c_p En19 Hv15 (add_go _ 2 h2f a b ha hb) fun ac24 wo21 En25 Hv26 => ?_
 refine f_o ?_
 refine m_g 2 0 4 (u64s (nd (addM 2 (nv a) (nv b)))) (u64s (nd (addM 2 (nv a) (nv b)))) [.box bk1 (u64s a) 24, .box bk6 (u64s b) 24, .box bk11 (u64s (nd (addM 2 (nv a) (nv b)))) 24] En25 Hv26 rfl (u64s_lenh (nds_len _ _)) (by rw [(u64s_lenh (List.length_replicate))]; decide) (u64s_one _) (store_whole (u64s_lenh (List.length_replicate))) rfl fun ac27 wo28 En29 Hv30 => ?_
 refine f_e ?_
 refine then_normal ?_
 refine wp_ret ?_
 refine d_cell1 (v := .agg (List.toArray (u64s (nd (addM 2 (nv a) (nv b)))))) (t := 4) (T := 24) (ad := ⟨bk11, 0, none⟩) En29 (by kernel_rfl) (by kernel_rfl) (Ev.cellAgg (t := 24) (k := 2) (off := 0) (m := 4) (xs := u64s (nd (addM 2 (nv a) (nv b)))) Hv30 rfl (load_whole (u64s_lenh (nds_len _ _))) (u64s_lenh (nds_len _ _)) (by kernel_rfl) (by kernel_rfl)) ?_
 exact ⟨rfl, Hv30.pk []⟩

theorem pdif_go (w : World) (a b : List UInt64) (ha : List.length a = 4) (hb : List.length b = 4) : Calls Try.prog 37 #[.agg (List.toArray (u64s a)), .agg (List.toArray (u64s b))] w fun e w' => e = .returned (.agg (List.toArray (u64s (nd (subM 2 (nv a) (nv b)))))) ∧ Ev w [] w' [] := by
 refine d_0 [(0, .agg (List.toArray (u64s a))), (1, .agg (List.toArray (u64s b)))] 8 Go.Proofs.Try.func37 Go.Proofs.Try.ntmps37 (Heap.nil _) fun act0 En0 Hv0 => ?_
 refine wp_seq ?_
 refine region_from ?_
 refine f_o ?_
 refine m_m 24 (u64s a) En0 Hv0 fun ac2 wo3 bk1 En4 Hv5 => ?_
 refine f_o ?_
 refine m_m 24 (u64s b) En4 Hv5 fun ac7 wo8 bk6 En9 Hv10 => ?_
 refine f_o ?_
 refine m_z 24 (u64s (List.replicate 4 0)) En9 Hv10 fun ac12 wo13 bk11 En14 Hv15 => ?_
 refine f_e ?_
 refine then_normal ?_
 refine wp_seq ?_
 refine region_from ?_
 refine f_o ?_
 refine m_a 0 0 4 (u64s a) En14 Hv15 rfl (load_whole (u64s_lenh ha)) (u64s_lenh ha) fun ac16 En17 => ?_
 refine f_o ?_
 refine m_a 1 0 4 (u64s b) En17 Hv15 rfl (load_whole (u64s_lenh hb)) (u64s_lenh hb) fun ac18 En19 => ?_
 refine f_o ?_
 refine c_p En19 Hv15 (sub_go _ 2 h2f a b ha hb) fun ac24 wo21 En25 Hv26 => ?_
 refine f_o ?_
 refine m_g 2 0 4 (u64s (nd (subM 2 (nv a) (nv b)))) (u64s (nd (subM 2 (nv a) (nv b)))) [.box bk1 (u64s a) 24, .box bk6 (u64s b) 24, .box bk11 (u64s (nd (subM 2 (nv a) (nv b)))) 24] En25 Hv26 rfl (u64s_lenh (nds_len _ _)) (by rw [(u64s_lenh (List.length_replicate))]; decide) (u64s_one _) (store_whole (u64s_lenh (List.length_replicate))) rfl fun ac27 wo28 En29 Hv30 => ?_
 refine f_e ?_
 refine then_normal ?_
 refine wp_ret ?_
 refine d_cell1 (v := .agg (List.toArray (u64s (nd (subM 2 (nv a) (nv b)))))) (t := 4) (T := 24) (ad := ⟨bk11, 0, none⟩) En29 (by kernel_rfl) (by kernel_rfl) (Ev.cellAgg (t := 24) (k := 2) (off := 0) (m := 4) (xs := u64s (nd (subM 2 (nv a) (nv b)))) Hv30 rfl (load_whole (u64s_lenh (nds_len _ _))) (u64s_lenh (nds_len _ _)) (by kernel_rfl) (by kernel_rfl)) ?_
 exact ⟨rfl, Hv30.pk []⟩

theorem curveB_go (w : World) : Calls Try.prog 40 #[] w fun e w' => e = .returned (.agg (List.toArray (u64s (nd bN)))) ∧ Ev w [] w' [] := by
 refine d_0 [] 2 Go.Proofs.Try.func40 Go.Proofs.Try.ntmps40 (Heap.nil _) fun act0 En0 Hv0 => ?_
 refine wp_seq ?_
 refine region_from ?_
 refine f_o ?_
 refine m_z 24 (u64s (List.replicate 4 0)) En0 Hv0 fun ac2 wo3 bk1 En4 Hv5 => ?_
 refine f_e ?_
 refine then_normal ?_
 refine wp_seq ?_
 refine region_from ?_
 refine d_k [0,1] [] 1 En4 fun ac6 En7 => ?_
 refine f_o ?_
 refine m_g 0 0 4 (u64s ([4309448131093880907, 7285987128567378166, 12964664127075681980, 6540974713487397863] : List UInt64)) (u64s ([4309448131093880907, 7285987128567378166, 12964664127075681980, 6540974713487397863] : List UInt64)) [.box bk1 (u64s ([4309448131093880907, 7285987128567378166, 12964664127075681980, 6540974713487397863] : List UInt64)) 24] En7 Hv5 rfl (u64s_lenh (show List.length ([4309448131093880907, 7285987128567378166, 12964664127075681980, 6540974713487397863] : List UInt64) = 4 from rfl)) (by rw [(u64s_lenh (List.length_replicate))]; decide) (u64s_one _) (store_whole (u64s_lenh (List.length_replicate))) rfl fun ac8 wo9 En10 Hv11 => ?_
 refine f_e ?_
 refine then_normal ?_
 refine wp_ret ?_
 refine d_cell1 (v := .agg (List.toArray (u64s ([4309448131093880907, 7285987128567378166, 12964664127075681980, 6540974713487397863] : List UInt64)))) (t := 0) (T := 24) (ad := ⟨bk1, 0, none⟩) En10 (by kernel_rfl) (by kernel_rfl) (Ev.cellAgg (t := 24) (k := 0) (off := 0) (m := 4) (xs := u64s ([4309448131093880907, 7285987128567378166, 12964664127075681980, 6540974713487397863] : List UInt64)) Hv11 rfl (load_whole (u64s_lenh (show List.length ([4309448131093880907, 7285987128567378166, 12964664127075681980, 6540974713487397863] : List UInt64) = 4 from rfl))) (u64s_lenh (show List.length ([4309448131093880907, 7285987128567378166, 12964664127075681980, 6540974713487397863] : List UInt64) = 4 from rfl)) (by kernel_rfl) (by kernel_rfl)) ?_
 exact ⟨by kernel_rfl, Hv11.pk []⟩

theorem thrice_go (w : World) (a : List UInt64) (ha : List.length a = 4) : Calls Try.prog 39 #[.agg (List.toArray (u64s a))] w fun e w' => e = .returned (.agg (List.toArray (u64s (nd (thN (nv a)))))) ∧ Ev w [] w' [] := by
 refine d_0 [(0, .agg (List.toArray (u64s a)))] 8 Go.Proofs.Try.func39 Go.Proofs.Try.ntmps39 (Heap.nil _) fun act0 En0 Hv0 => ?_
 refine wp_seq ?_
 refine region_from ?_
 refine f_o ?_
 refine m_m 24 (u64s a) En0 Hv0 fun ac2 wo3 bk1 En4 Hv5 => ?_
 refine f_o ?_
 refine m_z 24 (u64s (List.replicate 4 0)) En4 Hv5 fun ac7 wo8 bk6 En9 Hv10 => ?_
 refine f_e ?_
 refine then_normal ?_
 refine wp_seq ?_
 refine r_c (fun ac wo => Env ac 8 [(2, pt bk6)] ∧ Ev w [] wo [.box bk6 (u64s (nd (addM 2 (nv (nd (addM 2 (nv a) (nv a)))) (nv a)))) 24]) ?_ ?_
 ·
  refine s_g0 [(1, pt bk1), (2, pt bk6)] [0,1,2,3,4] [(3, .agg (List.toArray (u64s a))), (4, .agg (List.toArray (u64s a))), (5, .agg (List.toArray (u64s (nd (addM 2 (nv a) (nv a)))))), (6, .agg (List.toArray (u64s a))), (7, .agg (List.toArray (u64s (nd (addM 2 (nv (nd (addM 2 (nv a) (nv a)))) (nv a))))))] 1 [(2, pt bk6), (7, .agg (List.toArray (u64s (nd (addM 2 (nv (nd (addM 2 (nv a) (nv a)))) (nv a))))))] (En9.sb) (Hv10.trans (Ev.drew Hv10.heap)) ?_ fun ac44 wo45 En46 Hv47 => ?_
  ·
   refine s_a 0 0 4 (u64s a) rfl (load_whole (u64s_lenh ha)) (u64s_lenh ha) ?_
   refine s_a 0 0 4 (u64s a) rfl (load_whole (u64s_lenh ha)) (u64s_lenh ha) ?_
   refine s_f (fun _ => psum_go _ a a ha ha) ?_
   refine s_a 0 0 4 (u64s a) rfl (load_whole (u64s_lenh ha)) (u64s_lenh ha) ?_
   refine s_f (fun _ => psum_go _ (nd (addM 2 (nv a) (nv a))) a (nds_len _ _) ha) ?_
   exact s_n
  refine q_u 5 ?_
  refine m_g 1 0 4 (u64s (nd (addM 2 (nv (nd (addM 2 (nv a) (nv a)))) (nv a)))) (u64s (nd (addM 2 (nv (nd (addM 2 (nv a) (nv a)))) (nv a)))) [.box bk1 (u64s a) 24, .box bk6 (u64s (nd (addM 2 (nv (nd (addM 2 (nv a) (nv a)))) (nv a)))) 24] En46 Hv47 rfl (u64s_lenh (nds_len _ _)) (by rw [(u64s_lenh (List.length_replicate))]; decide) (u64s_one _) (store_whole (u64s_lenh (List.length_replicate))) rfl fun ac52 wo53 En54 Hv55 => ?_
  exact a_e ⟨En54.sb, Hv55.pk [1]⟩
 rintro ac56 wo57 ⟨En58, Hv59⟩
 refine then_normal ?_
 refine wp_ret ?_
 refine d_cell1 (v := .agg (List.toArray (u64s (nd (addM 2 (nv (nd (addM 2 (nv a) (nv a)))) (nv a)))))) (t := 2) (T := 24) (ad := ⟨bk6, 0, none⟩) En58 (by kernel_rfl) (by kernel_rfl) (Ev.cellAgg (t := 24) (k := 0) (off := 0) (m := 4) (xs := u64s (nd (addM 2 (nv (nd (addM 2 (nv a) (nv a)))) (nv a)))) Hv59 rfl (load_whole (u64s_lenh (nds_len _ _))) (u64s_lenh (nds_len _ _)) (by kernel_rfl) (by kernel_rfl)) ?_
 have e : nd (addM 2 (nv (nd (addM 2 (nv a) (nv a)))) (nv a)) = nd (thN (nv a)) := by unfold thN; rw [nv_a2]
 exact ⟨congrArg (fun l : List UInt64 => Ending.returned (Value.agg (u64s l).toArray)) e, Hv59.pk []⟩

theorem crossed_go (w : World) (a b c d l : List UInt64) (ha : List.length a = 4) (hb : List.length b = 4) (hc : List.length c = 4) (hd : List.length d = 4) (hl : List.length l = 4) : Calls Try.prog 58 #[.agg (List.toArray (u64s a)), .agg (List.toArray (u64s b)), .agg (List.toArray (u64s c)), .agg (List.toArray (u64s d)), .agg (List.toArray (u64s l))] w fun e w' => e = .returned (.agg (List.toArray (u64s (nd (crN (nv a) (nv b) (nv c) (nv d) (nv l)))))) ∧ Ev w [] w' [] := by
 refine d_0 [(0, .agg (List.toArray (u64s a))), (1, .agg (List.toArray (u64s b))), (2, .agg (List.toArray (u64s c))), (3, .agg (List.toArray (u64s d))), (4, .agg (List.toArray (u64s l)))] 20 Go.Proofs.Try.func58 Go.Proofs.Try.ntmps58 (Heap.nil _) fun act0 En0 Hv0 => ?_
 refine wp_seq ?_
 refine region_from ?_
 refine f_o ?_
 refine m_m 24 (u64s a) En0 Hv0 fun ac2 wo3 bk1 En4 Hv5 => ?_
 refine f_o ?_
 refine m_m 24 (u64s b) En4 Hv5 fun ac7 wo8 bk6 En9 Hv10 => ?_
 refine f_o ?_
 refine m_m 24 (u64s c) En9 Hv10 fun ac12 wo13 bk11 En14 Hv15 => ?_
 refine f_o ?_
 refine m_m 24 (u64s d) En14 Hv15 fun ac17 wo18 bk16 En19 Hv20 => ?_
 refine f_o ?_
 refine m_m 24 (u64s l) En19 Hv20 fun ac22 wo23 bk21 En24 Hv25 => ?_
 refine f_o ?_
 refine m_z 24 (u64s (List.replicate 4 0)) En24 Hv25 fun ac27 wo28 bk26 En29 Hv30 => ?_
 refine f_e ?_
 refine then_normal ?_
 refine wp_seq ?_
 refine r_c (fun ac wo => Env ac 20 [(10, pt bk26)] ∧ Ev w [] wo [.box bk26 (u64s (nd (subM 2 (nv (nd (mulM 2 (nv (nd (addM 2 (nv a) (nv b)))) (nv (nd (addM 2 (nv c) (nv d))))))) (nv l)))) 24]) ?_ ?_
 ·
  refine s_g0 [(5, pt bk1), (6, pt bk6), (7, pt bk11), (8, pt bk16), (9, pt bk21), (10, pt bk26)] [0,1,2,3,4,5,6,7,8] [(11, .agg (List.toArray (u64s a))), (12, .agg (List.toArray (u64s b))), (13, .agg (List.toArray (u64s (nd (addM 2 (nv a) (nv b)))))), (14, .agg (List.toArray (u64s c))), (15, .agg (List.toArray (u64s d))), (16, .agg (List.toArray (u64s (nd (addM 2 (nv c) (nv d)))))), (17, .agg (List.toArray (u64s (nd (mulM 2 (nv (nd (addM 2 (nv a) (nv b)))) (nv (nd (addM 2 (nv c) (nv d))))))))), (18, .agg (List.toArray (u64s l))), (19, .agg (List.toArray (u64s (nd (subM 2 (nv (nd (mulM 2 (nv (nd (addM 2 (nv a) (nv b)))) (nv (nd (addM 2 (nv c) (nv d))))))) (nv l))))))] 1 [(10, pt bk26), (19, .agg (List.toArray (u64s (nd (subM 2 (nv (nd (mulM 2 (nv (nd (addM 2 (nv a) (nv b)))) (nv (nd (addM 2 (nv c) (nv d))))))) (nv l))))))] (En29.sb) (Hv30.trans (Ev.drew Hv30.heap)) ?_ fun ac92 wo93 En94 Hv95 => ?_
  ·
   refine s_a 0 0 4 (u64s a) rfl (load_whole (u64s_lenh ha)) (u64s_lenh ha) ?_
   refine s_a 1 0 4 (u64s b) rfl (load_whole (u64s_lenh hb)) (u64s_lenh hb) ?_
   refine s_f (fun _ => psum_go _ a b ha hb) ?_
   refine s_a 2 0 4 (u64s c) rfl (load_whole (u64s_lenh hc)) (u64s_lenh hc) ?_
   refine s_a 3 0 4 (u64s d) rfl (load_whole (u64s_lenh hd)) (u64s_lenh hd) ?_
   refine s_f (fun _ => psum_go _ c d hc hd) ?_
   refine s_f (fun _ => pmul_go _ (nd (addM 2 (nv a) (nv b))) (nd (addM 2 (nv c) (nv d))) (nds_len _ _) (nds_len _ _)) ?_
   refine s_a 4 0 4 (u64s l) rfl (load_whole (u64s_lenh hl)) (u64s_lenh hl) ?_
   refine s_f (fun _ => pdif_go _ (nd (mulM 2 (nv (nd (addM 2 (nv a) (nv b)))) (nv (nd (addM 2 (nv c) (nv d)))))) l (nds_len _ _) hl) ?_
   exact s_n
  refine q_u 9 ?_
  refine m_g 5 0 4 (u64s (nd (subM 2 (nv (nd (mulM 2 (nv (nd (addM 2 (nv a) (nv b)))) (nv (nd (addM 2 (nv c) (nv d))))))) (nv l)))) (u64s (nd (subM 2 (nv (nd (mulM 2 (nv (nd (addM 2 (nv a) (nv b)))) (nv (nd (addM 2 (nv c) (nv d))))))) (nv l)))) [.box bk1 (u64s a) 24, .box bk6 (u64s b) 24, .box bk11 (u64s c) 24, .box bk16 (u64s d) 24, .box bk21 (u64s l) 24, .box bk26 (u64s (nd (subM 2 (nv (nd (mulM 2 (nv (nd (addM 2 (nv a) (nv b)))) (nv (nd (addM 2 (nv c) (nv d))))))) (nv l)))) 24] En94 Hv95 rfl (u64s_lenh (nds_len _ _)) (by rw [(u64s_lenh (List.length_replicate))]; decide) (u64s_one _) (store_whole (u64s_lenh (List.length_replicate))) rfl fun ac100 wo101 En102 Hv103 => ?_
  exact a_e ⟨En102.sb, Hv103.pk [5]⟩
 rintro ac104 wo105 ⟨En106, Hv107⟩
 refine then_normal ?_
 refine wp_ret ?_
 refine d_cell1 (v := .agg (List.toArray (u64s (nd (subM 2 (nv (nd (mulM 2 (nv (nd (addM 2 (nv a) (nv b)))) (nv (nd (addM 2 (nv c) (nv d))))))) (nv l)))))) (t := 10) (T := 24) (ad := ⟨bk26, 0, none⟩) En106 (by kernel_rfl) (by kernel_rfl) (Ev.cellAgg (t := 24) (k := 0) (off := 0) (m := 4) (xs := u64s (nd (subM 2 (nv (nd (mulM 2 (nv (nd (addM 2 (nv a) (nv b)))) (nv (nd (addM 2 (nv c) (nv d))))))) (nv l)))) Hv107 rfl (load_whole (u64s_lenh (nds_len _ _))) (u64s_lenh (nds_len _ _)) (by kernel_rfl) (by kernel_rfl)) ?_
 have e : nd (subM 2 (nv (nd (mulM 2 (nv (nd (addM 2 (nv a) (nv b)))) (nv (nd (addM 2 (nv c) (nv d))))))) (nv l)) = nd (crN (nv a) (nv b) (nv c) (nv d) (nv l)) := by unfold crN; rw [nv_a2, nv_a2, nv_m2]
 exact ⟨congrArg (fun l : List UInt64 => Ending.returned (Value.agg (u64s l).toArray)) e, Hv107.pk []⟩

abbrev N3 := Nat × Nat × Nat
def uN (xz zz : Nat) : Nat := thN (subM 2 xz (mulM 2 bN zz))
def vN (xx xz zz : Nat) : Nat := thN (subM 2 (subM 2 (mulM 2 bN xz) (thN zz)) xx)
def wN (xx zz : Nat) : Nat := subM 2 (thN xx) (thN zz)
def outX (xy yz low high v w : Nat) : Nat := subM 2 (mulM 2 xy high) (mulM 2 yz v)
def outY (xy yz low high v w : Nat) : Nat := addM 2 (mulM 2 high low) (mulM 2 w v)
def outZ (xy yz low high v w : Nat) : Nat := addM 2 (mulM 2 yz low) (mulM 2 xy w)
def wtA (f : Nat → Nat → Nat → Nat → Nat → Nat → Nat) (x1 y1 z1 x2 y2 z2 : Nat) : Nat :=
  f (crN x1 y1 x2 y2 (addM 2 (mulM 2 x1 x2) (mulM 2 y1 y2))) (crN y1 z1 y2 z2 (addM 2 (mulM 2 y1 y2) (mulM 2 z1 z2))) (subM 2 (mulM 2 y1 y2) (uN (crN x1 z1 x2 z2 (addM 2 (mulM 2 x1 x2) (mulM 2 z1 z2))) (mulM 2 z1 z2))) (addM 2 (mulM 2 y1 y2) (uN (crN x1 z1 x2 z2 (addM 2 (mulM 2 x1 x2) (mulM 2 z1 z2))) (mulM 2 z1 z2)))
    (vN (mulM 2 x1 x2) (crN x1 z1 x2 z2 (addM 2 (mulM 2 x1 x2) (mulM 2 z1 z2))) (mulM 2 z1 z2)) (wN (mulM 2 x1 x2) (mulM 2 z1 z2))
def wtN : N3 → N3 → N3
  | (x1, y1, z1), (x2, y2, z2) => (wtA outX x1 y1 z1 x2 y2 z2, wtA outY x1 y1 z1 x2 y2 z2, wtA outZ x1 y1 z1 x2 y2 z2)

theorem ret3 {x y z x' y' z' : List UInt64} (h1 : x = x') (h2 : y = y') (h3 : z = z') : Ending.returned (.agg (List.toArray ((u64s x) ++ ((u64s y) ++ (u64s z))))) = Ending.returned (.agg (List.toArray ((u64s x') ++ ((u64s y') ++ (u64s z'))))) := by rw [h1, h2, h3]

theorem with_go (w : World) (x1 y1 z1 x2 y2 z2 : List UInt64) (hx1 : List.length x1 = 4) (hy1 : List.length y1 = 4) (hz1 : List.length z1 = 4) (hx2 : List.length x2 = 4) (hy2 : List.length y2 = 4) (hz2 : List.length z2 = 4) : Calls Try.prog 29 #[.agg (List.toArray ((u64s x1) ++ ((u64s y1) ++ (u64s z1)))), .agg (List.toArray ((u64s x2) ++ ((u64s y2) ++ (u64s z2))))] w fun e w' => e = .returned (.agg (List.toArray ((u64s (nd (wtA outX (nv x1) (nv y1) (nv z1) (nv x2) (nv y2) (nv z2)))) ++ ((u64s (nd (wtA outY (nv x1) (nv y1) (nv z1) (nv x2) (nv y2) (nv z2)))) ++ (u64s (nd (wtA outZ (nv x1) (nv y1) (nv z1) (nv x2) (nv y2) (nv z2)))))))) ∧ Ev w [] w' [] := by
 refine d_0 [(0, .agg (List.toArray ((u64s x1) ++ ((u64s y1) ++ (u64s z1))))), (1, .agg (List.toArray ((u64s x2) ++ ((u64s y2) ++ (u64s z2)))))] 117 Go.Proofs.Try.func29 Go.Proofs.Try.ntmps29 (Heap.nil _) fun act0 En0 Hv0 => ?_
 refine wp_seq ?_
 refine region_from ?_
 refine f_o ?_
 refine m_m 52 ((u64s x1) ++ ((u64s y1) ++ (u64s z1))) En0 Hv0 fun ac2 wo3 bk1 En4 Hv5 => ?_
 refine f_o ?_
 refine m_m 52 ((u64s x2) ++ ((u64s y2) ++ (u64s z2))) En4 Hv5 fun ac7 wo8 bk6 En9 Hv10 => ?_
 refine f_o ?_
 refine m_z 52 ((u64s (List.replicate 4 0)) ++ ((u64s (List.replicate 4 0)) ++ (u64s (List.replicate 4 0)))) En9 Hv10 fun ac12 wo13 bk11 En14 Hv15 => ?_
 refine f_e ?_
 refine then_normal ?_
 refine wp_seq ?_
 refine region_from ?_
 refine f_o ?_
 refine c_p En14 Hv15 (curveB_go _) fun ac20 wo17 En21 Hv22 => ?_
 refine f_o ?_
 refine m_z 24 (u64s (List.replicate 4 0)) En21 Hv22 fun ac24 wo25 bk23 En26 Hv27 => ?_
 refine f_o ?_
 refine m_g 3 0 4 (u64s (nd bN)) (u64s (nd bN)) [.box bk1 ((u64s x1) ++ ((u64s y1) ++ (u64s z1))) 52, .box bk6 ((u64s x2) ++ ((u64s y2) ++ (u64s z2))) 52, .box bk11 ((u64s (List.replicate 4 0)) ++ ((u64s (List.replicate 4 0)) ++ (u64s (List.replicate 4 0)))) 52, .box bk23 (u64s (nd bN)) 24] En26 Hv27 rfl (u64s_lenh (nds_len _ _)) (by rw [(u64s_lenh (List.length_replicate))]; decide) (u64s_one _) (store_whole (u64s_lenh (List.length_replicate))) rfl fun ac28 wo29 En30 Hv31 => ?_
 refine f_e ?_
 refine then_normal ?_
 refine wp_seq ?_
 refine r_c (fun ac wo => ∃ (bk93 : Nat) (bk94 : Nat) (bk95 : Nat), Env ac 117 [(2, pt bk1), (3, pt bk6), (4, pt bk11), (5, pt bk23), (6, pt bk93), (7, pt bk94), (8, pt bk95)] ∧ Ev w [] wo [.box bk1 ((u64s x1) ++ ((u64s y1) ++ (u64s z1))) 52, .box bk6 ((u64s x2) ++ ((u64s y2) ++ (u64s z2))) 52, .box bk11 ((u64s (List.replicate 4 0)) ++ ((u64s (List.replicate 4 0)) ++ (u64s (List.replicate 4 0)))) 52, .box bk23 (u64s (nd bN)) 24, .box bk93 (u64s (nd (mulM 2 (nv x1) (nv x2)))) 24, .box bk94 (u64s (nd (mulM 2 (nv y1) (nv y2)))) 24, .box bk95 (u64s (nd (mulM 2 (nv z1) (nv z2)))) 24]) ?_ ?_
 ·
  refine s_g3 [(2, pt bk1), (3, pt bk6), (4, pt bk11), (5, pt bk23)] [0,1,2,3,4,5,6,7,8,9,10,11,12,13,14] [(18, pt bk1), (19, .agg (List.toArray (u64s x1))), (20, pt bk6), (21, .agg (List.toArray (u64s x2))), (22, .agg (List.toArray (u64s (nd (mulM 2 (nv x1) (nv x2)))))), (23, .pointer (some ⟨bk1, 4, none⟩)), (24, .agg (List.toArray (u64s y1))), (25, .pointer (some ⟨bk6, 4, none⟩)), (26, .agg (List.toArray (u64s y2))), (27, .agg (List.toArray (u64s (nd (mulM 2 (nv y1) (nv y2)))))), (28, .pointer (some ⟨bk1, 8, none⟩)), (29, .agg (List.toArray (u64s z1))), (30, .pointer (some ⟨bk6, 8, none⟩)), (31, .agg (List.toArray (u64s z2))), (32, .agg (List.toArray (u64s (nd (mulM 2 (nv z1) (nv z2))))))] 3 [(2, pt bk1), (3, pt bk6), (4, pt bk11), (5, pt bk23), (22, .agg (List.toArray (u64s (nd (mulM 2 (nv x1) (nv x2)))))), (27, .agg (List.toArray (u64s (nd (mulM 2 (nv y1) (nv y2)))))), (32, .agg (List.toArray (u64s (nd (mulM 2 (nv z1) (nv z2))))))] 15 16 17 (u64s (List.replicate 4 0)) (u64s (List.replicate 4 0)) (u64s (List.replicate 4 0)) (En30.sb) (Hv31.trans (Ev.drew Hv31.heap)) ?_ fun ac89 wo90 bk93 bk94 bk95 En91 Hv92 => ?_
  ·
   refine s_p [] ?_
   refine s_a 0 0 4 (u64s x1) rfl (by simp [u64s_lenh hx1, u64s_lenh hy1, u64s_lenh hz1, List.drop_append, List.take_append]) (u64s_lenh hx1) ?_
   refine s_p [] ?_
   refine s_a 1 0 4 (u64s x2) rfl (by simp [u64s_lenh hx2, u64s_lenh hy2, u64s_lenh hz2, List.drop_append, List.take_append]) (u64s_lenh hx2) ?_
   refine s_f (fun _ => pmul_go _ x1 x2 hx1 hx2) ?_
   refine s_p [] ?_
   refine s_a 0 4 4 (u64s y1) rfl (by simp [u64s_lenh hx1, u64s_lenh hy1, u64s_lenh hz1, List.drop_append, List.take_append]) (u64s_lenh hy1) ?_
   refine s_p [] ?_
   refine s_a 1 4 4 (u64s y2) rfl (by simp [u64s_lenh hx2, u64s_lenh hy2, u64s_lenh hz2, List.drop_append, List.take_append]) (u64s_lenh hy2) ?_
   refine s_f (fun _ => pmul_go _ y1 y2 hy1 hy2) ?_
   refine s_p [] ?_
   refine s_a 0 8 4 (u64s z1) rfl (by simp [u64s_lenh hx1, u64s_lenh hy1, u64s_lenh hz1, List.drop_append, List.take_append, List.take_of_length_le]) (u64s_lenh hz1) ?_
   refine s_p [] ?_
   refine s_a 1 8 4 (u64s z2) rfl (by simp [u64s_lenh hx2, u64s_lenh hy2, u64s_lenh hz2, List.drop_append, List.take_append, List.take_of_length_le]) (u64s_lenh hz2) ?_
   refine s_f (fun _ => pmul_go _ z1 z2 hz1 hz2) ?_
   exact s_n
  refine q_u 18 ?_
  refine m_g 4 0 4 (u64s (nd (mulM 2 (nv x1) (nv x2)))) (u64s (nd (mulM 2 (nv x1) (nv x2)))) [.box bk1 ((u64s x1) ++ ((u64s y1) ++ (u64s z1))) 52, .box bk6 ((u64s x2) ++ ((u64s y2) ++ (u64s z2))) 52, .box bk11 ((u64s (List.replicate 4 0)) ++ ((u64s (List.replicate 4 0)) ++ (u64s (List.replicate 4 0)))) 52, .box bk23 (u64s (nd bN)) 24, .box bk93 (u64s (nd (mulM 2 (nv x1) (nv x2)))) 24, .box bk94 (u64s (List.replicate 4 0)) 24, .box bk95 (u64s (List.replicate 4 0)) 24] En91 Hv92 rfl (u64s_lenh (nds_len _ _)) (by rw [(u64s_lenh (List.length_replicate))]; decide) (u64s_one _) (store_whole (u64s_lenh (List.length_replicate))) rfl fun ac108 wo109 En110 Hv111 => ?_
  refine q_u 19 ?_
  refine m_g 5 0 4 (u64s (nd (mulM 2 (nv y1) (nv y2)))) (u64s (nd (mulM 2 (nv y1) (nv y2)))) [.box bk1 ((u64s x1) ++ ((u64s y1) ++ (u64s z1))) 52, .box bk6 ((u64s x2) ++ ((u64s y2) ++ (u64s z2))) 52, .box bk11 ((u64s (List.replicate 4 0)) ++ ((u64s (List.replicate 4 0)) ++ (u64s (List.replicate 4 0)))) 52, .box bk23 (u64s (nd bN)) 24, .box bk93 (u64s (nd (mulM 2 (nv x1) (nv x2)))) 24, .box bk94 (u64s (nd (mulM 2 (nv y1) (nv y2)))) 24, .box bk95 (u64s (List.replicate 4 0)) 24] En110 Hv111 rfl (u64s_lenh (nds_len _ _)) (by rw [(u64s_lenh (List.length_replicate))]; decide) (u64s_one _) (store_whole (u64s_lenh (List.length_replicate))) rfl fun ac112 wo113 En114 Hv115 => ?_
  refine q_u 20 ?_
  refine m_g 6 0 4 (u64s (nd (mulM 2 (nv z1) (nv z2)))) (u64s (nd (mulM 2 (nv z1) (nv z2)))) [.box bk1 ((u64s x1) ++ ((u64s y1) ++ (u64s z1))) 52, .box bk6 ((u64s x2) ++ ((u64s y2) ++ (u64s z2))) 52, .box bk11 ((u64s (List.replicate 4 0)) ++ ((u64s (List.replicate 4 0)) ++ (u64s (List.replicate 4 0)))) 52, .box bk23 (u64s (nd bN)) 24, .box bk93 (u64s (nd (mulM 2 (nv x1) (nv x2)))) 24, .box bk94 (u64s (nd (mulM 2 (nv y1) (nv y2)))) 24, .box bk95 (u64s (nd (mulM 2 (nv z1) (nv z2)))) 24] En114 Hv115 rfl (u64s_lenh (nds_len _ _)) (by rw [(u64s_lenh (List.length_replicate))]; decide) (u64s_one _) (store_whole (u64s_lenh (List.length_replicate))) rfl fun ac116 wo117 En118 Hv119 => ?_
  exact a_e ⟨bk93, bk94, bk95, En118.sb, Hv119.pk [0, 1, 2, 3, 4, 5, 6]⟩
 rintro ac120 wo121 ⟨bk93, bk94, bk95, En122, Hv123⟩
 obtain ⟨xx, h_xx⟩ : ∃ q : List UInt64, q = nd (mulM 2 (nv x1) (nv x2)) := ⟨_, rfl⟩
 rw [← h_xx] at Hv123
 have n_xx : List.length xx = 4 := by rw [h_xx]; exact nds_len _ _
 obtain ⟨yy, h_yy⟩ : ∃ q : List UInt64, q = nd (mulM 2 (nv y1) (nv y2)) := ⟨_, rfl⟩
 rw [← h_yy] at Hv123
 have n_yy : List.length yy = 4 := by rw [h_yy]; exact nds_len _ _
 obtain ⟨zz, h_zz⟩ : ∃ q : List UInt64, q = nd (mulM 2 (nv z1) (nv z2)) := ⟨_, rfl⟩
 rw [← h_zz] at Hv123
 have n_zz : List.length zz = 4 := by rw [h_zz]; exact nds_len _ _
 refine then_normal ?_
 refine wp_seq ?_
 refine r_c (fun ac wo => ∃ (bk176 : Nat), Env ac 117 [(2, pt bk1), (3, pt bk6), (4, pt bk11), (5, pt bk23), (6, pt bk93), (7, pt bk94), (8, pt bk95), (9, pt bk176)] ∧ Ev w [] wo [.box bk1 ((u64s x1) ++ ((u64s y1) ++ (u64s z1))) 52, .box bk6 ((u64s x2) ++ ((u64s y2) ++ (u64s z2))) 52, .box bk11 ((u64s (List.replicate 4 0)) ++ ((u64s (List.replicate 4 0)) ++ (u64s (List.replicate 4 0)))) 52, .box bk23 (u64s (nd bN)) 24, .box bk93 (u64s xx) 24, .box bk94 (u64s yy) 24, .box bk95 (u64s zz) 24, .box bk176 (u64s (nd (crN (nv x1) (nv y1) (nv x2) (nv y2) (nv (nd (addM 2 (nv xx) (nv yy))))))) 24]) ?_ ?_
 ·
  refine s_g1 [(2, pt bk1), (3, pt bk6), (4, pt bk11), (5, pt bk23), (6, pt bk93), (7, pt bk94), (8, pt bk95)] [0,1,2,3,4,5,6,7,8,9,10,11] [(33, pt bk1), (34, .agg (List.toArray (u64s x1))), (35, .pointer (some ⟨bk1, 4, none⟩)), (36, .agg (List.toArray (u64s y1))), (37, pt bk6), (38, .agg (List.toArray (u64s x2))), (39, .pointer (some ⟨bk6, 4, none⟩)), (40, .agg (List.toArray (u64s y2))), (41, .agg (List.toArray (u64s xx))), (42, .agg (List.toArray (u64s yy))), (43, .agg (List.toArray (u64s (nd (addM 2 (nv xx) (nv yy)))))), (44, .agg (List.toArray (u64s (nd (crN (nv x1) (nv y1) (nv x2) (nv y2) (nv (nd (addM 2 (nv xx) (nv yy)))))))))] 1 [(2, pt bk1), (3, pt bk6), (4, pt bk11), (5, pt bk23), (6, pt bk93), (7, pt bk94), (8, pt bk95), (44, .agg (List.toArray (u64s (nd (crN (nv x1) (nv y1) (nv x2) (nv y2) (nv (nd (addM 2 (nv xx) (nv yy)))))))))] 12 (u64s (List.replicate 4 0)) (En122.sb) (Hv123.trans (Ev.drew Hv123.heap)) ?_ fun ac172 wo173 bk176 En174 Hv175 => ?_
  ·
   refine s_p [] ?_
   refine s_a 0 0 4 (u64s x1) rfl (by simp [u64s_lenh hx1, u64s_lenh hy1, u64s_lenh hz1, List.drop_append, List.take_append]) (u64s_lenh hx1) ?_
   refine s_p [] ?_
   refine s_a 0 4 4 (u64s y1) rfl (by simp [u64s_lenh hx1, u64s_lenh hy1, u64s_lenh hz1, List.drop_append, List.take_append]) (u64s_lenh hy1) ?_
   refine s_p [] ?_
   refine s_a 1 0 4 (u64s x2) rfl (by simp [u64s_lenh hx2, u64s_lenh hy2, u64s_lenh hz2, List.drop_append, List.take_append]) (u64s_lenh hx2) ?_
   refine s_p [] ?_
   refine s_a 1 4 4 (u64s y2) rfl (by simp [u64s_lenh hx2, u64s_lenh hy2, u64s_lenh hz2, List.drop_append, List.take_append]) (u64s_lenh hy2) ?_
   refine s_a 4 0 4 (u64s xx) rfl (load_whole (u64s_lenh n_xx)) (u64s_lenh n_xx) ?_
   refine s_a 5 0 4 (u64s yy) rfl (load_whole (u64s_lenh n_yy)) (u64s_lenh n_yy) ?_
   refine s_f (fun _ => psum_go _ xx yy n_xx n_yy) ?_
   refine s_f (fun _ => crossed_go _ x1 y1 x2 y2 (nd (addM 2 (nv xx) (nv yy))) hx1 hy1 hx2 hy2 (nds_len _ _)) ?_
   exact s_n
  refine q_u 13 ?_
  refine m_g 7 0 4 (u64s (nd (crN (nv x1) (nv y1) (nv x2) (nv y2) (nv (nd (addM 2 (nv xx) (nv yy))))))) (u64s (nd (crN (nv x1) (nv y1) (nv x2) (nv y2) (nv (nd (addM 2 (nv xx) (nv yy))))))) [.box bk1 ((u64s x1) ++ ((u64s y1) ++ (u64s z1))) 52, .box bk6 ((u64s x2) ++ ((u64s y2) ++ (u64s z2))) 52, .box bk11 ((u64s (List.replicate 4 0)) ++ ((u64s (List.replicate 4 0)) ++ (u64s (List.replicate 4 0)))) 52, .box bk23 (u64s (nd bN)) 24, .box bk93 (u64s xx) 24, .box bk94 (u64s yy) 24, .box bk95 (u64s zz) 24, .box bk176 (u64s (nd (crN (nv x1) (nv y1) (nv x2) (nv y2) (nv (nd (addM 2 (nv xx) (nv yy))))))) 24] En174 Hv175 rfl (u64s_lenh (nds_len _ _)) (by rw [(u64s_lenh (List.length_replicate))]; decide) (u64s_one _) (store_whole (u64s_lenh (List.length_replicate))) rfl fun ac181 wo182 En183 Hv184 => ?_
  exact a_e ⟨bk176, En183.sb, Hv184.pk [0, 1, 2, 3, 4, 5, 6, 7]⟩
 rintro ac185 wo186 ⟨bk176, En187, Hv188⟩
 obtain ⟨xy, h_xy⟩ : ∃ q : List UInt64, q = nd (crN (nv x1) (nv y1) (nv x2) (nv y2) (nv (nd (addM 2 (nv xx) (nv yy))))) := ⟨_, rfl⟩
 rw [← h_xy] at Hv188
 have n_xy : List.length xy = 4 := by rw [h_xy]; exact nds_len _ _
 refine then_normal ?_
 refine wp_seq ?_
 refine r_c (fun ac wo => ∃ (bk241 : Nat), Env ac 117 [(2, pt bk1), (3, pt bk6), (4, pt bk11), (5, pt bk23), (6, pt bk93), (7, pt bk94), (8, pt bk95), (9, pt bk176), (10, pt bk241)] ∧ Ev w [] wo [.box bk1 ((u64s x1) ++ ((u64s y1) ++ (u64s z1))) 52, .box bk6 ((u64s x2) ++ ((u64s y2) ++ (u64s z2))) 52, .box bk11 ((u64s (List.replicate 4 0)) ++ ((u64s (List.replicate 4 0)) ++ (u64s (List.replicate 4 0)))) 52, .box bk23 (u64s (nd bN)) 24, .box bk93 (u64s xx) 24, .box bk94 (u64s yy) 24, .box bk95 (u64s zz) 24, .box bk176 (u64s xy) 24, .box bk241 (u64s (nd (crN (nv y1) (nv z1) (nv y2) (nv z2) (nv (nd (addM 2 (nv yy) (nv zz))))))) 24]) ?_ ?_
 ·
  refine s_g1 [(2, pt bk1), (3, pt bk6), (4, pt bk11), (5, pt bk23), (6, pt bk93), (7, pt bk94), (8, pt bk95), (9, pt bk176)] [0,1,2,3,4,5,6,7,8,9,10,11] [(45, .pointer (some ⟨bk1, 4, none⟩)), (46, .agg (List.toArray (u64s y1))), (47, .pointer (some ⟨bk1, 8, none⟩)), (48, .agg (List.toArray (u64s z1))), (49, .pointer (some ⟨bk6, 4, none⟩)), (50, .agg (List.toArray (u64s y2))), (51, .pointer (some ⟨bk6, 8, none⟩)), (52, .agg (List.toArray (u64s z2))), (53, .agg (List.toArray (u64s yy))), (54, .agg (List.toArray (u64s zz))), (55, .agg (List.toArray (u64s (nd (addM 2 (nv yy) (nv zz)))))), (56, .agg (List.toArray (u64s (nd (crN (nv y1) (nv z1) (nv y2) (nv z2) (nv (nd (addM 2 (nv yy) (nv zz)))))))))] 1 [(2, pt bk1), (3, pt bk6), (4, pt bk11), (5, pt bk23), (6, pt bk93), (7, pt bk94), (8, pt bk95), (9, pt bk176), (56, .agg (List.toArray (u64s (nd (crN (nv y1) (nv z1) (nv y2) (nv z2) (nv (nd (addM 2 (nv yy) (nv zz)))))))))] 12 (u64s (List.replicate 4 0)) (En187.sb) (Hv188.trans (Ev.drew Hv188.heap)) ?_ fun ac237 wo238 bk241 En239 Hv240 => ?_
  ·
   refine s_p [] ?_
   refine s_a 0 4 4 (u64s y1) rfl (by simp [u64s_lenh hx1, u64s_lenh hy1, u64s_lenh hz1, List.drop_append, List.take_append]) (u64s_lenh hy1) ?_
   refine s_p [] ?_
   refine s_a 0 8 4 (u64s z1) rfl (by simp [u64s_lenh hx1, u64s_lenh hy1, u64s_lenh hz1, List.drop_append, List.take_append, List.take_of_length_le]) (u64s_lenh hz1) ?_
   refine s_p [] ?_
   refine s_a 1 4 4 (u64s y2) rfl (by simp [u64s_lenh hx2, u64s_lenh hy2, u64s_lenh hz2, List.drop_append, List.take_append]) (u64s_lenh hy2) ?_
   refine s_p [] ?_
   refine s_a 1 8 4 (u64s z2) rfl (by simp [u64s_lenh hx2, u64s_lenh hy2, u64s_lenh hz2, List.drop_append, List.take_append, List.take_of_length_le]) (u64s_lenh hz2) ?_
   refine s_a 5 0 4 (u64s yy) rfl (load_whole (u64s_lenh n_yy)) (u64s_lenh n_yy) ?_
   refine s_a 6 0 4 (u64s zz) rfl (load_whole (u64s_lenh n_zz)) (u64s_lenh n_zz) ?_
   refine s_f (fun _ => psum_go _ yy zz n_yy n_zz) ?_
   refine s_f (fun _ => crossed_go _ y1 z1 y2 z2 (nd (addM 2 (nv yy) (nv zz))) hy1 hz1 hy2 hz2 (nds_len _ _)) ?_
   exact s_n
  refine q_u 13 ?_
  refine m_g 8 0 4 (u64s (nd (crN (nv y1) (nv z1) (nv y2) (nv z2) (nv (nd (addM 2 (nv yy) (nv zz))))))) (u64s (nd (crN (nv y1) (nv z1) (nv y2) (nv z2) (nv (nd (addM 2 (nv yy) (nv zz))))))) [.box bk1 ((u64s x1) ++ ((u64s y1) ++ (u64s z1))) 52, .box bk6 ((u64s x2) ++ ((u64s y2) ++ (u64s z2))) 52, .box bk11 ((u64s (List.replicate 4 0)) ++ ((u64s (List.replicate 4 0)) ++ (u64s (List.replicate 4 0)))) 52, .box bk23 (u64s (nd bN)) 24, .box bk93 (u64s xx) 24, .box bk94 (u64s yy) 24, .box bk95 (u64s zz) 24, .box bk176 (u64s xy) 24, .box bk241 (u64s (nd (crN (nv y1) (nv z1) (nv y2) (nv z2) (nv (nd (addM 2 (nv yy) (nv zz))))))) 24] En239 Hv240 rfl (u64s_lenh (nds_len _ _)) (by rw [(u64s_lenh (List.length_replicate))]; decide) (u64s_one _) (store_whole (u64s_lenh (List.length_replicate))) rfl fun ac246 wo247 En248 Hv249 => ?_
  exact a_e ⟨bk241, En248.sb, Hv249.pk [0, 1, 2, 3, 4, 5, 6, 7, 8]⟩
 rintro ac250 wo251 ⟨bk241, En252, Hv253⟩
 obtain ⟨yz, h_yz⟩ : ∃ q : List UInt64, q = nd (crN (nv y1) (nv z1) (nv y2) (nv z2) (nv (nd (addM 2 (nv yy) (nv zz))))) := ⟨_, rfl⟩
 rw [← h_yz] at Hv253
 have n_yz : List.length yz = 4 := by rw [h_yz]; exact nds_len _ _
 refine then_normal ?_
 refine wp_seq ?_
 refine r_c (fun ac wo => ∃ (bk306 : Nat), Env ac 117 [(2, pt bk1), (3, pt bk6), (4, pt bk11), (5, pt bk23), (6, pt bk93), (7, pt bk94), (8, pt bk95), (9, pt bk176), (10, pt bk241), (11, pt bk306)] ∧ Ev w [] wo [.box bk1 ((u64s x1) ++ ((u64s y1) ++ (u64s z1))) 52, .box bk6 ((u64s x2) ++ ((u64s y2) ++ (u64s z2))) 52, .box bk11 ((u64s (List.replicate 4 0)) ++ ((u64s (List.replicate 4 0)) ++ (u64s (List.replicate 4 0)))) 52, .box bk23 (u64s (nd bN)) 24, .box bk93 (u64s xx) 24, .box bk94 (u64s yy) 24, .box bk95 (u64s zz) 24, .box bk176 (u64s xy) 24, .box bk241 (u64s yz) 24, .box bk306 (u64s (nd (crN (nv x1) (nv z1) (nv x2) (nv z2) (nv (nd (addM 2 (nv xx) (nv zz))))))) 24]) ?_ ?_
 ·
  refine s_g1 [(2, pt bk1), (3, pt bk6), (4, pt bk11), (5, pt bk23), (6, pt bk93), (7, pt bk94), (8, pt bk95), (9, pt bk176), (10, pt bk241)] [0,1,2,3,4,5,6,7,8,9,10,11] [(57, pt bk1), (58, .agg (List.toArray (u64s x1))), (59, .pointer (some ⟨bk1, 8, none⟩)), (60, .agg (List.toArray (u64s z1))), (61, pt bk6), (62, .agg (List.toArray (u64s x2))), (63, .pointer (some ⟨bk6, 8, none⟩)), (64, .agg (List.toArray (u64s z2))), (65, .agg (List.toArray (u64s xx))), (66, .agg (List.toArray (u64s zz))), (67, .agg (List.toArray (u64s (nd (addM 2 (nv xx) (nv zz)))))), (68, .agg (List.toArray (u64s (nd (crN (nv x1) (nv z1) (nv x2) (nv z2) (nv (nd (addM 2 (nv xx) (nv zz)))))))))] 1 [(2, pt bk1), (3, pt bk6), (4, pt bk11), (5, pt bk23), (6, pt bk93), (7, pt bk94), (8, pt bk95), (9, pt bk176), (10, pt bk241), (68, .agg (List.toArray (u64s (nd (crN (nv x1) (nv z1) (nv x2) (nv z2) (nv (nd (addM 2 (nv xx) (nv zz)))))))))] 12 (u64s (List.replicate 4 0)) (En252.sb) (Hv253.trans (Ev.drew Hv253.heap)) ?_ fun ac302 wo303 bk306 En304 Hv305 => ?_
  ·
   refine s_p [] ?_
   refine s_a 0 0 4 (u64s x1) rfl (by simp [u64s_lenh hx1, u64s_lenh hy1, u64s_lenh hz1, List.drop_append, List.take_append]) (u64s_lenh hx1) ?_
   refine s_p [] ?_
   refine s_a 0 8 4 (u64s z1) rfl (by simp [u64s_lenh hx1, u64s_lenh hy1, u64s_lenh hz1, List.drop_append, List.take_append, List.take_of_length_le]) (u64s_lenh hz1) ?_
   refine s_p [] ?_
   refine s_a 1 0 4 (u64s x2) rfl (by simp [u64s_lenh hx2, u64s_lenh hy2, u64s_lenh hz2, List.drop_append, List.take_append]) (u64s_lenh hx2) ?_
   refine s_p [] ?_
   refine s_a 1 8 4 (u64s z2) rfl (by simp [u64s_lenh hx2, u64s_lenh hy2, u64s_lenh hz2, List.drop_append, List.take_append, List.take_of_length_le]) (u64s_lenh hz2) ?_
   refine s_a 4 0 4 (u64s xx) rfl (load_whole (u64s_lenh n_xx)) (u64s_lenh n_xx) ?_
   refine s_a 6 0 4 (u64s zz) rfl (load_whole (u64s_lenh n_zz)) (u64s_lenh n_zz) ?_
   refine s_f (fun _ => psum_go _ xx zz n_xx n_zz) ?_
   refine s_f (fun _ => crossed_go _ x1 z1 x2 z2 (nd (addM 2 (nv xx) (nv zz))) hx1 hz1 hx2 hz2 (nds_len _ _)) ?_
   exact s_n
  refine q_u 13 ?_
  refine m_g 9 0 4 (u64s (nd (crN (nv x1) (nv z1) (nv x2) (nv z2) (nv (nd (addM 2 (nv xx) (nv zz))))))) (u64s (nd (crN (nv x1) (nv z1) (nv x2) (nv z2) (nv (nd (addM 2 (nv xx) (nv zz))))))) [.box bk1 ((u64s x1) ++ ((u64s y1) ++ (u64s z1))) 52, .box bk6 ((u64s x2) ++ ((u64s y2) ++ (u64s z2))) 52, .box bk11 ((u64s (List.replicate 4 0)) ++ ((u64s (List.replicate 4 0)) ++ (u64s (List.replicate 4 0)))) 52, .box bk23 (u64s (nd bN)) 24, .box bk93 (u64s xx) 24, .box bk94 (u64s yy) 24, .box bk95 (u64s zz) 24, .box bk176 (u64s xy) 24, .box bk241 (u64s yz) 24, .box bk306 (u64s (nd (crN (nv x1) (nv z1) (nv x2) (nv z2) (nv (nd (addM 2 (nv xx) (nv zz))))))) 24] En304 Hv305 rfl (u64s_lenh (nds_len _ _)) (by rw [(u64s_lenh (List.length_replicate))]; decide) (u64s_one _) (store_whole (u64s_lenh (List.length_replicate))) rfl fun ac311 wo312 En313 Hv314 => ?_
  exact a_e ⟨bk306, En313.sb, Hv314.pk [0, 1, 2, 3, 4, 5, 6, 7, 8, 9]⟩
 rintro ac315 wo316 ⟨bk306, En317, Hv318⟩
 obtain ⟨xz, h_xz⟩ : ∃ q : List UInt64, q = nd (crN (nv x1) (nv z1) (nv x2) (nv z2) (nv (nd (addM 2 (nv xx) (nv zz))))) := ⟨_, rfl⟩
 rw [← h_xz] at Hv318
 have n_xz : List.length xz = 4 := by rw [h_xz]; exact nds_len _ _
 refine then_normal ?_
 refine wp_seq ?_
 refine r_c (fun ac wo => ∃ (bk365 : Nat), Env ac 117 [(2, pt bk1), (3, pt bk6), (4, pt bk11), (5, pt bk23), (6, pt bk93), (7, pt bk94), (8, pt bk95), (9, pt bk176), (10, pt bk241), (11, pt bk306), (12, pt bk365)] ∧ Ev w [] wo [.box bk1 ((u64s x1) ++ ((u64s y1) ++ (u64s z1))) 52, .box bk6 ((u64s x2) ++ ((u64s y2) ++ (u64s z2))) 52, .box bk11 ((u64s (List.replicate 4 0)) ++ ((u64s (List.replicate 4 0)) ++ (u64s (List.replicate 4 0)))) 52, .box bk23 (u64s (nd bN)) 24, .box bk93 (u64s xx) 24, .box bk94 (u64s yy) 24, .box bk95 (u64s zz) 24, .box bk176 (u64s xy) 24, .box bk241 (u64s yz) 24, .box bk306 (u64s xz) 24, .box bk365 (u64s (nd (thN (nv (nd (subM 2 (nv xz) (nv (nd (mulM 2 (nv (nd bN)) (nv zz)))))))))) 24]) ?_ ?_
 ·
  refine s_g1 [(2, pt bk1), (3, pt bk6), (4, pt bk11), (5, pt bk23), (6, pt bk93), (7, pt bk94), (8, pt bk95), (9, pt bk176), (10, pt bk241), (11, pt bk306)] [0,1,2,3,4,5] [(69, .agg (List.toArray (u64s xz))), (70, .agg (List.toArray (u64s (nd bN)))), (71, .agg (List.toArray (u64s zz))), (72, .agg (List.toArray (u64s (nd (mulM 2 (nv (nd bN)) (nv zz)))))), (73, .agg (List.toArray (u64s (nd (subM 2 (nv xz) (nv (nd (mulM 2 (nv (nd bN)) (nv zz))))))))), (74, .agg (List.toArray (u64s (nd (thN (nv (nd (subM 2 (nv xz) (nv (nd (mulM 2 (nv (nd bN)) (nv zz))))))))))))] 1 [(2, pt bk1), (3, pt bk6), (4, pt bk11), (5, pt bk23), (6, pt bk93), (7, pt bk94), (8, pt bk95), (9, pt bk176), (10, pt bk241), (11, pt bk306), (74, .agg (List.toArray (u64s (nd (thN (nv (nd (subM 2 (nv xz) (nv (nd (mulM 2 (nv (nd bN)) (nv zz))))))))))))] 6 (u64s (List.replicate 4 0)) (En317.sb) (Hv318.trans (Ev.drew Hv318.heap)) ?_ fun ac361 wo362 bk365 En363 Hv364 => ?_
  ·
   refine s_a 9 0 4 (u64s xz) rfl (load_whole (u64s_lenh n_xz)) (u64s_lenh n_xz) ?_
   refine s_a 3 0 4 (u64s (nd bN)) rfl (load_whole (u64s_lenh (nds_len _ _))) (u64s_lenh (nds_len _ _)) ?_
   refine s_a 6 0 4 (u64s zz) rfl (load_whole (u64s_lenh n_zz)) (u64s_lenh n_zz) ?_
   refine s_f (fun _ => pmul_go _ (nd bN) zz (nds_len _ _) n_zz) ?_
   refine s_f (fun _ => pdif_go _ xz (nd (mulM 2 (nv (nd bN)) (nv zz))) n_xz (nds_len _ _)) ?_
   refine s_f (fun _ => thrice_go _ (nd (subM 2 (nv xz) (nv (nd (mulM 2 (nv (nd bN)) (nv zz)))))) (nds_len _ _)) ?_
   exact s_n
  refine q_u 7 ?_
  refine m_g 10 0 4 (u64s (nd (thN (nv (nd (subM 2 (nv xz) (nv (nd (mulM 2 (nv (nd bN)) (nv zz)))))))))) (u64s (nd (thN (nv (nd (subM 2 (nv xz) (nv (nd (mulM 2 (nv (nd bN)) (nv zz)))))))))) [.box bk1 ((u64s x1) ++ ((u64s y1) ++ (u64s z1))) 52, .box bk6 ((u64s x2) ++ ((u64s y2) ++ (u64s z2))) 52, .box bk11 ((u64s (List.replicate 4 0)) ++ ((u64s (List.replicate 4 0)) ++ (u64s (List.replicate 4 0)))) 52, .box bk23 (u64s (nd bN)) 24, .box bk93 (u64s xx) 24, .box bk94 (u64s yy) 24, .box bk95 (u64s zz) 24, .box bk176 (u64s xy) 24, .box bk241 (u64s yz) 24, .box bk306 (u64s xz) 24, .box bk365 (u64s (nd (thN (nv (nd (subM 2 (nv xz) (nv (nd (mulM 2 (nv (nd bN)) (nv zz)))))))))) 24] En363 Hv364 rfl (u64s_lenh (nds_len _ _)) (by rw [(u64s_lenh (List.length_replicate))]; decide) (u64s_one _) (store_whole (u64s_lenh (List.length_replicate))) rfl fun ac370 wo371 En372 Hv373 => ?_
  exact a_e ⟨bk365, En372.sb, Hv373.pk [0, 1, 2, 3, 4, 5, 6, 7, 8, 9, 10]⟩
 rintro ac374 wo375 ⟨bk365, En376, Hv377⟩
 obtain ⟨u, h_u⟩ : ∃ q : List UInt64, q = nd (thN (nv (nd (subM 2 (nv xz) (nv (nd (mulM 2 (nv (nd bN)) (nv zz)))))))) := ⟨_, rfl⟩
 rw [← h_u] at Hv377
 have n_u : List.length u = 4 := by rw [h_u]; exact nds_len _ _
 refine then_normal ?_
 refine wp_seq ?_
 refine r_c (fun ac wo => ∃ (bk420 : Nat) (bk421 : Nat), Env ac 117 [(2, pt bk1), (3, pt bk6), (4, pt bk11), (5, pt bk23), (6, pt bk93), (7, pt bk94), (8, pt bk95), (9, pt bk176), (10, pt bk241), (11, pt bk306), (12, pt bk365), (13, pt bk420), (14, pt bk421)] ∧ Ev w [] wo [.box bk1 ((u64s x1) ++ ((u64s y1) ++ (u64s z1))) 52, .box bk6 ((u64s x2) ++ ((u64s y2) ++ (u64s z2))) 52, .box bk11 ((u64s (List.replicate 4 0)) ++ ((u64s (List.replicate 4 0)) ++ (u64s (List.replicate 4 0)))) 52, .box bk23 (u64s (nd bN)) 24, .box bk93 (u64s xx) 24, .box bk94 (u64s yy) 24, .box bk95 (u64s zz) 24, .box bk176 (u64s xy) 24, .box bk241 (u64s yz) 24, .box bk306 (u64s xz) 24, .box bk365 (u64s u) 24, .box bk420 (u64s (nd (subM 2 (nv yy) (nv u)))) 24, .box bk421 (u64s (nd (addM 2 (nv yy) (nv u)))) 24]) ?_ ?_
 ·
  refine s_g2 [(2, pt bk1), (3, pt bk6), (4, pt bk11), (5, pt bk23), (6, pt bk93), (7, pt bk94), (8, pt bk95), (9, pt bk176), (10, pt bk241), (11, pt bk306), (12, pt bk365)] [0,1,2,3,4,5] [(75, .agg (List.toArray (u64s yy))), (76, .agg (List.toArray (u64s u))), (77, .agg (List.toArray (u64s (nd (subM 2 (nv yy) (nv u)))))), (78, .agg (List.toArray (u64s yy))), (79, .agg (List.toArray (u64s u))), (80, .agg (List.toArray (u64s (nd (addM 2 (nv yy) (nv u))))))] 2 [(2, pt bk1), (3, pt bk6), (4, pt bk11), (5, pt bk23), (6, pt bk93), (7, pt bk94), (8, pt bk95), (9, pt bk176), (10, pt bk241), (11, pt bk306), (12, pt bk365), (77, .agg (List.toArray (u64s (nd (subM 2 (nv yy) (nv u)))))), (80, .agg (List.toArray (u64s (nd (addM 2 (nv yy) (nv u))))))] 6 7 (u64s (List.replicate 4 0)) (u64s (List.replicate 4 0)) (En376.sb) (Hv377.trans (Ev.drew Hv377.heap)) ?_ fun ac416 wo417 bk420 bk421 En418 Hv419 => ?_
  ·
   refine s_a 5 0 4 (u64s yy) rfl (load_whole (u64s_lenh n_yy)) (u64s_lenh n_yy) ?_
   refine s_a 10 0 4 (u64s u) rfl (load_whole (u64s_lenh n_u)) (u64s_lenh n_u) ?_
   refine s_f (fun _ => pdif_go _ yy u n_yy n_u) ?_
   refine s_a 5 0 4 (u64s yy) rfl (load_whole (u64s_lenh n_yy)) (u64s_lenh n_yy) ?_
   refine s_a 10 0 4 (u64s u) rfl (load_whole (u64s_lenh n_u)) (u64s_lenh n_u) ?_
   refine s_f (fun _ => psum_go _ yy u n_yy n_u) ?_
   exact s_n
  refine q_u 8 ?_
  refine m_g 11 0 4 (u64s (nd (subM 2 (nv yy) (nv u)))) (u64s (nd (subM 2 (nv yy) (nv u)))) [.box bk1 ((u64s x1) ++ ((u64s y1) ++ (u64s z1))) 52, .box bk6 ((u64s x2) ++ ((u64s y2) ++ (u64s z2))) 52, .box bk11 ((u64s (List.replicate 4 0)) ++ ((u64s (List.replicate 4 0)) ++ (u64s (List.replicate 4 0)))) 52, .box bk23 (u64s (nd bN)) 24, .box bk93 (u64s xx) 24, .box bk94 (u64s yy) 24, .box bk95 (u64s zz) 24, .box bk176 (u64s xy) 24, .box bk241 (u64s yz) 24, .box bk306 (u64s xz) 24, .box bk365 (u64s u) 24, .box bk420 (u64s (nd (subM 2 (nv yy) (nv u)))) 24, .box bk421 (u64s (List.replicate 4 0)) 24] En418 Hv419 rfl (u64s_lenh (nds_len _ _)) (by rw [(u64s_lenh (List.length_replicate))]; decide) (u64s_one _) (store_whole (u64s_lenh (List.length_replicate))) rfl fun ac430 wo431 En432 Hv433 => ?_
  refine q_u 9 ?_
  refine m_g 12 0 4 (u64s (nd (addM 2 (nv yy) (nv u)))) (u64s (nd (addM 2 (nv yy) (nv u)))) [.box bk1 ((u64s x1) ++ ((u64s y1) ++ (u64s z1))) 52, .box bk6 ((u64s x2) ++ ((u64s y2) ++ (u64s z2))) 52, .box bk11 ((u64s (List.replicate 4 0)) ++ ((u64s (List.replicate 4 0)) ++ (u64s (List.replicate 4 0)))) 52, .box bk23 (u64s (nd bN)) 24, .box bk93 (u64s xx) 24, .box bk94 (u64s yy) 24, .box bk95 (u64s zz) 24, .box bk176 (u64s xy) 24, .box bk241 (u64s yz) 24, .box bk306 (u64s xz) 24, .box bk365 (u64s u) 24, .box bk420 (u64s (nd (subM 2 (nv yy) (nv u)))) 24, .box bk421 (u64s (nd (addM 2 (nv yy) (nv u)))) 24] En432 Hv433 rfl (u64s_lenh (nds_len _ _)) (by rw [(u64s_lenh (List.length_replicate))]; decide) (u64s_one _) (store_whole (u64s_lenh (List.length_replicate))) rfl fun ac434 wo435 En436 Hv437 => ?_
  exact a_e ⟨bk420, bk421, En436.sb, Hv437.pk [0, 1, 2, 3, 4, 5, 6, 7, 8, 9, 10, 11, 12]⟩
 rintro ac438 wo439 ⟨bk420, bk421, En440, Hv441⟩
 obtain ⟨low, h_low⟩ : ∃ q : List UInt64, q = nd (subM 2 (nv yy) (nv u)) := ⟨_, rfl⟩
 rw [← h_low] at Hv441
 have n_low : List.length low = 4 := by rw [h_low]; exact nds_len _ _
 obtain ⟨high, h_high⟩ : ∃ q : List UInt64, q = nd (addM 2 (nv yy) (nv u)) := ⟨_, rfl⟩
 rw [← h_high] at Hv441
 have n_high : List.length high = 4 := by rw [h_high]; exact nds_len _ _
 refine then_normal ?_
 refine wp_seq ?_
 refine r_c (fun ac wo => ∃ (bk511 : Nat), Env ac 117 [(2, pt bk1), (3, pt bk6), (4, pt bk11), (5, pt bk23), (6, pt bk93), (7, pt bk94), (8, pt bk95), (9, pt bk176), (10, pt bk241), (11, pt bk306), (12, pt bk365), (13, pt bk420), (14, pt bk421), (15, pt bk511)] ∧ Ev w [] wo [.box bk1 ((u64s x1) ++ ((u64s y1) ++ (u64s z1))) 52, .box bk6 ((u64s x2) ++ ((u64s y2) ++ (u64s z2))) 52, .box bk11 ((u64s (List.replicate 4 0)) ++ ((u64s (List.replicate 4 0)) ++ (u64s (List.replicate 4 0)))) 52, .box bk23 (u64s (nd bN)) 24, .box bk93 (u64s xx) 24, .box bk94 (u64s yy) 24, .box bk95 (u64s zz) 24, .box bk176 (u64s xy) 24, .box bk241 (u64s yz) 24, .box bk306 (u64s xz) 24, .box bk365 (u64s u) 24, .box bk420 (u64s low) 24, .box bk421 (u64s high) 24, .box bk511 (u64s (nd (thN (nv (nd (subM 2 (nv (nd (subM 2 (nv (nd (mulM 2 (nv (nd bN)) (nv xz)))) (nv (nd (thN (nv zz))))))) (nv xx))))))) 24]) ?_ ?_
 ·
  refine s_g1 [(2, pt bk1), (3, pt bk6), (4, pt bk11), (5, pt bk23), (6, pt bk93), (7, pt bk94), (8, pt bk95), (9, pt bk176), (10, pt bk241), (11, pt bk306), (12, pt bk365), (13, pt bk420), (14, pt bk421)] [0,1,2,3,4,5,6,7,8] [(81, .agg (List.toArray (u64s (nd bN)))), (82, .agg (List.toArray (u64s xz))), (83, .agg (List.toArray (u64s (nd (mulM 2 (nv (nd bN)) (nv xz)))))), (84, .agg (List.toArray (u64s zz))), (85, .agg (List.toArray (u64s (nd (thN (nv zz)))))), (86, .agg (List.toArray (u64s (nd (subM 2 (nv (nd (mulM 2 (nv (nd bN)) (nv xz)))) (nv (nd (thN (nv zz))))))))), (87, .agg (List.toArray (u64s xx))), (88, .agg (List.toArray (u64s (nd (subM 2 (nv (nd (subM 2 (nv (nd (mulM 2 (nv (nd bN)) (nv xz)))) (nv (nd (thN (nv zz))))))) (nv xx)))))), (89, .agg (List.toArray (u64s (nd (thN (nv (nd (subM 2 (nv (nd (subM 2 (nv (nd (mulM 2 (nv (nd bN)) (nv xz)))) (nv (nd (thN (nv zz))))))) (nv xx)))))))))] 1 [(2, pt bk1), (3, pt bk6), (4, pt bk11), (5, pt bk23), (6, pt bk93), (7, pt bk94), (8, pt bk95), (9, pt bk176), (10, pt bk241), (11, pt bk306), (12, pt bk365), (13, pt bk420), (14, pt bk421), (89, .agg (List.toArray (u64s (nd (thN (nv (nd (subM 2 (nv (nd (subM 2 (nv (nd (mulM 2 (nv (nd bN)) (nv xz)))) (nv (nd (thN (nv zz))))))) (nv xx)))))))))] 9 (u64s (List.replicate 4 0)) (En440.sb) (Hv441.trans (Ev.drew Hv441.heap)) ?_ fun ac507 wo508 bk511 En509 Hv510 => ?_
  ·
   refine s_a 3 0 4 (u64s (nd bN)) rfl (load_whole (u64s_lenh (nds_len _ _))) (u64s_lenh (nds_len _ _)) ?_
   refine s_a 9 0 4 (u64s xz) rfl (load_whole (u64s_lenh n_xz)) (u64s_lenh n_xz) ?_
   refine s_f (fun _ => pmul_go _ (nd bN) xz (nds_len _ _) n_xz) ?_
   refine s_a 6 0 4 (u64s zz) rfl (load_whole (u64s_lenh n_zz)) (u64s_lenh n_zz) ?_
   refine s_f (fun _ => thrice_go _ zz n_zz) ?_
   refine s_f (fun _ => pdif_go _ (nd (mulM 2 (nv (nd bN)) (nv xz))) (nd (thN (nv zz))) (nds_len _ _) (nds_len _ _)) ?_
   refine s_a 4 0 4 (u64s xx) rfl (load_whole (u64s_lenh n_xx)) (u64s_lenh n_xx) ?_
   refine s_f (fun _ => pdif_go _ (nd (subM 2 (nv (nd (mulM 2 (nv (nd bN)) (nv xz)))) (nv (nd (thN (nv zz)))))) xx (nds_len _ _) n_xx) ?_
   refine s_f (fun _ => thrice_go _ (nd (subM 2 (nv (nd (subM 2 (nv (nd (mulM 2 (nv (nd bN)) (nv xz)))) (nv (nd (thN (nv zz))))))) (nv xx))) (nds_len _ _)) ?_
   exact s_n
  refine q_u 10 ?_
  refine m_g 13 0 4 (u64s (nd (thN (nv (nd (subM 2 (nv (nd (subM 2 (nv (nd (mulM 2 (nv (nd bN)) (nv xz)))) (nv (nd (thN (nv zz))))))) (nv xx))))))) (u64s (nd (thN (nv (nd (subM 2 (nv (nd (subM 2 (nv (nd (mulM 2 (nv (nd bN)) (nv xz)))) (nv (nd (thN (nv zz))))))) (nv xx))))))) [.box bk1 ((u64s x1) ++ ((u64s y1) ++ (u64s z1))) 52, .box bk6 ((u64s x2) ++ ((u64s y2) ++ (u64s z2))) 52, .box bk11 ((u64s (List.replicate 4 0)) ++ ((u64s (List.replicate 4 0)) ++ (u64s (List.replicate 4 0)))) 52, .box bk23 (u64s (nd bN)) 24, .box bk93 (u64s xx) 24, .box bk94 (u64s yy) 24, .box bk95 (u64s zz) 24, .box bk176 (u64s xy) 24, .box bk241 (u64s yz) 24, .box bk306 (u64s xz) 24, .box bk365 (u64s u) 24, .box bk420 (u64s low) 24, .box bk421 (u64s high) 24, .box bk511 (u64s (nd (thN (nv (nd (subM 2 (nv (nd (subM 2 (nv (nd (mulM 2 (nv (nd bN)) (nv xz)))) (nv (nd (thN (nv zz))))))) (nv xx))))))) 24] En509 Hv510 rfl (u64s_lenh (nds_len _ _)) (by rw [(u64s_lenh (List.length_replicate))]; decide) (u64s_one _) (store_whole (u64s_lenh (List.length_replicate))) rfl fun ac516 wo517 En518 Hv519 => ?_
  exact a_e ⟨bk511, En518.sb, Hv519.pk [0, 1, 2, 3, 4, 5, 6, 7, 8, 9, 10, 11, 12, 13]⟩
 rintro ac520 wo521 ⟨bk511, En522, Hv523⟩
 obtain ⟨v, h_v⟩ : ∃ q : List UInt64, q = nd (thN (nv (nd (subM 2 (nv (nd (subM 2 (nv (nd (mulM 2 (nv (nd bN)) (nv xz)))) (nv (nd (thN (nv zz))))))) (nv xx))))) := ⟨_, rfl⟩
 rw [← h_v] at Hv523
 have n_v : List.length v = 4 := by rw [h_v]; exact nds_len _ _
 refine then_normal ?_
 refine wp_seq ?_
 refine r_c (fun ac wo => ∃ (bk565 : Nat), Env ac 117 [(2, pt bk1), (3, pt bk6), (4, pt bk11), (5, pt bk23), (6, pt bk93), (7, pt bk94), (8, pt bk95), (9, pt bk176), (10, pt bk241), (11, pt bk306), (12, pt bk365), (13, pt bk420), (14, pt bk421), (15, pt bk511), (16, pt bk565)] ∧ Ev w [] wo [.box bk1 ((u64s x1) ++ ((u64s y1) ++ (u64s z1))) 52, .box bk6 ((u64s x2) ++ ((u64s y2) ++ (u64s z2))) 52, .box bk11 ((u64s (List.replicate 4 0)) ++ ((u64s (List.replicate 4 0)) ++ (u64s (List.replicate 4 0)))) 52, .box bk23 (u64s (nd bN)) 24, .box bk93 (u64s xx) 24, .box bk94 (u64s yy) 24, .box bk95 (u64s zz) 24, .box bk176 (u64s xy) 24, .box bk241 (u64s yz) 24, .box bk306 (u64s xz) 24, .box bk365 (u64s u) 24, .box bk420 (u64s low) 24, .box bk421 (u64s high) 24, .box bk511 (u64s v) 24, .box bk565 (u64s (nd (subM 2 (nv (nd (thN (nv xx)))) (nv (nd (thN (nv zz))))))) 24]) ?_ ?_
 ·
  refine s_g1 [(2, pt bk1), (3, pt bk6), (4, pt bk11), (5, pt bk23), (6, pt bk93), (7, pt bk94), (8, pt bk95), (9, pt bk176), (10, pt bk241), (11, pt bk306), (12, pt bk365), (13, pt bk420), (14, pt bk421), (15, pt bk511)] [0,1,2,3,4] [(90, .agg (List.toArray (u64s xx))), (91, .agg (List.toArray (u64s (nd (thN (nv xx)))))), (92, .agg (List.toArray (u64s zz))), (93, .agg (List.toArray (u64s (nd (thN (nv zz)))))), (94, .agg (List.toArray (u64s (nd (subM 2 (nv (nd (thN (nv xx)))) (nv (nd (thN (nv zz)))))))))] 1 [(2, pt bk1), (3, pt bk6), (4, pt bk11), (5, pt bk23), (6, pt bk93), (7, pt bk94), (8, pt bk95), (9, pt bk176), (10, pt bk241), (11, pt bk306), (12, pt bk365), (13, pt bk420), (14, pt bk421), (15, pt bk511), (94, .agg (List.toArray (u64s (nd (subM 2 (nv (nd (thN (nv xx)))) (nv (nd (thN (nv zz)))))))))] 5 (u64s (List.replicate 4 0)) (En522.sb) (Hv523.trans (Ev.drew Hv523.heap)) ?_ fun ac561 wo562 bk565 En563 Hv564 => ?_
  ·
   refine s_a 4 0 4 (u64s xx) rfl (load_whole (u64s_lenh n_xx)) (u64s_lenh n_xx) ?_
   refine s_f (fun _ => thrice_go _ xx n_xx) ?_
   refine s_a 6 0 4 (u64s zz) rfl (load_whole (u64s_lenh n_zz)) (u64s_lenh n_zz) ?_
   refine s_f (fun _ => thrice_go _ zz n_zz) ?_
   refine s_f (fun _ => pdif_go _ (nd (thN (nv xx))) (nd (thN (nv zz))) (nds_len _ _) (nds_len _ _)) ?_
   exact s_n
  refine q_u 6 ?_
  refine m_g 14 0 4 (u64s (nd (subM 2 (nv (nd (thN (nv xx)))) (nv (nd (thN (nv zz))))))) (u64s (nd (subM 2 (nv (nd (thN (nv xx)))) (nv (nd (thN (nv zz))))))) [.box bk1 ((u64s x1) ++ ((u64s y1) ++ (u64s z1))) 52, .box bk6 ((u64s x2) ++ ((u64s y2) ++ (u64s z2))) 52, .box bk11 ((u64s (List.replicate 4 0)) ++ ((u64s (List.replicate 4 0)) ++ (u64s (List.replicate 4 0)))) 52, .box bk23 (u64s (nd bN)) 24, .box bk93 (u64s xx) 24, .box bk94 (u64s yy) 24, .box bk95 (u64s zz) 24, .box bk176 (u64s xy) 24, .box bk241 (u64s yz) 24, .box bk306 (u64s xz) 24, .box bk365 (u64s u) 24, .box bk420 (u64s low) 24, .box bk421 (u64s high) 24, .box bk511 (u64s v) 24, .box bk565 (u64s (nd (subM 2 (nv (nd (thN (nv xx)))) (nv (nd (thN (nv zz))))))) 24] En563 Hv564 rfl (u64s_lenh (nds_len _ _)) (by rw [(u64s_lenh (List.length_replicate))]; decide) (u64s_one _) (store_whole (u64s_lenh (List.length_replicate))) rfl fun ac570 wo571 En572 Hv573 => ?_
  exact a_e ⟨bk565, En572.sb, Hv573.pk [0, 1, 2, 3, 4, 5, 6, 7, 8, 9, 10, 11, 12, 13, 14]⟩
 rintro ac574 wo575 ⟨bk565, En576, Hv577⟩
 obtain ⟨ww, h_ww⟩ : ∃ q : List UInt64, q = nd (subM 2 (nv (nd (thN (nv xx)))) (nv (nd (thN (nv zz))))) := ⟨_, rfl⟩
 rw [← h_ww] at Hv577
 have n_ww : List.length ww = 4 := by rw [h_ww]; exact nds_len _ _
 refine then_normal ?_
 refine wp_seq ?_
 refine r_c (fun ac wo => Env ac 117 [(2, pt bk1), (3, pt bk6), (4, pt bk11), (5, pt bk23), (6, pt bk93), (7, pt bk94), (8, pt bk95), (9, pt bk176), (10, pt bk241), (11, pt bk306), (12, pt bk365), (13, pt bk420), (14, pt bk421), (15, pt bk511), (16, pt bk565)] ∧ Ev w [] wo [.box bk1 ((u64s x1) ++ ((u64s y1) ++ (u64s z1))) 52, .box bk6 ((u64s x2) ++ ((u64s y2) ++ (u64s z2))) 52, .box bk11 ((u64s (nd (subM 2 (nv (nd (mulM 2 (nv xy) (nv high)))) (nv (nd (mulM 2 (nv yz) (nv v))))))) ++ ((u64s (nd (addM 2 (nv (nd (mulM 2 (nv high) (nv low)))) (nv (nd (mulM 2 (nv ww) (nv v))))))) ++ (u64s (nd (addM 2 (nv (nd (mulM 2 (nv yz) (nv low)))) (nv (nd (mulM 2 (nv xy) (nv ww))))))))) 52, .box bk23 (u64s (nd bN)) 24, .box bk93 (u64s xx) 24, .box bk94 (u64s yy) 24, .box bk95 (u64s zz) 24, .box bk176 (u64s xy) 24, .box bk241 (u64s yz) 24, .box bk306 (u64s xz) 24, .box bk365 (u64s u) 24, .box bk420 (u64s low) 24, .box bk421 (u64s high) 24, .box bk511 (u64s v) 24, .box bk565 (u64s ww) 24]) ?_ ?_
 ·
  refine s_g0 [(2, pt bk1), (3, pt bk6), (4, pt bk11), (5, pt bk23), (6, pt bk93), (7, pt bk94), (8, pt bk95), (9, pt bk176), (10, pt bk241), (11, pt bk306), (12, pt bk365), (13, pt bk420), (14, pt bk421), (15, pt bk511), (16, pt bk565)] [0,1,2,3,4,5,6,7,8,9,10,11,12,13,14,15,16,17,18,19,20,21] [(95, .agg (List.toArray (u64s xy))), (96, .agg (List.toArray (u64s high))), (97, .agg (List.toArray (u64s (nd (mulM 2 (nv xy) (nv high)))))), (98, .agg (List.toArray (u64s yz))), (99, .agg (List.toArray (u64s v))), (100, .agg (List.toArray (u64s (nd (mulM 2 (nv yz) (nv v)))))), (101, .agg (List.toArray (u64s (nd (subM 2 (nv (nd (mulM 2 (nv xy) (nv high)))) (nv (nd (mulM 2 (nv yz) (nv v))))))))), (102, .agg (List.toArray (u64s high))), (103, .agg (List.toArray (u64s low))), (104, .agg (List.toArray (u64s (nd (mulM 2 (nv high) (nv low)))))), (105, .agg (List.toArray (u64s ww))), (106, .agg (List.toArray (u64s v))), (107, .agg (List.toArray (u64s (nd (mulM 2 (nv ww) (nv v)))))), (108, .agg (List.toArray (u64s (nd (addM 2 (nv (nd (mulM 2 (nv high) (nv low)))) (nv (nd (mulM 2 (nv ww) (nv v))))))))), (109, .agg (List.toArray (u64s yz))), (110, .agg (List.toArray (u64s low))), (111, .agg (List.toArray (u64s (nd (mulM 2 (nv yz) (nv low)))))), (112, .agg (List.toArray (u64s xy))), (113, .agg (List.toArray (u64s ww))), (114, .agg (List.toArray (u64s (nd (mulM 2 (nv xy) (nv ww)))))), (115, .agg (List.toArray (u64s (nd (addM 2 (nv (nd (mulM 2 (nv yz) (nv low)))) (nv (nd (mulM 2 (nv xy) (nv ww))))))))), (116, .agg (List.toArray ((u64s (nd (subM 2 (nv (nd (mulM 2 (nv xy) (nv high)))) (nv (nd (mulM 2 (nv yz) (nv v))))))) ++ ((u64s (nd (addM 2 (nv (nd (mulM 2 (nv high) (nv low)))) (nv (nd (mulM 2 (nv ww) (nv v))))))) ++ (u64s (nd (addM 2 (nv (nd (mulM 2 (nv yz) (nv low)))) (nv (nd (mulM 2 (nv xy) (nv ww)))))))))))] 1 [(2, pt bk1), (3, pt bk6), (4, pt bk11), (5, pt bk23), (6, pt bk93), (7, pt bk94), (8, pt bk95), (9, pt bk176), (10, pt bk241), (11, pt bk306), (12, pt bk365), (13, pt bk420), (14, pt bk421), (15, pt bk511), (16, pt bk565), (116, .agg (List.toArray ((u64s (nd (subM 2 (nv (nd (mulM 2 (nv xy) (nv high)))) (nv (nd (mulM 2 (nv yz) (nv v))))))) ++ ((u64s (nd (addM 2 (nv (nd (mulM 2 (nv high) (nv low)))) (nv (nd (mulM 2 (nv ww) (nv v))))))) ++ (u64s (nd (addM 2 (nv (nd (mulM 2 (nv yz) (nv low)))) (nv (nd (mulM 2 (nv xy) (nv ww)))))))))))] (En576.sb) (Hv577.trans (Ev.drew Hv577.heap)) ?_ fun ac719 wo720 En721 Hv722 => ?_
  ·
   refine s_a 7 0 4 (u64s xy) rfl (load_whole (u64s_lenh n_xy)) (u64s_lenh n_xy) ?_
   refine s_a 12 0 4 (u64s high) rfl (load_whole (u64s_lenh n_high)) (u64s_lenh n_high) ?_
   refine s_f (fun _ => pmul_go _ xy high n_xy n_high) ?_
   refine s_a 8 0 4 (u64s yz) rfl (load_whole (u64s_lenh n_yz)) (u64s_lenh n_yz) ?_
   refine s_a 13 0 4 (u64s v) rfl (load_whole (u64s_lenh n_v)) (u64s_lenh n_v) ?_
   refine s_f (fun _ => pmul_go _ yz v n_yz n_v) ?_
   refine s_f (fun _ => pdif_go _ (nd (mulM 2 (nv xy) (nv high))) (nd (mulM 2 (nv yz) (nv v))) (nds_len _ _) (nds_len _ _)) ?_
   refine s_a 12 0 4 (u64s high) rfl (load_whole (u64s_lenh n_high)) (u64s_lenh n_high) ?_
   refine s_a 11 0 4 (u64s low) rfl (load_whole (u64s_lenh n_low)) (u64s_lenh n_low) ?_
   refine s_f (fun _ => pmul_go _ high low n_high n_low) ?_
   refine s_a 14 0 4 (u64s ww) rfl (load_whole (u64s_lenh n_ww)) (u64s_lenh n_ww) ?_
   refine s_a 13 0 4 (u64s v) rfl (load_whole (u64s_lenh n_v)) (u64s_lenh n_v) ?_
   refine s_f (fun _ => pmul_go _ ww v n_ww n_v) ?_
   refine s_f (fun _ => psum_go _ (nd (mulM 2 (nv high) (nv low))) (nd (mulM 2 (nv ww) (nv v))) (nds_len _ _) (nds_len _ _)) ?_
   refine s_a 8 0 4 (u64s yz) rfl (load_whole (u64s_lenh n_yz)) (u64s_lenh n_yz) ?_
   refine s_a 11 0 4 (u64s low) rfl (load_whole (u64s_lenh n_low)) (u64s_lenh n_low) ?_
   refine s_f (fun _ => pmul_go _ yz low n_yz n_low) ?_
   refine s_a 7 0 4 (u64s xy) rfl (load_whole (u64s_lenh n_xy)) (u64s_lenh n_xy) ?_
   refine s_a 14 0 4 (u64s ww) rfl (load_whole (u64s_lenh n_ww)) (u64s_lenh n_ww) ?_
   refine s_f (fun _ => pmul_go _ xy ww n_xy n_ww) ?_
   refine s_f (fun _ => psum_go _ (nd (mulM 2 (nv yz) (nv low))) (nd (mulM 2 (nv xy) (nv ww))) (nds_len _ _) (nds_len _ _)) ?_
   refine s_p [] ?_
   exact s_n
  refine q_u 22 ?_
  refine m_g 2 0 12 ((u64s (nd (subM 2 (nv (nd (mulM 2 (nv xy) (nv high)))) (nv (nd (mulM 2 (nv yz) (nv v))))))) ++ ((u64s (nd (addM 2 (nv (nd (mulM 2 (nv high) (nv low)))) (nv (nd (mulM 2 (nv ww) (nv v))))))) ++ (u64s (nd (addM 2 (nv (nd (mulM 2 (nv yz) (nv low)))) (nv (nd (mulM 2 (nv xy) (nv ww))))))))) ((u64s (nd (subM 2 (nv (nd (mulM 2 (nv xy) (nv high)))) (nv (nd (mulM 2 (nv yz) (nv v))))))) ++ ((u64s (nd (addM 2 (nv (nd (mulM 2 (nv high) (nv low)))) (nv (nd (mulM 2 (nv ww) (nv v))))))) ++ (u64s (nd (addM 2 (nv (nd (mulM 2 (nv yz) (nv low)))) (nv (nd (mulM 2 (nv xy) (nv ww))))))))) [.box bk1 ((u64s x1) ++ ((u64s y1) ++ (u64s z1))) 52, .box bk6 ((u64s x2) ++ ((u64s y2) ++ (u64s z2))) 52, .box bk11 ((u64s (nd (subM 2 (nv (nd (mulM 2 (nv xy) (nv high)))) (nv (nd (mulM 2 (nv yz) (nv v))))))) ++ ((u64s (nd (addM 2 (nv (nd (mulM 2 (nv high) (nv low)))) (nv (nd (mulM 2 (nv ww) (nv v))))))) ++ (u64s (nd (addM 2 (nv (nd (mulM 2 (nv yz) (nv low)))) (nv (nd (mulM 2 (nv xy) (nv ww))))))))) 52, .box bk23 (u64s (nd bN)) 24, .box bk93 (u64s xx) 24, .box bk94 (u64s yy) 24, .box bk95 (u64s zz) 24, .box bk176 (u64s xy) 24, .box bk241 (u64s yz) 24, .box bk306 (u64s xz) 24, .box bk365 (u64s u) 24, .box bk420 (u64s low) 24, .box bk421 (u64s high) 24, .box bk511 (u64s v) 24, .box bk565 (u64s ww) 24] En721 Hv722 rfl (len_app (u64s_lenh (nds_len _ _)) (len_app (u64s_lenh (nds_len _ _)) (u64s_lenh (nds_len _ _)))) (by rw [(len_app (u64s_lenh (List.length_replicate)) (len_app (u64s_lenh (List.length_replicate)) (u64s_lenh (List.length_replicate))))]; decide) (one_app (u64s_one _) (one_app (u64s_one _) (u64s_one _))) (store_whole (len_app (u64s_lenh (List.length_replicate)) (len_app (u64s_lenh (List.length_replicate)) (u64s_lenh (List.length_replicate))))) rfl fun ac727 wo728 En729 Hv730 => ?_
  exact a_e ⟨En729.sb, Hv730.pk [0, 1, 2, 3, 4, 5, 6, 7, 8, 9, 10, 11, 12, 13, 14]⟩
 rintro ac731 wo732 ⟨En733, Hv734⟩
 refine then_normal ?_
 refine wp_ret ?_
 refine d_cell1 (v := .agg (List.toArray ((u64s (nd (subM 2 (nv (nd (mulM 2 (nv xy) (nv high)))) (nv (nd (mulM 2 (nv yz) (nv v))))))) ++ ((u64s (nd (addM 2 (nv (nd (mulM 2 (nv high) (nv low)))) (nv (nd (mulM 2 (nv ww) (nv v))))))) ++ (u64s (nd (addM 2 (nv (nd (mulM 2 (nv yz) (nv low)))) (nv (nd (mulM 2 (nv xy) (nv ww))))))))))) (t := 4) (T := 52) (ad := ⟨bk11, 0, none⟩) En733 (by kernel_rfl) (by kernel_rfl) (Ev.cellAgg (t := 52) (k := 2) (off := 0) (m := 12) (xs := (u64s (nd (subM 2 (nv (nd (mulM 2 (nv xy) (nv high)))) (nv (nd (mulM 2 (nv yz) (nv v))))))) ++ ((u64s (nd (addM 2 (nv (nd (mulM 2 (nv high) (nv low)))) (nv (nd (mulM 2 (nv ww) (nv v))))))) ++ (u64s (nd (addM 2 (nv (nd (mulM 2 (nv yz) (nv low)))) (nv (nd (mulM 2 (nv xy) (nv ww))))))))) Hv734 rfl (load_whole (len_app (u64s_lenh (nds_len _ _)) (len_app (u64s_lenh (nds_len _ _)) (u64s_lenh (nds_len _ _))))) (len_app (u64s_lenh (nds_len _ _)) (len_app (u64s_lenh (nds_len _ _)) (u64s_lenh (nds_len _ _)))) (by kernel_rfl) (by kernel_rfl)) ?_
 have e0 : nd (subM 2 (nv (nd (mulM 2 (nv xy) (nv high)))) (nv (nd (mulM 2 (nv yz) (nv v))))) = nd (wtA outX (nv x1) (nv y1) (nv z1) (nv x2) (nv y2) (nv z2)) := by
  subst h_ww h_v h_high h_low h_u h_xz h_yz h_xy h_zz h_yy h_xx
  simp only [nv_m2, nv_a2, nv_s2, nv_th, nv_cr, nv_b, wtA, outX, outY, outZ, uN, vN, wN]
 have e1 : nd (addM 2 (nv (nd (mulM 2 (nv high) (nv low)))) (nv (nd (mulM 2 (nv ww) (nv v))))) = nd (wtA outY (nv x1) (nv y1) (nv z1) (nv x2) (nv y2) (nv z2)) := by
  subst h_ww h_v h_high h_low h_u h_xz h_yz h_xy h_zz h_yy h_xx
  simp only [nv_m2, nv_a2, nv_s2, nv_th, nv_cr, nv_b, wtA, outX, outY, outZ, uN, vN, wN]
 have e2 : nd (addM 2 (nv (nd (mulM 2 (nv yz) (nv low)))) (nv (nd (mulM 2 (nv xy) (nv ww))))) = nd (wtA outZ (nv x1) (nv y1) (nv z1) (nv x2) (nv y2) (nv z2)) := by
  subst h_ww h_v h_high h_low h_u h_xz h_yz h_xy h_zz h_yy h_xx
  simp only [nv_m2, nv_a2, nv_s2, nv_th, nv_cr, nv_b, wtA, outX, outY, outZ, uN, vN, wN]
 exact ⟨ret3 e0 e1 e2, Hv734.pk []⟩

end Go.Proofs.Ytpfhmbbiadpbeaa
