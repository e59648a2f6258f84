/- Layer 13: the document's reckoning with points. -/
import Derived.Test.YtpfhmbbiadpbeaaP3
import Derived.Test.YtpfhmbbiadpbeaaT2
namespace Go.Proofs.Ytpfhmbbiadpbeaa
open Go.Dbr
set_option maxRecDepth 100000
set_option maxHeartbeats 2000000
set_option linter.unusedVariables false
set_option linter.unusedSimpArgs false

theorem dmul_go (w : World) (a b : List UInt64) (ha : List.length a = 4) (hb : List.length b = 4) : Calls Try.prog 45 #[.agg (List.toArray (u64s a)), .agg (List.toArray (u64s b))] w fun e w' => e = .returned (.agg (List.toArray (u64s (nd (mulM 2 (nv a) (nv b)))))) ∧ Ev w [] w' [] := by
 refine d_0 [(0, .agg (List.toArray (u64s a))), (1, .agg (List.toArray (u64s b)))] 8 Go.Proofs.Try.func45 Go.Proofs.Try.ntmps45 (Heap.nil _) fun act0 En0 Hv0 => ?_
 refine wp_seq ?_
 refine region_from ?_
 refine f_o ?_
 refine m_m 24 (u64s a) En0 Hv0 fun ac2 wo3 bk1 En4 Hv5 => ?_
 refine f_o ?_
 refine m_m 24 (u64s b) En4 Hv5 fun ac7 wo8 bk6 En9 Hv10 => ?_
 refine f_o ?_
 refine m_z 24 (u64s (List.replicate 4 0)) En9 Hv10 fun ac12 wo13 bk11 En14 Hv15 => ?_
 refine f_e ?_
 refine then_normal ?_
 refine wp_seq ?_
 refine region_from ?_
 refine f_o ?_
 refine m_a 0 0 4 (u64s a) En14 Hv15 rfl (load_whole (u64s_lenh ha)) (u64s_lenh ha) fun ac16 En17 => ?_
 refine f_o ?_
 refine m_a 1 0 4 (u64s b) En17 Hv15 rfl (load_whole (u64s_lenh hb)) (u64s_lenh hb) fun ac18 En19 => ?_
 refine f_o ?_
 refine c_p En19 Hv15 (hR2 _ a b ha hb) fun ac24 wo21 En25 Hv26 => ?_
 refine f_o ?_
 refine m_g 2 0 4 (u64s (nd (mulM 2 (nv a) (nv b)))) (u64s (nd (mulM 2 (nv a) (nv b)))) [.box bk1 (u64s a) 24, .box bk6 (u64s b) 24, .box bk11 (u64s (nd (mulM 2 (nv a) (nv b)))) 24] En25 Hv26 rfl (u64s_lenh (nds_len _ _)) (by rw [(u64s_lenh (List.length_replicate))]; decide) (u64s_one _) (store_whole (u64s_lenh (List.length_replicate))) rfl fun ac27 wo28 En29 Hv30 => ?_
 refine f_e ?_
 refine then_normal ?_
 refine wp_ret ?_
 refine d_cell1 (v := .agg (List.toArray (u64s (nd (mulM 2 (nv a) (nv b)))))) (t := 4) (T := 24) (ad := ⟨bk11, 0, none⟩) En29 (by kernel_rfl) (by kernel_rfl) (Ev.cellAgg (t := 24) (k := 2) (off := 0) (m := 4) (xs := u64s (nd (mulM 2 (nv a) (nv b)))) Hv30 rfl (load_whole (u64s_lenh (nds_len _ _))) (u64s_lenh (nds_len _ _)) (by kernel_rfl) (by kernel_rfl)) ?_
 exact ⟨rfl, Hv30.pk []⟩

theorem dadd_go (w : World) (a b : List UInt64) (ha : List.length a = 4) (hb : List.length b = 4) : Calls Try.prog 43 #[.agg (List.toArray (u64s a)), .agg (List.toArray (u64s b))] w fun e w' => e = .returned (.agg (List.toArray (u64s (nd (addM 2 (nv a) (nv b)))))) ∧ Ev w [] w' [] := by
 refine d_0 [(0, .agg (List.toArray (u64s a))), (1, .agg (List.toArray (u64s b)))] 8 Go.Proofs.Try.func43 Go.Proofs.Try.ntmps43 (Heap.nil _) fun act0 En0 Hv0 => ?_
 refine wp_seq ?_
 refine region_from ?_
 refine f_o ?_
 refine m_m 24 (u64s a) En0 Hv0 fun ac2 wo3 bk1 En4 Hv5 => ?_
 refine f_o ?_
 refine m_m 24 (u64s b) En4 Hv5 fun ac7 wo8 bk6 En9 Hv10 => ?_
 refine f_o ?_
 refine m_z 24 (u64s (List.replicate 4 0)) En9 Hv10 fun ac12 wo13 bk11 En14 Hv15 => ?_
 refine f_e ?_
 refine then_normal ?_
 refine wp_seq ?_
 refine region_from ?_
 refine f_o ?_
 refine m_a 0 0 4 (u64s a) En14 Hv15 rfl (load_whole (u64s_lenh ha)) (u64s_lenh ha) fun ac16 En17 => ?_
 refine f_o ?_
 refine m_a 1 0 4 (u64s b) En17 Hv15 rfl (load_whole (u64s_lenh hb)) (u64s_lenh hb) fun ac18 En19 => ?_
 refine f_o ?_
 refine c_p En19 Hv15 (radd_go _ 2 h2f hL2 a b ha hb) fun ac24 wo21 En25 Hv26 => ?_
 refine f_o ?_
 refine m_g 2 0 4 (u64s (nd (addM 2 (nv a) (nv b)))) (u64s (nd (addM 2 (nv a) (nv b)))) [.box bk1 (u64s a) 24, .box bk6 (u64s b) 24, .box bk11 (u64s (nd (addM 2 (nv a) (nv b)))) 24] En25 Hv26 rfl (u64s_lenh (nds_len _ _)) (by rw [(u64s_lenh (List.length_replicate))]; decide) (u64s_one _) (store_whole (u64s_lenh (List.length_replicate))) rfl fun ac27 wo28 En29 Hv30 => ?_
 refine f_e ?_
 refine then_normal ?_
 refine wp_ret ?_
 refine d_cell1 (v := .agg (List.toArray (u64s (nd (addM 2 (nv a) (nv b)))))) (t := 4) (T := 24) (ad := ⟨bk11, 0, none⟩) En29 (by kernel_rfl) (by kernel_rfl) (Ev.cellAgg (t := 24) (k := 2) (off := 0) (m := 4) (xs := u64s (nd (addM 2 (nv a) (nv b)))) Hv30 rfl (load_whole (u64s_lenh (nds_len _ _))) (u64s_lenh (nds_len _ _)) (by kernel_rfl) (by kernel_rfl)) ?_
 exact ⟨rfl, Hv30.pk []⟩

theorem dsub_go (w : World) (a b : List UInt64) (ha : List.length a = 4) (hb : List.length b = 4) : Calls Try.prog 44 #[.agg (List.toArray (u64s a)), .agg (List.toArray (u64s b))] w fun e w' => e = .returned (.agg (List.toArray (u64s (nd (subM 2 (nv a) (nv b)))))) ∧ Ev w [] w' [] := by
 refine d_0 [(0, .agg (List.toArray (u64s a))), (1, .agg (List.toArray (u64s b)))] 8 Go.Proofs.Try.func44 Go.Proofs.Try.ntmps44 (Heap.nil _) fun act0 En0 Hv0 => ?_
 refine wp_seq ?_
 refine region_from ?_
 refine f_o ?_
 refine m_m 24 (u64s a) En0 Hv0 fun ac2 wo3 bk1 En4 Hv5 => ?_
 refine f_o ?_
 refine m_m 24 (u64s b) En4 Hv5 fun ac7 wo8 bk6 En9 Hv10 => ?_
 refine f_o ?_
 refine m_z 24 (u64s (List.replicate 4 0)) En9 Hv10 fun ac12 wo13 bk11 En14 Hv15 => ?_
 refine f_e ?_
 refine then_normal ?_
 refine wp_seq ?_
 refine region_from ?_
 refine f_o ?_
 refine m_a 0 0 4 (u64s a) En14 Hv15 rfl (load_whole (u64s_lenh ha)) (u64s_lenh ha) fun ac16 En17 => ?_
 refine f_o ?_
 refine m_a 1 0 4 (u64s b) En17 Hv15 rfl (load_whole (u64s_lenh hb)) (u64s_lenh hb) fun ac18 En19 => ?_
 refine f_o ?_
 refine c_p En19 Hv15 (rsub_go _ 2 h2f hL2 a b ha hb) fun ac24 wo21 En25 Hv26 => ?_
 refine f_o ?_
 refine m_g 2 0 4 (u64s (nd (subM 2 (nv a) (nv b)))) (u64s (nd (subM 2 (nv a) (nv b)))) [.box bk1 (u64s a) 24, .box bk6 (u64s b) 24, .box bk11 (u64s (nd (subM 2 (nv a) (nv b)))) 24] En25 Hv26 rfl (u64s_lenh (nds_len _ _)) (by rw [(u64s_lenh (List.length_replicate))]; decide) (u64s_one _) (store_whole (u64s_lenh (List.length_replicate))) rfl fun ac27 wo28 En29 Hv30 => ?_
 refine f_e ?_
 refine then_normal ?_
 refine wp_ret ?_
 refine d_cell1 (v := .agg (List.toArray (u64s (nd (subM 2 (nv a) (nv b)))))) (t := 4) (T := 24) (ad := ⟨bk11, 0, none⟩) En29 (by kernel_rfl) (by kernel_rfl) (Ev.cellAgg (t := 24) (k := 2) (off := 0) (m := 4) (xs := u64s (nd (subM 2 (nv a) (nv b)))) Hv30 rfl (load_whole (u64s_lenh (nds_len _ _))) (u64s_lenh (nds_len _ _)) (by kernel_rfl) (by kernel_rfl)) ?_
 exact ⟨rfl, Hv30.pk []⟩

theorem rlessm_go (w : World) (a : List UInt64) (ha : List.length a = 4) : Calls Try.prog 42 #[.agg (List.toArray (u64s a)), .agg (List.toArray (u64s (nd (mF 2))))] w fun e w' => e = .returned (.bool (decide (nv a < mF 2))) ∧ Ev w [] w' [] := by
  have h := rless_go w a (nd (mF 2)) ha (nds_len _ _)
  rw [nv_mF] at h
  exact h
theorem beq_t {a b : L4} (h : a = b) : (a == b) = true := by rw [h]; exact beq_self_eq_true _
theorem beq_f {a b : L4} (h : ¬ a = b) : (a == b) = false := beq_false_of_ne h

theorem don_go (w : World) (z : Bool) (x y : List UInt64) (hx : List.length x = 4) (hy : List.length y = 4) : Calls Try.prog 15 #[.agg (List.toArray (([.bool z] : List Value) ++ ((u64s x) ++ (u64s y))))] w fun e w' => e = .returned (.bool (onN z x y)) ∧ Ev w [] w' [] := by
 refine d_0 [(0, .agg (List.toArray (([.bool z] : List Value) ++ ((u64s x) ++ (u64s y)))))] 58 Go.Proofs.Try.func15 Go.Proofs.Try.ntmps15 (Heap.nil _) fun act0 En0 Hv0 => ?_
 refine wp_seq ?_
 refine region_from ?_
 refine f_o ?_
 refine m_m 26 (([.bool z] : List Value) ++ ((u64s x) ++ (u64s y))) En0 Hv0 fun ac2 wo3 bk1 En4 Hv5 => ?_
 refine d_e [1,2] [] En4 fun ac6 En7 => ?_
 refine then_normal ?_
 refine wp_seq ?_
 refine wp_seq ?_
 refine region_from ?_
 refine d_k [1,2,8] [] 1 En7 fun ac8 En9 => ?_
 refine f_o ?_
 refine m_v 0 0 (.bool z) En9 Hv5 rfl (seg_in rfl) fun ac10 En11 => ?_
 refine f_e ?_
 refine then_normal ?_
 refine cond_at En11 (t := z) (by kernel_rfl) (fun hc12 => ?_) (fun hc12 => ?_)
 ·
  replace hc12 : z = true := hc12
  refine wp_seq ?_
  refine region_from ?_
  refine d_k [1,2,10] [] 1 En11 fun ac13 En14 => ?_
  refine f_o ?_
  refine m_a 0 1 4 (u64s x) En14 Hv5 rfl (by simp [u64s_lenh hx, u64s_lenh hy, List.drop_append, List.take_append]) (u64s_lenh hx) fun ac15 En16 => ?_
  refine d_k [1,2,11,12] [] 3 En16 fun ac17 En18 => ?_
  refine f_o ?_
  refine q_v (x := eqOp .eql 24 (.tmp 11) (.tmp 12) (.agg (List.toArray (u64s x))) (.agg (List.toArray (u64s ([0, 0, 0, 0] : List UInt64))))) (v := .bool (x == ([0, 0, 0, 0] : List UInt64))) En18 (Go.Dbr.u64s_eqop (a := (.tmp 11)) (b := (.tmp 12)) (e := 22) (m := 4) (by kernel_rfl) (by kernel_rfl) (by kernel_rfl) (by kernel_rfl) (by kernel_rfl) hx (show List.length ([0, 0, 0, 0] : List UInt64) = 4 from rfl) _) fun ac19 En20 => ?_
  refine d_k [1,2,14] [] 5 En20 fun ac21 En22 => ?_
  rcases Bool.eq_false_or_eq_true (x == ([0, 0, 0, 0] : List UInt64)) with hb23 | hb23
  ·
   have En24 := En22.fx (t := 14) (congrArg Value.bool hb23)
   have hp25 : x = ([0, 0, 0, 0] : List UInt64) := eq_of_beq hb23
   refine d_k [1,2,14,15] [] 6 En24 fun ac26 En27 => ?_
   refine f_o ?_
   refine m_a 0 5 4 (u64s y) En27 Hv5 rfl (by simp [u64s_lenh hx, u64s_lenh hy, List.drop_append, List.take_append, List.take_of_length_le]) (u64s_lenh hy) fun ac28 En29 => ?_
   refine d_k [1,2,14,16,17] [] 8 En29 fun ac30 En31 => ?_
   refine f_o ?_
   refine q_v (x := eqOp .eql 24 (.tmp 16) (.tmp 17) (.agg (List.toArray (u64s y))) (.agg (List.toArray (u64s ([0, 0, 0, 0] : List UInt64))))) (v := .bool (y == ([0, 0, 0, 0] : List UInt64))) En31 (Go.Dbr.u64s_eqop (a := (.tmp 16)) (b := (.tmp 17)) (e := 22) (m := 4) (by kernel_rfl) (by kernel_rfl) (by kernel_rfl) (by kernel_rfl) (by kernel_rfl) hy (show List.length ([0, 0, 0, 0] : List UInt64) = 4 from rfl) _) fun ac32 En33 => ?_
   refine d_e [1,2] [] En33 fun ac34 En35 => ?_
   refine then_normal ?_
   refine wp_ret ?_
   refine then_ret ?_
   refine d_ret1 (t := 2) (v := .bool (y == ([0, 0, 0, 0] : List UInt64))) En35 (by kernel_rfl) (by kernel_rfl) ?_
   have g0 : z = true := by simpa using hc12
   exact ⟨by rw [g0]; show _ = Ending.returned (.bool (x == z4 && y == z4)); rw [show (x == z4) = true from beq_t hp25]; rfl, Hv5.pk []⟩
  ·
   have En36 := En22.fx (t := 14) (congrArg Value.bool hb23)
   have hp37 : ¬ (x = ([0, 0, 0, 0] : List UInt64)) := ne_of_beq_false hb23
   refine d_e [1,2] [] En36 fun ac38 En39 => ?_
   refine then_normal ?_
   refine wp_ret ?_
   refine then_ret ?_
   refine d_ret1 (t := 2) (v := .bool false) En39 (by kernel_rfl) (by kernel_rfl) ?_
   have g0 : z = true := by simpa using hc12
   exact ⟨by rw [g0]; show _ = Ending.returned (.bool (x == z4 && y == z4)); rw [show (x == z4) = false from beq_f hp37]; rfl, Hv5.pk []⟩
 ·
  replace hc12 : ¬ (z = true) := Bool.eq_false_iff.1 hc12
  refine wp_skip ?_
  refine then_normal ?_
  refine wp_seq ?_
  refine region_from ?_
  refine f_o ?_
  refine c_p En11 Hv5 (rmodulus_go _ 2) fun ac44 wo41 En45 Hv46 => ?_
  refine f_o ?_
  refine m_z 24 (u64s (List.replicate 4 0)) En45 Hv46 fun ac48 wo49 bk47 En50 Hv51 => ?_
  refine f_o ?_
  refine m_g 1 0 4 (u64s (nd (mF 2))) (u64s (nd (mF 2))) [.box bk1 (([.bool z] : List Value) ++ ((u64s x) ++ (u64s y))) 26, .box bk47 (u64s (nd (mF 2))) 24] En50 Hv51 rfl (u64s_lenh (nds_len _ _)) (by rw [(u64s_lenh (List.length_replicate))]; decide) (u64s_one _) (store_whole (u64s_lenh (List.length_replicate))) rfl fun ac52 wo53 En54 Hv55 => ?_
  refine f_e ?_
  refine then_normal ?_
  refine wp_seq ?_
  refine region_from ?_
  refine d_k [1,2,3,21] [] 1 En54 fun ac56 En57 => ?_
  refine f_o ?_
  refine m_a 0 1 4 (u64s x) En57 Hv55 rfl (by simp [u64s_lenh hx, u64s_lenh hy, List.drop_append, List.take_append]) (u64s_lenh hx) fun ac58 En59 => ?_
  refine f_o ?_
  refine m_a 1 0 4 (u64s (nd (mF 2))) En59 Hv55 rfl (load_whole (u64s_lenh (nds_len _ _))) (u64s_lenh (nds_len _ _)) fun ac60 En61 => ?_
  refine f_o ?_
  refine c_p En61 Hv55 (rlessm_go _ x hx) fun ac66 wo63 En67 Hv68 => ?_
  refine d_e [1,2,3,4] [] En67 fun ac69 En70 => ?_
  refine then_normal ?_
  refine wp_seq ?_
  refine region_from ?_
  refine d_k [1,2,3,4,25] [] 1 En70 fun ac71 En72 => ?_
  refine f_o ?_
  refine m_a 0 5 4 (u64s y) En72 Hv68 rfl (by simp [u64s_lenh hx, u64s_lenh hy, List.drop_append, List.take_append, List.take_of_length_le]) (u64s_lenh hy) fun ac73 En74 => ?_
  refine f_o ?_
  refine m_a 1 0 4 (u64s (nd (mF 2))) En74 Hv68 rfl (load_whole (u64s_lenh (nds_len _ _))) (u64s_lenh (nds_len _ _)) fun ac75 En76 => ?_
  refine f_o ?_
  refine c_p En76 Hv68 (rlessm_go _ y hy) fun ac81 wo78 En82 Hv83 => ?_
  refine d_e [1,2,3,4,5] [] En82 fun ac84 En85 => ?_
  refine then_normal ?_
  refine wp_seq ?_
  refine region_from ?_
  refine d_k [1,2,3,4,5,29] [] 1 En85 fun ac86 En87 => ?_
  refine f_o ?_
  refine m_z 24 (u64s (List.replicate 4 0)) En87 Hv83 fun ac89 wo90 bk88 En91 Hv92 => ?_
  refine f_o ?_
  refine m_g 2 0 4 (u64s ([4309448131093880907, 7285987128567378166, 12964664127075681980, 6540974713487397863] : List UInt64)) (u64s ([4309448131093880907, 7285987128567378166, 12964664127075681980, 6540974713487397863] : List UInt64)) [.box bk1 (([.bool z] : List Value) ++ ((u64s x) ++ (u64s y))) 26, .box bk47 (u64s (nd (mF 2))) 24, .box bk88 (u64s ([4309448131093880907, 7285987128567378166, 12964664127075681980, 6540974713487397863] : List UInt64)) 24] En91 Hv92 rfl (u64s_lenh (show List.length ([4309448131093880907, 7285987128567378166, 12964664127075681980, 6540974713487397863] : List UInt64) = 4 from rfl)) (by rw [(u64s_lenh (List.length_replicate))]; decide) (u64s_one _) (store_whole (u64s_lenh (List.length_replicate))) rfl fun ac93 wo94 En95 Hv96 => ?_
  refine f_e ?_
  refine then_normal ?_
  refine wp_seq ?_
  refine r_c (fun ac wo => ∃ (bk171 : Nat), Env ac 58 [(1, pt bk1), (2, .bool false), (3, pt bk47), (4, .bool (decide (nv x < mF 2))), (5, .bool (decide (nv y < mF 2))), (6, pt bk88), (7, pt bk171)] ∧ Ev w [] wo [.box bk1 (([.bool z] : List Value) ++ ((u64s x) ++ (u64s y))) 26, .box bk47 (u64s (nd (mF 2))) 24, .box bk88 (u64s ([4309448131093880907, 7285987128567378166, 12964664127075681980, 6540974713487397863] : List UInt64)) 24, .box bk171 (u64s (nd (addM 2 (nv (nd (subM 2 (nv (nd (mulM 2 (nv x) (nv (nd (mulM 2 (nv x) (nv x))))))) (nv (nd (mulM 2 (nv ([3, 0, 0, 0] : List UInt64)) (nv x))))))) (nv ([4309448131093880907, 7285987128567378166, 12964664127075681980, 6540974713487397863] : List UInt64))))) 24]) ?_ ?_
  ·
   refine s_g1 [(1, pt bk1), (2, .bool false), (3, pt bk47), (4, .bool (decide (nv x < mF 2))), (5, .bool (decide (nv y < mF 2))), (6, pt bk88)] [0,1,2,3,4,5,6,7,8,9,10,11,12,13,14] [(30, .pointer (some ⟨bk1, 1, none⟩)), (31, .agg (List.toArray (u64s x))), (32, .pointer (some ⟨bk1, 1, none⟩)), (33, .agg (List.toArray (u64s x))), (34, .pointer (some ⟨bk1, 1, none⟩)), (35, .agg (List.toArray (u64s x))), (36, .agg (List.toArray (u64s (nd (mulM 2 (nv x) (nv x)))))), (37, .agg (List.toArray (u64s (nd (mulM 2 (nv x) (nv (nd (mulM 2 (nv x) (nv x))))))))), (38, .agg (List.toArray (u64s ([3, 0, 0, 0] : List UInt64)))), (39, .pointer (some ⟨bk1, 1, none⟩)), (40, .agg (List.toArray (u64s x))), (41, .agg (List.toArray (u64s (nd (mulM 2 (nv ([3, 0, 0, 0] : List UInt64)) (nv x)))))), (42, .agg (List.toArray (u64s (nd (subM 2 (nv (nd (mulM 2 (nv x) (nv (nd (mulM 2 (nv x) (nv x))))))) (nv (nd (mulM 2 (nv ([3, 0, 0, 0] : List UInt64)) (nv x))))))))), (43, .agg (List.toArray (u64s ([4309448131093880907, 7285987128567378166, 12964664127075681980, 6540974713487397863] : List UInt64)))), (44, .agg (List.toArray (u64s (nd (addM 2 (nv (nd (subM 2 (nv (nd (mulM 2 (nv x) (nv (nd (mulM 2 (nv x) (nv x))))))) (nv (nd (mulM 2 (nv ([3, 0, 0, 0] : List UInt64)) (nv x))))))) (nv ([4309448131093880907, 7285987128567378166, 12964664127075681980, 6540974713487397863] : List UInt64)))))))] 1 [(1, pt bk1), (2, .bool false), (3, pt bk47), (4, .bool (decide (nv x < mF 2))), (5, .bool (decide (nv y < mF 2))), (6, pt bk88), (44, .agg (List.toArray (u64s (nd (addM 2 (nv (nd (subM 2 (nv (nd (mulM 2 (nv x) (nv (nd (mulM 2 (nv x) (nv x))))))) (nv (nd (mulM 2 (nv ([3, 0, 0, 0] : List UInt64)) (nv x))))))) (nv ([4309448131093880907, 7285987128567378166, 12964664127075681980, 6540974713487397863] : List UInt64)))))))] 15 (u64s (List.replicate 4 0)) (En95.sb) (Hv96.trans (Ev.drew Hv96.heap)) ?_ fun ac167 wo168 bk171 En169 Hv170 => ?_
   ·
    refine s_p [] ?_
    refine s_a 0 1 4 (u64s x) rfl (by simp [u64s_lenh hx, u64s_lenh hy, List.drop_append, List.take_append]) (u64s_lenh hx) ?_
    refine s_p [] ?_
    refine s_a 0 1 4 (u64s x) rfl (by simp [u64s_lenh hx, u64s_lenh hy, List.drop_append, List.take_append]) (u64s_lenh hx) ?_
    refine s_p [] ?_
    refine s_a 0 1 4 (u64s x) rfl (by simp [u64s_lenh hx, u64s_lenh hy, List.drop_append, List.take_append]) (u64s_lenh hx) ?_
    refine s_f (fun _ => dmul_go _ x x hx hx) ?_
    refine s_f (fun _ => dmul_go _ x (nd (mulM 2 (nv x) (nv x))) hx (nds_len _ _)) ?_
    refine s_p [] ?_
    refine s_p [] ?_
    refine s_a 0 1 4 (u64s x) rfl (by simp [u64s_lenh hx, u64s_lenh hy, List.drop_append, List.take_append]) (u64s_lenh hx) ?_
    refine s_f (fun _ => dmul_go _ ([3, 0, 0, 0] : List UInt64) x (show List.length ([3, 0, 0, 0] : List UInt64) = 4 from rfl) hx) ?_
    refine s_f (fun _ => dsub_go _ (nd (mulM 2 (nv x) (nv (nd (mulM 2 (nv x) (nv x)))))) (nd (mulM 2 (nv ([3, 0, 0, 0] : List UInt64)) (nv x))) (nds_len _ _) (nds_len _ _)) ?_
    refine s_a 2 0 4 (u64s ([4309448131093880907, 7285987128567378166, 12964664127075681980, 6540974713487397863] : List UInt64)) rfl (load_whole (u64s_lenh (show List.length ([4309448131093880907, 7285987128567378166, 12964664127075681980, 6540974713487397863] : List UInt64) = 4 from rfl))) (u64s_lenh (show List.length ([4309448131093880907, 7285987128567378166, 12964664127075681980, 6540974713487397863] : List UInt64) = 4 from rfl)) ?_
    refine s_f (fun _ => dadd_go _ (nd (subM 2 (nv (nd (mulM 2 (nv x) (nv (nd (mulM 2 (nv x) (nv x))))))) (nv (nd (mulM 2 (nv ([3, 0, 0, 0] : List UInt64)) (nv x)))))) ([4309448131093880907, 7285987128567378166, 12964664127075681980, 6540974713487397863] : List UInt64) (nds_len _ _) (show List.length ([4309448131093880907, 7285987128567378166, 12964664127075681980, 6540974713487397863] : List UInt64) = 4 from rfl)) ?_
    exact s_n
   refine q_u 16 ?_
   refine m_g 3 0 4 (u64s (nd (addM 2 (nv (nd (subM 2 (nv (nd (mulM 2 (nv x) (nv (nd (mulM 2 (nv x) (nv x))))))) (nv (nd (mulM 2 (nv ([3, 0, 0, 0] : List UInt64)) (nv x))))))) (nv ([4309448131093880907, 7285987128567378166, 12964664127075681980, 6540974713487397863] : List UInt64))))) (u64s (nd (addM 2 (nv (nd (subM 2 (nv (nd (mulM 2 (nv x) (nv (nd (mulM 2 (nv x) (nv x))))))) (nv (nd (mulM 2 (nv ([3, 0, 0, 0] : List UInt64)) (nv x))))))) (nv ([4309448131093880907, 7285987128567378166, 12964664127075681980, 6540974713487397863] : List UInt64))))) [.box bk1 (([.bool z] : List Value) ++ ((u64s x) ++ (u64s y))) 26, .box bk47 (u64s (nd (mF 2))) 24, .box bk88 (u64s ([4309448131093880907, 7285987128567378166, 12964664127075681980, 6540974713487397863] : List UInt64)) 24, .box bk171 (u64s (nd (addM 2 (nv (nd (subM 2 (nv (nd (mulM 2 (nv x) (nv (nd (mulM 2 (nv x) (nv x))))))) (nv (nd (mulM 2 (nv ([3, 0, 0, 0] : List UInt64)) (nv x))))))) (nv ([4309448131093880907, 7285987128567378166, 12964664127075681980, 6540974713487397863] : List UInt64))))) 24] En169 Hv170 rfl (u64s_lenh (nds_len _ _)) (by rw [(u64s_lenh (List.length_replicate))]; decide) (u64s_one _) (store_whole (u64s_lenh (List.length_replicate))) rfl fun ac176 wo177 En178 Hv179 => ?_
   exact a_e ⟨bk171, En178.sb, Hv179.pk [0, 1, 2, 3]⟩
  rintro ac180 wo181 ⟨bk171, En182, Hv183⟩
  obtain ⟨rr, h_rr⟩ : ∃ q : List UInt64, q = nd (addM 2 (nv (nd (subM 2 (nv (nd (mulM 2 (nv x) (nv (nd (mulM 2 (nv x) (nv x))))))) (nv (nd (mulM 2 (nv ([3, 0, 0, 0] : List UInt64)) (nv x))))))) (nv ([4309448131093880907, 7285987128567378166, 12964664127075681980, 6540974713487397863] : List UInt64))) := ⟨_, rfl⟩
  rw [← h_rr] at Hv183
  have n_rr : List.length rr = 4 := by rw [h_rr]; exact nds_len _ _
  refine then_normal ?_
  refine wp_seq ?_
  rcases Bool.eq_false_or_eq_true (decide (nv x < mF 2)) with hb184 | hb184
  ·
   have hb184p : nv x < mF 2 := of_decide_eq_true hb184
   rcases Bool.eq_false_or_eq_true (decide (nv y < mF 2)) with hb185 | hb185
   ·
    have hb185p : nv y < mF 2 := of_decide_eq_true hb185
    refine r_c (fun ac wo => Env ac 58 [(1, pt bk1), (2, .bool ((nd (mulM 2 (nv y) (nv y))) == rr)), (3, pt bk47), (6, pt bk88), (7, pt bk171)] ∧ Ev w [] wo [.box bk1 (([.bool z] : List Value) ++ ((u64s x) ++ (u64s y))) 26, .box bk47 (u64s (nd (mF 2))) 24, .box bk88 (u64s ([4309448131093880907, 7285987128567378166, 12964664127075681980, 6540974713487397863] : List UInt64)) 24, .box bk171 (u64s rr) 24]) ?_ ?_
    ·
     refine h_s (fun wv => Ev w [] wv [.box bk1 (([.bool z] : List Value) ++ ((u64s x) ++ (u64s y))) 26, .box bk171 (u64s rr) 24]) [] 14 ?_
     have wo186 := Hv183.trans (Ev.drew Hv183.heap)
     refine q_s [0,1] [] 12 En182 (wo186.pk [0, 3]) fun ac302 En303 => ?_
     have En304 := En303.fx (t := 4) (congrArg Value.bool hb184)
     have En305 := En304.fx (t := 45) (congrArg Value.bool hb184)
     have En306 := En305.fx (t := 46) (congrArg Value.bool hb184)
     refine q_s [2,3,4] [] 9 En306 (wo186.pk [0, 3]) fun ac307 En308 => ?_
     have En309 := En308.fx (t := 5) (congrArg Value.bool hb185)
     have En310 := En309.fx (t := 47) (congrArg Value.bool hb185)
     have En311 := En310.fx (t := 48) (congrArg Value.bool hb185)
     have En312 := En311.fx (t := 49) (congrArg Value.bool hb185)
     refine q_s [5] [] 8 En312 (wo186.pk [0, 3]) fun ac313 En314 => ?_
     refine q_r 6 (s := Instr.loadAt 24 (.pointer (some ⟨bk1, 5, none⟩))) (v := .agg (List.toArray (u64s y))) En314 (fun w hS => run_loadAgg2 (m := 4) (cs := u64s y) (u64s_lenh hy) (by kernel_rfl) (by kernel_rfl) (hS.heap.cells (k := 0) (off := 5) (m := 4) rfl (by simp [u64s_lenh hx, u64s_lenh hy, List.drop_append, List.take_append, List.take_of_length_le]))) (wo186.pk [0, 3]) fun ac315 En316 => ?_
     refine q_s [7] [] 6 En316 (wo186.pk [0, 3]) fun ac317 En318 => ?_
     refine q_r 8 (s := Instr.loadAt 24 (.pointer (some ⟨bk1, 5, none⟩))) (v := .agg (List.toArray (u64s y))) En318 (fun w hS => run_loadAgg2 (m := 4) (cs := u64s y) (u64s_lenh hy) (by kernel_rfl) (by kernel_rfl) (hS.heap.cells (k := 0) (off := 5) (m := 4) rfl (by simp [u64s_lenh hx, u64s_lenh hy, List.drop_append, List.take_append, List.take_of_length_le]))) (wo186.pk [0, 3]) fun ac319 En320 => ?_
     refine q_r 10 (s := Instr.loadAt 24 (pt bk171)) (v := .agg (List.toArray (u64s rr))) En320 (fun w hS => run_loadAgg2 (m := 4) (cs := u64s rr) (u64s_lenh n_rr) (by kernel_rfl) (by kernel_rfl) (hS.heap.cells (k := 1) (off := 0) (m := 4) rfl (load_whole (u64s_lenh n_rr)))) (wo186.pk [0, 3]) fun ac321 En322 => ?_
     refine q_t 9 ?_
     refine c_p En322 wo186 (dmul_go _ y y hy hy) fun ac327 wo324 En328 Hv329 => ?_
     refine ⟨fun _ => Hv329.pk [0, 3], ?_⟩
     refine q_f 11 (s := eqOp .eql 24 (.tmp 54) (.tmp 55) (.agg (List.toArray (u64s (nd (mulM 2 (nv y) (nv y)))))) (.agg (List.toArray (u64s rr)))) (v := .bool ((nd (mulM 2 (nv y) (nv y))) == rr)) En328 (fun _ => Go.Dbr.u64s_eqop (a := (.tmp 54)) (b := (.tmp 55)) (e := 22) (m := 4) (by kernel_rfl) (by kernel_rfl) (by kernel_rfl) (by kernel_rfl) (by kernel_rfl) (nds_len _ _) n_rr _) (fun _ => Hv329.pk [0, 3]) fun ac330 En331 => ?_
     refine q_s [12,13] [] 0 En331 (Hv329.pk [0, 3]) fun ac332 En333 => ?_
     exact h_e ⟨En333.sb, Hv329.pk [0, 1, 2, 3]⟩
    rintro ac334 wo335 ⟨En336, Hv337⟩
    refine then_normal ?_
    refine wp_ret ?_
    refine d_ret1 (t := 2) (v := .bool ((nd (mulM 2 (nv y) (nv y))) == rr)) En336 (by kernel_rfl) (by kernel_rfl) ?_
    have g0 : z = false := by simpa using hc12
    rw [show ([4309448131093880907, 7285987128567378166, 12964664127075681980, 6540974713487397863] : List UInt64) = nd bN from by kernel_rfl] at h_rr
    have e_rr : rr = nd (addM 2 (subM 2 (mulM 2 (mulM 2 (nv x) (nv x)) (nv x)) (thN (nv x))) bN) := by rw [h_rr, ← on_doc]; simp only [nv_m2, nv_a2, nv_s2, nv_th, nv_b, show nv [3, 0, 0, 0] = 3 from rfl]
    have q0 := hb184
    have q1 := hb185
    exact ⟨by rw [g0]; simp only [onN, Bool.cond_false, q0, q1, e_rr, Bool.true_and, Bool.false_and, Bool.and_false, decide_true, decide_false], Hv337.pk []⟩
   ·
    have hb185p : ¬ (nv y < mF 2) := of_decide_eq_false hb185
    refine r_c (fun ac wo => Env ac 58 [(1, pt bk1), (2, .bool false), (3, pt bk47), (6, pt bk88), (7, pt bk171)] ∧ Ev w [] wo [.box bk1 (([.bool z] : List Value) ++ ((u64s x) ++ (u64s y))) 26, .box bk47 (u64s (nd (mF 2))) 24, .box bk88 (u64s ([4309448131093880907, 7285987128567378166, 12964664127075681980, 6540974713487397863] : List UInt64)) 24, .box bk171 (u64s rr) 24]) ?_ ?_
    ·
     refine draw_any (by kernel_rfl) 14 (by kernel_rfl) ?_
     have wo338 := Hv183.trans (Ev.drew Hv183.heap)
     refine q_a [0,1] [] 12 En182 fun ac352 En353 => ?_
     have En354 := En353.fx (t := 4) (congrArg Value.bool hb184)
     have En355 := En354.fx (t := 45) (congrArg Value.bool hb184)
     have En356 := En355.fx (t := 46) (congrArg Value.bool hb184)
     refine q_a [2,3,4] [] 9 En356 fun ac357 En358 => ?_
     have En359 := En358.fx (t := 5) (congrArg Value.bool hb185)
     have En360 := En359.fx (t := 47) (congrArg Value.bool hb185)
     have En361 := En360.fx (t := 48) (congrArg Value.bool hb185)
     have En362 := En361.fx (t := 49) (congrArg Value.bool hb185)
     refine q_a [5,6,7,8,9,10,11,12,13] [] 0 En362 fun ac363 En364 => ?_
     exact a_e ⟨En364.sb, wo338.pk [0, 1, 2, 3]⟩
    rintro ac365 wo366 ⟨En367, Hv368⟩
    refine then_normal ?_
    refine wp_ret ?_
    refine d_ret1 (t := 2) (v := .bool false) En367 (by kernel_rfl) (by kernel_rfl) ?_
    have g0 : z = false := by simpa using hc12
    rw [show ([4309448131093880907, 7285987128567378166, 12964664127075681980, 6540974713487397863] : List UInt64) = nd bN from by kernel_rfl] at h_rr
    have e_rr : rr = nd (addM 2 (subM 2 (mulM 2 (mulM 2 (nv x) (nv x)) (nv x)) (thN (nv x))) bN) := by rw [h_rr, ← on_doc]; simp only [nv_m2, nv_a2, nv_s2, nv_th, nv_b, show nv [3, 0, 0, 0] = 3 from rfl]
    have q0 := hb184
    have q1 := hb185
    exact ⟨by rw [g0]; simp only [onN, Bool.cond_false, q0, q1, e_rr, Bool.true_and, Bool.false_and, Bool.and_false, decide_true, decide_false], Hv368.pk []⟩
  ·
   have hb184p : ¬ (nv x < mF 2) := of_decide_eq_false hb184
   refine r_c (fun ac wo => Env ac 58 [(1, pt bk1), (2, .bool false), (3, pt bk47), (6, pt bk88), (7, pt bk171)] ∧ Ev w [] wo [.box bk1 (([.bool z] : List Value) ++ ((u64s x) ++ (u64s y))) 26, .box bk47 (u64s (nd (mF 2))) 24, .box bk88 (u64s ([4309448131093880907, 7285987128567378166, 12964664127075681980, 6540974713487397863] : List UInt64)) 24, .box bk171 (u64s rr) 24]) ?_ ?_
   ·
    refine draw_any (by kernel_rfl) 14 (by kernel_rfl) ?_
    have wo369 := Hv183.trans (Ev.drew Hv183.heap)
    refine q_a [0,1] [] 12 En182 fun ac377 En378 => ?_
    have En379 := En378.fx (t := 4) (congrArg Value.bool hb184)
    have En380 := En379.fx (t := 45) (congrArg Value.bool hb184)
    have En381 := En380.fx (t := 46) (congrArg Value.bool hb184)
    refine q_a [2,3,4,5,6,7,8,9,10,11,12,13] [] 0 En381 fun ac382 En383 => ?_
    exact a_e ⟨En383.sb, wo369.pk [0, 1, 2, 3]⟩
   rintro ac384 wo385 ⟨En386, Hv387⟩
   refine then_normal ?_
   refine wp_ret ?_
   refine d_ret1 (t := 2) (v := .bool false) En386 (by kernel_rfl) (by kernel_rfl) ?_
   have g0 : z = false := by simpa using hc12
   rw [show ([4309448131093880907, 7285987128567378166, 12964664127075681980, 6540974713487397863] : List UInt64) = nd bN from by kernel_rfl] at h_rr
   have e_rr : rr = nd (addM 2 (subM 2 (mulM 2 (mulM 2 (nv x) (nv x)) (nv x)) (thN (nv x))) bN) := by rw [h_rr, ← on_doc]; simp only [nv_m2, nv_a2, nv_s2, nv_th, nv_b, show nv [3, 0, 0, 0] = 3 from rfl]
   have q0 := hb184
   exact ⟨by rw [g0]; simp only [onN, Bool.cond_false, q0, e_rr, Bool.true_and, Bool.false_and, Bool.and_false, decide_true, decide_false], Hv387.pk []⟩

end Go.Proofs.Ytpfhmbbiadpbeaa
