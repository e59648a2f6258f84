/- Layer 13: the document's points of three numbers, walked. -/
import Derived.Test.YtpfhmbbiadpbeaaD1
namespace Go.Proofs.Ytpfhmbbiadpbeaa
open Go.Dbr
set_option maxRecDepth 100000
set_option maxHeartbeats 2000000
set_option linter.unusedVariables false
set_option linter.unusedSimpArgs false

theorem dof_go (w : World) (z : Bool) (x y : List UInt64) (hx : List.length x = 4) (hy : List.length y = 4) : Calls Try.prog 33 #[.agg (List.toArray (([.bool z] : List Value) ++ ((u64s x) ++ (u64s y))))] w fun e w' => e = .returned (.agg (List.toArray ((u64s ((ofJ z x y).1)) ++ ((u64s ((ofJ z x y).2.1)) ++ (u64s ((ofJ z x y).2.2)))))) ∧ Ev w [] w' [] := by
 refine d_0 [(0, .agg (List.toArray (([.bool z] : List Value) ++ ((u64s x) ++ (u64s y)))))] 14 Go.Proofs.Try.func33 Go.Proofs.Try.ntmps33 (Heap.nil _) fun act0 En0 Hv0 => ?_
 refine wp_seq ?_
 refine region_from ?_
 refine f_o ?_
 refine m_m 26 (([.bool z] : List Value) ++ ((u64s x) ++ (u64s y))) En0 Hv0 fun ac2 wo3 bk1 En4 Hv5 => ?_
 refine f_o ?_
 refine m_z 57 ((u64s (List.replicate 4 0)) ++ ((u64s (List.replicate 4 0)) ++ (u64s (List.replicate 4 0)))) En4 Hv5 fun ac7 wo8 bk6 En9 Hv10 => ?_
 refine f_e ?_
 refine then_normal ?_
 refine wp_seq ?_
 refine wp_seq ?_
 refine region_from ?_
 refine d_k [1,2,3] [] 1 En9 fun ac11 En12 => ?_
 refine f_o ?_
 refine m_v 0 0 (.bool z) En12 Hv10 rfl (seg_in rfl) fun ac13 En14 => ?_
 refine f_e ?_
 refine then_normal ?_
 refine cond_at En14 (t := z) (by kernel_rfl) (fun hc15 => ?_) (fun hc15 => ?_)
 ·
  replace hc15 : z = true := hc15
  refine wp_seq ?_
  refine region_from ?_
  refine d_k [1,2,5,6] [] 2 En14 fun ac16 En17 => ?_
  refine f_o ?_
  refine q_v (x := Instr.build 57 #[(0, .agg (List.toArray (u64s ([1, 0, 0, 0] : List UInt64)))), (1, .agg (List.toArray (u64s ([1, 0, 0, 0] : List UInt64))))]) (v := .agg (List.toArray ((u64s ([1, 0, 0, 0] : List UInt64)) ++ ((u64s ([1, 0, 0, 0] : List UInt64)) ++ (u64s (List.replicate 4 0)))))) En17 (Go.Dbr.run_built [(0, 4), (4, 4), (8, 4)] [⟨4, u64s (List.replicate 4 0), some (0, .agg (List.toArray (u64s ([1, 0, 0, 0] : List UInt64))), u64s ([1, 0, 0, 0] : List UInt64))⟩, ⟨4, u64s (List.replicate 4 0), some (1, .agg (List.toArray (u64s ([1, 0, 0, 0] : List UInt64))), u64s ([1, 0, 0, 0] : List UInt64))⟩, ⟨4, u64s (List.replicate 4 0), none⟩] (fb_y (u64s_lenh (List.length_replicate)) (u64s_lenh (show List.length ([1, 0, 0, 0] : List UInt64) = 4 from rfl)) (fb_y (u64s_lenh (List.length_replicate)) (u64s_lenh (show List.length ([1, 0, 0, 0] : List UInt64) = 4 from rfl)) (fb_n (u64s_lenh (List.length_replicate)) trivial))) _) fun ac18 En19 => ?_
  refine f_o ?_
  refine m_g 1 0 12 ((u64s ([1, 0, 0, 0] : List UInt64)) ++ ((u64s ([1, 0, 0, 0] : List UInt64)) ++ (u64s (List.replicate 4 0)))) ((u64s ([1, 0, 0, 0] : List UInt64)) ++ ((u64s ([1, 0, 0, 0] : List UInt64)) ++ (u64s (List.replicate 4 0)))) [.box bk1 (([.bool z] : List Value) ++ ((u64s x) ++ (u64s y))) 26, .box bk6 ((u64s ([1, 0, 0, 0] : List UInt64)) ++ ((u64s ([1, 0, 0, 0] : List UInt64)) ++ (u64s (List.replicate 4 0)))) 57] En19 Hv10 rfl (len_app (u64s_lenh (show List.length ([1, 0, 0, 0] : List UInt64) = 4 from rfl)) (len_app (u64s_lenh (show List.length ([1, 0, 0, 0] : List UInt64) = 4 from rfl)) (u64s_lenh (List.length_replicate)))) (by rw [(len_app (u64s_lenh (List.length_replicate)) (len_app (u64s_lenh (List.length_replicate)) (u64s_lenh (List.length_replicate))))]; decide) (one_app (u64s_one _) (one_app (u64s_one _) (u64s_one _))) (store_whole (len_app (u64s_lenh (List.length_replicate)) (len_app (u64s_lenh (List.length_replicate)) (u64s_lenh (List.length_replicate))))) rfl fun ac20 wo21 En22 Hv23 => ?_
  refine f_e ?_
  refine then_normal ?_
  refine wp_ret ?_
  refine then_ret ?_
  refine d_cell1 (v := .agg (List.toArray ((u64s ([1, 0, 0, 0] : List UInt64)) ++ ((u64s ([1, 0, 0, 0] : List UInt64)) ++ (u64s (List.replicate 4 0)))))) (t := 2) (T := 57) (ad := ⟨bk6, 0, none⟩) En22 (by kernel_rfl) (by kernel_rfl) (Ev.cellAgg (t := 57) (k := 1) (off := 0) (m := 12) (xs := (u64s ([1, 0, 0, 0] : List UInt64)) ++ ((u64s ([1, 0, 0, 0] : List UInt64)) ++ (u64s (List.replicate 4 0)))) Hv23 rfl (load_whole (len_app (u64s_lenh (show List.length ([1, 0, 0, 0] : List UInt64) = 4 from rfl)) (len_app (u64s_lenh (show List.length ([1, 0, 0, 0] : List UInt64) = 4 from rfl)) (u64s_lenh (List.length_replicate))))) (len_app (u64s_lenh (show List.length ([1, 0, 0, 0] : List UInt64) = 4 from rfl)) (len_app (u64s_lenh (show List.length ([1, 0, 0, 0] : List UInt64) = 4 from rfl)) (u64s_lenh (List.length_replicate)))) (by kernel_rfl) (by kernel_rfl)) ?_
  have g0 : z = true := by simpa using hc15
  exact ⟨by rw [g0]; first | rfl | kernel_rfl, Hv23.pk []⟩
 ·
  replace hc15 : ¬ (z = true) := Bool.eq_false_iff.1 hc15
  refine wp_skip ?_
  refine then_normal ?_
  refine wp_seq ?_
  refine region_from ?_
  refine d_k [1,2,8] [] 1 En14 fun ac24 En25 => ?_
  refine f_o ?_
  refine m_a 0 1 4 (u64s x) En25 Hv10 rfl (by simp [u64s_lenh hx, u64s_lenh hy, List.drop_append, List.take_append]) (u64s_lenh hx) fun ac26 En27 => ?_
  refine d_k [1,2,9,10] [] 3 En27 fun ac28 En29 => ?_
  refine f_o ?_
  refine m_a 0 5 4 (u64s y) En29 Hv10 rfl (by simp [u64s_lenh hx, u64s_lenh hy, List.drop_append, List.take_append, List.take_of_length_le]) (u64s_lenh hy) fun ac30 En31 => ?_
  refine d_k [1,2,9,11,12] [] 5 En31 fun ac32 En33 => ?_
  refine f_o ?_
  refine q_v (x := Instr.build 57 #[(0, .agg (List.toArray (u64s x))), (1, .agg (List.toArray (u64s y))), (2, .agg (List.toArray (u64s ([1, 0, 0, 0] : List UInt64))))]) (v := .agg (List.toArray ((u64s x) ++ ((u64s y) ++ (u64s ([1, 0, 0, 0] : List UInt64)))))) En33 (Go.Dbr.run_built [(0, 4), (4, 4), (8, 4)] [⟨4, u64s (List.replicate 4 0), some (0, .agg (List.toArray (u64s x)), u64s x)⟩, ⟨4, u64s (List.replicate 4 0), some (1, .agg (List.toArray (u64s y)), u64s y)⟩, ⟨4, u64s (List.replicate 4 0), some (2, .agg (List.toArray (u64s ([1, 0, 0, 0] : List UInt64))), u64s ([1, 0, 0, 0] : List UInt64))⟩] (fb_y (u64s_lenh (List.length_replicate)) (u64s_lenh hx) (fb_y (u64s_lenh (List.length_replicate)) (u64s_lenh hy) (fb_y (u64s_lenh (List.length_replicate)) (u64s_lenh (show List.length ([1, 0, 0, 0] : List UInt64) = 4 from rfl)) trivial))) _) fun ac34 En35 => ?_
  refine f_o ?_
  refine m_g 1 0 12 ((u64s x) ++ ((u64s y) ++ (u64s ([1, 0, 0, 0] : List UInt64)))) ((u64s x) ++ ((u64s y) ++ (u64s ([1, 0, 0, 0] : List UInt64)))) [.box bk1 (([.bool z] : List Value) ++ ((u64s x) ++ (u64s y))) 26, .box bk6 ((u64s x) ++ ((u64s y) ++ (u64s ([1, 0, 0, 0] : List UInt64)))) 57] En35 Hv10 rfl (len_app (u64s_lenh hx) (len_app (u64s_lenh hy) (u64s_lenh (show List.length ([1, 0, 0, 0] : List UInt64) = 4 from rfl)))) (by rw [(len_app (u64s_lenh (List.length_replicate)) (len_app (u64s_lenh (List.length_replicate)) (u64s_lenh (List.length_replicate))))]; decide) (one_app (u64s_one _) (one_app (u64s_one _) (u64s_one _))) (store_whole (len_app (u64s_lenh (List.length_replicate)) (len_app (u64s_lenh (List.length_replicate)) (u64s_lenh (List.length_replicate))))) rfl fun ac36 wo37 En38 Hv39 => ?_
  refine f_e ?_
  refine then_normal ?_
  refine wp_ret ?_
  refine d_cell1 (v := .agg (List.toArray ((u64s x) ++ ((u64s y) ++ (u64s ([1, 0, 0, 0] : List UInt64)))))) (t := 2) (T := 57) (ad := ⟨bk6, 0, none⟩) En38 (by kernel_rfl) (by kernel_rfl) (Ev.cellAgg (t := 57) (k := 1) (off := 0) (m := 12) (xs := (u64s x) ++ ((u64s y) ++ (u64s ([1, 0, 0, 0] : List UInt64)))) Hv39 rfl (load_whole (len_app (u64s_lenh hx) (len_app (u64s_lenh hy) (u64s_lenh (show List.length ([1, 0, 0, 0] : List UInt64) = 4 from rfl))))) (len_app (u64s_lenh hx) (len_app (u64s_lenh hy) (u64s_lenh (show List.length ([1, 0, 0, 0] : List UInt64) = 4 from rfl)))) (by kernel_rfl) (by kernel_rfl)) ?_
  have g0 : z = false := by simpa using hc15
  exact ⟨by rw [g0]; first | rfl | kernel_rfl, Hv39.pk []⟩

theorem bkJ_len (t : T3) : (bkJ t).2.1.length = 4 ∧ (bkJ t).2.2.length = 4 := by
  unfold bkJ
  cases t.2.2 == z4 with
  | true => exact ⟨rfl, rfl⟩
  | false => exact ⟨nds_len _ _, nds_len _ _⟩
theorem ret_pz {a b : PZ} (h : a = b) : Ending.returned (.agg (List.toArray (([.bool a.1] : List Value) ++ ((u64s a.2.1) ++ (u64s a.2.2))))) = Ending.returned (.agg (List.toArray (([.bool b.1] : List Value) ++ ((u64s b.2.1) ++ (u64s b.2.2))))) := by rw [h]
theorem ret_t3 {a b : T3} (h : a = b) : Ending.returned (.agg (List.toArray ((u64s a.1) ++ ((u64s a.2.1) ++ (u64s a.2.2))))) = Ending.returned (.agg (List.toArray ((u64s b.1) ++ ((u64s b.2.1) ++ (u64s b.2.2))))) := by rw [h]

theorem dback_go (w : World) (x y z : List UInt64) (hx : List.length x = 4) (hy : List.length y = 4) (hz : List.length z = 4) : Calls Try.prog 31 #[.agg (List.toArray ((u64s x) ++ ((u64s y) ++ (u64s z))))] w fun e w' => e = .returned (.agg (List.toArray (([.bool ((bkJ (x, y, z)).1)] : List Value) ++ ((u64s ((bkJ (x, y, z)).2.1)) ++ (u64s ((bkJ (x, y, z)).2.2)))))) ∧ Ev w [] w' [] := by
 refine d_0 [(0, .agg (List.toArray ((u64s x) ++ ((u64s y) ++ (u64s z)))))] 27 Go.Proofs.Try.func31 Go.Proofs.Try.ntmps31 (Heap.nil _) fun act0 En0 Hv0 => ?_
 refine wp_seq ?_
 refine region_from ?_
 refine f_o ?_
 refine m_m 57 ((u64s x) ++ ((u64s y) ++ (u64s z))) En0 Hv0 fun ac2 wo3 bk1 En4 Hv5 => ?_
 refine f_o ?_
 refine m_z 26 (([.bool false] : List Value) ++ ((u64s (List.replicate 4 0)) ++ (u64s (List.replicate 4 0)))) En4 Hv5 fun ac7 wo8 bk6 En9 Hv10 => ?_
 refine f_e ?_
 refine then_normal ?_
 refine wp_seq ?_
 refine wp_seq ?_
 refine region_from ?_
 refine d_k [1,2,5] [] 1 En9 fun ac11 En12 => ?_
 refine f_o ?_
 refine m_a 0 8 4 (u64s z) En12 Hv10 rfl (by simp [u64s_lenh hx, u64s_lenh hy, u64s_lenh hz, List.drop_append, List.take_append, List.take_of_length_le]) (u64s_lenh hz) fun ac13 En14 => ?_
 refine d_k [1,2,6,7] [] 3 En14 fun ac15 En16 => ?_
 refine f_o ?_
 refine q_v (x := eqOp .eql 24 (.tmp 6) (.tmp 7) (.agg (List.toArray (u64s z))) (.agg (List.toArray (u64s ([0, 0, 0, 0] : List UInt64))))) (v := .bool (z == ([0, 0, 0, 0] : List UInt64))) En16 (Go.Dbr.u64s_eqop (a := (.tmp 6)) (b := (.tmp 7)) (e := 22) (m := 4) (by kernel_rfl) (by kernel_rfl) (by kernel_rfl) (by kernel_rfl) (by kernel_rfl) hz (show List.length ([0, 0, 0, 0] : List UInt64) = 4 from rfl) _) fun ac17 En18 => ?_
 refine f_e ?_
 refine then_normal ?_
 refine cond_at En18 (t := z == ([0, 0, 0, 0] : List UInt64)) (by kernel_rfl) (fun hc19 => ?_) (fun hc19 => ?_)
 ·
  replace hc19 : z = ([0, 0, 0, 0] : List UInt64) := eq_of_beq hc19
  refine wp_seq ?_
  refine region_from ?_
  refine f_o ?_
  refine q_v (x := Instr.build 26 #[(0, .bool true)]) (v := .agg (List.toArray (([.bool true] : List Value) ++ ((u64s (List.replicate 4 0)) ++ (u64s (List.replicate 4 0)))))) En18 (Go.Dbr.run_built [(0, 1), (1, 4), (5, 4)] [⟨1, [.bool false], some (0, .bool true, [.bool true])⟩, ⟨4, u64s (List.replicate 4 0), none⟩, ⟨4, u64s (List.replicate 4 0), none⟩] (fb_y rfl rfl (fb_n (u64s_lenh (List.length_replicate)) (fb_n (u64s_lenh (List.length_replicate)) trivial))) _) fun ac20 En21 => ?_
  refine f_o ?_
  refine m_g 1 0 9 (([.bool true] : List Value) ++ ((u64s (List.replicate 4 0)) ++ (u64s (List.replicate 4 0)))) (([.bool true] : List Value) ++ ((u64s (List.replicate 4 0)) ++ (u64s (List.replicate 4 0)))) [.box bk1 ((u64s x) ++ ((u64s y) ++ (u64s z))) 57, .box bk6 (([.bool true] : List Value) ++ ((u64s (List.replicate 4 0)) ++ (u64s (List.replicate 4 0)))) 26] En21 Hv10 rfl (len_app rfl (len_app (u64s_lenh (List.length_replicate)) (u64s_lenh (List.length_replicate)))) (by rw [(len_app rfl (len_app (u64s_lenh (List.length_replicate)) (u64s_lenh (List.length_replicate))))]; decide) (one_app (one_all (by kernel_rfl)) (one_app (u64s_one _) (u64s_one _))) (store_whole (len_app rfl (len_app (u64s_lenh (List.length_replicate)) (u64s_lenh (List.length_replicate))))) rfl fun ac22 wo23 En24 Hv25 => ?_
  refine f_e ?_
  refine then_normal ?_
  refine wp_ret ?_
  refine then_ret ?_
  refine d_cell1 (v := .agg (List.toArray (([.bool true] : List Value) ++ ((u64s (List.replicate 4 0)) ++ (u64s (List.replicate 4 0)))))) (t := 2) (T := 26) (ad := ⟨bk6, 0, none⟩) En24 (by kernel_rfl) (by kernel_rfl) (Ev.cellAgg (t := 26) (k := 1) (off := 0) (m := 9) (xs := ([.bool true] : List Value) ++ ((u64s (List.replicate 4 0)) ++ (u64s (List.replicate 4 0)))) Hv25 rfl (load_whole (len_app rfl (len_app (u64s_lenh (List.length_replicate)) (u64s_lenh (List.length_replicate))))) (len_app rfl (len_app (u64s_lenh (List.length_replicate)) (u64s_lenh (List.length_replicate)))) (by kernel_rfl) (by kernel_rfl)) ?_
  have gz : (z == z4) = true := beq_t hc19
  exact ⟨ret_pz (a := (true, z4, z4)) (b := bkJ (x, y, z)) (by simp only [bkJ, gz, Bool.cond_true]; rfl), Hv25.pk []⟩
 ·
  replace hc19 : ¬ (z = ([0, 0, 0, 0] : List UInt64)) := ne_of_beq_false hc19
  refine wp_skip ?_
  refine then_normal ?_
  refine wp_seq ?_
  refine region_from ?_
  refine d_k [1,2,10] [] 1 En18 fun ac26 En27 => ?_
  refine f_o ?_
  refine m_a 0 8 4 (u64s z) En27 Hv10 rfl (by simp [u64s_lenh hx, u64s_lenh hy, u64s_lenh hz, List.drop_append, List.take_append, List.take_of_length_le]) (u64s_lenh hz) fun ac28 En29 => ?_
  refine f_o ?_
  refine c_p En29 Hv10 (rinv_go _ 2 h2f hR2 z hz) fun ac34 wo31 En35 Hv36 => ?_
  refine f_o ?_
  refine m_z 24 (u64s (List.replicate 4 0)) En35 Hv36 fun ac38 wo39 bk37 En40 Hv41 => ?_
  refine f_o ?_
  refine m_g 2 0 4 (u64s (nd (powM 2 (nv z) (mF 2 - 2)))) (u64s (nd (powM 2 (nv z) (mF 2 - 2)))) [.box bk1 ((u64s x) ++ ((u64s y) ++ (u64s z))) 57, .box bk6 (([.bool false] : List Value) ++ ((u64s (List.replicate 4 0)) ++ (u64s (List.replicate 4 0)))) 26, .box bk37 (u64s (nd (powM 2 (nv z) (mF 2 - 2)))) 24] En40 Hv41 rfl (u64s_lenh (nds_len _ _)) (by rw [(u64s_lenh (List.length_replicate))]; decide) (u64s_one _) (store_whole (u64s_lenh (List.length_replicate))) rfl fun ac42 wo43 En44 Hv45 => ?_
  refine f_e ?_
  obtain ⟨ii, h_ii⟩ : ∃ q : List UInt64, q = nd (powM 2 (nv z) (mF 2 - 2)) := ⟨_, rfl⟩
  rw [← h_ii] at Hv45
  have n_ii : List.length ii = 4 := by rw [h_ii]; exact nds_len _ _
  refine then_normal ?_
  refine wp_seq ?_
  refine region_from ?_
  refine f_o ?_
  refine m_a 2 0 4 (u64s ii) En44 Hv45 rfl (load_whole (u64s_lenh n_ii)) (u64s_lenh n_ii) fun ac46 En47 => ?_
  refine f_o ?_
  refine m_a 2 0 4 (u64s ii) En47 Hv45 rfl (load_whole (u64s_lenh n_ii)) (u64s_lenh n_ii) fun ac48 En49 => ?_
  refine f_o ?_
  refine c_p En49 Hv45 (dmul_go _ ii ii n_ii n_ii) fun ac54 wo51 En55 Hv56 => ?_
  refine f_o ?_
  refine m_z 24 (u64s (List.replicate 4 0)) En55 Hv56 fun ac58 wo59 bk57 En60 Hv61 => ?_
  refine f_o ?_
  refine m_g 3 0 4 (u64s (nd (mulM 2 (nv ii) (nv ii)))) (u64s (nd (mulM 2 (nv ii) (nv ii)))) [.box bk1 ((u64s x) ++ ((u64s y) ++ (u64s z))) 57, .box bk6 (([.bool false] : List Value) ++ ((u64s (List.replicate 4 0)) ++ (u64s (List.replicate 4 0)))) 26, .box bk37 (u64s ii) 24, .box bk57 (u64s (nd (mulM 2 (nv ii) (nv ii)))) 24] En60 Hv61 rfl (u64s_lenh (nds_len _ _)) (by rw [(u64s_lenh (List.length_replicate))]; decide) (u64s_one _) (store_whole (u64s_lenh (List.length_replicate))) rfl fun ac62 wo63 En64 Hv65 => ?_
  refine f_e ?_
  obtain ⟨jj, h_jj⟩ : ∃ q : List UInt64, q = nd (mulM 2 (nv ii) (nv ii)) := ⟨_, rfl⟩
  rw [← h_jj] at Hv65
  have n_jj : List.length jj = 4 := by rw [h_jj]; exact nds_len _ _
  refine then_normal ?_
  refine wp_seq ?_
  refine r_c (fun ac wo => Env ac 27 [(1, pt bk1), (2, pt bk6), (3, pt bk37), (4, pt bk57)] ∧ Ev w [] wo [.box bk1 ((u64s x) ++ ((u64s y) ++ (u64s z))) 57, .box bk6 (([.bool false] : List Value) ++ ((u64s (nd (mulM 2 (nv x) (nv jj)))) ++ (u64s (nd (mulM 2 (nv y) (nv (nd (mulM 2 (nv jj) (nv ii))))))))) 26, .box bk37 (u64s ii) 24, .box bk57 (u64s jj) 24]) ?_ ?_
  ·
   refine s_g0 [(1, pt bk1), (2, pt bk6), (3, pt bk37), (4, pt bk57)] [0,1,2,3,4,5,6,7,8,9,10] [(16, pt bk1), (17, .agg (List.toArray (u64s x))), (18, .agg (List.toArray (u64s jj))), (19, .agg (List.toArray (u64s (nd (mulM 2 (nv x) (nv jj)))))), (20, .pointer (some ⟨bk1, 4, none⟩)), (21, .agg (List.toArray (u64s y))), (22, .agg (List.toArray (u64s jj))), (23, .agg (List.toArray (u64s ii))), (24, .agg (List.toArray (u64s (nd (mulM 2 (nv jj) (nv ii)))))), (25, .agg (List.toArray (u64s (nd (mulM 2 (nv y) (nv (nd (mulM 2 (nv jj) (nv ii))))))))), (26, .agg (List.toArray (([.bool false] : List Value) ++ ((u64s (nd (mulM 2 (nv x) (nv jj)))) ++ (u64s (nd (mulM 2 (nv y) (nv (nd (mulM 2 (nv jj) (nv ii)))))))))))] 1 [(1, pt bk1), (2, pt bk6), (3, pt bk37), (4, pt bk57), (26, .agg (List.toArray (([.bool false] : List Value) ++ ((u64s (nd (mulM 2 (nv x) (nv jj)))) ++ (u64s (nd (mulM 2 (nv y) (nv (nd (mulM 2 (nv jj) (nv ii)))))))))))] (En64.sb) (Hv65.trans (Ev.drew Hv65.heap)) ?_ fun ac125 wo126 En127 Hv128 => ?_
   ·
    refine s_p [] ?_
    refine s_a 0 0 4 (u64s x) rfl (by simp [u64s_lenh hx, u64s_lenh hy, u64s_lenh hz, List.drop_append, List.take_append]) (u64s_lenh hx) ?_
    refine s_a 3 0 4 (u64s jj) rfl (load_whole (u64s_lenh n_jj)) (u64s_lenh n_jj) ?_
    refine s_f (fun _ => dmul_go _ x jj hx n_jj) ?_
    refine s_p [] ?_
    refine s_a 0 4 4 (u64s y) rfl (by simp [u64s_lenh hx, u64s_lenh hy, u64s_lenh hz, List.drop_append, List.take_append]) (u64s_lenh hy) ?_
    refine s_a 3 0 4 (u64s jj) rfl (load_whole (u64s_lenh n_jj)) (u64s_lenh n_jj) ?_
    refine s_a 2 0 4 (u64s ii) rfl (load_whole (u64s_lenh n_ii)) (u64s_lenh n_ii) ?_
    refine s_f (fun _ => dmul_go _ jj ii n_jj n_ii) ?_
    refine s_f (fun _ => dmul_go _ y (nd (mulM 2 (nv jj) (nv ii))) hy (nds_len _ _)) ?_
    refine s_c (fun Mx118 ac119 wo120 En121 Hv122 => ?_) ?_
    ·
     refine q_v (x := Instr.build 26 #[(1, .agg (List.toArray (u64s (nd (mulM 2 (nv x) (nv jj)))))), (2, .agg (List.toArray (u64s (nd (mulM 2 (nv y) (nv (nd (mulM 2 (nv jj) (nv ii)))))))))]) (v := .agg (List.toArray (([.bool false] : List Value) ++ ((u64s (nd (mulM 2 (nv x) (nv jj)))) ++ (u64s (nd (mulM 2 (nv y) (nv (nd (mulM 2 (nv jj) (nv ii))))))))))) En121 (Go.Dbr.run_built [(0, 1), (1, 4), (5, 4)] [⟨1, [.bool false], none⟩, ⟨4, u64s (List.replicate 4 0), some (1, .agg (List.toArray (u64s (nd (mulM 2 (nv x) (nv jj))))), u64s (nd (mulM 2 (nv x) (nv jj))))⟩, ⟨4, u64s (List.replicate 4 0), some (2, .agg (List.toArray (u64s (nd (mulM 2 (nv y) (nv (nd (mulM 2 (nv jj) (nv ii)))))))), u64s (nd (mulM 2 (nv y) (nv (nd (mulM 2 (nv jj) (nv ii)))))))⟩] (fb_n rfl (fb_y (u64s_lenh (List.length_replicate)) (u64s_lenh (nds_len _ _)) (fb_y (u64s_lenh (List.length_replicate)) (u64s_lenh (nds_len _ _)) trivial))) _) fun ac123 En124 => ?_
     exact s_e En124 Hv122
    exact s_n
   refine q_u 11 ?_
   refine m_g 1 0 9 (([.bool false] : List Value) ++ ((u64s (nd (mulM 2 (nv x) (nv jj)))) ++ (u64s (nd (mulM 2 (nv y) (nv (nd (mulM 2 (nv jj) (nv ii))))))))) (([.bool false] : List Value) ++ ((u64s (nd (mulM 2 (nv x) (nv jj)))) ++ (u64s (nd (mulM 2 (nv y) (nv (nd (mulM 2 (nv jj) (nv ii))))))))) [.box bk1 ((u64s x) ++ ((u64s y) ++ (u64s z))) 57, .box bk6 (([.bool false] : List Value) ++ ((u64s (nd (mulM 2 (nv x) (nv jj)))) ++ (u64s (nd (mulM 2 (nv y) (nv (nd (mulM 2 (nv jj) (nv ii))))))))) 26, .box bk37 (u64s ii) 24, .box bk57 (u64s jj) 24] En127 Hv128 rfl (len_app rfl (len_app (u64s_lenh (nds_len _ _)) (u64s_lenh (nds_len _ _)))) (by rw [(len_app rfl (len_app (u64s_lenh (List.length_replicate)) (u64s_lenh (List.length_replicate))))]; decide) (one_app (one_all (by kernel_rfl)) (one_app (u64s_one _) (u64s_one _))) (store_whole (len_app rfl (len_app (u64s_lenh (List.length_replicate)) (u64s_lenh (List.length_replicate))))) rfl fun ac133 wo134 En135 Hv136 => ?_
   exact a_e ⟨En135.sb, Hv136.pk [0, 1, 2, 3]⟩
  rintro ac137 wo138 ⟨En139, Hv140⟩
  refine then_normal ?_
  refine wp_ret ?_
  refine d_cell1 (v := .agg (List.toArray (([.bool false] : List Value) ++ ((u64s (nd (mulM 2 (nv x) (nv jj)))) ++ (u64s (nd (mulM 2 (nv y) (nv (nd (mulM 2 (nv jj) (nv ii))))))))))) (t := 2) (T := 26) (ad := ⟨bk6, 0, none⟩) En139 (by kernel_rfl) (by kernel_rfl) (Ev.cellAgg (t := 26) (k := 1) (off := 0) (m := 9) (xs := ([.bool false] : List Value) ++ ((u64s (nd (mulM 2 (nv x) (nv jj)))) ++ (u64s (nd (mulM 2 (nv y) (nv (nd (mulM 2 (nv jj) (nv ii))))))))) Hv140 rfl (load_whole (len_app rfl (len_app (u64s_lenh (nds_len _ _)) (u64s_lenh (nds_len _ _))))) (len_app rfl (len_app (u64s_lenh (nds_len _ _)) (u64s_lenh (nds_len _ _)))) (by kernel_rfl) (by kernel_rfl)) ?_
  have gz : (z == z4) = false := beq_f hc19
  subst h_jj h_ii
  exact ⟨ret_pz (a := (false, nd (mulM 2 (nv x) (nv (nd (mulM 2 (nv (nd (powM 2 (nv z) (mF 2 - 2)))) (nv (nd (powM 2 (nv z) (mF 2 - 2)))))))), nd (mulM 2 (nv y) (nv (nd (mulM 2 (nv (nd (mulM 2 (nv (nd (powM 2 (nv z) (mF 2 - 2)))) (nv (nd (powM 2 (nv z) (mF 2 - 2))))))) (nv (nd (powM 2 (nv z) (mF 2 - 2)))))))))) (b := bkJ (x, y, z)) (by simp only [bkJ, gz, Bool.cond_false, ivN, nv_m2, nv_pow2]), Hv140.pk []⟩

theorem dtwice_go (w : World) (x y z : List UInt64) (hx : List.length x = 4) (hy : List.length y = 4) (hz : List.length z = 4) : Calls Try.prog 61 #[.agg (List.toArray ((u64s x) ++ ((u64s y) ++ (u64s z))))] w fun e w' => e = .returned (.agg (List.toArray ((u64s ((jtL (x, y, z)).1)) ++ ((u64s ((jtL (x, y, z)).2.1)) ++ (u64s ((jtL (x, y, z)).2.2)))))) ∧ Ev w [] w' [] := by
 refine d_0 [(0, .agg (List.toArray ((u64s x) ++ ((u64s y) ++ (u64s z)))))] 77 Go.Proofs.Try.func61 Go.Proofs.Try.ntmps61 (Heap.nil _) fun act0 En0 Hv0 => ?_
 refine wp_seq ?_
 refine region_from ?_
 refine f_o ?_
 refine m_m 57 ((u64s x) ++ ((u64s y) ++ (u64s z))) En0 Hv0 fun ac2 wo3 bk1 En4 Hv5 => ?_
 refine f_o ?_
 refine m_z 57 ((u64s (List.replicate 4 0)) ++ ((u64s (List.replicate 4 0)) ++ (u64s (List.replicate 4 0)))) En4 Hv5 fun ac7 wo8 bk6 En9 Hv10 => ?_
 refine f_e ?_
 refine then_normal ?_
 refine wp_seq ?_
 refine wp_seq ?_
 refine region_from ?_
 refine d_k [1,2,9] [] 1 En9 fun ac11 En12 => ?_
 refine f_o ?_
 refine m_a 0 8 4 (u64s z) En12 Hv10 rfl (by simp [u64s_lenh hx, u64s_lenh hy, u64s_lenh hz, List.drop_append, List.take_append, List.take_of_length_le]) (u64s_lenh hz) fun ac13 En14 => ?_
 refine d_k [1,2,10,11] [] 3 En14 fun ac15 En16 => ?_
 refine f_o ?_
 refine q_v (x := eqOp .eql 24 (.tmp 10) (.tmp 11) (.agg (List.toArray (u64s z))) (.agg (List.toArray (u64s ([0, 0, 0, 0] : List UInt64))))) (v := .bool (z == ([0, 0, 0, 0] : List UInt64))) En16 (Go.Dbr.u64s_eqop (a := (.tmp 10)) (b := (.tmp 11)) (e := 22) (m := 4) (by kernel_rfl) (by kernel_rfl) (by kernel_rfl) (by kernel_rfl) (by kernel_rfl) hz (show List.length ([0, 0, 0, 0] : List UInt64) = 4 from rfl) _) fun ac17 En18 => ?_
 refine d_k [1,2,13] [] 5 En18 fun ac19 En20 => ?_
 rcases Bool.eq_false_or_eq_true (z == ([0, 0, 0, 0] : List UInt64)) with hb21 | hb21
 ·
  have En22 := En20.fx (t := 13) (congrArg Value.bool hb21)
  have hp23 : z = ([0, 0, 0, 0] : List UInt64) := eq_of_beq hb21
  refine d_e [1,2,18] [] En22 fun ac24 En25 => ?_
  refine then_normal ?_
  refine c_t En25 ?_
  refine wp_seq ?_
  refine region_from ?_
  refine d_k [1,2,19,20] [] 2 En25 fun ac26 En27 => ?_
  refine f_o ?_
  refine q_v (x := Instr.build 57 #[(0, .agg (List.toArray (u64s ([1, 0, 0, 0] : List UInt64)))), (1, .agg (List.toArray (u64s ([1, 0, 0, 0] : List UInt64))))]) (v := .agg (List.toArray ((u64s ([1, 0, 0, 0] : List UInt64)) ++ ((u64s ([1, 0, 0, 0] : List UInt64)) ++ (u64s (List.replicate 4 0)))))) En27 (Go.Dbr.run_built [(0, 4), (4, 4), (8, 4)] [⟨4, u64s (List.replicate 4 0), some (0, .agg (List.toArray (u64s ([1, 0, 0, 0] : List UInt64))), u64s ([1, 0, 0, 0] : List UInt64))⟩, ⟨4, u64s (List.replicate 4 0), some (1, .agg (List.toArray (u64s ([1, 0, 0, 0] : List UInt64))), u64s ([1, 0, 0, 0] : List UInt64))⟩, ⟨4, u64s (List.replicate 4 0), none⟩] (fb_y (u64s_lenh (List.length_replicate)) (u64s_lenh (show List.length ([1, 0, 0, 0] : List UInt64) = 4 from rfl)) (fb_y (u64s_lenh (List.length_replicate)) (u64s_lenh (show List.length ([1, 0, 0, 0] : List UInt64) = 4 from rfl)) (fb_n (u64s_lenh (List.length_replicate)) trivial))) _) fun ac28 En29 => ?_
  refine f_o ?_
  refine m_g 1 0 12 ((u64s ([1, 0, 0, 0] : List UInt64)) ++ ((u64s ([1, 0, 0, 0] : List UInt64)) ++ (u64s (List.replicate 4 0)))) ((u64s ([1, 0, 0, 0] : List UInt64)) ++ ((u64s ([1, 0, 0, 0] : List UInt64)) ++ (u64s (List.replicate 4 0)))) [.box bk1 ((u64s x) ++ ((u64s y) ++ (u64s z))) 57, .box bk6 ((u64s ([1, 0, 0, 0] : List UInt64)) ++ ((u64s ([1, 0, 0, 0] : List UInt64)) ++ (u64s (List.replicate 4 0)))) 57] En29 Hv10 rfl (len_app (u64s_lenh (show List.length ([1, 0, 0, 0] : List UInt64) = 4 from rfl)) (len_app (u64s_lenh (show List.length ([1, 0, 0, 0] : List UInt64) = 4 from rfl)) (u64s_lenh (List.length_replicate)))) (by rw [(len_app (u64s_lenh (List.length_replicate)) (len_app (u64s_lenh (List.length_replicate)) (u64s_lenh (List.length_replicate))))]; decide) (one_app (u64s_one _) (one_app (u64s_one _) (u64s_one _))) (store_whole (len_app (u64s_lenh (List.length_replicate)) (len_app (u64s_lenh (List.length_replicate)) (u64s_lenh (List.length_replicate))))) rfl fun ac30 wo31 En32 Hv33 => ?_
  refine f_e ?_
  refine then_normal ?_
  refine wp_ret ?_
  refine then_ret ?_
  refine d_cell1 (v := .agg (List.toArray ((u64s ([1, 0, 0, 0] : List UInt64)) ++ ((u64s ([1, 0, 0, 0] : List UInt64)) ++ (u64s (List.replicate 4 0)))))) (t := 2) (T := 57) (ad := ⟨bk6, 0, none⟩) En32 (by kernel_rfl) (by kernel_rfl) (Ev.cellAgg (t := 57) (k := 1) (off := 0) (m := 12) (xs := (u64s ([1, 0, 0, 0] : List UInt64)) ++ ((u64s ([1, 0, 0, 0] : List UInt64)) ++ (u64s (List.replicate 4 0)))) Hv33 rfl (load_whole (len_app (u64s_lenh (show List.length ([1, 0, 0, 0] : List UInt64) = 4 from rfl)) (len_app (u64s_lenh (show List.length ([1, 0, 0, 0] : List UInt64) = 4 from rfl)) (u64s_lenh (List.length_replicate))))) (len_app (u64s_lenh (show List.length ([1, 0, 0, 0] : List UInt64) = 4 from rfl)) (len_app (u64s_lenh (show List.length ([1, 0, 0, 0] : List UInt64) = 4 from rfl)) (u64s_lenh (List.length_replicate)))) (by kernel_rfl) (by kernel_rfl)) ?_
  have gz : (z == z4) = true := beq_t hp23
  exact ⟨ret_t3 (a := one3) (b := jtL (x, y, z)) (by simp only [jtL, gz, Bool.or_true, Bool.true_or, Bool.cond_true]), Hv33.pk []⟩
 ·
  have En34 := En20.fx (t := 13) (congrArg Value.bool hb21)
  have hp35 : ¬ (z = ([0, 0, 0, 0] : List UInt64)) := ne_of_beq_false hb21
  refine d_k [1,2,13,14] [] 6 En34 fun ac36 En37 => ?_
  refine f_o ?_
  refine m_a 0 4 4 (u64s y) En37 Hv10 rfl (by simp [u64s_lenh hx, u64s_lenh hy, u64s_lenh hz, List.drop_append, List.take_append]) (u64s_lenh hy) fun ac38 En39 => ?_
  refine d_k [1,2,13,15,16] [] 8 En39 fun ac40 En41 => ?_
  refine f_o ?_
  refine q_v (x := eqOp .eql 24 (.tmp 15) (.tmp 16) (.agg (List.toArray (u64s y))) (.agg (List.toArray (u64s ([0, 0, 0, 0] : List UInt64))))) (v := .bool (y == ([0, 0, 0, 0] : List UInt64))) En41 (Go.Dbr.u64s_eqop (a := (.tmp 15)) (b := (.tmp 16)) (e := 22) (m := 4) (by kernel_rfl) (by kernel_rfl) (by kernel_rfl) (by kernel_rfl) (by kernel_rfl) hy (show List.length ([0, 0, 0, 0] : List UInt64) = 4 from rfl) _) fun ac42 En43 => ?_
  refine d_e [1,2,18] [] En43 fun ac44 En45 => ?_
  refine then_normal ?_
  refine cond_at En45 (t := y == ([0, 0, 0, 0] : List UInt64)) (by kernel_rfl) (fun hc46 => ?_) (fun hc46 => ?_)
  ·
   replace hc46 : y = ([0, 0, 0, 0] : List UInt64) := eq_of_beq hc46
   refine wp_seq ?_
   refine region_from ?_
   refine d_k [1,2,19,20] [] 2 En45 fun ac47 En48 => ?_
   refine f_o ?_
   refine q_v (x := Instr.build 57 #[(0, .agg (List.toArray (u64s ([1, 0, 0, 0] : List UInt64)))), (1, .agg (List.toArray (u64s ([1, 0, 0, 0] : List UInt64))))]) (v := .agg (List.toArray ((u64s ([1, 0, 0, 0] : List UInt64)) ++ ((u64s ([1, 0, 0, 0] : List UInt64)) ++ (u64s (List.replicate 4 0)))))) En48 (Go.Dbr.run_built [(0, 4), (4, 4), (8, 4)] [⟨4, u64s (List.replicate 4 0), some (0, .agg (List.toArray (u64s ([1, 0, 0, 0] : List UInt64))), u64s ([1, 0, 0, 0] : List UInt64))⟩, ⟨4, u64s (List.replicate 4 0), some (1, .agg (List.toArray (u64s ([1, 0, 0, 0] : List UInt64))), u64s ([1, 0, 0, 0] : List UInt64))⟩, ⟨4, u64s (List.replicate 4 0), none⟩] (fb_y (u64s_lenh (List.length_replicate)) (u64s_lenh (show List.length ([1, 0, 0, 0] : List UInt64) = 4 from rfl)) (fb_y (u64s_lenh (List.length_replicate)) (u64s_lenh (show List.length ([1, 0, 0, 0] : List UInt64) = 4 from rfl)) (fb_n (u64s_lenh (List.length_replicate)) trivial))) _) fun ac49 En50 => ?_
   refine f_o ?_
   refine m_g 1 0 12 ((u64s ([1, 0, 0, 0] : List UInt64)) ++ ((u64s ([1, 0, 0, 0] : List UInt64)) ++ (u64s (List.replicate 4 0)))) ((u64s ([1, 0, 0, 0] : List UInt64)) ++ ((u64s ([1, 0, 0, 0] : List UInt64)) ++ (u64s (List.replicate 4 0)))) [.box bk1 ((u64s x) ++ ((u64s y) ++ (u64s z))) 57, .box bk6 ((u64s ([1, 0, 0, 0] : List UInt64)) ++ ((u64s ([1, 0, 0, 0] : List UInt64)) ++ (u64s (List.replicate 4 0)))) 57] En50 Hv10 rfl (len_app (u64s_lenh (show List.length ([1, 0, 0, 0] : List UInt64) = 4 from rfl)) (len_app (u64s_lenh (show List.length ([1, 0, 0, 0] : List UInt64) = 4 from rfl)) (u64s_lenh (List.length_replicate)))) (by rw [(len_app (u64s_lenh (List.length_replicate)) (len_app (u64s_lenh (List.length_replicate)) (u64s_lenh (List.length_replicate))))]; decide) (one_app (u64s_one _) (one_app (u64s_one _) (u64s_one _))) (store_whole (len_app (u64s_lenh (List.length_replicate)) (len_app (u64s_lenh (List.length_replicate)) (u64s_lenh (List.length_replicate))))) rfl fun ac51 wo52 En53 Hv54 => ?_
   refine f_e ?_
   refine then_normal ?_
   refine wp_ret ?_
   refine then_ret ?_
   refine d_cell1 (v := .agg (List.toArray ((u64s ([1, 0, 0, 0] : List UInt64)) ++ ((u64s ([1, 0, 0, 0] : List UInt64)) ++ (u64s (List.replicate 4 0)))))) (t := 2) (T := 57) (ad := ⟨bk6, 0, none⟩) En53 (by kernel_rfl) (by kernel_rfl) (Ev.cellAgg (t := 57) (k := 1) (off := 0) (m := 12) (xs := (u64s ([1, 0, 0, 0] : List UInt64)) ++ ((u64s ([1, 0, 0, 0] : List UInt64)) ++ (u64s (List.replicate 4 0)))) Hv54 rfl (load_whole (len_app (u64s_lenh (show List.length ([1, 0, 0, 0] : List UInt64) = 4 from rfl)) (len_app (u64s_lenh (show List.length ([1, 0, 0, 0] : List UInt64) = 4 from rfl)) (u64s_lenh (List.length_replicate))))) (len_app (u64s_lenh (show List.length ([1, 0, 0, 0] : List UInt64) = 4 from rfl)) (len_app (u64s_lenh (show List.length ([1, 0, 0, 0] : List UInt64) = 4 from rfl)) (u64s_lenh (List.length_replicate)))) (by kernel_rfl) (by kernel_rfl)) ?_
   have gz : (z == z4) = false := beq_f hp35
   have gy : (y == z4) = true := beq_t hc46
   exact ⟨ret_t3 (a := one3) (b := jtL (x, y, z)) (by simp only [jtL, gz, gy, Bool.or_true, Bool.true_or, Bool.cond_true]), Hv54.pk []⟩
  ·
   replace hc46 : ¬ (y = ([0, 0, 0, 0] : List UInt64)) := ne_of_beq_false hc46
   refine wp_skip ?_
   refine then_normal ?_
   refine wp_seq ?_
   refine region_from ?_
   refine d_k [1,2,22] [] 1 En45 fun ac55 En56 => ?_
   refine f_o ?_
   refine m_a 0 8 4 (u64s z) En56 Hv10 rfl (by simp [u64s_lenh hx, u64s_lenh hy, u64s_lenh hz, List.drop_append, List.take_append, List.take_of_length_le]) (u64s_lenh hz) fun ac57 En58 => ?_
   refine d_k [1,2,23,24] [] 3 En58 fun ac59 En60 => ?_
   refine f_o ?_
   refine m_a 0 8 4 (u64s z) En60 Hv10 rfl (by simp [u64s_lenh hx, u64s_lenh hy, u64s_lenh hz, List.drop_append, List.take_append, List.take_of_length_le]) (u64s_lenh hz) fun ac61 En62 => ?_
   refine f_o ?_
   refine c_p En62 Hv10 (dmul_go _ z z hz hz) fun ac67 wo64 En68 Hv69 => ?_
   refine f_o ?_
   refine m_z 24 (u64s (List.replicate 4 0)) En68 Hv69 fun ac71 wo72 bk70 En73 Hv74 => ?_
   refine f_o ?_
   refine m_g 2 0 4 (u64s (nd (mulM 2 (nv z) (nv z)))) (u64s (nd (mulM 2 (nv z) (nv z)))) [.box bk1 ((u64s x) ++ ((u64s y) ++ (u64s z))) 57, .box bk6 ((u64s (List.replicate 4 0)) ++ ((u64s (List.replicate 4 0)) ++ (u64s (List.replicate 4 0)))) 57, .box bk70 (u64s (nd (mulM 2 (nv z) (nv z)))) 24] En73 Hv74 rfl (u64s_lenh (nds_len _ _)) (by rw [(u64s_lenh (List.length_replicate))]; decide) (u64s_one _) (store_whole (u64s_lenh (List.length_replicate))) rfl fun ac75 wo76 En77 Hv78 => ?_
   refine f_e ?_
   obtain ⟨zz, h_zz⟩ : ∃ q : List UInt64, q = nd (mulM 2 (nv z) (nv z)) := ⟨_, rfl⟩
   rw [← h_zz] at Hv78
   have n_zz : List.length zz = 4 := by rw [h_zz]; exact nds_len _ _
   refine then_normal ?_
   refine wp_seq ?_
   refine r_c (fun ac wo => ∃ (bk139 : Nat), Env ac 77 [(1, pt bk1), (2, pt bk6), (3, pt bk70), (4, pt bk139)] ∧ Ev w [] wo [.box bk1 ((u64s x) ++ ((u64s y) ++ (u64s z))) 57, .box bk6 ((u64s (List.replicate 4 0)) ++ ((u64s (List.replicate 4 0)) ++ (u64s (List.replicate 4 0)))) 57, .box bk70 (u64s zz) 24, .box bk139 (u64s (nd (mulM 2 (nv ([3, 0, 0, 0] : List UInt64)) (nv (nd (mulM 2 (nv (nd (subM 2 (nv x) (nv zz)))) (nv (nd (addM 2 (nv x) (nv zz)))))))))) 24]) ?_ ?_
   ·
    refine s_g1 [(1, pt bk1), (2, pt bk6), (3, pt bk70)] [0,1,2,3,4,5,6,7,8,9,10] [(27, .agg (List.toArray (u64s ([3, 0, 0, 0] : List UInt64)))), (28, pt bk1), (29, .agg (List.toArray (u64s x))), (30, .agg (List.toArray (u64s zz))), (31, .agg (List.toArray (u64s (nd (subM 2 (nv x) (nv zz)))))), (32, pt bk1), (33, .agg (List.toArray (u64s x))), (34, .agg (List.toArray (u64s zz))), (35, .agg (List.toArray (u64s (nd (addM 2 (nv x) (nv zz)))))), (36, .agg (List.toArray (u64s (nd (mulM 2 (nv (nd (subM 2 (nv x) (nv zz)))) (nv (nd (addM 2 (nv x) (nv zz))))))))), (37, .agg (List.toArray (u64s (nd (mulM 2 (nv ([3, 0, 0, 0] : List UInt64)) (nv (nd (mulM 2 (nv (nd (subM 2 (nv x) (nv zz)))) (nv (nd (addM 2 (nv x) (nv zz))))))))))))] 1 [(1, pt bk1), (2, pt bk6), (3, pt bk70), (37, .agg (List.toArray (u64s (nd (mulM 2 (nv ([3, 0, 0, 0] : List UInt64)) (nv (nd (mulM 2 (nv (nd (subM 2 (nv x) (nv zz)))) (nv (nd (addM 2 (nv x) (nv zz))))))))))))] 11 (u64s (List.replicate 4 0)) (En77.sb) (Hv78.trans (Ev.drew Hv78.heap)) ?_ fun ac135 wo136 bk139 En137 Hv138 => ?_
    ·
     refine s_p [] ?_
     refine s_p [] ?_
     refine s_a 0 0 4 (u64s x) rfl (by simp [u64s_lenh hx, u64s_lenh hy, u64s_lenh hz, List.drop_append, List.take_append]) (u64s_lenh hx) ?_
     refine s_a 2 0 4 (u64s zz) rfl (load_whole (u64s_lenh n_zz)) (u64s_lenh n_zz) ?_
     refine s_f (fun _ => dsub_go _ x zz hx n_zz) ?_
     refine s_p [] ?_
     refine s_a 0 0 4 (u64s x) rfl (by simp [u64s_lenh hx, u64s_lenh hy, u64s_lenh hz, List.drop_append, List.take_append]) (u64s_lenh hx) ?_
     refine s_a 2 0 4 (u64s zz) rfl (load_whole (u64s_lenh n_zz)) (u64s_lenh n_zz) ?_
     refine s_f (fun _ => dadd_go _ x zz hx n_zz) ?_
     refine s_f (fun _ => dmul_go _ (nd (subM 2 (nv x) (nv zz))) (nd (addM 2 (nv x) (nv zz))) (nds_len _ _) (nds_len _ _)) ?_
     refine s_f (fun _ => dmul_go _ ([3, 0, 0, 0] : List UInt64) (nd (mulM 2 (nv (nd (subM 2 (nv x) (nv zz)))) (nv (nd (addM 2 (nv x) (nv zz)))))) (show List.length ([3, 0, 0, 0] : List UInt64) = 4 from rfl) (nds_len _ _)) ?_
     exact s_n
    refine q_u 12 ?_
    refine m_g 3 0 4 (u64s (nd (mulM 2 (nv ([3, 0, 0, 0] : List UInt64)) (nv (nd (mulM 2 (nv (nd (subM 2 (nv x) (nv zz)))) (nv (nd (addM 2 (nv x) (nv zz)))))))))) (u64s (nd (mulM 2 (nv ([3, 0, 0, 0] : List UInt64)) (nv (nd (mulM 2 (nv (nd (subM 2 (nv x) (nv zz)))) (nv (nd (addM 2 (nv x) (nv zz)))))))))) [.box bk1 ((u64s x) ++ ((u64s y) ++ (u64s z))) 57, .box bk6 ((u64s (List.replicate 4 0)) ++ ((u64s (List.replicate 4 0)) ++ (u64s (List.replicate 4 0)))) 57, .box bk70 (u64s zz) 24, .box bk139 (u64s (nd (mulM 2 (nv ([3, 0, 0, 0] : List UInt64)) (nv (nd (mulM 2 (nv (nd (subM 2 (nv x) (nv zz)))) (nv (nd (addM 2 (nv x) (nv zz)))))))))) 24] En137 Hv138 rfl (u64s_lenh (nds_len _ _)) (by rw [(u64s_lenh (List.length_replicate))]; decide) (u64s_one _) (store_whole (u64s_lenh (List.length_replicate))) rfl fun ac144 wo145 En146 Hv147 => ?_
    exact a_e ⟨bk139, En146.sb, Hv147.pk [0, 1, 2, 3]⟩
   rintro ac148 wo149 ⟨bk139, En150, Hv151⟩
   obtain ⟨mm, h_mm⟩ : ∃ q : List UInt64, q = nd (mulM 2 (nv ([3, 0, 0, 0] : List UInt64)) (nv (nd (mulM 2 (nv (nd (subM 2 (nv x) (nv zz)))) (nv (nd (addM 2 (nv x) (nv zz)))))))) := ⟨_, rfl⟩
   rw [← h_mm] at Hv151
   have n_mm : List.length mm = 4 := by rw [h_mm]; exact nds_len _ _
   refine then_normal ?_
   refine wp_seq ?_
   refine region_from ?_
   refine d_k [1,2,3,4,38] [] 1 En150 fun ac152 En153 => ?_
   refine f_o ?_
   refine m_a 0 4 4 (u64s y) En153 Hv151 rfl (by simp [u64s_lenh hx, u64s_lenh hy, u64s_lenh hz, List.drop_append, List.take_append]) (u64s_lenh hy) fun ac154 En155 => ?_
   refine d_k [1,2,3,4,39,40] [] 3 En155 fun ac156 En157 => ?_
   refine f_o ?_
   refine m_a 0 4 4 (u64s y) En157 Hv151 rfl (by simp [u64s_lenh hx, u64s_lenh hy, u64s_lenh hz, List.drop_append, List.take_append]) (u64s_lenh hy) fun ac158 En159 => ?_
   refine f_o ?_
   refine c_p En159 Hv151 (dmul_go _ y y hy hy) fun ac164 wo161 En165 Hv166 => ?_
   refine f_o ?_
   refine m_z 24 (u64s (List.replicate 4 0)) En165 Hv166 fun ac168 wo169 bk167 En170 Hv171 => ?_
   refine f_o ?_
   refine m_g 4 0 4 (u64s (nd (mulM 2 (nv y) (nv y)))) (u64s (nd (mulM 2 (nv y) (nv y)))) [.box bk1 ((u64s x) ++ ((u64s y) ++ (u64s z))) 57, .box bk6 ((u64s (List.replicate 4 0)) ++ ((u64s (List.replicate 4 0)) ++ (u64s (List.replicate 4 0)))) 57, .box bk70 (u64s zz) 24, .box bk139 (u64s mm) 24, .box bk167 (u64s (nd (mulM 2 (nv y) (nv y)))) 24] En170 Hv171 rfl (u64s_lenh (nds_len _ _)) (by rw [(u64s_lenh (List.length_replicate))]; decide) (u64s_one _) (store_whole (u64s_lenh (List.length_replicate))) rfl fun ac172 wo173 En174 Hv175 => ?_
   refine f_e ?_
   obtain ⟨yy, h_yy⟩ : ∃ q : List UInt64, q = nd (mulM 2 (nv y) (nv y)) := ⟨_, rfl⟩
   rw [← h_yy] at Hv175
   have n_yy : List.length yy = 4 := by rw [h_yy]; exact nds_len _ _
   refine then_normal ?_
   refine wp_seq ?_
   refine region_from ?_
   refine d_k [1,2,3,4,5,43,44] [] 2 En174 fun ac176 En177 => ?_
   refine f_o ?_
   refine m_a 0 0 4 (u64s x) En177 Hv175 rfl (by simp [u64s_lenh hx, u64s_lenh hy, u64s_lenh hz, List.drop_append, List.take_append]) (u64s_lenh hx) fun ac178 En179 => ?_
   refine f_o ?_
   refine m_a 4 0 4 (u64s yy) En179 Hv175 rfl (load_whole (u64s_lenh n_yy)) (u64s_lenh n_yy) fun ac180 En181 => ?_
   refine f_o ?_
   refine c_p En181 Hv175 (dmul_go _ x yy hx n_yy) fun ac186 wo183 En187 Hv188 => ?_
   refine f_o ?_
   refine c_p En187 Hv188 (dmul_go _ ([4, 0, 0, 0] : List UInt64) (nd (mulM 2 (nv x) (nv yy))) (show List.length ([4, 0, 0, 0] : List UInt64) = 4 from rfl) (nds_len _ _)) fun ac193 wo190 En194 Hv195 => ?_
   refine f_o ?_
   refine m_z 24 (u64s (List.replicate 4 0)) En194 Hv195 fun ac197 wo198 bk196 En199 Hv200 => ?_
   refine f_o ?_
   refine m_g 5 0 4 (u64s (nd (mulM 2 (nv ([4, 0, 0, 0] : List UInt64)) (nv (nd (mulM 2 (nv x) (nv yy))))))) (u64s (nd (mulM 2 (nv ([4, 0, 0, 0] : List UInt64)) (nv (nd (mulM 2 (nv x) (nv yy))))))) [.box bk1 ((u64s x) ++ ((u64s y) ++ (u64s z))) 57, .box bk6 ((u64s (List.replicate 4 0)) ++ ((u64s (List.replicate 4 0)) ++ (u64s (List.replicate 4 0)))) 57, .box bk70 (u64s zz) 24, .box bk139 (u64s mm) 24, .box bk167 (u64s yy) 24, .box bk196 (u64s (nd (mulM 2 (nv ([4, 0, 0, 0] : List UInt64)) (nv (nd (mulM 2 (nv x) (nv yy))))))) 24] En199 Hv200 rfl (u64s_lenh (nds_len _ _)) (by rw [(u64s_lenh (List.length_replicate))]; decide) (u64s_one _) (store_whole (u64s_lenh (List.length_replicate))) rfl fun ac201 wo202 En203 Hv204 => ?_
   refine f_e ?_
   obtain ⟨ss, h_ss⟩ : ∃ q : List UInt64, q = nd (mulM 2 (nv ([4, 0, 0, 0] : List UInt64)) (nv (nd (mulM 2 (nv x) (nv yy))))) := ⟨_, rfl⟩
   rw [← h_ss] at Hv204
   have n_ss : List.length ss = 4 := by rw [h_ss]; exact nds_len _ _
   refine then_normal ?_
   refine wp_seq ?_
   refine r_c (fun ac wo => ∃ (bk256 : Nat), Env ac 77 [(1, pt bk1), (2, pt bk6), (3, pt bk70), (4, pt bk139), (5, pt bk167), (6, pt bk196), (7, pt bk256)] ∧ Ev w [] wo [.box bk1 ((u64s x) ++ ((u64s y) ++ (u64s z))) 57, .box bk6 ((u64s (List.replicate 4 0)) ++ ((u64s (List.replicate 4 0)) ++ (u64s (List.replicate 4 0)))) 57, .box bk70 (u64s zz) 24, .box bk139 (u64s mm) 24, .box bk167 (u64s yy) 24, .box bk196 (u64s ss) 24, .box bk256 (u64s (nd (subM 2 (nv (nd (mulM 2 (nv mm) (nv mm)))) (nv (nd (addM 2 (nv ss) (nv ss))))))) 24]) ?_ ?_
   ·
    refine s_g1 [(1, pt bk1), (2, pt bk6), (3, pt bk70), (4, pt bk139), (5, pt bk167), (6, pt bk196)] [0,1,2,3,4,5,6] [(49, .agg (List.toArray (u64s mm))), (50, .agg (List.toArray (u64s mm))), (51, .agg (List.toArray (u64s (nd (mulM 2 (nv mm) (nv mm)))))), (52, .agg (List.toArray (u64s ss))), (53, .agg (List.toArray (u64s ss))), (54, .agg (List.toArray (u64s (nd (addM 2 (nv ss) (nv ss)))))), (55, .agg (List.toArray (u64s (nd (subM 2 (nv (nd (mulM 2 (nv mm) (nv mm)))) (nv (nd (addM 2 (nv ss) (nv ss)))))))))] 1 [(1, pt bk1), (2, pt bk6), (3, pt bk70), (4, pt bk139), (5, pt bk167), (6, pt bk196), (55, .agg (List.toArray (u64s (nd (subM 2 (nv (nd (mulM 2 (nv mm) (nv mm)))) (nv (nd (addM 2 (nv ss) (nv ss)))))))))] 7 (u64s (List.replicate 4 0)) (En203.sb) (Hv204.trans (Ev.drew Hv204.heap)) ?_ fun ac252 wo253 bk256 En254 Hv255 => ?_
    ·
     refine s_a 3 0 4 (u64s mm) rfl (load_whole (u64s_lenh n_mm)) (u64s_lenh n_mm) ?_
     refine s_a 3 0 4 (u64s mm) rfl (load_whole (u64s_lenh n_mm)) (u64s_lenh n_mm) ?_
     refine s_f (fun _ => dmul_go _ mm mm n_mm n_mm) ?_
     refine s_a 5 0 4 (u64s ss) rfl (load_whole (u64s_lenh n_ss)) (u64s_lenh n_ss) ?_
     refine s_a 5 0 4 (u64s ss) rfl (load_whole (u64s_lenh n_ss)) (u64s_lenh n_ss) ?_
     refine s_f (fun _ => dadd_go _ ss ss n_ss n_ss) ?_
     refine s_f (fun _ => dsub_go _ (nd (mulM 2 (nv mm) (nv mm))) (nd (addM 2 (nv ss) (nv ss))) (nds_len _ _) (nds_len _ _)) ?_
     exact s_n
    refine q_u 8 ?_
    refine m_g 6 0 4 (u64s (nd (subM 2 (nv (nd (mulM 2 (nv mm) (nv mm)))) (nv (nd (addM 2 (nv ss) (nv ss))))))) (u64s (nd (subM 2 (nv (nd (mulM 2 (nv mm) (nv mm)))) (nv (nd (addM 2 (nv ss) (nv ss))))))) [.box bk1 ((u64s x) ++ ((u64s y) ++ (u64s z))) 57, .box bk6 ((u64s (List.replicate 4 0)) ++ ((u64s (List.replicate 4 0)) ++ (u64s (List.replicate 4 0)))) 57, .box bk70 (u64s zz) 24, .box bk139 (u64s mm) 24, .box bk167 (u64s yy) 24, .box bk196 (u64s ss) 24, .box bk256 (u64s (nd (subM 2 (nv (nd (mulM 2 (nv mm) (nv mm)))) (nv (nd (addM 2 (nv ss) (nv ss))))))) 24] En254 Hv255 rfl (u64s_lenh (nds_len _ _)) (by rw [(u64s_lenh (List.length_replicate))]; decide) (u64s_one _) (store_whole (u64s_lenh (List.length_replicate))) rfl fun ac261 wo262 En263 Hv264 => ?_
    exact a_e ⟨bk256, En263.sb, Hv264.pk [0, 1, 2, 3, 4, 5, 6]⟩
   rintro ac265 wo266 ⟨bk256, En267, Hv268⟩
   obtain ⟨x3, h_x3⟩ : ∃ q : List UInt64, q = nd (subM 2 (nv (nd (mulM 2 (nv mm) (nv mm)))) (nv (nd (addM 2 (nv ss) (nv ss))))) := ⟨_, rfl⟩
   rw [← h_x3] at Hv268
   have n_x3 : List.length x3 = 4 := by rw [h_x3]; exact nds_len _ _
   refine then_normal ?_
   refine wp_seq ?_
   refine r_c (fun ac wo => ∃ (bk343 : Nat), Env ac 77 [(1, pt bk1), (2, pt bk6), (3, pt bk70), (4, pt bk139), (5, pt bk167), (6, pt bk196), (7, pt bk256), (8, pt bk343)] ∧ Ev w [] wo [.box bk1 ((u64s x) ++ ((u64s y) ++ (u64s z))) 57, .box bk6 ((u64s (List.replicate 4 0)) ++ ((u64s (List.replicate 4 0)) ++ (u64s (List.replicate 4 0)))) 57, .box bk70 (u64s zz) 24, .box bk139 (u64s mm) 24, .box bk167 (u64s yy) 24, .box bk196 (u64s ss) 24, .box bk256 (u64s x3) 24, .box bk343 (u64s (nd (subM 2 (nv (nd (mulM 2 (nv mm) (nv (nd (subM 2 (nv ss) (nv x3))))))) (nv (nd (mulM 2 (nv ([8, 0, 0, 0] : List UInt64)) (nv (nd (mulM 2 (nv yy) (nv yy)))))))))) 24]) ?_ ?_
   ·
    refine s_g1 [(1, pt bk1), (2, pt bk6), (3, pt bk70), (4, pt bk139), (5, pt bk167), (6, pt bk196), (7, pt bk256)] [0,1,2,3,4,5,6,7,8,9,10] [(56, .agg (List.toArray (u64s mm))), (57, .agg (List.toArray (u64s ss))), (58, .agg (List.toArray (u64s x3))), (59, .agg (List.toArray (u64s (nd (subM 2 (nv ss) (nv x3)))))), (60, .agg (List.toArray (u64s (nd (mulM 2 (nv mm) (nv (nd (subM 2 (nv ss) (nv x3))))))))), (61, .agg (List.toArray (u64s ([8, 0, 0, 0] : List UInt64)))), (62, .agg (List.toArray (u64s yy))), (63, .agg (List.toArray (u64s yy))), (64, .agg (List.toArray (u64s (nd (mulM 2 (nv yy) (nv yy)))))), (65, .agg (List.toArray (u64s (nd (mulM 2 (nv ([8, 0, 0, 0] : List UInt64)) (nv (nd (mulM 2 (nv yy) (nv yy))))))))), (66, .agg (List.toArray (u64s (nd (subM 2 (nv (nd (mulM 2 (nv mm) (nv (nd (subM 2 (nv ss) (nv x3))))))) (nv (nd (mulM 2 (nv ([8, 0, 0, 0] : List UInt64)) (nv (nd (mulM 2 (nv yy) (nv yy))))))))))))] 1 [(1, pt bk1), (2, pt bk6), (3, pt bk70), (4, pt bk139), (5, pt bk167), (6, pt bk196), (7, pt bk256), (66, .agg (List.toArray (u64s (nd (subM 2 (nv (nd (mulM 2 (nv mm) (nv (nd (subM 2 (nv ss) (nv x3))))))) (nv (nd (mulM 2 (nv ([8, 0, 0, 0] : List UInt64)) (nv (nd (mulM 2 (nv yy) (nv yy))))))))))))] 11 (u64s (List.replicate 4 0)) (En267.sb) (Hv268.trans (Ev.drew Hv268.heap)) ?_ fun ac339 wo340 bk343 En341 Hv342 => ?_
    ·
     refine s_a 3 0 4 (u64s mm) rfl (load_whole (u64s_lenh n_mm)) (u64s_lenh n_mm) ?_
     refine s_a 5 0 4 (u64s ss) rfl (load_whole (u64s_lenh n_ss)) (u64s_lenh n_ss) ?_
     refine s_a 6 0 4 (u64s x3) rfl (load_whole (u64s_lenh n_x3)) (u64s_lenh n_x3) ?_
     refine s_f (fun _ => dsub_go _ ss x3 n_ss n_x3) ?_
     refine s_f (fun _ => dmul_go _ mm (nd (subM 2 (nv ss) (nv x3))) n_mm (nds_len _ _)) ?_
     refine s_p [] ?_
     refine s_a 4 0 4 (u64s yy) rfl (load_whole (u64s_lenh n_yy)) (u64s_lenh n_yy) ?_
     refine s_a 4 0 4 (u64s yy) rfl (load_whole (u64s_lenh n_yy)) (u64s_lenh n_yy) ?_
     refine s_f (fun _ => dmul_go _ yy yy n_yy n_yy) ?_
     refine s_f (fun _ => dmul_go _ ([8, 0, 0, 0] : List UInt64) (nd (mulM 2 (nv yy) (nv yy))) (show List.length ([8, 0, 0, 0] : List UInt64) = 4 from rfl) (nds_len _ _)) ?_
     refine s_f (fun _ => dsub_go _ (nd (mulM 2 (nv mm) (nv (nd (subM 2 (nv ss) (nv x3)))))) (nd (mulM 2 (nv ([8, 0, 0, 0] : List UInt64)) (nv (nd (mulM 2 (nv yy) (nv yy)))))) (nds_len _ _) (nds_len _ _)) ?_
     exact s_n
    refine q_u 12 ?_
    refine m_g 7 0 4 (u64s (nd (subM 2 (nv (nd (mulM 2 (nv mm) (nv (nd (subM 2 (nv ss) (nv x3))))))) (nv (nd (mulM 2 (nv ([8, 0, 0, 0] : List UInt64)) (nv (nd (mulM 2 (nv yy) (nv yy)))))))))) (u64s (nd (subM 2 (nv (nd (mulM 2 (nv mm) (nv (nd (subM 2 (nv ss) (nv x3))))))) (nv (nd (mulM 2 (nv ([8, 0, 0, 0] : List UInt64)) (nv (nd (mulM 2 (nv yy) (nv yy)))))))))) [.box bk1 ((u64s x) ++ ((u64s y) ++ (u64s z))) 57, .box bk6 ((u64s (List.replicate 4 0)) ++ ((u64s (List.replicate 4 0)) ++ (u64s (List.replicate 4 0)))) 57, .box bk70 (u64s zz) 24, .box bk139 (u64s mm) 24, .box bk167 (u64s yy) 24, .box bk196 (u64s ss) 24, .box bk256 (u64s x3) 24, .box bk343 (u64s (nd (subM 2 (nv (nd (mulM 2 (nv mm) (nv (nd (subM 2 (nv ss) (nv x3))))))) (nv (nd (mulM 2 (nv ([8, 0, 0, 0] : List UInt64)) (nv (nd (mulM 2 (nv yy) (nv yy)))))))))) 24] En341 Hv342 rfl (u64s_lenh (nds_len _ _)) (by rw [(u64s_lenh (List.length_replicate))]; decide) (u64s_one _) (store_whole (u64s_lenh (List.length_replicate))) rfl fun ac348 wo349 En350 Hv351 => ?_
    exact a_e ⟨bk343, En350.sb, Hv351.pk [0, 1, 2, 3, 4, 5, 6, 7]⟩
   rintro ac352 wo353 ⟨bk343, En354, Hv355⟩
   obtain ⟨y3, h_y3⟩ : ∃ q : List UInt64, q = nd (subM 2 (nv (nd (mulM 2 (nv mm) (nv (nd (subM 2 (nv ss) (nv x3))))))) (nv (nd (mulM 2 (nv ([8, 0, 0, 0] : List UInt64)) (nv (nd (mulM 2 (nv yy) (nv yy)))))))) := ⟨_, rfl⟩
   rw [← h_y3] at Hv355
   have n_y3 : List.length y3 = 4 := by rw [h_y3]; exact nds_len _ _
   refine then_normal ?_
   refine wp_seq ?_
   refine r_c (fun ac wo => Env ac 77 [(1, pt bk1), (2, pt bk6), (3, pt bk70), (4, pt bk139), (5, pt bk167), (6, pt bk196), (7, pt bk256), (8, pt bk343)] ∧ Ev w [] wo [.box bk1 ((u64s x) ++ ((u64s y) ++ (u64s z))) 57, .box bk6 ((u64s x3) ++ ((u64s y3) ++ (u64s (nd (mulM 2 (nv ([2, 0, 0, 0] : List UInt64)) (nv (nd (mulM 2 (nv y) (nv z))))))))) 57, .box bk70 (u64s zz) 24, .box bk139 (u64s mm) 24, .box bk167 (u64s yy) 24, .box bk196 (u64s ss) 24, .box bk256 (u64s x3) 24, .box bk343 (u64s y3) 24]) ?_ ?_
   ·
    refine s_g0 [(1, pt bk1), (2, pt bk6), (3, pt bk70), (4, pt bk139), (5, pt bk167), (6, pt bk196), (7, pt bk256), (8, pt bk343)] [0,1,2,3,4,5,6,7,8,9] [(67, .agg (List.toArray (u64s x3))), (68, .agg (List.toArray (u64s y3))), (69, .agg (List.toArray (u64s ([2, 0, 0, 0] : List UInt64)))), (70, .pointer (some ⟨bk1, 4, none⟩)), (71, .agg (List.toArray (u64s y))), (72, .pointer (some ⟨bk1, 8, none⟩)), (73, .agg (List.toArray (u64s z))), (74, .agg (List.toArray (u64s (nd (mulM 2 (nv y) (nv z)))))), (75, .agg (List.toArray (u64s (nd (mulM 2 (nv ([2, 0, 0, 0] : List UInt64)) (nv (nd (mulM 2 (nv y) (nv z))))))))), (76, .agg (List.toArray ((u64s x3) ++ ((u64s y3) ++ (u64s (nd (mulM 2 (nv ([2, 0, 0, 0] : List UInt64)) (nv (nd (mulM 2 (nv y) (nv z)))))))))))] 1 [(1, pt bk1), (2, pt bk6), (3, pt bk70), (4, pt bk139), (5, pt bk167), (6, pt bk196), (7, pt bk256), (8, pt bk343), (76, .agg (List.toArray ((u64s x3) ++ ((u64s y3) ++ (u64s (nd (mulM 2 (nv ([2, 0, 0, 0] : List UInt64)) (nv (nd (mulM 2 (nv y) (nv z)))))))))))] (En354.sb) (Hv355.trans (Ev.drew Hv355.heap)) ?_ fun ac401 wo402 En403 Hv404 => ?_
    ·
     refine s_a 6 0 4 (u64s x3) rfl (load_whole (u64s_lenh n_x3)) (u64s_lenh n_x3) ?_
     refine s_a 7 0 4 (u64s y3) rfl (load_whole (u64s_lenh n_y3)) (u64s_lenh n_y3) ?_
     refine s_p [] ?_
     refine s_p [] ?_
     refine s_a 0 4 4 (u64s y) rfl (by simp [u64s_lenh hx, u64s_lenh hy, u64s_lenh hz, List.drop_append, List.take_append]) (u64s_lenh hy) ?_
     refine s_p [] ?_
     refine s_a 0 8 4 (u64s z) rfl (by simp [u64s_lenh hx, u64s_lenh hy, u64s_lenh hz, List.drop_append, List.take_append, List.take_of_length_le]) (u64s_lenh hz) ?_
     refine s_f (fun _ => dmul_go _ y z hy hz) ?_
     refine s_f (fun _ => dmul_go _ ([2, 0, 0, 0] : List UInt64) (nd (mulM 2 (nv y) (nv z))) (show List.length ([2, 0, 0, 0] : List UInt64) = 4 from rfl) (nds_len _ _)) ?_
     refine s_c (fun Mx394 ac395 wo396 En397 Hv398 => ?_) ?_
     ·
      refine q_v (x := Instr.build 57 #[(0, .agg (List.toArray (u64s x3))), (1, .agg (List.toArray (u64s y3))), (2, .agg (List.toArray (u64s (nd (mulM 2 (nv ([2, 0, 0, 0] : List UInt64)) (nv (nd (mulM 2 (nv y) (nv z)))))))))]) (v := .agg (List.toArray ((u64s x3) ++ ((u64s y3) ++ (u64s (nd (mulM 2 (nv ([2, 0, 0, 0] : List UInt64)) (nv (nd (mulM 2 (nv y) (nv z))))))))))) En397 (Go.Dbr.run_built [(0, 4), (4, 4), (8, 4)] [⟨4, u64s (List.replicate 4 0), some (0, .agg (List.toArray (u64s x3)), u64s x3)⟩, ⟨4, u64s (List.replicate 4 0), some (1, .agg (List.toArray (u64s y3)), u64s y3)⟩, ⟨4, u64s (List.replicate 4 0), some (2, .agg (List.toArray (u64s (nd (mulM 2 (nv ([2, 0, 0, 0] : List UInt64)) (nv (nd (mulM 2 (nv y) (nv z)))))))), u64s (nd (mulM 2 (nv ([2, 0, 0, 0] : List UInt64)) (nv (nd (mulM 2 (nv y) (nv z)))))))⟩] (fb_y (u64s_lenh (List.length_replicate)) (u64s_lenh n_x3) (fb_y (u64s_lenh (List.length_replicate)) (u64s_lenh n_y3) (fb_y (u64s_lenh (List.length_replicate)) (u64s_lenh (nds_len _ _)) trivial))) _) fun ac399 En400 => ?_
      exact s_e En400 Hv398
     exact s_n
    refine q_u 10 ?_
    refine m_g 1 0 12 ((u64s x3) ++ ((u64s y3) ++ (u64s (nd (mulM 2 (nv ([2, 0, 0, 0] : List UInt64)) (nv (nd (mulM 2 (nv y) (nv z))))))))) ((u64s x3) ++ ((u64s y3) ++ (u64s (nd (mulM 2 (nv ([2, 0, 0, 0] : List UInt64)) (nv (nd (mulM 2 (nv y) (nv z))))))))) [.box bk1 ((u64s x) ++ ((u64s y) ++ (u64s z))) 57, .box bk6 ((u64s x3) ++ ((u64s y3) ++ (u64s (nd (mulM 2 (nv ([2, 0, 0, 0] : List UInt64)) (nv (nd (mulM 2 (nv y) (nv z))))))))) 57, .box bk70 (u64s zz) 24, .box bk139 (u64s mm) 24, .box bk167 (u64s yy) 24, .box bk196 (u64s ss) 24, .box bk256 (u64s x3) 24, .box bk343 (u64s y3) 24] En403 Hv404 rfl (len_app (u64s_lenh n_x3) (len_app (u64s_lenh n_y3) (u64s_lenh (nds_len _ _)))) (by rw [(len_app (u64s_lenh (List.length_replicate)) (len_app (u64s_lenh (List.length_replicate)) (u64s_lenh (List.length_replicate))))]; decide) (one_app (u64s_one _) (one_app (u64s_one _) (u64s_one _))) (store_whole (len_app (u64s_lenh (List.length_replicate)) (len_app (u64s_lenh (List.length_replicate)) (u64s_lenh (List.length_replicate))))) rfl fun ac409 wo410 En411 Hv412 => ?_
    exact a_e ⟨En411.sb, Hv412.pk [0, 1, 2, 3, 4, 5, 6, 7]⟩
   rintro ac413 wo414 ⟨En415, Hv416⟩
   refine then_normal ?_
   refine wp_ret ?_
   refine d_cell1 (v := .agg (List.toArray ((u64s x3) ++ ((u64s y3) ++ (u64s (nd (mulM 2 (nv ([2, 0, 0, 0] : List UInt64)) (nv (nd (mulM 2 (nv y) (nv z))))))))))) (t := 2) (T := 57) (ad := ⟨bk6, 0, none⟩) En415 (by kernel_rfl) (by kernel_rfl) (Ev.cellAgg (t := 57) (k := 1) (off := 0) (m := 12) (xs := (u64s x3) ++ ((u64s y3) ++ (u64s (nd (mulM 2 (nv ([2, 0, 0, 0] : List UInt64)) (nv (nd (mulM 2 (nv y) (nv z))))))))) Hv416 rfl (load_whole (len_app (u64s_lenh n_x3) (len_app (u64s_lenh n_y3) (u64s_lenh (nds_len _ _))))) (len_app (u64s_lenh n_x3) (len_app (u64s_lenh n_y3) (u64s_lenh (nds_len _ _)))) (by kernel_rfl) (by kernel_rfl)) ?_
   have gz : (z == z4) = false := beq_f hp35
   have gy : (y == z4) = false := beq_f hc46
   have e0 : (x3, y3, nd (mulM 2 (nv ([2, 0, 0, 0] : List UInt64)) (nv (nd (mulM 2 (nv y) (nv z)))))) = jtL (x, y, z) := by
    subst h_y3 h_x3 h_ss h_yy h_mm h_zz
    simp only [jtL, gz, gy, Bool.or_false, Bool.cond_false, jxN, jyN, jzN, jmN, jsN, nv_m2, nv_a2, nv_s2, show nv [3, 0, 0, 0] = 3 from rfl, show nv [4, 0, 0, 0] = 4 from rfl, show nv [8, 0, 0, 0] = 8 from rfl, show nv [2, 0, 0, 0] = 2 from rfl]
   exact ⟨ret_t3 e0, Hv416.pk []⟩

theorem dplus_go (w : World) (x1 y1 z1 x2 y2 z2 : List UInt64) (hx1 : List.length x1 = 4) (hy1 : List.length y1 = 4) (hz1 : List.length z1 = 4) (hx2 : List.length x2 = 4) (hy2 : List.length y2 = 4) (hz2 : List.length z2 = 4) : Calls Try.prog 32 #[.agg (List.toArray ((u64s x1) ++ ((u64s y1) ++ (u64s z1)))), .agg (List.toArray ((u64s x2) ++ ((u64s y2) ++ (u64s z2))))] w fun e w' => e = .returned (.agg (List.toArray ((u64s ((jpL (x1, y1, z1) (x2, y2, z2)).1)) ++ ((u64s ((jpL (x1, y1, z1) (x2, y2, z2)).2.1)) ++ (u64s ((jpL (x1, y1, z1) (x2, y2, z2)).2.2)))))) ∧ Ev w [] w' [] := by
 refine d_0 [(0, .agg (List.toArray ((u64s x1) ++ ((u64s y1) ++ (u64s z1))))), (1, .agg (List.toArray ((u64s x2) ++ ((u64s y2) ++ (u64s z2)))))] 114 Go.Proofs.Try.func32 Go.Proofs.Try.ntmps32 (Heap.nil _) fun act0 En0 Hv0 => ?_
 refine wp_seq ?_
 refine region_from ?_
 refine f_o ?_
 refine m_m 57 ((u64s x1) ++ ((u64s y1) ++ (u64s z1))) En0 Hv0 fun ac2 wo3 bk1 En4 Hv5 => ?_
 refine f_o ?_
 refine m_m 57 ((u64s x2) ++ ((u64s y2) ++ (u64s z2))) En4 Hv5 fun ac7 wo8 bk6 En9 Hv10 => ?_
 refine f_o ?_
 refine m_z 57 ((u64s (List.replicate 4 0)) ++ ((u64s (List.replicate 4 0)) ++ (u64s (List.replicate 4 0)))) En9 Hv10 fun ac12 wo13 bk11 En14 Hv15 => ?_
 refine f_e ?_
 refine then_normal ?_
 refine wp_seq ?_
 refine wp_seq ?_
 refine region_from ?_
 refine d_k [2,3,4,18] [] 1 En14 fun ac16 En17 => ?_
 refine f_o ?_
 refine m_a 0 8 4 (u64s z1) En17 Hv15 rfl (by simp [u64s_lenh hx1, u64s_lenh hy1, u64s_lenh hz1, List.drop_append, List.take_append, List.take_of_length_le]) (u64s_lenh hz1) fun ac18 En19 => ?_
 refine d_k [2,3,4,19,20] [] 3 En19 fun ac20 En21 => ?_
 refine f_o ?_
 refine q_v (x := eqOp .eql 24 (.tmp 19) (.tmp 20) (.agg (List.toArray (u64s z1))) (.agg (List.toArray (u64s ([0, 0, 0, 0] : List UInt64))))) (v := .bool (z1 == ([0, 0, 0, 0] : List UInt64))) En21 (Go.Dbr.u64s_eqop (a := (.tmp 19)) (b := (.tmp 20)) (e := 22) (m := 4) (by kernel_rfl) (by kernel_rfl) (by kernel_rfl) (by kernel_rfl) (by kernel_rfl) hz1 (show List.length ([0, 0, 0, 0] : List UInt64) = 4 from rfl) _) fun ac22 En23 => ?_
 refine f_e ?_
 refine then_normal ?_
 refine cond_at En23 (t := z1 == ([0, 0, 0, 0] : List UInt64)) (by kernel_rfl) (fun hc24 => ?_) (fun hc24 => ?_)
 ·
  replace hc24 : z1 = ([0, 0, 0, 0] : List UInt64) := eq_of_beq hc24
  refine wp_seq ?_
  refine region_from ?_
  refine f_o ?_
  refine m_a 1 0 12 ((u64s x2) ++ ((u64s y2) ++ (u64s z2))) En23 Hv15 rfl (load_whole (len_app (u64s_lenh hx2) (len_app (u64s_lenh hy2) (u64s_lenh hz2)))) (len_app (u64s_lenh hx2) (len_app (u64s_lenh hy2) (u64s_lenh hz2))) fun ac25 En26 => ?_
  refine f_o ?_
  refine m_g 2 0 12 ((u64s x2) ++ ((u64s y2) ++ (u64s z2))) ((u64s x2) ++ ((u64s y2) ++ (u64s z2))) [.box bk1 ((u64s x1) ++ ((u64s y1) ++ (u64s z1))) 57, .box bk6 ((u64s x2) ++ ((u64s y2) ++ (u64s z2))) 57, .box bk11 ((u64s x2) ++ ((u64s y2) ++ (u64s z2))) 57] En26 Hv15 rfl (len_app (u64s_lenh hx2) (len_app (u64s_lenh hy2) (u64s_lenh hz2))) (by rw [(len_app (u64s_lenh (List.length_replicate)) (len_app (u64s_lenh (List.length_replicate)) (u64s_lenh (List.length_replicate))))]; decide) (one_app (u64s_one _) (one_app (u64s_one _) (u64s_one _))) (store_whole (len_app (u64s_lenh (List.length_replicate)) (len_app (u64s_lenh (List.length_replicate)) (u64s_lenh (List.length_replicate))))) rfl fun ac27 wo28 En29 Hv30 => ?_
  refine f_e ?_
  refine then_normal ?_
  refine wp_ret ?_
  refine then_ret ?_
  refine d_cell1 (v := .agg (List.toArray ((u64s x2) ++ ((u64s y2) ++ (u64s z2))))) (t := 4) (T := 57) (ad := ⟨bk11, 0, none⟩) En29 (by kernel_rfl) (by kernel_rfl) (Ev.cellAgg (t := 57) (k := 2) (off := 0) (m := 12) (xs := (u64s x2) ++ ((u64s y2) ++ (u64s z2))) Hv30 rfl (load_whole (len_app (u64s_lenh hx2) (len_app (u64s_lenh hy2) (u64s_lenh hz2)))) (len_app (u64s_lenh hx2) (len_app (u64s_lenh hy2) (u64s_lenh hz2))) (by kernel_rfl) (by kernel_rfl)) ?_
  have g1 : (z1 == z4) = true := beq_t hc24
  exact ⟨ret_t3 (a := (x2, y2, z2)) (b := jpL (x1, y1, z1) (x2, y2, z2)) (by simp only [jpL, g1, Bool.cond_true, Bool.cond_false]), Hv30.pk []⟩
 ·
  replace hc24 : ¬ (z1 = ([0, 0, 0, 0] : List UInt64)) := ne_of_beq_false hc24
  refine wp_skip ?_
  refine then_normal ?_
  refine wp_seq ?_
  refine wp_seq ?_
  refine region_from ?_
  refine d_k [2,3,4,23] [] 1 En23 fun ac31 En32 => ?_
  refine f_o ?_
  refine m_a 1 8 4 (u64s z2) En32 Hv15 rfl (by simp [u64s_lenh hx2, u64s_lenh hy2, u64s_lenh hz2, List.drop_append, List.take_append, List.take_of_length_le]) (u64s_lenh hz2) fun ac33 En34 => ?_
  refine d_k [2,3,4,24,25] [] 3 En34 fun ac35 En36 => ?_
  refine f_o ?_
  refine q_v (x := eqOp .eql 24 (.tmp 24) (.tmp 25) (.agg (List.toArray (u64s z2))) (.agg (List.toArray (u64s ([0, 0, 0, 0] : List UInt64))))) (v := .bool (z2 == ([0, 0, 0, 0] : List UInt64))) En36 (Go.Dbr.u64s_eqop (a := (.tmp 24)) (b := (.tmp 25)) (e := 22) (m := 4) (by kernel_rfl) (by kernel_rfl) (by kernel_rfl) (by kernel_rfl) (by kernel_rfl) hz2 (show List.length ([0, 0, 0, 0] : List UInt64) = 4 from rfl) _) fun ac37 En38 => ?_
  refine f_e ?_
  refine then_normal ?_
  refine cond_at En38 (t := z2 == ([0, 0, 0, 0] : List UInt64)) (by kernel_rfl) (fun hc39 => ?_) (fun hc39 => ?_)
  ·
   replace hc39 : z2 = ([0, 0, 0, 0] : List UInt64) := eq_of_beq hc39
   refine wp_seq ?_
   refine region_from ?_
   refine f_o ?_
   refine m_a 0 0 12 ((u64s x1) ++ ((u64s y1) ++ (u64s z1))) En38 Hv15 rfl (load_whole (len_app (u64s_lenh hx1) (len_app (u64s_lenh hy1) (u64s_lenh hz1)))) (len_app (u64s_lenh hx1) (len_app (u64s_lenh hy1) (u64s_lenh hz1))) fun ac40 En41 => ?_
   refine f_o ?_
   refine m_g 2 0 12 ((u64s x1) ++ ((u64s y1) ++ (u64s z1))) ((u64s x1) ++ ((u64s y1) ++ (u64s z1))) [.box bk1 ((u64s x1) ++ ((u64s y1) ++ (u64s z1))) 57, .box bk6 ((u64s x2) ++ ((u64s y2) ++ (u64s z2))) 57, .box bk11 ((u64s x1) ++ ((u64s y1) ++ (u64s z1))) 57] En41 Hv15 rfl (len_app (u64s_lenh hx1) (len_app (u64s_lenh hy1) (u64s_lenh hz1))) (by rw [(len_app (u64s_lenh (List.length_replicate)) (len_app (u64s_lenh (List.length_replicate)) (u64s_lenh (List.length_replicate))))]; decide) (one_app (u64s_one _) (one_app (u64s_one _) (u64s_one _))) (store_whole (len_app (u64s_lenh (List.length_replicate)) (len_app (u64s_lenh (List.length_replicate)) (u64s_lenh (List.length_replicate))))) rfl fun ac42 wo43 En44 Hv45 => ?_
   refine f_e ?_
   refine then_normal ?_
   refine wp_ret ?_
   refine then_ret ?_
   refine d_cell1 (v := .agg (List.toArray ((u64s x1) ++ ((u64s y1) ++ (u64s z1))))) (t := 4) (T := 57) (ad := ⟨bk11, 0, none⟩) En44 (by kernel_rfl) (by kernel_rfl) (Ev.cellAgg (t := 57) (k := 2) (off := 0) (m := 12) (xs := (u64s x1) ++ ((u64s y1) ++ (u64s z1))) Hv45 rfl (load_whole (len_app (u64s_lenh hx1) (len_app (u64s_lenh hy1) (u64s_lenh hz1)))) (len_app (u64s_lenh hx1) (len_app (u64s_lenh hy1) (u64s_lenh hz1))) (by kernel_rfl) (by kernel_rfl)) ?_
   have g1 : (z1 == z4) = false := beq_f hc24
   have g2 : (z2 == z4) = true := beq_t hc39
   exact ⟨ret_t3 (a := (x1, y1, z1)) (b := jpL (x1, y1, z1) (x2, y2, z2)) (by simp only [jpL, g1, g2, Bool.cond_true, Bool.cond_false]), Hv45.pk []⟩
  ·
   replace hc39 : ¬ (z2 = ([0, 0, 0, 0] : List UInt64)) := ne_of_beq_false hc39
   refine wp_skip ?_
   refine then_normal ?_
   refine wp_seq ?_
   refine region_from ?_
   refine d_k [2,3,4,28] [] 1 En38 fun ac46 En47 => ?_
   refine f_o ?_
   refine m_a 0 8 4 (u64s z1) En47 Hv15 rfl (by simp [u64s_lenh hx1, u64s_lenh hy1, u64s_lenh hz1, List.drop_append, List.take_append, List.take_of_length_le]) (u64s_lenh hz1) fun ac48 En49 => ?_
   refine d_k [2,3,4,29,30] [] 3 En49 fun ac50 En51 => ?_
   refine f_o ?_
   refine m_a 0 8 4 (u64s z1) En51 Hv15 rfl (by simp [u64s_lenh hx1, u64s_lenh hy1, u64s_lenh hz1, List.drop_append, List.take_append, List.take_of_length_le]) (u64s_lenh hz1) fun ac52 En53 => ?_
   refine f_o ?_
   refine c_p En53 Hv15 (dmul_go _ z1 z1 hz1 hz1) fun ac58 wo55 En59 Hv60 => ?_
   refine f_o ?_
   refine m_z 24 (u64s (List.replicate 4 0)) En59 Hv60 fun ac62 wo63 bk61 En64 Hv65 => ?_
   refine f_o ?_
   refine m_g 3 0 4 (u64s (nd (mulM 2 (nv z1) (nv z1)))) (u64s (nd (mulM 2 (nv z1) (nv z1)))) [.box bk1 ((u64s x1) ++ ((u64s y1) ++ (u64s z1))) 57, .box bk6 ((u64s x2) ++ ((u64s y2) ++ (u64s z2))) 57, .box bk11 ((u64s (List.replicate 4 0)) ++ ((u64s (List.replicate 4 0)) ++ (u64s (List.replicate 4 0)))) 57, .box bk61 (u64s (nd (mulM 2 (nv z1) (nv z1)))) 24] En64 Hv65 rfl (u64s_lenh (nds_len _ _)) (by rw [(u64s_lenh (List.length_replicate))]; decide) (u64s_one _) (store_whole (u64s_lenh (List.length_replicate))) rfl fun ac66 wo67 En68 Hv69 => ?_
   refine f_e ?_
   obtain ⟨pz, h_pz⟩ : ∃ q : List UInt64, q = nd (mulM 2 (nv z1) (nv z1)) := ⟨_, rfl⟩
   rw [← h_pz] at Hv69
   have n_pz : List.length pz = 4 := by rw [h_pz]; exact nds_len _ _
   refine then_normal ?_
   refine wp_seq ?_
   refine region_from ?_
   refine d_k [2,3,4,5,33] [] 1 En68 fun ac70 En71 => ?_
   refine f_o ?_
   refine m_a 1 8 4 (u64s z2) En71 Hv69 rfl (by simp [u64s_lenh hx2, u64s_lenh hy2, u64s_lenh hz2, List.drop_append, List.take_append, List.take_of_length_le]) (u64s_lenh hz2) fun ac72 En73 => ?_
   refine d_k [2,3,4,5,34,35] [] 3 En73 fun ac74 En75 => ?_
   refine f_o ?_
   refine m_a 1 8 4 (u64s z2) En75 Hv69 rfl (by simp [u64s_lenh hx2, u64s_lenh hy2, u64s_lenh hz2, List.drop_append, List.take_append, List.take_of_length_le]) (u64s_lenh hz2) fun ac76 En77 => ?_
   refine f_o ?_
   refine c_p En77 Hv69 (dmul_go _ z2 z2 hz2 hz2) fun ac82 wo79 En83 Hv84 => ?_
   refine f_o ?_
   refine m_z 24 (u64s (List.replicate 4 0)) En83 Hv84 fun ac86 wo87 bk85 En88 Hv89 => ?_
   refine f_o ?_
   refine m_g 4 0 4 (u64s (nd (mulM 2 (nv z2) (nv z2)))) (u64s (nd (mulM 2 (nv z2) (nv z2)))) [.box bk1 ((u64s x1) ++ ((u64s y1) ++ (u64s z1))) 57, .box bk6 ((u64s x2) ++ ((u64s y2) ++ (u64s z2))) 57, .box bk11 ((u64s (List.replicate 4 0)) ++ ((u64s (List.replicate 4 0)) ++ (u64s (List.replicate 4 0)))) 57, .box bk61 (u64s pz) 24, .box bk85 (u64s (nd (mulM 2 (nv z2) (nv z2)))) 24] En88 Hv89 rfl (u64s_lenh (nds_len _ _)) (by rw [(u64s_lenh (List.length_replicate))]; decide) (u64s_one _) (store_whole (u64s_lenh (List.length_replicate))) rfl fun ac90 wo91 En92 Hv93 => ?_
   refine f_e ?_
   obtain ⟨qz, h_qz⟩ : ∃ q : List UInt64, q = nd (mulM 2 (nv z2) (nv z2)) := ⟨_, rfl⟩
   rw [← h_qz] at Hv93
   have n_qz : List.length qz = 4 := by rw [h_qz]; exact nds_len _ _
   refine then_normal ?_
   refine wp_seq ?_
   refine region_from ?_
   refine d_k [2,3,4,5,6,38] [] 1 En92 fun ac94 En95 => ?_
   refine f_o ?_
   refine m_a 0 0 4 (u64s x1) En95 Hv93 rfl (by simp [u64s_lenh hx1, u64s_lenh hy1, u64s_lenh hz1, List.drop_append, List.take_append]) (u64s_lenh hx1) fun ac96 En97 => ?_
   refine f_o ?_
   refine m_a 4 0 4 (u64s qz) En97 Hv93 rfl (load_whole (u64s_lenh n_qz)) (u64s_lenh n_qz) fun ac98 En99 => ?_
   refine f_o ?_
   refine c_p En99 Hv93 (dmul_go _ x1 qz hx1 n_qz) fun ac104 wo101 En105 Hv106 => ?_
   refine f_o ?_
   refine m_z 24 (u64s (List.replicate 4 0)) En105 Hv106 fun ac108 wo109 bk107 En110 Hv111 => ?_
   refine f_o ?_
   refine m_g 5 0 4 (u64s (nd (mulM 2 (nv x1) (nv qz)))) (u64s (nd (mulM 2 (nv x1) (nv qz)))) [.box bk1 ((u64s x1) ++ ((u64s y1) ++ (u64s z1))) 57, .box bk6 ((u64s x2) ++ ((u64s y2) ++ (u64s z2))) 57, .box bk11 ((u64s (List.replicate 4 0)) ++ ((u64s (List.replicate 4 0)) ++ (u64s (List.replicate 4 0)))) 57, .box bk61 (u64s pz) 24, .box bk85 (u64s qz) 24, .box bk107 (u64s (nd (mulM 2 (nv x1) (nv qz)))) 24] En110 Hv111 rfl (u64s_lenh (nds_len _ _)) (by rw [(u64s_lenh (List.length_replicate))]; decide) (u64s_one _) (store_whole (u64s_lenh (List.length_replicate))) rfl fun ac112 wo113 En114 Hv115 => ?_
   refine f_e ?_
   obtain ⟨u, h_u⟩ : ∃ q : List UInt64, q = nd (mulM 2 (nv x1) (nv qz)) := ⟨_, rfl⟩
   rw [← h_u] at Hv115
   have n_u : List.length u = 4 := by rw [h_u]; exact nds_len _ _
   refine then_normal ?_
   refine wp_seq ?_
   refine region_from ?_
   refine d_k [2,3,4,5,6,7,42] [] 1 En114 fun ac116 En117 => ?_
   refine f_o ?_
   refine m_a 1 0 4 (u64s x2) En117 Hv115 rfl (by simp [u64s_lenh hx2, u64s_lenh hy2, u64s_lenh hz2, List.drop_append, List.take_append]) (u64s_lenh hx2) fun ac118 En119 => ?_
   refine f_o ?_
   refine m_a 3 0 4 (u64s pz) En119 Hv115 rfl (load_whole (u64s_lenh n_pz)) (u64s_lenh n_pz) fun ac120 En121 => ?_
   refine f_o ?_
   refine c_p En121 Hv115 (dmul_go _ x2 pz hx2 n_pz) fun ac126 wo123 En127 Hv128 => ?_
   refine f_o ?_
   refine m_z 24 (u64s (List.replicate 4 0)) En127 Hv128 fun ac130 wo131 bk129 En132 Hv133 => ?_
   refine f_o ?_
   refine m_g 6 0 4 (u64s (nd (mulM 2 (nv x2) (nv pz)))) (u64s (nd (mulM 2 (nv x2) (nv pz)))) [.box bk1 ((u64s x1) ++ ((u64s y1) ++ (u64s z1))) 57, .box bk6 ((u64s x2) ++ ((u64s y2) ++ (u64s z2))) 57, .box bk11 ((u64s (List.replicate 4 0)) ++ ((u64s (List.replicate 4 0)) ++ (u64s (List.replicate 4 0)))) 57, .box bk61 (u64s pz) 24, .box bk85 (u64s qz) 24, .box bk107 (u64s u) 24, .box bk129 (u64s (nd (mulM 2 (nv x2) (nv pz)))) 24] En132 Hv133 rfl (u64s_lenh (nds_len _ _)) (by rw [(u64s_lenh (List.length_replicate))]; decide) (u64s_one _) (store_whole (u64s_lenh (List.length_replicate))) rfl fun ac134 wo135 En136 Hv137 => ?_
   refine f_e ?_
   obtain ⟨v, h_v⟩ : ∃ q : List UInt64, q = nd (mulM 2 (nv x2) (nv pz)) := ⟨_, rfl⟩
   rw [← h_v] at Hv137
   have n_v : List.length v = 4 := by rw [h_v]; exact nds_len _ _
   refine then_normal ?_
   refine wp_seq ?_
   refine r_c (fun ac wo => ∃ (bk175 : Nat), Env ac 114 [(2, pt bk1), (3, pt bk6), (4, pt bk11), (5, pt bk61), (6, pt bk85), (7, pt bk107), (8, pt bk129), (9, pt bk175)] ∧ Ev w [] wo [.box bk1 ((u64s x1) ++ ((u64s y1) ++ (u64s z1))) 57, .box bk6 ((u64s x2) ++ ((u64s y2) ++ (u64s z2))) 57, .box bk11 ((u64s (List.replicate 4 0)) ++ ((u64s (List.replicate 4 0)) ++ (u64s (List.replicate 4 0)))) 57, .box bk61 (u64s pz) 24, .box bk85 (u64s qz) 24, .box bk107 (u64s u) 24, .box bk129 (u64s v) 24, .box bk175 (u64s (nd (mulM 2 (nv y1) (nv (nd (mulM 2 (nv qz) (nv z2))))))) 24]) ?_ ?_
   ·
    refine s_g1 [(2, pt bk1), (3, pt bk6), (4, pt bk11), (5, pt bk61), (6, pt bk85), (7, pt bk107), (8, pt bk129)] [0,1,2,3,4,5,6] [(46, .pointer (some ⟨bk1, 4, none⟩)), (47, .agg (List.toArray (u64s y1))), (48, .agg (List.toArray (u64s qz))), (49, .pointer (some ⟨bk6, 8, none⟩)), (50, .agg (List.toArray (u64s z2))), (51, .agg (List.toArray (u64s (nd (mulM 2 (nv qz) (nv z2)))))), (52, .agg (List.toArray (u64s (nd (mulM 2 (nv y1) (nv (nd (mulM 2 (nv qz) (nv z2)))))))))] 1 [(2, pt bk1), (3, pt bk6), (4, pt bk11), (5, pt bk61), (6, pt bk85), (7, pt bk107), (8, pt bk129), (52, .agg (List.toArray (u64s (nd (mulM 2 (nv y1) (nv (nd (mulM 2 (nv qz) (nv z2)))))))))] 7 (u64s (List.replicate 4 0)) (En136.sb) (Hv137.trans (Ev.drew Hv137.heap)) ?_ fun ac171 wo172 bk175 En173 Hv174 => ?_
    ·
     refine s_p [] ?_
     refine s_a 0 4 4 (u64s y1) rfl (by simp [u64s_lenh hx1, u64s_lenh hy1, u64s_lenh hz1, List.drop_append, List.take_append]) (u64s_lenh hy1) ?_
     refine s_a 4 0 4 (u64s qz) rfl (load_whole (u64s_lenh n_qz)) (u64s_lenh n_qz) ?_
     refine s_p [] ?_
     refine s_a 1 8 4 (u64s z2) rfl (by simp [u64s_lenh hx2, u64s_lenh hy2, u64s_lenh hz2, List.drop_append, List.take_append, List.take_of_length_le]) (u64s_lenh hz2) ?_
     refine s_f (fun _ => dmul_go _ qz z2 n_qz hz2) ?_
     refine s_f (fun _ => dmul_go _ y1 (nd (mulM 2 (nv qz) (nv z2))) hy1 (nds_len _ _)) ?_
     exact s_n
    refine q_u 8 ?_
    refine m_g 7 0 4 (u64s (nd (mulM 2 (nv y1) (nv (nd (mulM 2 (nv qz) (nv z2))))))) (u64s (nd (mulM 2 (nv y1) (nv (nd (mulM 2 (nv qz) (nv z2))))))) [.box bk1 ((u64s x1) ++ ((u64s y1) ++ (u64s z1))) 57, .box bk6 ((u64s x2) ++ ((u64s y2) ++ (u64s z2))) 57, .box bk11 ((u64s (List.replicate 4 0)) ++ ((u64s (List.replicate 4 0)) ++ (u64s (List.replicate 4 0)))) 57, .box bk61 (u64s pz) 24, .box bk85 (u64s qz) 24, .box bk107 (u64s u) 24, .box bk129 (u64s v) 24, .box bk175 (u64s (nd (mulM 2 (nv y1) (nv (nd (mulM 2 (nv qz) (nv z2))))))) 24] En173 Hv174 rfl (u64s_lenh (nds_len _ _)) (by rw [(u64s_lenh (List.length_replicate))]; decide) (u64s_one _) (store_whole (u64s_lenh (List.length_replicate))) rfl fun ac180 wo181 En182 Hv183 => ?_
    exact a_e ⟨bk175, En182.sb, Hv183.pk [0, 1, 2, 3, 4, 5, 6, 7]⟩
   rintro ac184 wo185 ⟨bk175, En186, Hv187⟩
   obtain ⟨s, h_s⟩ : ∃ q : List UInt64, q = nd (mulM 2 (nv y1) (nv (nd (mulM 2 (nv qz) (nv z2))))) := ⟨_, rfl⟩
   rw [← h_s] at Hv187
   have n_s : List.length s = 4 := by rw [h_s]; exact nds_len _ _
   refine then_normal ?_
   refine wp_seq ?_
   refine r_c (fun ac wo => ∃ (bk225 : Nat), Env ac 114 [(2, pt bk1), (3, pt bk6), (4, pt bk11), (5, pt bk61), (6, pt bk85), (7, pt bk107), (8, pt bk129), (9, pt bk175), (10, pt bk225)] ∧ Ev w [] wo [.box bk1 ((u64s x1) ++ ((u64s y1) ++ (u64s z1))) 57, .box bk6 ((u64s x2) ++ ((u64s y2) ++ (u64s z2))) 57, .box bk11 ((u64s (List.replicate 4 0)) ++ ((u64s (List.replicate 4 0)) ++ (u64s (List.replicate 4 0)))) 57, .box bk61 (u64s pz) 24, .box bk85 (u64s qz) 24, .box bk107 (u64s u) 24, .box bk129 (u64s v) 24, .box bk175 (u64s s) 24, .box bk225 (u64s (nd (mulM 2 (nv y2) (nv (nd (mulM 2 (nv pz) (nv z1))))))) 24]) ?_ ?_
   ·
    refine s_g1 [(2, pt bk1), (3, pt bk6), (4, pt bk11), (5, pt bk61), (6, pt bk85), (7, pt bk107), (8, pt bk129), (9, pt bk175)] [0,1,2,3,4,5,6] [(53, .pointer (some ⟨bk6, 4, none⟩)), (54, .agg (List.toArray (u64s y2))), (55, .agg (List.toArray (u64s pz))), (56, .pointer (some ⟨bk1, 8, none⟩)), (57, .agg (List.toArray (u64s z1))), (58, .agg (List.toArray (u64s (nd (mulM 2 (nv pz) (nv z1)))))), (59, .agg (List.toArray (u64s (nd (mulM 2 (nv y2) (nv (nd (mulM 2 (nv pz) (nv z1)))))))))] 1 [(2, pt bk1), (3, pt bk6), (4, pt bk11), (5, pt bk61), (6, pt bk85), (7, pt bk107), (8, pt bk129), (9, pt bk175), (59, .agg (List.toArray (u64s (nd (mulM 2 (nv y2) (nv (nd (mulM 2 (nv pz) (nv z1)))))))))] 7 (u64s (List.replicate 4 0)) (En186.sb) (Hv187.trans (Ev.drew Hv187.heap)) ?_ fun ac221 wo222 bk225 En223 Hv224 => ?_
    ·
     refine s_p [] ?_
     refine s_a 1 4 4 (u64s y2) rfl (by simp [u64s_lenh hx2, u64s_lenh hy2, u64s_lenh hz2, List.drop_append, List.take_append]) (u64s_lenh hy2) ?_
     refine s_a 3 0 4 (u64s pz) rfl (load_whole (u64s_lenh n_pz)) (u64s_lenh n_pz) ?_
     refine s_p [] ?_
     refine s_a 0 8 4 (u64s z1) rfl (by simp [u64s_lenh hx1, u64s_lenh hy1, u64s_lenh hz1, List.drop_append, List.take_append, List.take_of_length_le]) (u64s_lenh hz1) ?_
     refine s_f (fun _ => dmul_go _ pz z1 n_pz hz1) ?_
     refine s_f (fun _ => dmul_go _ y2 (nd (mulM 2 (nv pz) (nv z1))) hy2 (nds_len _ _)) ?_
     exact s_n
    refine q_u 8 ?_
    refine m_g 8 0 4 (u64s (nd (mulM 2 (nv y2) (nv (nd (mulM 2 (nv pz) (nv z1))))))) (u64s (nd (mulM 2 (nv y2) (nv (nd (mulM 2 (nv pz) (nv z1))))))) [.box bk1 ((u64s x1) ++ ((u64s y1) ++ (u64s z1))) 57, .box bk6 ((u64s x2) ++ ((u64s y2) ++ (u64s z2))) 57, .box bk11 ((u64s (List.replicate 4 0)) ++ ((u64s (List.replicate 4 0)) ++ (u64s (List.replicate 4 0)))) 57, .box bk61 (u64s pz) 24, .box bk85 (u64s qz) 24, .box bk107 (u64s u) 24, .box bk129 (u64s v) 24, .box bk175 (u64s s) 24, .box bk225 (u64s (nd (mulM 2 (nv y2) (nv (nd (mulM 2 (nv pz) (nv z1))))))) 24] En223 Hv224 rfl (u64s_lenh (nds_len _ _)) (by rw [(u64s_lenh (List.length_replicate))]; decide) (u64s_one _) (store_whole (u64s_lenh (List.length_replicate))) rfl fun ac230 wo231 En232 Hv233 => ?_
    exact a_e ⟨bk225, En232.sb, Hv233.pk [0, 1, 2, 3, 4, 5, 6, 7, 8]⟩
   rintro ac234 wo235 ⟨bk225, En236, Hv237⟩
   obtain ⟨t, h_t⟩ : ∃ q : List UInt64, q = nd (mulM 2 (nv y2) (nv (nd (mulM 2 (nv pz) (nv z1))))) := ⟨_, rfl⟩
   rw [← h_t] at Hv237
   have n_t : List.length t = 4 := by rw [h_t]; exact nds_len _ _
   refine then_normal ?_
   refine wp_seq ?_
   refine wp_seq ?_
   refine region_from ?_
   refine f_o ?_
   refine m_a 5 0 4 (u64s u) En236 Hv237 rfl (load_whole (u64s_lenh n_u)) (u64s_lenh n_u) fun ac238 En239 => ?_
   refine f_o ?_
   refine m_a 6 0 4 (u64s v) En239 Hv237 rfl (load_whole (u64s_lenh n_v)) (u64s_lenh n_v) fun ac240 En241 => ?_
   refine f_o ?_
   refine q_v (x := eqOp .eql 24 (.tmp 60) (.tmp 61) (.agg (List.toArray (u64s u))) (.agg (List.toArray (u64s v)))) (v := .bool (u == v)) En241 (Go.Dbr.u64s_eqop (a := (.tmp 60)) (b := (.tmp 61)) (e := 22) (m := 4) (by kernel_rfl) (by kernel_rfl) (by kernel_rfl) (by kernel_rfl) (by kernel_rfl) n_u n_v _) fun ac242 En243 => ?_
   refine f_e ?_
   refine then_normal ?_
   refine cond_at En243 (t := u == v) (by kernel_rfl) (fun hc244 => ?_) (fun hc244 => ?_)
   ·
    replace hc244 : u = v := eq_of_beq hc244
    refine wp_seq ?_
    refine wp_seq ?_
    refine region_from ?_
    refine f_o ?_
    refine m_a 7 0 4 (u64s s) En243 Hv237 rfl (load_whole (u64s_lenh n_s)) (u64s_lenh n_s) fun ac245 En246 => ?_
    refine f_o ?_
    refine m_a 8 0 4 (u64s t) En246 Hv237 rfl (load_whole (u64s_lenh n_t)) (u64s_lenh n_t) fun ac247 En248 => ?_
    refine f_o ?_
    refine q_v (x := eqOp .neq 24 (.tmp 63) (.tmp 64) (.agg (List.toArray (u64s s))) (.agg (List.toArray (u64s t)))) (v := .bool (!(s == t))) En248 (Go.Dbr.u64s_neop (a := (.tmp 63)) (b := (.tmp 64)) (e := 22) (m := 4) (by kernel_rfl) (by kernel_rfl) (by kernel_rfl) (by kernel_rfl) (by kernel_rfl) n_s n_t _) fun ac249 En250 => ?_
    refine f_e ?_
    refine then_normal ?_
    refine cond_at En250 (t := !(s == t)) (by kernel_rfl) (fun hc251 => ?_) (fun hc251 => ?_)
    ·
     replace hc251 : ¬ (s = t) := by simpa using hc251
     refine wp_seq ?_
     refine region_from ?_
     refine d_k [2,3,4,5,6,7,8,9,10,66,67] [] 2 En250 fun ac252 En253 => ?_
     refine f_o ?_
     refine q_v (x := Instr.build 57 #[(0, .agg (List.toArray (u64s ([1, 0, 0, 0] : List UInt64)))), (1, .agg (List.toArray (u64s ([1, 0, 0, 0] : List UInt64))))]) (v := .agg (List.toArray ((u64s ([1, 0, 0, 0] : List UInt64)) ++ ((u64s ([1, 0, 0, 0] : List UInt64)) ++ (u64s (List.replicate 4 0)))))) En253 (Go.Dbr.run_built [(0, 4), (4, 4), (8, 4)] [⟨4, u64s (List.replicate 4 0), some (0, .agg (List.toArray (u64s ([1, 0, 0, 0] : List UInt64))), u64s ([1, 0, 0, 0] : List UInt64))⟩, ⟨4, u64s (List.replicate 4 0), some (1, .agg (List.toArray (u64s ([1, 0, 0, 0] : List UInt64))), u64s ([1, 0, 0, 0] : List UInt64))⟩, ⟨4, u64s (List.replicate 4 0), none⟩] (fb_y (u64s_lenh (List.length_replicate)) (u64s_lenh (show List.length ([1, 0, 0, 0] : List UInt64) = 4 from rfl)) (fb_y (u64s_lenh (List.length_replicate)) (u64s_lenh (show List.length ([1, 0, 0, 0] : List UInt64) = 4 from rfl)) (fb_n (u64s_lenh (List.length_replicate)) trivial))) _) fun ac254 En255 => ?_
     refine f_o ?_
     refine m_g 2 0 12 ((u64s ([1, 0, 0, 0] : List UInt64)) ++ ((u64s ([1, 0, 0, 0] : List UInt64)) ++ (u64s (List.replicate 4 0)))) ((u64s ([1, 0, 0, 0] : List UInt64)) ++ ((u64s ([1, 0, 0, 0] : List UInt64)) ++ (u64s (List.replicate 4 0)))) [.box bk1 ((u64s x1) ++ ((u64s y1) ++ (u64s z1))) 57, .box bk6 ((u64s x2) ++ ((u64s y2) ++ (u64s z2))) 57, .box bk11 ((u64s ([1, 0, 0, 0] : List UInt64)) ++ ((u64s ([1, 0, 0, 0] : List UInt64)) ++ (u64s (List.replicate 4 0)))) 57, .box bk61 (u64s pz) 24, .box bk85 (u64s qz) 24, .box bk107 (u64s u) 24, .box bk129 (u64s v) 24, .box bk175 (u64s s) 24, .box bk225 (u64s t) 24] En255 Hv237 rfl (len_app (u64s_lenh (show List.length ([1, 0, 0, 0] : List UInt64) = 4 from rfl)) (len_app (u64s_lenh (show List.length ([1, 0, 0, 0] : List UInt64) = 4 from rfl)) (u64s_lenh (List.length_replicate)))) (by rw [(len_app (u64s_lenh (List.length_replicate)) (len_app (u64s_lenh (List.length_replicate)) (u64s_lenh (List.length_replicate))))]; decide) (one_app (u64s_one _) (one_app (u64s_one _) (u64s_one _))) (store_whole (len_app (u64s_lenh (List.length_replicate)) (len_app (u64s_lenh (List.length_replicate)) (u64s_lenh (List.length_replicate))))) rfl fun ac256 wo257 En258 Hv259 => ?_
     refine f_e ?_
     refine then_normal ?_
     refine wp_ret ?_
     refine then_ret ?_
     refine then_ret ?_
     refine d_cell1 (v := .agg (List.toArray ((u64s ([1, 0, 0, 0] : List UInt64)) ++ ((u64s ([1, 0, 0, 0] : List UInt64)) ++ (u64s (List.replicate 4 0)))))) (t := 4) (T := 57) (ad := ⟨bk11, 0, none⟩) En258 (by kernel_rfl) (by kernel_rfl) (Ev.cellAgg (t := 57) (k := 2) (off := 0) (m := 12) (xs := (u64s ([1, 0, 0, 0] : List UInt64)) ++ ((u64s ([1, 0, 0, 0] : List UInt64)) ++ (u64s (List.replicate 4 0)))) Hv259 rfl (load_whole (len_app (u64s_lenh (show List.length ([1, 0, 0, 0] : List UInt64) = 4 from rfl)) (len_app (u64s_lenh (show List.length ([1, 0, 0, 0] : List UInt64) = 4 from rfl)) (u64s_lenh (List.length_replicate))))) (len_app (u64s_lenh (show List.length ([1, 0, 0, 0] : List UInt64) = 4 from rfl)) (len_app (u64s_lenh (show List.length ([1, 0, 0, 0] : List UInt64) = 4 from rfl)) (u64s_lenh (List.length_replicate)))) (by kernel_rfl) (by kernel_rfl)) ?_
     have g1 : (z1 == z4) = false := beq_f hc24
     have g2 : (z2 == z4) = false := beq_f hc39
     have e0 : one3 = jpL (x1, y1, z1) (x2, y2, z2) := by
      subst h_t h_s h_v h_u h_qz h_pz
      have g3 : (nd (puN (nv x1) (nv z2)) == nd (puN (nv x2) (nv z1))) = true := by
       have k := hc244
       simp only [nv_m2] at k
       unfold puN
       exact beq_t k
      have g4 : (nd (psN (nv y1) (nv z2)) == nd (psN (nv y2) (nv z1))) = false := by
       have k := hc251
       simp only [nv_m2] at k
       unfold psN
       exact beq_f (by simpa using k)
      simp only [jpL, g1, g2, g3, g4, Bool.cond_true, Bool.cond_false]
     exact ⟨ret_t3 e0, Hv259.pk []⟩
    ·
     replace hc251 : s = t := by simpa using hc251
     refine wp_skip ?_
     refine then_normal ?_
     refine wp_seq ?_
     refine region_from ?_
     refine f_o ?_
     refine m_a 0 0 12 ((u64s x1) ++ ((u64s y1) ++ (u64s z1))) En250 Hv237 rfl (load_whole (len_app (u64s_lenh hx1) (len_app (u64s_lenh hy1) (u64s_lenh hz1)))) (len_app (u64s_lenh hx1) (len_app (u64s_lenh hy1) (u64s_lenh hz1))) fun ac260 En261 => ?_
     refine f_o ?_
     refine c_p En261 Hv237 (dtwice_go _ x1 y1 z1 hx1 hy1 hz1) fun ac266 wo263 En267 Hv268 => ?_
     refine f_o ?_
     refine m_g 2 0 12 ((u64s ((jtL (x1, y1, z1)).1)) ++ ((u64s ((jtL (x1, y1, z1)).2.1)) ++ (u64s ((jtL (x1, y1, z1)).2.2)))) ((u64s ((jtL (x1, y1, z1)).1)) ++ ((u64s ((jtL (x1, y1, z1)).2.1)) ++ (u64s ((jtL (x1, y1, z1)).2.2)))) [.box bk1 ((u64s x1) ++ ((u64s y1) ++ (u64s z1))) 57, .box bk6 ((u64s x2) ++ ((u64s y2) ++ (u64s z2))) 57, .box bk11 ((u64s ((jtL (x1, y1, z1)).1)) ++ ((u64s ((jtL (x1, y1, z1)).2.1)) ++ (u64s ((jtL (x1, y1, z1)).2.2)))) 57, .box bk61 (u64s pz) 24, .box bk85 (u64s qz) 24, .box bk107 (u64s u) 24, .box bk129 (u64s v) 24, .box bk175 (u64s s) 24, .box bk225 (u64s t) 24] En267 Hv268 rfl (len_app (u64s_lenh (jtL_len (x1, y1, z1)).x) (len_app (u64s_lenh (jtL_len (x1, y1, z1)).y) (u64s_lenh (jtL_len (x1, y1, z1)).z))) (by rw [(len_app (u64s_lenh (List.length_replicate)) (len_app (u64s_lenh (List.length_replicate)) (u64s_lenh (List.length_replicate))))]; decide) (one_app (u64s_one _) (one_app (u64s_one _) (u64s_one _))) (store_whole (len_app (u64s_lenh (List.length_replicate)) (len_app (u64s_lenh (List.length_replicate)) (u64s_lenh (List.length_replicate))))) rfl fun ac269 wo270 En271 Hv272 => ?_
     refine f_e ?_
     refine then_normal ?_
     refine wp_ret ?_
     refine then_ret ?_
     refine d_cell1 (v := .agg (List.toArray ((u64s ((jtL (x1, y1, z1)).1)) ++ ((u64s ((jtL (x1, y1, z1)).2.1)) ++ (u64s ((jtL (x1, y1, z1)).2.2)))))) (t := 4) (T := 57) (ad := ⟨bk11, 0, none⟩) En271 (by kernel_rfl) (by kernel_rfl) (Ev.cellAgg (t := 57) (k := 2) (off := 0) (m := 12) (xs := (u64s ((jtL (x1, y1, z1)).1)) ++ ((u64s ((jtL (x1, y1, z1)).2.1)) ++ (u64s ((jtL (x1, y1, z1)).2.2)))) Hv272 rfl (load_whole (len_app (u64s_lenh (jtL_len (x1, y1, z1)).x) (len_app (u64s_lenh (jtL_len (x1, y1, z1)).y) (u64s_lenh (jtL_len (x1, y1, z1)).z)))) (len_app (u64s_lenh (jtL_len (x1, y1, z1)).x) (len_app (u64s_lenh (jtL_len (x1, y1, z1)).y) (u64s_lenh (jtL_len (x1, y1, z1)).z))) (by kernel_rfl) (by kernel_rfl)) ?_
     have g1 : (z1 == z4) = false := beq_f hc24
     have g2 : (z2 == z4) = false := beq_f hc39
     have e0 : jtL (x1, y1, z1) = jpL (x1, y1, z1) (x2, y2, z2) := by
      subst h_t h_s h_v h_u h_qz h_pz
      have g3 : (nd (puN (nv x1) (nv z2)) == nd (puN (nv x2) (nv z1))) = true := by
       have k := hc244
       simp only [nv_m2] at k
       unfold puN
       exact beq_t k
      have g4 : (nd (psN (nv y1) (nv z2)) == nd (psN (nv y2) (nv z1))) = true := by
       have k := hc251
       simp only [nv_m2] at k
       unfold psN
       exact beq_t (by simpa using k)
      simp only [jpL, g1, g2, g3, g4, Bool.cond_true, Bool.cond_false]
     exact ⟨ret_t3 e0, Hv272.pk []⟩
   ·
    replace hc244 : ¬ (u = v) := ne_of_beq_false hc244
    refine wp_skip ?_
    refine then_normal ?_
    refine wp_seq ?_
    refine region_from ?_
    refine f_o ?_
    refine m_a 6 0 4 (u64s v) En243 Hv237 rfl (load_whole (u64s_lenh n_v)) (u64s_lenh n_v) fun ac273 En274 => ?_
    refine f_o ?_
    refine m_a 5 0 4 (u64s u) En274 Hv237 rfl (load_whole (u64s_lenh n_u)) (u64s_lenh n_u) fun ac275 En276 => ?_
    refine f_o ?_
    refine c_p En276 Hv237 (dsub_go _ v u n_v n_u) fun ac281 wo278 En282 Hv283 => ?_
    refine f_o ?_
    refine m_z 24 (u64s (List.replicate 4 0)) En282 Hv283 fun ac285 wo286 bk284 En287 Hv288 => ?_
    refine f_o ?_
    refine m_g 9 0 4 (u64s (nd (subM 2 (nv v) (nv u)))) (u64s (nd (subM 2 (nv v) (nv u)))) [.box bk1 ((u64s x1) ++ ((u64s y1) ++ (u64s z1))) 57, .box bk6 ((u64s x2) ++ ((u64s y2) ++ (u64s z2))) 57, .box bk11 ((u64s (List.replicate 4 0)) ++ ((u64s (List.replicate 4 0)) ++ (u64s (List.replicate 4 0)))) 57, .box bk61 (u64s pz) 24, .box bk85 (u64s qz) 24, .box bk107 (u64s u) 24, .box bk129 (u64s v) 24, .box bk175 (u64s s) 24, .box bk225 (u64s t) 24, .box bk284 (u64s (nd (subM 2 (nv v) (nv u)))) 24] En287 Hv288 rfl (u64s_lenh (nds_len _ _)) (by rw [(u64s_lenh (List.length_replicate))]; decide) (u64s_one _) (store_whole (u64s_lenh (List.length_replicate))) rfl fun ac289 wo290 En291 Hv292 => ?_
    refine f_e ?_
    obtain ⟨h, h_h⟩ : ∃ q : List UInt64, q = nd (subM 2 (nv v) (nv u)) := ⟨_, rfl⟩
    rw [← h_h] at Hv292
    have n_h : List.length h = 4 := by rw [h_h]; exact nds_len _ _
    refine then_normal ?_
    refine wp_seq ?_
    refine region_from ?_
    refine f_o ?_
    refine m_a 8 0 4 (u64s t) En291 Hv292 rfl (load_whole (u64s_lenh n_t)) (u64s_lenh n_t) fun ac293 En294 => ?_
    refine f_o ?_
    refine m_a 7 0 4 (u64s s) En294 Hv292 rfl (load_whole (u64s_lenh n_s)) (u64s_lenh n_s) fun ac295 En296 => ?_
    refine f_o ?_
    refine c_p En296 Hv292 (dsub_go _ t s n_t n_s) fun ac301 wo298 En302 Hv303 => ?_
    refine f_o ?_
    refine m_z 24 (u64s (List.replicate 4 0)) En302 Hv303 fun ac305 wo306 bk304 En307 Hv308 => ?_
    refine f_o ?_
    refine m_g 10 0 4 (u64s (nd (subM 2 (nv t) (nv s)))) (u64s (nd (subM 2 (nv t) (nv s)))) [.box bk1 ((u64s x1) ++ ((u64s y1) ++ (u64s z1))) 57, .box bk6 ((u64s x2) ++ ((u64s y2) ++ (u64s z2))) 57, .box bk11 ((u64s (List.replicate 4 0)) ++ ((u64s (List.replicate 4 0)) ++ (u64s (List.replicate 4 0)))) 57, .box bk61 (u64s pz) 24, .box bk85 (u64s qz) 24, .box bk107 (u64s u) 24, .box bk129 (u64s v) 24, .box bk175 (u64s s) 24, .box bk225 (u64s t) 24, .box bk284 (u64s h) 24, .box bk304 (u64s (nd (subM 2 (nv t) (nv s)))) 24] En307 Hv308 rfl (u64s_lenh (nds_len _ _)) (by rw [(u64s_lenh (List.length_replicate))]; decide) (u64s_one _) (store_whole (u64s_lenh (List.length_replicate))) rfl fun ac309 wo310 En311 Hv312 => ?_
    refine f_e ?_
    obtain ⟨r, h_r⟩ : ∃ q : List UInt64, q = nd (subM 2 (nv t) (nv s)) := ⟨_, rfl⟩
    rw [← h_r] at Hv312
    have n_r : List.length r = 4 := by rw [h_r]; exact nds_len _ _
    refine then_normal ?_
    refine wp_seq ?_
    refine region_from ?_
    refine f_o ?_
    refine m_a 9 0 4 (u64s h) En311 Hv312 rfl (load_whole (u64s_lenh n_h)) (u64s_lenh n_h) fun ac313 En314 => ?_
    refine f_o ?_
    refine m_a 9 0 4 (u64s h) En314 Hv312 rfl (load_whole (u64s_lenh n_h)) (u64s_lenh n_h) fun ac315 En316 => ?_
    refine f_o ?_
    refine c_p En316 Hv312 (dmul_go _ h h n_h n_h) fun ac321 wo318 En322 Hv323 => ?_
    refine f_o ?_
    refine m_z 24 (u64s (List.replicate 4 0)) En322 Hv323 fun ac325 wo326 bk324 En327 Hv328 => ?_
    refine f_o ?_
    refine m_g 11 0 4 (u64s (nd (mulM 2 (nv h) (nv h)))) (u64s (nd (mulM 2 (nv h) (nv h)))) [.box bk1 ((u64s x1) ++ ((u64s y1) ++ (u64s z1))) 57, .box bk6 ((u64s x2) ++ ((u64s y2) ++ (u64s z2))) 57, .box bk11 ((u64s (List.replicate 4 0)) ++ ((u64s (List.replicate 4 0)) ++ (u64s (List.replicate 4 0)))) 57, .box bk61 (u64s pz) 24, .box bk85 (u64s qz) 24, .box bk107 (u64s u) 24, .box bk129 (u64s v) 24, .box bk175 (u64s s) 24, .box bk225 (u64s t) 24, .box bk284 (u64s h) 24, .box bk304 (u64s r) 24, .box bk324 (u64s (nd (mulM 2 (nv h) (nv h)))) 24] En327 Hv328 rfl (u64s_lenh (nds_len _ _)) (by rw [(u64s_lenh (List.length_replicate))]; decide) (u64s_one _) (store_whole (u64s_lenh (List.length_replicate))) rfl fun ac329 wo330 En331 Hv332 => ?_
    refine f_e ?_
    obtain ⟨hh, h_hh⟩ : ∃ q : List UInt64, q = nd (mulM 2 (nv h) (nv h)) := ⟨_, rfl⟩
    rw [← h_hh] at Hv332
    have n_hh : List.length hh = 4 := by rw [h_hh]; exact nds_len _ _
    refine then_normal ?_
    refine wp_seq ?_
    refine region_from ?_
    refine f_o ?_
    refine m_a 11 0 4 (u64s hh) En331 Hv332 rfl (load_whole (u64s_lenh n_hh)) (u64s_lenh n_hh) fun ac333 En334 => ?_
    refine f_o ?_
    refine m_a 9 0 4 (u64s h) En334 Hv332 rfl (load_whole (u64s_lenh n_h)) (u64s_lenh n_h) fun ac335 En336 => ?_
    refine f_o ?_
    refine c_p En336 Hv332 (dmul_go _ hh h n_hh n_h) fun ac341 wo338 En342 Hv343 => ?_
    refine f_o ?_
    refine m_z 24 (u64s (List.replicate 4 0)) En342 Hv343 fun ac345 wo346 bk344 En347 Hv348 => ?_
    refine f_o ?_
    refine m_g 12 0 4 (u64s (nd (mulM 2 (nv hh) (nv h)))) (u64s (nd (mulM 2 (nv hh) (nv h)))) [.box bk1 ((u64s x1) ++ ((u64s y1) ++ (u64s z1))) 57, .box bk6 ((u64s x2) ++ ((u64s y2) ++ (u64s z2))) 57, .box bk11 ((u64s (List.replicate 4 0)) ++ ((u64s (List.replicate 4 0)) ++ (u64s (List.replicate 4 0)))) 57, .box bk61 (u64s pz) 24, .box bk85 (u64s qz) 24, .box bk107 (u64s u) 24, .box bk129 (u64s v) 24, .box bk175 (u64s s) 24, .box bk225 (u64s t) 24, .box bk284 (u64s h) 24, .box bk304 (u64s r) 24, .box bk324 (u64s hh) 24, .box bk344 (u64s (nd (mulM 2 (nv hh) (nv h)))) 24] En347 Hv348 rfl (u64s_lenh (nds_len _ _)) (by rw [(u64s_lenh (List.length_replicate))]; decide) (u64s_one _) (store_whole (u64s_lenh (List.length_replicate))) rfl fun ac349 wo350 En351 Hv352 => ?_
    refine f_e ?_
    obtain ⟨hhh, h_hhh⟩ : ∃ q : List UInt64, q = nd (mulM 2 (nv hh) (nv h)) := ⟨_, rfl⟩
    rw [← h_hhh] at Hv352
    have n_hhh : List.length hhh = 4 := by rw [h_hhh]; exact nds_len _ _
    refine then_normal ?_
    refine wp_seq ?_
    refine region_from ?_
    refine f_o ?_
    refine m_a 5 0 4 (u64s u) En351 Hv352 rfl (load_whole (u64s_lenh n_u)) (u64s_lenh n_u) fun ac353 En354 => ?_
    refine f_o ?_
    refine m_a 11 0 4 (u64s hh) En354 Hv352 rfl (load_whole (u64s_lenh n_hh)) (u64s_lenh n_hh) fun ac355 En356 => ?_
    refine f_o ?_
    refine c_p En356 Hv352 (dmul_go _ u hh n_u n_hh) fun ac361 wo358 En362 Hv363 => ?_
    refine f_o ?_
    refine m_z 24 (u64s (List.replicate 4 0)) En362 Hv363 fun ac365 wo366 bk364 En367 Hv368 => ?_
    refine f_o ?_
    refine m_g 13 0 4 (u64s (nd (mulM 2 (nv u) (nv hh)))) (u64s (nd (mulM 2 (nv u) (nv hh)))) [.box bk1 ((u64s x1) ++ ((u64s y1) ++ (u64s z1))) 57, .box bk6 ((u64s x2) ++ ((u64s y2) ++ (u64s z2))) 57, .box bk11 ((u64s (List.replicate 4 0)) ++ ((u64s (List.replicate 4 0)) ++ (u64s (List.replicate 4 0)))) 57, .box bk61 (u64s pz) 24, .box bk85 (u64s qz) 24, .box bk107 (u64s u) 24, .box bk129 (u64s v) 24, .box bk175 (u64s s) 24, .box bk225 (u64s t) 24, .box bk284 (u64s h) 24, .box bk304 (u64s r) 24, .box bk324 (u64s hh) 24, .box bk344 (u64s hhh) 24, .box bk364 (u64s (nd (mulM 2 (nv u) (nv hh)))) 24] En367 Hv368 rfl (u64s_lenh (nds_len _ _)) (by rw [(u64s_lenh (List.length_replicate))]; decide) (u64s_one _) (store_whole (u64s_lenh (List.length_replicate))) rfl fun ac369 wo370 En371 Hv372 => ?_
    refine f_e ?_
    obtain ⟨ww, h_ww⟩ : ∃ q : List UInt64, q = nd (mulM 2 (nv u) (nv hh)) := ⟨_, rfl⟩
    rw [← h_ww] at Hv372
    have n_ww : List.length ww = 4 := by rw [h_ww]; exact nds_len _ _
    refine then_normal ?_
    refine wp_seq ?_
    refine r_c (fun ac wo => ∃ (bk438 : Nat), Env ac 114 [(2, pt bk1), (3, pt bk6), (4, pt bk11), (5, pt bk61), (6, pt bk85), (7, pt bk107), (8, pt bk129), (9, pt bk175), (10, pt bk225), (11, pt bk284), (12, pt bk304), (13, pt bk324), (14, pt bk344), (15, pt bk364), (16, pt bk438)] ∧ Ev w [] wo [.box bk1 ((u64s x1) ++ ((u64s y1) ++ (u64s z1))) 57, .box bk6 ((u64s x2) ++ ((u64s y2) ++ (u64s z2))) 57, .box bk11 ((u64s (List.replicate 4 0)) ++ ((u64s (List.replicate 4 0)) ++ (u64s (List.replicate 4 0)))) 57, .box bk61 (u64s pz) 24, .box bk85 (u64s qz) 24, .box bk107 (u64s u) 24, .box bk129 (u64s v) 24, .box bk175 (u64s s) 24, .box bk225 (u64s t) 24, .box bk284 (u64s h) 24, .box bk304 (u64s r) 24, .box bk324 (u64s hh) 24, .box bk344 (u64s hhh) 24, .box bk364 (u64s ww) 24, .box bk438 (u64s (nd (subM 2 (nv (nd (subM 2 (nv (nd (mulM 2 (nv r) (nv r)))) (nv hhh)))) (nv (nd (addM 2 (nv ww) (nv ww))))))) 24]) ?_ ?_
    ·
     refine s_g1 [(2, pt bk1), (3, pt bk6), (4, pt bk11), (5, pt bk61), (6, pt bk85), (7, pt bk107), (8, pt bk129), (9, pt bk175), (10, pt bk225), (11, pt bk284), (12, pt bk304), (13, pt bk324), (14, pt bk344), (15, pt bk364)] [0,1,2,3,4,5,6,7,8] [(86, .agg (List.toArray (u64s r))), (87, .agg (List.toArray (u64s r))), (88, .agg (List.toArray (u64s (nd (mulM 2 (nv r) (nv r)))))), (89, .agg (List.toArray (u64s hhh))), (90, .agg (List.toArray (u64s (nd (subM 2 (nv (nd (mulM 2 (nv r) (nv r)))) (nv hhh)))))), (91, .agg (List.toArray (u64s ww))), (92, .agg (List.toArray (u64s ww))), (93, .agg (List.toArray (u64s (nd (addM 2 (nv ww) (nv ww)))))), (94, .agg (List.toArray (u64s (nd (subM 2 (nv (nd (subM 2 (nv (nd (mulM 2 (nv r) (nv r)))) (nv hhh)))) (nv (nd (addM 2 (nv ww) (nv ww)))))))))] 1 [(2, pt bk1), (3, pt bk6), (4, pt bk11), (5, pt bk61), (6, pt bk85), (7, pt bk107), (8, pt bk129), (9, pt bk175), (10, pt bk225), (11, pt bk284), (12, pt bk304), (13, pt bk324), (14, pt bk344), (15, pt bk364), (94, .agg (List.toArray (u64s (nd (subM 2 (nv (nd (subM 2 (nv (nd (mulM 2 (nv r) (nv r)))) (nv hhh)))) (nv (nd (addM 2 (nv ww) (nv ww)))))))))] 9 (u64s (List.replicate 4 0)) (En371.sb) (Hv372.trans (Ev.drew Hv372.heap)) ?_ fun ac434 wo435 bk438 En436 Hv437 => ?_
     ·
      refine s_a 10 0 4 (u64s r) rfl (load_whole (u64s_lenh n_r)) (u64s_lenh n_r) ?_
      refine s_a 10 0 4 (u64s r) rfl (load_whole (u64s_lenh n_r)) (u64s_lenh n_r) ?_
      refine s_f (fun _ => dmul_go _ r r n_r n_r) ?_
      refine s_a 12 0 4 (u64s hhh) rfl (load_whole (u64s_lenh n_hhh)) (u64s_lenh n_hhh) ?_
      refine s_f (fun _ => dsub_go _ (nd (mulM 2 (nv r) (nv r))) hhh (nds_len _ _) n_hhh) ?_
      refine s_a 13 0 4 (u64s ww) rfl (load_whole (u64s_lenh n_ww)) (u64s_lenh n_ww) ?_
      refine s_a 13 0 4 (u64s ww) rfl (load_whole (u64s_lenh n_ww)) (u64s_lenh n_ww) ?_
      refine s_f (fun _ => dadd_go _ ww ww n_ww n_ww) ?_
      refine s_f (fun _ => dsub_go _ (nd (subM 2 (nv (nd (mulM 2 (nv r) (nv r)))) (nv hhh))) (nd (addM 2 (nv ww) (nv ww))) (nds_len _ _) (nds_len _ _)) ?_
      exact s_n
     refine q_u 10 ?_
     refine m_g 14 0 4 (u64s (nd (subM 2 (nv (nd (subM 2 (nv (nd (mulM 2 (nv r) (nv r)))) (nv hhh)))) (nv (nd (addM 2 (nv ww) (nv ww))))))) (u64s (nd (subM 2 (nv (nd (subM 2 (nv (nd (mulM 2 (nv r) (nv r)))) (nv hhh)))) (nv (nd (addM 2 (nv ww) (nv ww))))))) [.box bk1 ((u64s x1) ++ ((u64s y1) ++ (u64s z1))) 57, .box bk6 ((u64s x2) ++ ((u64s y2) ++ (u64s z2))) 57, .box bk11 ((u64s (List.replicate 4 0)) ++ ((u64s (List.replicate 4 0)) ++ (u64s (List.replicate 4 0)))) 57, .box bk61 (u64s pz) 24, .box bk85 (u64s qz) 24, .box bk107 (u64s u) 24, .box bk129 (u64s v) 24, .box bk175 (u64s s) 24, .box bk225 (u64s t) 24, .box bk284 (u64s h) 24, .box bk304 (u64s r) 24, .box bk324 (u64s hh) 24, .box bk344 (u64s hhh) 24, .box bk364 (u64s ww) 24, .box bk438 (u64s (nd (subM 2 (nv (nd (subM 2 (nv (nd (mulM 2 (nv r) (nv r)))) (nv hhh)))) (nv (nd (addM 2 (nv ww) (nv ww))))))) 24] En436 Hv437 rfl (u64s_lenh (nds_len _ _)) (by rw [(u64s_lenh (List.length_replicate))]; decide) (u64s_one _) (store_whole (u64s_lenh (List.length_replicate))) rfl fun ac443 wo444 En445 Hv446 => ?_
     exact a_e ⟨bk438, En445.sb, Hv446.pk [0, 1, 2, 3, 4, 5, 6, 7, 8, 9, 10, 11, 12, 13, 14]⟩
    rintro ac447 wo448 ⟨bk438, En449, Hv450⟩
    obtain ⟨x3, h_x3⟩ : ∃ q : List UInt64, q = nd (subM 2 (nv (nd (subM 2 (nv (nd (mulM 2 (nv r) (nv r)))) (nv hhh)))) (nv (nd (addM 2 (nv ww) (nv ww))))) := ⟨_, rfl⟩
    rw [← h_x3] at Hv450
    have n_x3 : List.length x3 = 4 := by rw [h_x3]; exact nds_len _ _
    refine then_normal ?_
    refine wp_seq ?_
    refine r_c (fun ac wo => ∃ (bk516 : Nat), Env ac 114 [(2, pt bk1), (3, pt bk6), (4, pt bk11), (5, pt bk61), (6, pt bk85), (7, pt bk107), (8, pt bk129), (9, pt bk175), (10, pt bk225), (11, pt bk284), (12, pt bk304), (13, pt bk324), (14, pt bk344), (15, pt bk364), (16, pt bk438), (17, pt bk516)] ∧ Ev w [] wo [.box bk1 ((u64s x1) ++ ((u64s y1) ++ (u64s z1))) 57, .box bk6 ((u64s x2) ++ ((u64s y2) ++ (u64s z2))) 57, .box bk11 ((u64s (List.replicate 4 0)) ++ ((u64s (List.replicate 4 0)) ++ (u64s (List.replicate 4 0)))) 57, .box bk61 (u64s pz) 24, .box bk85 (u64s qz) 24, .box bk107 (u64s u) 24, .box bk129 (u64s v) 24, .box bk175 (u64s s) 24, .box bk225 (u64s t) 24, .box bk284 (u64s h) 24, .box bk304 (u64s r) 24, .box bk324 (u64s hh) 24, .box bk344 (u64s hhh) 24, .box bk364 (u64s ww) 24, .box bk438 (u64s x3) 24, .box bk516 (u64s (nd (subM 2 (nv (nd (mulM 2 (nv r) (nv (nd (subM 2 (nv ww) (nv x3))))))) (nv (nd (mulM 2 (nv s) (nv hhh))))))) 24]) ?_ ?_
    ·
     refine s_g1 [(2, pt bk1), (3, pt bk6), (4, pt bk11), (5, pt bk61), (6, pt bk85), (7, pt bk107), (8, pt bk129), (9, pt bk175), (10, pt bk225), (11, pt bk284), (12, pt bk304), (13, pt bk324), (14, pt bk344), (15, pt bk364), (16, pt bk438)] [0,1,2,3,4,5,6,7,8] [(95, .agg (List.toArray (u64s r))), (96, .agg (List.toArray (u64s ww))), (97, .agg (List.toArray (u64s x3))), (98, .agg (List.toArray (u64s (nd (subM 2 (nv ww) (nv x3)))))), (99, .agg (List.toArray (u64s (nd (mulM 2 (nv r) (nv (nd (subM 2 (nv ww) (nv x3))))))))), (100, .agg (List.toArray (u64s s))), (101, .agg (List.toArray (u64s hhh))), (102, .agg (List.toArray (u64s (nd (mulM 2 (nv s) (nv hhh)))))), (103, .agg (List.toArray (u64s (nd (subM 2 (nv (nd (mulM 2 (nv r) (nv (nd (subM 2 (nv ww) (nv x3))))))) (nv (nd (mulM 2 (nv s) (nv hhh)))))))))] 1 [(2, pt bk1), (3, pt bk6), (4, pt bk11), (5, pt bk61), (6, pt bk85), (7, pt bk107), (8, pt bk129), (9, pt bk175), (10, pt bk225), (11, pt bk284), (12, pt bk304), (13, pt bk324), (14, pt bk344), (15, pt bk364), (16, pt bk438), (103, .agg (List.toArray (u64s (nd (subM 2 (nv (nd (mulM 2 (nv r) (nv (nd (subM 2 (nv ww) (nv x3))))))) (nv (nd (mulM 2 (nv s) (nv hhh)))))))))] 9 (u64s (List.replicate 4 0)) (En449.sb) (Hv450.trans (Ev.drew Hv450.heap)) ?_ fun ac512 wo513 bk516 En514 Hv515 => ?_
     ·
      refine s_a 10 0 4 (u64s r) rfl (load_whole (u64s_lenh n_r)) (u64s_lenh n_r) ?_
      refine s_a 13 0 4 (u64s ww) rfl (load_whole (u64s_lenh n_ww)) (u64s_lenh n_ww) ?_
      refine s_a 14 0 4 (u64s x3) rfl (load_whole (u64s_lenh n_x3)) (u64s_lenh n_x3) ?_
      refine s_f (fun _ => dsub_go _ ww x3 n_ww n_x3) ?_
      refine s_f (fun _ => dmul_go _ r (nd (subM 2 (nv ww) (nv x3))) n_r (nds_len _ _)) ?_
      refine s_a 7 0 4 (u64s s) rfl (load_whole (u64s_lenh n_s)) (u64s_lenh n_s) ?_
      refine s_a 12 0 4 (u64s hhh) rfl (load_whole (u64s_lenh n_hhh)) (u64s_lenh n_hhh) ?_
      refine s_f (fun _ => dmul_go _ s hhh n_s n_hhh) ?_
      refine s_f (fun _ => dsub_go _ (nd (mulM 2 (nv r) (nv (nd (subM 2 (nv ww) (nv x3)))))) (nd (mulM 2 (nv s) (nv hhh))) (nds_len _ _) (nds_len _ _)) ?_
      exact s_n
     refine q_u 10 ?_
     refine m_g 15 0 4 (u64s (nd (subM 2 (nv (nd (mulM 2 (nv r) (nv (nd (subM 2 (nv ww) (nv x3))))))) (nv (nd (mulM 2 (nv s) (nv hhh))))))) (u64s (nd (subM 2 (nv (nd (mulM 2 (nv r) (nv (nd (subM 2 (nv ww) (nv x3))))))) (nv (nd (mulM 2 (nv s) (nv hhh))))))) [.box bk1 ((u64s x1) ++ ((u64s y1) ++ (u64s z1))) 57, .box bk6 ((u64s x2) ++ ((u64s y2) ++ (u64s z2))) 57, .box bk11 ((u64s (List.replicate 4 0)) ++ ((u64s (List.replicate 4 0)) ++ (u64s (List.replicate 4 0)))) 57, .box bk61 (u64s pz) 24, .box bk85 (u64s qz) 24, .box bk107 (u64s u) 24, .box bk129 (u64s v) 24, .box bk175 (u64s s) 24, .box bk225 (u64s t) 24, .box bk284 (u64s h) 24, .box bk304 (u64s r) 24, .box bk324 (u64s hh) 24, .box bk344 (u64s hhh) 24, .box bk364 (u64s ww) 24, .box bk438 (u64s x3) 24, .box bk516 (u64s (nd (subM 2 (nv (nd (mulM 2 (nv r) (nv (nd (subM 2 (nv ww) (nv x3))))))) (nv (nd (mulM 2 (nv s) (nv hhh))))))) 24] En514 Hv515 rfl (u64s_lenh (nds_len _ _)) (by rw [(u64s_lenh (List.length_replicate))]; decide) (u64s_one _) (store_whole (u64s_lenh (List.length_replicate))) rfl fun ac521 wo522 En523 Hv524 => ?_
     exact a_e ⟨bk516, En523.sb, Hv524.pk [0, 1, 2, 3, 4, 5, 6, 7, 8, 9, 10, 11, 12, 13, 14, 15]⟩
    rintro ac525 wo526 ⟨bk516, En527, Hv528⟩
    obtain ⟨y3, h_y3⟩ : ∃ q : List UInt64, q = nd (subM 2 (nv (nd (mulM 2 (nv r) (nv (nd (subM 2 (nv ww) (nv x3))))))) (nv (nd (mulM 2 (nv s) (nv hhh))))) := ⟨_, rfl⟩
    rw [← h_y3] at Hv528
    have n_y3 : List.length y3 = 4 := by rw [h_y3]; exact nds_len _ _
    refine then_normal ?_
    refine wp_seq ?_
    refine r_c (fun ac wo => Env ac 114 [(2, pt bk1), (3, pt bk6), (4, pt bk11), (5, pt bk61), (6, pt bk85), (7, pt bk107), (8, pt bk129), (9, pt bk175), (10, pt bk225), (11, pt bk284), (12, pt bk304), (13, pt bk324), (14, pt bk344), (15, pt bk364), (16, pt bk438), (17, pt bk516)] ∧ Ev w [] wo [.box bk1 ((u64s x1) ++ ((u64s y1) ++ (u64s z1))) 57, .box bk6 ((u64s x2) ++ ((u64s y2) ++ (u64s z2))) 57, .box bk11 ((u64s x3) ++ ((u64s y3) ++ (u64s (nd (mulM 2 (nv h) (nv (nd (mulM 2 (nv z1) (nv z2))))))))) 57, .box bk61 (u64s pz) 24, .box bk85 (u64s qz) 24, .box bk107 (u64s u) 24, .box bk129 (u64s v) 24, .box bk175 (u64s s) 24, .box bk225 (u64s t) 24, .box bk284 (u64s h) 24, .box bk304 (u64s r) 24, .box bk324 (u64s hh) 24, .box bk344 (u64s hhh) 24, .box bk364 (u64s ww) 24, .box bk438 (u64s x3) 24, .box bk516 (u64s y3) 24]) ?_ ?_
    ·
     refine s_g0 [(2, pt bk1), (3, pt bk6), (4, pt bk11), (5, pt bk61), (6, pt bk85), (7, pt bk107), (8, pt bk129), (9, pt bk175), (10, pt bk225), (11, pt bk284), (12, pt bk304), (13, pt bk324), (14, pt bk344), (15, pt bk364), (16, pt bk438), (17, pt bk516)] [0,1,2,3,4,5,6,7,8,9] [(104, .agg (List.toArray (u64s x3))), (105, .agg (List.toArray (u64s y3))), (106, .agg (List.toArray (u64s h))), (107, .pointer (some ⟨bk1, 8, none⟩)), (108, .agg (List.toArray (u64s z1))), (109, .pointer (some ⟨bk6, 8, none⟩)), (110, .agg (List.toArray (u64s z2))), (111, .agg (List.toArray (u64s (nd (mulM 2 (nv z1) (nv z2)))))), (112, .agg (List.toArray (u64s (nd (mulM 2 (nv h) (nv (nd (mulM 2 (nv z1) (nv z2))))))))), (113, .agg (List.toArray ((u64s x3) ++ ((u64s y3) ++ (u64s (nd (mulM 2 (nv h) (nv (nd (mulM 2 (nv z1) (nv z2)))))))))))] 1 [(2, pt bk1), (3, pt bk6), (4, pt bk11), (5, pt bk61), (6, pt bk85), (7, pt bk107), (8, pt bk129), (9, pt bk175), (10, pt bk225), (11, pt bk284), (12, pt bk304), (13, pt bk324), (14, pt bk344), (15, pt bk364), (16, pt bk438), (17, pt bk516), (113, .agg (List.toArray ((u64s x3) ++ ((u64s y3) ++ (u64s (nd (mulM 2 (nv h) (nv (nd (mulM 2 (nv z1) (nv z2)))))))))))] (En527.sb) (Hv528.trans (Ev.drew Hv528.heap)) ?_ fun ac579 wo580 En581 Hv582 => ?_
     ·
      refine s_a 14 0 4 (u64s x3) rfl (load_whole (u64s_lenh n_x3)) (u64s_lenh n_x3) ?_
      refine s_a 15 0 4 (u64s y3) rfl (load_whole (u64s_lenh n_y3)) (u64s_lenh n_y3) ?_
      refine s_a 9 0 4 (u64s h) rfl (load_whole (u64s_lenh n_h)) (u64s_lenh n_h) ?_
      refine s_p [] ?_
      refine s_a 0 8 4 (u64s z1) rfl (by simp [u64s_lenh hx1, u64s_lenh hy1, u64s_lenh hz1, List.drop_append, List.take_append, List.take_of_length_le]) (u64s_lenh hz1) ?_
      refine s_p [] ?_
      refine s_a 1 8 4 (u64s z2) rfl (by simp [u64s_lenh hx2, u64s_lenh hy2, u64s_lenh hz2, List.drop_append, List.take_append, List.take_of_length_le]) (u64s_lenh hz2) ?_
      refine s_f (fun _ => dmul_go _ z1 z2 hz1 hz2) ?_
      refine s_f (fun _ => dmul_go _ h (nd (mulM 2 (nv z1) (nv z2))) n_h (nds_len _ _)) ?_
      refine s_c (fun Mx572 ac573 wo574 En575 Hv576 => ?_) ?_
      ·
       refine q_v (x := Instr.build 57 #[(0, .agg (List.toArray (u64s x3))), (1, .agg (List.toArray (u64s y3))), (2, .agg (List.toArray (u64s (nd (mulM 2 (nv h) (nv (nd (mulM 2 (nv z1) (nv z2)))))))))]) (v := .agg (List.toArray ((u64s x3) ++ ((u64s y3) ++ (u64s (nd (mulM 2 (nv h) (nv (nd (mulM 2 (nv z1) (nv z2))))))))))) En575 (Go.Dbr.run_built [(0, 4), (4, 4), (8, 4)] [⟨4, u64s (List.replicate 4 0), some (0, .agg (List.toArray (u64s x3)), u64s x3)⟩, ⟨4, u64s (List.replicate 4 0), some (1, .agg (List.toArray (u64s y3)), u64s y3)⟩, ⟨4, u64s (List.replicate 4 0), some (2, .agg (List.toArray (u64s (nd (mulM 2 (nv h) (nv (nd (mulM 2 (nv z1) (nv z2)))))))), u64s (nd (mulM 2 (nv h) (nv (nd (mulM 2 (nv z1) (nv z2)))))))⟩] (fb_y (u64s_lenh (List.length_replicate)) (u64s_lenh n_x3) (fb_y (u64s_lenh (List.length_replicate)) (u64s_lenh n_y3) (fb_y (u64s_lenh (List.length_replicate)) (u64s_lenh (nds_len _ _)) trivial))) _) fun ac577 En578 => ?_
       exact s_e En578 Hv576
      exact s_n
     refine q_u 10 ?_
     refine m_g 2 0 12 ((u64s x3) ++ ((u64s y3) ++ (u64s (nd (mulM 2 (nv h) (nv (nd (mulM 2 (nv z1) (nv z2))))))))) ((u64s x3) ++ ((u64s y3) ++ (u64s (nd (mulM 2 (nv h) (nv (nd (mulM 2 (nv z1) (nv z2))))))))) [.box bk1 ((u64s x1) ++ ((u64s y1) ++ (u64s z1))) 57, .box bk6 ((u64s x2) ++ ((u64s y2) ++ (u64s z2))) 57, .box bk11 ((u64s x3) ++ ((u64s y3) ++ (u64s (nd (mulM 2 (nv h) (nv (nd (mulM 2 (nv z1) (nv z2))))))))) 57, .box bk61 (u64s pz) 24, .box bk85 (u64s qz) 24, .box bk107 (u64s u) 24, .box bk129 (u64s v) 24, .box bk175 (u64s s) 24, .box bk225 (u64s t) 24, .box bk284 (u64s h) 24, .box bk304 (u64s r) 24, .box bk324 (u64s hh) 24, .box bk344 (u64s hhh) 24, .box bk364 (u64s ww) 24, .box bk438 (u64s x3) 24, .box bk516 (u64s y3) 24] En581 Hv582 rfl (len_app (u64s_lenh n_x3) (len_app (u64s_lenh n_y3) (u64s_lenh (nds_len _ _)))) (by rw [(len_app (u64s_lenh (List.length_replicate)) (len_app (u64s_lenh (List.length_replicate)) (u64s_lenh (List.length_replicate))))]; decide) (one_app (u64s_one _) (one_app (u64s_one _) (u64s_one _))) (store_whole (len_app (u64s_lenh (List.length_replicate)) (len_app (u64s_lenh (List.length_replicate)) (u64s_lenh (List.length_replicate))))) rfl fun ac587 wo588 En589 Hv590 => ?_
     exact a_e ⟨En589.sb, Hv590.pk [0, 1, 2, 3, 4, 5, 6, 7, 8, 9, 10, 11, 12, 13, 14, 15]⟩
    rintro ac591 wo592 ⟨En593, Hv594⟩
    refine then_normal ?_
    refine wp_ret ?_
    refine d_cell1 (v := .agg (List.toArray ((u64s x3) ++ ((u64s y3) ++ (u64s (nd (mulM 2 (nv h) (nv (nd (mulM 2 (nv z1) (nv z2))))))))))) (t := 4) (T := 57) (ad := ⟨bk11, 0, none⟩) En593 (by kernel_rfl) (by kernel_rfl) (Ev.cellAgg (t := 57) (k := 2) (off := 0) (m := 12) (xs := (u64s x3) ++ ((u64s y3) ++ (u64s (nd (mulM 2 (nv h) (nv (nd (mulM 2 (nv z1) (nv z2))))))))) Hv594 rfl (load_whole (len_app (u64s_lenh n_x3) (len_app (u64s_lenh n_y3) (u64s_lenh (nds_len _ _))))) (len_app (u64s_lenh n_x3) (len_app (u64s_lenh n_y3) (u64s_lenh (nds_len _ _)))) (by kernel_rfl) (by kernel_rfl)) ?_
    have g1 : (z1 == z4) = false := beq_f hc24
    have g2 : (z2 == z4) = false := beq_f hc39
    have e0 : (x3, y3, nd (mulM 2 (nv h) (nv (nd (mulM 2 (nv z1) (nv z2)))))) = jpL (x1, y1, z1) (x2, y2, z2) := by
     subst h_y3 h_x3 h_ww h_hhh h_hh h_r h_h h_t h_s h_v h_u h_qz h_pz
     have g3 : (nd (puN (nv x1) (nv z2)) == nd (puN (nv x2) (nv z1))) = false := by
      have k := hc244
      simp only [nv_m2] at k
      unfold puN
      exact beq_f k
     simp only [jpL, g1, g2, g3, Bool.cond_false]
     simp only [pqL, pxN, pyN, pzN, puN, psN, nv_m2, nv_a2, nv_s2]
    exact ⟨ret_t3 e0, Hv594.pk []⟩

end Go.Proofs.Ytpfhmbbiadpbeaa
