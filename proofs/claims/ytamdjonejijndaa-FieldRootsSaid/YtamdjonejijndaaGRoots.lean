/- FieldRoots, walked. -/
import Derived.Test.YtamdjonejijndaaF18
import Derived.Test.YtamdjonejijndaaF15b
namespace Go.Proofs.Ytamdjonejijndaa
open Go.Dbr
set_option maxRecDepth 100000
set_option maxHeartbeats 2000000
set_option linter.unusedVariables false
set_option linter.unusedSimpArgs false

theorem roots1 (a : List UInt64) (w : World) (n_a : (List.length a = 4))  : Calls Try.prog 4 #[.int .i64 1, .agg (List.toArray (u64s a))] w fun e w' => e = .returned (.bool true) ∧ Ev w [] w' [] := by
 refine d_0 [(0, .int .i64 1), (1, .agg (List.toArray (u64s a)))] 71 Go.Proofs.Try.func4 Go.Proofs.Try.ntmps4 (Heap.nil _) fun act0 En0 Hv0 => ?_
 refine wp_seq ?_
 refine region_from ?_
 refine f_o ?_
 refine m_m 25 (u64s a) En0 Hv0 fun ac2 wo3 bk1 En4 Hv5 => ?_
 refine d_e [0,3,4] [] En4 fun ac6 En7 => ?_
 refine then_normal ?_
 refine wp_seq ?_
 refine region_from ?_
 refine f_o ?_
 refine c_p En7 Hv5 (head_ok _) fun ac12 wo9 En13 Hv14 => ?_
 refine d_e [0,3,4,5] [] En13 fun ac15 En16 => ?_
 refine then_normal ?_
 refine wp_seq ?_
 refine region_from ?_
 refine d_k [0,3,4,5,16] [] 1 En16 fun ac17 En18 => ?_
 refine f_o ?_
 refine m_a 0 0 4 (u64s a) En18 Hv14 rfl (load_whole (u64s_lenh n_a)) (u64s_lenh n_a) fun ac19 En20 => ?_
 refine f_o ?_
 refine c_p En20 Hv14 (root_go _ 1 a n_a) fun ac25 wo22 En26 Hv27 => ?_
 refine d_k [0,3,4,5,19,20] [] 6 En26 fun ac28 En29 => ?_
 refine f_o ?_
 refine m_z 25 (u64s (List.replicate 4 0)) En29 Hv27 fun ac31 wo32 bk30 En33 Hv34 => ?_
 refine f_o ?_
 refine m_g 1 0 4 (u64s (nd (rootN 1 (nv a)))) (u64s (nd (rootN 1 (nv a)))) [.box bk1 (u64s a) 25, .box bk30 (u64s (nd (rootN 1 (nv a)))) 25] En33 Hv34 rfl (u64s_lenh (nds_len _ _)) (by rw [(u64s_lenh (List.length_replicate))]; decide) (u64s_one _) (store_whole (u64s_lenh (List.length_replicate))) rfl fun ac35 wo36 En37 Hv38 => ?_
 refine d_e [0,3,4,5,6,7] [] En37 fun ac39 En40 => ?_
 refine then_normal ?_
 refine wp_seq ?_
 refine region_from ?_
 refine d_k [0,3,4,5,6,7,22] [] 1 En40 fun ac41 En42 => ?_
 refine f_o ?_
 refine m_a 0 0 4 (u64s a) En42 Hv38 rfl (load_whole (u64s_lenh n_a)) (u64s_lenh n_a) fun ac43 En44 => ?_
 refine f_o ?_
 refine c_p En44 Hv38 (rroot_go _ 1 a n_a) fun ac49 wo46 En50 Hv51 => ?_
 refine d_k [0,3,4,5,6,7,25,26] [] 6 En50 fun ac52 En53 => ?_
 refine f_o ?_
 refine m_z 25 (u64s (List.replicate 4 0)) En53 Hv51 fun ac55 wo56 bk54 En57 Hv58 => ?_
 refine f_o ?_
 refine m_g 2 0 4 (u64s (nd (rootN 1 (nv a)))) (u64s (nd (rootN 1 (nv a)))) [.box bk1 (u64s a) 25, .box bk30 (u64s (nd (rootN 1 (nv a)))) 25, .box bk54 (u64s (nd (rootN 1 (nv a)))) 25] En57 Hv58 rfl (u64s_lenh (nds_len _ _)) (by rw [(u64s_lenh (List.length_replicate))]; decide) (u64s_one _) (store_whole (u64s_lenh (List.length_replicate))) rfl fun ac59 wo60 En61 Hv62 => ?_
 refine d_e [0,3,4,5,6,7,8,9] [] En61 fun ac63 En64 => ?_
 refine then_normal ?_
 refine wp_seq ?_
 refine region_from ?_
 refine d_k [0,3,4,5,6,7,8,9,27] [] 1 En64 fun ac65 En66 => ?_
 refine f_o ?_
 refine m_a 0 0 4 (u64s a) En66 Hv62 rfl (load_whole (u64s_lenh n_a)) (u64s_lenh n_a) fun ac67 En68 => ?_
 refine f_o ?_
 refine m_a 0 0 4 (u64s a) En68 Hv62 rfl (load_whole (u64s_lenh n_a)) (u64s_lenh n_a) fun ac69 En70 => ?_
 refine f_o ?_
 refine c_p En70 Hv62 ((rmulOk h1f (leftOk h1f)) _ a a n_a n_a) fun ac75 wo72 En76 Hv77 => ?_
 refine f_o ?_
 refine m_z 25 (u64s (List.replicate 4 0)) En76 Hv77 fun ac79 wo80 bk78 En81 Hv82 => ?_
 refine f_o ?_
 refine m_g 3 0 4 (u64s (nd (mulM 1 (nv a) (nv a)))) (u64s (nd (mulM 1 (nv a) (nv a)))) [.box bk1 (u64s a) 25, .box bk30 (u64s (nd (rootN 1 (nv a)))) 25, .box bk54 (u64s (nd (rootN 1 (nv a)))) 25, .box bk78 (u64s (nd (mulM 1 (nv a) (nv a)))) 25] En81 Hv82 rfl (u64s_lenh (nds_len _ _)) (by rw [(u64s_lenh (List.length_replicate))]; decide) (u64s_one _) (store_whole (u64s_lenh (List.length_replicate))) rfl fun ac83 wo84 En85 Hv86 => ?_
 refine f_e ?_
 refine then_normal ?_
 refine wp_seq ?_
 refine region_from ?_
 refine d_k [0,3,4,5,6,7,8,9,10,32] [] 1 En85 fun ac87 En88 => ?_
 refine f_o ?_
 refine m_a 3 0 4 (u64s (nd (mulM 1 (nv a) (nv a)))) En88 Hv86 rfl (load_whole (u64s_lenh (nds_len _ _))) (u64s_lenh (nds_len _ _)) fun ac89 En90 => ?_
 refine f_o ?_
 refine c_p En90 Hv86 (root_go _ 1 (nd (mulM 1 (nv a) (nv a))) (nds_len _ _)) fun ac95 wo92 En96 Hv97 => ?_
 refine d_k [0,3,4,5,6,7,8,9,10,35,36] [] 6 En96 fun ac98 En99 => ?_
 refine f_o ?_
 refine m_z 25 (u64s (List.replicate 4 0)) En99 Hv97 fun ac101 wo102 bk100 En103 Hv104 => ?_
 refine f_o ?_
 refine m_g 4 0 4 (u64s (nd (rootN 1 (nv (nd (mulM 1 (nv a) (nv a))))))) (u64s (nd (rootN 1 (nv (nd (mulM 1 (nv a) (nv a))))))) [.box bk1 (u64s a) 25, .box bk30 (u64s (nd (rootN 1 (nv a)))) 25, .box bk54 (u64s (nd (rootN 1 (nv a)))) 25, .box bk78 (u64s (nd (mulM 1 (nv a) (nv a)))) 25, .box bk100 (u64s (nd (rootN 1 (nv (nd (mulM 1 (nv a) (nv a))))))) 25] En103 Hv104 rfl (u64s_lenh (nds_len _ _)) (by rw [(u64s_lenh (List.length_replicate))]; decide) (u64s_one _) (store_whole (u64s_lenh (List.length_replicate))) rfl fun ac105 wo106 En107 Hv108 => ?_
 refine d_e [0,3,4,5,6,7,8,9,10,11,12] [] En107 fun ac109 En110 => ?_
 refine then_normal ?_
 refine wp_seq ?_
 refine d_s [0,3,4,5,6,7,8,9,10,11,12,42] [] En110 fun ac111 En112 => ?_
 refine c_t En112 ?_
 refine wp_seq ?_
 refine region_from ?_
 refine d_k [0,3,4,5,6,7,8,9,10,11,12,43] [] 1 En112 fun ac113 En114 => ?_
 refine f_o ?_
 refine m_a 4 0 4 (u64s (nd (rootN 1 (nv (nd (mulM 1 (nv a) (nv a))))))) En114 Hv108 rfl (load_whole (u64s_lenh (nds_len _ _))) (u64s_lenh (nds_len _ _)) fun ac115 En116 => ?_
 refine f_o ?_
 refine m_a 4 0 4 (u64s (nd (rootN 1 (nv (nd (mulM 1 (nv a) (nv a))))))) En116 Hv108 rfl (load_whole (u64s_lenh (nds_len _ _))) (u64s_lenh (nds_len _ _)) fun ac117 En118 => ?_
 refine f_o ?_
 refine c_p En118 Hv108 ((mulOk h1f) _ (nd (rootN 1 (nv (nd (mulM 1 (nv a) (nv a)))))) (nd (rootN 1 (nv (nd (mulM 1 (nv a) (nv a)))))) (nds_len _ _) (nds_len _ _)) fun ac123 wo120 En124 Hv125 => ?_
 refine f_o ?_
 refine m_z 25 (u64s (List.replicate 4 0)) En124 Hv125 fun ac127 wo128 bk126 En129 Hv130 => ?_
 refine f_o ?_
 refine m_g 5 0 4 (u64s (nd (mulM 1 (nv (nd (rootN 1 (nv (nd (mulM 1 (nv a) (nv a))))))) (nv (nd (rootN 1 (nv (nd (mulM 1 (nv a) (nv a)))))))))) (u64s (nd (mulM 1 (nv (nd (rootN 1 (nv (nd (mulM 1 (nv a) (nv a))))))) (nv (nd (rootN 1 (nv (nd (mulM 1 (nv a) (nv a)))))))))) [.box bk1 (u64s a) 25, .box bk30 (u64s (nd (rootN 1 (nv a)))) 25, .box bk54 (u64s (nd (rootN 1 (nv a)))) 25, .box bk78 (u64s (nd (mulM 1 (nv a) (nv a)))) 25, .box bk100 (u64s (nd (rootN 1 (nv (nd (mulM 1 (nv a) (nv a))))))) 25, .box bk126 (u64s (nd (mulM 1 (nv (nd (rootN 1 (nv (nd (mulM 1 (nv a) (nv a))))))) (nv (nd (rootN 1 (nv (nd (mulM 1 (nv a) (nv a)))))))))) 25] En129 Hv130 rfl (u64s_lenh (nds_len _ _)) (by rw [(u64s_lenh (List.length_replicate))]; decide) (u64s_one _) (store_whole (u64s_lenh (List.length_replicate))) rfl fun ac131 wo132 En133 Hv134 => ?_
 refine f_e ?_
 refine then_normal ?_
 refine wp_seq ?_
 refine region_from ?_
 refine d_k [0,3,4,5,6,7,8,9,10,11,13,49] [(1, g_b (show (!(rootOk 1 (nv (nd (mulM 1 (nv a) (nv a)))))) = false from (by rw [nv_mul h1f, (sq_law (f := 1) (by decide) _).1]; rfl)))] 3 En133 fun ac135 En136 => ?_
 refine f_o ?_
 refine m_a 5 0 4 (u64s (nd (mulM 1 (nv (nd (rootN 1 (nv (nd (mulM 1 (nv a) (nv a))))))) (nv (nd (rootN 1 (nv (nd (mulM 1 (nv a) (nv a)))))))))) En136 Hv134 rfl (load_whole (u64s_lenh (nds_len _ _))) (u64s_lenh (nds_len _ _)) fun ac137 En138 => ?_
 refine f_o ?_
 refine m_a 3 0 4 (u64s (nd (mulM 1 (nv a) (nv a)))) En138 Hv134 rfl (load_whole (u64s_lenh (nds_len _ _))) (u64s_lenh (nds_len _ _)) fun ac139 En140 => ?_
 refine f_o ?_
 refine q_v (x := eqOp .neq 25 (.tmp 50) (.tmp 51) (.agg (List.toArray (u64s (nd (mulM 1 (nv (nd (rootN 1 (nv (nd (mulM 1 (nv a) (nv a))))))) (nv (nd (rootN 1 (nv (nd (mulM 1 (nv a) (nv a)))))))))))) (.agg (List.toArray (u64s (nd (mulM 1 (nv a) (nv a))))))) (v := .bool false) En140 (Go.Dbr.run_is (fun w => Go.Dbr.u64s_neop (a := (.tmp 50)) (b := (.tmp 51)) (e := 23) (m := 4) (by kernel_rfl) (by kernel_rfl) (by kernel_rfl) (by kernel_rfl) (by kernel_rfl) (nds_len _ _) (nds_len _ _) w) (by rw [nv_mul h1f, nv_nd (rootN_lt _), (sq_law (f := 1) (by decide) _).2.1, beq_self_eq_true]; rfl) _) fun ac141 En142 => ?_
 refine d_k [0,3,4,5,6,7,8,9,10,11,13,54,55] [] 9 En142 fun ac143 En144 => ?_
 refine f_o ?_
 have hb145 : 0 < List.length (nd (rootN 1 (nv (nd (mulM 1 (nv a) (nv a)))))) := by rw [(nds_len _ _)]; omega
 refine m_v 4 0 (uv64 (List.getD (nd (rootN 1 (nv (nd (mulM 1 (nv a) (nv a)))))) 0 0)) En144 Hv134 rfl (u64s_getD hb145) fun ac146 En147 => ?_
 refine d_e [0,3,4,5,6,7,8,9,10,11,13,59] [(10, g_i .u64 (Go.Dbr.u64_and (x := List.getD (nd (rootN 1 (nv (nd (mulM 1 (nv a) (nv a)))))) 0 0) (y := (1 : UInt64)) rfl rfl)), (11, g_b (show (((UInt64.toNat ((List.getD (nd (rootN 1 (nv (nd (mulM 1 (nv a) (nv a)))))) 0 0) &&& (1 : UInt64)) : Nat) : Int) == (1 : Int)) = false from (by rw [par_nd (rootN_lt _), nv_mul h1f, (sq_law (f := 1) (by decide) _).2.2]; rfl)))] En147 fun ac148 En149 => ?_
 refine then_normal ?_
 refine c_f En149 ?_
 refine wp_skip ?_
 refine then_normal ?_
 refine wp_seq ?_
 refine region_from ?_
 refine d_k [0,3,4,6,7,8,9,10,11,13,61] [] 2 En149 fun ac150 En151 => ?_
 refine f_o ?_
 refine m_a 1 0 4 (u64s (nd (rootN 1 (nv a)))) En151 Hv134 rfl (load_whole (u64s_lenh (nds_len _ _))) (u64s_lenh (nds_len _ _)) fun ac152 En153 => ?_
 refine f_o ?_
 refine m_a 2 0 4 (u64s (nd (rootN 1 (nv a)))) En153 Hv134 rfl (load_whole (u64s_lenh (nds_len _ _))) (u64s_lenh (nds_len _ _)) fun ac154 En155 => ?_
 refine f_o ?_
 refine q_v (x := eqOp .eql 25 (.tmp 62) (.tmp 63) (.agg (List.toArray (u64s (nd (rootN 1 (nv a)))))) (.agg (List.toArray (u64s (nd (rootN 1 (nv a))))))) (v := .bool true) En155 (Go.Dbr.run_is (fun w => Go.Dbr.u64s_eqop (a := (.tmp 62)) (b := (.tmp 63)) (e := 23) (m := 4) (by kernel_rfl) (by kernel_rfl) (by kernel_rfl) (by kernel_rfl) (by kernel_rfl) (nds_len _ _) (nds_len _ _) w) (by first | exact beq_self_eq_true _ | rfl) _) fun ac156 En157 => ?_
 refine d_e [0,3,4,6,8,10,11,13] [(9, g_b (show ((rootOk 1 (nv a)) == (rootOk 1 (nv a))) = true from (by first | exact beq_self_eq_true _ | rfl)))] En157 fun ac158 En159 => ?_
 refine then_normal ?_
 refine wp_ret ?_
 refine d_ret1 (t := 4) (v := .bool true) En159 (by kernel_rfl) (by kernel_rfl) ?_
 exact ⟨rfl, Hv134.pk []⟩

theorem roots2 (a : List UInt64) (w : World) (n_a : (List.length a = 4))  : Calls Try.prog 4 #[.int .i64 2, .agg (List.toArray (u64s a))] w fun e w' => e = .returned (.bool true) ∧ Ev w [] w' [] := by
 refine d_0 [(0, .int .i64 2), (1, .agg (List.toArray (u64s a)))] 71 Go.Proofs.Try.func4 Go.Proofs.Try.ntmps4 (Heap.nil _) fun act0 En0 Hv0 => ?_
 refine wp_seq ?_
 refine region_from ?_
 refine f_o ?_
 refine m_m 25 (u64s a) En0 Hv0 fun ac2 wo3 bk1 En4 Hv5 => ?_
 refine d_e [0,3,4] [] En4 fun ac6 En7 => ?_
 refine then_normal ?_
 refine wp_seq ?_
 refine region_from ?_
 refine f_o ?_
 refine c_p En7 Hv5 (head_ok _) fun ac12 wo9 En13 Hv14 => ?_
 refine d_e [0,3,4,5] [] En13 fun ac15 En16 => ?_
 refine then_normal ?_
 refine wp_seq ?_
 refine region_from ?_
 refine d_k [0,3,4,5,16] [] 1 En16 fun ac17 En18 => ?_
 refine f_o ?_
 refine m_a 0 0 4 (u64s a) En18 Hv14 rfl (load_whole (u64s_lenh n_a)) (u64s_lenh n_a) fun ac19 En20 => ?_
 refine f_o ?_
 refine c_p En20 Hv14 (root_go _ 2 a n_a) fun ac25 wo22 En26 Hv27 => ?_
 refine d_k [0,3,4,5,19,20] [] 6 En26 fun ac28 En29 => ?_
 refine f_o ?_
 refine m_z 25 (u64s (List.replicate 4 0)) En29 Hv27 fun ac31 wo32 bk30 En33 Hv34 => ?_
 refine f_o ?_
 refine m_g 1 0 4 (u64s (nd (rootN 2 (nv a)))) (u64s (nd (rootN 2 (nv a)))) [.box bk1 (u64s a) 25, .box bk30 (u64s (nd (rootN 2 (nv a)))) 25] En33 Hv34 rfl (u64s_lenh (nds_len _ _)) (by rw [(u64s_lenh (List.length_replicate))]; decide) (u64s_one _) (store_whole (u64s_lenh (List.length_replicate))) rfl fun ac35 wo36 En37 Hv38 => ?_
 refine d_e [0,3,4,5,6,7] [] En37 fun ac39 En40 => ?_
 refine then_normal ?_
 refine wp_seq ?_
 refine region_from ?_
 refine d_k [0,3,4,5,6,7,22] [] 1 En40 fun ac41 En42 => ?_
 refine f_o ?_
 refine m_a 0 0 4 (u64s a) En42 Hv38 rfl (load_whole (u64s_lenh n_a)) (u64s_lenh n_a) fun ac43 En44 => ?_
 refine f_o ?_
 refine c_p En44 Hv38 (rroot_go _ 2 a n_a) fun ac49 wo46 En50 Hv51 => ?_
 refine d_k [0,3,4,5,6,7,25,26] [] 6 En50 fun ac52 En53 => ?_
 refine f_o ?_
 refine m_z 25 (u64s (List.replicate 4 0)) En53 Hv51 fun ac55 wo56 bk54 En57 Hv58 => ?_
 refine f_o ?_
 refine m_g 2 0 4 (u64s (nd (rootN 2 (nv a)))) (u64s (nd (rootN 2 (nv a)))) [.box bk1 (u64s a) 25, .box bk30 (u64s (nd (rootN 2 (nv a)))) 25, .box bk54 (u64s (nd (rootN 2 (nv a)))) 25] En57 Hv58 rfl (u64s_lenh (nds_len _ _)) (by rw [(u64s_lenh (List.length_replicate))]; decide) (u64s_one _) (store_whole (u64s_lenh (List.length_replicate))) rfl fun ac59 wo60 En61 Hv62 => ?_
 refine d_e [0,3,4,5,6,7,8,9] [] En61 fun ac63 En64 => ?_
 refine then_normal ?_
 refine wp_seq ?_
 refine region_from ?_
 refine d_k [0,3,4,5,6,7,8,9,27] [] 1 En64 fun ac65 En66 => ?_
 refine f_o ?_
 refine m_a 0 0 4 (u64s a) En66 Hv62 rfl (load_whole (u64s_lenh n_a)) (u64s_lenh n_a) fun ac67 En68 => ?_
 refine f_o ?_
 refine m_a 0 0 4 (u64s a) En68 Hv62 rfl (load_whole (u64s_lenh n_a)) (u64s_lenh n_a) fun ac69 En70 => ?_
 refine f_o ?_
 refine c_p En70 Hv62 ((rmulOk h2f (leftOk h2f)) _ a a n_a n_a) fun ac75 wo72 En76 Hv77 => ?_
 refine f_o ?_
 refine m_z 25 (u64s (List.replicate 4 0)) En76 Hv77 fun ac79 wo80 bk78 En81 Hv82 => ?_
 refine f_o ?_
 refine m_g 3 0 4 (u64s (nd (mulM 2 (nv a) (nv a)))) (u64s (nd (mulM 2 (nv a) (nv a)))) [.box bk1 (u64s a) 25, .box bk30 (u64s (nd (rootN 2 (nv a)))) 25, .box bk54 (u64s (nd (rootN 2 (nv a)))) 25, .box bk78 (u64s (nd (mulM 2 (nv a) (nv a)))) 25] En81 Hv82 rfl (u64s_lenh (nds_len _ _)) (by rw [(u64s_lenh (List.length_replicate))]; decide) (u64s_one _) (store_whole (u64s_lenh (List.length_replicate))) rfl fun ac83 wo84 En85 Hv86 => ?_
 refine f_e ?_
 refine then_normal ?_
 refine wp_seq ?_
 refine region_from ?_
 refine d_k [0,3,4,5,6,7,8,9,10,32] [] 1 En85 fun ac87 En88 => ?_
 refine f_o ?_
 refine m_a 3 0 4 (u64s (nd (mulM 2 (nv a) (nv a)))) En88 Hv86 rfl (load_whole (u64s_lenh (nds_len _ _))) (u64s_lenh (nds_len _ _)) fun ac89 En90 => ?_
 refine f_o ?_
 refine c_p En90 Hv86 (root_go _ 2 (nd (mulM 2 (nv a) (nv a))) (nds_len _ _)) fun ac95 wo92 En96 Hv97 => ?_
 refine d_k [0,3,4,5,6,7,8,9,10,35,36] [] 6 En96 fun ac98 En99 => ?_
 refine f_o ?_
 refine m_z 25 (u64s (List.replicate 4 0)) En99 Hv97 fun ac101 wo102 bk100 En103 Hv104 => ?_
 refine f_o ?_
 refine m_g 4 0 4 (u64s (nd (rootN 2 (nv (nd (mulM 2 (nv a) (nv a))))))) (u64s (nd (rootN 2 (nv (nd (mulM 2 (nv a) (nv a))))))) [.box bk1 (u64s a) 25, .box bk30 (u64s (nd (rootN 2 (nv a)))) 25, .box bk54 (u64s (nd (rootN 2 (nv a)))) 25, .box bk78 (u64s (nd (mulM 2 (nv a) (nv a)))) 25, .box bk100 (u64s (nd (rootN 2 (nv (nd (mulM 2 (nv a) (nv a))))))) 25] En103 Hv104 rfl (u64s_lenh (nds_len _ _)) (by rw [(u64s_lenh (List.length_replicate))]; decide) (u64s_one _) (store_whole (u64s_lenh (List.length_replicate))) rfl fun ac105 wo106 En107 Hv108 => ?_
 refine d_e [0,3,4,5,6,7,8,9,10,11,12] [] En107 fun ac109 En110 => ?_
 refine then_normal ?_
 refine wp_seq ?_
 refine d_s [0,3,4,5,6,7,8,9,10,11,12,42] [] En110 fun ac111 En112 => ?_
 refine c_t En112 ?_
 refine wp_seq ?_
 refine region_from ?_
 refine d_k [0,3,4,5,6,7,8,9,10,11,12,43] [] 1 En112 fun ac113 En114 => ?_
 refine f_o ?_
 refine m_a 4 0 4 (u64s (nd (rootN 2 (nv (nd (mulM 2 (nv a) (nv a))))))) En114 Hv108 rfl (load_whole (u64s_lenh (nds_len _ _))) (u64s_lenh (nds_len _ _)) fun ac115 En116 => ?_
 refine f_o ?_
 refine m_a 4 0 4 (u64s (nd (rootN 2 (nv (nd (mulM 2 (nv a) (nv a))))))) En116 Hv108 rfl (load_whole (u64s_lenh (nds_len _ _))) (u64s_lenh (nds_len _ _)) fun ac117 En118 => ?_
 refine f_o ?_
 refine c_p En118 Hv108 ((mulOk h2f) _ (nd (rootN 2 (nv (nd (mulM 2 (nv a) (nv a)))))) (nd (rootN 2 (nv (nd (mulM 2 (nv a) (nv a)))))) (nds_len _ _) (nds_len _ _)) fun ac123 wo120 En124 Hv125 => ?_
 refine f_o ?_
 refine m_z 25 (u64s (List.replicate 4 0)) En124 Hv125 fun ac127 wo128 bk126 En129 Hv130 => ?_
 refine f_o ?_
 refine m_g 5 0 4 (u64s (nd (mulM 2 (nv (nd (rootN 2 (nv (nd (mulM 2 (nv a) (nv a))))))) (nv (nd (rootN 2 (nv (nd (mulM 2 (nv a) (nv a)))))))))) (u64s (nd (mulM 2 (nv (nd (rootN 2 (nv (nd (mulM 2 (nv a) (nv a))))))) (nv (nd (rootN 2 (nv (nd (mulM 2 (nv a) (nv a)))))))))) [.box bk1 (u64s a) 25, .box bk30 (u64s (nd (rootN 2 (nv a)))) 25, .box bk54 (u64s (nd (rootN 2 (nv a)))) 25, .box bk78 (u64s (nd (mulM 2 (nv a) (nv a)))) 25, .box bk100 (u64s (nd (rootN 2 (nv (nd (mulM 2 (nv a) (nv a))))))) 25, .box bk126 (u64s (nd (mulM 2 (nv (nd (rootN 2 (nv (nd (mulM 2 (nv a) (nv a))))))) (nv (nd (rootN 2 (nv (nd (mulM 2 (nv a) (nv a)))))))))) 25] En129 Hv130 rfl (u64s_lenh (nds_len _ _)) (by rw [(u64s_lenh (List.length_replicate))]; decide) (u64s_one _) (store_whole (u64s_lenh (List.length_replicate))) rfl fun ac131 wo132 En133 Hv134 => ?_
 refine f_e ?_
 refine then_normal ?_
 refine wp_seq ?_
 refine region_from ?_
 refine d_k [0,3,4,5,6,7,8,9,10,11,13,49] [(1, g_b (show (!(rootOk 2 (nv (nd (mulM 2 (nv a) (nv a)))))) = false from (by rw [nv_mul h2f, (sq_law (f := 2) (by decide) _).1]; rfl)))] 3 En133 fun ac135 En136 => ?_
 refine f_o ?_
 refine m_a 5 0 4 (u64s (nd (mulM 2 (nv (nd (rootN 2 (nv (nd (mulM 2 (nv a) (nv a))))))) (nv (nd (rootN 2 (nv (nd (mulM 2 (nv a) (nv a)))))))))) En136 Hv134 rfl (load_whole (u64s_lenh (nds_len _ _))) (u64s_lenh (nds_len _ _)) fun ac137 En138 => ?_
 refine f_o ?_
 refine m_a 3 0 4 (u64s (nd (mulM 2 (nv a) (nv a)))) En138 Hv134 rfl (load_whole (u64s_lenh (nds_len _ _))) (u64s_lenh (nds_len _ _)) fun ac139 En140 => ?_
 refine f_o ?_
 refine q_v (x := eqOp .neq 25 (.tmp 50) (.tmp 51) (.agg (List.toArray (u64s (nd (mulM 2 (nv (nd (rootN 2 (nv (nd (mulM 2 (nv a) (nv a))))))) (nv (nd (rootN 2 (nv (nd (mulM 2 (nv a) (nv a)))))))))))) (.agg (List.toArray (u64s (nd (mulM 2 (nv a) (nv a))))))) (v := .bool false) En140 (Go.Dbr.run_is (fun w => Go.Dbr.u64s_neop (a := (.tmp 50)) (b := (.tmp 51)) (e := 23) (m := 4) (by kernel_rfl) (by kernel_rfl) (by kernel_rfl) (by kernel_rfl) (by kernel_rfl) (nds_len _ _) (nds_len _ _) w) (by rw [nv_mul h2f, nv_nd (rootN_lt _), (sq_law (f := 2) (by decide) _).2.1, beq_self_eq_true]; rfl) _) fun ac141 En142 => ?_
 refine d_k [0,3,4,5,6,7,8,9,10,11,13,54,55] [] 9 En142 fun ac143 En144 => ?_
 refine f_o ?_
 have hb145 : 0 < List.length (nd (rootN 2 (nv (nd (mulM 2 (nv a) (nv a)))))) := by rw [(nds_len _ _)]; omega
 refine m_v 4 0 (uv64 (List.getD (nd (rootN 2 (nv (nd (mulM 2 (nv a) (nv a)))))) 0 0)) En144 Hv134 rfl (u64s_getD hb145) fun ac146 En147 => ?_
 refine d_e [0,3,4,5,6,7,8,9,10,11,13,59] [(10, g_i .u64 (Go.Dbr.u64_and (x := List.getD (nd (rootN 2 (nv (nd (mulM 2 (nv a) (nv a)))))) 0 0) (y := (1 : UInt64)) rfl rfl)), (11, g_b (show (((UInt64.toNat ((List.getD (nd (rootN 2 (nv (nd (mulM 2 (nv a) (nv a)))))) 0 0) &&& (1 : UInt64)) : Nat) : Int) == (1 : Int)) = false from (by rw [par_nd (rootN_lt _), nv_mul h2f, (sq_law (f := 2) (by decide) _).2.2]; rfl)))] En147 fun ac148 En149 => ?_
 refine then_normal ?_
 refine c_f En149 ?_
 refine wp_skip ?_
 refine then_normal ?_
 refine wp_seq ?_
 refine region_from ?_
 refine d_k [0,3,4,6,7,8,9,10,11,13,61] [] 2 En149 fun ac150 En151 => ?_
 refine f_o ?_
 refine m_a 1 0 4 (u64s (nd (rootN 2 (nv a)))) En151 Hv134 rfl (load_whole (u64s_lenh (nds_len _ _))) (u64s_lenh (nds_len _ _)) fun ac152 En153 => ?_
 refine f_o ?_
 refine m_a 2 0 4 (u64s (nd (rootN 2 (nv a)))) En153 Hv134 rfl (load_whole (u64s_lenh (nds_len _ _))) (u64s_lenh (nds_len _ _)) fun ac154 En155 => ?_
 refine f_o ?_
 refine q_v (x := eqOp .eql 25 (.tmp 62) (.tmp 63) (.agg (List.toArray (u64s (nd (rootN 2 (nv a)))))) (.agg (List.toArray (u64s (nd (rootN 2 (nv a))))))) (v := .bool true) En155 (Go.Dbr.run_is (fun w => Go.Dbr.u64s_eqop (a := (.tmp 62)) (b := (.tmp 63)) (e := 23) (m := 4) (by kernel_rfl) (by kernel_rfl) (by kernel_rfl) (by kernel_rfl) (by kernel_rfl) (nds_len _ _) (nds_len _ _) w) (by first | exact beq_self_eq_true _ | rfl) _) fun ac156 En157 => ?_
 refine d_e [0,3,4,6,8,10,11,13] [(9, g_b (show ((rootOk 2 (nv a)) == (rootOk 2 (nv a))) = true from (by first | exact beq_self_eq_true _ | rfl)))] En157 fun ac158 En159 => ?_
 refine then_normal ?_
 refine wp_ret ?_
 refine d_ret1 (t := 4) (v := .bool true) En159 (by kernel_rfl) (by kernel_rfl) ?_
 exact ⟨rfl, Hv134.pk []⟩

theorem roots_ok (f : Int) (a : List UInt64) (w : World) (b_f : (-9223372036854775808 ≤ f ∧ f ≤ 9223372036854775807)) (n_a : (List.length a = 4)) (h12 : ¬ (f = 1 ∨ f = 2)) (hf : (f = 1 ∨ f = 2 ∨ f = 3 ∨ f = 4)) : Calls Try.prog 4 #[.int .i64 f, .agg (List.toArray (u64s a))] w fun e w' => e = .returned (.bool true) ∧ Ev w [] w' [] := by
 refine d_0 [(0, .int .i64 f), (1, .agg (List.toArray (u64s a)))] 71 Go.Proofs.Try.func4 Go.Proofs.Try.ntmps4 (Heap.nil _) fun act0 En0 Hv0 => ?_
 refine wp_seq ?_
 refine region_from ?_
 refine f_o ?_
 refine m_m 25 (u64s a) En0 Hv0 fun ac2 wo3 bk1 En4 Hv5 => ?_
 refine d_e [0,3,4] [] En4 fun ac6 En7 => ?_
 refine then_normal ?_
 refine wp_seq ?_
 refine region_from ?_
 refine f_o ?_
 refine c_p En7 Hv5 (head_ok _) fun ac12 wo9 En13 Hv14 => ?_
 refine d_e [0,3,4,5] [] En13 fun ac15 En16 => ?_
 refine then_normal ?_
 refine wp_seq ?_
 refine region_from ?_
 refine d_k [0,3,4,5,16] [] 1 En16 fun ac17 En18 => ?_
 refine f_o ?_
 refine m_a 0 0 4 (u64s a) En18 Hv14 rfl (load_whole (u64s_lenh n_a)) (u64s_lenh n_a) fun ac19 En20 => ?_
 refine f_o ?_
 refine c_p En20 Hv14 (root_go _ f a n_a) fun ac25 wo22 En26 Hv27 => ?_
 refine d_k [0,3,4,5,19,20] [] 6 En26 fun ac28 En29 => ?_
 refine f_o ?_
 refine m_z 25 (u64s (List.replicate 4 0)) En29 Hv27 fun ac31 wo32 bk30 En33 Hv34 => ?_
 refine f_o ?_
 refine m_g 1 0 4 (u64s (nd (rootN f (nv a)))) (u64s (nd (rootN f (nv a)))) [.box bk1 (u64s a) 25, .box bk30 (u64s (nd (rootN f (nv a)))) 25] En33 Hv34 rfl (u64s_lenh (nds_len _ _)) (by rw [(u64s_lenh (List.length_replicate))]; decide) (u64s_one _) (store_whole (u64s_lenh (List.length_replicate))) rfl fun ac35 wo36 En37 Hv38 => ?_
 refine d_e [0,3,4,5,6,7] [] En37 fun ac39 En40 => ?_
 refine then_normal ?_
 refine wp_seq ?_
 refine region_from ?_
 refine d_k [0,3,4,5,6,7,22] [] 1 En40 fun ac41 En42 => ?_
 refine f_o ?_
 refine m_a 0 0 4 (u64s a) En42 Hv38 rfl (load_whole (u64s_lenh n_a)) (u64s_lenh n_a) fun ac43 En44 => ?_
 refine f_o ?_
 refine c_p En44 Hv38 (rroot_go _ f a n_a) fun ac49 wo46 En50 Hv51 => ?_
 refine d_k [0,3,4,5,6,7,25,26] [] 6 En50 fun ac52 En53 => ?_
 refine f_o ?_
 refine m_z 25 (u64s (List.replicate 4 0)) En53 Hv51 fun ac55 wo56 bk54 En57 Hv58 => ?_
 refine f_o ?_
 refine m_g 2 0 4 (u64s (nd (rootN f (nv a)))) (u64s (nd (rootN f (nv a)))) [.box bk1 (u64s a) 25, .box bk30 (u64s (nd (rootN f (nv a)))) 25, .box bk54 (u64s (nd (rootN f (nv a)))) 25] En57 Hv58 rfl (u64s_lenh (nds_len _ _)) (by rw [(u64s_lenh (List.length_replicate))]; decide) (u64s_one _) (store_whole (u64s_lenh (List.length_replicate))) rfl fun ac59 wo60 En61 Hv62 => ?_
 refine d_e [0,3,4,5,6,7,8,9] [] En61 fun ac63 En64 => ?_
 refine then_normal ?_
 refine wp_seq ?_
 refine region_from ?_
 refine d_k [0,3,4,5,6,7,8,9,27] [] 1 En64 fun ac65 En66 => ?_
 refine f_o ?_
 refine m_a 0 0 4 (u64s a) En66 Hv62 rfl (load_whole (u64s_lenh n_a)) (u64s_lenh n_a) fun ac67 En68 => ?_
 refine f_o ?_
 refine m_a 0 0 4 (u64s a) En68 Hv62 rfl (load_whole (u64s_lenh n_a)) (u64s_lenh n_a) fun ac69 En70 => ?_
 refine f_o ?_
 refine c_p En70 Hv62 ((rmulOk hf (leftOk hf)) _ a a n_a n_a) fun ac75 wo72 En76 Hv77 => ?_
 refine f_o ?_
 refine m_z 25 (u64s (List.replicate 4 0)) En76 Hv77 fun ac79 wo80 bk78 En81 Hv82 => ?_
 refine f_o ?_
 refine m_g 3 0 4 (u64s (nd (mulM f (nv a) (nv a)))) (u64s (nd (mulM f (nv a) (nv a)))) [.box bk1 (u64s a) 25, .box bk30 (u64s (nd (rootN f (nv a)))) 25, .box bk54 (u64s (nd (rootN f (nv a)))) 25, .box bk78 (u64s (nd (mulM f (nv a) (nv a)))) 25] En81 Hv82 rfl (u64s_lenh (nds_len _ _)) (by rw [(u64s_lenh (List.length_replicate))]; decide) (u64s_one _) (store_whole (u64s_lenh (List.length_replicate))) rfl fun ac83 wo84 En85 Hv86 => ?_
 refine f_e ?_
 refine then_normal ?_
 refine wp_seq ?_
 refine region_from ?_
 refine d_k [0,3,4,5,6,7,8,9,10,32] [] 1 En85 fun ac87 En88 => ?_
 refine f_o ?_
 refine m_a 3 0 4 (u64s (nd (mulM f (nv a) (nv a)))) En88 Hv86 rfl (load_whole (u64s_lenh (nds_len _ _))) (u64s_lenh (nds_len _ _)) fun ac89 En90 => ?_
 refine f_o ?_
 refine c_p En90 Hv86 (root_go _ f (nd (mulM f (nv a) (nv a))) (nds_len _ _)) fun ac95 wo92 En96 Hv97 => ?_
 refine d_k [0,3,4,5,6,7,8,9,10,35,36] [] 6 En96 fun ac98 En99 => ?_
 refine f_o ?_
 refine m_z 25 (u64s (List.replicate 4 0)) En99 Hv97 fun ac101 wo102 bk100 En103 Hv104 => ?_
 refine f_o ?_
 refine m_g 4 0 4 (u64s (nd (rootN f (nv (nd (mulM f (nv a) (nv a))))))) (u64s (nd (rootN f (nv (nd (mulM f (nv a) (nv a))))))) [.box bk1 (u64s a) 25, .box bk30 (u64s (nd (rootN f (nv a)))) 25, .box bk54 (u64s (nd (rootN f (nv a)))) 25, .box bk78 (u64s (nd (mulM f (nv a) (nv a)))) 25, .box bk100 (u64s (nd (rootN f (nv (nd (mulM f (nv a) (nv a))))))) 25] En103 Hv104 rfl (u64s_lenh (nds_len _ _)) (by rw [(u64s_lenh (List.length_replicate))]; decide) (u64s_one _) (store_whole (u64s_lenh (List.length_replicate))) rfl fun ac105 wo106 En107 Hv108 => ?_
 refine d_e [0,3,4,5,6,7,8,9,10,11,12] [] En107 fun ac109 En110 => ?_
 refine then_normal ?_
 refine wp_seq ?_
 refine d_s [0,3,4,5,6,7,8,9,10,11,12,42] [(1, g_b (show (f == (1 : Int)) = false from (beq_eq_false_iff_ne.2 (by omega)))), (4, g_b (show (f == (2 : Int)) = false from (beq_eq_false_iff_ne.2 (by omega))))] En110 fun ac111 En112 => ?_
 refine c_f En112 ?_
 refine wp_skip ?_
 refine then_normal ?_
 refine wp_seq ?_
 refine region_from ?_
 refine d_k [0,3,4,6,7,8,9,10,11,12,61] [] 2 En112 fun ac113 En114 => ?_
 refine f_o ?_
 refine m_a 1 0 4 (u64s (nd (rootN f (nv a)))) En114 Hv108 rfl (load_whole (u64s_lenh (nds_len _ _))) (u64s_lenh (nds_len _ _)) fun ac115 En116 => ?_
 refine f_o ?_
 refine m_a 2 0 4 (u64s (nd (rootN f (nv a)))) En116 Hv108 rfl (load_whole (u64s_lenh (nds_len _ _))) (u64s_lenh (nds_len _ _)) fun ac117 En118 => ?_
 refine f_o ?_
 refine q_v (x := eqOp .eql 25 (.tmp 62) (.tmp 63) (.agg (List.toArray (u64s (nd (rootN f (nv a)))))) (.agg (List.toArray (u64s (nd (rootN f (nv a))))))) (v := .bool true) En118 (Go.Dbr.run_is (fun w => Go.Dbr.u64s_eqop (a := (.tmp 62)) (b := (.tmp 63)) (e := 23) (m := 4) (by kernel_rfl) (by kernel_rfl) (by kernel_rfl) (by kernel_rfl) (by kernel_rfl) (nds_len _ _) (nds_len _ _) w) (by first | exact beq_self_eq_true _ | rfl) _) fun ac119 En120 => ?_
 refine d_e [0,3,4,6,8,10,11,12] [(9, g_b (show ((rootOk f (nv a)) == (rootOk f (nv a))) = true from (by first | exact beq_self_eq_true _ | rfl)))] En120 fun ac121 En122 => ?_
 refine then_normal ?_
 refine wp_ret ?_
 refine d_ret1 (t := 4) (v := .bool true) En122 (by kernel_rfl) (by kernel_rfl) ?_
 exact ⟨rfl, Hv108.pk []⟩

theorem roots_no (f : Int) (a : List UInt64) (w : World) (b_f : (-9223372036854775808 ≤ f ∧ f ≤ 9223372036854775807)) (n_a : (List.length a = 4)) (h12 : ¬ (f = 1 ∨ f = 2)) (hf : ¬ (f = 1 ∨ f = 2 ∨ f = 3 ∨ f = 4)) : Calls Try.prog 4 #[.int .i64 f, .agg (List.toArray (u64s a))] w fun e w' => e = .returned (.bool true) ∧ Ev w [] w' [] := by
 refine d_0 [(0, .int .i64 f), (1, .agg (List.toArray (u64s a)))] 71 Go.Proofs.Try.func4 Go.Proofs.Try.ntmps4 (Heap.nil _) fun act0 En0 Hv0 => ?_
 refine wp_seq ?_
 refine region_from ?_
 refine f_o ?_
 refine m_m 25 (u64s a) En0 Hv0 fun ac2 wo3 bk1 En4 Hv5 => ?_
 refine d_e [0,3,4] [] En4 fun ac6 En7 => ?_
 refine then_normal ?_
 refine wp_seq ?_
 refine region_from ?_
 refine f_o ?_
 refine c_p En7 Hv5 (head_ok _) fun ac12 wo9 En13 Hv14 => ?_
 refine d_e [0,3,4,5] [] En13 fun ac15 En16 => ?_
 refine then_normal ?_
 refine wp_seq ?_
 refine region_from ?_
 refine d_k [0,3,4,5,16] [] 1 En16 fun ac17 En18 => ?_
 refine f_o ?_
 refine m_a 0 0 4 (u64s a) En18 Hv14 rfl (load_whole (u64s_lenh n_a)) (u64s_lenh n_a) fun ac19 En20 => ?_
 refine f_o ?_
 refine c_p En20 Hv14 (root_go _ f a n_a) fun ac25 wo22 En26 Hv27 => ?_
 refine d_k [0,3,4,5,19,20] [] 6 En26 fun ac28 En29 => ?_
 refine f_o ?_
 refine m_z 25 (u64s (List.replicate 4 0)) En29 Hv27 fun ac31 wo32 bk30 En33 Hv34 => ?_
 refine f_o ?_
 refine m_g 1 0 4 (u64s (nd (rootN f (nv a)))) (u64s (nd (rootN f (nv a)))) [.box bk1 (u64s a) 25, .box bk30 (u64s (nd (rootN f (nv a)))) 25] En33 Hv34 rfl (u64s_lenh (nds_len _ _)) (by rw [(u64s_lenh (List.length_replicate))]; decide) (u64s_one _) (store_whole (u64s_lenh (List.length_replicate))) rfl fun ac35 wo36 En37 Hv38 => ?_
 refine d_e [0,3,4,5,6,7] [] En37 fun ac39 En40 => ?_
 refine then_normal ?_
 refine wp_seq ?_
 refine region_from ?_
 refine d_k [0,3,4,5,6,7,22] [] 1 En40 fun ac41 En42 => ?_
 refine f_o ?_
 refine m_a 0 0 4 (u64s a) En42 Hv38 rfl (load_whole (u64s_lenh n_a)) (u64s_lenh n_a) fun ac43 En44 => ?_
 refine f_o ?_
 refine c_p En44 Hv38 (rroot_go _ f a n_a) fun ac49 wo46 En50 Hv51 => ?_
 refine d_k [0,3,4,5,6,7,25,26] [] 6 En50 fun ac52 En53 => ?_
 refine f_o ?_
 refine m_z 25 (u64s (List.replicate 4 0)) En53 Hv51 fun ac55 wo56 bk54 En57 Hv58 => ?_
 refine f_o ?_
 refine m_g 2 0 4 (u64s (nd (rootN f (nv a)))) (u64s (nd (rootN f (nv a)))) [.box bk1 (u64s a) 25, .box bk30 (u64s (nd (rootN f (nv a)))) 25, .box bk54 (u64s (nd (rootN f (nv a)))) 25] En57 Hv58 rfl (u64s_lenh (nds_len _ _)) (by rw [(u64s_lenh (List.length_replicate))]; decide) (u64s_one _) (store_whole (u64s_lenh (List.length_replicate))) rfl fun ac59 wo60 En61 Hv62 => ?_
 refine d_e [0,3,4,5,6,7,8,9] [] En61 fun ac63 En64 => ?_
 refine then_normal ?_
 refine wp_seq ?_
 refine region_from ?_
 refine d_k [0,3,4,5,6,7,8,9,27] [] 1 En64 fun ac65 En66 => ?_
 refine f_o ?_
 refine m_a 0 0 4 (u64s a) En66 Hv62 rfl (load_whole (u64s_lenh n_a)) (u64s_lenh n_a) fun ac67 En68 => ?_
 refine f_o ?_
 refine m_a 0 0 4 (u64s a) En68 Hv62 rfl (load_whole (u64s_lenh n_a)) (u64s_lenh n_a) fun ac69 En70 => ?_
 refine f_o ?_
 refine c_p En70 Hv62 (rmul_no _ f hf a a n_a n_a) fun ac75 wo72 En76 Hv77 => ?_
 refine f_o ?_
 refine m_z 25 (u64s (List.replicate 4 0)) En76 Hv77 fun ac79 wo80 bk78 En81 Hv82 => ?_
 refine f_o ?_
 refine m_g 3 0 4 (u64s (nd 0)) (u64s (nd 0)) [.box bk1 (u64s a) 25, .box bk30 (u64s (nd (rootN f (nv a)))) 25, .box bk54 (u64s (nd (rootN f (nv a)))) 25, .box bk78 (u64s (nd 0)) 25] En81 Hv82 rfl (u64s_lenh (nds_len _ _)) (by rw [(u64s_lenh (List.length_replicate))]; decide) (u64s_one _) (store_whole (u64s_lenh (List.length_replicate))) rfl fun ac83 wo84 En85 Hv86 => ?_
 refine f_e ?_
 refine then_normal ?_
 refine wp_seq ?_
 refine region_from ?_
 refine d_k [0,3,4,5,6,7,8,9,10,32] [] 1 En85 fun ac87 En88 => ?_
 refine f_o ?_
 refine m_a 3 0 4 (u64s (nd 0)) En88 Hv86 rfl (load_whole (u64s_lenh (nds_len _ _))) (u64s_lenh (nds_len _ _)) fun ac89 En90 => ?_
 refine f_o ?_
 refine c_p En90 Hv86 (root_go _ f (nd 0) (nds_len _ _)) fun ac95 wo92 En96 Hv97 => ?_
 refine d_k [0,3,4,5,6,7,8,9,10,35,36] [] 6 En96 fun ac98 En99 => ?_
 refine f_o ?_
 refine m_z 25 (u64s (List.replicate 4 0)) En99 Hv97 fun ac101 wo102 bk100 En103 Hv104 => ?_
 refine f_o ?_
 refine m_g 4 0 4 (u64s (nd (rootN f (nv (nd 0))))) (u64s (nd (rootN f (nv (nd 0))))) [.box bk1 (u64s a) 25, .box bk30 (u64s (nd (rootN f (nv a)))) 25, .box bk54 (u64s (nd (rootN f (nv a)))) 25, .box bk78 (u64s (nd 0)) 25, .box bk100 (u64s (nd (rootN f (nv (nd 0))))) 25] En103 Hv104 rfl (u64s_lenh (nds_len _ _)) (by rw [(u64s_lenh (List.length_replicate))]; decide) (u64s_one _) (store_whole (u64s_lenh (List.length_replicate))) rfl fun ac105 wo106 En107 Hv108 => ?_
 refine d_e [0,3,4,5,6,7,8,9,10,11,12] [] En107 fun ac109 En110 => ?_
 refine then_normal ?_
 refine wp_seq ?_
 refine d_s [0,3,4,5,6,7,8,9,10,11,12,42] [(1, g_b (show (f == (1 : Int)) = false from (beq_eq_false_iff_ne.2 (by omega)))), (4, g_b (show (f == (2 : Int)) = false from (beq_eq_false_iff_ne.2 (by omega))))] En110 fun ac111 En112 => ?_
 refine c_f En112 ?_
 refine wp_skip ?_
 refine then_normal ?_
 refine wp_seq ?_
 refine region_from ?_
 refine d_k [0,3,4,6,7,8,9,10,11,12,61] [] 2 En112 fun ac113 En114 => ?_
 refine f_o ?_
 refine m_a 1 0 4 (u64s (nd (rootN f (nv a)))) En114 Hv108 rfl (load_whole (u64s_lenh (nds_len _ _))) (u64s_lenh (nds_len _ _)) fun ac115 En116 => ?_
 refine f_o ?_
 refine m_a 2 0 4 (u64s (nd (rootN f (nv a)))) En116 Hv108 rfl (load_whole (u64s_lenh (nds_len _ _))) (u64s_lenh (nds_len _ _)) fun ac117 En118 => ?_
 refine f_o ?_
 refine q_v (x := eqOp .eql 25 (.tmp 62) (.tmp 63) (.agg (List.toArray (u64s (nd (rootN f (nv a)))))) (.agg (List.toArray (u64s (nd (rootN f (nv a))))))) (v := .bool true) En118 (Go.Dbr.run_is (fun w => Go.Dbr.u64s_eqop (a := (.tmp 62)) (b := (.tmp 63)) (e := 23) (m := 4) (by kernel_rfl) (by kernel_rfl) (by kernel_rfl) (by kernel_rfl) (by kernel_rfl) (nds_len _ _) (nds_len _ _) w) (by first | exact beq_self_eq_true _ | rfl) _) fun ac119 En120 => ?_
 refine d_e [0,3,4,6,8,10,11,12] [(9, g_b (show ((rootOk f (nv a)) == (rootOk f (nv a))) = true from (by first | exact beq_self_eq_true _ | rfl)))] En120 fun ac121 En122 => ?_
 refine then_normal ?_
 refine wp_ret ?_
 refine d_ret1 (t := 4) (v := .bool true) En122 (by kernel_rfl) (by kernel_rfl) ?_
 exact ⟨rfl, Hv108.pk []⟩

theorem roots_walk (f : Int) (a : List UInt64) (w : World) (b_f : (-9223372036854775808 ≤ f ∧ f ≤ 9223372036854775807)) (n_a : (List.length a = 4)) : Calls Try.prog 4 #[.int .i64 f, .agg (List.toArray (u64s a))] w fun e w' => e = .returned (.bool true) ∧ Ev w [] w' [] := by
  by_cases h12 : f = 1 ∨ f = 2
  · rcases h12 with rfl | rfl
    · exact roots1 a w n_a
    · exact roots2 a w n_a
  · by_cases hf : f = 1 ∨ f = 2 ∨ f = 3 ∨ f = 4
    · exact roots_ok f a w b_f n_a h12 hf
    · exact roots_no f a w b_f n_a h12 hf

end Go.Proofs.Ytamdjonejijndaa
