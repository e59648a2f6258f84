/- FieldLaws, walked. -/
import Derived.Test.YtamdjonejijndaaF18
namespace Go.Proofs.Ytamdjonejijndaa
open Go.Dbr
set_option maxRecDepth 100000
set_option maxHeartbeats 2000000
set_option linter.unusedVariables false
set_option linter.unusedSimpArgs false

theorem laws_walk (k : Int) (a : List UInt64) (b : List UInt64) (c : List UInt64) (w : World) (b_k : (-9223372036854775808 ≤ k ∧ k ≤ 9223372036854775807)) (n_a : (List.length a = 4)) (n_b : (List.length b = 4)) (n_c : (List.length c = 4))  : Calls Try.prog 7 #[.int .i64 k, .agg (List.toArray (u64s a)), .agg (List.toArray (u64s b)), .agg (List.toArray (u64s c))] w fun e w' => e = .returned (.bool true) ∧ Ev w [] w' [] := by
 refine d_0 [(0, .int .i64 k), (1, .agg (List.toArray (u64s a))), (2, .agg (List.toArray (u64s b))), (3, .agg (List.toArray (u64s c)))] 148 Go.Proofs.Try.func7 Go.Proofs.Try.ntmps7 (Heap.nil _) fun act0 En0 Hv0 => ?_
 refine wp_seq ?_
 refine region_from ?_
 refine f_o ?_
 refine m_m 25 (u64s a) En0 Hv0 fun ac2 wo3 bk1 En4 Hv5 => ?_
 refine f_o ?_
 refine m_m 25 (u64s b) En4 Hv5 fun ac7 wo8 bk6 En9 Hv10 => ?_
 refine f_o ?_
 refine m_m 25 (u64s c) En9 Hv10 fun ac12 wo13 bk11 En14 Hv15 => ?_
 refine d_e [0,5,6,7,8] [] En14 fun ac16 En17 => ?_
 refine then_normal ?_
 refine wp_seq ?_
 refine region_from ?_
 refine f_o ?_
 refine c_p En17 Hv15 (head_ok _) fun ac22 wo19 En23 Hv24 => ?_
 refine d_e [0,5,6,7,8,9] [] En23 fun ac25 En26 => ?_
 refine then_normal ?_
 refine wp_seq ?_
 refine region_from ?_
 refine d_k [5,6,7,8,9,21] [] 1 En26 fun ac27 En28 => ?_
 refine f_o ?_
 refine c_p En28 Hv24 (fields_go _ k b_k) fun ac33 wo30 En34 Hv35 => ?_
 refine d_e [5,6,7,8,9,10] [] En34 fun ac36 En37 => ?_
 refine then_normal ?_
 refine wp_seq ?_
 refine region_from ?_
 refine d_k [5,6,7,8,9,10,23] [] 1 En37 fun ac38 En39 => ?_
 refine f_o ?_
 refine m_a 0 0 4 (u64s a) En39 Hv35 rfl (load_whole (u64s_lenh n_a)) (u64s_lenh n_a) fun ac40 En41 => ?_
 refine f_o ?_
 refine m_a 1 0 4 (u64s b) En41 Hv35 rfl (load_whole (u64s_lenh n_b)) (u64s_lenh n_b) fun ac42 En43 => ?_
 refine f_o ?_
 refine c_p En43 Hv35 (add_go _ (fldF k) (fld_ok k) a b n_a n_b) fun ac48 wo45 En49 Hv50 => ?_
 refine f_o ?_
 refine m_z 25 (u64s (List.replicate 4 0)) En49 Hv50 fun ac52 wo53 bk51 En54 Hv55 => ?_
 refine f_o ?_
 refine m_g 3 0 4 (u64s (nd (addM (fldF k) (nv a) (nv b)))) (u64s (nd (addM (fldF k) (nv a) (nv b)))) [.box bk1 (u64s a) 25, .box bk6 (u64s b) 25, .box bk11 (u64s c) 25, .box bk51 (u64s (nd (addM (fldF k) (nv a) (nv b)))) 25] En54 Hv55 rfl (u64s_lenh (nds_len _ _)) (by rw [(u64s_lenh (List.length_replicate))]; decide) (u64s_one _) (store_whole (u64s_lenh (List.length_replicate))) rfl fun ac56 wo57 En58 Hv59 => ?_
 refine f_e ?_
 refine then_normal ?_
 refine wp_seq ?_
 refine r_c (fun ac wo => Env ac 148 [(5, pt bk1), (6, pt bk6), (7, pt bk11), (8, .bool false), (9, .bool true), (10, .int .i64 (fldF k)), (11, pt bk51), (12, .bool true)] ∧ Ev w [] wo [.box bk1 (u64s a) 25, .box bk6 (u64s b) 25, .box bk11 (u64s c) 25, .box bk51 (u64s (nd (addM (fldF k) (nv a) (nv b)))) 25]) ?_ ?_
 ·
  refine h_s (fun wv => Ev w [] wv [.box bk1 (u64s a) 25, .box bk6 (u64s b) 25, .box bk11 (u64s c) 25, .box bk51 (u64s (nd (addM (fldF k) (nv a) (nv b)))) 25]) [] 21 ?_
  have wo60 := Hv59.trans (Ev.drew Hv59.heap)
  refine q_r 0 (s := Instr.loadAt 25 (pt bk51)) (v := .agg (List.toArray (u64s (nd (addM (fldF k) (nv a) (nv b)))))) En58 (fun w hS => run_loadAgg2 (m := 4) (cs := u64s (nd (addM (fldF k) (nv a) (nv b)))) (u64s_lenh (nds_len _ _)) (by kernel_rfl) (by kernel_rfl) (hS.heap.cells (k := 3) (off := 0) (m := 4) rfl (load_whole (u64s_lenh (nds_len _ _))))) (wo60.pk [0, 1, 2, 3]) fun ac603 En604 => ?_
  refine q_s [1] [] 19 En604 (wo60.pk [0, 1, 2, 3]) fun ac605 En606 => ?_
  refine q_r 2 (s := Instr.loadAt 25 (pt bk6)) (v := .agg (List.toArray (u64s b))) En606 (fun w hS => run_loadAgg2 (m := 4) (cs := u64s b) (u64s_lenh n_b) (by kernel_rfl) (by kernel_rfl) (hS.heap.cells (k := 1) (off := 0) (m := 4) rfl (load_whole (u64s_lenh n_b)))) (wo60.pk [0, 1, 2, 3]) fun ac607 En608 => ?_
  refine q_r 3 (s := Instr.loadAt 25 (pt bk1)) (v := .agg (List.toArray (u64s a))) En608 (fun w hS => run_loadAgg2 (m := 4) (cs := u64s a) (u64s_lenh n_a) (by kernel_rfl) (by kernel_rfl) (hS.heap.cells (k := 0) (off := 0) (m := 4) rfl (load_whole (u64s_lenh n_a)))) (wo60.pk [0, 1, 2, 3]) fun ac609 En610 => ?_
  refine q_t 4 ?_
  refine c_p En610 wo60 (add_go _ (fldF k) (fld_ok k) b a n_b n_a) fun ac615 wo612 En616 Hv617 => ?_
  refine ⟨fun _ => Hv617.pk [0, 1, 2, 3], ?_⟩
  refine q_f 5 (s := eqOp .eql 25 (.tmp 27) (.tmp 31) (.agg (List.toArray (u64s (nd (addM (fldF k) (nv a) (nv b)))))) (.agg (List.toArray (u64s (nd (addM (fldF k) (nv b) (nv a))))))) (v := .bool true) En616 (fun _ => Go.Dbr.run_is (fun w => Go.Dbr.u64s_eqop (a := (.tmp 27)) (b := (.tmp 31)) (e := 23) (m := 4) (by kernel_rfl) (by kernel_rfl) (by kernel_rfl) (by kernel_rfl) (by kernel_rfl) (nds_len _ _) (nds_len _ _) w) (beq_l (by rw [addM_comm])) _) (fun _ => Hv617.pk [0, 1, 2, 3]) fun ac618 En619 => ?_
  refine q_s [6,7] [] 13 En619 (Hv617.pk [0, 1, 2, 3]) fun ac620 En621 => ?_
  refine q_r 8 (s := Instr.loadAt 25 (pt bk51)) (v := .agg (List.toArray (u64s (nd (addM (fldF k) (nv a) (nv b)))))) En621 (fun w hS => run_loadAgg2 (m := 4) (cs := u64s (nd (addM (fldF k) (nv a) (nv b)))) (u64s_lenh (nds_len _ _)) (by kernel_rfl) (by kernel_rfl) (hS.heap.cells (k := 3) (off := 0) (m := 4) rfl (load_whole (u64s_lenh (nds_len _ _))))) (Hv617.pk [0, 1, 2, 3]) fun ac622 En623 => ?_
  refine q_r 9 (s := Instr.loadAt 25 (pt bk11)) (v := .agg (List.toArray (u64s c))) En623 (fun w hS => run_loadAgg2 (m := 4) (cs := u64s c) (u64s_lenh n_c) (by kernel_rfl) (by kernel_rfl) (hS.heap.cells (k := 2) (off := 0) (m := 4) rfl (load_whole (u64s_lenh n_c)))) (Hv617.pk [0, 1, 2, 3]) fun ac624 En625 => ?_
  refine q_s [11] [] 10 En625 (Hv617.pk [0, 1, 2, 3]) fun ac626 En627 => ?_
  refine q_r 12 (s := Instr.loadAt 25 (pt bk1)) (v := .agg (List.toArray (u64s a))) En627 (fun w hS => run_loadAgg2 (m := 4) (cs := u64s a) (u64s_lenh n_a) (by kernel_rfl) (by kernel_rfl) (hS.heap.cells (k := 0) (off := 0) (m := 4) rfl (load_whole (u64s_lenh n_a)))) (Hv617.pk [0, 1, 2, 3]) fun ac628 En629 => ?_
  refine q_s [13] [] 8 En629 (Hv617.pk [0, 1, 2, 3]) fun ac630 En631 => ?_
  refine q_r 14 (s := Instr.loadAt 25 (pt bk6)) (v := .agg (List.toArray (u64s b))) En631 (fun w hS => run_loadAgg2 (m := 4) (cs := u64s b) (u64s_lenh n_b) (by kernel_rfl) (by kernel_rfl) (hS.heap.cells (k := 1) (off := 0) (m := 4) rfl (load_whole (u64s_lenh n_b)))) (Hv617.pk [0, 1, 2, 3]) fun ac632 En633 => ?_
  refine q_r 15 (s := Instr.loadAt 25 (pt bk11)) (v := .agg (List.toArray (u64s c))) En633 (fun w hS => run_loadAgg2 (m := 4) (cs := u64s c) (u64s_lenh n_c) (by kernel_rfl) (by kernel_rfl) (hS.heap.cells (k := 2) (off := 0) (m := 4) rfl (load_whole (u64s_lenh n_c)))) (Hv617.pk [0, 1, 2, 3]) fun ac634 En635 => ?_
  refine q_t 10 ?_
  refine c_p En635 Hv617 (add_go _ (fldF k) (fld_ok k) (nd (addM (fldF k) (nv a) (nv b))) c (nds_len _ _) n_c) fun ac640 wo637 En641 Hv642 => ?_
  refine ⟨fun _ => Hv642.pk [0, 1, 2, 3], ?_⟩
  refine q_t 16 ?_
  refine c_p En641 Hv642 (add_go _ (fldF k) (fld_ok k) b c n_b n_c) fun ac647 wo644 En648 Hv649 => ?_
  refine ⟨fun _ => Hv649.pk [0, 1, 2, 3], ?_⟩
  refine q_t 17 ?_
  refine c_p En648 Hv649 (add_go _ (fldF k) (fld_ok k) a (nd (addM (fldF k) (nv b) (nv c))) n_a (nds_len _ _)) fun ac654 wo651 En655 Hv656 => ?_
  refine ⟨fun _ => Hv656.pk [0, 1, 2, 3], ?_⟩
  refine q_f 18 (s := eqOp .eql 25 (.tmp 37) (.tmp 44) (.agg (List.toArray (u64s (nd (addM (fldF k) (nv (nd (addM (fldF k) (nv a) (nv b)))) (nv c)))))) (.agg (List.toArray (u64s (nd (addM (fldF k) (nv a) (nv (nd (addM (fldF k) (nv b) (nv c)))))))))) (v := .bool true) En655 (fun _ => Go.Dbr.run_is (fun w => Go.Dbr.u64s_eqop (a := (.tmp 37)) (b := (.tmp 44)) (e := 23) (m := 4) (by kernel_rfl) (by kernel_rfl) (by kernel_rfl) (by kernel_rfl) (by kernel_rfl) (nds_len _ _) (nds_len _ _) w) (beq_l (by rw [nv_add (fld_ok k), nv_add (fld_ok k), addM_assoc])) _) (fun _ => Hv656.pk [0, 1, 2, 3]) fun ac657 En658 => ?_
  refine q_s [19,20] [] 0 En658 (Hv656.pk [0, 1, 2, 3]) fun ac659 En660 => ?_
  exact h_e ⟨En660.sb, Hv656.pk [0, 1, 2, 3]⟩
 rintro ac661 wo662 ⟨En663, Hv664⟩
 refine then_normal ?_
 refine wp_seq ?_
 refine region_from ?_
 refine d_k [5,6,7,8,9,10,11,12,47] [] 1 En663 fun ac665 En666 => ?_
 refine f_o ?_
 refine m_a 0 0 4 (u64s a) En666 Hv664 rfl (load_whole (u64s_lenh n_a)) (u64s_lenh n_a) fun ac667 En668 => ?_
 refine f_o ?_
 refine m_a 1 0 4 (u64s b) En668 Hv664 rfl (load_whole (u64s_lenh n_b)) (u64s_lenh n_b) fun ac669 En670 => ?_
 refine f_o ?_
 refine c_p En670 Hv664 ((mulOk (fld_ok k)) _ a b n_a n_b) fun ac675 wo672 En676 Hv677 => ?_
 refine f_o ?_
 refine m_z 25 (u64s (List.replicate 4 0)) En676 Hv677 fun ac679 wo680 bk678 En681 Hv682 => ?_
 refine f_o ?_
 refine m_g 4 0 4 (u64s (nd (mulM (fldF k) (nv a) (nv b)))) (u64s (nd (mulM (fldF k) (nv a) (nv b)))) [.box bk1 (u64s a) 25, .box bk6 (u64s b) 25, .box bk11 (u64s c) 25, .box bk51 (u64s (nd (addM (fldF k) (nv a) (nv b)))) 25, .box bk678 (u64s (nd (mulM (fldF k) (nv a) (nv b)))) 25] En681 Hv682 rfl (u64s_lenh (nds_len _ _)) (by rw [(u64s_lenh (List.length_replicate))]; decide) (u64s_one _) (store_whole (u64s_lenh (List.length_replicate))) rfl fun ac683 wo684 En685 Hv686 => ?_
 refine f_e ?_
 refine then_normal ?_
 refine wp_seq ?_
 refine r_c (fun ac wo => Env ac 148 [(5, pt bk1), (6, pt bk6), (7, pt bk11), (8, .bool false), (9, .bool true), (10, .int .i64 (fldF k)), (11, pt bk51), (12, .bool true), (13, pt bk678), (14, .bool true)] ∧ Ev w [] wo [.box bk1 (u64s a) 25, .box bk6 (u64s b) 25, .box bk11 (u64s c) 25, .box bk51 (u64s (nd (addM (fldF k) (nv a) (nv b)))) 25, .box bk678 (u64s (nd (mulM (fldF k) (nv a) (nv b)))) 25]) ?_ ?_
 ·
  refine h_s (fun wv => Ev w [] wv [.box bk1 (u64s a) 25, .box bk6 (u64s b) 25, .box bk11 (u64s c) 25, .box bk678 (u64s (nd (mulM (fldF k) (nv a) (nv b)))) 25]) [] 21 ?_
  have wo687 := Hv686.trans (Ev.drew Hv686.heap)
  refine q_r 0 (s := Instr.loadAt 25 (pt bk678)) (v := .agg (List.toArray (u64s (nd (mulM (fldF k) (nv a) (nv b)))))) En685 (fun w hS => run_loadAgg2 (m := 4) (cs := u64s (nd (mulM (fldF k) (nv a) (nv b)))) (u64s_lenh (nds_len _ _)) (by kernel_rfl) (by kernel_rfl) (hS.heap.cells (k := 3) (off := 0) (m := 4) rfl (load_whole (u64s_lenh (nds_len _ _))))) (wo687.pk [0, 1, 2, 4]) fun ac1230 En1231 => ?_
  refine q_s [1] [] 19 En1231 (wo687.pk [0, 1, 2, 4]) fun ac1232 En1233 => ?_
  refine q_r 2 (s := Instr.loadAt 25 (pt bk6)) (v := .agg (List.toArray (u64s b))) En1233 (fun w hS => run_loadAgg2 (m := 4) (cs := u64s b) (u64s_lenh n_b) (by kernel_rfl) (by kernel_rfl) (hS.heap.cells (k := 1) (off := 0) (m := 4) rfl (load_whole (u64s_lenh n_b)))) (wo687.pk [0, 1, 2, 4]) fun ac1234 En1235 => ?_
  refine q_r 3 (s := Instr.loadAt 25 (pt bk1)) (v := .agg (List.toArray (u64s a))) En1235 (fun w hS => run_loadAgg2 (m := 4) (cs := u64s a) (u64s_lenh n_a) (by kernel_rfl) (by kernel_rfl) (hS.heap.cells (k := 0) (off := 0) (m := 4) rfl (load_whole (u64s_lenh n_a)))) (wo687.pk [0, 1, 2, 4]) fun ac1236 En1237 => ?_
  refine q_t 4 ?_
  refine c_p En1237 wo687 ((mulOk (fld_ok k)) _ b a n_b n_a) fun ac1242 wo1239 En1243 Hv1244 => ?_
  refine ⟨fun _ => Hv1244.pk [0, 1, 2, 4], ?_⟩
  refine q_f 5 (s := eqOp .eql 25 (.tmp 51) (.tmp 55) (.agg (List.toArray (u64s (nd (mulM (fldF k) (nv a) (nv b)))))) (.agg (List.toArray (u64s (nd (mulM (fldF k) (nv b) (nv a))))))) (v := .bool true) En1243 (fun _ => Go.Dbr.run_is (fun w => Go.Dbr.u64s_eqop (a := (.tmp 51)) (b := (.tmp 55)) (e := 23) (m := 4) (by kernel_rfl) (by kernel_rfl) (by kernel_rfl) (by kernel_rfl) (by kernel_rfl) (nds_len _ _) (nds_len _ _) w) (beq_l (by rw [mulM_comm])) _) (fun _ => Hv1244.pk [0, 1, 2, 4]) fun ac1245 En1246 => ?_
  refine q_s [6,7] [] 13 En1246 (Hv1244.pk [0, 1, 2, 4]) fun ac1247 En1248 => ?_
  refine q_r 8 (s := Instr.loadAt 25 (pt bk678)) (v := .agg (List.toArray (u64s (nd (mulM (fldF k) (nv a) (nv b)))))) En1248 (fun w hS => run_loadAgg2 (m := 4) (cs := u64s (nd (mulM (fldF k) (nv a) (nv b)))) (u64s_lenh (nds_len _ _)) (by kernel_rfl) (by kernel_rfl) (hS.heap.cells (k := 3) (off := 0) (m := 4) rfl (load_whole (u64s_lenh (nds_len _ _))))) (Hv1244.pk [0, 1, 2, 4]) fun ac1249 En1250 => ?_
  refine q_r 9 (s := Instr.loadAt 25 (pt bk11)) (v := .agg (List.toArray (u64s c))) En1250 (fun w hS => run_loadAgg2 (m := 4) (cs := u64s c) (u64s_lenh n_c) (by kernel_rfl) (by kernel_rfl) (hS.heap.cells (k := 2) (off := 0) (m := 4) rfl (load_whole (u64s_lenh n_c)))) (Hv1244.pk [0, 1, 2, 4]) fun ac1251 En1252 => ?_
  refine q_s [11] [] 10 En1252 (Hv1244.pk [0, 1, 2, 4]) fun ac1253 En1254 => ?_
  refine q_r 12 (s := Instr.loadAt 25 (pt bk1)) (v := .agg (List.toArray (u64s a))) En1254 (fun w hS => run_loadAgg2 (m := 4) (cs := u64s a) (u64s_lenh n_a) (by kernel_rfl) (by kernel_rfl) (hS.heap.cells (k := 0) (off := 0) (m := 4) rfl (load_whole (u64s_lenh n_a)))) (Hv1244.pk [0, 1, 2, 4]) fun ac1255 En1256 => ?_
  refine q_s [13] [] 8 En1256 (Hv1244.pk [0, 1, 2, 4]) fun ac1257 En1258 => ?_
  refine q_r 14 (s := Instr.loadAt 25 (pt bk6)) (v := .agg (List.toArray (u64s b))) En1258 (fun w hS => run_loadAgg2 (m := 4) (cs := u64s b) (u64s_lenh n_b) (by kernel_rfl) (by kernel_rfl) (hS.heap.cells (k := 1) (off := 0) (m := 4) rfl (load_whole (u64s_lenh n_b)))) (Hv1244.pk [0, 1, 2, 4]) fun ac1259 En1260 => ?_
  refine q_r 15 (s := Instr.loadAt 25 (pt bk11)) (v := .agg (List.toArray (u64s c))) En1260 (fun w hS => run_loadAgg2 (m := 4) (cs := u64s c) (u64s_lenh n_c) (by kernel_rfl) (by kernel_rfl) (hS.heap.cells (k := 2) (off := 0) (m := 4) rfl (load_whole (u64s_lenh n_c)))) (Hv1244.pk [0, 1, 2, 4]) fun ac1261 En1262 => ?_
  refine q_t 10 ?_
  refine c_p En1262 Hv1244 ((mulOk (fld_ok k)) _ (nd (mulM (fldF k) (nv a) (nv b))) c (nds_len _ _) n_c) fun ac1267 wo1264 En1268 Hv1269 => ?_
  refine ⟨fun _ => Hv1269.pk [0, 1, 2, 4], ?_⟩
  refine q_t 16 ?_
  refine c_p En1268 Hv1269 ((mulOk (fld_ok k)) _ b c n_b n_c) fun ac1274 wo1271 En1275 Hv1276 => ?_
  refine ⟨fun _ => Hv1276.pk [0, 1, 2, 4], ?_⟩
  refine q_t 17 ?_
  refine c_p En1275 Hv1276 ((mulOk (fld_ok k)) _ a (nd (mulM (fldF k) (nv b) (nv c))) n_a (nds_len _ _)) fun ac1281 wo1278 En1282 Hv1283 => ?_
  refine ⟨fun _ => Hv1283.pk [0, 1, 2, 4], ?_⟩
  refine q_f 18 (s := eqOp .eql 25 (.tmp 61) (.tmp 68) (.agg (List.toArray (u64s (nd (mulM (fldF k) (nv (nd (mulM (fldF k) (nv a) (nv b)))) (nv c)))))) (.agg (List.toArray (u64s (nd (mulM (fldF k) (nv a) (nv (nd (mulM (fldF k) (nv b) (nv c)))))))))) (v := .bool true) En1282 (fun _ => Go.Dbr.run_is (fun w => Go.Dbr.u64s_eqop (a := (.tmp 61)) (b := (.tmp 68)) (e := 23) (m := 4) (by kernel_rfl) (by kernel_rfl) (by kernel_rfl) (by kernel_rfl) (by kernel_rfl) (nds_len _ _) (nds_len _ _) w) (beq_l (by rw [nv_mul (fld_ok k), nv_mul (fld_ok k), mulM_assoc])) _) (fun _ => Hv1283.pk [0, 1, 2, 4]) fun ac1284 En1285 => ?_
  refine q_s [19,20] [] 0 En1285 (Hv1283.pk [0, 1, 2, 4]) fun ac1286 En1287 => ?_
  exact h_e ⟨En1287.sb, Hv1283.pk [0, 1, 2, 3, 4]⟩
 rintro ac1288 wo1289 ⟨En1290, Hv1291⟩
 refine then_normal ?_
 refine wp_seq ?_
 refine r_c (fun ac wo => Env ac 148 [(5, pt bk1), (6, pt bk6), (7, pt bk11), (8, .bool false), (9, .bool true), (10, .int .i64 (fldF k)), (11, pt bk51), (12, .bool true), (13, pt bk678), (14, .bool true), (15, .bool true)] ∧ Ev w [] wo [.box bk1 (u64s a) 25, .box bk6 (u64s b) 25, .box bk11 (u64s c) 25, .box bk51 (u64s (nd (addM (fldF k) (nv a) (nv b)))) 25, .box bk678 (u64s (nd (mulM (fldF k) (nv a) (nv b)))) 25]) ?_ ?_
 ·
  refine h_s (fun wv => Ev w [] wv [.box bk1 (u64s a) 25, .box bk6 (u64s b) 25, .box bk11 (u64s c) 25, .box bk51 (u64s (nd (addM (fldF k) (nv a) (nv b)))) 25]) [] 16 ?_
  have wo1292 := Hv1291.trans (Ev.drew Hv1291.heap)
  refine q_s [0] [] 15 En1290 (wo1292.pk [0, 1, 2, 3]) fun ac2134 En2135 => ?_
  refine q_r 1 (s := Instr.loadAt 25 (pt bk51)) (v := .agg (List.toArray (u64s (nd (addM (fldF k) (nv a) (nv b)))))) En2135 (fun w hS => run_loadAgg2 (m := 4) (cs := u64s (nd (addM (fldF k) (nv a) (nv b)))) (u64s_lenh (nds_len _ _)) (by kernel_rfl) (by kernel_rfl) (hS.heap.cells (k := 3) (off := 0) (m := 4) rfl (load_whole (u64s_lenh (nds_len _ _))))) (wo1292.pk [0, 1, 2, 3]) fun ac2136 En2137 => ?_
  refine q_r 2 (s := Instr.loadAt 25 (pt bk11)) (v := .agg (List.toArray (u64s c))) En2137 (fun w hS => run_loadAgg2 (m := 4) (cs := u64s c) (u64s_lenh n_c) (by kernel_rfl) (by kernel_rfl) (hS.heap.cells (k := 2) (off := 0) (m := 4) rfl (load_whole (u64s_lenh n_c)))) (wo1292.pk [0, 1, 2, 3]) fun ac2138 En2139 => ?_
  refine q_s [4,5] [] 11 En2139 (wo1292.pk [0, 1, 2, 3]) fun ac2140 En2141 => ?_
  refine q_r 6 (s := Instr.loadAt 25 (pt bk1)) (v := .agg (List.toArray (u64s a))) En2141 (fun w hS => run_loadAgg2 (m := 4) (cs := u64s a) (u64s_lenh n_a) (by kernel_rfl) (by kernel_rfl) (hS.heap.cells (k := 0) (off := 0) (m := 4) rfl (load_whole (u64s_lenh n_a)))) (wo1292.pk [0, 1, 2, 3]) fun ac2142 En2143 => ?_
  refine q_r 7 (s := Instr.loadAt 25 (pt bk11)) (v := .agg (List.toArray (u64s c))) En2143 (fun w hS => run_loadAgg2 (m := 4) (cs := u64s c) (u64s_lenh n_c) (by kernel_rfl) (by kernel_rfl) (hS.heap.cells (k := 2) (off := 0) (m := 4) rfl (load_whole (u64s_lenh n_c)))) (wo1292.pk [0, 1, 2, 3]) fun ac2144 En2145 => ?_
  refine q_s [9] [] 8 En2145 (wo1292.pk [0, 1, 2, 3]) fun ac2146 En2147 => ?_
  refine q_r 10 (s := Instr.loadAt 25 (pt bk6)) (v := .agg (List.toArray (u64s b))) En2147 (fun w hS => run_loadAgg2 (m := 4) (cs := u64s b) (u64s_lenh n_b) (by kernel_rfl) (by kernel_rfl) (hS.heap.cells (k := 1) (off := 0) (m := 4) rfl (load_whole (u64s_lenh n_b)))) (wo1292.pk [0, 1, 2, 3]) fun ac2148 En2149 => ?_
  refine q_r 11 (s := Instr.loadAt 25 (pt bk11)) (v := .agg (List.toArray (u64s c))) En2149 (fun w hS => run_loadAgg2 (m := 4) (cs := u64s c) (u64s_lenh n_c) (by kernel_rfl) (by kernel_rfl) (hS.heap.cells (k := 2) (off := 0) (m := 4) rfl (load_whole (u64s_lenh n_c)))) (wo1292.pk [0, 1, 2, 3]) fun ac2150 En2151 => ?_
  refine q_t 3 ?_
  refine c_p En2151 wo1292 ((mulOk (fld_ok k)) _ (nd (addM (fldF k) (nv a) (nv b))) c (nds_len _ _) n_c) fun ac2156 wo2153 En2157 Hv2158 => ?_
  refine ⟨fun _ => Hv2158.pk [0, 1, 2, 3], ?_⟩
  refine q_t 8 ?_
  refine c_p En2157 Hv2158 ((mulOk (fld_ok k)) _ a c n_a n_c) fun ac2163 wo2160 En2164 Hv2165 => ?_
  refine ⟨fun _ => Hv2165.pk [0, 1, 2, 3], ?_⟩
  refine q_t 12 ?_
  refine c_p En2164 Hv2165 ((mulOk (fld_ok k)) _ b c n_b n_c) fun ac2170 wo2167 En2171 Hv2172 => ?_
  refine ⟨fun _ => Hv2172.pk [0, 1, 2, 3], ?_⟩
  refine q_t 13 ?_
  refine c_p En2171 Hv2172 (add_go _ (fldF k) (fld_ok k) (nd (mulM (fldF k) (nv a) (nv c))) (nd (mulM (fldF k) (nv b) (nv c))) (nds_len _ _) (nds_len _ _)) fun ac2177 wo2174 En2178 Hv2179 => ?_
  refine ⟨fun _ => Hv2179.pk [0, 1, 2, 3], ?_⟩
  refine q_f 14 (s := eqOp .eql 25 (.tmp 74) (.tmp 84) (.agg (List.toArray (u64s (nd (mulM (fldF k) (nv (nd (addM (fldF k) (nv a) (nv b)))) (nv c)))))) (.agg (List.toArray (u64s (nd (addM (fldF k) (nv (nd (mulM (fldF k) (nv a) (nv c)))) (nv (nd (mulM (fldF k) (nv b) (nv c)))))))))) (v := .bool true) En2178 (fun _ => Go.Dbr.run_is (fun w => Go.Dbr.u64s_eqop (a := (.tmp 74)) (b := (.tmp 84)) (e := 23) (m := 4) (by kernel_rfl) (by kernel_rfl) (by kernel_rfl) (by kernel_rfl) (by kernel_rfl) (nds_len _ _) (nds_len _ _) w) (beq_l (by rw [nv_add (fld_ok k), nv_mul (fld_ok k), nv_mul (fld_ok k), mulM_dist])) _) (fun _ => Hv2179.pk [0, 1, 2, 3]) fun ac2180 En2181 => ?_
  refine q_s [15] [] 0 En2181 (Hv2179.pk [0, 1, 2, 3]) fun ac2182 En2183 => ?_
  exact h_e ⟨En2183.sb, Hv2179.pk [0, 1, 2, 3, 4]⟩
 rintro ac2184 wo2185 ⟨En2186, Hv2187⟩
 refine then_normal ?_
 refine wp_seq ?_
 refine r_c (fun ac wo => Env ac 148 [(5, pt bk1), (6, pt bk6), (7, pt bk11), (8, .bool false), (9, .bool true), (10, .int .i64 (fldF k)), (11, pt bk51), (12, .bool true), (13, pt bk678), (14, .bool true), (15, .bool true), (16, .bool true)] ∧ Ev w [] wo [.box bk1 (u64s a) 25, .box bk6 (u64s b) 25, .box bk11 (u64s c) 25, .box bk51 (u64s (nd (addM (fldF k) (nv a) (nv b)))) 25, .box bk678 (u64s (nd (mulM (fldF k) (nv a) (nv b)))) 25]) ?_ ?_
 ·
  refine h_s (fun wv => Ev w [] wv [.box bk1 (u64s a) 25, .box bk6 (u64s b) 25, .box bk51 (u64s (nd (addM (fldF k) (nv a) (nv b)))) 25]) [] 10 ?_
  have wo2188 := Hv2187.trans (Ev.drew Hv2187.heap)
  refine q_s [0] [] 9 En2186 (wo2188.pk [0, 1, 3]) fun ac2319 En2320 => ?_
  refine q_r 1 (s := Instr.loadAt 25 (pt bk51)) (v := .agg (List.toArray (u64s (nd (addM (fldF k) (nv a) (nv b)))))) En2320 (fun w hS => run_loadAgg2 (m := 4) (cs := u64s (nd (addM (fldF k) (nv a) (nv b)))) (u64s_lenh (nds_len _ _)) (by kernel_rfl) (by kernel_rfl) (hS.heap.cells (k := 2) (off := 0) (m := 4) rfl (load_whole (u64s_lenh (nds_len _ _))))) (wo2188.pk [0, 1, 3]) fun ac2321 En2322 => ?_
  refine q_r 2 (s := Instr.loadAt 25 (pt bk6)) (v := .agg (List.toArray (u64s b))) En2322 (fun w hS => run_loadAgg2 (m := 4) (cs := u64s b) (u64s_lenh n_b) (by kernel_rfl) (by kernel_rfl) (hS.heap.cells (k := 1) (off := 0) (m := 4) rfl (load_whole (u64s_lenh n_b)))) (wo2188.pk [0, 1, 3]) fun ac2323 En2324 => ?_
  refine q_s [4] [] 6 En2324 (wo2188.pk [0, 1, 3]) fun ac2325 En2326 => ?_
  refine q_r 5 (s := Instr.loadAt 25 (pt bk1)) (v := .agg (List.toArray (u64s a))) En2326 (fun w hS => run_loadAgg2 (m := 4) (cs := u64s a) (u64s_lenh n_a) (by kernel_rfl) (by kernel_rfl) (hS.heap.cells (k := 0) (off := 0) (m := 4) rfl (load_whole (u64s_lenh n_a)))) (wo2188.pk [0, 1, 3]) fun ac2327 En2328 => ?_
  refine q_s [6] [] 4 En2328 (wo2188.pk [0, 1, 3]) fun ac2329 En2330 => ?_
  refine q_t 3 ?_
  refine c_p En2330 wo2188 (sub_go _ (fldF k) (fld_ok k) (nd (addM (fldF k) (nv a) (nv b))) b (nds_len _ _) n_b) fun ac2335 wo2332 En2336 Hv2337 => ?_
  refine ⟨fun _ => Hv2337.pk [0, 1, 3], ?_⟩
  refine q_t 7 ?_
  refine c_p En2336 Hv2337 ((mulOk (fld_ok k)) _ a ([1, 0, 0, 0] : List UInt64) n_a (show List.length ([1, 0, 0, 0] : List UInt64) = 4 from rfl)) fun ac2342 wo2339 En2343 Hv2344 => ?_
  refine ⟨fun _ => Hv2344.pk [0, 1, 3], ?_⟩
  refine q_f 8 (s := eqOp .eql 25 (.tmp 89) (.tmp 93) (.agg (List.toArray (u64s (nd (subM (fldF k) (nv (nd (addM (fldF k) (nv a) (nv b)))) (nv b)))))) (.agg (List.toArray (u64s (nd (mulM (fldF k) (nv a) (nv ([1, 0, 0, 0] : List UInt64)))))))) (v := .bool true) En2343 (fun _ => Go.Dbr.run_is (fun w => Go.Dbr.u64s_eqop (a := (.tmp 89)) (b := (.tmp 93)) (e := 23) (m := 4) (by kernel_rfl) (by kernel_rfl) (by kernel_rfl) (by kernel_rfl) (by kernel_rfl) (nds_len _ _) (nds_len _ _) w) (beq_l (by rw [nv_add (fld_ok k), sub_add (fld_ok k)]; rfl)) _) (fun _ => Hv2344.pk [0, 1, 3]) fun ac2345 En2346 => ?_
  refine q_s [9] [] 0 En2346 (Hv2344.pk [0, 1, 3]) fun ac2347 En2348 => ?_
  exact h_e ⟨En2348.sb, Hv2344.pk [0, 1, 2, 3, 4]⟩
 rintro ac2349 wo2350 ⟨En2351, Hv2352⟩
 refine then_normal ?_
 refine wp_seq ?_
 refine region_from ?_
 refine d_k [5,6,7,8,9,10,11,12,13,14,15,16,95] [] 1 En2351 fun ac2353 En2354 => ?_
 refine f_o ?_
 refine m_a 0 0 4 (u64s a) En2354 Hv2352 rfl (load_whole (u64s_lenh n_a)) (u64s_lenh n_a) fun ac2355 En2356 => ?_
 refine d_k [5,6,7,8,9,10,11,12,13,14,15,16,95,96,97] [] 3 En2356 fun ac2357 En2358 => ?_
 refine f_o ?_
 refine c_p En2358 Hv2352 ((mulOk (fld_ok k)) _ a ([1, 0, 0, 0] : List UInt64) n_a (show List.length ([1, 0, 0, 0] : List UInt64) = 4 from rfl)) fun ac2363 wo2360 En2364 Hv2365 => ?_
 refine d_k [5,6,7,8,9,10,11,12,13,14,15,16,98,99] [] 5 En2364 fun ac2366 En2367 => ?_
 refine f_o ?_
 refine q_v (x := eqOp .eql 25 (.tmp 98) (.tmp 99) (.agg (List.toArray (u64s (nd (mulM (fldF k) (nv a) (nv ([1, 0, 0, 0] : List UInt64))))))) (.agg (List.toArray (u64s ([0, 0, 0, 0] : List UInt64))))) (v := .bool ((nd (mulM (fldF k) (nv a) (nv ([1, 0, 0, 0] : List UInt64)))) == ([0, 0, 0, 0] : List UInt64))) En2367 (Go.Dbr.u64s_eqop (a := (.tmp 98)) (b := (.tmp 99)) (e := 23) (m := 4) (by kernel_rfl) (by kernel_rfl) (by kernel_rfl) (by kernel_rfl) (by kernel_rfl) (nds_len _ _) (show List.length ([0, 0, 0, 0] : List UInt64) = 4 from rfl) _) fun ac2368 En2369 => ?_
 refine d_e [5,6,7,8,9,10,11,12,13,14,15,16,17] [] En2369 fun ac2370 En2371 => ?_
 refine then_normal ?_
 refine wp_seq ?_
 refine r_c (fun ac wo => ∃ (bk2542 : Nat), Env ac 148 [(5, pt bk1), (6, pt bk6), (7, pt bk11), (8, .bool false), (9, .bool true), (10, .int .i64 (fldF k)), (11, pt bk51), (12, .bool true), (13, pt bk678), (14, .bool true), (15, .bool true), (16, .bool true), (17, .bool ((nd (mulM (fldF k) (nv a) (nv ([1, 0, 0, 0] : List UInt64)))) == ([0, 0, 0, 0] : List UInt64))), (18, pt bk2542)] ∧ Ev w [] wo [.box bk1 (u64s a) 25, .box bk6 (u64s b) 25, .box bk11 (u64s c) 25, .box bk51 (u64s (nd (addM (fldF k) (nv a) (nv b)))) 25, .box bk678 (u64s (nd (mulM (fldF k) (nv a) (nv b)))) 25, .box bk2542 (u64s (nd (mulM (fldF k) (nv a) (nv (nd (powM (fldF k) (nv a) (mF (fldF k) - 2))))))) 25]) ?_ ?_
 ·
  refine h_s (fun wv => Ev w [] wv [.box bk1 (u64s a) 25]) [] 8 ?_
  have wo2372 := Hv2365.trans (Ev.drew Hv2365.heap)
  refine h_name fun G hG => ?_
  have nd2590 : ∀ (ac : Act) (wo : World), Env ac 148 [(5, pt bk1), (6, pt bk6), (7, pt bk11), (8, .bool false), (9, .bool true), (10, .int .i64 (fldF k)), (11, pt bk51), (12, .bool true), (13, pt bk678), (14, .bool true), (15, .bool true), (16, .bool true), (17, .bool ((nd (mulM (fldF k) (nv a) (nv ([1, 0, 0, 0] : List UInt64)))) == ([0, 0, 0, 0] : List UInt64))), (106, .agg (List.toArray (u64s (nd (mulM (fldF k) (nv a) (nv (nd (powM (fldF k) (nv a) (mF (fldF k) - 2)))))))))] → Ev w [] wo [.box bk1 (u64s a) 25, .box bk6 (u64s b) 25, .box bk11 (u64s c) 25, .box bk51 (u64s (nd (addM (fldF k) (nv a) (nv b)))) 25, .box bk678 (u64s (nd (mulM (fldF k) (nv a) (nv b)))) 25] → G 2 #[true, true, true, true, true, true, false, false] ac wo := by
   intro ac2591 wo2592 En2593 Hv2594
   refine h_from hG ?_
   refine q_t 6 ?_
   refine m_z 25 (u64s (List.replicate 4 0)) En2593 Hv2594 fun ac2596 wo2597 bk2595 En2598 Hv2599 => ?_
   refine ⟨fun _ => Hv2599.pk [0], ?_⟩
   refine q_t 7 ?_
   refine m_g 5 0 4 (u64s (nd (mulM (fldF k) (nv a) (nv (nd (powM (fldF k) (nv a) (mF (fldF k) - 2))))))) (u64s (nd (mulM (fldF k) (nv a) (nv (nd (powM (fldF k) (nv a) (mF (fldF k) - 2))))))) [.box bk1 (u64s a) 25, .box bk6 (u64s b) 25, .box bk11 (u64s c) 25, .box bk51 (u64s (nd (addM (fldF k) (nv a) (nv b)))) 25, .box bk678 (u64s (nd (mulM (fldF k) (nv a) (nv b)))) 25, .box bk2595 (u64s (nd (mulM (fldF k) (nv a) (nv (nd (powM (fldF k) (nv a) (mF (fldF k) - 2))))))) 25] En2598 Hv2599 rfl (u64s_lenh (nds_len _ _)) (by rw [(u64s_lenh (List.length_replicate))]; decide) (u64s_one _) (store_whole (u64s_lenh (List.length_replicate))) rfl fun ac2600 wo2601 En2602 Hv2603 => ?_
   refine ⟨fun _ => Hv2603.pk [0], ?_⟩
   exact h_e ⟨bk2595, En2602.sb, Hv2603.pk [0, 1, 2, 3, 4, 5]⟩
  have nd2604 : ∀ (ac : Act) (wo : World) (bk2551 : Nat), Env ac 148 [(5, pt bk1), (6, pt bk6), (7, pt bk11), (8, .bool false), (9, .bool true), (10, .int .i64 (fldF k)), (11, pt bk51), (12, .bool true), (13, pt bk678), (14, .bool true), (15, .bool true), (16, .bool true), (17, .bool ((nd (mulM (fldF k) (nv a) (nv ([1, 0, 0, 0] : List UInt64)))) == ([0, 0, 0, 0] : List UInt64))), (18, pt bk2551), (101, .int .i64 (fldF k)), (102, .agg (List.toArray (u64s a))), (105, .agg (List.toArray (u64s (nd (powM (fldF k) (nv a) (mF (fldF k) - 2))))))] → Ev w [] wo [.box bk1 (u64s a) 25, .box bk6 (u64s b) 25, .box bk11 (u64s c) 25, .box bk51 (u64s (nd (addM (fldF k) (nv a) (nv b)))) 25, .box bk678 (u64s (nd (mulM (fldF k) (nv a) (nv b)))) 25, .box bk2551 (u64s (List.replicate 4 0)) 25] → G 2 #[true, true, true, true, true, false, true, false] ac wo := by
   intro ac2605 wo2606 bk2551 En2607 Hv2608
   refine h_from hG ?_
   refine q_t 5 ?_
   refine c_p En2607 Hv2608 ((mulOk (fld_ok k)) _ a (nd (powM (fldF k) (nv a) (mF (fldF k) - 2))) n_a (nds_len _ _)) fun ac2613 wo2610 En2614 Hv2615 => ?_
   refine ⟨fun _ => Hv2615.pk [0], ?_⟩
   refine q_t 7 ?_
   refine m_g 5 0 4 (u64s (nd (mulM (fldF k) (nv a) (nv (nd (powM (fldF k) (nv a) (mF (fldF k) - 2))))))) (u64s (nd (mulM (fldF k) (nv a) (nv (nd (powM (fldF k) (nv a) (mF (fldF k) - 2))))))) [.box bk1 (u64s a) 25, .box bk6 (u64s b) 25, .box bk11 (u64s c) 25, .box bk51 (u64s (nd (addM (fldF k) (nv a) (nv b)))) 25, .box bk678 (u64s (nd (mulM (fldF k) (nv a) (nv b)))) 25, .box bk2551 (u64s (nd (mulM (fldF k) (nv a) (nv (nd (powM (fldF k) (nv a) (mF (fldF k) - 2))))))) 25] En2614 Hv2615 rfl (u64s_lenh (nds_len _ _)) (by rw [(u64s_lenh (List.length_replicate))]; decide) (u64s_one _) (store_whole (u64s_lenh (List.length_replicate))) rfl fun ac2616 wo2617 En2618 Hv2619 => ?_
   refine ⟨fun _ => Hv2619.pk [0], ?_⟩
   exact h_e ⟨bk2551, En2618.sb, Hv2619.pk [0, 1, 2, 3, 4, 5]⟩
  have nd2620 : ∀ (ac : Act) (wo : World), Env ac 148 [(5, pt bk1), (6, pt bk6), (7, pt bk11), (8, .bool false), (9, .bool true), (10, .int .i64 (fldF k)), (11, pt bk51), (12, .bool true), (13, pt bk678), (14, .bool true), (15, .bool true), (16, .bool true), (17, .bool ((nd (mulM (fldF k) (nv a) (nv ([1, 0, 0, 0] : List UInt64)))) == ([0, 0, 0, 0] : List UInt64))), (101, .int .i64 (fldF k)), (102, .agg (List.toArray (u64s a))), (105, .agg (List.toArray (u64s (nd (powM (fldF k) (nv a) (mF (fldF k) - 2))))))] → Ev w [] wo [.box bk1 (u64s a) 25, .box bk6 (u64s b) 25, .box bk11 (u64s c) 25, .box bk51 (u64s (nd (addM (fldF k) (nv a) (nv b)))) 25, .box bk678 (u64s (nd (mulM (fldF k) (nv a) (nv b)))) 25] → G 3 #[true, true, true, true, true, false, false, false] ac wo := by
   intro ac2621 wo2622 En2623 Hv2624
   refine h_from hG ?_
   refine h_ways [5, 6] (by kernel_rfl) rfl ?_
   refine ⟨?_, ?_, trivial⟩
   ·
    rintro _ rfl
    refine c_p En2623 Hv2624 ((mulOk (fld_ok k)) _ a (nd (powM (fldF k) (nv a) (mF (fldF k) - 2))) n_a (nds_len _ _)) fun ac2629 wo2626 En2630 Hv2631 => ?_
    refine ⟨fun _ => Hv2631.pk [0], ?_⟩
    exact h_to hG (by kernel_rfl) (nd2590 _ _ (En2630.sb) (Hv2631.pk [0, 1, 2, 3, 4]))
   ·
    rintro _ rfl
    refine m_z 25 (u64s (List.replicate 4 0)) En2623 Hv2624 fun ac2633 wo2634 bk2632 En2635 Hv2636 => ?_
    refine ⟨fun _ => Hv2636.pk [0], ?_⟩
    exact h_to hG (by kernel_rfl) (nd2604 _ _ bk2632 (En2635.sb) (Hv2636.pk [0, 1, 2, 3, 4, 5]))
  have nd2637 : ∀ (ac : Act) (wo : World) (bk2567 : Nat), Env ac 148 [(5, pt bk1), (6, pt bk6), (7, pt bk11), (8, .bool false), (9, .bool true), (10, .int .i64 (fldF k)), (11, pt bk51), (12, .bool true), (13, pt bk678), (14, .bool true), (15, .bool true), (16, .bool true), (17, .bool ((nd (mulM (fldF k) (nv a) (nv ([1, 0, 0, 0] : List UInt64)))) == ([0, 0, 0, 0] : List UInt64))), (18, pt bk2567), (101, .int .i64 (fldF k)), (102, .agg (List.toArray (u64s a))), (103, .int .i64 (fldF k)), (104, .agg (List.toArray (u64s a)))] → Ev w [] wo [.box bk1 (u64s a) 25, .box bk6 (u64s b) 25, .box bk11 (u64s c) 25, .box bk51 (u64s (nd (addM (fldF k) (nv a) (nv b)))) 25, .box bk678 (u64s (nd (mulM (fldF k) (nv a) (nv b)))) 25, .box bk2567 (u64s (List.replicate 4 0)) 25] → G 3 #[true, true, true, true, false, false, true, false] ac wo := by
   intro ac2638 wo2639 bk2567 En2640 Hv2641
   refine h_from hG ?_
   refine q_t 4 ?_
   refine c_p En2640 Hv2641 (inv_go _ (fldF k) (fld_ok k) (mulOk (fld_ok k)) a n_a) fun ac2646 wo2643 En2647 Hv2648 => ?_
   refine ⟨fun _ => Hv2648.pk [0], ?_⟩
   refine q_t 5 ?_
   refine c_p En2647 Hv2648 ((mulOk (fld_ok k)) _ a (nd (powM (fldF k) (nv a) (mF (fldF k) - 2))) n_a (nds_len _ _)) fun ac2653 wo2650 En2654 Hv2655 => ?_
   refine ⟨fun _ => Hv2655.pk [0], ?_⟩
   refine q_t 7 ?_
   refine m_g 5 0 4 (u64s (nd (mulM (fldF k) (nv a) (nv (nd (powM (fldF k) (nv a) (mF (fldF k) - 2))))))) (u64s (nd (mulM (fldF k) (nv a) (nv (nd (powM (fldF k) (nv a) (mF (fldF k) - 2))))))) [.box bk1 (u64s a) 25, .box bk6 (u64s b) 25, .box bk11 (u64s c) 25, .box bk51 (u64s (nd (addM (fldF k) (nv a) (nv b)))) 25, .box bk678 (u64s (nd (mulM (fldF k) (nv a) (nv b)))) 25, .box bk2567 (u64s (nd (mulM (fldF k) (nv a) (nv (nd (powM (fldF k) (nv a) (mF (fldF k) - 2))))))) 25] En2654 Hv2655 rfl (u64s_lenh (nds_len _ _)) (by rw [(u64s_lenh (List.length_replicate))]; decide) (u64s_one _) (store_whole (u64s_lenh (List.length_replicate))) rfl fun ac2656 wo2657 En2658 Hv2659 => ?_
   refine ⟨fun _ => Hv2659.pk [0], ?_⟩
   exact h_e ⟨bk2567, En2658.sb, Hv2659.pk [0, 1, 2, 3, 4, 5]⟩
  refine h_from hG ?_
  refine q_s [0] [] 7 En2371 (wo2372.pk [0]) fun ac2660 En2661 => ?_
  refine q_r 1 (s := Instr.loadAt 25 (pt bk1)) (v := .agg (List.toArray (u64s a))) En2661 (fun w hS => run_loadAgg2 (m := 4) (cs := u64s a) (u64s_lenh n_a) (by kernel_rfl) (by kernel_rfl) (hS.heap.cells (k := 0) (off := 0) (m := 4) rfl (load_whole (u64s_lenh n_a)))) (wo2372.pk [0]) fun ac2662 En2663 => ?_
  refine q_s [2] [] 5 En2663 (wo2372.pk [0]) fun ac2664 En2665 => ?_
  refine q_r 3 (s := Instr.loadAt 25 (pt bk1)) (v := .agg (List.toArray (u64s a))) En2665 (fun w hS => run_loadAgg2 (m := 4) (cs := u64s a) (u64s_lenh n_a) (by kernel_rfl) (by kernel_rfl) (hS.heap.cells (k := 0) (off := 0) (m := 4) rfl (load_whole (u64s_lenh n_a)))) (wo2372.pk [0]) fun ac2666 En2667 => ?_
  refine h_ways [4, 6] (by kernel_rfl) rfl ?_
  refine ⟨?_, ?_, trivial⟩
  ·
   rintro _ rfl
   refine c_p En2667 wo2372 (inv_go _ (fldF k) (fld_ok k) (mulOk (fld_ok k)) a n_a) fun ac2672 wo2669 En2673 Hv2674 => ?_
   refine ⟨fun _ => Hv2674.pk [0], ?_⟩
   exact h_to hG (by kernel_rfl) (nd2620 _ _ (En2673.sb) (Hv2674.pk [0, 1, 2, 3, 4]))
  ·
   rintro _ rfl
   refine m_z 25 (u64s (List.replicate 4 0)) En2667 wo2372 fun ac2676 wo2677 bk2675 En2678 Hv2679 => ?_
   refine ⟨fun _ => Hv2679.pk [0], ?_⟩
   exact h_to hG (by kernel_rfl) (nd2637 _ _ bk2675 (En2678.sb) (Hv2679.pk [0, 1, 2, 3, 4, 5]))
 rintro ac2680 wo2681 ⟨bk2542, En2682, Hv2683⟩
 refine then_normal ?_
 refine wp_seq ?_
 refine region_from ?_
 refine d_k [5,6,7,8,9,10,11,12,13,14,15,16,17,18,107] [] 1 En2682 fun ac2684 En2685 => ?_
 refine f_o ?_
 refine m_a 3 0 4 (u64s (nd (addM (fldF k) (nv a) (nv b)))) En2685 Hv2683 rfl (load_whole (u64s_lenh (nds_len _ _))) (u64s_lenh (nds_len _ _)) fun ac2686 En2687 => ?_
 refine f_o ?_
 refine c_p En2687 Hv2683 (rightq_yes _ (fldF k) (nd (addM (fldF k) (nv a) (nv b))) (nds_len _ _) (by first | (rw [nv_add (fld_ok k)]; exact Nat.mod_lt _ (mpos (fld_ok k))) | (rw [nv_mul (fld_ok k)]; exact Nat.mod_lt _ (mpos (fld_ok k))))) fun ac2692 wo2689 En2693 Hv2694 => ?_
 refine d_k [5,6,7,8,9,10,11,12,13,14,15,16,17,18,110,111] [] 5 En2693 fun ac2695 En2696 => ?_
 refine f_o ?_
 refine m_a 4 0 4 (u64s (nd (mulM (fldF k) (nv a) (nv b)))) En2696 Hv2694 rfl (load_whole (u64s_lenh (nds_len _ _))) (u64s_lenh (nds_len _ _)) fun ac2697 En2698 => ?_
 refine f_o ?_
 refine c_p En2698 Hv2694 (rightq_yes _ (fldF k) (nd (mulM (fldF k) (nv a) (nv b))) (nds_len _ _) (by first | (rw [nv_add (fld_ok k)]; exact Nat.mod_lt _ (mpos (fld_ok k))) | (rw [nv_mul (fld_ok k)]; exact Nat.mod_lt _ (mpos (fld_ok k))))) fun ac2703 wo2700 En2704 Hv2705 => ?_
 refine d_e [5,6,7,8,9,10,11,12,13,14,15,16,17,18,19] [] En2704 fun ac2706 En2707 => ?_
 refine then_normal ?_
 refine wp_seq ?_
 refine region_from ?_
 refine d_k [5,6,7,8,10,11,13,17,18,131,133] [] 19 En2707 fun ac2708 En2709 => ?_
 rcases Bool.eq_false_or_eq_true ((nd (mulM (fldF k) (nv a) (nv ([1, 0, 0, 0] : List UInt64)))) == ([0, 0, 0, 0] : List UInt64)) with hb2710 | hb2710
 ·
  have En2711 := En2709.fx (t := 17) (congrArg Value.bool hb2710)
  have En2712 := En2711.fx (t := 133) (congrArg Value.bool hb2710)
  have hp2713 : (nd (mulM (fldF k) (nv a) (nv ([1, 0, 0, 0] : List UInt64)))) = ([0, 0, 0, 0] : List UInt64) := eq_of_beq hb2710
  refine f_o ?_
  refine m_a 5 0 4 (u64s (nd (mulM (fldF k) (nv a) (nv (nd (powM (fldF k) (nv a) (mF (fldF k) - 2))))))) En2712 Hv2705 rfl (load_whole (u64s_lenh (nds_len _ _))) (u64s_lenh (nds_len _ _)) fun ac2714 En2715 => ?_
  refine d_k [5,6,7,8,10,11,13,17,18,131,133,134,135] [] 21 En2715 fun ac2716 En2717 => ?_
  refine f_o ?_
  refine q_v (x := eqOp .eql 25 (.tmp 134) (.tmp 135) (.agg (List.toArray (u64s (nd (mulM (fldF k) (nv a) (nv (nd (powM (fldF k) (nv a) (mF (fldF k) - 2))))))))) (.agg (List.toArray (u64s ([0, 0, 0, 0] : List UInt64))))) (v := .bool true) En2717 (Go.Dbr.run_is (fun w => Go.Dbr.u64s_eqop (a := (.tmp 134)) (b := (.tmp 135)) (e := 23) (m := 4) (by kernel_rfl) (by kernel_rfl) (by kernel_rfl) (by kernel_rfl) (by kernel_rfl) (nds_len _ _) (show List.length ([0, 0, 0, 0] : List UInt64) = 4 from rfl) w) (beq_l (one_0 (fld_ok k) (by assumption))) _) fun ac2718 En2719 => ?_
  refine d_e [5,6,7,8,10,11,13,18] [] En2719 fun ac2720 En2721 => ?_
  refine then_normal ?_
  refine wp_ret ?_
  refine d_ret1 (t := 8) (v := .bool true) En2721 (by kernel_rfl) (by kernel_rfl) ?_
  exact ⟨rfl, Hv2705.pk []⟩
 ·
  have En2722 := En2709.fx (t := 17) (congrArg Value.bool hb2710)
  have En2723 := En2722.fx (t := 133) (congrArg Value.bool hb2710)
  have hp2724 : ¬ ((nd (mulM (fldF k) (nv a) (nv ([1, 0, 0, 0] : List UInt64)))) = ([0, 0, 0, 0] : List UInt64)) := ne_of_beq_false hb2710
  refine d_k [5,6,7,8,10,11,13,18,131,138,141] [] 27 En2723 fun ac2725 En2726 => ?_
  refine f_o ?_
  refine m_a 5 0 4 (u64s (nd (mulM (fldF k) (nv a) (nv (nd (powM (fldF k) (nv a) (mF (fldF k) - 2))))))) En2726 Hv2705 rfl (load_whole (u64s_lenh (nds_len _ _))) (u64s_lenh (nds_len _ _)) fun ac2727 En2728 => ?_
  refine d_k [5,6,7,8,10,11,13,18,131,138,141,142,143] [] 29 En2728 fun ac2729 En2730 => ?_
  refine f_o ?_
  refine q_v (x := eqOp .eql 25 (.tmp 142) (.tmp 143) (.agg (List.toArray (u64s (nd (mulM (fldF k) (nv a) (nv (nd (powM (fldF k) (nv a) (mF (fldF k) - 2))))))))) (.agg (List.toArray (u64s ([1, 0, 0, 0] : List UInt64))))) (v := .bool true) En2730 (Go.Dbr.run_is (fun w => Go.Dbr.u64s_eqop (a := (.tmp 142)) (b := (.tmp 143)) (e := 23) (m := 4) (by kernel_rfl) (by kernel_rfl) (by kernel_rfl) (by kernel_rfl) (by kernel_rfl) (nds_len _ _) (show List.length ([1, 0, 0, 0] : List UInt64) = 4 from rfl) w) (beq_l (one_1 (fld_ok k) (by assumption))) _) fun ac2731 En2732 => ?_
  refine d_e [5,6,7,8,10,11,13,18] [] En2732 fun ac2733 En2734 => ?_
  refine then_normal ?_
  refine wp_ret ?_
  refine d_ret1 (t := 8) (v := .bool true) En2734 (by kernel_rfl) (by kernel_rfl) ?_
  exact ⟨rfl, Hv2705.pk []⟩

end Go.Proofs.Ytamdjonejijndaa
