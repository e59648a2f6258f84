/- FieldReckons, walked. -/
import Derived.Test.YtamdjonejijndaaF18
namespace Go.Proofs.Ytamdjonejijndaa
open Go.Dbr
set_option maxRecDepth 100000
set_option maxHeartbeats 2000000
set_option linter.unusedVariables false
set_option linter.unusedSimpArgs false

theorem reckons_ok (f : Int) (a : List UInt64) (b : List UInt64) (w : World) (b_f : (-9223372036854775808 ≤ f ∧ f ≤ 9223372036854775807)) (n_a : (List.length a = 4)) (n_b : (List.length b = 4)) (hf : (f = 1 ∨ f = 2 ∨ f = 3 ∨ f = 4)) : Calls Try.prog 6 #[.int .i64 f, .agg (List.toArray (u64s a)), .agg (List.toArray (u64s b))] w fun e w' => e = .returned (.bool true) ∧ Ev w [] w' [] := by
 refine d_0 [(0, .int .i64 f), (1, .agg (List.toArray (u64s a))), (2, .agg (List.toArray (u64s b)))] 79 Go.Proofs.Try.func6 Go.Proofs.Try.ntmps6 (Heap.nil _) fun act0 En0 Hv0 => ?_
 refine wp_seq ?_
 refine region_from ?_
 refine f_o ?_
 refine m_m 25 (u64s a) En0 Hv0 fun ac2 wo3 bk1 En4 Hv5 => ?_
 refine f_o ?_
 refine m_m 25 (u64s b) En4 Hv5 fun ac7 wo8 bk6 En9 Hv10 => ?_
 refine d_e [0,4,5,6] [] En9 fun ac11 En12 => ?_
 refine then_normal ?_
 refine wp_seq ?_
 refine region_from ?_
 refine f_o ?_
 refine c_p En12 Hv10 (head_ok _) fun ac17 wo14 En18 Hv19 => ?_
 refine d_e [0,4,5,6,7] [] En18 fun ac20 En21 => ?_
 refine then_normal ?_
 refine wp_seq ?_
 refine r_c (fun ac wo => Env ac 79 [(0, .int .i64 f), (4, pt bk1), (5, pt bk6), (6, .bool false), (7, .bool true), (8, .bool true)] ∧ Ev w [] wo [.box bk1 (u64s a) 25, .box bk6 (u64s b) 25]) ?_ ?_
 ·
  refine h_s (fun wv => Ev w [] wv [.box bk1 (u64s a) 25, .box bk6 (u64s b) 25]) [] 10 ?_
  have wo22 := Hv19.trans (Ev.drew Hv19.heap)
  refine q_s [0] [] 9 En21 (wo22.pk [0, 1]) fun ac224 En225 => ?_
  refine q_r 1 (s := Instr.loadAt 25 (pt bk1)) (v := .agg (List.toArray (u64s a))) En225 (fun w hS => run_loadAgg2 (m := 4) (cs := u64s a) (u64s_lenh n_a) (by kernel_rfl) (by kernel_rfl) (hS.heap.cells (k := 0) (off := 0) (m := 4) rfl (load_whole (u64s_lenh n_a)))) (wo22.pk [0, 1]) fun ac226 En227 => ?_
  refine q_r 2 (s := Instr.loadAt 25 (pt bk6)) (v := .agg (List.toArray (u64s b))) En227 (fun w hS => run_loadAgg2 (m := 4) (cs := u64s b) (u64s_lenh n_b) (by kernel_rfl) (by kernel_rfl) (hS.heap.cells (k := 1) (off := 0) (m := 4) rfl (load_whole (u64s_lenh n_b)))) (wo22.pk [0, 1]) fun ac228 En229 => ?_
  refine q_s [4] [] 6 En229 (wo22.pk [0, 1]) fun ac230 En231 => ?_
  refine q_r 5 (s := Instr.loadAt 25 (pt bk1)) (v := .agg (List.toArray (u64s a))) En231 (fun w hS => run_loadAgg2 (m := 4) (cs := u64s a) (u64s_lenh n_a) (by kernel_rfl) (by kernel_rfl) (hS.heap.cells (k := 0) (off := 0) (m := 4) rfl (load_whole (u64s_lenh n_a)))) (wo22.pk [0, 1]) fun ac232 En233 => ?_
  refine q_r 6 (s := Instr.loadAt 25 (pt bk6)) (v := .agg (List.toArray (u64s b))) En233 (fun w hS => run_loadAgg2 (m := 4) (cs := u64s b) (u64s_lenh n_b) (by kernel_rfl) (by kernel_rfl) (hS.heap.cells (k := 1) (off := 0) (m := 4) rfl (load_whole (u64s_lenh n_b)))) (wo22.pk [0, 1]) fun ac234 En235 => ?_
  refine q_t 3 ?_
  refine c_p En235 wo22 (add_go _ f hf a b n_a n_b) fun ac240 wo237 En241 Hv242 => ?_
  refine ⟨fun _ => Hv242.pk [0, 1], ?_⟩
  refine q_t 7 ?_
  refine c_p En241 Hv242 (radd_go _ f hf (leftOk hf) a b n_a n_b) fun ac247 wo244 En248 Hv249 => ?_
  refine ⟨fun _ => Hv249.pk [0, 1], ?_⟩
  refine q_f 8 (s := eqOp .eql 25 (.tmp 17) (.tmp 21) (.agg (List.toArray (u64s (nd (addM f (nv a) (nv b)))))) (.agg (List.toArray (u64s (nd (addM f (nv a) (nv b))))))) (v := .bool true) En248 (fun _ => Go.Dbr.run_is (fun w => Go.Dbr.u64s_eqop (a := (.tmp 17)) (b := (.tmp 21)) (e := 23) (m := 4) (by kernel_rfl) (by kernel_rfl) (by kernel_rfl) (by kernel_rfl) (by kernel_rfl) (nds_len _ _) (nds_len _ _) w) (by first | exact beq_self_eq_true _ | rfl) _) (fun _ => Hv249.pk [0, 1]) fun ac250 En251 => ?_
  refine q_s [9] [] 0 En251 (Hv249.pk [0, 1]) fun ac252 En253 => ?_
  exact h_e ⟨En253.sb, Hv249.pk [0, 1]⟩
 rintro ac254 wo255 ⟨En256, Hv257⟩
 refine then_normal ?_
 refine wp_seq ?_
 refine r_c (fun ac wo => Env ac 79 [(0, .int .i64 f), (4, pt bk1), (5, pt bk6), (6, .bool false), (7, .bool true), (8, .bool true), (9, .bool true)] ∧ Ev w [] wo [.box bk1 (u64s a) 25, .box bk6 (u64s b) 25]) ?_ ?_
 ·
  refine h_s (fun wv => Ev w [] wv [.box bk1 (u64s a) 25, .box bk6 (u64s b) 25]) [] 10 ?_
  have wo258 := Hv257.trans (Ev.drew Hv257.heap)
  refine q_s [0] [] 9 En256 (wo258.pk [0, 1]) fun ac460 En461 => ?_
  refine q_r 1 (s := Instr.loadAt 25 (pt bk1)) (v := .agg (List.toArray (u64s a))) En461 (fun w hS => run_loadAgg2 (m := 4) (cs := u64s a) (u64s_lenh n_a) (by kernel_rfl) (by kernel_rfl) (hS.heap.cells (k := 0) (off := 0) (m := 4) rfl (load_whole (u64s_lenh n_a)))) (wo258.pk [0, 1]) fun ac462 En463 => ?_
  refine q_r 2 (s := Instr.loadAt 25 (pt bk6)) (v := .agg (List.toArray (u64s b))) En463 (fun w hS => run_loadAgg2 (m := 4) (cs := u64s b) (u64s_lenh n_b) (by kernel_rfl) (by kernel_rfl) (hS.heap.cells (k := 1) (off := 0) (m := 4) rfl (load_whole (u64s_lenh n_b)))) (wo258.pk [0, 1]) fun ac464 En465 => ?_
  refine q_s [4] [] 6 En465 (wo258.pk [0, 1]) fun ac466 En467 => ?_
  refine q_r 5 (s := Instr.loadAt 25 (pt bk1)) (v := .agg (List.toArray (u64s a))) En467 (fun w hS => run_loadAgg2 (m := 4) (cs := u64s a) (u64s_lenh n_a) (by kernel_rfl) (by kernel_rfl) (hS.heap.cells (k := 0) (off := 0) (m := 4) rfl (load_whole (u64s_lenh n_a)))) (wo258.pk [0, 1]) fun ac468 En469 => ?_
  refine q_r 6 (s := Instr.loadAt 25 (pt bk6)) (v := .agg (List.toArray (u64s b))) En469 (fun w hS => run_loadAgg2 (m := 4) (cs := u64s b) (u64s_lenh n_b) (by kernel_rfl) (by kernel_rfl) (hS.heap.cells (k := 1) (off := 0) (m := 4) rfl (load_whole (u64s_lenh n_b)))) (wo258.pk [0, 1]) fun ac470 En471 => ?_
  refine q_t 3 ?_
  refine c_p En471 wo258 (sub_go _ f hf a b n_a n_b) fun ac476 wo473 En477 Hv478 => ?_
  refine ⟨fun _ => Hv478.pk [0, 1], ?_⟩
  refine q_t 7 ?_
  refine c_p En477 Hv478 (rsub_go _ f hf (leftOk hf) a b n_a n_b) fun ac483 wo480 En484 Hv485 => ?_
  refine ⟨fun _ => Hv485.pk [0, 1], ?_⟩
  refine q_f 8 (s := eqOp .eql 25 (.tmp 26) (.tmp 30) (.agg (List.toArray (u64s (nd (subM f (nv a) (nv b)))))) (.agg (List.toArray (u64s (nd (subM f (nv a) (nv b))))))) (v := .bool true) En484 (fun _ => Go.Dbr.run_is (fun w => Go.Dbr.u64s_eqop (a := (.tmp 26)) (b := (.tmp 30)) (e := 23) (m := 4) (by kernel_rfl) (by kernel_rfl) (by kernel_rfl) (by kernel_rfl) (by kernel_rfl) (nds_len _ _) (nds_len _ _) w) (by first | exact beq_self_eq_true _ | rfl) _) (fun _ => Hv485.pk [0, 1]) fun ac486 En487 => ?_
  refine q_s [9] [] 0 En487 (Hv485.pk [0, 1]) fun ac488 En489 => ?_
  exact h_e ⟨En489.sb, Hv485.pk [0, 1]⟩
 rintro ac490 wo491 ⟨En492, Hv493⟩
 refine then_normal ?_
 refine wp_seq ?_
 refine r_c (fun ac wo => Env ac 79 [(0, .int .i64 f), (4, pt bk1), (5, pt bk6), (6, .bool false), (7, .bool true), (8, .bool true), (9, .bool true), (10, .bool true)] ∧ Ev w [] wo [.box bk1 (u64s a) 25, .box bk6 (u64s b) 25]) ?_ ?_
 ·
  refine h_s (fun wv => Ev w [] wv [.box bk1 (u64s a) 25, .box bk6 (u64s b) 25]) [] 10 ?_
  have wo494 := Hv493.trans (Ev.drew Hv493.heap)
  refine q_s [0] [] 9 En492 (wo494.pk [0, 1]) fun ac696 En697 => ?_
  refine q_r 1 (s := Instr.loadAt 25 (pt bk1)) (v := .agg (List.toArray (u64s a))) En697 (fun w hS => run_loadAgg2 (m := 4) (cs := u64s a) (u64s_lenh n_a) (by kernel_rfl) (by kernel_rfl) (hS.heap.cells (k := 0) (off := 0) (m := 4) rfl (load_whole (u64s_lenh n_a)))) (wo494.pk [0, 1]) fun ac698 En699 => ?_
  refine q_r 2 (s := Instr.loadAt 25 (pt bk6)) (v := .agg (List.toArray (u64s b))) En699 (fun w hS => run_loadAgg2 (m := 4) (cs := u64s b) (u64s_lenh n_b) (by kernel_rfl) (by kernel_rfl) (hS.heap.cells (k := 1) (off := 0) (m := 4) rfl (load_whole (u64s_lenh n_b)))) (wo494.pk [0, 1]) fun ac700 En701 => ?_
  refine q_s [4] [] 6 En701 (wo494.pk [0, 1]) fun ac702 En703 => ?_
  refine q_r 5 (s := Instr.loadAt 25 (pt bk1)) (v := .agg (List.toArray (u64s a))) En703 (fun w hS => run_loadAgg2 (m := 4) (cs := u64s a) (u64s_lenh n_a) (by kernel_rfl) (by kernel_rfl) (hS.heap.cells (k := 0) (off := 0) (m := 4) rfl (load_whole (u64s_lenh n_a)))) (wo494.pk [0, 1]) fun ac704 En705 => ?_
  refine q_r 6 (s := Instr.loadAt 25 (pt bk6)) (v := .agg (List.toArray (u64s b))) En705 (fun w hS => run_loadAgg2 (m := 4) (cs := u64s b) (u64s_lenh n_b) (by kernel_rfl) (by kernel_rfl) (hS.heap.cells (k := 1) (off := 0) (m := 4) rfl (load_whole (u64s_lenh n_b)))) (wo494.pk [0, 1]) fun ac706 En707 => ?_
  refine q_t 3 ?_
  refine c_p En707 wo494 ((mulOk hf) _ a b n_a n_b) fun ac712 wo709 En713 Hv714 => ?_
  refine ⟨fun _ => Hv714.pk [0, 1], ?_⟩
  refine q_t 7 ?_
  refine c_p En713 Hv714 ((rmulOk hf (leftOk hf)) _ a b n_a n_b) fun ac719 wo716 En720 Hv721 => ?_
  refine ⟨fun _ => Hv721.pk [0, 1], ?_⟩
  refine q_f 8 (s := eqOp .eql 25 (.tmp 35) (.tmp 39) (.agg (List.toArray (u64s (nd (mulM f (nv a) (nv b)))))) (.agg (List.toArray (u64s (nd (mulM f (nv a) (nv b))))))) (v := .bool true) En720 (fun _ => Go.Dbr.run_is (fun w => Go.Dbr.u64s_eqop (a := (.tmp 35)) (b := (.tmp 39)) (e := 23) (m := 4) (by kernel_rfl) (by kernel_rfl) (by kernel_rfl) (by kernel_rfl) (by kernel_rfl) (nds_len _ _) (nds_len _ _) w) (by first | exact beq_self_eq_true _ | rfl) _) (fun _ => Hv721.pk [0, 1]) fun ac722 En723 => ?_
  refine q_s [9] [] 0 En723 (Hv721.pk [0, 1]) fun ac724 En725 => ?_
  exact h_e ⟨En725.sb, Hv721.pk [0, 1]⟩
 rintro ac726 wo727 ⟨En728, Hv729⟩
 refine then_normal ?_
 refine wp_seq ?_
 refine r_c (fun ac wo => Env ac 79 [(0, .int .i64 f), (4, pt bk1), (5, pt bk6), (6, .bool false), (7, .bool true), (8, .bool true), (9, .bool true), (10, .bool true), (11, .bool true)] ∧ Ev w [] wo [.box bk1 (u64s a) 25, .box bk6 (u64s b) 25]) ?_ ?_
 ·
  refine h_s (fun wv => Ev w [] wv [.box bk1 (u64s a) 25]) [] 8 ?_
  have wo730 := Hv729.trans (Ev.drew Hv729.heap)
  refine q_s [0] [] 7 En728 (wo730.pk [0]) fun ac823 En824 => ?_
  refine q_r 1 (s := Instr.loadAt 25 (pt bk1)) (v := .agg (List.toArray (u64s a))) En824 (fun w hS => run_loadAgg2 (m := 4) (cs := u64s a) (u64s_lenh n_a) (by kernel_rfl) (by kernel_rfl) (hS.heap.cells (k := 0) (off := 0) (m := 4) rfl (load_whole (u64s_lenh n_a)))) (wo730.pk [0]) fun ac825 En826 => ?_
  refine q_s [3] [] 5 En826 (wo730.pk [0]) fun ac827 En828 => ?_
  refine q_r 4 (s := Instr.loadAt 25 (pt bk1)) (v := .agg (List.toArray (u64s a))) En828 (fun w hS => run_loadAgg2 (m := 4) (cs := u64s a) (u64s_lenh n_a) (by kernel_rfl) (by kernel_rfl) (hS.heap.cells (k := 0) (off := 0) (m := 4) rfl (load_whole (u64s_lenh n_a)))) (wo730.pk [0]) fun ac829 En830 => ?_
  refine q_t 2 ?_
  refine c_p En830 wo730 (neg_go _ f hf a n_a) fun ac835 wo832 En836 Hv837 => ?_
  refine ⟨fun _ => Hv837.pk [0], ?_⟩
  refine q_t 5 ?_
  refine c_p En836 Hv837 (rneg_go _ f hf (leftOk hf) a n_a) fun ac842 wo839 En843 Hv844 => ?_
  refine ⟨fun _ => Hv844.pk [0], ?_⟩
  refine q_f 6 (s := eqOp .eql 25 (.tmp 43) (.tmp 46) (.agg (List.toArray (u64s (nd (subM f 0 (nv a)))))) (.agg (List.toArray (u64s (nd (subM f 0 (nv a))))))) (v := .bool true) En843 (fun _ => Go.Dbr.run_is (fun w => Go.Dbr.u64s_eqop (a := (.tmp 43)) (b := (.tmp 46)) (e := 23) (m := 4) (by kernel_rfl) (by kernel_rfl) (by kernel_rfl) (by kernel_rfl) (by kernel_rfl) (nds_len _ _) (nds_len _ _) w) (by first | exact beq_self_eq_true _ | rfl) _) (fun _ => Hv844.pk [0]) fun ac845 En846 => ?_
  refine q_s [7] [] 0 En846 (Hv844.pk [0]) fun ac847 En848 => ?_
  exact h_e ⟨En848.sb, Hv844.pk [0, 1]⟩
 rintro ac849 wo850 ⟨En851, Hv852⟩
 refine then_normal ?_
 refine wp_seq ?_
 refine r_c (fun ac wo => Env ac 79 [(0, .int .i64 f), (4, pt bk1), (5, pt bk6), (6, .bool false), (7, .bool true), (8, .bool true), (9, .bool true), (10, .bool true), (11, .bool true), (12, .bool true)] ∧ Ev w [] wo [.box bk1 (u64s a) 25, .box bk6 (u64s b) 25]) ?_ ?_
 ·
  refine h_s (fun wv => Ev w [] wv [.box bk1 (u64s a) 25]) [] 16 ?_
  have wo853 := Hv852.trans (Ev.drew Hv852.heap)
  refine q_s [0,2] [] 14 En851 (wo853.pk [0]) fun ac1020 En1021 => ?_
  refine q_t 1 ?_
  refine c_p En1021 wo853 (modulus_go _ f) fun ac1026 wo1023 En1027 Hv1028 => ?_
  refine ⟨fun _ => Hv1028.pk [0], ?_⟩
  refine q_t 3 ?_
  refine c_p En1027 Hv1028 (rmodulus_go _ f) fun ac1033 wo1030 En1034 Hv1035 => ?_
  refine ⟨fun _ => Hv1035.pk [0], ?_⟩
  refine q_f 4 (s := eqOp .eql 25 (.tmp 49) (.tmp 51) (.agg (List.toArray (u64s (nd (mF f))))) (.agg (List.toArray (u64s (nd (mF f)))))) (v := .bool true) En1034 (fun _ => Go.Dbr.run_is (fun w => Go.Dbr.u64s_eqop (a := (.tmp 49)) (b := (.tmp 51)) (e := 23) (m := 4) (by kernel_rfl) (by kernel_rfl) (by kernel_rfl) (by kernel_rfl) (by kernel_rfl) (nds_len _ _) (nds_len _ _) w) (by first | exact beq_self_eq_true _ | rfl) _) (fun _ => Hv1035.pk [0]) fun ac1036 En1037 => ?_
  refine q_s [5,6] [] 9 En1037 (Hv1035.pk [0]) fun ac1038 En1039 => ?_
  refine q_r 7 (s := Instr.loadAt 25 (pt bk1)) (v := .agg (List.toArray (u64s a))) En1039 (fun w hS => run_loadAgg2 (m := 4) (cs := u64s a) (u64s_lenh n_a) (by kernel_rfl) (by kernel_rfl) (hS.heap.cells (k := 0) (off := 0) (m := 4) rfl (load_whole (u64s_lenh n_a)))) (Hv1035.pk [0]) fun ac1040 En1041 => ?_
  refine q_r 9 (s := Instr.loadAt 25 (pt bk1)) (v := .agg (List.toArray (u64s a))) En1041 (fun w hS => run_loadAgg2 (m := 4) (cs := u64s a) (u64s_lenh n_a) (by kernel_rfl) (by kernel_rfl) (hS.heap.cells (k := 0) (off := 0) (m := 4) rfl (load_whole (u64s_lenh n_a)))) (Hv1035.pk [0]) fun ac1042 En1043 => ?_
  refine q_s [10] [] 6 En1043 (Hv1035.pk [0]) fun ac1044 En1045 => ?_
  refine q_t 8 ?_
  refine c_p En1045 Hv1035 (rightq_go _ f a n_a) fun ac1050 wo1047 En1051 Hv1052 => ?_
  refine ⟨fun _ => Hv1052.pk [0], ?_⟩
  refine q_t 11 ?_
  refine c_p En1051 Hv1052 (rmodulus_go _ f) fun ac1057 wo1054 En1058 Hv1059 => ?_
  refine ⟨fun _ => Hv1059.pk [0], ?_⟩
  refine q_t 12 ?_
  refine c_p En1058 Hv1059 (rless_go _ a (nd (mF f)) n_a (nds_len _ _)) fun ac1064 wo1061 En1065 Hv1066 => ?_
  refine ⟨fun _ => Hv1066.pk [0], ?_⟩
  refine q_s [13,14,15] [(13, g_b (show ((decide (nv a < mF f)) == (decide (nv a < nv (nd (mF f))))) = true from (by rw [nv_mF]; exact beq_self_eq_true _)))] 0 En1065 (Hv1066.pk [0]) fun ac1067 En1068 => ?_
  exact h_e ⟨En1068.sb, Hv1066.pk [0, 1]⟩
 rintro ac1069 wo1070 ⟨En1071, Hv1072⟩
 refine then_normal ?_
 refine d_s [0,4,5,6] [] En1071 fun ac1073 En1074 => ?_
 refine wp_ret ?_
 refine d_ret1 (t := 6) (v := .bool true) En1074 (by kernel_rfl) (by kernel_rfl) ?_
 exact ⟨rfl, Hv1072.pk []⟩

theorem reckons_no (f : Int) (a : List UInt64) (b : List UInt64) (w : World) (b_f : (-9223372036854775808 ≤ f ∧ f ≤ 9223372036854775807)) (n_a : (List.length a = 4)) (n_b : (List.length b = 4)) (hf : ¬ (f = 1 ∨ f = 2 ∨ f = 3 ∨ f = 4)) : Calls Try.prog 6 #[.int .i64 f, .agg (List.toArray (u64s a)), .agg (List.toArray (u64s b))] w fun e w' => e = .returned (.bool true) ∧ Ev w [] w' [] := by
 refine d_0 [(0, .int .i64 f), (1, .agg (List.toArray (u64s a))), (2, .agg (List.toArray (u64s b)))] 79 Go.Proofs.Try.func6 Go.Proofs.Try.ntmps6 (Heap.nil _) fun act0 En0 Hv0 => ?_
 refine wp_seq ?_
 refine region_from ?_
 refine f_o ?_
 refine m_m 25 (u64s a) En0 Hv0 fun ac2 wo3 bk1 En4 Hv5 => ?_
 refine f_o ?_
 refine m_m 25 (u64s b) En4 Hv5 fun ac7 wo8 bk6 En9 Hv10 => ?_
 refine d_e [0,4,5,6] [] En9 fun ac11 En12 => ?_
 refine then_normal ?_
 refine wp_seq ?_
 refine region_from ?_
 refine f_o ?_
 refine c_p En12 Hv10 (head_ok _) fun ac17 wo14 En18 Hv19 => ?_
 refine d_e [0,4,5,6,7] [] En18 fun ac20 En21 => ?_
 refine then_normal ?_
 refine wp_seq ?_
 refine r_c (fun ac wo => Env ac 79 [(0, .int .i64 f), (4, pt bk1), (5, pt bk6), (6, .bool false), (7, .bool true), (8, .bool true)] ∧ Ev w [] wo [.box bk1 (u64s a) 25, .box bk6 (u64s b) 25]) ?_ ?_
 ·
  refine h_s (fun wv => Ev w [] wv [.box bk1 (u64s a) 25, .box bk6 (u64s b) 25]) [] 10 ?_
  have wo22 := Hv19.trans (Ev.drew Hv19.heap)
  refine q_s [0] [] 9 En21 (wo22.pk [0, 1]) fun ac224 En225 => ?_
  refine q_r 1 (s := Instr.loadAt 25 (pt bk1)) (v := .agg (List.toArray (u64s a))) En225 (fun w hS => run_loadAgg2 (m := 4) (cs := u64s a) (u64s_lenh n_a) (by kernel_rfl) (by kernel_rfl) (hS.heap.cells (k := 0) (off := 0) (m := 4) rfl (load_whole (u64s_lenh n_a)))) (wo22.pk [0, 1]) fun ac226 En227 => ?_
  refine q_r 2 (s := Instr.loadAt 25 (pt bk6)) (v := .agg (List.toArray (u64s b))) En227 (fun w hS => run_loadAgg2 (m := 4) (cs := u64s b) (u64s_lenh n_b) (by kernel_rfl) (by kernel_rfl) (hS.heap.cells (k := 1) (off := 0) (m := 4) rfl (load_whole (u64s_lenh n_b)))) (wo22.pk [0, 1]) fun ac228 En229 => ?_
  refine q_s [4] [] 6 En229 (wo22.pk [0, 1]) fun ac230 En231 => ?_
  refine q_r 5 (s := Instr.loadAt 25 (pt bk1)) (v := .agg (List.toArray (u64s a))) En231 (fun w hS => run_loadAgg2 (m := 4) (cs := u64s a) (u64s_lenh n_a) (by kernel_rfl) (by kernel_rfl) (hS.heap.cells (k := 0) (off := 0) (m := 4) rfl (load_whole (u64s_lenh n_a)))) (wo22.pk [0, 1]) fun ac232 En233 => ?_
  refine q_r 6 (s := Instr.loadAt 25 (pt bk6)) (v := .agg (List.toArray (u64s b))) En233 (fun w hS => run_loadAgg2 (m := 4) (cs := u64s b) (u64s_lenh n_b) (by kernel_rfl) (by kernel_rfl) (hS.heap.cells (k := 1) (off := 0) (m := 4) rfl (load_whole (u64s_lenh n_b)))) (wo22.pk [0, 1]) fun ac234 En235 => ?_
  refine q_t 3 ?_
  refine c_p En235 wo22 (add_no _ f hf a b n_a n_b) fun ac240 wo237 En241 Hv242 => ?_
  refine ⟨fun _ => Hv242.pk [0, 1], ?_⟩
  refine q_t 7 ?_
  refine c_p En241 Hv242 (radd_no _ f hf a b n_a n_b) fun ac247 wo244 En248 Hv249 => ?_
  refine ⟨fun _ => Hv249.pk [0, 1], ?_⟩
  refine q_f 8 (s := eqOp .eql 25 (.tmp 17) (.tmp 21) (.agg (List.toArray (u64s (nd 0)))) (.agg (List.toArray (u64s (nd 0))))) (v := .bool true) En248 (fun _ => Go.Dbr.run_is (fun w => Go.Dbr.u64s_eqop (a := (.tmp 17)) (b := (.tmp 21)) (e := 23) (m := 4) (by kernel_rfl) (by kernel_rfl) (by kernel_rfl) (by kernel_rfl) (by kernel_rfl) (nds_len _ _) (nds_len _ _) w) (by first | exact beq_self_eq_true _ | rfl) _) (fun _ => Hv249.pk [0, 1]) fun ac250 En251 => ?_
  refine q_s [9] [] 0 En251 (Hv249.pk [0, 1]) fun ac252 En253 => ?_
  exact h_e ⟨En253.sb, Hv249.pk [0, 1]⟩
 rintro ac254 wo255 ⟨En256, Hv257⟩
 refine then_normal ?_
 refine wp_seq ?_
 refine r_c (fun ac wo => Env ac 79 [(0, .int .i64 f), (4, pt bk1), (5, pt bk6), (6, .bool false), (7, .bool true), (8, .bool true), (9, .bool true)] ∧ Ev w [] wo [.box bk1 (u64s a) 25, .box bk6 (u64s b) 25]) ?_ ?_
 ·
  refine h_s (fun wv => Ev w [] wv [.box bk1 (u64s a) 25, .box bk6 (u64s b) 25]) [] 10 ?_
  have wo258 := Hv257.trans (Ev.drew Hv257.heap)
  refine q_s [0] [] 9 En256 (wo258.pk [0, 1]) fun ac460 En461 => ?_
  refine q_r 1 (s := Instr.loadAt 25 (pt bk1)) (v := .agg (List.toArray (u64s a))) En461 (fun w hS => run_loadAgg2 (m := 4) (cs := u64s a) (u64s_lenh n_a) (by kernel_rfl) (by kernel_rfl) (hS.heap.cells (k := 0) (off := 0) (m := 4) rfl (load_whole (u64s_lenh n_a)))) (wo258.pk [0, 1]) fun ac462 En463 => ?_
  refine q_r 2 (s := Instr.loadAt 25 (pt bk6)) (v := .agg (List.toArray (u64s b))) En463 (fun w hS => run_loadAgg2 (m := 4) (cs := u64s b) (u64s_lenh n_b) (by kernel_rfl) (by kernel_rfl) (hS.heap.cells (k := 1) (off := 0) (m := 4) rfl (load_whole (u64s_lenh n_b)))) (wo258.pk [0, 1]) fun ac464 En465 => ?_
  refine q_s [4] [] 6 En465 (wo258.pk [0, 1]) fun ac466 En467 => ?_
  refine q_r 5 (s := Instr.loadAt 25 (pt bk1)) (v := .agg (List.toArray (u64s a))) En467 (fun w hS => run_loadAgg2 (m := 4) (cs := u64s a) (u64s_lenh n_a) (by kernel_rfl) (by kernel_rfl) (hS.heap.cells (k := 0) (off := 0) (m := 4) rfl (load_whole (u64s_lenh n_a)))) (wo258.pk [0, 1]) fun ac468 En469 => ?_
  refine q_r 6 (s := Instr.loadAt 25 (pt bk6)) (v := .agg (List.toArray (u64s b))) En469 (fun w hS => run_loadAgg2 (m := 4) (cs := u64s b) (u64s_lenh n_b) (by kernel_rfl) (by kernel_rfl) (hS.heap.cells (k := 1) (off := 0) (m := 4) rfl (load_whole (u64s_lenh n_b)))) (wo258.pk [0, 1]) fun ac470 En471 => ?_
  refine q_t 3 ?_
  refine c_p En471 wo258 (sub_no _ f hf a b n_a n_b) fun ac476 wo473 En477 Hv478 => ?_
  refine ⟨fun _ => Hv478.pk [0, 1], ?_⟩
  refine q_t 7 ?_
  refine c_p En477 Hv478 (rsub_no _ f hf a b n_a n_b) fun ac483 wo480 En484 Hv485 => ?_
  refine ⟨fun _ => Hv485.pk [0, 1], ?_⟩
  refine q_f 8 (s := eqOp .eql 25 (.tmp 26) (.tmp 30) (.agg (List.toArray (u64s (nd 0)))) (.agg (List.toArray (u64s (nd 0))))) (v := .bool true) En484 (fun _ => Go.Dbr.run_is (fun w => Go.Dbr.u64s_eqop (a := (.tmp 26)) (b := (.tmp 30)) (e := 23) (m := 4) (by kernel_rfl) (by kernel_rfl) (by kernel_rfl) (by kernel_rfl) (by kernel_rfl) (nds_len _ _) (nds_len _ _) w) (by first | exact beq_self_eq_true _ | rfl) _) (fun _ => Hv485.pk [0, 1]) fun ac486 En487 => ?_
  refine q_s [9] [] 0 En487 (Hv485.pk [0, 1]) fun ac488 En489 => ?_
  exact h_e ⟨En489.sb, Hv485.pk [0, 1]⟩
 rintro ac490 wo491 ⟨En492, Hv493⟩
 refine then_normal ?_
 refine wp_seq ?_
 refine r_c (fun ac wo => Env ac 79 [(0, .int .i64 f), (4, pt bk1), (5, pt bk6), (6, .bool false), (7, .bool true), (8, .bool true), (9, .bool true), (10, .bool true)] ∧ Ev w [] wo [.box bk1 (u64s a) 25, .box bk6 (u64s b) 25]) ?_ ?_
 ·
  refine h_s (fun wv => Ev w [] wv [.box bk1 (u64s a) 25, .box bk6 (u64s b) 25]) [] 10 ?_
  have wo494 := Hv493.trans (Ev.drew Hv493.heap)
  refine q_s [0] [] 9 En492 (wo494.pk [0, 1]) fun ac696 En697 => ?_
  refine q_r 1 (s := Instr.loadAt 25 (pt bk1)) (v := .agg (List.toArray (u64s a))) En697 (fun w hS => run_loadAgg2 (m := 4) (cs := u64s a) (u64s_lenh n_a) (by kernel_rfl) (by kernel_rfl) (hS.heap.cells (k := 0) (off := 0) (m := 4) rfl (load_whole (u64s_lenh n_a)))) (wo494.pk [0, 1]) fun ac698 En699 => ?_
  refine q_r 2 (s := Instr.loadAt 25 (pt bk6)) (v := .agg (List.toArray (u64s b))) En699 (fun w hS => run_loadAgg2 (m := 4) (cs := u64s b) (u64s_lenh n_b) (by kernel_rfl) (by kernel_rfl) (hS.heap.cells (k := 1) (off := 0) (m := 4) rfl (load_whole (u64s_lenh n_b)))) (wo494.pk [0, 1]) fun ac700 En701 => ?_
  refine q_s [4] [] 6 En701 (wo494.pk [0, 1]) fun ac702 En703 => ?_
  refine q_r 5 (s := Instr.loadAt 25 (pt bk1)) (v := .agg (List.toArray (u64s a))) En703 (fun w hS => run_loadAgg2 (m := 4) (cs := u64s a) (u64s_lenh n_a) (by kernel_rfl) (by kernel_rfl) (hS.heap.cells (k := 0) (off := 0) (m := 4) rfl (load_whole (u64s_lenh n_a)))) (wo494.pk [0, 1]) fun ac704 En705 => ?_
  refine q_r 6 (s := Instr.loadAt 25 (pt bk6)) (v := .agg (List.toArray (u64s b))) En705 (fun w hS => run_loadAgg2 (m := 4) (cs := u64s b) (u64s_lenh n_b) (by kernel_rfl) (by kernel_rfl) (hS.heap.cells (k := 1) (off := 0) (m := 4) rfl (load_whole (u64s_lenh n_b)))) (wo494.pk [0, 1]) fun ac706 En707 => ?_
  refine q_t 3 ?_
  refine c_p En707 wo494 (mul_no _ f hf a b n_a n_b) fun ac712 wo709 En713 Hv714 => ?_
  refine ⟨fun _ => Hv714.pk [0, 1], ?_⟩
  refine q_t 7 ?_
  refine c_p En713 Hv714 (rmul_no _ f hf a b n_a n_b) fun ac719 wo716 En720 Hv721 => ?_
  refine ⟨fun _ => Hv721.pk [0, 1], ?_⟩
  refine q_f 8 (s := eqOp .eql 25 (.tmp 35) (.tmp 39) (.agg (List.toArray (u64s (nd 0)))) (.agg (List.toArray (u64s (nd 0))))) (v := .bool true) En720 (fun _ => Go.Dbr.run_is (fun w => Go.Dbr.u64s_eqop (a := (.tmp 35)) (b := (.tmp 39)) (e := 23) (m := 4) (by kernel_rfl) (by kernel_rfl) (by kernel_rfl) (by kernel_rfl) (by kernel_rfl) (nds_len _ _) (nds_len _ _) w) (by first | exact beq_self_eq_true _ | rfl) _) (fun _ => Hv721.pk [0, 1]) fun ac722 En723 => ?_
  refine q_s [9] [] 0 En723 (Hv721.pk [0, 1]) fun ac724 En725 => ?_
  exact h_e ⟨En725.sb, Hv721.pk [0, 1]⟩
 rintro ac726 wo727 ⟨En728, Hv729⟩
 refine then_normal ?_
 refine wp_seq ?_
 refine r_c (fun ac wo => Env ac 79 [(0, .int .i64 f), (4, pt bk1), (5, pt bk6), (6, .bool false), (7, .bool true), (8, .bool true), (9, .bool true), (10, .bool true), (11, .bool true)] ∧ Ev w [] wo [.box bk1 (u64s a) 25, .box bk6 (u64s b) 25]) ?_ ?_
 ·
  refine h_s (fun wv => Ev w [] wv [.box bk1 (u64s a) 25]) [] 8 ?_
  have wo730 := Hv729.trans (Ev.drew Hv729.heap)
  refine q_s [0] [] 7 En728 (wo730.pk [0]) fun ac823 En824 => ?_
  refine q_r 1 (s := Instr.loadAt 25 (pt bk1)) (v := .agg (List.toArray (u64s a))) En824 (fun w hS => run_loadAgg2 (m := 4) (cs := u64s a) (u64s_lenh n_a) (by kernel_rfl) (by kernel_rfl) (hS.heap.cells (k := 0) (off := 0) (m := 4) rfl (load_whole (u64s_lenh n_a)))) (wo730.pk [0]) fun ac825 En826 => ?_
  refine q_s [3] [] 5 En826 (wo730.pk [0]) fun ac827 En828 => ?_
  refine q_r 4 (s := Instr.loadAt 25 (pt bk1)) (v := .agg (List.toArray (u64s a))) En828 (fun w hS => run_loadAgg2 (m := 4) (cs := u64s a) (u64s_lenh n_a) (by kernel_rfl) (by kernel_rfl) (hS.heap.cells (k := 0) (off := 0) (m := 4) rfl (load_whole (u64s_lenh n_a)))) (wo730.pk [0]) fun ac829 En830 => ?_
  refine q_t 2 ?_
  refine c_p En830 wo730 (neg_no _ f hf a n_a) fun ac835 wo832 En836 Hv837 => ?_
  refine ⟨fun _ => Hv837.pk [0], ?_⟩
  refine q_t 5 ?_
  refine c_p En836 Hv837 (rneg_no _ f hf a n_a) fun ac842 wo839 En843 Hv844 => ?_
  refine ⟨fun _ => Hv844.pk [0], ?_⟩
  refine q_f 6 (s := eqOp .eql 25 (.tmp 43) (.tmp 46) (.agg (List.toArray (u64s (nd 0)))) (.agg (List.toArray (u64s (nd 0))))) (v := .bool true) En843 (fun _ => Go.Dbr.run_is (fun w => Go.Dbr.u64s_eqop (a := (.tmp 43)) (b := (.tmp 46)) (e := 23) (m := 4) (by kernel_rfl) (by kernel_rfl) (by kernel_rfl) (by kernel_rfl) (by kernel_rfl) (nds_len _ _) (nds_len _ _) w) (by first | exact beq_self_eq_true _ | rfl) _) (fun _ => Hv844.pk [0]) fun ac845 En846 => ?_
  refine q_s [7] [] 0 En846 (Hv844.pk [0]) fun ac847 En848 => ?_
  exact h_e ⟨En848.sb, Hv844.pk [0, 1]⟩
 rintro ac849 wo850 ⟨En851, Hv852⟩
 refine then_normal ?_
 refine wp_seq ?_
 refine r_c (fun ac wo => Env ac 79 [(0, .int .i64 f), (4, pt bk1), (5, pt bk6), (6, .bool false), (7, .bool true), (8, .bool true), (9, .bool true), (10, .bool true), (11, .bool true), (12, .bool true)] ∧ Ev w [] wo [.box bk1 (u64s a) 25, .box bk6 (u64s b) 25]) ?_ ?_
 ·
  refine h_s (fun wv => Ev w [] wv [.box bk1 (u64s a) 25]) [] 16 ?_
  have wo853 := Hv852.trans (Ev.drew Hv852.heap)
  refine q_s [0,2] [] 14 En851 (wo853.pk [0]) fun ac1020 En1021 => ?_
  refine q_t 1 ?_
  refine c_p En1021 wo853 (modulus_go _ f) fun ac1026 wo1023 En1027 Hv1028 => ?_
  refine ⟨fun _ => Hv1028.pk [0], ?_⟩
  refine q_t 3 ?_
  refine c_p En1027 Hv1028 (rmodulus_go _ f) fun ac1033 wo1030 En1034 Hv1035 => ?_
  refine ⟨fun _ => Hv1035.pk [0], ?_⟩
  refine q_f 4 (s := eqOp .eql 25 (.tmp 49) (.tmp 51) (.agg (List.toArray (u64s (nd (mF f))))) (.agg (List.toArray (u64s (nd (mF f)))))) (v := .bool true) En1034 (fun _ => Go.Dbr.run_is (fun w => Go.Dbr.u64s_eqop (a := (.tmp 49)) (b := (.tmp 51)) (e := 23) (m := 4) (by kernel_rfl) (by kernel_rfl) (by kernel_rfl) (by kernel_rfl) (by kernel_rfl) (nds_len _ _) (nds_len _ _) w) (by first | exact beq_self_eq_true _ | rfl) _) (fun _ => Hv1035.pk [0]) fun ac1036 En1037 => ?_
  refine q_s [5,6] [] 9 En1037 (Hv1035.pk [0]) fun ac1038 En1039 => ?_
  refine q_r 7 (s := Instr.loadAt 25 (pt bk1)) (v := .agg (List.toArray (u64s a))) En1039 (fun w hS => run_loadAgg2 (m := 4) (cs := u64s a) (u64s_lenh n_a) (by kernel_rfl) (by kernel_rfl) (hS.heap.cells (k := 0) (off := 0) (m := 4) rfl (load_whole (u64s_lenh n_a)))) (Hv1035.pk [0]) fun ac1040 En1041 => ?_
  refine q_r 9 (s := Instr.loadAt 25 (pt bk1)) (v := .agg (List.toArray (u64s a))) En1041 (fun w hS => run_loadAgg2 (m := 4) (cs := u64s a) (u64s_lenh n_a) (by kernel_rfl) (by kernel_rfl) (hS.heap.cells (k := 0) (off := 0) (m := 4) rfl (load_whole (u64s_lenh n_a)))) (Hv1035.pk [0]) fun ac1042 En1043 => ?_
  refine q_s [10] [] 6 En1043 (Hv1035.pk [0]) fun ac1044 En1045 => ?_
  refine q_t 8 ?_
  refine c_p En1045 Hv1035 (rightq_go _ f a n_a) fun ac1050 wo1047 En1051 Hv1052 => ?_
  refine ⟨fun _ => Hv1052.pk [0], ?_⟩
  refine q_t 11 ?_
  refine c_p En1051 Hv1052 (rmodulus_go _ f) fun ac1057 wo1054 En1058 Hv1059 => ?_
  refine ⟨fun _ => Hv1059.pk [0], ?_⟩
  refine q_t 12 ?_
  refine c_p En1058 Hv1059 (rless_go _ a (nd (mF f)) n_a (nds_len _ _)) fun ac1064 wo1061 En1065 Hv1066 => ?_
  refine ⟨fun _ => Hv1066.pk [0], ?_⟩
  refine q_s [13,14,15] [(13, g_b (show ((decide (nv a < mF f)) == (decide (nv a < nv (nd (mF f))))) = true from (by rw [nv_mF]; exact beq_self_eq_true _)))] 0 En1065 (Hv1066.pk [0]) fun ac1067 En1068 => ?_
  exact h_e ⟨En1068.sb, Hv1066.pk [0, 1]⟩
 rintro ac1069 wo1070 ⟨En1071, Hv1072⟩
 refine then_normal ?_
 refine d_s [0,4,5,6] [] En1071 fun ac1073 En1074 => ?_
 refine wp_ret ?_
 refine d_ret1 (t := 6) (v := .bool true) En1074 (by kernel_rfl) (by kernel_rfl) ?_
 exact ⟨rfl, Hv1072.pk []⟩

theorem reckons_walk (f : Int) (a : List UInt64) (b : List UInt64) (w : World) (b_f : (-9223372036854775808 ≤ f ∧ f ≤ 9223372036854775807)) (n_a : (List.length a = 4)) (n_b : (List.length b = 4)) : Calls Try.prog 6 #[.int .i64 f, .agg (List.toArray (u64s a)), .agg (List.toArray (u64s b))] w fun e w' => e = .returned (.bool true) ∧ Ev w [] w' [] := by
  by_cases hf : f = 1 ∨ f = 2 ∨ f = 3 ∨ f = 4
  · exact reckons_ok f a b w b_f n_a n_b hf
  · exact reckons_no f a b w b_f n_a n_b hf

end Go.Proofs.Ytamdjonejijndaa
