/- FieldExps, walked. -/
import Derived.Test.YtamdjonejijndaaF18
namespace Go.Proofs.Ytamdjonejijndaa
open Go.Dbr
set_option maxRecDepth 100000
set_option maxHeartbeats 2000000
set_option linter.unusedVariables false
set_option linter.unusedSimpArgs false

theorem exps_walk (k : Int) (a : List UInt64) (x : UInt64) (y : UInt64) (w : World) (b_k : (-9223372036854775808 ≤ k ∧ k ≤ 9223372036854775807)) (n_a : (List.length a = 4))  : Calls Try.prog 5 #[.int .i64 k, .agg (List.toArray (u64s a)), uv64 x, uv64 y] w fun e w' => e = .returned (.bool true) ∧ Ev w [] w' [] := by
 refine d_0 [(0, .int .i64 k), (1, .agg (List.toArray (u64s a))), (2, uv64 x), (3, uv64 y)] 85 Go.Proofs.Try.func5 Go.Proofs.Try.ntmps5 (Heap.nil _) fun act0 En0 Hv0 => ?_
 refine wp_seq ?_
 refine region_from ?_
 refine f_o ?_
 refine m_m 25 (u64s a) En0 Hv0 fun ac2 wo3 bk1 En4 Hv5 => ?_
 refine d_e [0,2,3,5,8] [] En4 fun ac6 En7 => ?_
 refine then_normal ?_
 refine wp_seq ?_
 refine region_from ?_
 refine f_o ?_
 refine c_p En7 Hv5 (head_ok _) fun ac12 wo9 En13 Hv14 => ?_
 refine d_e [0,2,3,5,8,9] [] En13 fun ac15 En16 => ?_
 refine then_normal ?_
 refine wp_seq ?_
 refine region_from ?_
 refine d_k [2,3,5,8,9,19] [] 1 En16 fun ac17 En18 => ?_
 refine f_o ?_
 refine c_p En18 Hv14 (fields_go _ k b_k) fun ac23 wo20 En24 Hv25 => ?_
 refine d_e [2,3,5,8,9,10] [] En24 fun ac26 En27 => ?_
 refine then_normal ?_
 refine wp_seq ?_
 refine region_from ?_
 refine d_k [2,3,5,8,9,10,23] [(1, g_i .u64 (Go.Dbr.u64_shr (x := x) (n := 1) rfl (by decide)))] 3 En27 fun ac28 En29 => ?_
 refine f_o ?_
 refine m_z 25 (u64s (List.replicate 4 0)) En29 Hv25 fun ac31 wo32 bk30 En33 Hv34 => ?_
 refine f_o ?_
 refine m_g 1 0 4 (u64s ([x >>> UInt64.ofNat 1, 0, 0, 0] : List UInt64)) (u64s ([x >>> UInt64.ofNat 1, 0, 0, 0] : List UInt64)) [.box bk1 (u64s a) 25, .box bk30 (u64s ([x >>> UInt64.ofNat 1, 0, 0, 0] : List UInt64)) 25] En33 Hv34 rfl (u64s_lenh (show List.length ([x >>> UInt64.ofNat 1, 0, 0, 0] : List UInt64) = 4 from rfl)) (by rw [(u64s_lenh (List.length_replicate))]; decide) (u64s_one _) (store_whole (u64s_lenh (List.length_replicate))) rfl fun ac35 wo36 En37 Hv38 => ?_
 refine f_e ?_
 refine then_normal ?_
 refine wp_seq ?_
 refine region_from ?_
 refine d_k [2,3,5,8,9,10,11,26] [(1, g_i .u64 (Go.Dbr.u64_shr (x := y) (n := 1) rfl (by decide)))] 3 En37 fun ac39 En40 => ?_
 refine f_o ?_
 refine m_z 25 (u64s (List.replicate 4 0)) En40 Hv38 fun ac42 wo43 bk41 En44 Hv45 => ?_
 refine f_o ?_
 refine m_g 2 0 4 (u64s ([y >>> UInt64.ofNat 1, 0, 0, 0] : List UInt64)) (u64s ([y >>> UInt64.ofNat 1, 0, 0, 0] : List UInt64)) [.box bk1 (u64s a) 25, .box bk30 (u64s ([x >>> UInt64.ofNat 1, 0, 0, 0] : List UInt64)) 25, .box bk41 (u64s ([y >>> UInt64.ofNat 1, 0, 0, 0] : List UInt64)) 25] En44 Hv45 rfl (u64s_lenh (show List.length ([y >>> UInt64.ofNat 1, 0, 0, 0] : List UInt64) = 4 from rfl)) (by rw [(u64s_lenh (List.length_replicate))]; decide) (u64s_one _) (store_whole (u64s_lenh (List.length_replicate))) rfl fun ac46 wo47 En48 Hv49 => ?_
 refine f_e ?_
 refine then_normal ?_
 refine wp_seq ?_
 refine region_from ?_
 refine d_k [2,3,5,8,9,10,11,12,32] [(1, g_i .u64 (Go.Dbr.u64_shr (x := x) (n := 1) rfl (by decide))), (3, g_i .u64 (Go.Dbr.u64_shr (x := y) (n := 1) rfl (by decide))), (4, g_i .u64 (Go.Dbr.u64_add (x := x >>> UInt64.ofNat 1) (y := y >>> UInt64.ofNat 1) rfl rfl))] 6 En48 fun ac50 En51 => ?_
 refine f_o ?_
 refine m_z 25 (u64s (List.replicate 4 0)) En51 Hv49 fun ac53 wo54 bk52 En55 Hv56 => ?_
 refine f_o ?_
 refine m_g 3 0 4 (u64s ([(x >>> UInt64.ofNat 1) + (y >>> UInt64.ofNat 1), 0, 0, 0] : List UInt64)) (u64s ([(x >>> UInt64.ofNat 1) + (y >>> UInt64.ofNat 1), 0, 0, 0] : List UInt64)) [.box bk1 (u64s a) 25, .box bk30 (u64s ([x >>> UInt64.ofNat 1, 0, 0, 0] : List UInt64)) 25, .box bk41 (u64s ([y >>> UInt64.ofNat 1, 0, 0, 0] : List UInt64)) 25, .box bk52 (u64s ([(x >>> UInt64.ofNat 1) + (y >>> UInt64.ofNat 1), 0, 0, 0] : List UInt64)) 25] En55 Hv56 rfl (u64s_lenh (show List.length ([(x >>> UInt64.ofNat 1) + (y >>> UInt64.ofNat 1), 0, 0, 0] : List UInt64) = 4 from rfl)) (by rw [(u64s_lenh (List.length_replicate))]; decide) (u64s_one _) (store_whole (u64s_lenh (List.length_replicate))) rfl fun ac57 wo58 En59 Hv60 => ?_
 refine f_e ?_
 refine then_normal ?_
 refine wp_seq ?_
 refine r_c (fun ac wo => Env ac 85 [(2, uv64 x), (3, uv64 y), (5, pt bk1), (8, .bool false), (9, .bool true), (10, .int .i64 (fldF k)), (11, pt bk30), (12, pt bk41), (13, pt bk52), (14, .bool true)] ∧ Ev w [] wo [.box bk1 (u64s a) 25, .box bk30 (u64s ([x >>> UInt64.ofNat 1, 0, 0, 0] : List UInt64)) 25, .box bk41 (u64s ([y >>> UInt64.ofNat 1, 0, 0, 0] : List UInt64)) 25, .box bk52 (u64s ([(x >>> UInt64.ofNat 1) + (y >>> UInt64.ofNat 1), 0, 0, 0] : List UInt64)) 25]) ?_ ?_
 ·
  refine h_s (fun wv => Ev w [] wv [.box bk1 (u64s a) 25, .box bk30 (u64s ([x >>> UInt64.ofNat 1, 0, 0, 0] : List UInt64)) 25, .box bk41 (u64s ([y >>> UInt64.ofNat 1, 0, 0, 0] : List UInt64)) 25, .box bk52 (u64s ([(x >>> UInt64.ofNat 1) + (y >>> UInt64.ofNat 1), 0, 0, 0] : List UInt64)) 25]) [] 16 ?_
  have wo61 := Hv60.trans (Ev.drew Hv60.heap)
  refine q_s [0,1] [] 14 En59 (wo61.pk [0, 1, 2, 3]) fun ac936 En937 => ?_
  refine q_r 2 (s := Instr.loadAt 25 (pt bk1)) (v := .agg (List.toArray (u64s a))) En937 (fun w hS => run_loadAgg2 (m := 4) (cs := u64s a) (u64s_lenh n_a) (by kernel_rfl) (by kernel_rfl) (hS.heap.cells (k := 0) (off := 0) (m := 4) rfl (load_whole (u64s_lenh n_a)))) (wo61.pk [0, 1, 2, 3]) fun ac938 En939 => ?_
  refine q_r 3 (s := Instr.loadAt 25 (pt bk30)) (v := .agg (List.toArray (u64s ([x >>> UInt64.ofNat 1, 0, 0, 0] : List UInt64)))) En939 (fun w hS => run_loadAgg2 (m := 4) (cs := u64s ([x >>> UInt64.ofNat 1, 0, 0, 0] : List UInt64)) (u64s_lenh (show List.length ([x >>> UInt64.ofNat 1, 0, 0, 0] : List UInt64) = 4 from rfl)) (by kernel_rfl) (by kernel_rfl) (hS.heap.cells (k := 1) (off := 0) (m := 4) rfl (load_whole (u64s_lenh (show List.length ([x >>> UInt64.ofNat 1, 0, 0, 0] : List UInt64) = 4 from rfl))))) (wo61.pk [0, 1, 2, 3]) fun ac940 En941 => ?_
  refine q_s [5] [] 11 En941 (wo61.pk [0, 1, 2, 3]) fun ac942 En943 => ?_
  refine q_r 6 (s := Instr.loadAt 25 (pt bk1)) (v := .agg (List.toArray (u64s a))) En943 (fun w hS => run_loadAgg2 (m := 4) (cs := u64s a) (u64s_lenh n_a) (by kernel_rfl) (by kernel_rfl) (hS.heap.cells (k := 0) (off := 0) (m := 4) rfl (load_whole (u64s_lenh n_a)))) (wo61.pk [0, 1, 2, 3]) fun ac944 En945 => ?_
  refine q_r 7 (s := Instr.loadAt 25 (pt bk41)) (v := .agg (List.toArray (u64s ([y >>> UInt64.ofNat 1, 0, 0, 0] : List UInt64)))) En945 (fun w hS => run_loadAgg2 (m := 4) (cs := u64s ([y >>> UInt64.ofNat 1, 0, 0, 0] : List UInt64)) (u64s_lenh (show List.length ([y >>> UInt64.ofNat 1, 0, 0, 0] : List UInt64) = 4 from rfl)) (by kernel_rfl) (by kernel_rfl) (hS.heap.cells (k := 2) (off := 0) (m := 4) rfl (load_whole (u64s_lenh (show List.length ([y >>> UInt64.ofNat 1, 0, 0, 0] : List UInt64) = 4 from rfl))))) (wo61.pk [0, 1, 2, 3]) fun ac946 En947 => ?_
  refine q_s [10] [] 8 En947 (wo61.pk [0, 1, 2, 3]) fun ac948 En949 => ?_
  refine q_r 11 (s := Instr.loadAt 25 (pt bk1)) (v := .agg (List.toArray (u64s a))) En949 (fun w hS => run_loadAgg2 (m := 4) (cs := u64s a) (u64s_lenh n_a) (by kernel_rfl) (by kernel_rfl) (hS.heap.cells (k := 0) (off := 0) (m := 4) rfl (load_whole (u64s_lenh n_a)))) (wo61.pk [0, 1, 2, 3]) fun ac950 En951 => ?_
  refine q_r 12 (s := Instr.loadAt 25 (pt bk52)) (v := .agg (List.toArray (u64s ([(x >>> UInt64.ofNat 1) + (y >>> UInt64.ofNat 1), 0, 0, 0] : List UInt64)))) En951 (fun w hS => run_loadAgg2 (m := 4) (cs := u64s ([(x >>> UInt64.ofNat 1) + (y >>> UInt64.ofNat 1), 0, 0, 0] : List UInt64)) (u64s_lenh (show List.length ([(x >>> UInt64.ofNat 1) + (y >>> UInt64.ofNat 1), 0, 0, 0] : List UInt64) = 4 from rfl)) (by kernel_rfl) (by kernel_rfl) (hS.heap.cells (k := 3) (off := 0) (m := 4) rfl (load_whole (u64s_lenh (show List.length ([(x >>> UInt64.ofNat 1) + (y >>> UInt64.ofNat 1), 0, 0, 0] : List UInt64) = 4 from rfl))))) (wo61.pk [0, 1, 2, 3]) fun ac952 En953 => ?_
  refine q_t 4 ?_
  refine c_p En953 wo61 (exp_go _ (fldF k) (fld_ok k) (mulOk (fld_ok k)) a ([x >>> UInt64.ofNat 1, 0, 0, 0] : List UInt64) n_a (show List.length ([x >>> UInt64.ofNat 1, 0, 0, 0] : List UInt64) = 4 from rfl)) fun ac958 wo955 En959 Hv960 => ?_
  refine ⟨fun _ => Hv960.pk [0, 1, 2, 3], ?_⟩
  refine q_t 8 ?_
  refine c_p En959 Hv960 (exp_go _ (fldF k) (fld_ok k) (mulOk (fld_ok k)) a ([y >>> UInt64.ofNat 1, 0, 0, 0] : List UInt64) n_a (show List.length ([y >>> UInt64.ofNat 1, 0, 0, 0] : List UInt64) = 4 from rfl)) fun ac965 wo962 En966 Hv967 => ?_
  refine ⟨fun _ => Hv967.pk [0, 1, 2, 3], ?_⟩
  refine q_t 9 ?_
  refine c_p En966 Hv967 ((mulOk (fld_ok k)) _ (nd (powM (fldF k) (nv a) (nv ([x >>> UInt64.ofNat 1, 0, 0, 0] : List UInt64)))) (nd (powM (fldF k) (nv a) (nv ([y >>> UInt64.ofNat 1, 0, 0, 0] : List UInt64)))) (nds_len _ _) (nds_len _ _)) fun ac972 wo969 En973 Hv974 => ?_
  refine ⟨fun _ => Hv974.pk [0, 1, 2, 3], ?_⟩
  refine q_t 13 ?_
  refine c_p En973 Hv974 (exp_go _ (fldF k) (fld_ok k) (mulOk (fld_ok k)) a ([(x >>> UInt64.ofNat 1) + (y >>> UInt64.ofNat 1), 0, 0, 0] : List UInt64) n_a (show List.length ([(x >>> UInt64.ofNat 1) + (y >>> UInt64.ofNat 1), 0, 0, 0] : List UInt64) = 4 from rfl)) fun ac979 wo976 En980 Hv981 => ?_
  refine ⟨fun _ => Hv981.pk [0, 1, 2, 3], ?_⟩
  refine q_f 14 (s := eqOp .eql 25 (.tmp 42) (.tmp 46) (.agg (List.toArray (u64s (nd (mulM (fldF k) (nv (nd (powM (fldF k) (nv a) (nv ([x >>> UInt64.ofNat 1, 0, 0, 0] : List UInt64))))) (nv (nd (powM (fldF k) (nv a) (nv ([y >>> UInt64.ofNat 1, 0, 0, 0] : List UInt64)))))))))) (.agg (List.toArray (u64s (nd (powM (fldF k) (nv a) (nv ([(x >>> UInt64.ofNat 1) + (y >>> UInt64.ofNat 1), 0, 0, 0] : List UInt64)))))))) (v := .bool true) En980 (fun _ => Go.Dbr.run_is (fun w => Go.Dbr.u64s_eqop (a := (.tmp 42)) (b := (.tmp 46)) (e := 23) (m := 4) (by kernel_rfl) (by kernel_rfl) (by kernel_rfl) (by kernel_rfl) (by kernel_rfl) (nds_len _ _) (nds_len _ _) w) (beq_l (by rw [nv_pow (fld_ok k), nv_pow (fld_ok k), powM_add, half_sum])) _) (fun _ => Hv981.pk [0, 1, 2, 3]) fun ac982 En983 => ?_
  refine q_s [15] [] 0 En983 (Hv981.pk [0, 1, 2, 3]) fun ac984 En985 => ?_
  exact h_e ⟨En985.sb, Hv981.pk [0, 1, 2, 3]⟩
 rintro ac986 wo987 ⟨En988, Hv989⟩
 refine then_normal ?_
 refine wp_seq ?_
 refine region_from ?_
 refine d_k [2,3,5,8,9,10,11,12,13,14,48] [] 1 En988 fun ac990 En991 => ?_
 refine f_o ?_
 refine c_p En991 Hv989 (modulus_go _ (fldF k)) fun ac996 wo993 En997 Hv998 => ?_
 refine f_o ?_
 refine m_z 25 (u64s (List.replicate 4 0)) En997 Hv998 fun ac1000 wo1001 bk999 En1002 Hv1003 => ?_
 refine f_o ?_
 refine m_g 4 0 4 (u64s (nd (mF (fldF k)))) (u64s (nd (mF (fldF k)))) [.box bk1 (u64s a) 25, .box bk30 (u64s ([x >>> UInt64.ofNat 1, 0, 0, 0] : List UInt64)) 25, .box bk41 (u64s ([y >>> UInt64.ofNat 1, 0, 0, 0] : List UInt64)) 25, .box bk52 (u64s ([(x >>> UInt64.ofNat 1) + (y >>> UInt64.ofNat 1), 0, 0, 0] : List UInt64)) 25, .box bk999 (u64s (nd (mF (fldF k)))) 25] En1002 Hv1003 rfl (u64s_lenh (nds_len _ _)) (by rw [(u64s_lenh (List.length_replicate))]; decide) (u64s_one _) (store_whole (u64s_lenh (List.length_replicate))) rfl fun ac1004 wo1005 En1006 Hv1007 => ?_
 refine f_e ?_
 refine then_normal ?_
 refine wp_seq ?_
 refine region_from ?_
 refine d_k [2,3,5,8,9,10,11,12,13,14,15,50] [] 1 En1006 fun ac1008 En1009 => ?_
 refine f_o ?_
 have hb1010 : 0 < List.length (nd (mF (fldF k))) := by rw [(nds_len _ _)]; omega
 refine m_v 4 0 (uv64 (List.getD (nd (mF (fldF k))) 0 0)) En1009 Hv1007 rfl (u64s_getD hb1010) fun ac1011 En1012 => ?_
 refine d_k [2,3,5,8,9,10,11,12,13,14,15,52,53] [(2, g_i .u64 (Go.Dbr.u64_sub (x := List.getD (nd (mF (fldF k))) 0 0) (y := (1 : UInt64)) rfl rfl))] 4 En1012 fun ac1013 En1014 => ?_
 refine f_o ?_
 have hb1015 : 0 < List.length (nd (mF (fldF k))) := by rw [(nds_len _ _)]; omega
 refine m_t 4 0 (uv64 ((List.getD (nd (mF (fldF k))) 0 0) - (1 : UInt64))) [.box bk1 (u64s a) 25, .box bk30 (u64s ([x >>> UInt64.ofNat 1, 0, 0, 0] : List UInt64)) 25, .box bk41 (u64s ([y >>> UInt64.ofNat 1, 0, 0, 0] : List UInt64)) 25, .box bk52 (u64s ([(x >>> UInt64.ofNat 1) + (y >>> UInt64.ofNat 1), 0, 0, 0] : List UInt64)) 25, .box bk999 (u64s (List.set (nd (mF (fldF k))) 0 ((List.getD (nd (mF (fldF k))) 0 0) - (1 : UInt64)))) 25] En1014 Hv1007 rfl (u64s_getD hb1015) (u64s_set _ _ _) rfl fun ac1016 wo1017 En1018 Hv1019 => ?_
 refine f_e ?_
 refine then_normal ?_
 refine wp_seq ?_
 refine region_from ?_
 refine d_k [2,3,5,8,9,10,11,12,13,14,15,54] [] 1 En1018 fun ac1020 En1021 => ?_
 refine f_o ?_
 refine m_a 0 0 4 (u64s a) En1021 Hv1019 rfl (load_whole (u64s_lenh n_a)) (u64s_lenh n_a) fun ac1022 En1023 => ?_
 refine f_o ?_
 refine m_a 4 0 4 (u64s (List.set (nd (mF (fldF k))) 0 ((List.getD (nd (mF (fldF k))) 0 0) - (1 : UInt64)))) En1023 Hv1019 rfl (load_whole (u64s_lenh (List.length_set.trans (nds_len _ _)))) (u64s_lenh (List.length_set.trans (nds_len _ _))) fun ac1024 En1025 => ?_
 refine f_o ?_
 refine c_p En1025 Hv1019 (exp_go _ (fldF k) (fld_ok k) (mulOk (fld_ok k)) a (List.set (nd (mF (fldF k))) 0 ((List.getD (nd (mF (fldF k))) 0 0) - (1 : UInt64))) n_a (List.length_set.trans (nds_len _ _))) fun ac1030 wo1027 En1031 Hv1032 => ?_
 refine f_o ?_
 refine m_z 25 (u64s (List.replicate 4 0)) En1031 Hv1032 fun ac1034 wo1035 bk1033 En1036 Hv1037 => ?_
 refine f_o ?_
 refine m_g 5 0 4 (u64s (nd (powM (fldF k) (nv a) (nv (List.set (nd (mF (fldF k))) 0 ((List.getD (nd (mF (fldF k))) 0 0) - (1 : UInt64))))))) (u64s (nd (powM (fldF k) (nv a) (nv (List.set (nd (mF (fldF k))) 0 ((List.getD (nd (mF (fldF k))) 0 0) - (1 : UInt64))))))) [.box bk1 (u64s a) 25, .box bk30 (u64s ([x >>> UInt64.ofNat 1, 0, 0, 0] : List UInt64)) 25, .box bk41 (u64s ([y >>> UInt64.ofNat 1, 0, 0, 0] : List UInt64)) 25, .box bk52 (u64s ([(x >>> UInt64.ofNat 1) + (y >>> UInt64.ofNat 1), 0, 0, 0] : List UInt64)) 25, .box bk999 (u64s (List.set (nd (mF (fldF k))) 0 ((List.getD (nd (mF (fldF k))) 0 0) - (1 : UInt64)))) 25, .box bk1033 (u64s (nd (powM (fldF k) (nv a) (nv (List.set (nd (mF (fldF k))) 0 ((List.getD (nd (mF (fldF k))) 0 0) - (1 : UInt64))))))) 25] En1036 Hv1037 rfl (u64s_lenh (nds_len _ _)) (by rw [(u64s_lenh (List.length_replicate))]; decide) (u64s_one _) (store_whole (u64s_lenh (List.length_replicate))) rfl fun ac1038 wo1039 En1040 Hv1041 => ?_
 refine f_e ?_
 refine then_normal ?_
 refine wp_seq ?_
 refine region_from ?_
 refine d_k [2,3,5,8,9,10,11,12,13,14,15,16,58] [] 1 En1040 fun ac1042 En1043 => ?_
 refine f_o ?_
 refine m_a 0 0 4 (u64s a) En1043 Hv1041 rfl (load_whole (u64s_lenh n_a)) (u64s_lenh n_a) fun ac1044 En1045 => ?_
 refine d_k [2,3,5,8,9,10,11,12,13,14,15,16,58,59,60] [] 3 En1045 fun ac1046 En1047 => ?_
 refine f_o ?_
 refine c_p En1047 Hv1041 ((mulOk (fld_ok k)) _ a ([1, 0, 0, 0] : List UInt64) n_a (show List.length ([1, 0, 0, 0] : List UInt64) = 4 from rfl)) fun ac1052 wo1049 En1053 Hv1054 => ?_
 refine d_k [2,3,5,8,9,10,11,12,13,14,15,16,61,62] [] 5 En1053 fun ac1055 En1056 => ?_
 refine f_o ?_
 refine q_v (x := eqOp .eql 25 (.tmp 61) (.tmp 62) (.agg (List.toArray (u64s (nd (mulM (fldF k) (nv a) (nv ([1, 0, 0, 0] : List UInt64))))))) (.agg (List.toArray (u64s ([0, 0, 0, 0] : List UInt64))))) (v := .bool ((nd (mulM (fldF k) (nv a) (nv ([1, 0, 0, 0] : List UInt64)))) == ([0, 0, 0, 0] : List UInt64))) En1056 (Go.Dbr.u64s_eqop (a := (.tmp 61)) (b := (.tmp 62)) (e := 23) (m := 4) (by kernel_rfl) (by kernel_rfl) (by kernel_rfl) (by kernel_rfl) (by kernel_rfl) (nds_len _ _) (show List.length ([0, 0, 0, 0] : List UInt64) = 4 from rfl) _) fun ac1057 En1058 => ?_
 refine d_e [2,3,5,8,9,10,11,12,13,14,15,16,17] [] En1058 fun ac1059 En1060 => ?_
 refine then_normal ?_
 refine wp_seq ?_
 refine region_from ?_
 refine d_k [2,3,5,8,10,11,12,13,15,16,17,68,70] [] 7 En1060 fun ac1061 En1062 => ?_
 rcases Bool.eq_false_or_eq_true ((nd (mulM (fldF k) (nv a) (nv ([1, 0, 0, 0] : List UInt64)))) == ([0, 0, 0, 0] : List UInt64)) with hb1063 | hb1063
 ·
  have En1064 := En1062.fx (t := 17) (congrArg Value.bool hb1063)
  have En1065 := En1064.fx (t := 70) (congrArg Value.bool hb1063)
  have hp1066 : (nd (mulM (fldF k) (nv a) (nv ([1, 0, 0, 0] : List UInt64)))) = ([0, 0, 0, 0] : List UInt64) := eq_of_beq hb1063
  refine f_o ?_
  refine m_a 5 0 4 (u64s (nd (powM (fldF k) (nv a) (nv (List.set (nd (mF (fldF k))) 0 ((List.getD (nd (mF (fldF k))) 0 0) - (1 : UInt64))))))) En1065 Hv1054 rfl (load_whole (u64s_lenh (nds_len _ _))) (u64s_lenh (nds_len _ _)) fun ac1067 En1068 => ?_
  refine d_k [2,3,5,8,10,11,12,13,15,16,17,68,70,71,72] [] 9 En1068 fun ac1069 En1070 => ?_
  refine f_o ?_
  refine q_v (x := eqOp .eql 25 (.tmp 71) (.tmp 72) (.agg (List.toArray (u64s (nd (powM (fldF k) (nv a) (nv (List.set (nd (mF (fldF k))) 0 ((List.getD (nd (mF (fldF k))) 0 0) - (1 : UInt64))))))))) (.agg (List.toArray (u64s ([0, 0, 0, 0] : List UInt64))))) (v := .bool true) En1070 (Go.Dbr.run_is (fun w => Go.Dbr.u64s_eqop (a := (.tmp 71)) (b := (.tmp 72)) (e := 23) (m := 4) (by kernel_rfl) (by kernel_rfl) (by kernel_rfl) (by kernel_rfl) (by kernel_rfl) (nds_len _ _) (show List.length ([0, 0, 0, 0] : List UInt64) = 4 from rfl) w) (beq_l (last_0 (fld_ok k) (by assumption))) _) fun ac1071 En1072 => ?_
  refine d_e [2,3,5,8,10,11,12,13,15,16] [] En1072 fun ac1073 En1074 => ?_
  refine then_normal ?_
  refine wp_ret ?_
  refine d_ret1 (t := 8) (v := .bool true) En1074 (by kernel_rfl) (by kernel_rfl) ?_
  exact ⟨rfl, Hv1054.pk []⟩
 ·
  have En1075 := En1062.fx (t := 17) (congrArg Value.bool hb1063)
  have En1076 := En1075.fx (t := 70) (congrArg Value.bool hb1063)
  have hp1077 : ¬ ((nd (mulM (fldF k) (nv a) (nv ([1, 0, 0, 0] : List UInt64)))) = ([0, 0, 0, 0] : List UInt64)) := ne_of_beq_false hb1063
  refine d_k [2,3,5,8,10,11,12,13,15,16,68,75,78] [] 15 En1076 fun ac1078 En1079 => ?_
  refine f_o ?_
  refine m_a 5 0 4 (u64s (nd (powM (fldF k) (nv a) (nv (List.set (nd (mF (fldF k))) 0 ((List.getD (nd (mF (fldF k))) 0 0) - (1 : UInt64))))))) En1079 Hv1054 rfl (load_whole (u64s_lenh (nds_len _ _))) (u64s_lenh (nds_len _ _)) fun ac1080 En1081 => ?_
  refine d_k [2,3,5,8,10,11,12,13,15,16,68,75,78,79,80] [] 17 En1081 fun ac1082 En1083 => ?_
  refine f_o ?_
  refine q_v (x := eqOp .eql 25 (.tmp 79) (.tmp 80) (.agg (List.toArray (u64s (nd (powM (fldF k) (nv a) (nv (List.set (nd (mF (fldF k))) 0 ((List.getD (nd (mF (fldF k))) 0 0) - (1 : UInt64))))))))) (.agg (List.toArray (u64s ([1, 0, 0, 0] : List UInt64))))) (v := .bool true) En1083 (Go.Dbr.run_is (fun w => Go.Dbr.u64s_eqop (a := (.tmp 79)) (b := (.tmp 80)) (e := 23) (m := 4) (by kernel_rfl) (by kernel_rfl) (by kernel_rfl) (by kernel_rfl) (by kernel_rfl) (nds_len _ _) (show List.length ([1, 0, 0, 0] : List UInt64) = 4 from rfl) w) (beq_l (last_1 (fld_ok k) (by assumption))) _) fun ac1084 En1085 => ?_
  refine d_e [2,3,5,8,10,11,12,13,15,16] [] En1085 fun ac1086 En1087 => ?_
  refine then_normal ?_
  refine wp_ret ?_
  refine d_ret1 (t := 8) (v := .bool true) En1087 (by kernel_rfl) (by kernel_rfl) ?_
  exact ⟨rfl, Hv1054.pk []⟩

end Go.Proofs.Ytamdjonejijndaa
